/- Texts of this claim, set one behind the other by a program: part 3. -/
import Derived.Test.YtcjhligknhpadaaDoorXWalAgain2
import Derived.Test.YtcjhligknhpadaaDoorXWalAgain1
import Derived.Test.YtcjhligknhpadaaDoorRows
import Derived.Test.YtcjhligknhpadaaDoorCards
import Derived.Test.YtcjhligknhpadaaDoorTie
import Derived.ProofKit
import Derived.OpenShut
import Derived.ShutString
import Derived.ChangeOld
import Derived.Below
import Derived.SizedLaws
import Derived.Deep.DeepHandedRow
import Derived.Lib.SmallJoins
import Derived.Lib.LaidTab
import Derived.LaidMore
namespace Go.Proofs.YtcjhligknhpadaaDoor
open Go.RowKit Go.Proofs.YtcjhligknhpadaaDoor.Wp Go.Proofs.YtcjhligknhpadaaDoorW.PrintWords Go.Proofs.YtcjhligknhpadaaDoorW.PrintLast
set_option linter.unusedVariables false
set_option linter.unusedSimpArgs false
namespace Dk

theorem getF_cons4 {l : List Int} (h : 4 ≤ l.length) : l.take 4 = [l.getD 0 0, l.getD 1 0, l.getD 2 0, l.getD 3 0] := by
  rcases l with _ | ⟨a, _ | ⟨b, _ | ⟨c, _ | ⟨d, l⟩⟩⟩⟩ <;> simp at h ⊢ <;> omega
theorem getF_rng {l : List Int} (h : IsBy l) : 0 ≤ getF l ∧ getF l < 256 ^ l.length := by
  induction l with
  | nil => exact ⟨by decide, by decide⟩
  | cons b l ih =>
    have h0 := h b (List.mem_cons_self ..)
    have h1 := ih fun c hc => h c (List.mem_cons_of_mem _ hc)
    simp only [getF, List.length_cons, Int.pow_succ]
    omega
/-- what the closure tells -/
def NextAt (l : Lg) (I : Nat) (e : Ending) : Prop :=
  (∃ r c, frameAt crcF (l.img.drop l.fin) = some r ∧ e = .returned (.tuple #[.slice (some ⟨I, l.fin + 8, none⟩) r.length c, .bool true])) ∨ (frameAt crcF (l.img.drop l.fin) = none ∧ ∃ v, e = .returned (.tuple #[v, .bool false]))
theorem frameAt_short (l : List Int) (h : l.length < 8) : frameAt crcF l = none := by unfold frameAt; rw [if_pos h]
theorem frameAt_bad (l : List Int) (n : Nat) (h : 8 ≤ l.length) (hn : getF (l.take 4) = n) (h1 : n < 1 ∨ 8192 < n ∨ l.length - 8 < pad n) : frameAt crcF l = none := by
  unfold frameAt
  rw [if_neg (by omega), hn]
  rw [if_pos (by rcases h1 with h1 | h1 | h1 <;> first | exact .inl (by omega) | exact .inr (.inl (by omega)) | exact .inr (.inr h1))]
theorem frameAt_fits (l : List Int) (n : Nat) (h : 8 ≤ l.length) (hn : getF (l.take 4) = n) (h1 : ¬ n < 1) (h2 : ¬ 8192 < n) (h3 : ¬ l.length - 8 < pad n) : frameAt crcF l = if crcF ((l.drop 8).take n) = getF ((l.drop 4).take 4) ∧ isZ (((l.drop 8).drop n).take (pad n - n)) = true then some ((l.drop 8).take n) else none := by
  unfold frameAt
  rw [if_neg (by omega), hn]
  rw [if_neg (by intro q; rcases q with q | q | q <;> first | omega | exact h3 q)]
  rfl
set_option maxHeartbeats 2000000 in
set_option maxRecDepth 100000 in
theorem next_any [av : Av] (base : Nat) (w : World) (P D I Bx : Nat) (rv : Value) (l : Lg) (hl : LgAt base w P D I rv l) (hbx : w.cell? ⟨Bx, 0, none⟩ = some (.pointer (some ⟨P, 0, none⟩))) (ht : Tab w) (hff : l.fin ≤ l.S * 128) (h8 : l.fin % 8 = 0) :
    Calls Tryd.prog 32 #[.pointer (some ⟨Bx, 0, none⟩)] w fun e w' => (∃ k, w' = w.drewN k) ∧ NextAt l I e := by
  have hs2 := hl.s2
  have hlen := hl.len
  have c6 := hl.cells.2.2.2.2.2.2.1
  have c5 := hl.cells.2.2.2.2.2.1
  have HL := Lib.hid hl
  have HT := Lib.hid ht
  have cb := hbx
  clear hl ht hbx
  unfold NextAt
  generalize hSd : l.S = S at *
  generalize hFd : l.fin = fn at *
  have HSD := Lib.hid hSd
  have HFD := Lib.hid hFd
  clear hSd hFd
  rcases Nat.lt_or_ge fn (S * 128) with hlt | hge
  · have hm8 : 8 ≤ S * 128 - fn := by omega
    have htl : (l.img.drop fn).length = S * 128 - fn := by rw [List.length_drop, hlen]
    have hby : IsBy (l.img.drop fn) := fun c hc => HL.out.by_ c (List.mem_of_mem_drop hc)
    have HBYT := Lib.hid (show ∀ j, j < S * 128 - fn → w.cell? ⟨I, fn + j, none⟩ = some (.int .u8 ((l.img.drop fn).getD j 0)) from fun j hj => by
      rw [List.getD_eq_getElem?_getD, List.getElem?_drop, ← List.getD_eq_getElem?_getD]
      exact HL.out.byte (by rw [HSD.out]; omega))
    generalize l.img.drop fn = t at *
    obtain ⟨n, hn⟩ : ∃ n : Nat, getF (t.take 4) = n := ⟨(getF (t.take 4)).toNat, by have := (getF_rng (l := t.take 4) (fun c hc => hby c (List.mem_of_mem_take hc))).1; omega⟩
    have HG1 := Lib.hid (show ∀ W c, (∀ a, W.cell? a = w.cell? a) → Calls Tryd.prog 33 #[.slice (some ⟨I, fn, none⟩) 4 c] W fun e w' => e = .returned (.int .u64 n) ∧ W = w' from fun W c hW => by
      have g : ∀ j, j < S * 128 - fn → W.cell? ⟨I, fn + j, none⟩ = some (.int .u8 (t.getD j 0)) := fun j hj => (hW _).trans (HBYT.out j hj)
      have b : ∀ j, j < t.length → 0 ≤ t.getD j 0 ∧ t.getD j 0 ≤ 255 := fun j hj => by
        rw [List.getD_eq_getElem?_getD, List.getElem?_eq_getElem hj]
        exact hby _ (List.getElem_mem hj)
      have q := get_four I fn c _ _ _ _ W (g 0 (by omega)) (g 1 (by omega)) (g 2 (by omega)) (g 3 (by omega)) (b 0 (by omega)) (b 1 (by omega)) (b 2 (by omega)) (b 3 (by omega))
      rw [← getF_cons4 (by omega), hn] at q
      exact q)
    have hnr : n < 4294967296 := by
      have q := (getF_rng (l := t.take 4) (fun c hc => hby c (List.mem_of_mem_take hc))).2
      rw [hn, List.length_take, Nat.min_eq_left (by omega)] at q
      omega
    have t0 : decide (((S * 128 - fn : Nat) : Int) < 8) = false := decide_eq_false (by omega)
    have q1 : fn ≤ S * 128 := by omega
    have q2 : ¬ S * 128 = fn := by omega
    have q3 : (fn : Int) ≤ (S : Int) * 128 := by omega
    have q4 : ¬ S * 128 - fn < 8 := by omega
    have q5 : ¬ S * 128 - fn = 4 := by omega
    have q6 : 4 ≤ S * 128 - fn := by omega
    by_cases h1 : n < 1
    · have hfr := frameAt_bad t n (by omega) hn (.inl h1)
      have hn0 : n = 0 := by omega
      subst hn0
      go_enter Tryd.func32, Tryd.ntmps32
      go_wp2_with fail
      refine Go.Proofs.YtcjhligknhpadaaDoorW.PrintLast.start_ (n := 10) (S := fun v => v.cell? ⟨Bx, 0, none⟩ = some (.pointer (some ⟨P, 0, none⟩)) ∧ v.cell? ⟨P, 6, none⟩ = some (.slice (some ⟨I, 0, none⟩) (S * 128) (S * 128)) ∧ v.cell? ⟨P, 5, none⟩ = some (.int .i64 fn)) (ds := [9]) #[false, false, false, false, false, false, false, false, false, false] (by kernel_rfl) rfl rfl ⟨cb, c6, c5⟩ (fun hHeld => ?_)
      refine Go.Proofs.YtcjhligknhpadaaDoorW.PrintLast.take_ (i := 0) (N := some 7) (v := ?_) (a' := ?_) #[true, false, false, false, false, false, false, false, false, false] rfl rfl (by kernel_rfl) (fun _ _ _ h => h) (Or.inl ⟨by rfl, ?_⟩) hHeld ?_ ?_
      rotate_left
      · rintro w' ⟨s0, s1, s2⟩
        go_simp
        with_reducible rfl
      rotate_left
      · simp only [Act.put, List.setIfInBounds_toArray, List.set_cons_zero, List.set_cons_succ, Go.Proofs.YtcjhligknhpadaaDoorW.PrintLast.i64_w, Go.Proofs.YtcjhligknhpadaaDoorW.PrintLast.i32_w]
        rfl
      refine Go.Proofs.YtcjhligknhpadaaDoorW.PrintLast.pure_ (i := 1) (N := some 8) (v := ?_) (a' := ?_) #[true, true, false, false, false, false, false, false, false, false] rfl rfl (by kernel_rfl) (fun _ _ _ h => h) (Or.inl ⟨by rfl, ?_⟩) ?_ ?_
      rotate_left
      · intro w'
        go_simp
        with_reducible rfl
      rotate_left
      · simp only [Act.put, List.setIfInBounds_toArray, List.set_cons_zero, List.set_cons_succ, Go.Proofs.YtcjhligknhpadaaDoorW.PrintLast.i64_w, Go.Proofs.YtcjhligknhpadaaDoorW.PrintLast.i32_w]
        rfl
      refine Go.Proofs.YtcjhligknhpadaaDoorW.PrintLast.pure_ (i := 2) (N := some 9) (v := ?_) (a' := ?_) #[true, true, true, false, false, false, false, false, false, false] rfl rfl (by kernel_rfl) (fun _ _ _ h => h) (Or.inl ⟨by rfl, ?_⟩) ?_ ?_
      rotate_left
      · intro w'
        go_simp
        with_reducible rfl
      rotate_left
      · simp only [Act.put, List.setIfInBounds_toArray, List.set_cons_zero, List.set_cons_succ, Go.Proofs.YtcjhligknhpadaaDoorW.PrintLast.i64_w, Go.Proofs.YtcjhligknhpadaaDoorW.PrintLast.i32_w]
        rfl
      refine Go.Proofs.YtcjhligknhpadaaDoorW.PrintLast.take_ (i := 3) (N := some 10) (v := ?_) (a' := ?_) #[true, true, true, true, false, false, false, false, false, false] rfl rfl (by kernel_rfl) (fun _ _ _ h => h) (Or.inl ⟨by rfl, ?_⟩) hHeld ?_ ?_
      rotate_left
      · rintro w' ⟨s0, s1, s2⟩
        go_simp
        with_reducible rfl
      rotate_left
      · simp only [Act.put, List.setIfInBounds_toArray, List.set_cons_zero, List.set_cons_succ, Go.Proofs.YtcjhligknhpadaaDoorW.PrintLast.i64_w, Go.Proofs.YtcjhligknhpadaaDoorW.PrintLast.i32_w]
        rfl
      refine Go.Proofs.YtcjhligknhpadaaDoorW.PrintLast.take_ (i := 4) (N := some 11) (v := ?_) (a' := ?_) #[true, true, true, true, true, false, false, false, false, false] rfl rfl (by kernel_rfl) (fun _ _ _ h => h) (Or.inl ⟨by rfl, ?_⟩) hHeld ?_ ?_
      rotate_left
      · rintro w' ⟨s0, s1, s2⟩
        go_simp
        with_reducible rfl
      rotate_left
      · simp only [Act.put, List.setIfInBounds_toArray, List.set_cons_zero, List.set_cons_succ, Go.Proofs.YtcjhligknhpadaaDoorW.PrintLast.i64_w, Go.Proofs.YtcjhligknhpadaaDoorW.PrintLast.i32_w]
        rfl
      refine Go.Proofs.YtcjhligknhpadaaDoorW.PrintLast.pure_ (i := 5) (N := some 12) (v := ?_) (a' := ?_) #[true, true, true, true, true, true, false, false, false, false] rfl rfl (by kernel_rfl) (fun _ _ _ h => h) (Or.inl ⟨by rfl, ?_⟩) ?_ ?_
      rotate_left
      · intro w'
        go_simp
        with_reducible rfl
      rotate_left
      · simp only [Act.put, List.setIfInBounds_toArray, List.set_cons_zero, List.set_cons_succ, Go.Proofs.YtcjhligknhpadaaDoorW.PrintLast.i64_w, Go.Proofs.YtcjhligknhpadaaDoorW.PrintLast.i32_w]
        rfl
      refine Go.Proofs.YtcjhligknhpadaaDoorW.PrintLast.pure_ (i := 6) (N := some 13) (v := ?_) (a' := ?_) #[true, true, true, true, true, true, true, false, false, false] rfl rfl (by kernel_rfl) (fun _ _ _ h => h) (Or.inl ⟨by rfl, ?_⟩) ?_ ?_
      rotate_left
      · intro w'
        go_simp
        with_reducible rfl
      rotate_left
      · simp only [Act.put, List.setIfInBounds_toArray, List.set_cons_zero, List.set_cons_succ, Go.Proofs.YtcjhligknhpadaaDoorW.PrintLast.i64_w, Go.Proofs.YtcjhligknhpadaaDoorW.PrintLast.i32_w]
        rfl
      refine Go.Proofs.YtcjhligknhpadaaDoorW.PrintLast.take_ (i := 7) (N := some 14) (v := ?_) (a' := ?_) #[true, true, true, true, true, true, true, true, false, false] rfl rfl (by kernel_rfl) (fun _ _ _ h => h) (Or.inl ⟨by rfl, ?_⟩) hHeld ?_ ?_
      rotate_left
      · rintro w' ⟨s0, s1, s2⟩
        go_simp
        with_reducible rfl
      rotate_left
      · simp only [Act.put, List.setIfInBounds_toArray, List.set_cons_zero, List.set_cons_succ, Go.Proofs.YtcjhligknhpadaaDoorW.PrintLast.i64_w, Go.Proofs.YtcjhligknhpadaaDoorW.PrintLast.i32_w]
        rfl
      refine Go.Proofs.YtcjhligknhpadaaDoorW.PrintLast.pure_ (i := 8) (N := some 15) (v := ?_) (a' := ?_) #[true, true, true, true, true, true, true, true, true, false] rfl rfl (by kernel_rfl) (fun _ _ _ h => h) (Or.inl ⟨by rfl, ?_⟩) ?_ ?_
      rotate_left
      · intro w'
        go_simp
        with_reducible rfl
      rotate_left
      · simp only [Act.put, List.setIfInBounds_toArray, List.set_cons_zero, List.set_cons_succ, Go.Proofs.YtcjhligknhpadaaDoorW.PrintLast.i64_w, Go.Proofs.YtcjhligknhpadaaDoorW.PrintLast.i32_w]
        rfl
      refine Go.Proofs.YtcjhligknhpadaaDoorW.PrintLast.pure_ (i := 9) (N := some 3) (v := ?_) (a' := ?_) #[true, true, true, true, true, true, true, true, true, true] rfl rfl (by kernel_rfl) (fun _ _ _ h => h) (Or.inl ⟨by rfl, ?_⟩) ?_ ?_
      rotate_left
      · intro w'
        go_simp
        with_reducible rfl
      rotate_left
      · simp only [Act.put, List.setIfInBounds_toArray, List.set_cons_zero, List.set_cons_succ, Go.Proofs.YtcjhligknhpadaaDoorW.PrintLast.i64_w, Go.Proofs.YtcjhligknhpadaaDoorW.PrintLast.i32_w]
        rfl
      refine Go.Proofs.YtcjhligknhpadaaDoorW.PrintLast.done_ (by kernel_rfl) ?_
      go_wp2_with (first | (go_at_call 33; refine (HG1.out _ _ (by intro _; rfl)).mono ?_; rintro e w2 ⟨rfl, rfl⟩) | (go_at_call 34; refine (padded_any n _ (by omega)).mono ?_; rintro e w3 ⟨rfl, rfl⟩))
      go_ret2
      exact ⟨⟨1, rfl⟩, .inr ⟨hfr, _, rfl⟩⟩
    have t1 : decide ((n : Int) < 1) = false := decide_eq_false (by omega)
    by_cases h2 : 8192 < n
    · have hfr := frameAt_bad t n (by omega) hn (.inr (.inl h2))
      have t2 : decide (8192 < (n : Int)) = true := decide_eq_true (by omega)
      go_enter Tryd.func32, Tryd.ntmps32
      go_wp2_with fail
      refine Go.Proofs.YtcjhligknhpadaaDoorW.PrintLast.start_ (n := 10) (S := fun v => v.cell? ⟨Bx, 0, none⟩ = some (.pointer (some ⟨P, 0, none⟩)) ∧ v.cell? ⟨P, 6, none⟩ = some (.slice (some ⟨I, 0, none⟩) (S * 128) (S * 128)) ∧ v.cell? ⟨P, 5, none⟩ = some (.int .i64 fn)) (ds := [9]) #[false, false, false, false, false, false, false, false, false, false] (by kernel_rfl) rfl rfl ⟨cb, c6, c5⟩ (fun hHeld => ?_)
      refine Go.Proofs.YtcjhligknhpadaaDoorW.PrintLast.take_ (i := 0) (N := some 7) (v := ?_) (a' := ?_) #[true, false, false, false, false, false, false, false, false, false] rfl rfl (by kernel_rfl) (fun _ _ _ h => h) (Or.inl ⟨by rfl, ?_⟩) hHeld ?_ ?_
      rotate_left
      · rintro w' ⟨s0, s1, s2⟩
        go_simp
        with_reducible rfl
      rotate_left
      · simp only [Act.put, List.setIfInBounds_toArray, List.set_cons_zero, List.set_cons_succ, Go.Proofs.YtcjhligknhpadaaDoorW.PrintLast.i64_w, Go.Proofs.YtcjhligknhpadaaDoorW.PrintLast.i32_w]
        rfl
      refine Go.Proofs.YtcjhligknhpadaaDoorW.PrintLast.pure_ (i := 1) (N := some 8) (v := ?_) (a' := ?_) #[true, true, false, false, false, false, false, false, false, false] rfl rfl (by kernel_rfl) (fun _ _ _ h => h) (Or.inl ⟨by rfl, ?_⟩) ?_ ?_
      rotate_left
      · intro w'
        go_simp
        with_reducible rfl
      rotate_left
      · simp only [Act.put, List.setIfInBounds_toArray, List.set_cons_zero, List.set_cons_succ, Go.Proofs.YtcjhligknhpadaaDoorW.PrintLast.i64_w, Go.Proofs.YtcjhligknhpadaaDoorW.PrintLast.i32_w]
        rfl
      refine Go.Proofs.YtcjhligknhpadaaDoorW.PrintLast.pure_ (i := 2) (N := some 9) (v := ?_) (a' := ?_) #[true, true, true, false, false, false, false, false, false, false] rfl rfl (by kernel_rfl) (fun _ _ _ h => h) (Or.inl ⟨by rfl, ?_⟩) ?_ ?_
      rotate_left
      · intro w'
        go_simp
        with_reducible rfl
      rotate_left
      · simp only [Act.put, List.setIfInBounds_toArray, List.set_cons_zero, List.set_cons_succ, Go.Proofs.YtcjhligknhpadaaDoorW.PrintLast.i64_w, Go.Proofs.YtcjhligknhpadaaDoorW.PrintLast.i32_w]
        rfl
      refine Go.Proofs.YtcjhligknhpadaaDoorW.PrintLast.take_ (i := 3) (N := some 10) (v := ?_) (a' := ?_) #[true, true, true, true, false, false, false, false, false, false] rfl rfl (by kernel_rfl) (fun _ _ _ h => h) (Or.inl ⟨by rfl, ?_⟩) hHeld ?_ ?_
      rotate_left
      · rintro w' ⟨s0, s1, s2⟩
        go_simp
        with_reducible rfl
      rotate_left
      · simp only [Act.put, List.setIfInBounds_toArray, List.set_cons_zero, List.set_cons_succ, Go.Proofs.YtcjhligknhpadaaDoorW.PrintLast.i64_w, Go.Proofs.YtcjhligknhpadaaDoorW.PrintLast.i32_w]
        rfl
      refine Go.Proofs.YtcjhligknhpadaaDoorW.PrintLast.take_ (i := 4) (N := some 11) (v := ?_) (a' := ?_) #[true, true, true, true, true, false, false, false, false, false] rfl rfl (by kernel_rfl) (fun _ _ _ h => h) (Or.inl ⟨by rfl, ?_⟩) hHeld ?_ ?_
      rotate_left
      · rintro w' ⟨s0, s1, s2⟩
        go_simp
        with_reducible rfl
      rotate_left
      · simp only [Act.put, List.setIfInBounds_toArray, List.set_cons_zero, List.set_cons_succ, Go.Proofs.YtcjhligknhpadaaDoorW.PrintLast.i64_w, Go.Proofs.YtcjhligknhpadaaDoorW.PrintLast.i32_w]
        rfl
      refine Go.Proofs.YtcjhligknhpadaaDoorW.PrintLast.pure_ (i := 5) (N := some 12) (v := ?_) (a' := ?_) #[true, true, true, true, true, true, false, false, false, false] rfl rfl (by kernel_rfl) (fun _ _ _ h => h) (Or.inl ⟨by rfl, ?_⟩) ?_ ?_
      rotate_left
      · intro w'
        go_simp
        with_reducible rfl
      rotate_left
      · simp only [Act.put, List.setIfInBounds_toArray, List.set_cons_zero, List.set_cons_succ, Go.Proofs.YtcjhligknhpadaaDoorW.PrintLast.i64_w, Go.Proofs.YtcjhligknhpadaaDoorW.PrintLast.i32_w]
        rfl
      refine Go.Proofs.YtcjhligknhpadaaDoorW.PrintLast.pure_ (i := 6) (N := some 13) (v := ?_) (a' := ?_) #[true, true, true, true, true, true, true, false, false, false] rfl rfl (by kernel_rfl) (fun _ _ _ h => h) (Or.inl ⟨by rfl, ?_⟩) ?_ ?_
      rotate_left
      · intro w'
        go_simp
        with_reducible rfl
      rotate_left
      · simp only [Act.put, List.setIfInBounds_toArray, List.set_cons_zero, List.set_cons_succ, Go.Proofs.YtcjhligknhpadaaDoorW.PrintLast.i64_w, Go.Proofs.YtcjhligknhpadaaDoorW.PrintLast.i32_w]
        rfl
      refine Go.Proofs.YtcjhligknhpadaaDoorW.PrintLast.take_ (i := 7) (N := some 14) (v := ?_) (a' := ?_) #[true, true, true, true, true, true, true, true, false, false] rfl rfl (by kernel_rfl) (fun _ _ _ h => h) (Or.inl ⟨by rfl, ?_⟩) hHeld ?_ ?_
      rotate_left
      · rintro w' ⟨s0, s1, s2⟩
        go_simp
        with_reducible rfl
      rotate_left
      · simp only [Act.put, List.setIfInBounds_toArray, List.set_cons_zero, List.set_cons_succ, Go.Proofs.YtcjhligknhpadaaDoorW.PrintLast.i64_w, Go.Proofs.YtcjhligknhpadaaDoorW.PrintLast.i32_w]
        rfl
      refine Go.Proofs.YtcjhligknhpadaaDoorW.PrintLast.pure_ (i := 8) (N := some 15) (v := ?_) (a' := ?_) #[true, true, true, true, true, true, true, true, true, false] rfl rfl (by kernel_rfl) (fun _ _ _ h => h) (Or.inl ⟨by rfl, ?_⟩) ?_ ?_
      rotate_left
      · intro w'
        go_simp
        with_reducible rfl
      rotate_left
      · simp only [Act.put, List.setIfInBounds_toArray, List.set_cons_zero, List.set_cons_succ, Go.Proofs.YtcjhligknhpadaaDoorW.PrintLast.i64_w, Go.Proofs.YtcjhligknhpadaaDoorW.PrintLast.i32_w]
        rfl
      refine Go.Proofs.YtcjhligknhpadaaDoorW.PrintLast.pure_ (i := 9) (N := some 3) (v := ?_) (a' := ?_) #[true, true, true, true, true, true, true, true, true, true] rfl rfl (by kernel_rfl) (fun _ _ _ h => h) (Or.inl ⟨by rfl, ?_⟩) ?_ ?_
      rotate_left
      · intro w'
        go_simp
        with_reducible rfl
      rotate_left
      · simp only [Act.put, List.setIfInBounds_toArray, List.set_cons_zero, List.set_cons_succ, Go.Proofs.YtcjhligknhpadaaDoorW.PrintLast.i64_w, Go.Proofs.YtcjhligknhpadaaDoorW.PrintLast.i32_w]
        rfl
      refine Go.Proofs.YtcjhligknhpadaaDoorW.PrintLast.done_ (by kernel_rfl) ?_
      go_wp2_with (first | (go_at_call 33; refine (HG1.out _ _ (by intro _; rfl)).mono ?_; rintro e w2 ⟨rfl, rfl⟩) | (go_at_call 34; refine (padded_any n _ (by omega)).mono ?_; rintro e w3 ⟨rfl, rfl⟩))
      go_ret2
      exact ⟨⟨1, rfl⟩, .inr ⟨hfr, _, rfl⟩⟩
    have t2 : decide (8192 < (n : Int)) = false := decide_eq_false (by omega)
    have hp := pad_le n
    have e1 : IntKind.i64.wrap (n : Int) = n := IntWalk.i64_in _ (by omega)
    have e2 : IntKind.i64.wrap (((S * 128 - fn : Nat) : Int) - 8) = ((S * 128 - fn : Nat) : Int) - 8 := IntWalk.i64_in _ (by omega)
    by_cases h3 : S * 128 - fn - 8 < pad n
    · have hfr := frameAt_bad t n (by omega) hn (.inr (.inr (by rw [htl]; exact h3)))
      have t3 : decide (((S * 128 - fn : Nat) : Int) - 8 < (pad n : Int)) = true := decide_eq_true (by omega)
      go_enter Tryd.func32, Tryd.ntmps32
      go_wp2_with fail
      refine Go.Proofs.YtcjhligknhpadaaDoorW.PrintLast.start_ (n := 10) (S := fun v => v.cell? ⟨Bx, 0, none⟩ = some (.pointer (some ⟨P, 0, none⟩)) ∧ v.cell? ⟨P, 6, none⟩ = some (.slice (some ⟨I, 0, none⟩) (S * 128) (S * 128)) ∧ v.cell? ⟨P, 5, none⟩ = some (.int .i64 fn)) (ds := [9]) #[false, false, false, false, false, false, false, false, false, false] (by kernel_rfl) rfl rfl ⟨cb, c6, c5⟩ (fun hHeld => ?_)
      refine Go.Proofs.YtcjhligknhpadaaDoorW.PrintLast.take_ (i := 0) (N := some 7) (v := ?_) (a' := ?_) #[true, false, false, false, false, false, false, false, false, false] rfl rfl (by kernel_rfl) (fun _ _ _ h => h) (Or.inl ⟨by rfl, ?_⟩) hHeld ?_ ?_
      rotate_left
      · rintro w' ⟨s0, s1, s2⟩
        go_simp
        with_reducible rfl
      rotate_left
      · simp only [Act.put, List.setIfInBounds_toArray, List.set_cons_zero, List.set_cons_succ, Go.Proofs.YtcjhligknhpadaaDoorW.PrintLast.i64_w, Go.Proofs.YtcjhligknhpadaaDoorW.PrintLast.i32_w]
        rfl
      refine Go.Proofs.YtcjhligknhpadaaDoorW.PrintLast.pure_ (i := 1) (N := some 8) (v := ?_) (a' := ?_) #[true, true, false, false, false, false, false, false, false, false] rfl rfl (by kernel_rfl) (fun _ _ _ h => h) (Or.inl ⟨by rfl, ?_⟩) ?_ ?_
      rotate_left
      · intro w'
        go_simp
        with_reducible rfl
      rotate_left
      · simp only [Act.put, List.setIfInBounds_toArray, List.set_cons_zero, List.set_cons_succ, Go.Proofs.YtcjhligknhpadaaDoorW.PrintLast.i64_w, Go.Proofs.YtcjhligknhpadaaDoorW.PrintLast.i32_w]
        rfl
      refine Go.Proofs.YtcjhligknhpadaaDoorW.PrintLast.pure_ (i := 2) (N := some 9) (v := ?_) (a' := ?_) #[true, true, true, false, false, false, false, false, false, false] rfl rfl (by kernel_rfl) (fun _ _ _ h => h) (Or.inl ⟨by rfl, ?_⟩) ?_ ?_
      rotate_left
      · intro w'
        go_simp
        with_reducible rfl
      rotate_left
      · simp only [Act.put, List.setIfInBounds_toArray, List.set_cons_zero, List.set_cons_succ, Go.Proofs.YtcjhligknhpadaaDoorW.PrintLast.i64_w, Go.Proofs.YtcjhligknhpadaaDoorW.PrintLast.i32_w]
        rfl
      refine Go.Proofs.YtcjhligknhpadaaDoorW.PrintLast.take_ (i := 3) (N := some 10) (v := ?_) (a' := ?_) #[true, true, true, true, false, false, false, false, false, false] rfl rfl (by kernel_rfl) (fun _ _ _ h => h) (Or.inl ⟨by rfl, ?_⟩) hHeld ?_ ?_
      rotate_left
      · rintro w' ⟨s0, s1, s2⟩
        go_simp
        with_reducible rfl
      rotate_left
      · simp only [Act.put, List.setIfInBounds_toArray, List.set_cons_zero, List.set_cons_succ, Go.Proofs.YtcjhligknhpadaaDoorW.PrintLast.i64_w, Go.Proofs.YtcjhligknhpadaaDoorW.PrintLast.i32_w]
        rfl
      refine Go.Proofs.YtcjhligknhpadaaDoorW.PrintLast.take_ (i := 4) (N := some 11) (v := ?_) (a' := ?_) #[true, true, true, true, true, false, false, false, false, false] rfl rfl (by kernel_rfl) (fun _ _ _ h => h) (Or.inl ⟨by rfl, ?_⟩) hHeld ?_ ?_
      rotate_left
      · rintro w' ⟨s0, s1, s2⟩
        go_simp
        with_reducible rfl
      rotate_left
      · simp only [Act.put, List.setIfInBounds_toArray, List.set_cons_zero, List.set_cons_succ, Go.Proofs.YtcjhligknhpadaaDoorW.PrintLast.i64_w, Go.Proofs.YtcjhligknhpadaaDoorW.PrintLast.i32_w]
        rfl
      refine Go.Proofs.YtcjhligknhpadaaDoorW.PrintLast.pure_ (i := 5) (N := some 12) (v := ?_) (a' := ?_) #[true, true, true, true, true, true, false, false, false, false] rfl rfl (by kernel_rfl) (fun _ _ _ h => h) (Or.inl ⟨by rfl, ?_⟩) ?_ ?_
      rotate_left
      · intro w'
        go_simp
        with_reducible rfl
      rotate_left
      · simp only [Act.put, List.setIfInBounds_toArray, List.set_cons_zero, List.set_cons_succ, Go.Proofs.YtcjhligknhpadaaDoorW.PrintLast.i64_w, Go.Proofs.YtcjhligknhpadaaDoorW.PrintLast.i32_w]
        rfl
      refine Go.Proofs.YtcjhligknhpadaaDoorW.PrintLast.pure_ (i := 6) (N := some 13) (v := ?_) (a' := ?_) #[true, true, true, true, true, true, true, false, false, false] rfl rfl (by kernel_rfl) (fun _ _ _ h => h) (Or.inl ⟨by rfl, ?_⟩) ?_ ?_
      rotate_left
      · intro w'
        go_simp
        with_reducible rfl
      rotate_left
      · simp only [Act.put, List.setIfInBounds_toArray, List.set_cons_zero, List.set_cons_succ, Go.Proofs.YtcjhligknhpadaaDoorW.PrintLast.i64_w, Go.Proofs.YtcjhligknhpadaaDoorW.PrintLast.i32_w]
        rfl
      refine Go.Proofs.YtcjhligknhpadaaDoorW.PrintLast.take_ (i := 7) (N := some 14) (v := ?_) (a' := ?_) #[true, true, true, true, true, true, true, true, false, false] rfl rfl (by kernel_rfl) (fun _ _ _ h => h) (Or.inl ⟨by rfl, ?_⟩) hHeld ?_ ?_
      rotate_left
      · rintro w' ⟨s0, s1, s2⟩
        go_simp
        with_reducible rfl
      rotate_left
      · simp only [Act.put, List.setIfInBounds_toArray, List.set_cons_zero, List.set_cons_succ, Go.Proofs.YtcjhligknhpadaaDoorW.PrintLast.i64_w, Go.Proofs.YtcjhligknhpadaaDoorW.PrintLast.i32_w]
        rfl
      refine Go.Proofs.YtcjhligknhpadaaDoorW.PrintLast.pure_ (i := 8) (N := some 15) (v := ?_) (a' := ?_) #[true, true, true, true, true, true, true, true, true, false] rfl rfl (by kernel_rfl) (fun _ _ _ h => h) (Or.inl ⟨by rfl, ?_⟩) ?_ ?_
      rotate_left
      · intro w'
        go_simp
        with_reducible rfl
      rotate_left
      · simp only [Act.put, List.setIfInBounds_toArray, List.set_cons_zero, List.set_cons_succ, Go.Proofs.YtcjhligknhpadaaDoorW.PrintLast.i64_w, Go.Proofs.YtcjhligknhpadaaDoorW.PrintLast.i32_w]
        rfl
      refine Go.Proofs.YtcjhligknhpadaaDoorW.PrintLast.pure_ (i := 9) (N := some 3) (v := ?_) (a' := ?_) #[true, true, true, true, true, true, true, true, true, true] rfl rfl (by kernel_rfl) (fun _ _ _ h => h) (Or.inl ⟨by rfl, ?_⟩) ?_ ?_
      rotate_left
      · intro w'
        go_simp
        with_reducible rfl
      rotate_left
      · simp only [Act.put, List.setIfInBounds_toArray, List.set_cons_zero, List.set_cons_succ, Go.Proofs.YtcjhligknhpadaaDoorW.PrintLast.i64_w, Go.Proofs.YtcjhligknhpadaaDoorW.PrintLast.i32_w]
        rfl
      refine Go.Proofs.YtcjhligknhpadaaDoorW.PrintLast.done_ (by kernel_rfl) ?_
      go_wp2_with (first | (go_at_call 33; refine (HG1.out _ _ (by intro _; rfl)).mono ?_; rintro e w2 ⟨rfl, rfl⟩) | (go_at_call 34; refine (padded_any n _ (by omega)).mono ?_; rintro e w3 ⟨rfl, rfl⟩))
      go_ret2
      exact ⟨⟨1, rfl⟩, .inr ⟨hfr, _, rfl⟩⟩
    have t3 : decide (((S * 128 - fn : Nat) : Int) - 8 < (pad n : Int)) = false := decide_eq_false (by omega)
    have e3 : IntKind.i64.wrap (8 + (n : Int)) = 8 + (n : Int) := IntWalk.i64_in _ (by omega)
    have e4 : IntKind.i64.wrap (8 + (pad n : Int)) = 8 + (pad n : Int) := IntWalk.i64_in _ (by omega)
    have n1 : ((8 : Int) + n).toNat = 8 + n := by omega
    have n2 : ((8 : Int) + (pad n : Int)).toNat = 8 + pad n := by omega
    have n3 : ¬ S * 128 - fn = 8 := by omega
    have n4 : (8 : Int) + n ≤ ((S * 128 - fn : Nat) : Int) := by omega
    have n5 : (8 : Int) + (pad n : Int) ≤ ((S * 128 - fn : Nat) : Int) := by omega
    have n6 : 0 ≤ (8 : Int) + n := by omega
    have n7 : 0 ≤ (8 : Int) + (pad n : Int) := by omega
    have n8 : 8 + n ≤ 8 + pad n := by omega
    have n9 : (n : Int) ≤ (pad n : Int) := by omega
    have n10 : n ≤ pad n := by omega
    have n11 : (8 : Int) ≤ 8 + (n : Int) := by omega
    have hfr := frameAt_fits t n (by omega) hn h1 h2 (by rw [htl]; exact h3)
    have hrl : ((t.drop 8).take n).length = n := by rw [List.length_take, List.length_drop, htl]; omega
    have hzl : (((t.drop 8).drop n).take (pad n - n)).length = pad n - n := by rw [List.length_take, List.length_drop, List.length_drop, htl]; omega
    have HSUM := Lib.hid (show ∀ W c, (∀ a, W.cell? a = w.cell? a) → Calls Tryd.prog 35 #[.slice (some ⟨I, fn + 8, none⟩) n c] W fun e w' => e = .returned (.int .u32 (crcF ((t.drop 8).take n))) ∧ W = w' from fun W c hW => by
      have q := sum_any I (fn + 8) c ((t.drop 8).take n) W (fun j hj => (hW _).trans (HT.out j hj)) (by omega) (fun j hj => by
        rw [hrl] at hj
        rw [List.getD_eq_getElem?_getD, List.getElem?_take, if_pos hj, List.getElem?_drop, ← List.getD_eq_getElem?_getD, Nat.add_assoc]
        exact (hW _).trans (HBYT.out _ (by omega))) (fun c hc => hby c (List.mem_of_mem_drop (List.mem_of_mem_take hc)))
      rw [hrl] at q
      exact q)
    have HG2 := Lib.hid (show ∀ W c, (∀ a, W.cell? a = w.cell? a) → Calls Tryd.prog 33 #[.slice (some ⟨I, fn + 4, none⟩) 4 c] W fun e w' => e = .returned (.int .u64 (getF ((t.drop 4).take 4))) ∧ W = w' from fun W c hW => by
      have g : ∀ j, 4 + j < S * 128 - fn → W.cell? ⟨I, fn + 4 + j, none⟩ = some (.int .u8 ((t.drop 4).getD j 0)) := fun j hj => by
        rw [List.getD_eq_getElem?_getD, List.getElem?_drop, ← List.getD_eq_getElem?_getD, Nat.add_assoc]
        exact (hW _).trans (HBYT.out _ hj)
      have b : ∀ j, j < (t.drop 4).length → 0 ≤ (t.drop 4).getD j 0 ∧ (t.drop 4).getD j 0 ≤ 255 := fun j hj => by
        rw [List.getD_eq_getElem?_getD, List.getElem?_eq_getElem hj]
        exact hby _ (List.mem_of_mem_drop (List.getElem_mem hj))
      have hl4 : (t.drop 4).length = S * 128 - fn - 4 := by rw [List.length_drop, htl]
      have q := get_four I (fn + 4) c _ _ _ _ W (g 0 (by omega)) (g 1 (by omega)) (g 2 (by omega)) (g 3 (by omega)) (b 0 (by omega)) (b 1 (by omega)) (b 2 (by omega)) (b 3 (by omega))
      rw [← getF_cons4 (by omega)] at q
      exact q)
    have HTR := Lib.hid (show ∀ W a k c, (∀ a, W.cell? a = w.cell? a) → (0 < k → a = some ⟨I, fn + (8 + n), none⟩) → k = pad n - n → k ≤ c → Calls Tryd.prog 36 #[.slice a k c, .string ⟨#[0]⟩] W fun e w' => (∃ m, EmptyIff e m ∧ (m = 0 ↔ isZ (((t.drop 8).drop n).take (pad n - n)) = true)) ∧ ∃ k, w' = W.drewN k from fun W a k c hW ha hk hc => by
      subst hk
      exact trim_any I (fn + (8 + n)) (pad n - n) _ a _ W ha (fun j hj => by
        rw [List.getD_eq_getElem?_getD, List.getElem?_take, if_pos hj, List.getElem?_drop, List.getElem?_drop, ← List.getD_eq_getElem?_getD]
        have q := HBYT.out (8 + n + j) (by omega)
        rw [show fn + (8 + n + j) = fn + (8 + n) + j by omega, show 8 + n + j = 8 + (n + j) by omega] at q
        exact (hW _).trans q) hzl (by omega) hc)
    have HCS := Lib.hid (crcF_rng ((t.drop 8).take n))
    generalize hcs : crcF ((t.drop 8).take n) = cs at *
    generalize hgt : getF ((t.drop 4).take 4) = gt at *
    generalize hzz : isZ (((t.drop 8).drop n).take (pad n - n)) = zz at *
    have n12 : (8 : Int) ≤ ((S * 128 - fn : Nat) : Int) := by omega
    have HFR := Lib.hid hfr
    clear hfr
    have e5 : IntKind.u64.wrap cs = cs := wraps64 cs HCS.out.1 (by have := HCS.out.2; omega)
    have e6 : cs % 18446744073709551616 = cs := by have := HCS.out; omega
    by_cases hz : S * 128 - fn = 8 + n
    · have z1 : pad n = n := by omega
      have y1 : ¬ 8 + n = 4 := by omega
      by_cases hq : cs = gt
      · subst hq
        go_enter Tryd.func32, Tryd.ntmps32
        go_wp2_with fail
        refine Go.Proofs.YtcjhligknhpadaaDoorW.PrintLast.start_ (n := 10) (S := fun v => v.cell? ⟨Bx, 0, none⟩ = some (.pointer (some ⟨P, 0, none⟩)) ∧ v.cell? ⟨P, 6, none⟩ = some (.slice (some ⟨I, 0, none⟩) (S * 128) (S * 128)) ∧ v.cell? ⟨P, 5, none⟩ = some (.int .i64 fn)) (ds := [9]) #[false, false, false, false, false, false, false, false, false, false] (by kernel_rfl) rfl rfl ⟨cb, c6, c5⟩ (fun hHeld => ?_)
        refine Go.Proofs.YtcjhligknhpadaaDoorW.PrintLast.take_ (i := 0) (N := some 7) (v := ?_) (a' := ?_) #[true, false, false, false, false, false, false, false, false, false] rfl rfl (by kernel_rfl) (fun _ _ _ h => h) (Or.inl ⟨by rfl, ?_⟩) hHeld ?_ ?_
        rotate_left
        · rintro w' ⟨s0, s1, s2⟩
          go_simp
          with_reducible rfl
        rotate_left
        · simp only [Act.put, List.setIfInBounds_toArray, List.set_cons_zero, List.set_cons_succ, Go.Proofs.YtcjhligknhpadaaDoorW.PrintLast.i64_w, Go.Proofs.YtcjhligknhpadaaDoorW.PrintLast.i32_w]
          rfl
        refine Go.Proofs.YtcjhligknhpadaaDoorW.PrintLast.pure_ (i := 1) (N := some 8) (v := ?_) (a' := ?_) #[true, true, false, false, false, false, false, false, false, false] rfl rfl (by kernel_rfl) (fun _ _ _ h => h) (Or.inl ⟨by rfl, ?_⟩) ?_ ?_
        rotate_left
        · intro w'
          go_simp
          with_reducible rfl
        rotate_left
        · simp only [Act.put, List.setIfInBounds_toArray, List.set_cons_zero, List.set_cons_succ, Go.Proofs.YtcjhligknhpadaaDoorW.PrintLast.i64_w, Go.Proofs.YtcjhligknhpadaaDoorW.PrintLast.i32_w]
          rfl
        refine Go.Proofs.YtcjhligknhpadaaDoorW.PrintLast.pure_ (i := 2) (N := some 9) (v := ?_) (a' := ?_) #[true, true, true, false, false, false, false, false, false, false] rfl rfl (by kernel_rfl) (fun _ _ _ h => h) (Or.inl ⟨by rfl, ?_⟩) ?_ ?_
        rotate_left
        · intro w'
          go_simp
          with_reducible rfl
        rotate_left
        · simp only [Act.put, List.setIfInBounds_toArray, List.set_cons_zero, List.set_cons_succ, Go.Proofs.YtcjhligknhpadaaDoorW.PrintLast.i64_w, Go.Proofs.YtcjhligknhpadaaDoorW.PrintLast.i32_w]
          rfl
        refine Go.Proofs.YtcjhligknhpadaaDoorW.PrintLast.take_ (i := 3) (N := some 10) (v := ?_) (a' := ?_) #[true, true, true, true, false, false, false, false, false, false] rfl rfl (by kernel_rfl) (fun _ _ _ h => h) (Or.inl ⟨by rfl, ?_⟩) hHeld ?_ ?_
        rotate_left
        · rintro w' ⟨s0, s1, s2⟩
          go_simp
          with_reducible rfl
        rotate_left
        · simp only [Act.put, List.setIfInBounds_toArray, List.set_cons_zero, List.set_cons_succ, Go.Proofs.YtcjhligknhpadaaDoorW.PrintLast.i64_w, Go.Proofs.YtcjhligknhpadaaDoorW.PrintLast.i32_w]
          rfl
        refine Go.Proofs.YtcjhligknhpadaaDoorW.PrintLast.take_ (i := 4) (N := some 11) (v := ?_) (a' := ?_) #[true, true, true, true, true, false, false, false, false, false] rfl rfl (by kernel_rfl) (fun _ _ _ h => h) (Or.inl ⟨by rfl, ?_⟩) hHeld ?_ ?_
        rotate_left
        · rintro w' ⟨s0, s1, s2⟩
          go_simp
          with_reducible rfl
        rotate_left
        · simp only [Act.put, List.setIfInBounds_toArray, List.set_cons_zero, List.set_cons_succ, Go.Proofs.YtcjhligknhpadaaDoorW.PrintLast.i64_w, Go.Proofs.YtcjhligknhpadaaDoorW.PrintLast.i32_w]
          rfl
        refine Go.Proofs.YtcjhligknhpadaaDoorW.PrintLast.pure_ (i := 5) (N := some 12) (v := ?_) (a' := ?_) #[true, true, true, true, true, true, false, false, false, false] rfl rfl (by kernel_rfl) (fun _ _ _ h => h) (Or.inl ⟨by rfl, ?_⟩) ?_ ?_
        rotate_left
        · intro w'
          go_simp
          with_reducible rfl
        rotate_left
        · simp only [Act.put, List.setIfInBounds_toArray, List.set_cons_zero, List.set_cons_succ, Go.Proofs.YtcjhligknhpadaaDoorW.PrintLast.i64_w, Go.Proofs.YtcjhligknhpadaaDoorW.PrintLast.i32_w]
          rfl
        refine Go.Proofs.YtcjhligknhpadaaDoorW.PrintLast.pure_ (i := 6) (N := some 13) (v := ?_) (a' := ?_) #[true, true, true, true, true, true, true, false, false, false] rfl rfl (by kernel_rfl) (fun _ _ _ h => h) (Or.inl ⟨by rfl, ?_⟩) ?_ ?_
        rotate_left
        · intro w'
          go_simp
          with_reducible rfl
        rotate_left
        · simp only [Act.put, List.setIfInBounds_toArray, List.set_cons_zero, List.set_cons_succ, Go.Proofs.YtcjhligknhpadaaDoorW.PrintLast.i64_w, Go.Proofs.YtcjhligknhpadaaDoorW.PrintLast.i32_w]
          rfl
        refine Go.Proofs.YtcjhligknhpadaaDoorW.PrintLast.take_ (i := 7) (N := some 14) (v := ?_) (a' := ?_) #[true, true, true, true, true, true, true, true, false, false] rfl rfl (by kernel_rfl) (fun _ _ _ h => h) (Or.inl ⟨by rfl, ?_⟩) hHeld ?_ ?_
        rotate_left
        · rintro w' ⟨s0, s1, s2⟩
          go_simp
          with_reducible rfl
        rotate_left
        · simp only [Act.put, List.setIfInBounds_toArray, List.set_cons_zero, List.set_cons_succ, Go.Proofs.YtcjhligknhpadaaDoorW.PrintLast.i64_w, Go.Proofs.YtcjhligknhpadaaDoorW.PrintLast.i32_w]
          rfl
        refine Go.Proofs.YtcjhligknhpadaaDoorW.PrintLast.pure_ (i := 8) (N := some 15) (v := ?_) (a' := ?_) #[true, true, true, true, true, true, true, true, true, false] rfl rfl (by kernel_rfl) (fun _ _ _ h => h) (Or.inl ⟨by rfl, ?_⟩) ?_ ?_
        rotate_left
        · intro w'
          go_simp
          with_reducible rfl
        rotate_left
        · simp only [Act.put, List.setIfInBounds_toArray, List.set_cons_zero, List.set_cons_succ, Go.Proofs.YtcjhligknhpadaaDoorW.PrintLast.i64_w, Go.Proofs.YtcjhligknhpadaaDoorW.PrintLast.i32_w]
          rfl
        refine Go.Proofs.YtcjhligknhpadaaDoorW.PrintLast.pure_ (i := 9) (N := some 3) (v := ?_) (a' := ?_) #[true, true, true, true, true, true, true, true, true, true] rfl rfl (by kernel_rfl) (fun _ _ _ h => h) (Or.inl ⟨by rfl, ?_⟩) ?_ ?_
        rotate_left
        · intro w'
          go_simp
          with_reducible rfl
        rotate_left
        · simp only [Act.put, List.setIfInBounds_toArray, List.set_cons_zero, List.set_cons_succ, Go.Proofs.YtcjhligknhpadaaDoorW.PrintLast.i64_w, Go.Proofs.YtcjhligknhpadaaDoorW.PrintLast.i32_w]
          rfl
        refine Go.Proofs.YtcjhligknhpadaaDoorW.PrintLast.done_ (by kernel_rfl) ?_
        go_wp2_with (first | (go_at_call 33; refine (HG1.out _ _ (by intro _; rfl)).mono ?_; rintro e w2 ⟨rfl, rfl⟩) | (go_at_call 34; refine (padded_any n _ (by omega)).mono ?_; rintro e w3 ⟨rfl, rfl⟩))
        refine Go.Proofs.YtcjhligknhpadaaDoorW.PrintLast.start_ (n := 16) (S := fun v => True) (ds := [15]) #[false, false, false, false, false, false, false, false, false, false, false, false, false, false, false, false] (by kernel_rfl) rfl rfl trivial (fun hHeld => ?_)
        refine Go.Proofs.YtcjhligknhpadaaDoorW.PrintLast.pure_ (i := 0) (N := some 37) (v := ?_) (a' := ?_) #[true, false, false, false, false, false, false, false, false, false, false, false, false, false, false, false] rfl rfl (by kernel_rfl) (fun _ _ _ h => h) (Or.inl ⟨by rfl, ?_⟩) ?_ ?_
        rotate_left
        · intro w'
          go_simp
          with_reducible rfl
        rotate_left
        · simp only [Act.put, List.setIfInBounds_toArray, List.set_cons_zero, List.set_cons_succ, Go.Proofs.YtcjhligknhpadaaDoorW.PrintLast.i64_w, Go.Proofs.YtcjhligknhpadaaDoorW.PrintLast.i32_w]
          rfl
        refine Go.Proofs.YtcjhligknhpadaaDoorW.PrintLast.pure_ (i := 1) (N := some 38) (v := ?_) (a' := ?_) #[true, true, false, false, false, false, false, false, false, false, false, false, false, false, false, false] rfl rfl (by kernel_rfl) (fun _ _ _ h => h) (Or.inl ⟨by rfl, ?_⟩) ?_ ?_
        rotate_left
        · intro w'
          go_simp
          with_reducible rfl
        rotate_left
        · simp only [Act.put, List.setIfInBounds_toArray, List.set_cons_zero, List.set_cons_succ, Go.Proofs.YtcjhligknhpadaaDoorW.PrintLast.i64_w, Go.Proofs.YtcjhligknhpadaaDoorW.PrintLast.i32_w]
          rfl
        refine Go.Proofs.YtcjhligknhpadaaDoorW.PrintLast.pure_ (i := 2) (N := some 39) (v := ?_) (a' := ?_) #[true, true, true, false, false, false, false, false, false, false, false, false, false, false, false, false] rfl rfl (by kernel_rfl) (fun _ _ _ h => h) (Or.inl ⟨by rfl, ?_⟩) ?_ ?_
        rotate_left
        · intro w'
          go_simp
          with_reducible rfl
        rotate_left
        · simp only [Act.put, List.setIfInBounds_toArray, List.set_cons_zero, List.set_cons_succ, Go.Proofs.YtcjhligknhpadaaDoorW.PrintLast.i64_w, Go.Proofs.YtcjhligknhpadaaDoorW.PrintLast.i32_w]
          rfl
        refine Go.Proofs.YtcjhligknhpadaaDoorW.PrintLast.pure_ (i := 3) (N := some 40) (v := ?_) (a' := ?_) #[true, true, true, true, false, false, false, false, false, false, false, false, false, false, false, false] rfl rfl (by kernel_rfl) (fun _ _ _ h => h) (Or.inl ⟨by rfl, ?_⟩) ?_ ?_
        rotate_left
        · intro w'
          go_simp
          with_reducible rfl
        rotate_left
        · simp only [Act.put, List.setIfInBounds_toArray, List.set_cons_zero, List.set_cons_succ, Go.Proofs.YtcjhligknhpadaaDoorW.PrintLast.i64_w, Go.Proofs.YtcjhligknhpadaaDoorW.PrintLast.i32_w]
          rfl
        refine Go.Proofs.YtcjhligknhpadaaDoorW.PrintLast.pure_ (i := 4) (N := some 41) (v := ?_) (a' := ?_) #[true, true, true, true, true, false, false, false, false, false, false, false, false, false, false, false] rfl rfl (by kernel_rfl) (fun _ _ _ h => h) (Or.inl ⟨by rfl, ?_⟩) ?_ ?_
        rotate_left
        · intro w'
          go_simp
          with_reducible rfl
        rotate_left
        · simp only [Act.put, List.setIfInBounds_toArray, List.set_cons_zero, List.set_cons_succ, Go.Proofs.YtcjhligknhpadaaDoorW.PrintLast.i64_w, Go.Proofs.YtcjhligknhpadaaDoorW.PrintLast.i32_w]
          rfl
        refine Go.Proofs.YtcjhligknhpadaaDoorW.PrintLast.pure_ (i := 5) (N := some 42) (v := ?_) (a' := ?_) #[true, true, true, true, true, true, false, false, false, false, false, false, false, false, false, false] rfl rfl (by kernel_rfl) (fun _ _ _ h => h) (Or.inl ⟨by rfl, ?_⟩) ?_ ?_
        rotate_left
        · intro w'
          go_simp
          with_reducible rfl
        rotate_left
        · simp only [Act.put, List.setIfInBounds_toArray, List.set_cons_zero, List.set_cons_succ, Go.Proofs.YtcjhligknhpadaaDoorW.PrintLast.i64_w, Go.Proofs.YtcjhligknhpadaaDoorW.PrintLast.i32_w]
          rfl
        refine Go.Proofs.YtcjhligknhpadaaDoorW.PrintLast.pure_ (i := 6) (N := some 43) (v := ?_) (a' := ?_) #[true, true, true, true, true, true, true, false, false, false, false, false, false, false, false, false] rfl rfl (by kernel_rfl) (fun _ _ _ h => h) (Or.inl ⟨by rfl, ?_⟩) ?_ ?_
        rotate_left
        · intro w'
          go_simp
          with_reducible rfl
        rotate_left
        · simp only [Act.put, List.setIfInBounds_toArray, List.set_cons_zero, List.set_cons_succ, Go.Proofs.YtcjhligknhpadaaDoorW.PrintLast.i64_w, Go.Proofs.YtcjhligknhpadaaDoorW.PrintLast.i32_w]
          rfl
        refine Go.Proofs.YtcjhligknhpadaaDoorW.PrintLast.pure_ (i := 7) (N := some 44) (v := ?_) (a' := ?_) #[true, true, true, true, true, true, true, true, false, false, false, false, false, false, false, false] rfl rfl (by kernel_rfl) (fun _ _ _ h => h) (Or.inl ⟨by rfl, ?_⟩) ?_ ?_
        rotate_left
        · intro w'
          go_simp
          with_reducible rfl
        rotate_left
        · simp only [Act.put, List.setIfInBounds_toArray, List.set_cons_zero, List.set_cons_succ, Go.Proofs.YtcjhligknhpadaaDoorW.PrintLast.i64_w, Go.Proofs.YtcjhligknhpadaaDoorW.PrintLast.i32_w]
          rfl
        refine Go.Proofs.YtcjhligknhpadaaDoorW.PrintLast.pure_ (i := 8) (N := some 45) (v := ?_) (a' := ?_) #[true, true, true, true, true, true, true, true, true, false, false, false, false, false, false, false] rfl rfl (by kernel_rfl) (fun _ _ _ h => h) (Or.inl ⟨by rfl, ?_⟩) ?_ ?_
        rotate_left
        · intro w'
          go_simp
          with_reducible rfl
        rotate_left
        · simp only [Act.put, List.setIfInBounds_toArray, List.set_cons_zero, List.set_cons_succ, Go.Proofs.YtcjhligknhpadaaDoorW.PrintLast.i64_w, Go.Proofs.YtcjhligknhpadaaDoorW.PrintLast.i32_w]
          rfl
        refine Go.Proofs.YtcjhligknhpadaaDoorW.PrintLast.pure_ (i := 9) (N := some 46) (v := ?_) (a' := ?_) #[true, true, true, true, true, true, true, true, true, true, false, false, false, false, false, false] rfl rfl (by kernel_rfl) (fun _ _ _ h => h) (Or.inl ⟨by rfl, ?_⟩) ?_ ?_
        rotate_left
        · intro w'
          go_simp
          with_reducible rfl
        rotate_left
        · simp only [Act.put, List.setIfInBounds_toArray, List.set_cons_zero, List.set_cons_succ, Go.Proofs.YtcjhligknhpadaaDoorW.PrintLast.i64_w, Go.Proofs.YtcjhligknhpadaaDoorW.PrintLast.i32_w]
          rfl
        refine Go.Proofs.YtcjhligknhpadaaDoorW.PrintLast.pure_ (i := 10) (N := some 47) (v := ?_) (a' := ?_) #[true, true, true, true, true, true, true, true, true, true, true, false, false, false, false, false] rfl rfl (by kernel_rfl) (fun _ _ _ h => h) (Or.inl ⟨by rfl, ?_⟩) ?_ ?_
        rotate_left
        · intro w'
          go_simp
          with_reducible rfl
        rotate_left
        · simp only [Act.put, List.setIfInBounds_toArray, List.set_cons_zero, List.set_cons_succ, Go.Proofs.YtcjhligknhpadaaDoorW.PrintLast.i64_w, Go.Proofs.YtcjhligknhpadaaDoorW.PrintLast.i32_w]
          rfl
        refine Go.Proofs.YtcjhligknhpadaaDoorW.PrintLast.one_ (i := 11) (N := some 48) #[true, true, true, true, true, true, true, true, true, true, true, true, false, false, false, false] rfl rfl (by kernel_rfl) (by decide) (fun K hK => ?_)
        refine Go.Proofs.YtcjhligknhpadaaDoorW.PrintLast.goes_ Tryd.func34 (by kernel_rfl) rfl #[.int .i64 n] (by rfl) rfl rfl (by (try simp only [List.map_toArray, List.map_cons, List.map_nil]); first | done | rfl) ?_
        refine (padded_any n _ (by omega)).mono ?_
        rintro e w4 ⟨rfl, rfl⟩
        refine ⟨_, rfl, ?_⟩
        refine hK.out _ _ trivial (fun hHeld => ?_)
        clear hK K
        refine Go.Proofs.YtcjhligknhpadaaDoorW.PrintLast.norm_ (a' := ?_) ?_ ?_
        rotate_left
        · show Act.put _ (some 48) _ = _
          simp only [Act.put, List.setIfInBounds_toArray, List.set_cons_zero, List.set_cons_succ, Go.Proofs.YtcjhligknhpadaaDoorW.PrintLast.i64_w, Go.Proofs.YtcjhligknhpadaaDoorW.PrintLast.i32_w]
          rfl
        refine Go.Proofs.YtcjhligknhpadaaDoorW.PrintLast.pure_ (i := 12) (N := some 49) (v := ?_) (a' := ?_) #[true, true, true, true, true, true, true, true, true, true, true, true, true, false, false, false] rfl rfl (by kernel_rfl) (fun _ _ _ h => h) (Or.inl ⟨by rfl, ?_⟩) ?_ ?_
        rotate_left
        · intro w'
          go_simp
          with_reducible rfl
        rotate_left
        · simp only [Act.put, List.setIfInBounds_toArray, List.set_cons_zero, List.set_cons_succ, Go.Proofs.YtcjhligknhpadaaDoorW.PrintLast.i64_w, Go.Proofs.YtcjhligknhpadaaDoorW.PrintLast.i32_w]
          rfl
        refine Go.Proofs.YtcjhligknhpadaaDoorW.PrintLast.pure_ (i := 13) (N := some 50) (v := ?_) (a' := ?_) #[true, true, true, true, true, true, true, true, true, true, true, true, true, true, false, false] rfl rfl (by kernel_rfl) (fun _ _ _ h => h) (Or.inl ⟨by rfl, ?_⟩) ?_ ?_
        rotate_left
        · intro w'
          go_simp
          with_reducible rfl
        rotate_left
        · simp only [Act.put, List.setIfInBounds_toArray, List.set_cons_zero, List.set_cons_succ, Go.Proofs.YtcjhligknhpadaaDoorW.PrintLast.i64_w, Go.Proofs.YtcjhligknhpadaaDoorW.PrintLast.i32_w]
          rfl
        refine Go.Proofs.YtcjhligknhpadaaDoorW.PrintLast.pure_ (i := 14) (N := some 5) (v := ?_) (a' := ?_) #[true, true, true, true, true, true, true, true, true, true, true, true, true, true, true, false] rfl rfl (by kernel_rfl) (fun _ _ _ h => h) (Or.inl ⟨by rfl, ?_⟩) ?_ ?_
        rotate_left
        · intro w'
          go_simp
          with_reducible rfl
        rotate_left
        · simp only [Act.put, List.setIfInBounds_toArray, List.set_cons_zero, List.set_cons_succ, Go.Proofs.YtcjhligknhpadaaDoorW.PrintLast.i64_w, Go.Proofs.YtcjhligknhpadaaDoorW.PrintLast.i32_w]
          rfl
        refine Go.Proofs.YtcjhligknhpadaaDoorW.PrintLast.pure_ (i := 15) (N := some 6) (v := ?_) (a' := ?_) #[true, true, true, true, true, true, true, true, true, true, true, true, true, true, true, true] rfl rfl (by kernel_rfl) (fun _ _ _ h => h) (Or.inl ⟨by rfl, ?_⟩) ?_ ?_
        rotate_left
        · intro w'
          go_simp
          with_reducible rfl
        rotate_left
        · simp only [Act.put, List.setIfInBounds_toArray, List.set_cons_zero, List.set_cons_succ, Go.Proofs.YtcjhligknhpadaaDoorW.PrintLast.i64_w, Go.Proofs.YtcjhligknhpadaaDoorW.PrintLast.i32_w]
          rfl
        refine Go.Proofs.YtcjhligknhpadaaDoorW.PrintLast.done_ (by kernel_rfl) ?_
        go_wp2_with fail
        refine Go.Proofs.YtcjhligknhpadaaDoorW.PrintLast.start_ (n := 16) (S := fun v => ∀ a, v.cell? a = w.cell? a) (ds := [15]) #[false, false, false, false, false, false, false, false, false, false, false, false, false, false, false, false] (by kernel_rfl) rfl rfl (fun _ => rfl) (fun hHeld => ?_)
        refine Go.Proofs.YtcjhligknhpadaaDoorW.PrintLast.pure_ (i := 0) (N := some 51) (v := ?_) (a' := ?_) #[true, false, false, false, false, false, false, false, false, false, false, false, false, false, false, false] rfl rfl (by kernel_rfl) (fun _ _ _ h => h) (Or.inl ⟨by rfl, ?_⟩) ?_ ?_
        rotate_left
        · intro w'
          go_simp
          with_reducible rfl
        rotate_left
        · simp only [Act.put, List.setIfInBounds_toArray, List.set_cons_zero, List.set_cons_succ, Go.Proofs.YtcjhligknhpadaaDoorW.PrintLast.i64_w, Go.Proofs.YtcjhligknhpadaaDoorW.PrintLast.i32_w]
          rfl
        refine Go.Proofs.YtcjhligknhpadaaDoorW.PrintLast.pure_ (i := 1) (N := some 52) (v := ?_) (a' := ?_) #[true, true, false, false, false, false, false, false, false, false, false, false, false, false, false, false] rfl rfl (by kernel_rfl) (fun _ _ _ h => h) (Or.inl ⟨by rfl, ?_⟩) ?_ ?_
        rotate_left
        · intro w'
          go_simp
          with_reducible rfl
        rotate_left
        · simp only [Act.put, List.setIfInBounds_toArray, List.set_cons_zero, List.set_cons_succ, Go.Proofs.YtcjhligknhpadaaDoorW.PrintLast.i64_w, Go.Proofs.YtcjhligknhpadaaDoorW.PrintLast.i32_w]
          rfl
        refine Go.Proofs.YtcjhligknhpadaaDoorW.PrintLast.pure_ (i := 4) (N := some 55) (v := ?_) (a' := ?_) #[true, true, false, false, true, false, false, false, false, false, false, false, false, false, false, false] rfl rfl (by kernel_rfl) (fun _ _ _ h => h) (Or.inl ⟨by rfl, ?_⟩) ?_ ?_
        rotate_left
        · intro w'
          go_simp
          with_reducible rfl
        rotate_left
        · simp only [Act.put, List.setIfInBounds_toArray, List.set_cons_zero, List.set_cons_succ, Go.Proofs.YtcjhligknhpadaaDoorW.PrintLast.i64_w, Go.Proofs.YtcjhligknhpadaaDoorW.PrintLast.i32_w]
          rfl
        refine Go.Proofs.YtcjhligknhpadaaDoorW.PrintLast.pure_ (i := 5) (N := some 56) (v := ?_) (a' := ?_) #[true, true, false, false, true, true, false, false, false, false, false, false, false, false, false, false] rfl rfl (by kernel_rfl) (fun _ _ _ h => h) (Or.inl ⟨by rfl, ?_⟩) ?_ ?_
        rotate_left
        · intro w'
          go_simp
          with_reducible rfl
        rotate_left
        · simp only [Act.put, List.setIfInBounds_toArray, List.set_cons_zero, List.set_cons_succ, Go.Proofs.YtcjhligknhpadaaDoorW.PrintLast.i64_w, Go.Proofs.YtcjhligknhpadaaDoorW.PrintLast.i32_w]
          rfl
        refine Go.Proofs.YtcjhligknhpadaaDoorW.PrintLast.one_ (i := 2) (N := some 53) #[true, true, true, false, true, true, false, false, false, false, false, false, false, false, false, false] rfl rfl (by kernel_rfl) (by decide) (fun K hK => ?_)
        refine Go.Proofs.YtcjhligknhpadaaDoorW.PrintLast.goes_ Tryd.func35 (by kernel_rfl) rfl #[.slice (some ⟨I, fn + 8, none⟩) n _] (by rfl) rfl rfl (by (try simp only [List.map_toArray, List.map_cons, List.map_nil]); first | done | rfl) ?_
        refine (HSUM.out _ _ hHeld).mono ?_
        rintro e w2 ⟨rfl, rfl⟩
        refine ⟨_, rfl, ?_⟩
        refine hK.out _ _ hHeld (fun hHeld => ?_)
        clear hK K
        refine Go.Proofs.YtcjhligknhpadaaDoorW.PrintLast.norm_ (a' := ?_) ?_ ?_
        rotate_left
        · show Act.put _ (some 53) _ = _
          simp only [Act.put, List.setIfInBounds_toArray, List.set_cons_zero, List.set_cons_succ, Go.Proofs.YtcjhligknhpadaaDoorW.PrintLast.i64_w, Go.Proofs.YtcjhligknhpadaaDoorW.PrintLast.i32_w]
          rfl
        refine Go.Proofs.YtcjhligknhpadaaDoorW.PrintLast.pure_ (i := 3) (N := some 54) (v := ?_) (a' := ?_) #[true, true, true, true, true, true, false, false, false, false, false, false, false, false, false, false] rfl rfl (by kernel_rfl) (fun _ _ _ h => h) (Or.inl ⟨by rfl, ?_⟩) ?_ ?_
        rotate_left
        · intro w'
          go_simp
          with_reducible rfl
        rotate_left
        · simp only [Act.put, List.setIfInBounds_toArray, List.set_cons_zero, List.set_cons_succ, Go.Proofs.YtcjhligknhpadaaDoorW.PrintLast.i64_w, Go.Proofs.YtcjhligknhpadaaDoorW.PrintLast.i32_w]
          rfl
        refine Go.Proofs.YtcjhligknhpadaaDoorW.PrintLast.one_ (i := 6) (N := some 57) #[true, true, true, true, true, true, true, false, false, false, false, false, false, false, false, false] rfl rfl (by kernel_rfl) (by decide) (fun K hK => ?_)
        refine Go.Proofs.YtcjhligknhpadaaDoorW.PrintLast.goes_ Tryd.func33 (by kernel_rfl) rfl #[.slice (some ⟨I, fn + 4, none⟩) 4 _] (by rfl) rfl rfl (by (try simp only [List.map_toArray, List.map_cons, List.map_nil]); first | done | rfl) ?_
        refine (HG2.out _ _ hHeld).mono ?_
        rintro e w2 ⟨rfl, rfl⟩
        refine ⟨_, rfl, ?_⟩
        refine hK.out _ _ hHeld (fun hHeld => ?_)
        clear hK K
        refine Go.Proofs.YtcjhligknhpadaaDoorW.PrintLast.norm_ (a' := ?_) ?_ ?_
        rotate_left
        · show Act.put _ (some 57) _ = _
          simp only [Act.put, List.setIfInBounds_toArray, List.set_cons_zero, List.set_cons_succ, Go.Proofs.YtcjhligknhpadaaDoorW.PrintLast.i64_w, Go.Proofs.YtcjhligknhpadaaDoorW.PrintLast.i32_w]
          rfl
        refine Go.Proofs.YtcjhligknhpadaaDoorW.PrintLast.pure_ (i := 7) (N := some 58) (v := ?_) (a' := ?_) #[true, true, true, true, true, true, true, true, false, false, false, false, false, false, false, false] rfl rfl (by kernel_rfl) (fun _ _ _ h => h) (Or.inl ⟨by rfl, ?_⟩) ?_ ?_
        rotate_left
        · intro w'
          go_simp
          with_reducible rfl
        rotate_left
        · simp only [Act.put, List.setIfInBounds_toArray, List.set_cons_zero, List.set_cons_succ, Go.Proofs.YtcjhligknhpadaaDoorW.PrintLast.i64_w, Go.Proofs.YtcjhligknhpadaaDoorW.PrintLast.i32_w]
          rfl
        refine Go.Proofs.YtcjhligknhpadaaDoorW.PrintLast.pure_ (i := 8) (N := some 59) (v := ?_) (a' := ?_) #[true, true, true, true, true, true, true, true, true, false, false, false, false, false, false, false] rfl rfl (by kernel_rfl) (fun _ _ _ h => h) (Or.inl ⟨by rfl, ?_⟩) ?_ ?_
        rotate_left
        · intro w'
          go_simp
          with_reducible rfl
        rotate_left
        · simp only [Act.put, List.setIfInBounds_toArray, List.set_cons_zero, List.set_cons_succ, Go.Proofs.YtcjhligknhpadaaDoorW.PrintLast.i64_w, Go.Proofs.YtcjhligknhpadaaDoorW.PrintLast.i32_w]
          rfl
        refine Go.Proofs.YtcjhligknhpadaaDoorW.PrintLast.pure_ (i := 9) (N := some 60) (v := ?_) (a' := ?_) #[true, true, true, true, true, true, true, true, true, true, false, false, false, false, false, false] rfl rfl (by kernel_rfl) (fun _ _ _ h => h) (Or.inl ⟨by rfl, ?_⟩) ?_ ?_
        rotate_left
        · intro w'
          go_simp
          with_reducible rfl
        rotate_left
        · simp only [Act.put, List.setIfInBounds_toArray, List.set_cons_zero, List.set_cons_succ, Go.Proofs.YtcjhligknhpadaaDoorW.PrintLast.i64_w, Go.Proofs.YtcjhligknhpadaaDoorW.PrintLast.i32_w]
          rfl
        refine Go.Proofs.YtcjhligknhpadaaDoorW.PrintLast.one_ (i := 10) (N := some 61) #[true, true, true, true, true, true, true, true, true, true, true, false, false, false, false, false] rfl rfl (by kernel_rfl) (by decide) (fun K hK => ?_)
        refine Go.Proofs.YtcjhligknhpadaaDoorW.PrintLast.goes_ Tryd.func36 (by kernel_rfl) rfl #[.slice (some ⟨I, fn, none⟩) _ _, .string ⟨#[0]⟩] (by rfl) rfl rfl (by (try simp only [List.map_toArray, List.map_cons, List.map_nil]); first | done | rfl) ?_
        refine (HTR.out _ _ _ _ hHeld (by first | (intro; rfl) | (intro; omega)) (by omega) (by omega)).mono ?_
        rintro e w2 ⟨⟨m, ⟨a', n', c', rfl, hn'⟩, hm⟩, k, rfl⟩
        refine ⟨_, rfl, ?_⟩
        refine hK.out _ _ (fun a => hHeld a) (fun hHeld => ?_)
        clear hK K
        refine Go.Proofs.YtcjhligknhpadaaDoorW.PrintLast.norm_ (a' := ?_) ?_ ?_
        rotate_left
        · show Act.put _ (some 61) _ = _
          simp only [Act.put, List.setIfInBounds_toArray, List.set_cons_zero, List.set_cons_succ, Go.Proofs.YtcjhligknhpadaaDoorW.PrintLast.i64_w, Go.Proofs.YtcjhligknhpadaaDoorW.PrintLast.i32_w]
          rfl
        refine Go.Proofs.YtcjhligknhpadaaDoorW.PrintLast.take_ (i := 11) (N := some 62) (v := ?_) (a' := ?_) #[true, true, true, true, true, true, true, true, true, true, true, true, false, false, false, false] rfl rfl (by kernel_rfl) (fun _ _ _ h => h) (Or.inl ⟨by rfl, ?_⟩) hHeld ?_ ?_
        rotate_left
        · rintro w' _
          go_simp
          with_reducible rfl
        rotate_left
        · simp only [Act.put, List.setIfInBounds_toArray, List.set_cons_zero, List.set_cons_succ, Go.Proofs.YtcjhligknhpadaaDoorW.PrintLast.i64_w, Go.Proofs.YtcjhligknhpadaaDoorW.PrintLast.i32_w]
          rfl
        refine Go.Proofs.YtcjhligknhpadaaDoorW.PrintLast.pure_ (i := 12) (N := some 63) (v := ?_) (a' := ?_) #[true, true, true, true, true, true, true, true, true, true, true, true, true, false, false, false] rfl rfl (by kernel_rfl) (fun _ _ _ h => h) (Or.inl ⟨by rfl, ?_⟩) ?_ ?_
        rotate_left
        · intro w'
          go_simp
          with_reducible rfl
        rotate_left
        · simp only [Act.put, List.setIfInBounds_toArray, List.set_cons_zero, List.set_cons_succ, Go.Proofs.YtcjhligknhpadaaDoorW.PrintLast.i64_w, Go.Proofs.YtcjhligknhpadaaDoorW.PrintLast.i32_w]
          rfl
        refine Go.Proofs.YtcjhligknhpadaaDoorW.PrintLast.pure_ (i := 13) (N := some 64) (v := ?_) (a' := ?_) #[true, true, true, true, true, true, true, true, true, true, true, true, true, true, false, false] rfl rfl (by kernel_rfl) (fun _ _ _ h => h) (Or.inl ⟨by rfl, ?_⟩) ?_ ?_
        rotate_left
        · intro w'
          go_simp
          with_reducible rfl
        rotate_left
        · simp only [Act.put, List.setIfInBounds_toArray, List.set_cons_zero, List.set_cons_succ, Go.Proofs.YtcjhligknhpadaaDoorW.PrintLast.i64_w, Go.Proofs.YtcjhligknhpadaaDoorW.PrintLast.i32_w]
          rfl
        refine Go.Proofs.YtcjhligknhpadaaDoorW.PrintLast.pure_ (i := 14) (N := some 1) (v := ?_) (a' := ?_) #[true, true, true, true, true, true, true, true, true, true, true, true, true, true, true, false] rfl rfl (by kernel_rfl) (fun _ _ _ h => h) (Or.inl ⟨by rfl, ?_⟩) ?_ ?_
        rotate_left
        · intro w'
          go_simp
          with_reducible rfl
        rotate_left
        · simp only [Act.put, List.setIfInBounds_toArray, List.set_cons_zero, List.set_cons_succ, Go.Proofs.YtcjhligknhpadaaDoorW.PrintLast.i64_w, Go.Proofs.YtcjhligknhpadaaDoorW.PrintLast.i32_w]
          rfl
        refine Go.Proofs.YtcjhligknhpadaaDoorW.PrintLast.pure_ (i := 15) (N := some 2) (v := ?_) (a' := ?_) #[true, true, true, true, true, true, true, true, true, true, true, true, true, true, true, true] rfl rfl (by kernel_rfl) (fun _ _ _ h => h) (Or.inl ⟨by rfl, ?_⟩) ?_ ?_
        rotate_left
        · intro w'
          go_simp
          with_reducible rfl
        rotate_left
        · simp only [Act.put, List.setIfInBounds_toArray, List.set_cons_zero, List.set_cons_succ, Go.Proofs.YtcjhligknhpadaaDoorW.PrintLast.i64_w, Go.Proofs.YtcjhligknhpadaaDoorW.PrintLast.i32_w]
          rfl
        refine Go.Proofs.YtcjhligknhpadaaDoorW.PrintLast.done_ (by kernel_rfl) ?_
        go_wp2_with fail
        go_ret2
        cases zz with
        | true =>
          have q : n' = 0 := hn'.2 (hm.2 rfl)
          subst q
          exact ⟨⟨1 + (1 + (1 + k)), by simp⟩, .inl ⟨(t.drop 8).take n, _, by rw [HFR.out, if_pos (by simp)], by rw [hrl]; rfl⟩⟩
        | false =>
          have q : ¬ n' = 0 := fun q => by have := hm.1 (hn'.1 q); cases this
          have q' : ((n' : Int) == 0) = false := by simp; omega
          exact ⟨⟨1 + (1 + (1 + k)), by simp⟩, .inr ⟨by rw [HFR.out, if_neg (by simp)], _, by first | rfl | (simp only [q']; rfl)⟩⟩
      · have hq' : (cs == gt) = false := by simpa using hq
        go_enter Tryd.func32, Tryd.ntmps32
        go_wp2_with fail
        refine Go.Proofs.YtcjhligknhpadaaDoorW.PrintLast.start_ (n := 10) (S := fun v => v.cell? ⟨Bx, 0, none⟩ = some (.pointer (some ⟨P, 0, none⟩)) ∧ v.cell? ⟨P, 6, none⟩ = some (.slice (some ⟨I, 0, none⟩) (S * 128) (S * 128)) ∧ v.cell? ⟨P, 5, none⟩ = some (.int .i64 fn)) (ds := [9]) #[false, false, false, false, false, false, false, false, false, false] (by kernel_rfl) rfl rfl ⟨cb, c6, c5⟩ (fun hHeld => ?_)
        refine Go.Proofs.YtcjhligknhpadaaDoorW.PrintLast.take_ (i := 0) (N := some 7) (v := ?_) (a' := ?_) #[true, false, false, false, false, false, false, false, false, false] rfl rfl (by kernel_rfl) (fun _ _ _ h => h) (Or.inl ⟨by rfl, ?_⟩) hHeld ?_ ?_
        rotate_left
        · rintro w' ⟨s0, s1, s2⟩
          go_simp
          with_reducible rfl
        rotate_left
        · simp only [Act.put, List.setIfInBounds_toArray, List.set_cons_zero, List.set_cons_succ, Go.Proofs.YtcjhligknhpadaaDoorW.PrintLast.i64_w, Go.Proofs.YtcjhligknhpadaaDoorW.PrintLast.i32_w]
          rfl
        refine Go.Proofs.YtcjhligknhpadaaDoorW.PrintLast.pure_ (i := 1) (N := some 8) (v := ?_) (a' := ?_) #[true, true, false, false, false, false, false, false, false, false] rfl rfl (by kernel_rfl) (fun _ _ _ h => h) (Or.inl ⟨by rfl, ?_⟩) ?_ ?_
        rotate_left
        · intro w'
          go_simp
          with_reducible rfl
        rotate_left
        · simp only [Act.put, List.setIfInBounds_toArray, List.set_cons_zero, List.set_cons_succ, Go.Proofs.YtcjhligknhpadaaDoorW.PrintLast.i64_w, Go.Proofs.YtcjhligknhpadaaDoorW.PrintLast.i32_w]
          rfl
        refine Go.Proofs.YtcjhligknhpadaaDoorW.PrintLast.pure_ (i := 2) (N := some 9) (v := ?_) (a' := ?_) #[true, true, true, false, false, false, false, false, false, false] rfl rfl (by kernel_rfl) (fun _ _ _ h => h) (Or.inl ⟨by rfl, ?_⟩) ?_ ?_
        rotate_left
        · intro w'
          go_simp
          with_reducible rfl
        rotate_left
        · simp only [Act.put, List.setIfInBounds_toArray, List.set_cons_zero, List.set_cons_succ, Go.Proofs.YtcjhligknhpadaaDoorW.PrintLast.i64_w, Go.Proofs.YtcjhligknhpadaaDoorW.PrintLast.i32_w]
          rfl
        refine Go.Proofs.YtcjhligknhpadaaDoorW.PrintLast.take_ (i := 3) (N := some 10) (v := ?_) (a' := ?_) #[true, true, true, true, false, false, false, false, false, false] rfl rfl (by kernel_rfl) (fun _ _ _ h => h) (Or.inl ⟨by rfl, ?_⟩) hHeld ?_ ?_
        rotate_left
        · rintro w' ⟨s0, s1, s2⟩
          go_simp
          with_reducible rfl
        rotate_left
        · simp only [Act.put, List.setIfInBounds_toArray, List.set_cons_zero, List.set_cons_succ, Go.Proofs.YtcjhligknhpadaaDoorW.PrintLast.i64_w, Go.Proofs.YtcjhligknhpadaaDoorW.PrintLast.i32_w]
          rfl
        refine Go.Proofs.YtcjhligknhpadaaDoorW.PrintLast.take_ (i := 4) (N := some 11) (v := ?_) (a' := ?_) #[true, true, true, true, true, false, false, false, false, false] rfl rfl (by kernel_rfl) (fun _ _ _ h => h) (Or.inl ⟨by rfl, ?_⟩) hHeld ?_ ?_
        rotate_left
        · rintro w' ⟨s0, s1, s2⟩
          go_simp
          with_reducible rfl
        rotate_left
        · simp only [Act.put, List.setIfInBounds_toArray, List.set_cons_zero, List.set_cons_succ, Go.Proofs.YtcjhligknhpadaaDoorW.PrintLast.i64_w, Go.Proofs.YtcjhligknhpadaaDoorW.PrintLast.i32_w]
          rfl
        refine Go.Proofs.YtcjhligknhpadaaDoorW.PrintLast.pure_ (i := 5) (N := some 12) (v := ?_) (a' := ?_) #[true, true, true, true, true, true, false, false, false, false] rfl rfl (by kernel_rfl) (fun _ _ _ h => h) (Or.inl ⟨by rfl, ?_⟩) ?_ ?_
        rotate_left
        · intro w'
          go_simp
          with_reducible rfl
        rotate_left
        · simp only [Act.put, List.setIfInBounds_toArray, List.set_cons_zero, List.set_cons_succ, Go.Proofs.YtcjhligknhpadaaDoorW.PrintLast.i64_w, Go.Proofs.YtcjhligknhpadaaDoorW.PrintLast.i32_w]
          rfl
        refine Go.Proofs.YtcjhligknhpadaaDoorW.PrintLast.pure_ (i := 6) (N := some 13) (v := ?_) (a' := ?_) #[true, true, true, true, true, true, true, false, false, false] rfl rfl (by kernel_rfl) (fun _ _ _ h => h) (Or.inl ⟨by rfl, ?_⟩) ?_ ?_
        rotate_left
        · intro w'
          go_simp
          with_reducible rfl
        rotate_left
        · simp only [Act.put, List.setIfInBounds_toArray, List.set_cons_zero, List.set_cons_succ, Go.Proofs.YtcjhligknhpadaaDoorW.PrintLast.i64_w, Go.Proofs.YtcjhligknhpadaaDoorW.PrintLast.i32_w]
          rfl
        refine Go.Proofs.YtcjhligknhpadaaDoorW.PrintLast.take_ (i := 7) (N := some 14) (v := ?_) (a' := ?_) #[true, true, true, true, true, true, true, true, false, false] rfl rfl (by kernel_rfl) (fun _ _ _ h => h) (Or.inl ⟨by rfl, ?_⟩) hHeld ?_ ?_
        rotate_left
        · rintro w' ⟨s0, s1, s2⟩
          go_simp
          with_reducible rfl
        rotate_left
        · simp only [Act.put, List.setIfInBounds_toArray, List.set_cons_zero, List.set_cons_succ, Go.Proofs.YtcjhligknhpadaaDoorW.PrintLast.i64_w, Go.Proofs.YtcjhligknhpadaaDoorW.PrintLast.i32_w]
          rfl
        refine Go.Proofs.YtcjhligknhpadaaDoorW.PrintLast.pure_ (i := 8) (N := some 15) (v := ?_) (a' := ?_) #[true, true, true, true, true, true, true, true, true, false] rfl rfl (by kernel_rfl) (fun _ _ _ h => h) (Or.inl ⟨by rfl, ?_⟩) ?_ ?_
        rotate_left
        · intro w'
          go_simp
          with_reducible rfl
        rotate_left
        · simp only [Act.put, List.setIfInBounds_toArray, List.set_cons_zero, List.set_cons_succ, Go.Proofs.YtcjhligknhpadaaDoorW.PrintLast.i64_w, Go.Proofs.YtcjhligknhpadaaDoorW.PrintLast.i32_w]
          rfl
        refine Go.Proofs.YtcjhligknhpadaaDoorW.PrintLast.pure_ (i := 9) (N := some 3) (v := ?_) (a' := ?_) #[true, true, true, true, true, true, true, true, true, true] rfl rfl (by kernel_rfl) (fun _ _ _ h => h) (Or.inl ⟨by rfl, ?_⟩) ?_ ?_
        rotate_left
        · intro w'
          go_simp
          with_reducible rfl
        rotate_left
        · simp only [Act.put, List.setIfInBounds_toArray, List.set_cons_zero, List.set_cons_succ, Go.Proofs.YtcjhligknhpadaaDoorW.PrintLast.i64_w, Go.Proofs.YtcjhligknhpadaaDoorW.PrintLast.i32_w]
          rfl
        refine Go.Proofs.YtcjhligknhpadaaDoorW.PrintLast.done_ (by kernel_rfl) ?_
        go_wp2_with (first | (go_at_call 33; refine (HG1.out _ _ (by intro _; rfl)).mono ?_; rintro e w2 ⟨rfl, rfl⟩) | (go_at_call 34; refine (padded_any n _ (by omega)).mono ?_; rintro e w3 ⟨rfl, rfl⟩))
        refine Go.Proofs.YtcjhligknhpadaaDoorW.PrintLast.start_ (n := 16) (S := fun v => True) (ds := [15]) #[false, false, false, false, false, false, false, false, false, false, false, false, false, false, false, false] (by kernel_rfl) rfl rfl trivial (fun hHeld => ?_)
        refine Go.Proofs.YtcjhligknhpadaaDoorW.PrintLast.pure_ (i := 0) (N := some 37) (v := ?_) (a' := ?_) #[true, false, false, false, false, false, false, false, false, false, false, false, false, false, false, false] rfl rfl (by kernel_rfl) (fun _ _ _ h => h) (Or.inl ⟨by rfl, ?_⟩) ?_ ?_
        rotate_left
        · intro w'
          go_simp
          with_reducible rfl
        rotate_left
        · simp only [Act.put, List.setIfInBounds_toArray, List.set_cons_zero, List.set_cons_succ, Go.Proofs.YtcjhligknhpadaaDoorW.PrintLast.i64_w, Go.Proofs.YtcjhligknhpadaaDoorW.PrintLast.i32_w]
          rfl
        refine Go.Proofs.YtcjhligknhpadaaDoorW.PrintLast.pure_ (i := 1) (N := some 38) (v := ?_) (a' := ?_) #[true, true, false, false, false, false, false, false, false, false, false, false, false, false, false, false] rfl rfl (by kernel_rfl) (fun _ _ _ h => h) (Or.inl ⟨by rfl, ?_⟩) ?_ ?_
        rotate_left
        · intro w'
          go_simp
          with_reducible rfl
        rotate_left
        · simp only [Act.put, List.setIfInBounds_toArray, List.set_cons_zero, List.set_cons_succ, Go.Proofs.YtcjhligknhpadaaDoorW.PrintLast.i64_w, Go.Proofs.YtcjhligknhpadaaDoorW.PrintLast.i32_w]
          rfl
        refine Go.Proofs.YtcjhligknhpadaaDoorW.PrintLast.pure_ (i := 2) (N := some 39) (v := ?_) (a' := ?_) #[true, true, true, false, false, false, false, false, false, false, false, false, false, false, false, false] rfl rfl (by kernel_rfl) (fun _ _ _ h => h) (Or.inl ⟨by rfl, ?_⟩) ?_ ?_
        rotate_left
        · intro w'
          go_simp
          with_reducible rfl
        rotate_left
        · simp only [Act.put, List.setIfInBounds_toArray, List.set_cons_zero, List.set_cons_succ, Go.Proofs.YtcjhligknhpadaaDoorW.PrintLast.i64_w, Go.Proofs.YtcjhligknhpadaaDoorW.PrintLast.i32_w]
          rfl
        refine Go.Proofs.YtcjhligknhpadaaDoorW.PrintLast.pure_ (i := 3) (N := some 40) (v := ?_) (a' := ?_) #[true, true, true, true, false, false, false, false, false, false, false, false, false, false, false, false] rfl rfl (by kernel_rfl) (fun _ _ _ h => h) (Or.inl ⟨by rfl, ?_⟩) ?_ ?_
        rotate_left
        · intro w'
          go_simp
          with_reducible rfl
        rotate_left
        · simp only [Act.put, List.setIfInBounds_toArray, List.set_cons_zero, List.set_cons_succ, Go.Proofs.YtcjhligknhpadaaDoorW.PrintLast.i64_w, Go.Proofs.YtcjhligknhpadaaDoorW.PrintLast.i32_w]
          rfl
        refine Go.Proofs.YtcjhligknhpadaaDoorW.PrintLast.pure_ (i := 4) (N := some 41) (v := ?_) (a' := ?_) #[true, true, true, true, true, false, false, false, false, false, false, false, false, false, false, false] rfl rfl (by kernel_rfl) (fun _ _ _ h => h) (Or.inl ⟨by rfl, ?_⟩) ?_ ?_
        rotate_left
        · intro w'
          go_simp
          with_reducible rfl
        rotate_left
        · simp only [Act.put, List.setIfInBounds_toArray, List.set_cons_zero, List.set_cons_succ, Go.Proofs.YtcjhligknhpadaaDoorW.PrintLast.i64_w, Go.Proofs.YtcjhligknhpadaaDoorW.PrintLast.i32_w]
          rfl
        refine Go.Proofs.YtcjhligknhpadaaDoorW.PrintLast.pure_ (i := 5) (N := some 42) (v := ?_) (a' := ?_) #[true, true, true, true, true, true, false, false, false, false, false, false, false, false, false, false] rfl rfl (by kernel_rfl) (fun _ _ _ h => h) (Or.inl ⟨by rfl, ?_⟩) ?_ ?_
        rotate_left
        · intro w'
          go_simp
          with_reducible rfl
        rotate_left
        · simp only [Act.put, List.setIfInBounds_toArray, List.set_cons_zero, List.set_cons_succ, Go.Proofs.YtcjhligknhpadaaDoorW.PrintLast.i64_w, Go.Proofs.YtcjhligknhpadaaDoorW.PrintLast.i32_w]
          rfl
        refine Go.Proofs.YtcjhligknhpadaaDoorW.PrintLast.pure_ (i := 6) (N := some 43) (v := ?_) (a' := ?_) #[true, true, true, true, true, true, true, false, false, false, false, false, false, false, false, false] rfl rfl (by kernel_rfl) (fun _ _ _ h => h) (Or.inl ⟨by rfl, ?_⟩) ?_ ?_
        rotate_left
        · intro w'
          go_simp
          with_reducible rfl
        rotate_left
        · simp only [Act.put, List.setIfInBounds_toArray, List.set_cons_zero, List.set_cons_succ, Go.Proofs.YtcjhligknhpadaaDoorW.PrintLast.i64_w, Go.Proofs.YtcjhligknhpadaaDoorW.PrintLast.i32_w]
          rfl
        refine Go.Proofs.YtcjhligknhpadaaDoorW.PrintLast.pure_ (i := 7) (N := some 44) (v := ?_) (a' := ?_) #[true, true, true, true, true, true, true, true, false, false, false, false, false, false, false, false] rfl rfl (by kernel_rfl) (fun _ _ _ h => h) (Or.inl ⟨by rfl, ?_⟩) ?_ ?_
        rotate_left
        · intro w'
          go_simp
          with_reducible rfl
        rotate_left
        · simp only [Act.put, List.setIfInBounds_toArray, List.set_cons_zero, List.set_cons_succ, Go.Proofs.YtcjhligknhpadaaDoorW.PrintLast.i64_w, Go.Proofs.YtcjhligknhpadaaDoorW.PrintLast.i32_w]
          rfl
        refine Go.Proofs.YtcjhligknhpadaaDoorW.PrintLast.pure_ (i := 8) (N := some 45) (v := ?_) (a' := ?_) #[true, true, true, true, true, true, true, true, true, false, false, false, false, false, false, false] rfl rfl (by kernel_rfl) (fun _ _ _ h => h) (Or.inl ⟨by rfl, ?_⟩) ?_ ?_
        rotate_left
        · intro w'
          go_simp
          with_reducible rfl
        rotate_left
        · simp only [Act.put, List.setIfInBounds_toArray, List.set_cons_zero, List.set_cons_succ, Go.Proofs.YtcjhligknhpadaaDoorW.PrintLast.i64_w, Go.Proofs.YtcjhligknhpadaaDoorW.PrintLast.i32_w]
          rfl
        refine Go.Proofs.YtcjhligknhpadaaDoorW.PrintLast.pure_ (i := 9) (N := some 46) (v := ?_) (a' := ?_) #[true, true, true, true, true, true, true, true, true, true, false, false, false, false, false, false] rfl rfl (by kernel_rfl) (fun _ _ _ h => h) (Or.inl ⟨by rfl, ?_⟩) ?_ ?_
        rotate_left
        · intro w'
          go_simp
          with_reducible rfl
        rotate_left
        · simp only [Act.put, List.setIfInBounds_toArray, List.set_cons_zero, List.set_cons_succ, Go.Proofs.YtcjhligknhpadaaDoorW.PrintLast.i64_w, Go.Proofs.YtcjhligknhpadaaDoorW.PrintLast.i32_w]
          rfl
        refine Go.Proofs.YtcjhligknhpadaaDoorW.PrintLast.pure_ (i := 10) (N := some 47) (v := ?_) (a' := ?_) #[true, true, true, true, true, true, true, true, true, true, true, false, false, false, false, false] rfl rfl (by kernel_rfl) (fun _ _ _ h => h) (Or.inl ⟨by rfl, ?_⟩) ?_ ?_
        rotate_left
        · intro w'
          go_simp
          with_reducible rfl
        rotate_left
        · simp only [Act.put, List.setIfInBounds_toArray, List.set_cons_zero, List.set_cons_succ, Go.Proofs.YtcjhligknhpadaaDoorW.PrintLast.i64_w, Go.Proofs.YtcjhligknhpadaaDoorW.PrintLast.i32_w]
          rfl
        refine Go.Proofs.YtcjhligknhpadaaDoorW.PrintLast.one_ (i := 11) (N := some 48) #[true, true, true, true, true, true, true, true, true, true, true, true, false, false, false, false] rfl rfl (by kernel_rfl) (by decide) (fun K hK => ?_)
        refine Go.Proofs.YtcjhligknhpadaaDoorW.PrintLast.goes_ Tryd.func34 (by kernel_rfl) rfl #[.int .i64 n] (by rfl) rfl rfl (by (try simp only [List.map_toArray, List.map_cons, List.map_nil]); first | done | rfl) ?_
        refine (padded_any n _ (by omega)).mono ?_
        rintro e w4 ⟨rfl, rfl⟩
        refine ⟨_, rfl, ?_⟩
        refine hK.out _ _ trivial (fun hHeld => ?_)
        clear hK K
        refine Go.Proofs.YtcjhligknhpadaaDoorW.PrintLast.norm_ (a' := ?_) ?_ ?_
        rotate_left
        · show Act.put _ (some 48) _ = _
          simp only [Act.put, List.setIfInBounds_toArray, List.set_cons_zero, List.set_cons_succ, Go.Proofs.YtcjhligknhpadaaDoorW.PrintLast.i64_w, Go.Proofs.YtcjhligknhpadaaDoorW.PrintLast.i32_w]
          rfl
        refine Go.Proofs.YtcjhligknhpadaaDoorW.PrintLast.pure_ (i := 12) (N := some 49) (v := ?_) (a' := ?_) #[true, true, true, true, true, true, true, true, true, true, true, true, true, false, false, false] rfl rfl (by kernel_rfl) (fun _ _ _ h => h) (Or.inl ⟨by rfl, ?_⟩) ?_ ?_
        rotate_left
        · intro w'
          go_simp
          with_reducible rfl
        rotate_left
        · simp only [Act.put, List.setIfInBounds_toArray, List.set_cons_zero, List.set_cons_succ, Go.Proofs.YtcjhligknhpadaaDoorW.PrintLast.i64_w, Go.Proofs.YtcjhligknhpadaaDoorW.PrintLast.i32_w]
          rfl
        refine Go.Proofs.YtcjhligknhpadaaDoorW.PrintLast.pure_ (i := 13) (N := some 50) (v := ?_) (a' := ?_) #[true, true, true, true, true, true, true, true, true, true, true, true, true, true, false, false] rfl rfl (by kernel_rfl) (fun _ _ _ h => h) (Or.inl ⟨by rfl, ?_⟩) ?_ ?_
        rotate_left
        · intro w'
          go_simp
          with_reducible rfl
        rotate_left
        · simp only [Act.put, List.setIfInBounds_toArray, List.set_cons_zero, List.set_cons_succ, Go.Proofs.YtcjhligknhpadaaDoorW.PrintLast.i64_w, Go.Proofs.YtcjhligknhpadaaDoorW.PrintLast.i32_w]
          rfl
        refine Go.Proofs.YtcjhligknhpadaaDoorW.PrintLast.pure_ (i := 14) (N := some 5) (v := ?_) (a' := ?_) #[true, true, true, true, true, true, true, true, true, true, true, true, true, true, true, false] rfl rfl (by kernel_rfl) (fun _ _ _ h => h) (Or.inl ⟨by rfl, ?_⟩) ?_ ?_
        rotate_left
        · intro w'
          go_simp
          with_reducible rfl
        rotate_left
        · simp only [Act.put, List.setIfInBounds_toArray, List.set_cons_zero, List.set_cons_succ, Go.Proofs.YtcjhligknhpadaaDoorW.PrintLast.i64_w, Go.Proofs.YtcjhligknhpadaaDoorW.PrintLast.i32_w]
          rfl
        refine Go.Proofs.YtcjhligknhpadaaDoorW.PrintLast.pure_ (i := 15) (N := some 6) (v := ?_) (a' := ?_) #[true, true, true, true, true, true, true, true, true, true, true, true, true, true, true, true] rfl rfl (by kernel_rfl) (fun _ _ _ h => h) (Or.inl ⟨by rfl, ?_⟩) ?_ ?_
        rotate_left
        · intro w'
          go_simp
          with_reducible rfl
        rotate_left
        · simp only [Act.put, List.setIfInBounds_toArray, List.set_cons_zero, List.set_cons_succ, Go.Proofs.YtcjhligknhpadaaDoorW.PrintLast.i64_w, Go.Proofs.YtcjhligknhpadaaDoorW.PrintLast.i32_w]
          rfl
        refine Go.Proofs.YtcjhligknhpadaaDoorW.PrintLast.done_ (by kernel_rfl) ?_
        go_wp2_with fail
        refine Go.Proofs.YtcjhligknhpadaaDoorW.PrintLast.start_ (n := 16) (S := fun v => ∀ a, v.cell? a = w.cell? a) (ds := [15]) #[false, false, false, false, false, false, false, false, false, false, false, false, false, false, false, false] (by kernel_rfl) rfl rfl (fun _ => rfl) (fun hHeld => ?_)
        refine Go.Proofs.YtcjhligknhpadaaDoorW.PrintLast.pure_ (i := 0) (N := some 51) (v := ?_) (a' := ?_) #[true, false, false, false, false, false, false, false, false, false, false, false, false, false, false, false] rfl rfl (by kernel_rfl) (fun _ _ _ h => h) (Or.inl ⟨by rfl, ?_⟩) ?_ ?_
        rotate_left
        · intro w'
          go_simp
          with_reducible rfl
        rotate_left
        · simp only [Act.put, List.setIfInBounds_toArray, List.set_cons_zero, List.set_cons_succ, Go.Proofs.YtcjhligknhpadaaDoorW.PrintLast.i64_w, Go.Proofs.YtcjhligknhpadaaDoorW.PrintLast.i32_w]
          rfl
        refine Go.Proofs.YtcjhligknhpadaaDoorW.PrintLast.pure_ (i := 1) (N := some 52) (v := ?_) (a' := ?_) #[true, true, false, false, false, false, false, false, false, false, false, false, false, false, false, false] rfl rfl (by kernel_rfl) (fun _ _ _ h => h) (Or.inl ⟨by rfl, ?_⟩) ?_ ?_
        rotate_left
        · intro w'
          go_simp
          with_reducible rfl
        rotate_left
        · simp only [Act.put, List.setIfInBounds_toArray, List.set_cons_zero, List.set_cons_succ, Go.Proofs.YtcjhligknhpadaaDoorW.PrintLast.i64_w, Go.Proofs.YtcjhligknhpadaaDoorW.PrintLast.i32_w]
          rfl
        refine Go.Proofs.YtcjhligknhpadaaDoorW.PrintLast.pure_ (i := 4) (N := some 55) (v := ?_) (a' := ?_) #[true, true, false, false, true, false, false, false, false, false, false, false, false, false, false, false] rfl rfl (by kernel_rfl) (fun _ _ _ h => h) (Or.inl ⟨by rfl, ?_⟩) ?_ ?_
        rotate_left
        · intro w'
          go_simp
          with_reducible rfl
        rotate_left
        · simp only [Act.put, List.setIfInBounds_toArray, List.set_cons_zero, List.set_cons_succ, Go.Proofs.YtcjhligknhpadaaDoorW.PrintLast.i64_w, Go.Proofs.YtcjhligknhpadaaDoorW.PrintLast.i32_w]
          rfl
        refine Go.Proofs.YtcjhligknhpadaaDoorW.PrintLast.pure_ (i := 5) (N := some 56) (v := ?_) (a' := ?_) #[true, true, false, false, true, true, false, false, false, false, false, false, false, false, false, false] rfl rfl (by kernel_rfl) (fun _ _ _ h => h) (Or.inl ⟨by rfl, ?_⟩) ?_ ?_
        rotate_left
        · intro w'
          go_simp
          with_reducible rfl
        rotate_left
        · simp only [Act.put, List.setIfInBounds_toArray, List.set_cons_zero, List.set_cons_succ, Go.Proofs.YtcjhligknhpadaaDoorW.PrintLast.i64_w, Go.Proofs.YtcjhligknhpadaaDoorW.PrintLast.i32_w]
          rfl
        refine Go.Proofs.YtcjhligknhpadaaDoorW.PrintLast.one_ (i := 2) (N := some 53) #[true, true, true, false, true, true, false, false, false, false, false, false, false, false, false, false] rfl rfl (by kernel_rfl) (by decide) (fun K hK => ?_)
        refine Go.Proofs.YtcjhligknhpadaaDoorW.PrintLast.goes_ Tryd.func35 (by kernel_rfl) rfl #[.slice (some ⟨I, fn + 8, none⟩) n _] (by rfl) rfl rfl (by (try simp only [List.map_toArray, List.map_cons, List.map_nil]); first | done | rfl) ?_
        refine (HSUM.out _ _ hHeld).mono ?_
        rintro e w2 ⟨rfl, rfl⟩
        refine ⟨_, rfl, ?_⟩
        refine hK.out _ _ hHeld (fun hHeld => ?_)
        clear hK K
        refine Go.Proofs.YtcjhligknhpadaaDoorW.PrintLast.norm_ (a' := ?_) ?_ ?_
        rotate_left
        · show Act.put _ (some 53) _ = _
          simp only [Act.put, List.setIfInBounds_toArray, List.set_cons_zero, List.set_cons_succ, Go.Proofs.YtcjhligknhpadaaDoorW.PrintLast.i64_w, Go.Proofs.YtcjhligknhpadaaDoorW.PrintLast.i32_w]
          rfl
        refine Go.Proofs.YtcjhligknhpadaaDoorW.PrintLast.pure_ (i := 3) (N := some 54) (v := ?_) (a' := ?_) #[true, true, true, true, true, true, false, false, false, false, false, false, false, false, false, false] rfl rfl (by kernel_rfl) (fun _ _ _ h => h) (Or.inl ⟨by rfl, ?_⟩) ?_ ?_
        rotate_left
        · intro w'
          go_simp
          with_reducible rfl
        rotate_left
        · simp only [Act.put, List.setIfInBounds_toArray, List.set_cons_zero, List.set_cons_succ, Go.Proofs.YtcjhligknhpadaaDoorW.PrintLast.i64_w, Go.Proofs.YtcjhligknhpadaaDoorW.PrintLast.i32_w]
          rfl
        refine Go.Proofs.YtcjhligknhpadaaDoorW.PrintLast.one_ (i := 6) (N := some 57) #[true, true, true, true, true, true, true, false, false, false, false, false, false, false, false, false] rfl rfl (by kernel_rfl) (by decide) (fun K hK => ?_)
        refine Go.Proofs.YtcjhligknhpadaaDoorW.PrintLast.goes_ Tryd.func33 (by kernel_rfl) rfl #[.slice (some ⟨I, fn + 4, none⟩) 4 _] (by rfl) rfl rfl (by (try simp only [List.map_toArray, List.map_cons, List.map_nil]); first | done | rfl) ?_
        refine (HG2.out _ _ hHeld).mono ?_
        rintro e w2 ⟨rfl, rfl⟩
        refine ⟨_, rfl, ?_⟩
        refine hK.out _ _ hHeld (fun hHeld => ?_)
        clear hK K
        refine Go.Proofs.YtcjhligknhpadaaDoorW.PrintLast.norm_ (a' := ?_) ?_ ?_
        rotate_left
        · show Act.put _ (some 57) _ = _
          simp only [Act.put, List.setIfInBounds_toArray, List.set_cons_zero, List.set_cons_succ, Go.Proofs.YtcjhligknhpadaaDoorW.PrintLast.i64_w, Go.Proofs.YtcjhligknhpadaaDoorW.PrintLast.i32_w]
          rfl
        refine Go.Proofs.YtcjhligknhpadaaDoorW.PrintLast.pure_ (i := 7) (N := some 58) (v := ?_) (a' := ?_) #[true, true, true, true, true, true, true, true, false, false, false, false, false, false, false, false] rfl rfl (by kernel_rfl) (fun _ _ _ h => h) (Or.inl ⟨by rfl, ?_⟩) ?_ ?_
        rotate_left
        · intro w'
          go_simp
          with_reducible rfl
        rotate_left
        · simp only [Act.put, List.setIfInBounds_toArray, List.set_cons_zero, List.set_cons_succ, Go.Proofs.YtcjhligknhpadaaDoorW.PrintLast.i64_w, Go.Proofs.YtcjhligknhpadaaDoorW.PrintLast.i32_w]
          rfl
        refine Go.Proofs.YtcjhligknhpadaaDoorW.PrintLast.pure_ (i := 8) (N := some 59) (v := ?_) (a' := ?_) #[true, true, true, true, true, true, true, true, true, false, false, false, false, false, false, false] rfl rfl (by kernel_rfl) (fun _ _ _ h => h) (Or.inl ⟨by rfl, ?_⟩) ?_ ?_
        rotate_left
        · intro w'
          go_simp
          with_reducible rfl
        rotate_left
        · simp only [Act.put, List.setIfInBounds_toArray, List.set_cons_zero, List.set_cons_succ, Go.Proofs.YtcjhligknhpadaaDoorW.PrintLast.i64_w, Go.Proofs.YtcjhligknhpadaaDoorW.PrintLast.i32_w]
          rfl
        refine Go.Proofs.YtcjhligknhpadaaDoorW.PrintLast.pure_ (i := 9) (N := some 60) (v := _) (a' := ?_) #[true, true, true, true, true, true, true, true, true, true, false, false, false, false, false, false] rfl rfl (by kernel_rfl) (fun _ _ _ h => h) (Or.inr ⟨by rfl, rfl⟩) ?_ ?_
        rotate_left
        · simp only [Act.put, List.setIfInBounds_toArray, List.set_cons_zero, List.set_cons_succ, Go.Proofs.YtcjhligknhpadaaDoorW.PrintLast.i64_w, Go.Proofs.YtcjhligknhpadaaDoorW.PrintLast.i32_w]
          rfl
        refine Go.Proofs.YtcjhligknhpadaaDoorW.PrintLast.pure_ (i := 10) (N := some 61) (v := _) (a' := ?_) #[true, true, true, true, true, true, true, true, true, true, true, false, false, false, false, false] rfl rfl (by kernel_rfl) (fun _ _ _ h => h) (Or.inr ⟨by rfl, rfl⟩) ?_ ?_
        rotate_left
        · simp only [Act.put, List.setIfInBounds_toArray, List.set_cons_zero, List.set_cons_succ, Go.Proofs.YtcjhligknhpadaaDoorW.PrintLast.i64_w, Go.Proofs.YtcjhligknhpadaaDoorW.PrintLast.i32_w]
          rfl
        refine Go.Proofs.YtcjhligknhpadaaDoorW.PrintLast.pure_ (i := 11) (N := some 62) (v := _) (a' := ?_) #[true, true, true, true, true, true, true, true, true, true, true, true, false, false, false, false] rfl rfl (by kernel_rfl) (fun _ _ _ h => h) (Or.inr ⟨by rfl, rfl⟩) ?_ ?_
        rotate_left
        · simp only [Act.put, List.setIfInBounds_toArray, List.set_cons_zero, List.set_cons_succ, Go.Proofs.YtcjhligknhpadaaDoorW.PrintLast.i64_w, Go.Proofs.YtcjhligknhpadaaDoorW.PrintLast.i32_w]
          rfl
        refine Go.Proofs.YtcjhligknhpadaaDoorW.PrintLast.pure_ (i := 12) (N := some 63) (v := _) (a' := ?_) #[true, true, true, true, true, true, true, true, true, true, true, true, true, false, false, false] rfl rfl (by kernel_rfl) (fun _ _ _ h => h) (Or.inr ⟨by rfl, rfl⟩) ?_ ?_
        rotate_left
        · simp only [Act.put, List.setIfInBounds_toArray, List.set_cons_zero, List.set_cons_succ, Go.Proofs.YtcjhligknhpadaaDoorW.PrintLast.i64_w, Go.Proofs.YtcjhligknhpadaaDoorW.PrintLast.i32_w]
          rfl
        refine Go.Proofs.YtcjhligknhpadaaDoorW.PrintLast.pure_ (i := 13) (N := some 64) (v := ?_) (a' := ?_) #[true, true, true, true, true, true, true, true, true, true, true, true, true, true, false, false] rfl rfl (by kernel_rfl) (fun _ _ _ h => h) (Or.inl ⟨by rfl, ?_⟩) ?_ ?_
        rotate_left
        · intro w'
          go_simp
          with_reducible rfl
        rotate_left
        · simp only [Act.put, List.setIfInBounds_toArray, List.set_cons_zero, List.set_cons_succ, Go.Proofs.YtcjhligknhpadaaDoorW.PrintLast.i64_w, Go.Proofs.YtcjhligknhpadaaDoorW.PrintLast.i32_w]
          rfl
        refine Go.Proofs.YtcjhligknhpadaaDoorW.PrintLast.pure_ (i := 14) (N := some 1) (v := ?_) (a' := ?_) #[true, true, true, true, true, true, true, true, true, true, true, true, true, true, true, false] rfl rfl (by kernel_rfl) (fun _ _ _ h => h) (Or.inl ⟨by rfl, ?_⟩) ?_ ?_
        rotate_left
        · intro w'
          go_simp
          with_reducible rfl
        rotate_left
        · simp only [Act.put, List.setIfInBounds_toArray, List.set_cons_zero, List.set_cons_succ, Go.Proofs.YtcjhligknhpadaaDoorW.PrintLast.i64_w, Go.Proofs.YtcjhligknhpadaaDoorW.PrintLast.i32_w]
          rfl
        refine Go.Proofs.YtcjhligknhpadaaDoorW.PrintLast.pure_ (i := 15) (N := some 2) (v := ?_) (a' := ?_) #[true, true, true, true, true, true, true, true, true, true, true, true, true, true, true, true] rfl rfl (by kernel_rfl) (fun _ _ _ h => h) (Or.inl ⟨by rfl, ?_⟩) ?_ ?_
        rotate_left
        · intro w'
          go_simp
          with_reducible rfl
        rotate_left
        · simp only [Act.put, List.setIfInBounds_toArray, List.set_cons_zero, List.set_cons_succ, Go.Proofs.YtcjhligknhpadaaDoorW.PrintLast.i64_w, Go.Proofs.YtcjhligknhpadaaDoorW.PrintLast.i32_w]
          rfl
        refine Go.Proofs.YtcjhligknhpadaaDoorW.PrintLast.done_ (by kernel_rfl) ?_
        go_wp2_with fail
        go_ret2
        exact ⟨⟨3, rfl⟩, .inr ⟨by rw [HFR.out, if_neg (by simp [hq])], _, rfl⟩⟩
    · by_cases hq : cs = gt
      · subst hq
        go_enter Tryd.func32, Tryd.ntmps32
        go_wp2_with fail
        refine Go.Proofs.YtcjhligknhpadaaDoorW.PrintLast.start_ (n := 10) (S := fun v => v.cell? ⟨Bx, 0, none⟩ = some (.pointer (some ⟨P, 0, none⟩)) ∧ v.cell? ⟨P, 6, none⟩ = some (.slice (some ⟨I, 0, none⟩) (S * 128) (S * 128)) ∧ v.cell? ⟨P, 5, none⟩ = some (.int .i64 fn)) (ds := [9]) #[false, false, false, false, false, false, false, false, false, false] (by kernel_rfl) rfl rfl ⟨cb, c6, c5⟩ (fun hHeld => ?_)
        refine Go.Proofs.YtcjhligknhpadaaDoorW.PrintLast.take_ (i := 0) (N := some 7) (v := ?_) (a' := ?_) #[true, false, false, false, false, false, false, false, false, false] rfl rfl (by kernel_rfl) (fun _ _ _ h => h) (Or.inl ⟨by rfl, ?_⟩) hHeld ?_ ?_
        rotate_left
        · rintro w' ⟨s0, s1, s2⟩
          go_simp
          with_reducible rfl
        rotate_left
        · simp only [Act.put, List.setIfInBounds_toArray, List.set_cons_zero, List.set_cons_succ, Go.Proofs.YtcjhligknhpadaaDoorW.PrintLast.i64_w, Go.Proofs.YtcjhligknhpadaaDoorW.PrintLast.i32_w]
          rfl
        refine Go.Proofs.YtcjhligknhpadaaDoorW.PrintLast.pure_ (i := 1) (N := some 8) (v := ?_) (a' := ?_) #[true, true, false, false, false, false, false, false, false, false] rfl rfl (by kernel_rfl) (fun _ _ _ h => h) (Or.inl ⟨by rfl, ?_⟩) ?_ ?_
        rotate_left
        · intro w'
          go_simp
          with_reducible rfl
        rotate_left
        · simp only [Act.put, List.setIfInBounds_toArray, List.set_cons_zero, List.set_cons_succ, Go.Proofs.YtcjhligknhpadaaDoorW.PrintLast.i64_w, Go.Proofs.YtcjhligknhpadaaDoorW.PrintLast.i32_w]
          rfl
        refine Go.Proofs.YtcjhligknhpadaaDoorW.PrintLast.pure_ (i := 2) (N := some 9) (v := ?_) (a' := ?_) #[true, true, true, false, false, false, false, false, false, false] rfl rfl (by kernel_rfl) (fun _ _ _ h => h) (Or.inl ⟨by rfl, ?_⟩) ?_ ?_
        rotate_left
        · intro w'
          go_simp
          with_reducible rfl
        rotate_left
        · simp only [Act.put, List.setIfInBounds_toArray, List.set_cons_zero, List.set_cons_succ, Go.Proofs.YtcjhligknhpadaaDoorW.PrintLast.i64_w, Go.Proofs.YtcjhligknhpadaaDoorW.PrintLast.i32_w]
          rfl
        refine Go.Proofs.YtcjhligknhpadaaDoorW.PrintLast.take_ (i := 3) (N := some 10) (v := ?_) (a' := ?_) #[true, true, true, true, false, false, false, false, false, false] rfl rfl (by kernel_rfl) (fun _ _ _ h => h) (Or.inl ⟨by rfl, ?_⟩) hHeld ?_ ?_
        rotate_left
        · rintro w' ⟨s0, s1, s2⟩
          go_simp
          with_reducible rfl
        rotate_left
        · simp only [Act.put, List.setIfInBounds_toArray, List.set_cons_zero, List.set_cons_succ, Go.Proofs.YtcjhligknhpadaaDoorW.PrintLast.i64_w, Go.Proofs.YtcjhligknhpadaaDoorW.PrintLast.i32_w]
          rfl
        refine Go.Proofs.YtcjhligknhpadaaDoorW.PrintLast.take_ (i := 4) (N := some 11) (v := ?_) (a' := ?_) #[true, true, true, true, true, false, false, false, false, false] rfl rfl (by kernel_rfl) (fun _ _ _ h => h) (Or.inl ⟨by rfl, ?_⟩) hHeld ?_ ?_
        rotate_left
        · rintro w' ⟨s0, s1, s2⟩
          go_simp
          with_reducible rfl
        rotate_left
        · simp only [Act.put, List.setIfInBounds_toArray, List.set_cons_zero, List.set_cons_succ, Go.Proofs.YtcjhligknhpadaaDoorW.PrintLast.i64_w, Go.Proofs.YtcjhligknhpadaaDoorW.PrintLast.i32_w]
          rfl
        refine Go.Proofs.YtcjhligknhpadaaDoorW.PrintLast.pure_ (i := 5) (N := some 12) (v := ?_) (a' := ?_) #[true, true, true, true, true, true, false, false, false, false] rfl rfl (by kernel_rfl) (fun _ _ _ h => h) (Or.inl ⟨by rfl, ?_⟩) ?_ ?_
        rotate_left
        · intro w'
          go_simp
          with_reducible rfl
        rotate_left
        · simp only [Act.put, List.setIfInBounds_toArray, List.set_cons_zero, List.set_cons_succ, Go.Proofs.YtcjhligknhpadaaDoorW.PrintLast.i64_w, Go.Proofs.YtcjhligknhpadaaDoorW.PrintLast.i32_w]
          rfl
        refine Go.Proofs.YtcjhligknhpadaaDoorW.PrintLast.pure_ (i := 6) (N := some 13) (v := ?_) (a' := ?_) #[true, true, true, true, true, true, true, false, false, false] rfl rfl (by kernel_rfl) (fun _ _ _ h => h) (Or.inl ⟨by rfl, ?_⟩) ?_ ?_
        rotate_left
        · intro w'
          go_simp
          with_reducible rfl
        rotate_left
        · simp only [Act.put, List.setIfInBounds_toArray, List.set_cons_zero, List.set_cons_succ, Go.Proofs.YtcjhligknhpadaaDoorW.PrintLast.i64_w, Go.Proofs.YtcjhligknhpadaaDoorW.PrintLast.i32_w]
          rfl
        refine Go.Proofs.YtcjhligknhpadaaDoorW.PrintLast.take_ (i := 7) (N := some 14) (v := ?_) (a' := ?_) #[true, true, true, true, true, true, true, true, false, false] rfl rfl (by kernel_rfl) (fun _ _ _ h => h) (Or.inl ⟨by rfl, ?_⟩) hHeld ?_ ?_
        rotate_left
        · rintro w' ⟨s0, s1, s2⟩
          go_simp
          with_reducible rfl
        rotate_left
        · simp only [Act.put, List.setIfInBounds_toArray, List.set_cons_zero, List.set_cons_succ, Go.Proofs.YtcjhligknhpadaaDoorW.PrintLast.i64_w, Go.Proofs.YtcjhligknhpadaaDoorW.PrintLast.i32_w]
          rfl
        refine Go.Proofs.YtcjhligknhpadaaDoorW.PrintLast.pure_ (i := 8) (N := some 15) (v := ?_) (a' := ?_) #[true, true, true, true, true, true, true, true, true, false] rfl rfl (by kernel_rfl) (fun _ _ _ h => h) (Or.inl ⟨by rfl, ?_⟩) ?_ ?_
        rotate_left
        · intro w'
          go_simp
          with_reducible rfl
        rotate_left
        · simp only [Act.put, List.setIfInBounds_toArray, List.set_cons_zero, List.set_cons_succ, Go.Proofs.YtcjhligknhpadaaDoorW.PrintLast.i64_w, Go.Proofs.YtcjhligknhpadaaDoorW.PrintLast.i32_w]
          rfl
        refine Go.Proofs.YtcjhligknhpadaaDoorW.PrintLast.pure_ (i := 9) (N := some 3) (v := ?_) (a' := ?_) #[true, true, true, true, true, true, true, true, true, true] rfl rfl (by kernel_rfl) (fun _ _ _ h => h) (Or.inl ⟨by rfl, ?_⟩) ?_ ?_
        rotate_left
        · intro w'
          go_simp
          with_reducible rfl
        rotate_left
        · simp only [Act.put, List.setIfInBounds_toArray, List.set_cons_zero, List.set_cons_succ, Go.Proofs.YtcjhligknhpadaaDoorW.PrintLast.i64_w, Go.Proofs.YtcjhligknhpadaaDoorW.PrintLast.i32_w]
          rfl
        refine Go.Proofs.YtcjhligknhpadaaDoorW.PrintLast.done_ (by kernel_rfl) ?_
        go_wp2_with (first | (go_at_call 33; refine (HG1.out _ _ (by intro _; rfl)).mono ?_; rintro e w2 ⟨rfl, rfl⟩) | (go_at_call 34; refine (padded_any n _ (by omega)).mono ?_; rintro e w3 ⟨rfl, rfl⟩))
        refine Go.Proofs.YtcjhligknhpadaaDoorW.PrintLast.start_ (n := 16) (S := fun v => True) (ds := [15]) #[false, false, false, false, false, false, false, false, false, false, false, false, false, false, false, false] (by kernel_rfl) rfl rfl trivial (fun hHeld => ?_)
        refine Go.Proofs.YtcjhligknhpadaaDoorW.PrintLast.pure_ (i := 0) (N := some 37) (v := ?_) (a' := ?_) #[true, false, false, false, false, false, false, false, false, false, false, false, false, false, false, false] rfl rfl (by kernel_rfl) (fun _ _ _ h => h) (Or.inl ⟨by rfl, ?_⟩) ?_ ?_
        rotate_left
        · intro w'
          go_simp
          with_reducible rfl
        rotate_left
        · simp only [Act.put, List.setIfInBounds_toArray, List.set_cons_zero, List.set_cons_succ, Go.Proofs.YtcjhligknhpadaaDoorW.PrintLast.i64_w, Go.Proofs.YtcjhligknhpadaaDoorW.PrintLast.i32_w]
          rfl
        refine Go.Proofs.YtcjhligknhpadaaDoorW.PrintLast.pure_ (i := 1) (N := some 38) (v := ?_) (a' := ?_) #[true, true, false, false, false, false, false, false, false, false, false, false, false, false, false, false] rfl rfl (by kernel_rfl) (fun _ _ _ h => h) (Or.inl ⟨by rfl, ?_⟩) ?_ ?_
        rotate_left
        · intro w'
          go_simp
          with_reducible rfl
        rotate_left
        · simp only [Act.put, List.setIfInBounds_toArray, List.set_cons_zero, List.set_cons_succ, Go.Proofs.YtcjhligknhpadaaDoorW.PrintLast.i64_w, Go.Proofs.YtcjhligknhpadaaDoorW.PrintLast.i32_w]
          rfl
        refine Go.Proofs.YtcjhligknhpadaaDoorW.PrintLast.pure_ (i := 2) (N := some 39) (v := ?_) (a' := ?_) #[true, true, true, false, false, false, false, false, false, false, false, false, false, false, false, false] rfl rfl (by kernel_rfl) (fun _ _ _ h => h) (Or.inl ⟨by rfl, ?_⟩) ?_ ?_
        rotate_left
        · intro w'
          go_simp
          with_reducible rfl
        rotate_left
        · simp only [Act.put, List.setIfInBounds_toArray, List.set_cons_zero, List.set_cons_succ, Go.Proofs.YtcjhligknhpadaaDoorW.PrintLast.i64_w, Go.Proofs.YtcjhligknhpadaaDoorW.PrintLast.i32_w]
          rfl
        refine Go.Proofs.YtcjhligknhpadaaDoorW.PrintLast.pure_ (i := 3) (N := some 40) (v := ?_) (a' := ?_) #[true, true, true, true, false, false, false, false, false, false, false, false, false, false, false, false] rfl rfl (by kernel_rfl) (fun _ _ _ h => h) (Or.inl ⟨by rfl, ?_⟩) ?_ ?_
        rotate_left
        · intro w'
          go_simp
          with_reducible rfl
        rotate_left
        · simp only [Act.put, List.setIfInBounds_toArray, List.set_cons_zero, List.set_cons_succ, Go.Proofs.YtcjhligknhpadaaDoorW.PrintLast.i64_w, Go.Proofs.YtcjhligknhpadaaDoorW.PrintLast.i32_w]
          rfl
        refine Go.Proofs.YtcjhligknhpadaaDoorW.PrintLast.pure_ (i := 4) (N := some 41) (v := ?_) (a' := ?_) #[true, true, true, true, true, false, false, false, false, false, false, false, false, false, false, false] rfl rfl (by kernel_rfl) (fun _ _ _ h => h) (Or.inl ⟨by rfl, ?_⟩) ?_ ?_
        rotate_left
        · intro w'
          go_simp
          with_reducible rfl
        rotate_left
        · simp only [Act.put, List.setIfInBounds_toArray, List.set_cons_zero, List.set_cons_succ, Go.Proofs.YtcjhligknhpadaaDoorW.PrintLast.i64_w, Go.Proofs.YtcjhligknhpadaaDoorW.PrintLast.i32_w]
          rfl
        refine Go.Proofs.YtcjhligknhpadaaDoorW.PrintLast.pure_ (i := 5) (N := some 42) (v := ?_) (a' := ?_) #[true, true, true, true, true, true, false, false, false, false, false, false, false, false, false, false] rfl rfl (by kernel_rfl) (fun _ _ _ h => h) (Or.inl ⟨by rfl, ?_⟩) ?_ ?_
        rotate_left
        · intro w'
          go_simp
          with_reducible rfl
        rotate_left
        · simp only [Act.put, List.setIfInBounds_toArray, List.set_cons_zero, List.set_cons_succ, Go.Proofs.YtcjhligknhpadaaDoorW.PrintLast.i64_w, Go.Proofs.YtcjhligknhpadaaDoorW.PrintLast.i32_w]
          rfl
        refine Go.Proofs.YtcjhligknhpadaaDoorW.PrintLast.pure_ (i := 6) (N := some 43) (v := ?_) (a' := ?_) #[true, true, true, true, true, true, true, false, false, false, false, false, false, false, false, false] rfl rfl (by kernel_rfl) (fun _ _ _ h => h) (Or.inl ⟨by rfl, ?_⟩) ?_ ?_
        rotate_left
        · intro w'
          go_simp
          with_reducible rfl
        rotate_left
        · simp only [Act.put, List.setIfInBounds_toArray, List.set_cons_zero, List.set_cons_succ, Go.Proofs.YtcjhligknhpadaaDoorW.PrintLast.i64_w, Go.Proofs.YtcjhligknhpadaaDoorW.PrintLast.i32_w]
          rfl
        refine Go.Proofs.YtcjhligknhpadaaDoorW.PrintLast.pure_ (i := 7) (N := some 44) (v := ?_) (a' := ?_) #[true, true, true, true, true, true, true, true, false, false, false, false, false, false, false, false] rfl rfl (by kernel_rfl) (fun _ _ _ h => h) (Or.inl ⟨by rfl, ?_⟩) ?_ ?_
        rotate_left
        · intro w'
          go_simp
          with_reducible rfl
        rotate_left
        · simp only [Act.put, List.setIfInBounds_toArray, List.set_cons_zero, List.set_cons_succ, Go.Proofs.YtcjhligknhpadaaDoorW.PrintLast.i64_w, Go.Proofs.YtcjhligknhpadaaDoorW.PrintLast.i32_w]
          rfl
        refine Go.Proofs.YtcjhligknhpadaaDoorW.PrintLast.pure_ (i := 8) (N := some 45) (v := ?_) (a' := ?_) #[true, true, true, true, true, true, true, true, true, false, false, false, false, false, false, false] rfl rfl (by kernel_rfl) (fun _ _ _ h => h) (Or.inl ⟨by rfl, ?_⟩) ?_ ?_
        rotate_left
        · intro w'
          go_simp
          with_reducible rfl
        rotate_left
        · simp only [Act.put, List.setIfInBounds_toArray, List.set_cons_zero, List.set_cons_succ, Go.Proofs.YtcjhligknhpadaaDoorW.PrintLast.i64_w, Go.Proofs.YtcjhligknhpadaaDoorW.PrintLast.i32_w]
          rfl
        refine Go.Proofs.YtcjhligknhpadaaDoorW.PrintLast.pure_ (i := 9) (N := some 46) (v := ?_) (a' := ?_) #[true, true, true, true, true, true, true, true, true, true, false, false, false, false, false, false] rfl rfl (by kernel_rfl) (fun _ _ _ h => h) (Or.inl ⟨by rfl, ?_⟩) ?_ ?_
        rotate_left
        · intro w'
          go_simp
          with_reducible rfl
        rotate_left
        · simp only [Act.put, List.setIfInBounds_toArray, List.set_cons_zero, List.set_cons_succ, Go.Proofs.YtcjhligknhpadaaDoorW.PrintLast.i64_w, Go.Proofs.YtcjhligknhpadaaDoorW.PrintLast.i32_w]
          rfl
        refine Go.Proofs.YtcjhligknhpadaaDoorW.PrintLast.pure_ (i := 10) (N := some 47) (v := ?_) (a' := ?_) #[true, true, true, true, true, true, true, true, true, true, true, false, false, false, false, false] rfl rfl (by kernel_rfl) (fun _ _ _ h => h) (Or.inl ⟨by rfl, ?_⟩) ?_ ?_
        rotate_left
        · intro w'
          go_simp
          with_reducible rfl
        rotate_left
        · simp only [Act.put, List.setIfInBounds_toArray, List.set_cons_zero, List.set_cons_succ, Go.Proofs.YtcjhligknhpadaaDoorW.PrintLast.i64_w, Go.Proofs.YtcjhligknhpadaaDoorW.PrintLast.i32_w]
          rfl
        refine Go.Proofs.YtcjhligknhpadaaDoorW.PrintLast.one_ (i := 11) (N := some 48) #[true, true, true, true, true, true, true, true, true, true, true, true, false, false, false, false] rfl rfl (by kernel_rfl) (by decide) (fun K hK => ?_)
        refine Go.Proofs.YtcjhligknhpadaaDoorW.PrintLast.goes_ Tryd.func34 (by kernel_rfl) rfl #[.int .i64 n] (by rfl) rfl rfl (by (try simp only [List.map_toArray, List.map_cons, List.map_nil]); first | done | rfl) ?_
        refine (padded_any n _ (by omega)).mono ?_
        rintro e w4 ⟨rfl, rfl⟩
        refine ⟨_, rfl, ?_⟩
        refine hK.out _ _ trivial (fun hHeld => ?_)
        clear hK K
        refine Go.Proofs.YtcjhligknhpadaaDoorW.PrintLast.norm_ (a' := ?_) ?_ ?_
        rotate_left
        · show Act.put _ (some 48) _ = _
          simp only [Act.put, List.setIfInBounds_toArray, List.set_cons_zero, List.set_cons_succ, Go.Proofs.YtcjhligknhpadaaDoorW.PrintLast.i64_w, Go.Proofs.YtcjhligknhpadaaDoorW.PrintLast.i32_w]
          rfl
        refine Go.Proofs.YtcjhligknhpadaaDoorW.PrintLast.pure_ (i := 12) (N := some 49) (v := ?_) (a' := ?_) #[true, true, true, true, true, true, true, true, true, true, true, true, true, false, false, false] rfl rfl (by kernel_rfl) (fun _ _ _ h => h) (Or.inl ⟨by rfl, ?_⟩) ?_ ?_
        rotate_left
        · intro w'
          go_simp
          with_reducible rfl
        rotate_left
        · simp only [Act.put, List.setIfInBounds_toArray, List.set_cons_zero, List.set_cons_succ, Go.Proofs.YtcjhligknhpadaaDoorW.PrintLast.i64_w, Go.Proofs.YtcjhligknhpadaaDoorW.PrintLast.i32_w]
          rfl
        refine Go.Proofs.YtcjhligknhpadaaDoorW.PrintLast.pure_ (i := 13) (N := some 50) (v := ?_) (a' := ?_) #[true, true, true, true, true, true, true, true, true, true, true, true, true, true, false, false] rfl rfl (by kernel_rfl) (fun _ _ _ h => h) (Or.inl ⟨by rfl, ?_⟩) ?_ ?_
        rotate_left
        · intro w'
          go_simp
          with_reducible rfl
        rotate_left
        · simp only [Act.put, List.setIfInBounds_toArray, List.set_cons_zero, List.set_cons_succ, Go.Proofs.YtcjhligknhpadaaDoorW.PrintLast.i64_w, Go.Proofs.YtcjhligknhpadaaDoorW.PrintLast.i32_w]
          rfl
        refine Go.Proofs.YtcjhligknhpadaaDoorW.PrintLast.pure_ (i := 14) (N := some 5) (v := ?_) (a' := ?_) #[true, true, true, true, true, true, true, true, true, true, true, true, true, true, true, false] rfl rfl (by kernel_rfl) (fun _ _ _ h => h) (Or.inl ⟨by rfl, ?_⟩) ?_ ?_
        rotate_left
        · intro w'
          go_simp
          with_reducible rfl
        rotate_left
        · simp only [Act.put, List.setIfInBounds_toArray, List.set_cons_zero, List.set_cons_succ, Go.Proofs.YtcjhligknhpadaaDoorW.PrintLast.i64_w, Go.Proofs.YtcjhligknhpadaaDoorW.PrintLast.i32_w]
          rfl
        refine Go.Proofs.YtcjhligknhpadaaDoorW.PrintLast.pure_ (i := 15) (N := some 6) (v := ?_) (a' := ?_) #[true, true, true, true, true, true, true, true, true, true, true, true, true, true, true, true] rfl rfl (by kernel_rfl) (fun _ _ _ h => h) (Or.inl ⟨by rfl, ?_⟩) ?_ ?_
        rotate_left
        · intro w'
          go_simp
          with_reducible rfl
        rotate_left
        · simp only [Act.put, List.setIfInBounds_toArray, List.set_cons_zero, List.set_cons_succ, Go.Proofs.YtcjhligknhpadaaDoorW.PrintLast.i64_w, Go.Proofs.YtcjhligknhpadaaDoorW.PrintLast.i32_w]
          rfl
        refine Go.Proofs.YtcjhligknhpadaaDoorW.PrintLast.done_ (by kernel_rfl) ?_
        go_wp2_with fail
        refine Go.Proofs.YtcjhligknhpadaaDoorW.PrintLast.start_ (n := 16) (S := fun v => ∀ a, v.cell? a = w.cell? a) (ds := [15]) #[false, false, false, false, false, false, false, false, false, false, false, false, false, false, false, false] (by kernel_rfl) rfl rfl (fun _ => rfl) (fun hHeld => ?_)
        refine Go.Proofs.YtcjhligknhpadaaDoorW.PrintLast.pure_ (i := 0) (N := some 51) (v := ?_) (a' := ?_) #[true, false, false, false, false, false, false, false, false, false, false, false, false, false, false, false] rfl rfl (by kernel_rfl) (fun _ _ _ h => h) (Or.inl ⟨by rfl, ?_⟩) ?_ ?_
        rotate_left
        · intro w'
          go_simp
          with_reducible rfl
        rotate_left
        · simp only [Act.put, List.setIfInBounds_toArray, List.set_cons_zero, List.set_cons_succ, Go.Proofs.YtcjhligknhpadaaDoorW.PrintLast.i64_w, Go.Proofs.YtcjhligknhpadaaDoorW.PrintLast.i32_w]
          rfl
        refine Go.Proofs.YtcjhligknhpadaaDoorW.PrintLast.pure_ (i := 1) (N := some 52) (v := ?_) (a' := ?_) #[true, true, false, false, false, false, false, false, false, false, false, false, false, false, false, false] rfl rfl (by kernel_rfl) (fun _ _ _ h => h) (Or.inl ⟨by rfl, ?_⟩) ?_ ?_
        rotate_left
        · intro w'
          go_simp
          with_reducible rfl
        rotate_left
        · simp only [Act.put, List.setIfInBounds_toArray, List.set_cons_zero, List.set_cons_succ, Go.Proofs.YtcjhligknhpadaaDoorW.PrintLast.i64_w, Go.Proofs.YtcjhligknhpadaaDoorW.PrintLast.i32_w]
          rfl
        refine Go.Proofs.YtcjhligknhpadaaDoorW.PrintLast.pure_ (i := 4) (N := some 55) (v := ?_) (a' := ?_) #[true, true, false, false, true, false, false, false, false, false, false, false, false, false, false, false] rfl rfl (by kernel_rfl) (fun _ _ _ h => h) (Or.inl ⟨by rfl, ?_⟩) ?_ ?_
        rotate_left
        · intro w'
          go_simp
          with_reducible rfl
        rotate_left
        · simp only [Act.put, List.setIfInBounds_toArray, List.set_cons_zero, List.set_cons_succ, Go.Proofs.YtcjhligknhpadaaDoorW.PrintLast.i64_w, Go.Proofs.YtcjhligknhpadaaDoorW.PrintLast.i32_w]
          rfl
        refine Go.Proofs.YtcjhligknhpadaaDoorW.PrintLast.pure_ (i := 5) (N := some 56) (v := ?_) (a' := ?_) #[true, true, false, false, true, true, false, false, false, false, false, false, false, false, false, false] rfl rfl (by kernel_rfl) (fun _ _ _ h => h) (Or.inl ⟨by rfl, ?_⟩) ?_ ?_
        rotate_left
        · intro w'
          go_simp
          with_reducible rfl
        rotate_left
        · simp only [Act.put, List.setIfInBounds_toArray, List.set_cons_zero, List.set_cons_succ, Go.Proofs.YtcjhligknhpadaaDoorW.PrintLast.i64_w, Go.Proofs.YtcjhligknhpadaaDoorW.PrintLast.i32_w]
          rfl
        refine Go.Proofs.YtcjhligknhpadaaDoorW.PrintLast.one_ (i := 2) (N := some 53) #[true, true, true, false, true, true, false, false, false, false, false, false, false, false, false, false] rfl rfl (by kernel_rfl) (by decide) (fun K hK => ?_)
        refine Go.Proofs.YtcjhligknhpadaaDoorW.PrintLast.goes_ Tryd.func35 (by kernel_rfl) rfl #[.slice (some ⟨I, fn + 8, none⟩) n _] (by rfl) rfl rfl (by (try simp only [List.map_toArray, List.map_cons, List.map_nil]); first | done | rfl) ?_
        refine (HSUM.out _ _ hHeld).mono ?_
        rintro e w2 ⟨rfl, rfl⟩
        refine ⟨_, rfl, ?_⟩
        refine hK.out _ _ hHeld (fun hHeld => ?_)
        clear hK K
        refine Go.Proofs.YtcjhligknhpadaaDoorW.PrintLast.norm_ (a' := ?_) ?_ ?_
        rotate_left
        · show Act.put _ (some 53) _ = _
          simp only [Act.put, List.setIfInBounds_toArray, List.set_cons_zero, List.set_cons_succ, Go.Proofs.YtcjhligknhpadaaDoorW.PrintLast.i64_w, Go.Proofs.YtcjhligknhpadaaDoorW.PrintLast.i32_w]
          rfl
        refine Go.Proofs.YtcjhligknhpadaaDoorW.PrintLast.pure_ (i := 3) (N := some 54) (v := ?_) (a' := ?_) #[true, true, true, true, true, true, false, false, false, false, false, false, false, false, false, false] rfl rfl (by kernel_rfl) (fun _ _ _ h => h) (Or.inl ⟨by rfl, ?_⟩) ?_ ?_
        rotate_left
        · intro w'
          go_simp
          with_reducible rfl
        rotate_left
        · simp only [Act.put, List.setIfInBounds_toArray, List.set_cons_zero, List.set_cons_succ, Go.Proofs.YtcjhligknhpadaaDoorW.PrintLast.i64_w, Go.Proofs.YtcjhligknhpadaaDoorW.PrintLast.i32_w]
          rfl
        refine Go.Proofs.YtcjhligknhpadaaDoorW.PrintLast.one_ (i := 6) (N := some 57) #[true, true, true, true, true, true, true, false, false, false, false, false, false, false, false, false] rfl rfl (by kernel_rfl) (by decide) (fun K hK => ?_)
        refine Go.Proofs.YtcjhligknhpadaaDoorW.PrintLast.goes_ Tryd.func33 (by kernel_rfl) rfl #[.slice (some ⟨I, fn + 4, none⟩) 4 _] (by rfl) rfl rfl (by (try simp only [List.map_toArray, List.map_cons, List.map_nil]); first | done | rfl) ?_
        refine (HG2.out _ _ hHeld).mono ?_
        rintro e w2 ⟨rfl, rfl⟩
        refine ⟨_, rfl, ?_⟩
        refine hK.out _ _ hHeld (fun hHeld => ?_)
        clear hK K
        refine Go.Proofs.YtcjhligknhpadaaDoorW.PrintLast.norm_ (a' := ?_) ?_ ?_
        rotate_left
        · show Act.put _ (some 57) _ = _
          simp only [Act.put, List.setIfInBounds_toArray, List.set_cons_zero, List.set_cons_succ, Go.Proofs.YtcjhligknhpadaaDoorW.PrintLast.i64_w, Go.Proofs.YtcjhligknhpadaaDoorW.PrintLast.i32_w]
          rfl
        refine Go.Proofs.YtcjhligknhpadaaDoorW.PrintLast.pure_ (i := 7) (N := some 58) (v := ?_) (a' := ?_) #[true, true, true, true, true, true, true, true, false, false, false, false, false, false, false, false] rfl rfl (by kernel_rfl) (fun _ _ _ h => h) (Or.inl ⟨by rfl, ?_⟩) ?_ ?_
        rotate_left
        · intro w'
          go_simp
          with_reducible rfl
        rotate_left
        · simp only [Act.put, List.setIfInBounds_toArray, List.set_cons_zero, List.set_cons_succ, Go.Proofs.YtcjhligknhpadaaDoorW.PrintLast.i64_w, Go.Proofs.YtcjhligknhpadaaDoorW.PrintLast.i32_w]
          rfl
        refine Go.Proofs.YtcjhligknhpadaaDoorW.PrintLast.pure_ (i := 8) (N := some 59) (v := ?_) (a' := ?_) #[true, true, true, true, true, true, true, true, true, false, false, false, false, false, false, false] rfl rfl (by kernel_rfl) (fun _ _ _ h => h) (Or.inl ⟨by rfl, ?_⟩) ?_ ?_
        rotate_left
        · intro w'
          go_simp
          with_reducible rfl
        rotate_left
        · simp only [Act.put, List.setIfInBounds_toArray, List.set_cons_zero, List.set_cons_succ, Go.Proofs.YtcjhligknhpadaaDoorW.PrintLast.i64_w, Go.Proofs.YtcjhligknhpadaaDoorW.PrintLast.i32_w]
          rfl
        refine Go.Proofs.YtcjhligknhpadaaDoorW.PrintLast.pure_ (i := 9) (N := some 60) (v := ?_) (a' := ?_) #[true, true, true, true, true, true, true, true, true, true, false, false, false, false, false, false] rfl rfl (by kernel_rfl) (fun _ _ _ h => h) (Or.inl ⟨by rfl, ?_⟩) ?_ ?_
        rotate_left
        · intro w'
          go_simp
          with_reducible rfl
        rotate_left
        · simp only [Act.put, List.setIfInBounds_toArray, List.set_cons_zero, List.set_cons_succ, Go.Proofs.YtcjhligknhpadaaDoorW.PrintLast.i64_w, Go.Proofs.YtcjhligknhpadaaDoorW.PrintLast.i32_w]
          rfl
        refine Go.Proofs.YtcjhligknhpadaaDoorW.PrintLast.one_ (i := 10) (N := some 61) #[true, true, true, true, true, true, true, true, true, true, true, false, false, false, false, false] rfl rfl (by kernel_rfl) (by decide) (fun K hK => ?_)
        refine Go.Proofs.YtcjhligknhpadaaDoorW.PrintLast.goes_ Tryd.func36 (by kernel_rfl) rfl #[.slice (some ⟨I, fn + (8 + n), none⟩) _ _, .string ⟨#[0]⟩] (by rfl) rfl rfl (by (try simp only [List.map_toArray, List.map_cons, List.map_nil]); first | done | rfl) ?_
        refine (HTR.out _ _ _ _ hHeld (by first | (intro; rfl) | (intro; omega)) (by omega) (by omega)).mono ?_
        rintro e w2 ⟨⟨m, ⟨a', n', c', rfl, hn'⟩, hm⟩, k, rfl⟩
        refine ⟨_, rfl, ?_⟩
        refine hK.out _ _ (fun a => hHeld a) (fun hHeld => ?_)
        clear hK K
        refine Go.Proofs.YtcjhligknhpadaaDoorW.PrintLast.norm_ (a' := ?_) ?_ ?_
        rotate_left
        · show Act.put _ (some 61) _ = _
          simp only [Act.put, List.setIfInBounds_toArray, List.set_cons_zero, List.set_cons_succ, Go.Proofs.YtcjhligknhpadaaDoorW.PrintLast.i64_w, Go.Proofs.YtcjhligknhpadaaDoorW.PrintLast.i32_w]
          rfl
        refine Go.Proofs.YtcjhligknhpadaaDoorW.PrintLast.take_ (i := 11) (N := some 62) (v := ?_) (a' := ?_) #[true, true, true, true, true, true, true, true, true, true, true, true, false, false, false, false] rfl rfl (by kernel_rfl) (fun _ _ _ h => h) (Or.inl ⟨by rfl, ?_⟩) hHeld ?_ ?_
        rotate_left
        · rintro w' _
          go_simp
          with_reducible rfl
        rotate_left
        · simp only [Act.put, List.setIfInBounds_toArray, List.set_cons_zero, List.set_cons_succ, Go.Proofs.YtcjhligknhpadaaDoorW.PrintLast.i64_w, Go.Proofs.YtcjhligknhpadaaDoorW.PrintLast.i32_w]
          rfl
        refine Go.Proofs.YtcjhligknhpadaaDoorW.PrintLast.pure_ (i := 12) (N := some 63) (v := ?_) (a' := ?_) #[true, true, true, true, true, true, true, true, true, true, true, true, true, false, false, false] rfl rfl (by kernel_rfl) (fun _ _ _ h => h) (Or.inl ⟨by rfl, ?_⟩) ?_ ?_
        rotate_left
        · intro w'
          go_simp
          with_reducible rfl
        rotate_left
        · simp only [Act.put, List.setIfInBounds_toArray, List.set_cons_zero, List.set_cons_succ, Go.Proofs.YtcjhligknhpadaaDoorW.PrintLast.i64_w, Go.Proofs.YtcjhligknhpadaaDoorW.PrintLast.i32_w]
          rfl
        refine Go.Proofs.YtcjhligknhpadaaDoorW.PrintLast.pure_ (i := 13) (N := some 64) (v := ?_) (a' := ?_) #[true, true, true, true, true, true, true, true, true, true, true, true, true, true, false, false] rfl rfl (by kernel_rfl) (fun _ _ _ h => h) (Or.inl ⟨by rfl, ?_⟩) ?_ ?_
        rotate_left
        · intro w'
          go_simp
          with_reducible rfl
        rotate_left
        · simp only [Act.put, List.setIfInBounds_toArray, List.set_cons_zero, List.set_cons_succ, Go.Proofs.YtcjhligknhpadaaDoorW.PrintLast.i64_w, Go.Proofs.YtcjhligknhpadaaDoorW.PrintLast.i32_w]
          rfl
        refine Go.Proofs.YtcjhligknhpadaaDoorW.PrintLast.pure_ (i := 14) (N := some 1) (v := ?_) (a' := ?_) #[true, true, true, true, true, true, true, true, true, true, true, true, true, true, true, false] rfl rfl (by kernel_rfl) (fun _ _ _ h => h) (Or.inl ⟨by rfl, ?_⟩) ?_ ?_
        rotate_left
        · intro w'
          go_simp
          with_reducible rfl
        rotate_left
        · simp only [Act.put, List.setIfInBounds_toArray, List.set_cons_zero, List.set_cons_succ, Go.Proofs.YtcjhligknhpadaaDoorW.PrintLast.i64_w, Go.Proofs.YtcjhligknhpadaaDoorW.PrintLast.i32_w]
          rfl
        refine Go.Proofs.YtcjhligknhpadaaDoorW.PrintLast.pure_ (i := 15) (N := some 2) (v := ?_) (a' := ?_) #[true, true, true, true, true, true, true, true, true, true, true, true, true, true, true, true] rfl rfl (by kernel_rfl) (fun _ _ _ h => h) (Or.inl ⟨by rfl, ?_⟩) ?_ ?_
        rotate_left
        · intro w'
          go_simp
          with_reducible rfl
        rotate_left
        · simp only [Act.put, List.setIfInBounds_toArray, List.set_cons_zero, List.set_cons_succ, Go.Proofs.YtcjhligknhpadaaDoorW.PrintLast.i64_w, Go.Proofs.YtcjhligknhpadaaDoorW.PrintLast.i32_w]
          rfl
        refine Go.Proofs.YtcjhligknhpadaaDoorW.PrintLast.done_ (by kernel_rfl) ?_
        go_wp2_with fail
        go_ret2
        cases zz with
        | true =>
          have q : n' = 0 := hn'.2 (hm.2 rfl)
          subst q
          exact ⟨⟨1 + (1 + (1 + k)), by simp⟩, .inl ⟨(t.drop 8).take n, _, by rw [HFR.out, if_pos (by simp)], by rw [hrl]; rfl⟩⟩
        | false =>
          have q : ¬ n' = 0 := fun q => by have := hm.1 (hn'.1 q); cases this
          have q' : ((n' : Int) == 0) = false := by simp; omega
          exact ⟨⟨1 + (1 + (1 + k)), by simp⟩, .inr ⟨by rw [HFR.out, if_neg (by simp)], _, by first | rfl | (simp only [q']; rfl)⟩⟩
      · have hq' : (cs == gt) = false := by simpa using hq
        go_enter Tryd.func32, Tryd.ntmps32
        go_wp2_with fail
        refine Go.Proofs.YtcjhligknhpadaaDoorW.PrintLast.start_ (n := 10) (S := fun v => v.cell? ⟨Bx, 0, none⟩ = some (.pointer (some ⟨P, 0, none⟩)) ∧ v.cell? ⟨P, 6, none⟩ = some (.slice (some ⟨I, 0, none⟩) (S * 128) (S * 128)) ∧ v.cell? ⟨P, 5, none⟩ = some (.int .i64 fn)) (ds := [9]) #[false, false, false, false, false, false, false, false, false, false] (by kernel_rfl) rfl rfl ⟨cb, c6, c5⟩ (fun hHeld => ?_)
        refine Go.Proofs.YtcjhligknhpadaaDoorW.PrintLast.take_ (i := 0) (N := some 7) (v := ?_) (a' := ?_) #[true, false, false, false, false, false, false, false, false, false] rfl rfl (by kernel_rfl) (fun _ _ _ h => h) (Or.inl ⟨by rfl, ?_⟩) hHeld ?_ ?_
        rotate_left
        · rintro w' ⟨s0, s1, s2⟩
          go_simp
          with_reducible rfl
        rotate_left
        · simp only [Act.put, List.setIfInBounds_toArray, List.set_cons_zero, List.set_cons_succ, Go.Proofs.YtcjhligknhpadaaDoorW.PrintLast.i64_w, Go.Proofs.YtcjhligknhpadaaDoorW.PrintLast.i32_w]
          rfl
        refine Go.Proofs.YtcjhligknhpadaaDoorW.PrintLast.pure_ (i := 1) (N := some 8) (v := ?_) (a' := ?_) #[true, true, false, false, false, false, false, false, false, false] rfl rfl (by kernel_rfl) (fun _ _ _ h => h) (Or.inl ⟨by rfl, ?_⟩) ?_ ?_
        rotate_left
        · intro w'
          go_simp
          with_reducible rfl
        rotate_left
        · simp only [Act.put, List.setIfInBounds_toArray, List.set_cons_zero, List.set_cons_succ, Go.Proofs.YtcjhligknhpadaaDoorW.PrintLast.i64_w, Go.Proofs.YtcjhligknhpadaaDoorW.PrintLast.i32_w]
          rfl
        refine Go.Proofs.YtcjhligknhpadaaDoorW.PrintLast.pure_ (i := 2) (N := some 9) (v := ?_) (a' := ?_) #[true, true, true, false, false, false, false, false, false, false] rfl rfl (by kernel_rfl) (fun _ _ _ h => h) (Or.inl ⟨by rfl, ?_⟩) ?_ ?_
        rotate_left
        · intro w'
          go_simp
          with_reducible rfl
        rotate_left
        · simp only [Act.put, List.setIfInBounds_toArray, List.set_cons_zero, List.set_cons_succ, Go.Proofs.YtcjhligknhpadaaDoorW.PrintLast.i64_w, Go.Proofs.YtcjhligknhpadaaDoorW.PrintLast.i32_w]
          rfl
        refine Go.Proofs.YtcjhligknhpadaaDoorW.PrintLast.take_ (i := 3) (N := some 10) (v := ?_) (a' := ?_) #[true, true, true, true, false, false, false, false, false, false] rfl rfl (by kernel_rfl) (fun _ _ _ h => h) (Or.inl ⟨by rfl, ?_⟩) hHeld ?_ ?_
        rotate_left
        · rintro w' ⟨s0, s1, s2⟩
          go_simp
          with_reducible rfl
        rotate_left
        · simp only [Act.put, List.setIfInBounds_toArray, List.set_cons_zero, List.set_cons_succ, Go.Proofs.YtcjhligknhpadaaDoorW.PrintLast.i64_w, Go.Proofs.YtcjhligknhpadaaDoorW.PrintLast.i32_w]
          rfl
        refine Go.Proofs.YtcjhligknhpadaaDoorW.PrintLast.take_ (i := 4) (N := some 11) (v := ?_) (a' := ?_) #[true, true, true, true, true, false, false, false, false, false] rfl rfl (by kernel_rfl) (fun _ _ _ h => h) (Or.inl ⟨by rfl, ?_⟩) hHeld ?_ ?_
        rotate_left
        · rintro w' ⟨s0, s1, s2⟩
          go_simp
          with_reducible rfl
        rotate_left
        · simp only [Act.put, List.setIfInBounds_toArray, List.set_cons_zero, List.set_cons_succ, Go.Proofs.YtcjhligknhpadaaDoorW.PrintLast.i64_w, Go.Proofs.YtcjhligknhpadaaDoorW.PrintLast.i32_w]
          rfl
        refine Go.Proofs.YtcjhligknhpadaaDoorW.PrintLast.pure_ (i := 5) (N := some 12) (v := ?_) (a' := ?_) #[true, true, true, true, true, true, false, false, false, false] rfl rfl (by kernel_rfl) (fun _ _ _ h => h) (Or.inl ⟨by rfl, ?_⟩) ?_ ?_
        rotate_left
        · intro w'
          go_simp
          with_reducible rfl
        rotate_left
        · simp only [Act.put, List.setIfInBounds_toArray, List.set_cons_zero, List.set_cons_succ, Go.Proofs.YtcjhligknhpadaaDoorW.PrintLast.i64_w, Go.Proofs.YtcjhligknhpadaaDoorW.PrintLast.i32_w]
          rfl
        refine Go.Proofs.YtcjhligknhpadaaDoorW.PrintLast.pure_ (i := 6) (N := some 13) (v := ?_) (a' := ?_) #[true, true, true, true, true, true, true, false, false, false] rfl rfl (by kernel_rfl) (fun _ _ _ h => h) (Or.inl ⟨by rfl, ?_⟩) ?_ ?_
        rotate_left
        · intro w'
          go_simp
          with_reducible rfl
        rotate_left
        · simp only [Act.put, List.setIfInBounds_toArray, List.set_cons_zero, List.set_cons_succ, Go.Proofs.YtcjhligknhpadaaDoorW.PrintLast.i64_w, Go.Proofs.YtcjhligknhpadaaDoorW.PrintLast.i32_w]
          rfl
        refine Go.Proofs.YtcjhligknhpadaaDoorW.PrintLast.take_ (i := 7) (N := some 14) (v := ?_) (a' := ?_) #[true, true, true, true, true, true, true, true, false, false] rfl rfl (by kernel_rfl) (fun _ _ _ h => h) (Or.inl ⟨by rfl, ?_⟩) hHeld ?_ ?_
        rotate_left
        · rintro w' ⟨s0, s1, s2⟩
          go_simp
          with_reducible rfl
        rotate_left
        · simp only [Act.put, List.setIfInBounds_toArray, List.set_cons_zero, List.set_cons_succ, Go.Proofs.YtcjhligknhpadaaDoorW.PrintLast.i64_w, Go.Proofs.YtcjhligknhpadaaDoorW.PrintLast.i32_w]
          rfl
        refine Go.Proofs.YtcjhligknhpadaaDoorW.PrintLast.pure_ (i := 8) (N := some 15) (v := ?_) (a' := ?_) #[true, true, true, true, true, true, true, true, true, false] rfl rfl (by kernel_rfl) (fun _ _ _ h => h) (Or.inl ⟨by rfl, ?_⟩) ?_ ?_
        rotate_left
        · intro w'
          go_simp
          with_reducible rfl
        rotate_left
        · simp only [Act.put, List.setIfInBounds_toArray, List.set_cons_zero, List.set_cons_succ, Go.Proofs.YtcjhligknhpadaaDoorW.PrintLast.i64_w, Go.Proofs.YtcjhligknhpadaaDoorW.PrintLast.i32_w]
          rfl
        refine Go.Proofs.YtcjhligknhpadaaDoorW.PrintLast.pure_ (i := 9) (N := some 3) (v := ?_) (a' := ?_) #[true, true, true, true, true, true, true, true, true, true] rfl rfl (by kernel_rfl) (fun _ _ _ h => h) (Or.inl ⟨by rfl, ?_⟩) ?_ ?_
        rotate_left
        · intro w'
          go_simp
          with_reducible rfl
        rotate_left
        · simp only [Act.put, List.setIfInBounds_toArray, List.set_cons_zero, List.set_cons_succ, Go.Proofs.YtcjhligknhpadaaDoorW.PrintLast.i64_w, Go.Proofs.YtcjhligknhpadaaDoorW.PrintLast.i32_w]
          rfl
        refine Go.Proofs.YtcjhligknhpadaaDoorW.PrintLast.done_ (by kernel_rfl) ?_
        go_wp2_with (first | (go_at_call 33; refine (HG1.out _ _ (by intro _; rfl)).mono ?_; rintro e w2 ⟨rfl, rfl⟩) | (go_at_call 34; refine (padded_any n _ (by omega)).mono ?_; rintro e w3 ⟨rfl, rfl⟩))
        refine Go.Proofs.YtcjhligknhpadaaDoorW.PrintLast.start_ (n := 16) (S := fun v => True) (ds := [15]) #[false, false, false, false, false, false, false, false, false, false, false, false, false, false, false, false] (by kernel_rfl) rfl rfl trivial (fun hHeld => ?_)
        refine Go.Proofs.YtcjhligknhpadaaDoorW.PrintLast.pure_ (i := 0) (N := some 37) (v := ?_) (a' := ?_) #[true, false, false, false, false, false, false, false, false, false, false, false, false, false, false, false] rfl rfl (by kernel_rfl) (fun _ _ _ h => h) (Or.inl ⟨by rfl, ?_⟩) ?_ ?_
        rotate_left
        · intro w'
          go_simp
          with_reducible rfl
        rotate_left
        · simp only [Act.put, List.setIfInBounds_toArray, List.set_cons_zero, List.set_cons_succ, Go.Proofs.YtcjhligknhpadaaDoorW.PrintLast.i64_w, Go.Proofs.YtcjhligknhpadaaDoorW.PrintLast.i32_w]
          rfl
        refine Go.Proofs.YtcjhligknhpadaaDoorW.PrintLast.pure_ (i := 1) (N := some 38) (v := ?_) (a' := ?_) #[true, true, false, false, false, false, false, false, false, false, false, false, false, false, false, false] rfl rfl (by kernel_rfl) (fun _ _ _ h => h) (Or.inl ⟨by rfl, ?_⟩) ?_ ?_
        rotate_left
        · intro w'
          go_simp
          with_reducible rfl
        rotate_left
        · simp only [Act.put, List.setIfInBounds_toArray, List.set_cons_zero, List.set_cons_succ, Go.Proofs.YtcjhligknhpadaaDoorW.PrintLast.i64_w, Go.Proofs.YtcjhligknhpadaaDoorW.PrintLast.i32_w]
          rfl
        refine Go.Proofs.YtcjhligknhpadaaDoorW.PrintLast.pure_ (i := 2) (N := some 39) (v := ?_) (a' := ?_) #[true, true, true, false, false, false, false, false, false, false, false, false, false, false, false, false] rfl rfl (by kernel_rfl) (fun _ _ _ h => h) (Or.inl ⟨by rfl, ?_⟩) ?_ ?_
        rotate_left
        · intro w'
          go_simp
          with_reducible rfl
        rotate_left
        · simp only [Act.put, List.setIfInBounds_toArray, List.set_cons_zero, List.set_cons_succ, Go.Proofs.YtcjhligknhpadaaDoorW.PrintLast.i64_w, Go.Proofs.YtcjhligknhpadaaDoorW.PrintLast.i32_w]
          rfl
        refine Go.Proofs.YtcjhligknhpadaaDoorW.PrintLast.pure_ (i := 3) (N := some 40) (v := ?_) (a' := ?_) #[true, true, true, true, false, false, false, false, false, false, false, false, false, false, false, false] rfl rfl (by kernel_rfl) (fun _ _ _ h => h) (Or.inl ⟨by rfl, ?_⟩) ?_ ?_
        rotate_left
        · intro w'
          go_simp
          with_reducible rfl
        rotate_left
        · simp only [Act.put, List.setIfInBounds_toArray, List.set_cons_zero, List.set_cons_succ, Go.Proofs.YtcjhligknhpadaaDoorW.PrintLast.i64_w, Go.Proofs.YtcjhligknhpadaaDoorW.PrintLast.i32_w]
          rfl
        refine Go.Proofs.YtcjhligknhpadaaDoorW.PrintLast.pure_ (i := 4) (N := some 41) (v := ?_) (a' := ?_) #[true, true, true, true, true, false, false, false, false, false, false, false, false, false, false, false] rfl rfl (by kernel_rfl) (fun _ _ _ h => h) (Or.inl ⟨by rfl, ?_⟩) ?_ ?_
        rotate_left
        · intro w'
          go_simp
          with_reducible rfl
        rotate_left
        · simp only [Act.put, List.setIfInBounds_toArray, List.set_cons_zero, List.set_cons_succ, Go.Proofs.YtcjhligknhpadaaDoorW.PrintLast.i64_w, Go.Proofs.YtcjhligknhpadaaDoorW.PrintLast.i32_w]
          rfl
        refine Go.Proofs.YtcjhligknhpadaaDoorW.PrintLast.pure_ (i := 5) (N := some 42) (v := ?_) (a' := ?_) #[true, true, true, true, true, true, false, false, false, false, false, false, false, false, false, false] rfl rfl (by kernel_rfl) (fun _ _ _ h => h) (Or.inl ⟨by rfl, ?_⟩) ?_ ?_
        rotate_left
        · intro w'
          go_simp
          with_reducible rfl
        rotate_left
        · simp only [Act.put, List.setIfInBounds_toArray, List.set_cons_zero, List.set_cons_succ, Go.Proofs.YtcjhligknhpadaaDoorW.PrintLast.i64_w, Go.Proofs.YtcjhligknhpadaaDoorW.PrintLast.i32_w]
          rfl
        refine Go.Proofs.YtcjhligknhpadaaDoorW.PrintLast.pure_ (i := 6) (N := some 43) (v := ?_) (a' := ?_) #[true, true, true, true, true, true, true, false, false, false, false, false, false, false, false, false] rfl rfl (by kernel_rfl) (fun _ _ _ h => h) (Or.inl ⟨by rfl, ?_⟩) ?_ ?_
        rotate_left
        · intro w'
          go_simp
          with_reducible rfl
        rotate_left
        · simp only [Act.put, List.setIfInBounds_toArray, List.set_cons_zero, List.set_cons_succ, Go.Proofs.YtcjhligknhpadaaDoorW.PrintLast.i64_w, Go.Proofs.YtcjhligknhpadaaDoorW.PrintLast.i32_w]
          rfl
        refine Go.Proofs.YtcjhligknhpadaaDoorW.PrintLast.pure_ (i := 7) (N := some 44) (v := ?_) (a' := ?_) #[true, true, true, true, true, true, true, true, false, false, false, false, false, false, false, false] rfl rfl (by kernel_rfl) (fun _ _ _ h => h) (Or.inl ⟨by rfl, ?_⟩) ?_ ?_
        rotate_left
        · intro w'
          go_simp
          with_reducible rfl
        rotate_left
        · simp only [Act.put, List.setIfInBounds_toArray, List.set_cons_zero, List.set_cons_succ, Go.Proofs.YtcjhligknhpadaaDoorW.PrintLast.i64_w, Go.Proofs.YtcjhligknhpadaaDoorW.PrintLast.i32_w]
          rfl
        refine Go.Proofs.YtcjhligknhpadaaDoorW.PrintLast.pure_ (i := 8) (N := some 45) (v := ?_) (a' := ?_) #[true, true, true, true, true, true, true, true, true, false, false, false, false, false, false, false] rfl rfl (by kernel_rfl) (fun _ _ _ h => h) (Or.inl ⟨by rfl, ?_⟩) ?_ ?_
        rotate_left
        · intro w'
          go_simp
          with_reducible rfl
        rotate_left
        · simp only [Act.put, List.setIfInBounds_toArray, List.set_cons_zero, List.set_cons_succ, Go.Proofs.YtcjhligknhpadaaDoorW.PrintLast.i64_w, Go.Proofs.YtcjhligknhpadaaDoorW.PrintLast.i32_w]
          rfl
        refine Go.Proofs.YtcjhligknhpadaaDoorW.PrintLast.pure_ (i := 9) (N := some 46) (v := ?_) (a' := ?_) #[true, true, true, true, true, true, true, true, true, true, false, false, false, false, false, false] rfl rfl (by kernel_rfl) (fun _ _ _ h => h) (Or.inl ⟨by rfl, ?_⟩) ?_ ?_
        rotate_left
        · intro w'
          go_simp
          with_reducible rfl
        rotate_left
        · simp only [Act.put, List.setIfInBounds_toArray, List.set_cons_zero, List.set_cons_succ, Go.Proofs.YtcjhligknhpadaaDoorW.PrintLast.i64_w, Go.Proofs.YtcjhligknhpadaaDoorW.PrintLast.i32_w]
          rfl
        refine Go.Proofs.YtcjhligknhpadaaDoorW.PrintLast.pure_ (i := 10) (N := some 47) (v := ?_) (a' := ?_) #[true, true, true, true, true, true, true, true, true, true, true, false, false, false, false, false] rfl rfl (by kernel_rfl) (fun _ _ _ h => h) (Or.inl ⟨by rfl, ?_⟩) ?_ ?_
        rotate_left
        · intro w'
          go_simp
          with_reducible rfl
        rotate_left
        · simp only [Act.put, List.setIfInBounds_toArray, List.set_cons_zero, List.set_cons_succ, Go.Proofs.YtcjhligknhpadaaDoorW.PrintLast.i64_w, Go.Proofs.YtcjhligknhpadaaDoorW.PrintLast.i32_w]
          rfl
        refine Go.Proofs.YtcjhligknhpadaaDoorW.PrintLast.one_ (i := 11) (N := some 48) #[true, true, true, true, true, true, true, true, true, true, true, true, false, false, false, false] rfl rfl (by kernel_rfl) (by decide) (fun K hK => ?_)
        refine Go.Proofs.YtcjhligknhpadaaDoorW.PrintLast.goes_ Tryd.func34 (by kernel_rfl) rfl #[.int .i64 n] (by rfl) rfl rfl (by (try simp only [List.map_toArray, List.map_cons, List.map_nil]); first | done | rfl) ?_
        refine (padded_any n _ (by omega)).mono ?_
        rintro e w4 ⟨rfl, rfl⟩
        refine ⟨_, rfl, ?_⟩
        refine hK.out _ _ trivial (fun hHeld => ?_)
        clear hK K
        refine Go.Proofs.YtcjhligknhpadaaDoorW.PrintLast.norm_ (a' := ?_) ?_ ?_
        rotate_left
        · show Act.put _ (some 48) _ = _
          simp only [Act.put, List.setIfInBounds_toArray, List.set_cons_zero, List.set_cons_succ, Go.Proofs.YtcjhligknhpadaaDoorW.PrintLast.i64_w, Go.Proofs.YtcjhligknhpadaaDoorW.PrintLast.i32_w]
          rfl
        refine Go.Proofs.YtcjhligknhpadaaDoorW.PrintLast.pure_ (i := 12) (N := some 49) (v := ?_) (a' := ?_) #[true, true, true, true, true, true, true, true, true, true, true, true, true, false, false, false] rfl rfl (by kernel_rfl) (fun _ _ _ h => h) (Or.inl ⟨by rfl, ?_⟩) ?_ ?_
        rotate_left
        · intro w'
          go_simp
          with_reducible rfl
        rotate_left
        · simp only [Act.put, List.setIfInBounds_toArray, List.set_cons_zero, List.set_cons_succ, Go.Proofs.YtcjhligknhpadaaDoorW.PrintLast.i64_w, Go.Proofs.YtcjhligknhpadaaDoorW.PrintLast.i32_w]
          rfl
        refine Go.Proofs.YtcjhligknhpadaaDoorW.PrintLast.pure_ (i := 13) (N := some 50) (v := ?_) (a' := ?_) #[true, true, true, true, true, true, true, true, true, true, true, true, true, true, false, false] rfl rfl (by kernel_rfl) (fun _ _ _ h => h) (Or.inl ⟨by rfl, ?_⟩) ?_ ?_
        rotate_left
        · intro w'
          go_simp
          with_reducible rfl
        rotate_left
        · simp only [Act.put, List.setIfInBounds_toArray, List.set_cons_zero, List.set_cons_succ, Go.Proofs.YtcjhligknhpadaaDoorW.PrintLast.i64_w, Go.Proofs.YtcjhligknhpadaaDoorW.PrintLast.i32_w]
          rfl
        refine Go.Proofs.YtcjhligknhpadaaDoorW.PrintLast.pure_ (i := 14) (N := some 5) (v := ?_) (a' := ?_) #[true, true, true, true, true, true, true, true, true, true, true, true, true, true, true, false] rfl rfl (by kernel_rfl) (fun _ _ _ h => h) (Or.inl ⟨by rfl, ?_⟩) ?_ ?_
        rotate_left
        · intro w'
          go_simp
          with_reducible rfl
        rotate_left
        · simp only [Act.put, List.setIfInBounds_toArray, List.set_cons_zero, List.set_cons_succ, Go.Proofs.YtcjhligknhpadaaDoorW.PrintLast.i64_w, Go.Proofs.YtcjhligknhpadaaDoorW.PrintLast.i32_w]
          rfl
        refine Go.Proofs.YtcjhligknhpadaaDoorW.PrintLast.pure_ (i := 15) (N := some 6) (v := ?_) (a' := ?_) #[true, true, true, true, true, true, true, true, true, true, true, true, true, true, true, true] rfl rfl (by kernel_rfl) (fun _ _ _ h => h) (Or.inl ⟨by rfl, ?_⟩) ?_ ?_
        rotate_left
        · intro w'
          go_simp
          with_reducible rfl
        rotate_left
        · simp only [Act.put, List.setIfInBounds_toArray, List.set_cons_zero, List.set_cons_succ, Go.Proofs.YtcjhligknhpadaaDoorW.PrintLast.i64_w, Go.Proofs.YtcjhligknhpadaaDoorW.PrintLast.i32_w]
          rfl
        refine Go.Proofs.YtcjhligknhpadaaDoorW.PrintLast.done_ (by kernel_rfl) ?_
        go_wp2_with fail
        refine Go.Proofs.YtcjhligknhpadaaDoorW.PrintLast.start_ (n := 16) (S := fun v => ∀ a, v.cell? a = w.cell? a) (ds := [15]) #[false, false, false, false, false, false, false, false, false, false, false, false, false, false, false, false] (by kernel_rfl) rfl rfl (fun _ => rfl) (fun hHeld => ?_)
        refine Go.Proofs.YtcjhligknhpadaaDoorW.PrintLast.pure_ (i := 0) (N := some 51) (v := ?_) (a' := ?_) #[true, false, false, false, false, false, false, false, false, false, false, false, false, false, false, false] rfl rfl (by kernel_rfl) (fun _ _ _ h => h) (Or.inl ⟨by rfl, ?_⟩) ?_ ?_
        rotate_left
        · intro w'
          go_simp
          with_reducible rfl
        rotate_left
        · simp only [Act.put, List.setIfInBounds_toArray, List.set_cons_zero, List.set_cons_succ, Go.Proofs.YtcjhligknhpadaaDoorW.PrintLast.i64_w, Go.Proofs.YtcjhligknhpadaaDoorW.PrintLast.i32_w]
          rfl
        refine Go.Proofs.YtcjhligknhpadaaDoorW.PrintLast.pure_ (i := 1) (N := some 52) (v := ?_) (a' := ?_) #[true, true, false, false, false, false, false, false, false, false, false, false, false, false, false, false] rfl rfl (by kernel_rfl) (fun _ _ _ h => h) (Or.inl ⟨by rfl, ?_⟩) ?_ ?_
        rotate_left
        · intro w'
          go_simp
          with_reducible rfl
        rotate_left
        · simp only [Act.put, List.setIfInBounds_toArray, List.set_cons_zero, List.set_cons_succ, Go.Proofs.YtcjhligknhpadaaDoorW.PrintLast.i64_w, Go.Proofs.YtcjhligknhpadaaDoorW.PrintLast.i32_w]
          rfl
        refine Go.Proofs.YtcjhligknhpadaaDoorW.PrintLast.pure_ (i := 4) (N := some 55) (v := ?_) (a' := ?_) #[true, true, false, false, true, false, false, false, false, false, false, false, false, false, false, false] rfl rfl (by kernel_rfl) (fun _ _ _ h => h) (Or.inl ⟨by rfl, ?_⟩) ?_ ?_
        rotate_left
        · intro w'
          go_simp
          with_reducible rfl
        rotate_left
        · simp only [Act.put, List.setIfInBounds_toArray, List.set_cons_zero, List.set_cons_succ, Go.Proofs.YtcjhligknhpadaaDoorW.PrintLast.i64_w, Go.Proofs.YtcjhligknhpadaaDoorW.PrintLast.i32_w]
          rfl
        refine Go.Proofs.YtcjhligknhpadaaDoorW.PrintLast.pure_ (i := 5) (N := some 56) (v := ?_) (a' := ?_) #[true, true, false, false, true, true, false, false, false, false, false, false, false, false, false, false] rfl rfl (by kernel_rfl) (fun _ _ _ h => h) (Or.inl ⟨by rfl, ?_⟩) ?_ ?_
        rotate_left
        · intro w'
          go_simp
          with_reducible rfl
        rotate_left
        · simp only [Act.put, List.setIfInBounds_toArray, List.set_cons_zero, List.set_cons_succ, Go.Proofs.YtcjhligknhpadaaDoorW.PrintLast.i64_w, Go.Proofs.YtcjhligknhpadaaDoorW.PrintLast.i32_w]
          rfl
        refine Go.Proofs.YtcjhligknhpadaaDoorW.PrintLast.one_ (i := 2) (N := some 53) #[true, true, true, false, true, true, false, false, false, false, false, false, false, false, false, false] rfl rfl (by kernel_rfl) (by decide) (fun K hK => ?_)
        refine Go.Proofs.YtcjhligknhpadaaDoorW.PrintLast.goes_ Tryd.func35 (by kernel_rfl) rfl #[.slice (some ⟨I, fn + 8, none⟩) n _] (by rfl) rfl rfl (by (try simp only [List.map_toArray, List.map_cons, List.map_nil]); first | done | rfl) ?_
        refine (HSUM.out _ _ hHeld).mono ?_
        rintro e w2 ⟨rfl, rfl⟩
        refine ⟨_, rfl, ?_⟩
        refine hK.out _ _ hHeld (fun hHeld => ?_)
        clear hK K
        refine Go.Proofs.YtcjhligknhpadaaDoorW.PrintLast.norm_ (a' := ?_) ?_ ?_
        rotate_left
        · show Act.put _ (some 53) _ = _
          simp only [Act.put, List.setIfInBounds_toArray, List.set_cons_zero, List.set_cons_succ, Go.Proofs.YtcjhligknhpadaaDoorW.PrintLast.i64_w, Go.Proofs.YtcjhligknhpadaaDoorW.PrintLast.i32_w]
          rfl
        refine Go.Proofs.YtcjhligknhpadaaDoorW.PrintLast.pure_ (i := 3) (N := some 54) (v := ?_) (a' := ?_) #[true, true, true, true, true, true, false, false, false, false, false, false, false, false, false, false] rfl rfl (by kernel_rfl) (fun _ _ _ h => h) (Or.inl ⟨by rfl, ?_⟩) ?_ ?_
        rotate_left
        · intro w'
          go_simp
          with_reducible rfl
        rotate_left
        · simp only [Act.put, List.setIfInBounds_toArray, List.set_cons_zero, List.set_cons_succ, Go.Proofs.YtcjhligknhpadaaDoorW.PrintLast.i64_w, Go.Proofs.YtcjhligknhpadaaDoorW.PrintLast.i32_w]
          rfl
        refine Go.Proofs.YtcjhligknhpadaaDoorW.PrintLast.one_ (i := 6) (N := some 57) #[true, true, true, true, true, true, true, false, false, false, false, false, false, false, false, false] rfl rfl (by kernel_rfl) (by decide) (fun K hK => ?_)
        refine Go.Proofs.YtcjhligknhpadaaDoorW.PrintLast.goes_ Tryd.func33 (by kernel_rfl) rfl #[.slice (some ⟨I, fn + 4, none⟩) 4 _] (by rfl) rfl rfl (by (try simp only [List.map_toArray, List.map_cons, List.map_nil]); first | done | rfl) ?_
        refine (HG2.out _ _ hHeld).mono ?_
        rintro e w2 ⟨rfl, rfl⟩
        refine ⟨_, rfl, ?_⟩
        refine hK.out _ _ hHeld (fun hHeld => ?_)
        clear hK K
        refine Go.Proofs.YtcjhligknhpadaaDoorW.PrintLast.norm_ (a' := ?_) ?_ ?_
        rotate_left
        · show Act.put _ (some 57) _ = _
          simp only [Act.put, List.setIfInBounds_toArray, List.set_cons_zero, List.set_cons_succ, Go.Proofs.YtcjhligknhpadaaDoorW.PrintLast.i64_w, Go.Proofs.YtcjhligknhpadaaDoorW.PrintLast.i32_w]
          rfl
        refine Go.Proofs.YtcjhligknhpadaaDoorW.PrintLast.pure_ (i := 7) (N := some 58) (v := ?_) (a' := ?_) #[true, true, true, true, true, true, true, true, false, false, false, false, false, false, false, false] rfl rfl (by kernel_rfl) (fun _ _ _ h => h) (Or.inl ⟨by rfl, ?_⟩) ?_ ?_
        rotate_left
        · intro w'
          go_simp
          with_reducible rfl
        rotate_left
        · simp only [Act.put, List.setIfInBounds_toArray, List.set_cons_zero, List.set_cons_succ, Go.Proofs.YtcjhligknhpadaaDoorW.PrintLast.i64_w, Go.Proofs.YtcjhligknhpadaaDoorW.PrintLast.i32_w]
          rfl
        refine Go.Proofs.YtcjhligknhpadaaDoorW.PrintLast.pure_ (i := 8) (N := some 59) (v := ?_) (a' := ?_) #[true, true, true, true, true, true, true, true, true, false, false, false, false, false, false, false] rfl rfl (by kernel_rfl) (fun _ _ _ h => h) (Or.inl ⟨by rfl, ?_⟩) ?_ ?_
        rotate_left
        · intro w'
          go_simp
          with_reducible rfl
        rotate_left
        · simp only [Act.put, List.setIfInBounds_toArray, List.set_cons_zero, List.set_cons_succ, Go.Proofs.YtcjhligknhpadaaDoorW.PrintLast.i64_w, Go.Proofs.YtcjhligknhpadaaDoorW.PrintLast.i32_w]
          rfl
        refine Go.Proofs.YtcjhligknhpadaaDoorW.PrintLast.pure_ (i := 9) (N := some 60) (v := _) (a' := ?_) #[true, true, true, true, true, true, true, true, true, true, false, false, false, false, false, false] rfl rfl (by kernel_rfl) (fun _ _ _ h => h) (Or.inr ⟨by rfl, rfl⟩) ?_ ?_
        rotate_left
        · simp only [Act.put, List.setIfInBounds_toArray, List.set_cons_zero, List.set_cons_succ, Go.Proofs.YtcjhligknhpadaaDoorW.PrintLast.i64_w, Go.Proofs.YtcjhligknhpadaaDoorW.PrintLast.i32_w]
          rfl
        refine Go.Proofs.YtcjhligknhpadaaDoorW.PrintLast.pure_ (i := 10) (N := some 61) (v := _) (a' := ?_) #[true, true, true, true, true, true, true, true, true, true, true, false, false, false, false, false] rfl rfl (by kernel_rfl) (fun _ _ _ h => h) (Or.inr ⟨by rfl, rfl⟩) ?_ ?_
        rotate_left
        · simp only [Act.put, List.setIfInBounds_toArray, List.set_cons_zero, List.set_cons_succ, Go.Proofs.YtcjhligknhpadaaDoorW.PrintLast.i64_w, Go.Proofs.YtcjhligknhpadaaDoorW.PrintLast.i32_w]
          rfl
        refine Go.Proofs.YtcjhligknhpadaaDoorW.PrintLast.pure_ (i := 11) (N := some 62) (v := _) (a' := ?_) #[true, true, true, true, true, true, true, true, true, true, true, true, false, false, false, false] rfl rfl (by kernel_rfl) (fun _ _ _ h => h) (Or.inr ⟨by rfl, rfl⟩) ?_ ?_
        rotate_left
        · simp only [Act.put, List.setIfInBounds_toArray, List.set_cons_zero, List.set_cons_succ, Go.Proofs.YtcjhligknhpadaaDoorW.PrintLast.i64_w, Go.Proofs.YtcjhligknhpadaaDoorW.PrintLast.i32_w]
          rfl
        refine Go.Proofs.YtcjhligknhpadaaDoorW.PrintLast.pure_ (i := 12) (N := some 63) (v := _) (a' := ?_) #[true, true, true, true, true, true, true, true, true, true, true, true, true, false, false, false] rfl rfl (by kernel_rfl) (fun _ _ _ h => h) (Or.inr ⟨by rfl, rfl⟩) ?_ ?_
        rotate_left
        · simp only [Act.put, List.setIfInBounds_toArray, List.set_cons_zero, List.set_cons_succ, Go.Proofs.YtcjhligknhpadaaDoorW.PrintLast.i64_w, Go.Proofs.YtcjhligknhpadaaDoorW.PrintLast.i32_w]
          rfl
        refine Go.Proofs.YtcjhligknhpadaaDoorW.PrintLast.pure_ (i := 13) (N := some 64) (v := ?_) (a' := ?_) #[true, true, true, true, true, true, true, true, true, true, true, true, true, true, false, false] rfl rfl (by kernel_rfl) (fun _ _ _ h => h) (Or.inl ⟨by rfl, ?_⟩) ?_ ?_
        rotate_left
        · intro w'
          go_simp
          with_reducible rfl
        rotate_left
        · simp only [Act.put, List.setIfInBounds_toArray, List.set_cons_zero, List.set_cons_succ, Go.Proofs.YtcjhligknhpadaaDoorW.PrintLast.i64_w, Go.Proofs.YtcjhligknhpadaaDoorW.PrintLast.i32_w]
          rfl
        refine Go.Proofs.YtcjhligknhpadaaDoorW.PrintLast.pure_ (i := 14) (N := some 1) (v := ?_) (a' := ?_) #[true, true, true, true, true, true, true, true, true, true, true, true, true, true, true, false] rfl rfl (by kernel_rfl) (fun _ _ _ h => h) (Or.inl ⟨by rfl, ?_⟩) ?_ ?_
        rotate_left
        · intro w'
          go_simp
          with_reducible rfl
        rotate_left
        · simp only [Act.put, List.setIfInBounds_toArray, List.set_cons_zero, List.set_cons_succ, Go.Proofs.YtcjhligknhpadaaDoorW.PrintLast.i64_w, Go.Proofs.YtcjhligknhpadaaDoorW.PrintLast.i32_w]
          rfl
        refine Go.Proofs.YtcjhligknhpadaaDoorW.PrintLast.pure_ (i := 15) (N := some 2) (v := ?_) (a' := ?_) #[true, true, true, true, true, true, true, true, true, true, true, true, true, true, true, true] rfl rfl (by kernel_rfl) (fun _ _ _ h => h) (Or.inl ⟨by rfl, ?_⟩) ?_ ?_
        rotate_left
        · intro w'
          go_simp
          with_reducible rfl
        rotate_left
        · simp only [Act.put, List.setIfInBounds_toArray, List.set_cons_zero, List.set_cons_succ, Go.Proofs.YtcjhligknhpadaaDoorW.PrintLast.i64_w, Go.Proofs.YtcjhligknhpadaaDoorW.PrintLast.i32_w]
          rfl
        refine Go.Proofs.YtcjhligknhpadaaDoorW.PrintLast.done_ (by kernel_rfl) ?_
        go_wp2_with fail
        go_ret2
        exact ⟨⟨3, rfl⟩, .inr ⟨by rw [HFR.out, if_neg (by simp [hq])], _, rfl⟩⟩
  · have hfr := frameAt_short (l.img.drop fn) (by rw [List.length_drop, hlen]; omega)
    obtain rfl : fn = S * 128 := by omega
    have q1 : 0 ≤ (S : Int) * 128 := by omega
    have q2 : ((S : Int) * 128).toNat = S * 128 := by omega
    go_enter Tryd.func32, Tryd.ntmps32
    go_wp2_with fail
    refine Go.Proofs.YtcjhligknhpadaaDoorW.PrintLast.start_ (n := 10) (S := fun v => v.cell? ⟨Bx, 0, none⟩ = some (.pointer (some ⟨P, 0, none⟩)) ∧ v.cell? ⟨P, 6, none⟩ = some (.slice (some ⟨I, 0, none⟩) (S * 128) (S * 128)) ∧ v.cell? ⟨P, 5, none⟩ = some (.int .i64 (S * 128 : Nat))) (ds := [9]) #[false, false, false, false, false, false, false, false, false, false] (by kernel_rfl) rfl rfl ⟨cb, c6, c5⟩ (fun hHeld => ?_)
    refine Go.Proofs.YtcjhligknhpadaaDoorW.PrintLast.take_ (i := 0) (N := some 7) (v := ?_) (a' := ?_) #[true, false, false, false, false, false, false, false, false, false] rfl rfl (by kernel_rfl) (fun _ _ _ h => h) (Or.inl ⟨by rfl, ?_⟩) hHeld ?_ ?_
    rotate_left
    · rintro w' ⟨s0, s1, s2⟩
      go_simp
      with_reducible rfl
    rotate_left
    · simp only [Act.put, List.setIfInBounds_toArray, List.set_cons_zero, List.set_cons_succ, Go.Proofs.YtcjhligknhpadaaDoorW.PrintLast.i64_w, Go.Proofs.YtcjhligknhpadaaDoorW.PrintLast.i32_w]
      rfl
    refine Go.Proofs.YtcjhligknhpadaaDoorW.PrintLast.pure_ (i := 1) (N := some 8) (v := ?_) (a' := ?_) #[true, true, false, false, false, false, false, false, false, false] rfl rfl (by kernel_rfl) (fun _ _ _ h => h) (Or.inl ⟨by rfl, ?_⟩) ?_ ?_
    rotate_left
    · intro w'
      go_simp
      with_reducible rfl
    rotate_left
    · simp only [Act.put, List.setIfInBounds_toArray, List.set_cons_zero, List.set_cons_succ, Go.Proofs.YtcjhligknhpadaaDoorW.PrintLast.i64_w, Go.Proofs.YtcjhligknhpadaaDoorW.PrintLast.i32_w]
      rfl
    refine Go.Proofs.YtcjhligknhpadaaDoorW.PrintLast.pure_ (i := 2) (N := some 9) (v := ?_) (a' := ?_) #[true, true, true, false, false, false, false, false, false, false] rfl rfl (by kernel_rfl) (fun _ _ _ h => h) (Or.inl ⟨by rfl, ?_⟩) ?_ ?_
    rotate_left
    · intro w'
      go_simp
      with_reducible rfl
    rotate_left
    · simp only [Act.put, List.setIfInBounds_toArray, List.set_cons_zero, List.set_cons_succ, Go.Proofs.YtcjhligknhpadaaDoorW.PrintLast.i64_w, Go.Proofs.YtcjhligknhpadaaDoorW.PrintLast.i32_w]
      rfl
    refine Go.Proofs.YtcjhligknhpadaaDoorW.PrintLast.take_ (i := 3) (N := some 10) (v := ?_) (a' := ?_) #[true, true, true, true, false, false, false, false, false, false] rfl rfl (by kernel_rfl) (fun _ _ _ h => h) (Or.inl ⟨by rfl, ?_⟩) hHeld ?_ ?_
    rotate_left
    · rintro w' ⟨s0, s1, s2⟩
      go_simp
      with_reducible rfl
    rotate_left
    · simp only [Act.put, List.setIfInBounds_toArray, List.set_cons_zero, List.set_cons_succ, Go.Proofs.YtcjhligknhpadaaDoorW.PrintLast.i64_w, Go.Proofs.YtcjhligknhpadaaDoorW.PrintLast.i32_w]
      rfl
    refine Go.Proofs.YtcjhligknhpadaaDoorW.PrintLast.take_ (i := 4) (N := some 11) (v := ?_) (a' := ?_) #[true, true, true, true, true, false, false, false, false, false] rfl rfl (by kernel_rfl) (fun _ _ _ h => h) (Or.inl ⟨by rfl, ?_⟩) hHeld ?_ ?_
    rotate_left
    · rintro w' ⟨s0, s1, s2⟩
      go_simp
      with_reducible rfl
    rotate_left
    · simp only [Act.put, List.setIfInBounds_toArray, List.set_cons_zero, List.set_cons_succ, Go.Proofs.YtcjhligknhpadaaDoorW.PrintLast.i64_w, Go.Proofs.YtcjhligknhpadaaDoorW.PrintLast.i32_w]
      rfl
    refine Go.Proofs.YtcjhligknhpadaaDoorW.PrintLast.pure_ (i := 5) (N := some 12) (v := ?_) (a' := ?_) #[true, true, true, true, true, true, false, false, false, false] rfl rfl (by kernel_rfl) (fun _ _ _ h => h) (Or.inl ⟨by rfl, ?_⟩) ?_ ?_
    rotate_left
    · intro w'
      go_simp
      with_reducible rfl
    rotate_left
    · simp only [Act.put, List.setIfInBounds_toArray, List.set_cons_zero, List.set_cons_succ, Go.Proofs.YtcjhligknhpadaaDoorW.PrintLast.i64_w, Go.Proofs.YtcjhligknhpadaaDoorW.PrintLast.i32_w]
      rfl
    refine Go.Proofs.YtcjhligknhpadaaDoorW.PrintLast.pure_ (i := 6) (N := some 13) (v := ?_) (a' := ?_) #[true, true, true, true, true, true, true, false, false, false] rfl rfl (by kernel_rfl) (fun _ _ _ h => h) (Or.inl ⟨by rfl, ?_⟩) ?_ ?_
    rotate_left
    · intro w'
      go_simp
      with_reducible rfl
    rotate_left
    · simp only [Act.put, List.setIfInBounds_toArray, List.set_cons_zero, List.set_cons_succ, Go.Proofs.YtcjhligknhpadaaDoorW.PrintLast.i64_w, Go.Proofs.YtcjhligknhpadaaDoorW.PrintLast.i32_w]
      rfl
    refine Go.Proofs.YtcjhligknhpadaaDoorW.PrintLast.take_ (i := 7) (N := some 14) (v := ?_) (a' := ?_) #[true, true, true, true, true, true, true, true, false, false] rfl rfl (by kernel_rfl) (fun _ _ _ h => h) (Or.inl ⟨by rfl, ?_⟩) hHeld ?_ ?_
    rotate_left
    · rintro w' ⟨s0, s1, s2⟩
      go_simp
      with_reducible rfl
    rotate_left
    · simp only [Act.put, List.setIfInBounds_toArray, List.set_cons_zero, List.set_cons_succ, Go.Proofs.YtcjhligknhpadaaDoorW.PrintLast.i64_w, Go.Proofs.YtcjhligknhpadaaDoorW.PrintLast.i32_w]
      rfl
    refine Go.Proofs.YtcjhligknhpadaaDoorW.PrintLast.pure_ (i := 8) (N := some 15) (v := ?_) (a' := ?_) #[true, true, true, true, true, true, true, true, true, false] rfl rfl (by kernel_rfl) (fun _ _ _ h => h) (Or.inl ⟨by rfl, ?_⟩) ?_ ?_
    rotate_left
    · intro w'
      go_simp
      with_reducible rfl
    rotate_left
    · simp only [Act.put, List.setIfInBounds_toArray, List.set_cons_zero, List.set_cons_succ, Go.Proofs.YtcjhligknhpadaaDoorW.PrintLast.i64_w, Go.Proofs.YtcjhligknhpadaaDoorW.PrintLast.i32_w]
      rfl
    refine Go.Proofs.YtcjhligknhpadaaDoorW.PrintLast.pure_ (i := 9) (N := some 3) (v := ?_) (a' := ?_) #[true, true, true, true, true, true, true, true, true, true] rfl rfl (by kernel_rfl) (fun _ _ _ h => h) (Or.inl ⟨by rfl, ?_⟩) ?_ ?_
    rotate_left
    · intro w'
      go_simp
      with_reducible rfl
    rotate_left
    · simp only [Act.put, List.setIfInBounds_toArray, List.set_cons_zero, List.set_cons_succ, Go.Proofs.YtcjhligknhpadaaDoorW.PrintLast.i64_w, Go.Proofs.YtcjhligknhpadaaDoorW.PrintLast.i32_w]
      rfl
    refine Go.Proofs.YtcjhligknhpadaaDoorW.PrintLast.done_ (by kernel_rfl) ?_
    go_wp2_with fail
    go_ret2
    exact ⟨⟨_, rfl⟩, .inr ⟨hfr, _, rfl⟩⟩
end Dk
end Go.Proofs.YtcjhligknhpadaaDoor

namespace Go.Proofs.YtcjhligknhpadaaDoor
open Go.RowKit Go.Proofs.YtcjhligknhpadaaDoor.Wp Go.Proofs.YtcjhligknhpadaaDoorW.PrintWords Go.Proofs.YtcjhligknhpadaaDoorW.PrintLast
set_option linter.unusedVariables false
set_option linter.unusedSimpArgs false
namespace Dk

def LOpA [av : Av] (base : Nat) (w : World) (P D I x y : Nat) (d : Dsk) (v : Value) (wr : World) : Prop :=
  ∃ k : Nat, k ≤ y ∧ v = .int .i64 k ∧ LgAt base wr P D I (.slice none 0 0) { Lg.new x y with img := reg d.now x k ++ zer ((y - k) * 128) } ∧ IsDk base wr D d ∧ LChg base (fun i => i = P ∨ i = I) w wr
theorem reg_splice (now : Int → List Int) (x : Int) (k y : Nat) (h : ∀ q, (now q).length ≤ 128) (hk : k < y) : splice (reg now x k ++ zer ((y - k) * 128)) (k * 128) (full (now (x + k))) = reg now x (k + 1) ++ zer ((y - (k + 1)) * 128) := by
  have hr := reg_len now x h k
  have hf := full_len _ (h (x + k))
  have e : zer ((y - k) * 128) = zer 128 ++ zer ((y - (k + 1)) * 128) := by
    unfold zer
    rw [List.replicate_append_replicate]
    congr 1
    omega
  unfold splice
  rw [hf, List.take_append_of_le_length (by omega), List.take_of_length_le (by omega), List.drop_append, List.drop_of_length_le (l := reg now x k) (by omega), List.nil_append, hr, e, List.drop_append, List.drop_of_length_le (l := zer 128) (by rw [zer_len]; omega), List.nil_append, zer_len, show k * 128 + 128 - k * 128 - 128 = 0 by omega, List.drop_zero, reg, List.append_assoc]
theorem reg_by {now : Int → List Int} (h : ∀ q, (now q).length ≤ 128) (hb : ∀ q, IsBy (now q)) (x : Int) : ∀ s, IsBy (reg now x s)
  | 0 => fun c hc => by simp [reg] at hc
  | s + 1 => fun c hc => by
    rcases List.mem_append.1 hc with hc | hc
    · exact reg_by h hb x s c hc
    · exact full_by (hb _) c hc
theorem zer_by (n : Nat) : IsBy (zer n) := fun c hc => by rw [(List.mem_replicate.1 hc).2]; omega
theorem app_by {a b : List Int} (ha : IsBy a) (hb : IsBy b) : IsBy (a ++ b) := fun c hc => by
  rcases List.mem_append.1 hc with hc | hc
  · exact ha c hc
  · exact hb c hc
theorem frameAt_sub {l r : List Int} (h : frameAt crcF l = some r) : r = (l.drop 8).take r.length := by
  have hl := frameAt_len crcF h
  unfold frameAt at h
  split at h
  · cases h
  · split at h
    · cases h
    · split at h
      · have e := Option.some.inj h
        rw [← e, List.length_take]
        rw [List.take_eq_take_iff]
        omega
      · cases h
theorem NextAt.vals {l : Lg} {I : Nat} {e : Ending} (h : NextAt l I e) : ∃ v u, e = .returned (.tuple #[v, u]) ∧ ((∃ r c, frameAt crcF (l.img.drop l.fin) = some r ∧ v = .slice (some ⟨I, l.fin + 8, none⟩) r.length c ∧ u = .bool true) ∨ (frameAt crcF (l.img.drop l.fin) = none ∧ u = .bool false)) := by
  rcases h with ⟨r, c, h, rfl⟩ | ⟨h, v, rfl⟩
  · exact ⟨_, _, rfl, .inl ⟨r, c, h, rfl, rfl⟩⟩
  · exact ⟨_, _, rfl, .inr ⟨h, rfl⟩⟩
/-- what the second loop holds -/
def LOpB [av : Av] (base : Nat) (w : World) (P D I x y : Nat) (R : List Int) (d : Dsk) (v u : Value) (wm : World) : Prop :=
  ∃ (rs : List (List Int)) (f : Nat) (rv : Value), LgAt base wm P D I rv ⟨x, y, rs, 0, f, R, 0⟩ ∧ IsDk base wm D d ∧ LChg base (fun i => i = P ∨ i = I) w wm ∧ (∀ i, i < w.heap.size → rv.ownBlock ≠ some i) ∧ f = sizeF rs ∧ f ≤ y * 128 ∧ f % 8 = 0 ∧ readF crcF (y * 128 + 1) R = rs ++ readF crcF (y * 128 + 1 - rs.length) (R.drop f) ∧ rs.length * 8 ≤ f ∧
    ((∃ r c, frameAt crcF (R.drop f) = some r ∧ v = .slice (some ⟨I, f + 8, none⟩) r.length c ∧ u = .bool true) ∨ (frameAt crcF (R.drop f) = none ∧ u = .bool false))
def finW (wm : World) (P : Nat) : Nat := match wm.cell? ⟨P, 5, none⟩ with
  | some (.int _ n) => n.toNat
  | _ => 0
/-- the log that stands in a region's bytes -/
def openL (x y : Nat) (R : List Int) : Lg := ⟨x, y, readF crcF (y * 128 + 1) R, (readF crcF (y * 128 + 1) R).length, sizeF (readF crcF (y * 128 + 1) R), zfrom R (sizeF (readF crcF (y * 128 + 1) R)), sizeF (readF crcF (y * 128 + 1) R)⟩
theorem readF_none (k : Nat) (l : List Int) (h : frameAt crcF l = none) : readF crcF k l = [] := by
  cases k with
  | zero => rfl
  | succ k => rw [readF, h]
set_option maxHeartbeats 2000000 in
set_option maxRecDepth 100000 in
theorem open_core [av : Av] (base D x y P I : Nat) (d : Dsk) (w : World) (hbg : Calls Tryd.prog 28 #[.pointer (some ⟨D, 0, none⟩), .int .i64 x, .int .i64 y] w fun e w1 => e = .returned (.tuple #[.pointer (some ⟨P, 0, none⟩), .int .i64 0]) ∧ LgAt base w1 P D I (.slice none 0 0) (Lg.new x y) ∧ IsDk base w1 D d ∧ Below w.heap.size w w1)
    (hb0 : 0 < base) (hbw : base ≤ w.heap.size) (hav : ∀ g, w.heap.size + 2 ≤ g → ¬ av.bad g) (hPI : w.heap.size ≤ P ∧ w.heap.size ≤ I) (ht : Tab w) (hN : 1 ≤ d.N ∧ d.N ≤ 4096) (h1 : 1 ≤ y) (h2 : y ≤ 1024) (h3 : (x : Int) ≤ d.N - y) (hn : d.log.length + y + 1 ≤ 1000000) (hs : d.syncs.length + 1 ≤ 1000000) (hnow : ∀ q, (d.now q).length ≤ 128) (hnb : ∀ q, IsBy (d.now q)) :
    Calls Tryd.prog 9 #[.pointer (some ⟨D, 0, none⟩), .int .i64 x, .int .i64 y] w fun e w' => e = .returned (.tuple #[.pointer (some ⟨P, 0, none⟩), .int .i64 0]) ∧ ∃ rv, LgAt base w' P D I rv (openL x y (reg d.now x y)) ∧ IsDk base w' D (blankD x (reg d.now x y) (openL x y (reg d.now x y)).fin d) ∧ Chg base DK w w' ∧ (∀ i, i < w.heap.size → rv.ownBlock ≠ some i) := by
  have HBG := Lib.hid hbg
  clear hbg
  have hmf : ∀ (fn : Fn) (first cap : Array Value) (w : World), (Instr.makeFunc fn first cap).run Tryd.prog w = .ok (.func fn first cap) w := fun _ _ _ _ => rfl
  go_enter Tryd.func9, Tryd.ntmps9
  go_wp2_with (go_at_call 28; refine HBG.out.mono ?_; rintro e w1 ⟨rfl, q1, q2, q3⟩; have Q1 := Lib.hid q1; have Q2 := Lib.hid q2; have Q3 := Lib.hid q3; clear q1 q2 q3)
  have hbx : (w1.alloc (.cells #[.pointer (some ⟨P, 0, none⟩)] 23)).heap[w1.heap.size]? = some (.cells #[.pointer (some ⟨P, 0, none⟩)] 23 (0, 0)) := World.alloc_heap_new w1 _
  have hb2 : Below w1.heap.size w1 (w1.alloc (.cells #[.pointer (some ⟨P, 0, none⟩)] 23)) := (Below.refl _ _).alloc (Nat.le_refl _) _
  have hsz2 : (w1.alloc (.cells #[.pointer (some ⟨P, 0, none⟩)] 23)).heap.size = w1.heap.size + 1 := Array.size_push _
  have l2 := Q1.out.below hb2
  have d2 := Q2.out.below hb2
  have b12 := Q3.out.trans (hb2.mono Q3.out.size)
  have hsz1 := Q3.out.size
  have hPx := lt_of_heap Q1.out.hP
  have hIx := lt_of_heap Q1.out.hI
  generalize w1.alloc (.cells #[.pointer (some ⟨P, 0, none⟩)] 23) = w2 at hbx hb2 hsz2 l2 d2 b12 ⊢
  generalize w1.heap.size = Bx at *
  have HBX := Lib.hid hbx
  have HL2 := Lib.hid l2
  have HD2 := Lib.hid d2
  have HB12 := Lib.hid b12
  have HT := Lib.hid ht
  have HAV := Lib.hid hav
  have HNOW := Lib.hid hnow
  have HNB := Lib.hid hnb
  have HBP := Lib.hid (show Bx ≠ P ∧ Bx ≠ I by omega)
  clear hbx hb2 l2 d2 b12 ht hav hnow hnb Q1 Q2 Q3
  go_loopw [27] (fun i wr => LOpA base w2 P D I x y d i wr) (fun i _ => 2000 - (intOf i).toNat)
  case atStart => exact ⟨0, Nat.zero_le _, rfl, HL2.out, HD2.out, LChg.refl _ _ _⟩
  case round =>
    obtain ⟨k, hk, rfl, hl, hd, hch⟩ := hrel
    have hbxr : wr.cell? ⟨Bx, 0, none⟩ = some (.pointer (some ⟨P, 0, none⟩)) := cell_of (hch.keep Bx _ HBX.out rfl (fun q => by have := HBP.out; omega)) rfl
    have HLK := Lib.hid hl
    have HD := Lib.hid hd
    have HCH := Lib.hid hch
    clear hl hd hch
    by_cases hky : k < y
    · have t1 : decide ((k : Int) < (y : Int)) = true := decide_eq_true (by omega)
      obtain ⟨im, him⟩ : ∃ im, im = reg d.now x k ++ zer ((y - k) * 128) := ⟨_, rfl⟩
      have HL := Lib.hid (show LgAt base wr P D I (.slice none 0 0) { Lg.new x y with img := im } by rw [him]; exact HLK.out)
      have HIM := Lib.hid him
      clear him
      have e1 : IntKind.i64.wrap ((x : Int) + k) = (x : Int) + k := IntWalk.i64_in _ (by omega)
      have HRD := Lib.hid (read_yes base wr D ((x : Int) + k) d HD.out (by omega) (by omega) (HNOW.out _))
      have HSEC := Lib.hid (show ∀ W, Below wr.heap.size wr W → Calls Tryd.prog 31 #[.pointer (some ⟨P, 0, none⟩), .int .i64 k] W fun e w' => e = .returned (.slice (some ⟨I, k * 128, none⟩) 128 (y * 128 - k * 128)) ∧ W = w' from fun W hb => by
        have q := sector_any base W P D I _ _ k (HL.out.below hb) hky
        exact q)
      have hfl := full_len _ (HNOW.out ((x : Int) + k))
      go_wp2_with (first | (go_at_call 30; refine HRD.out.mono ?_; rintro e w3 ⟨v, rfl, ho, hb3⟩; rcases ho.2 with ⟨_, q⟩ | ⟨g, cap, cur, rfl, q2, q3, q4, q5⟩; (first | omega | cases q); have hgc := World.ownsRow.cells ho (g := g) rfl; have HGC := Lib.hid hgc; have HB3 := Lib.hid hb3; have HL3 := Lib.hid (HL.out.below hb3); have hbx3 := cell_up hbxr hb3; clear hgc hb3 ho q2 q3 q4 q5 HRD) | (go_at_call 31; refine (HSEC.out _ HB3.out).mono ?_; rintro e w4 ⟨rfl, rfl⟩) | (with_reducible refine copy_only rfl (.tmp 40) (.tmp 41) 22 22 rfl 5 Tryd.underlying22 (by kernel_rfl) I (k * 128) 128 (y * 128 - k * 128) ⟨g, 0, none⟩ 128 cap rfl rfl (im.map (Value.int .u8)) 5 ?g0 ((full (d.now ((x : Int) + k))).map (Value.int .u8)) ?g1 ?g2 ?g3 ?g4 ?_))
      case g0 => exact HL3.out.hI
      case g1 => rw [List.length_map, hfl]; rfl
      case g2 => exact HGC.out
      case g3 => rw [List.length_map, List.length_map, hfl, HIM.out, List.length_append, reg_len _ _ HNOW.out, zer_len]; omega
      case g4 => intro v hv; obtain ⟨x, _, rfl⟩ := List.mem_map.1 hv; rfl
      intro w4 hI4 hO4
      rw [map_splice, HIM.out, reg_splice _ _ _ _ HNOW.out hky] at hI4
      go_wp2_with fail
      go_roundw
      case rel =>
        refine ⟨k + 1, hky, by go_num, ?_, (HD.out.below HB3.out).turn HL3.out.hI HL3.out.bad hO4.out, ?_⟩
        · exact HL3.out.turn hO4.out hI4.out (app_by (reg_by HNOW.out HNB.out _ _) (zer_by _)) (by rw [List.length_append, reg_len _ _ HNOW.out, zer_len]; show _ = y * 128; omega)
        · have hw := HCH.out.size
          exact (HCH.out.trans (LChg.of (S := fun i => i = P ∨ i = I) (Chg.of_below HB3.out (by omega))) (fun _ _ h => h)).trans (LChg.only (S := fun i => i = P ∨ i = I) hO4.out HL3.out.bI (.inr rfl)) (fun _ _ h => h)
      case measure => simp [intOf]; omega
    · have hky' : k = y := by omega
      subst hky'
      have t1 : decide ((k : Int) < (k : Int)) = false := decide_eq_false (by omega)
      have hRe : (reg d.now x k ++ zer ((k - k) * 128)) = reg d.now x k := by rw [Nat.sub_self, Nat.zero_mul]; exact List.append_nil _
      have hl0 := HLK.out
      rw [hRe] at hl0
      have hRl := reg_len d.now x HNOW.out k
      have hRb := reg_by HNOW.out HNB.out (x : Int) k
      generalize hRd : reg d.now x k = R at *
      have HL0 := Lib.hid hl0
      have HRD := Lib.hid hRd
      have HTW := Lib.hid (show ∀ W, (∀ i, i < base → W.heap[i]? = w2.heap[i]?) → Tab W from fun W hW j hj => by
        have q := HT.out j hj
        have hb := HB12.out.block 0 (by omega)
        simp only [World.cell?, hW 0 hb0, hb] at q ⊢
        exact q)
      have HN1 := Lib.hid (next_any base wr P D I Bx _ _ hl0 hbxr (HTW.out _ HCH.out.old) (Nat.zero_le _) rfl)
      clear hl0 hRd
      go_wp2_with (go_at_call 32; refine HN1.out.mono ?_; rintro e w5 ⟨⟨nd, rfl⟩, hnx⟩; obtain ⟨v0, u0, rfl, hvu⟩ := hnx.vals; have HVU := Lib.hid hvu; clear hnx hvu)
      have hcd : LChg base (fun i => i = P ∨ i = I) wr (wr.drewN nd) := LChg.only (g := P) (⟨rfl, rfl, rfl, rfl, fun _ _ => rfl⟩ : Only P wr (wr.drewN nd)) HL0.out.bP (.inl rfl)
      have hb5 := below_drewN (Below.refl wr.heap.size wr) nd
      go_loopw [14, 15] (fun v u wm => LOpB base w2 P D I x k R d v u wm) (fun _ _ wm => k * 128 + 1 - finW wm P)
      case atStart => exact ⟨[], 0, _, HL0.out.below hb5, HD.out.below hb5, HCH.out.trans hcd (fun _ _ h => h), (fun _ _ q => by cases q), rfl, Nat.zero_le _, rfl, rfl, Nat.le_refl _, HVU.out⟩
      case round =>
        obtain ⟨rs, f, rv, hl, hd, hch, hrv, hf, hfle, hf8, hrd, hrs, hvu⟩ := hrel
        have hbxm := cell_of (i := 0) (hch.keep Bx _ HBX.out rfl (fun q => by have := HBP.out; omega)) rfl
        have HL := Lib.hid hl
        have HD := Lib.hid hd
        have HCH := Lib.hid hch
        have HRV := Lib.hid hrv
        have HF := Lib.hid hf
        have HRD2 := Lib.hid hrd
        clear hd hch hrv hf hrd
        rcases hvu with ⟨r, cc, hfr, rfl, rfl⟩ | ⟨hfr, rfl⟩
        · have HFR := Lib.hid hfr
          clear hfr
          go_wp2_with fail
          have hR := frameAt_len crcF HFR.out
          have hRd : (R.drop f).length = k * 128 - f := by rw [List.length_drop, hRl]
          rw [hRd] at hR
          obtain ⟨r1, r2, r3⟩ := hR
          have hpd := pad_le r.length
          have hsub := frameAt_sub HFR.out
          have hrb : IsBy r := by rw [hsub]; exact fun c hc => hRb c (List.mem_of_mem_drop (List.mem_of_mem_drop (List.mem_of_mem_take hc)))
          have hrc : ∀ j, j < r.length → wr.cell? ⟨I, f + 8 + j, none⟩ = some (.int .u8 (r.getD j 0)) := fun j hj => by
            rw [hsub, List.getD_eq_getElem?_getD, List.getElem?_take, if_pos hj, List.getElem?_drop, List.getElem?_drop, ← List.getD_eq_getElem?_getD, ← Nat.add_assoc]
            exact HL.out.byte (by show f + 8 + j < k * 128; omega)
          have hwm := HCH.out.size
          have hw2 := HB12.out.size
          have HCL := Lib.hid (show Calls Tryd.prog 37 #[.slice (some ⟨I, f + 8, none⟩) r.length cc] wr.drew fun e w' => ∃ v, e = .returned v ∧ Byts w' v r ∧ Below wr.drew.heap.size wr.drew w' from
            clone_bytes (some ⟨I, f + 8, none⟩) r.length cc r wr.drew rfl (by omega) (fun g hg => HAV.out g (by have : wr.heap.size ≤ g := hg; omega)) hrb (fun i hi => ⟨_, rfl, by rw [add_in (.inr rfl)]; exact hrc i hi⟩))
          have hlm := hl.below (Below.refl _ wr).drew
          obtain ⟨vs, v1, v2, v3⟩ := hlm.hR
          obtain ⟨ra, rc, rfl⟩ := own_slice v3
          have hbm := HCH.out.keep Bx _ HBX.out rfl (fun q => by have := HBP.out; omega)
          have HNB := Lib.hid (show some Bx ≠ (Value.slice ra rs.length rc).ownBlock from fun q => by
            obtain ⟨cur, hc⟩ := (own_kind v3 q.symm).2
            have hc' : wr.heap[Bx]? = _ := hc
            rw [hbm] at hc'
            exact absurd (Obj.cells.inj (Option.some.inj hc')).2.1 (by decide))
          have bx14 := hbxm
          have c14 := hl.cells.2.2.2.1
          have HL := Lib.hid hlm
          have HVL := Lib.hid v1
          have HVB := Lib.hid (And.intro v2 v3)
          have HBS := Lib.hid (show base ≤ wr.drew.heap.size from by show base ≤ wr.heap.size; omega)
          have HRN := Lib.hid (show rs.length ≤ 1000000 by omega)
          have HRB := Lib.hid hrb
          have hl5 : wr.cell? ⟨P, 5, none⟩ = some (.int .i64 (f : Int)) := hl.cells.2.2.2.2.2.1
          clear hsub hrc hlm v1 v2 v3 hl hrb
          refine Go.Proofs.YtcjhligknhpadaaDoorW.PrintLast.start_ (n := 12) (S := fun v => v.cell? ⟨Bx, 0, none⟩ = some (.pointer (some ⟨P, 0, none⟩)) ∧ v.cell? ⟨P, 3, none⟩ = some (.slice ra rs.length rc)) (ds := [11]) #[false, false, false, false, false, false, false, false, false, false, false, false] (by kernel_rfl) rfl rfl ⟨bx14, c14⟩ (fun hHeld => ?_)
          refine Go.Proofs.YtcjhligknhpadaaDoorW.PrintLast.take_ (i := 0) (N := some 56) (v := ?_) (a' := ?_) #[true, false, false, false, false, false, false, false, false, false, false, false] rfl rfl (by kernel_rfl) (fun _ _ _ h => h) (Or.inl ⟨by rfl, ?_⟩) hHeld ?_ ?_
          rotate_left
          · rintro w' ⟨s0, s1⟩
            go_simp
            with_reducible rfl
          rotate_left
          · simp only [Act.put, List.setIfInBounds_toArray, List.set_cons_zero, List.set_cons_succ, Go.Proofs.YtcjhligknhpadaaDoorW.PrintLast.i64_w, Go.Proofs.YtcjhligknhpadaaDoorW.PrintLast.i32_w]
            rfl
          refine Go.Proofs.YtcjhligknhpadaaDoorW.PrintLast.take_ (i := 1) (N := some 57) (v := ?_) (a' := ?_) #[true, true, false, false, false, false, false, false, false, false, false, false] rfl rfl (by kernel_rfl) (fun _ _ _ h => h) (Or.inl ⟨by rfl, ?_⟩) hHeld ?_ ?_
          rotate_left
          · rintro w' ⟨s0, s1⟩
            go_simp
            with_reducible rfl
          rotate_left
          · simp only [Act.put, List.setIfInBounds_toArray, List.set_cons_zero, List.set_cons_succ, Go.Proofs.YtcjhligknhpadaaDoorW.PrintLast.i64_w, Go.Proofs.YtcjhligknhpadaaDoorW.PrintLast.i32_w]
            rfl
          refine Go.Proofs.YtcjhligknhpadaaDoorW.PrintLast.pure_ (i := 2) (N := some 58) (v := ?_) (a' := ?_) #[true, true, true, false, false, false, false, false, false, false, false, false] rfl rfl (by kernel_rfl) (fun _ _ _ h => h) (Or.inl ⟨by rfl, ?_⟩) ?_ ?_
          rotate_left
          · intro w'
            go_simp
            with_reducible rfl
          rotate_left
          · simp only [Act.put, List.setIfInBounds_toArray, List.set_cons_zero, List.set_cons_succ, Go.Proofs.YtcjhligknhpadaaDoorW.PrintLast.i64_w, Go.Proofs.YtcjhligknhpadaaDoorW.PrintLast.i32_w]
            rfl
          refine Go.Proofs.YtcjhligknhpadaaDoorW.PrintLast.pure_ (i := 3) (N := some 59) (v := ?_) (a' := ?_) #[true, true, true, true, false, false, false, false, false, false, false, false] rfl rfl (by kernel_rfl) (fun _ _ _ h => h) (Or.inl ⟨by rfl, ?_⟩) ?_ ?_
          rotate_left
          · intro w'
            go_simp
            with_reducible rfl
          rotate_left
          · simp only [Act.put, List.setIfInBounds_toArray, List.set_cons_zero, List.set_cons_succ, Go.Proofs.YtcjhligknhpadaaDoorW.PrintLast.i64_w, Go.Proofs.YtcjhligknhpadaaDoorW.PrintLast.i32_w]
            rfl
          refine Go.Proofs.YtcjhligknhpadaaDoorW.PrintLast.take_ (i := 4) (N := some 60) (v := ?_) (a' := ?_) #[true, true, true, true, true, false, false, false, false, false, false, false] rfl rfl (by kernel_rfl) (fun _ _ _ h => h) (Or.inl ⟨by rfl, ?_⟩) hHeld ?_ ?_
          rotate_left
          · rintro w' ⟨s0, s1⟩
            go_simp
            with_reducible rfl
          rotate_left
          · simp only [Act.put, List.setIfInBounds_toArray, List.set_cons_zero, List.set_cons_succ, Go.Proofs.YtcjhligknhpadaaDoorW.PrintLast.i64_w, Go.Proofs.YtcjhligknhpadaaDoorW.PrintLast.i32_w]
            rfl
          refine Go.Proofs.YtcjhligknhpadaaDoorW.PrintLast.pure_ (i := 5) (N := some 61) (v := ?_) (a' := ?_) #[true, true, true, true, true, true, false, false, false, false, false, false] rfl rfl (by kernel_rfl) (fun _ _ _ h => h) (Or.inl ⟨by rfl, ?_⟩) ?_ ?_
          rotate_left
          · intro w'
            go_simp
            with_reducible rfl
          rotate_left
          · simp only [Act.put, List.setIfInBounds_toArray, List.set_cons_zero, List.set_cons_succ, Go.Proofs.YtcjhligknhpadaaDoorW.PrintLast.i64_w, Go.Proofs.YtcjhligknhpadaaDoorW.PrintLast.i32_w]
            rfl
          refine Go.Proofs.YtcjhligknhpadaaDoorW.PrintLast.one_ (i := 6) (N := some 62) #[true, true, true, true, true, true, true, false, false, false, false, false] rfl rfl (by kernel_rfl) (by decide) (fun K hK => ?_)
          refine Go.Proofs.YtcjhligknhpadaaDoorW.PrintLast.goes_ Tryd.func37 (by kernel_rfl) rfl #[.slice (some ⟨I, f + 8, none⟩) r.length cc] (by rfl) rfl rfl (by (try simp only [List.map_toArray, List.map_cons, List.map_nil]); first | done | rfl) ?_
          refine HCL.out.mono ?_
          rintro e w5 ⟨bv, rfl, hbv, hb5⟩
          obtain ⟨ba, bc, rfl⟩ := byts_slice hbv
          have HBV := Lib.hid hbv
          have HB5 := Lib.hid hb5
          clear hbv hb5
          refine ⟨_, rfl, ?_⟩
          refine hK.out _ _ ⟨cell_up hHeld.1 HB5.out, cell_up hHeld.2 HB5.out⟩ (fun hHeld => ?_)
          clear hK K
          refine Go.Proofs.YtcjhligknhpadaaDoorW.PrintLast.norm_ (a' := ?_) ?_ ?_
          rotate_left
          · show Act.put _ (some 62) _ = _
            simp only [Act.put, List.setIfInBounds_toArray, List.set_cons_zero, List.set_cons_succ, Go.Proofs.YtcjhligknhpadaaDoorW.PrintLast.i64_w, Go.Proofs.YtcjhligknhpadaaDoorW.PrintLast.i32_w]
            rfl
          refine Go.Proofs.YtcjhligknhpadaaDoorW.PrintLast.one_ (i := 7) (N := some 63) #[true, true, true, true, true, true, true, true, false, false, false, false] rfl rfl (by kernel_rfl) (by decide) (fun K hK => ?_)
          refine Go.Proofs.YtcjhligknhpadaaDoorW.PrintLast.value_ (w1 := w5.alloc (.cells #[.slice ba r.length bc] 22)) (v := .slice (some ⟨w5.heap.size, 0, none⟩) 1 1) (by rfl) rfl (by go_simp) ?_
          have hHeld7 := hHeld
          refine hK.out _ _ ⟨cell_al _ hHeld.1, cell_al _ hHeld.2⟩ (fun hHeld => ?_)
          clear hK K
          refine Go.Proofs.YtcjhligknhpadaaDoorW.PrintLast.norm_ (a' := ?_) ?_ ?_
          rotate_left
          · show Act.put _ (some 63) _ = _
            simp only [Act.put, List.setIfInBounds_toArray, List.set_cons_zero, List.set_cons_succ, Go.Proofs.YtcjhligknhpadaaDoorW.PrintLast.i64_w, Go.Proofs.YtcjhligknhpadaaDoorW.PrintLast.i32_w]
            rfl
          refine Go.Proofs.YtcjhligknhpadaaDoorW.PrintLast.one_ (i := 8) (N := some 64) #[true, true, true, true, true, true, true, true, true, false, false, false] rfl rfl (by kernel_rfl) (by decide) (fun K hK => ?_)
          refine step_append_cells (w0 := w5) (W := w5) base (by rfl) (.tmp 60) (.tmp 63) 30 22 (.slice none 0 0) 1 24 rfl Tryd.underlying30 info_sl (by rfl) (by decide) (by decide) (.slice ra rs.length rc) rs.length vs [.slice ba r.length bc] (by rfl) (by rfl) (by rfl) (by intro u hu; rw [List.mem_singleton.1 hu]; rfl) (own_move HVB.out.2 (fun g cur _ hg => (HB5.out.block g (lt_of_heap hg)).trans hg)) (Below.refl _ _) (Nat.le_trans HBS.out HB5.out.size) (by have := HRN.out; omega) (fun rv1 w6 hown6 hB6 hg6 hv6 => ?_)
          have HMORE := Lib.hid (LgAt.more HL.out HB5.out HVL.out HVB.out hg6 HBV.out hown6 hv6)
          have hbx6 := hg6.cell hHeld7.1 HNB.out
          obtain ⟨rva, rvc, rfl⟩ := own_slice hown6
          have hf6 : w6.frozen? ⟨P, 3, none⟩ = false := free_of (HMORE.out.2.2.2)
          have hc6 : w6.cell? ⟨P, 3, none⟩ = some (.slice ra rs.length rc) := cell_of (HMORE.out.2.2.2) rfl
          refine hK.out _ _ ⟨hbx6, hc6⟩ (fun hHeld => ?_)
          clear hK K
          refine Go.Proofs.YtcjhligknhpadaaDoorW.PrintLast.norm_ (a' := ?_) ?_ ?_
          rotate_left
          · show Act.put _ (some 64) _ = _
            simp only [Act.put, List.setIfInBounds_toArray, List.set_cons_zero, List.set_cons_succ, Go.Proofs.YtcjhligknhpadaaDoorW.PrintLast.i64_w, Go.Proofs.YtcjhligknhpadaaDoorW.PrintLast.i32_w]
            rfl
          refine Go.Proofs.YtcjhligknhpadaaDoorW.PrintLast.pure_ (i := 9) (N := some 65) (v := ?_) (a' := ?_) #[true, true, true, true, true, true, true, true, true, true, false, false] rfl rfl (by kernel_rfl) (fun _ _ _ h => h) (Or.inl ⟨by rfl, ?_⟩) ?_ ?_
          rotate_left
          · intro w'
            go_simp
            with_reducible rfl
          rotate_left
          · simp only [Act.put, List.setIfInBounds_toArray, List.set_cons_zero, List.set_cons_succ, Go.Proofs.YtcjhligknhpadaaDoorW.PrintLast.i64_w, Go.Proofs.YtcjhligknhpadaaDoorW.PrintLast.i32_w]
            rfl
          refine Go.Proofs.YtcjhligknhpadaaDoorW.PrintLast.pure_ (i := 10) (N := some 66) (v := ?_) (a' := ?_) #[true, true, true, true, true, true, true, true, true, true, true, false] rfl rfl (by kernel_rfl) (fun _ _ _ h => h) (Or.inl ⟨by rfl, ?_⟩) ?_ ?_
          rotate_left
          · intro w'
            go_simp
            with_reducible rfl
          rotate_left
          · simp only [Act.put, List.setIfInBounds_toArray, List.set_cons_zero, List.set_cons_succ, Go.Proofs.YtcjhligknhpadaaDoorW.PrintLast.i64_w, Go.Proofs.YtcjhligknhpadaaDoorW.PrintLast.i32_w]
            rfl
          refine Go.Proofs.YtcjhligknhpadaaDoorW.PrintLast.last_ (i := 11) (N := none) #[true, true, true, true, true, true, true, true, true, true, true, true] rfl rfl (by kernel_rfl) (by decide) (fun K hK => ?_)
          refine Go.Proofs.YtcjhligknhpadaaDoorW.PrintLast.skip_ (w1 := w6.setCell ⟨P, 3, none⟩ (.slice rva (rs.length + 1) rvc)) (by rfl) rfl (by go_simp) ?_
          refine hK.out _ _ ?_
          clear hK K
          refine Go.Proofs.YtcjhligknhpadaaDoorW.PrintLast.done_ (by kernel_rfl) ?_
          go_wp2_with fail
          obtain ⟨m1, m2, m3, _⟩ := HMORE.out
          have hd7 := HL.out.disk m2 (HD.out.below (Below.refl _ wr).drew)
          have hwd : LChg base (fun i => i = P ∨ i = I) w2 wr.drew := HCH.out.trans (LChg.only (g := P) (S := fun i => i = P ∨ i = I) (⟨rfl, rfl, rfl, rfl, fun _ _ => rfl⟩ : Only P wr wr.drew) HL.out.bP (.inl rfl)) (fun _ _ h => h)
          have hc7 : LChg base (fun i => i = P ∨ i = I) w2 (w6.setCell ⟨P, 3, none⟩ (.slice rva (rs.length + 1) rvc)) := hwd.trans (m2.chg HBS.out HL.out.own) (fun i hi q => by
            rcases q with q | q | q
            · exact .inl q
            · exact .inr q
            · exact absurd q (HRV.out i hi))
          have ho7 : ∀ i, i < w2.heap.size → (Value.slice rva (rs.length + 1) rvc).ownBlock ≠ some i := fun i hi q => by
            have hs : w2.heap.size ≤ wr.drew.heap.size := HCH.out.size
            rcases m3 i (by omega) (.inr (.inr q)) with q2 | q2 | q2
            · subst q2
              obtain ⟨_, _, _, o3⟩ := m1.hR
              obtain ⟨cur, hc⟩ := (own_kind o3 q).2
              rw [m1.hP] at hc
              exact absurd (Obj.cells.inj (Option.some.inj hc)).2.1 (by decide)
            · subst q2
              obtain ⟨_, _, _, o3⟩ := m1.hR
              obtain ⟨cur, hc⟩ := (own_kind o3 q).2
              rw [m1.hI] at hc
              exact absurd (Obj.cells.inj (Option.some.inj hc)).2.1 (by decide)
            · exact HRV.out i hi q2
          generalize w6.setCell ⟨P, 3, none⟩ (.slice rva (rs.length + 1) rvc) = w7 at m1 m2 hd7 hc7 ⊢
          have bx15 : w7.cell? ⟨Bx, 0, none⟩ = some (.pointer (some ⟨P, 0, none⟩)) := cell_of (hc7.keep Bx _ HBX.out rfl (fun q => by have := HBP.out; omega)) rfl
          have c15 := m1.cells.2.2.2.2.2.1
          have f15 : w7.frozen? ⟨P, 5, none⟩ = false := free_of m1.hP
          have e7 : IntKind.i64.wrap (8 + (pad r.length : Int)) = 8 + (pad r.length : Int) := IntWalk.i64_in _ (by omega)
          have e8 : IntKind.i64.wrap ((f : Int) + (8 + (pad r.length : Int))) = (f : Int) + (8 + (pad r.length : Int)) := IntWalk.i64_in _ (by omega)
          have M1 := Lib.hid m1
          have HD7 := Lib.hid hd7
          have HC7 := Lib.hid hc7
          have HO7 := Lib.hid ho7
          clear m1 m2 m3 hd7 hc7 ho7 hwd hbm
          refine Go.Proofs.YtcjhligknhpadaaDoorW.PrintLast.start_ (n := 12) (S := fun v => v.cell? ⟨Bx, 0, none⟩ = some (.pointer (some ⟨P, 0, none⟩)) ∧ v.cell? ⟨P, 5, none⟩ = some (.int .i64 f)) (ds := [11]) #[false, false, false, false, false, false, false, false, false, false, false, false] (by kernel_rfl) rfl rfl ⟨bx15, c15⟩ (fun hHeld => ?_)
          refine Go.Proofs.YtcjhligknhpadaaDoorW.PrintLast.take_ (i := 0) (N := some 67) (v := ?_) (a' := ?_) #[true, false, false, false, false, false, false, false, false, false, false, false] rfl rfl (by kernel_rfl) (fun _ _ _ h => h) (Or.inl ⟨by rfl, ?_⟩) hHeld ?_ ?_
          rotate_left
          · rintro w' ⟨s0, s1⟩
            go_simp
            with_reducible rfl
          rotate_left
          · simp only [Act.put, List.setIfInBounds_toArray, List.set_cons_zero, List.set_cons_succ, Go.Proofs.YtcjhligknhpadaaDoorW.PrintLast.i64_w, Go.Proofs.YtcjhligknhpadaaDoorW.PrintLast.i32_w]
            rfl
          refine Go.Proofs.YtcjhligknhpadaaDoorW.PrintLast.pure_ (i := 1) (N := some 68) (v := ?_) (a' := ?_) #[true, true, false, false, false, false, false, false, false, false, false, false] rfl rfl (by kernel_rfl) (fun _ _ _ h => h) (Or.inl ⟨by rfl, ?_⟩) ?_ ?_
          rotate_left
          · intro w'
            go_simp
            with_reducible rfl
          rotate_left
          · simp only [Act.put, List.setIfInBounds_toArray, List.set_cons_zero, List.set_cons_succ, Go.Proofs.YtcjhligknhpadaaDoorW.PrintLast.i64_w, Go.Proofs.YtcjhligknhpadaaDoorW.PrintLast.i32_w]
            rfl
          refine Go.Proofs.YtcjhligknhpadaaDoorW.PrintLast.pure_ (i := 2) (N := some 69) (v := ?_) (a' := ?_) #[true, true, true, false, false, false, false, false, false, false, false, false] rfl rfl (by kernel_rfl) (fun _ _ _ h => h) (Or.inl ⟨by rfl, ?_⟩) ?_ ?_
          rotate_left
          · intro w'
            go_simp
            with_reducible rfl
          rotate_left
          · simp only [Act.put, List.setIfInBounds_toArray, List.set_cons_zero, List.set_cons_succ, Go.Proofs.YtcjhligknhpadaaDoorW.PrintLast.i64_w, Go.Proofs.YtcjhligknhpadaaDoorW.PrintLast.i32_w]
            rfl
          refine Go.Proofs.YtcjhligknhpadaaDoorW.PrintLast.take_ (i := 3) (N := some 70) (v := ?_) (a' := ?_) #[true, true, true, true, false, false, false, false, false, false, false, false] rfl rfl (by kernel_rfl) (fun _ _ _ h => h) (Or.inl ⟨by rfl, ?_⟩) hHeld ?_ ?_
          rotate_left
          · rintro w' ⟨s0, s1⟩
            go_simp
            with_reducible rfl
          rotate_left
          · simp only [Act.put, List.setIfInBounds_toArray, List.set_cons_zero, List.set_cons_succ, Go.Proofs.YtcjhligknhpadaaDoorW.PrintLast.i64_w, Go.Proofs.YtcjhligknhpadaaDoorW.PrintLast.i32_w]
            rfl
          refine Go.Proofs.YtcjhligknhpadaaDoorW.PrintLast.pure_ (i := 4) (N := some 71) (v := ?_) (a' := ?_) #[true, true, true, true, true, false, false, false, false, false, false, false] rfl rfl (by kernel_rfl) (fun _ _ _ h => h) (Or.inl ⟨by rfl, ?_⟩) ?_ ?_
          rotate_left
          · intro w'
            go_simp
            with_reducible rfl
          rotate_left
          · simp only [Act.put, List.setIfInBounds_toArray, List.set_cons_zero, List.set_cons_succ, Go.Proofs.YtcjhligknhpadaaDoorW.PrintLast.i64_w, Go.Proofs.YtcjhligknhpadaaDoorW.PrintLast.i32_w]
            rfl
          refine Go.Proofs.YtcjhligknhpadaaDoorW.PrintLast.take_ (i := 5) (N := some 72) (v := ?_) (a' := ?_) #[true, true, true, true, true, true, false, false, false, false, false, false] rfl rfl (by kernel_rfl) (fun _ _ _ h => h) (Or.inl ⟨by rfl, ?_⟩) hHeld ?_ ?_
          rotate_left
          · rintro w' ⟨s0, s1⟩
            go_simp
            with_reducible rfl
          rotate_left
          · simp only [Act.put, List.setIfInBounds_toArray, List.set_cons_zero, List.set_cons_succ, Go.Proofs.YtcjhligknhpadaaDoorW.PrintLast.i64_w, Go.Proofs.YtcjhligknhpadaaDoorW.PrintLast.i32_w]
            rfl
          refine Go.Proofs.YtcjhligknhpadaaDoorW.PrintLast.one_ (i := 6) (N := some 73) #[true, true, true, true, true, true, true, false, false, false, false, false] rfl rfl (by kernel_rfl) (by decide) (fun K hK => ?_)
          refine Go.Proofs.YtcjhligknhpadaaDoorW.PrintLast.goes_ Tryd.func34 (by kernel_rfl) rfl #[.int .i64 r.length] (by rfl) rfl rfl (by (try simp only [List.map_toArray, List.map_cons, List.map_nil]); first | done | rfl) ?_
          refine (padded_any r.length _ (by omega)).mono ?_
          rintro e w4 ⟨rfl, rfl⟩
          refine ⟨_, rfl, ?_⟩
          refine hK.out _ _ hHeld (fun hHeld => ?_)
          clear hK K
          refine Go.Proofs.YtcjhligknhpadaaDoorW.PrintLast.norm_ (a' := ?_) ?_ ?_
          rotate_left
          · show Act.put _ (some 73) _ = _
            simp only [Act.put, List.setIfInBounds_toArray, List.set_cons_zero, List.set_cons_succ, Go.Proofs.YtcjhligknhpadaaDoorW.PrintLast.i64_w, Go.Proofs.YtcjhligknhpadaaDoorW.PrintLast.i32_w]
            rfl
          refine Go.Proofs.YtcjhligknhpadaaDoorW.PrintLast.pure_ (i := 7) (N := some 74) (v := ?_) (a' := ?_) #[true, true, true, true, true, true, true, true, false, false, false, false] rfl rfl (by kernel_rfl) (fun _ _ _ h => h) (Or.inl ⟨by rfl, ?_⟩) ?_ ?_
          rotate_left
          · intro w'
            go_simp
            with_reducible rfl
          rotate_left
          · simp only [Act.put, List.setIfInBounds_toArray, List.set_cons_zero, List.set_cons_succ, Go.Proofs.YtcjhligknhpadaaDoorW.PrintLast.i64_w, Go.Proofs.YtcjhligknhpadaaDoorW.PrintLast.i32_w]
            rfl
          refine Go.Proofs.YtcjhligknhpadaaDoorW.PrintLast.pure_ (i := 8) (N := some 75) (v := ?_) (a' := ?_) #[true, true, true, true, true, true, true, true, true, false, false, false] rfl rfl (by kernel_rfl) (fun _ _ _ h => h) (Or.inl ⟨by rfl, ?_⟩) ?_ ?_
          rotate_left
          · intro w'
            go_simp
            with_reducible rfl
          rotate_left
          · simp only [Act.put, List.setIfInBounds_toArray, List.set_cons_zero, List.set_cons_succ, Go.Proofs.YtcjhligknhpadaaDoorW.PrintLast.i64_w, Go.Proofs.YtcjhligknhpadaaDoorW.PrintLast.i32_w]
            rfl
          refine Go.Proofs.YtcjhligknhpadaaDoorW.PrintLast.pure_ (i := 9) (N := some 76) (v := ?_) (a' := ?_) #[true, true, true, true, true, true, true, true, true, true, false, false] rfl rfl (by kernel_rfl) (fun _ _ _ h => h) (Or.inl ⟨by rfl, ?_⟩) ?_ ?_
          rotate_left
          · intro w'
            go_simp
            with_reducible rfl
          rotate_left
          · simp only [Act.put, List.setIfInBounds_toArray, List.set_cons_zero, List.set_cons_succ, Go.Proofs.YtcjhligknhpadaaDoorW.PrintLast.i64_w, Go.Proofs.YtcjhligknhpadaaDoorW.PrintLast.i32_w]
            rfl
          refine Go.Proofs.YtcjhligknhpadaaDoorW.PrintLast.pure_ (i := 10) (N := some 77) (v := ?_) (a' := ?_) #[true, true, true, true, true, true, true, true, true, true, true, false] rfl rfl (by kernel_rfl) (fun _ _ _ h => h) (Or.inl ⟨by rfl, ?_⟩) ?_ ?_
          rotate_left
          · intro w'
            go_simp
            with_reducible rfl
          rotate_left
          · simp only [Act.put, List.setIfInBounds_toArray, List.set_cons_zero, List.set_cons_succ, Go.Proofs.YtcjhligknhpadaaDoorW.PrintLast.i64_w, Go.Proofs.YtcjhligknhpadaaDoorW.PrintLast.i32_w]
            rfl
          refine Go.Proofs.YtcjhligknhpadaaDoorW.PrintLast.last_ (i := 11) (N := none) #[true, true, true, true, true, true, true, true, true, true, true, true] rfl rfl (by kernel_rfl) (by decide) (fun K hK => ?_)
          refine Go.Proofs.YtcjhligknhpadaaDoorW.PrintLast.skip_ (w1 := w7.drew.setCell ⟨P, 5, none⟩ (.int .i64 ((f : Int) + (8 + (pad r.length : Int))))) (by rfl) rfl (by go_simp) ?_
          refine hK.out _ _ ?_
          clear hK K
          refine Go.Proofs.YtcjhligknhpadaaDoorW.PrintLast.done_ (by kernel_rfl) ?_
          have hl8 := LgAt.end_ (w := w7.drew) (M1.out.below (Below.refl _ _).drew) (f + (8 + pad r.length))
          have hd8 := (HD7.out.below (Below.refl _ w7).drew).set_ (o := 5) (v := .int .i64 ((f : Int) + (8 + (pad r.length : Int)))) (M1.out.below (Below.refl _ _).drew).hP
          rw [show ((f + (8 + pad r.length) : Nat) : Int) = (f : Int) + (8 + (pad r.length : Int)) by omega] at hl8
          have hc8 : LChg base (fun i => i = P ∨ i = I) w2 (w7.drew.setCell ⟨P, 5, none⟩ (.int .i64 ((f : Int) + (8 + (pad r.length : Int))))) := HC7.out.trans (LChg.only (S := fun i => i = P ∨ i = I) (Only.trans (w1 := w7.drew) ⟨rfl, rfl, rfl, rfl, fun _ _ => rfl⟩ (Only.set _ P 5 (.int .i64 ((f : Int) + (8 + (pad r.length : Int)))))) M1.out.bP (.inl rfl)) (fun _ _ h => h)
          generalize w7.drew.setCell ⟨P, 5, none⟩ (.int .i64 ((f : Int) + (8 + (pad r.length : Int)))) = w8 at hl8 hd8 hc8 ⊢
          have bx8 : w8.cell? ⟨Bx, 0, none⟩ = some (.pointer (some ⟨P, 0, none⟩)) := cell_of (hc8.keep Bx _ HBX.out rfl (fun q => by have := HBP.out; omega)) rfl
          have HL8 := Lib.hid hl8
          have HD8 := Lib.hid hd8
          have HC8 := Lib.hid hc8
          have HN8 := Lib.hid (next_any base w8 P D I Bx _ _ hl8 bx8 (HTW.out _ hc8.old) (by show f + (8 + pad r.length) ≤ k * 128; omega) (by show (f + (8 + pad r.length)) % 8 = 0; omega))
          clear hl8 hd8 hc8
          go_wp2_with (go_at_call 32; refine HN8.out.mono ?_; rintro e w9 ⟨⟨nd8, rfl⟩, hnx⟩; obtain ⟨v9, u9, rfl, hvu⟩ := hnx.vals; have HVU8 := Lib.hid hvu; clear hnx hvu)
          have hcd8 : LChg base (fun i => i = P ∨ i = I) w8 (w8.drewN nd8) := LChg.only (g := P) (⟨rfl, rfl, rfl, rfl, fun _ _ => rfl⟩ : Only P w8 (w8.drewN nd8)) HL8.out.bP (.inl rfl)
          have hb8 := below_drewN (Below.refl w8.heap.size w8) nd8
          have hc5 : (w8.drewN nd8).cell? ⟨P, 5, none⟩ = some (.int .i64 ((f + (8 + pad r.length) : Nat) : Int)) := (HL8.out.below hb8).cells.2.2.2.2.2.1
          have hc5r := hl5
          go_roundw
          case rel =>
            refine ⟨rs ++ [r], f + (8 + pad r.length), _, HL8.out.below hb8, HD8.out.below hb8, HC8.out.trans hcd8 (fun _ _ h => h), HO7.out, ?_, by omega, by omega, ?_, by rw [List.length_append]; show (rs.length + 1) * 8 ≤ _; omega, HVU8.out⟩
            · rw [HF.out]
              simp [sizeF]
            · rw [HRD2.out, List.append_assoc]
              congr 1
              rw [show k * 128 + 1 - rs.length = (k * 128 - rs.length) + 1 by omega, readF, HFR.out]
              show r :: _ = r :: _
              rw [List.drop_drop, List.length_append, show k * 128 + 1 - (rs.length + [r].length) = k * 128 - rs.length by show k * 128 + 1 - (rs.length + 1) = _; omega]
              rfl
          case measure =>
            unfold finW
            rw [hc5, hc5r]
            simp
            omega
        · have hrse : readF crcF (k * 128 + 1) R = rs := by rw [HRD2.out, readF_none _ _ hfr, List.append_nil]
          obtain ⟨_, _, _, v3⟩ := hl.hR
          obtain ⟨ra, rc, rfl⟩ := own_slice v3
          have hwm := HCH.out.size
          have hw2 := HB12.out.size
          have bx16 := hbxm
          have c16 := hl.cells.2.2.2.1
          have f16 : wr.frozen? ⟨P, 4, none⟩ = false := free_of hl.hP
          have g16 : wr.cell? ⟨P, 4, none⟩ = some (.int .i64 ((0 : Nat) : Int)) := hl.cells.2.2.2.2.1
          have HFR := Lib.hid hfr
          have HRSE := Lib.hid hrse
          clear v3 hfr hrse
          go_wp2_with fail
          refine Go.Proofs.YtcjhligknhpadaaDoorW.PrintLast.start_ (n := 9) (S := fun v => v.cell? ⟨Bx, 0, none⟩ = some (.pointer (some ⟨P, 0, none⟩)) ∧ v.cell? ⟨P, 3, none⟩ = some (.slice ra rs.length rc)) (ds := [8]) #[false, false, false, false, false, false, false, false, false] (by kernel_rfl) rfl rfl ⟨bx16, c16⟩ (fun hHeld => ?_)
          refine Go.Proofs.YtcjhligknhpadaaDoorW.PrintLast.take_ (i := 0) (N := some 78) (v := ?_) (a' := ?_) #[true, false, false, false, false, false, false, false, false] rfl rfl (by kernel_rfl) (fun _ _ _ h => h) (Or.inl ⟨by rfl, ?_⟩) hHeld ?_ ?_
          rotate_left
          · rintro w' ⟨s0, s1⟩
            go_simp
            with_reducible rfl
          rotate_left
          · simp only [Act.put, List.setIfInBounds_toArray, List.set_cons_zero, List.set_cons_succ, Go.Proofs.YtcjhligknhpadaaDoorW.PrintLast.i64_w, Go.Proofs.YtcjhligknhpadaaDoorW.PrintLast.i32_w]
            rfl
          refine Go.Proofs.YtcjhligknhpadaaDoorW.PrintLast.take_ (i := 1) (N := some 79) (v := ?_) (a' := ?_) #[true, true, false, false, false, false, false, false, false] rfl rfl (by kernel_rfl) (fun _ _ _ h => h) (Or.inl ⟨by rfl, ?_⟩) hHeld ?_ ?_
          rotate_left
          · rintro w' ⟨s0, s1⟩
            go_simp
            with_reducible rfl
          rotate_left
          · simp only [Act.put, List.setIfInBounds_toArray, List.set_cons_zero, List.set_cons_succ, Go.Proofs.YtcjhligknhpadaaDoorW.PrintLast.i64_w, Go.Proofs.YtcjhligknhpadaaDoorW.PrintLast.i32_w]
            rfl
          refine Go.Proofs.YtcjhligknhpadaaDoorW.PrintLast.pure_ (i := 2) (N := some 80) (v := ?_) (a' := ?_) #[true, true, true, false, false, false, false, false, false] rfl rfl (by kernel_rfl) (fun _ _ _ h => h) (Or.inl ⟨by rfl, ?_⟩) ?_ ?_
          rotate_left
          · intro w'
            go_simp
            with_reducible rfl
          rotate_left
          · simp only [Act.put, List.setIfInBounds_toArray, List.set_cons_zero, List.set_cons_succ, Go.Proofs.YtcjhligknhpadaaDoorW.PrintLast.i64_w, Go.Proofs.YtcjhligknhpadaaDoorW.PrintLast.i32_w]
            rfl
          refine Go.Proofs.YtcjhligknhpadaaDoorW.PrintLast.pure_ (i := 3) (N := some 81) (v := ?_) (a' := ?_) #[true, true, true, true, false, false, false, false, false] rfl rfl (by kernel_rfl) (fun _ _ _ h => h) (Or.inl ⟨by rfl, ?_⟩) ?_ ?_
          rotate_left
          · intro w'
            go_simp
            with_reducible rfl
          rotate_left
          · simp only [Act.put, List.setIfInBounds_toArray, List.set_cons_zero, List.set_cons_succ, Go.Proofs.YtcjhligknhpadaaDoorW.PrintLast.i64_w, Go.Proofs.YtcjhligknhpadaaDoorW.PrintLast.i32_w]
            rfl
          refine Go.Proofs.YtcjhligknhpadaaDoorW.PrintLast.take_ (i := 4) (N := some 82) (v := ?_) (a' := ?_) #[true, true, true, true, true, false, false, false, false] rfl rfl (by kernel_rfl) (fun _ _ _ h => h) (Or.inl ⟨by rfl, ?_⟩) hHeld ?_ ?_
          rotate_left
          · rintro w' ⟨s0, s1⟩
            go_simp
            with_reducible rfl
          rotate_left
          · simp only [Act.put, List.setIfInBounds_toArray, List.set_cons_zero, List.set_cons_succ, Go.Proofs.YtcjhligknhpadaaDoorW.PrintLast.i64_w, Go.Proofs.YtcjhligknhpadaaDoorW.PrintLast.i32_w]
            rfl
          refine Go.Proofs.YtcjhligknhpadaaDoorW.PrintLast.take_ (i := 5) (N := some 83) (v := ?_) (a' := ?_) #[true, true, true, true, true, true, false, false, false] rfl rfl (by kernel_rfl) (fun _ _ _ h => h) (Or.inl ⟨by rfl, ?_⟩) hHeld ?_ ?_
          rotate_left
          · rintro w' ⟨s0, s1⟩
            go_simp
            with_reducible rfl
          rotate_left
          · simp only [Act.put, List.setIfInBounds_toArray, List.set_cons_zero, List.set_cons_succ, Go.Proofs.YtcjhligknhpadaaDoorW.PrintLast.i64_w, Go.Proofs.YtcjhligknhpadaaDoorW.PrintLast.i32_w]
            rfl
          refine Go.Proofs.YtcjhligknhpadaaDoorW.PrintLast.pure_ (i := 6) (N := some 84) (v := ?_) (a' := ?_) #[true, true, true, true, true, true, true, false, false] rfl rfl (by kernel_rfl) (fun _ _ _ h => h) (Or.inl ⟨by rfl, ?_⟩) ?_ ?_
          rotate_left
          · intro w'
            go_simp
            with_reducible rfl
          rotate_left
          · simp only [Act.put, List.setIfInBounds_toArray, List.set_cons_zero, List.set_cons_succ, Go.Proofs.YtcjhligknhpadaaDoorW.PrintLast.i64_w, Go.Proofs.YtcjhligknhpadaaDoorW.PrintLast.i32_w]
            rfl
          refine Go.Proofs.YtcjhligknhpadaaDoorW.PrintLast.pure_ (i := 7) (N := some 85) (v := ?_) (a' := ?_) #[true, true, true, true, true, true, true, true, false] rfl rfl (by kernel_rfl) (fun _ _ _ h => h) (Or.inl ⟨by rfl, ?_⟩) ?_ ?_
          rotate_left
          · intro w'
            go_simp
            with_reducible rfl
          rotate_left
          · simp only [Act.put, List.setIfInBounds_toArray, List.set_cons_zero, List.set_cons_succ, Go.Proofs.YtcjhligknhpadaaDoorW.PrintLast.i64_w, Go.Proofs.YtcjhligknhpadaaDoorW.PrintLast.i32_w]
            rfl
          refine Go.Proofs.YtcjhligknhpadaaDoorW.PrintLast.last_ (i := 8) (N := none) #[true, true, true, true, true, true, true, true, true] rfl rfl (by kernel_rfl) (by decide) (fun K hK => ?_)
          refine Go.Proofs.YtcjhligknhpadaaDoorW.PrintLast.skip_ (w1 := wr.drew.setCell ⟨P, 4, none⟩ (.int .i64 rs.length)) (by rfl) rfl (by go_simp) ?_
          refine hK.out _ _ ?_
          clear hK K
          refine Go.Proofs.YtcjhligknhpadaaDoorW.PrintLast.done_ (by kernel_rfl) ?_
          have l10 := (HL.out.below (Below.refl _ wr).drew).flushed_ rs.length
          have d10 := (HD.out.below (Below.refl _ wr).drew).set_ (o := 4) (v := .int .i64 rs.length) (HL.out.below (Below.refl _ wr).drew).hP
          have hc10 : LChg base (fun i => i = P ∨ i = I) w2 (wr.drew.setCell ⟨P, 4, none⟩ (.int .i64 rs.length)) := HCH.out.trans (LChg.only (S := fun i => i = P ∨ i = I) (Only.trans (w1 := wr.drew) ⟨rfl, rfl, rfl, rfl, fun _ _ => rfl⟩ (Only.set _ P 4 (.int .i64 rs.length))) HL.out.bP (.inl rfl)) (fun _ _ h => h)
          have hsz10 : (wr.drew.setCell ⟨P, 4, none⟩ (.int .i64 rs.length)).heap.size = wr.heap.size := set_size _ _ _
          generalize wr.drew.setCell ⟨P, 4, none⟩ (.int .i64 rs.length) = w10 at l10 d10 hc10 hsz10 ⊢
          have bx17 : w10.cell? ⟨Bx, 0, none⟩ = some (.pointer (some ⟨P, 0, none⟩)) := cell_of (hc10.keep Bx _ HBX.out rfl (fun q => by have := HBP.out; omega)) rfl
          have c17 := l10.cells.2.2.2.2.2.1
          have HBLK := Lib.hid (blank_log base w10.drew P D I _ _ d f (l10.below (Below.refl _ w10).drew) (d10.below (Below.refl _ w10).drew) (fun g hg => HAV.out g (by have hg' : w10.heap.size ≤ g := hg; omega)) (by show f ≤ k * 128; omega) (by show (x : Int) + (k : Int) ≤ d.N; omega) hN.2 (by show base ≤ w10.heap.size; omega) hn hs)
          have HL10 := Lib.hid l10
          have HC10 := Lib.hid hc10
          clear l10 d10 hc10
          go_wp2_with fail
          refine Go.Proofs.YtcjhligknhpadaaDoorW.PrintLast.start_ (n := 6) (S := fun v => v.cell? ⟨Bx, 0, none⟩ = some (.pointer (some ⟨P, 0, none⟩)) ∧ v.cell? ⟨P, 5, none⟩ = some (.int .i64 f)) (ds := [5]) #[false, false, false, false, false, false] (by kernel_rfl) rfl rfl ⟨bx17, c17⟩ (fun hHeld => ?_)
          refine Go.Proofs.YtcjhligknhpadaaDoorW.PrintLast.take_ (i := 0) (N := some 86) (v := ?_) (a' := ?_) #[true, false, false, false, false, false] rfl rfl (by kernel_rfl) (fun _ _ _ h => h) (Or.inl ⟨by rfl, ?_⟩) hHeld ?_ ?_
          rotate_left
          · rintro w' ⟨s0, s1⟩
            go_simp
            with_reducible rfl
          rotate_left
          · simp only [Act.put, List.setIfInBounds_toArray, List.set_cons_zero, List.set_cons_succ, Go.Proofs.YtcjhligknhpadaaDoorW.PrintLast.i64_w, Go.Proofs.YtcjhligknhpadaaDoorW.PrintLast.i32_w]
            rfl
          refine Go.Proofs.YtcjhligknhpadaaDoorW.PrintLast.take_ (i := 1) (N := some 87) (v := ?_) (a' := ?_) #[true, true, false, false, false, false] rfl rfl (by kernel_rfl) (fun _ _ _ h => h) (Or.inl ⟨by rfl, ?_⟩) hHeld ?_ ?_
          rotate_left
          · rintro w' ⟨s0, s1⟩
            go_simp
            with_reducible rfl
          rotate_left
          · simp only [Act.put, List.setIfInBounds_toArray, List.set_cons_zero, List.set_cons_succ, Go.Proofs.YtcjhligknhpadaaDoorW.PrintLast.i64_w, Go.Proofs.YtcjhligknhpadaaDoorW.PrintLast.i32_w]
            rfl
          refine Go.Proofs.YtcjhligknhpadaaDoorW.PrintLast.pure_ (i := 2) (N := some 88) (v := ?_) (a' := ?_) #[true, true, true, false, false, false] rfl rfl (by kernel_rfl) (fun _ _ _ h => h) (Or.inl ⟨by rfl, ?_⟩) ?_ ?_
          rotate_left
          · intro w'
            go_simp
            with_reducible rfl
          rotate_left
          · simp only [Act.put, List.setIfInBounds_toArray, List.set_cons_zero, List.set_cons_succ, Go.Proofs.YtcjhligknhpadaaDoorW.PrintLast.i64_w, Go.Proofs.YtcjhligknhpadaaDoorW.PrintLast.i32_w]
            rfl
          refine Go.Proofs.YtcjhligknhpadaaDoorW.PrintLast.pure_ (i := 3) (N := some 89) (v := ?_) (a' := ?_) #[true, true, true, true, false, false] rfl rfl (by kernel_rfl) (fun _ _ _ h => h) (Or.inl ⟨by rfl, ?_⟩) ?_ ?_
          rotate_left
          · intro w'
            go_simp
            with_reducible rfl
          rotate_left
          · simp only [Act.put, List.setIfInBounds_toArray, List.set_cons_zero, List.set_cons_succ, Go.Proofs.YtcjhligknhpadaaDoorW.PrintLast.i64_w, Go.Proofs.YtcjhligknhpadaaDoorW.PrintLast.i32_w]
            rfl
          refine Go.Proofs.YtcjhligknhpadaaDoorW.PrintLast.take_ (i := 4) (N := some 90) (v := ?_) (a' := ?_) #[true, true, true, true, true, false] rfl rfl (by kernel_rfl) (fun _ _ _ h => h) (Or.inl ⟨by rfl, ?_⟩) hHeld ?_ ?_
          rotate_left
          · rintro w' ⟨s0, s1⟩
            go_simp
            with_reducible rfl
          rotate_left
          · simp only [Act.put, List.setIfInBounds_toArray, List.set_cons_zero, List.set_cons_succ, Go.Proofs.YtcjhligknhpadaaDoorW.PrintLast.i64_w, Go.Proofs.YtcjhligknhpadaaDoorW.PrintLast.i32_w]
            rfl
          refine Go.Proofs.YtcjhligknhpadaaDoorW.PrintLast.last_ (i := 5) (N := some 91) #[true, true, true, true, true, true] rfl rfl (by kernel_rfl) (by decide) (fun K hK => ?_)
          refine Go.Proofs.YtcjhligknhpadaaDoorW.PrintLast.goes_ Tryd.func29 (by kernel_rfl) rfl #[.pointer (some ⟨P, 0, none⟩), .int .i64 f] (by rfl) rfl rfl (by (try simp only [List.map_toArray, List.map_cons, List.map_nil]); first | done | rfl) ?_
          refine HBLK.out.mono ?_
          rintro e w11 ⟨rfl, l11, d11, hc11⟩
          refine ⟨_, rfl, ?_⟩
          refine hK.out _ _ ?_
          clear hK K
          refine Go.Proofs.YtcjhligknhpadaaDoorW.PrintLast.norm_ (a' := ?_) ?_ ?_
          rotate_left
          · show Act.put _ (some 91) _ = _
            simp only [Act.put, List.setIfInBounds_toArray, List.set_cons_zero, List.set_cons_succ, Go.Proofs.YtcjhligknhpadaaDoorW.PrintLast.i64_w, Go.Proofs.YtcjhligknhpadaaDoorW.PrintLast.i32_w]
            rfl
          refine Go.Proofs.YtcjhligknhpadaaDoorW.PrintLast.done_ (by kernel_rfl) ?_
          have hc11' : LChg base (fun i => i = P ∨ i = I) w2 w11 := (HC10.out.trans (LChg.only (g := P) (S := fun i => i = P ∨ i = I) (⟨rfl, rfl, rfl, rfl, fun _ _ => rfl⟩ : Only P w10 w10.drew) HL10.out.bP (.inl rfl)) (fun _ _ h => h)).trans hc11 (fun i hi q => by
            rcases q with q | q | q
            · exact .inl q
            · exact .inr q
            · exact absurd q (HRV.out i hi))
          have bx18 : w11.cell? ⟨Bx, 0, none⟩ = some (.pointer (some ⟨P, 0, none⟩)) := cell_of (hc11'.keep Bx _ HBX.out rfl (fun q => by have := HBP.out; omega)) rfl
          have c18 := l11.cells.2.2.2.2.2.1
          have f18 : w11.frozen? ⟨P, 7, none⟩ = false := free_of l11.hP
          have g18 : w11.cell? ⟨P, 7, none⟩ = _ := l11.cells.2.2.2.2.2.2.2
          have L11 := Lib.hid l11
          have D11 := Lib.hid d11
          have C11 := Lib.hid hc11'
          clear l11 d11 hc11 hc11'
          go_wp2_with fail
          refine Go.Proofs.YtcjhligknhpadaaDoorW.PrintLast.start_ (n := 8) (S := fun v => v.cell? ⟨Bx, 0, none⟩ = some (.pointer (some ⟨P, 0, none⟩)) ∧ v.cell? ⟨P, 5, none⟩ = some (.int .i64 f)) (ds := [7]) #[false, false, false, false, false, false, false, false] (by kernel_rfl) rfl rfl ⟨bx18, c18⟩ (fun hHeld => ?_)
          refine Go.Proofs.YtcjhligknhpadaaDoorW.PrintLast.take_ (i := 0) (N := some 92) (v := ?_) (a' := ?_) #[true, false, false, false, false, false, false, false] rfl rfl (by kernel_rfl) (fun _ _ _ h => h) (Or.inl ⟨by rfl, ?_⟩) hHeld ?_ ?_
          rotate_left
          · rintro w' ⟨s0, s1⟩
            go_simp
            with_reducible rfl
          rotate_left
          · simp only [Act.put, List.setIfInBounds_toArray, List.set_cons_zero, List.set_cons_succ, Go.Proofs.YtcjhligknhpadaaDoorW.PrintLast.i64_w, Go.Proofs.YtcjhligknhpadaaDoorW.PrintLast.i32_w]
            rfl
          refine Go.Proofs.YtcjhligknhpadaaDoorW.PrintLast.take_ (i := 1) (N := some 93) (v := ?_) (a' := ?_) #[true, true, false, false, false, false, false, false] rfl rfl (by kernel_rfl) (fun _ _ _ h => h) (Or.inl ⟨by rfl, ?_⟩) hHeld ?_ ?_
          rotate_left
          · rintro w' ⟨s0, s1⟩
            go_simp
            with_reducible rfl
          rotate_left
          · simp only [Act.put, List.setIfInBounds_toArray, List.set_cons_zero, List.set_cons_succ, Go.Proofs.YtcjhligknhpadaaDoorW.PrintLast.i64_w, Go.Proofs.YtcjhligknhpadaaDoorW.PrintLast.i32_w]
            rfl
          refine Go.Proofs.YtcjhligknhpadaaDoorW.PrintLast.pure_ (i := 2) (N := some 94) (v := ?_) (a' := ?_) #[true, true, true, false, false, false, false, false] rfl rfl (by kernel_rfl) (fun _ _ _ h => h) (Or.inl ⟨by rfl, ?_⟩) ?_ ?_
          rotate_left
          · intro w'
            go_simp
            with_reducible rfl
          rotate_left
          · simp only [Act.put, List.setIfInBounds_toArray, List.set_cons_zero, List.set_cons_succ, Go.Proofs.YtcjhligknhpadaaDoorW.PrintLast.i64_w, Go.Proofs.YtcjhligknhpadaaDoorW.PrintLast.i32_w]
            rfl
          refine Go.Proofs.YtcjhligknhpadaaDoorW.PrintLast.pure_ (i := 3) (N := some 95) (v := ?_) (a' := ?_) #[true, true, true, true, false, false, false, false] rfl rfl (by kernel_rfl) (fun _ _ _ h => h) (Or.inl ⟨by rfl, ?_⟩) ?_ ?_
          rotate_left
          · intro w'
            go_simp
            with_reducible rfl
          rotate_left
          · simp only [Act.put, List.setIfInBounds_toArray, List.set_cons_zero, List.set_cons_succ, Go.Proofs.YtcjhligknhpadaaDoorW.PrintLast.i64_w, Go.Proofs.YtcjhligknhpadaaDoorW.PrintLast.i32_w]
            rfl
          refine Go.Proofs.YtcjhligknhpadaaDoorW.PrintLast.take_ (i := 4) (N := some 96) (v := ?_) (a' := ?_) #[true, true, true, true, true, false, false, false] rfl rfl (by kernel_rfl) (fun _ _ _ h => h) (Or.inl ⟨by rfl, ?_⟩) hHeld ?_ ?_
          rotate_left
          · rintro w' ⟨s0, s1⟩
            go_simp
            with_reducible rfl
          rotate_left
          · simp only [Act.put, List.setIfInBounds_toArray, List.set_cons_zero, List.set_cons_succ, Go.Proofs.YtcjhligknhpadaaDoorW.PrintLast.i64_w, Go.Proofs.YtcjhligknhpadaaDoorW.PrintLast.i32_w]
            rfl
          refine Go.Proofs.YtcjhligknhpadaaDoorW.PrintLast.pure_ (i := 5) (N := some 97) (v := ?_) (a' := ?_) #[true, true, true, true, true, true, false, false] rfl rfl (by kernel_rfl) (fun _ _ _ h => h) (Or.inl ⟨by rfl, ?_⟩) ?_ ?_
          rotate_left
          · intro w'
            go_simp
            with_reducible rfl
          rotate_left
          · simp only [Act.put, List.setIfInBounds_toArray, List.set_cons_zero, List.set_cons_succ, Go.Proofs.YtcjhligknhpadaaDoorW.PrintLast.i64_w, Go.Proofs.YtcjhligknhpadaaDoorW.PrintLast.i32_w]
            rfl
          refine Go.Proofs.YtcjhligknhpadaaDoorW.PrintLast.pure_ (i := 6) (N := some 98) (v := ?_) (a' := ?_) #[true, true, true, true, true, true, true, false] rfl rfl (by kernel_rfl) (fun _ _ _ h => h) (Or.inl ⟨by rfl, ?_⟩) ?_ ?_
          rotate_left
          · intro w'
            go_simp
            with_reducible rfl
          rotate_left
          · simp only [Act.put, List.setIfInBounds_toArray, List.set_cons_zero, List.set_cons_succ, Go.Proofs.YtcjhligknhpadaaDoorW.PrintLast.i64_w, Go.Proofs.YtcjhligknhpadaaDoorW.PrintLast.i32_w]
            rfl
          refine Go.Proofs.YtcjhligknhpadaaDoorW.PrintLast.last_ (i := 7) (N := none) #[true, true, true, true, true, true, true, true] rfl rfl (by kernel_rfl) (by decide) (fun K hK => ?_)
          refine Go.Proofs.YtcjhligknhpadaaDoorW.PrintLast.skip_ (w1 := w11.drew.setCell ⟨P, 7, none⟩ (.int .i64 f)) (by rfl) rfl (by go_simp) ?_
          refine hK.out _ _ ?_
          clear hK K
          refine Go.Proofs.YtcjhligknhpadaaDoorW.PrintLast.done_ (by kernel_rfl) ?_
          have l12 := (L11.out.below (Below.refl _ w11).drew).dirty_ f
          have d12 := (D11.out.below (Below.refl _ w11).drew).set_ (o := 7) (v := .int .i64 f) (L11.out.below (Below.refl _ w11).drew).hP
          have hc12 : LChg base (fun i => i = P ∨ i = I) w2 (w11.drew.setCell ⟨P, 7, none⟩ (.int .i64 f)) := C11.out.trans (LChg.only (S := fun i => i = P ∨ i = I) (Only.trans (w1 := w11.drew) ⟨rfl, rfl, rfl, rfl, fun _ _ => rfl⟩ (Only.set _ P 7 (.int .i64 f))) L11.out.bP (.inl rfl)) (fun _ _ h => h)
          generalize w11.drew.setCell ⟨P, 7, none⟩ (.int .i64 f) = w12 at l12 d12 hc12 ⊢
          have bx19 : w12.cell? ⟨Bx, 0, none⟩ = some (.pointer (some ⟨P, 0, none⟩)) := cell_of (hc12.keep Bx _ HBX.out rfl (fun q => by have := HBP.out; omega)) rfl
          have L12 := Lib.hid l12
          have D12 := Lib.hid d12
          have C12 := Lib.hid hc12
          clear l12 d12 hc12
          go_wp2_with fail
          go_ret2
          have hfin : sizeF (readF crcF (k * 128 + 1) R) = f := by rw [HRSE.out, HF.out]
          rw [HRD.out]
          refine ⟨rfl, _, ?_, ?_, ?_, fun i hi => HRV.out i (by omega)⟩
          · unfold openL
            rw [HRSE.out, ← HF.out]
            exact L12.out
          · show IsDk base _ D (blankD x R (sizeF (readF crcF (k * 128 + 1) R)) d)
            rw [hfin]
            exact D12.out
          · have hb := HB12.out
            have hc := C12.out
            refine ⟨hc.os.trans hb.os, hc.tape.trans hb.tape, hc.output.trans hb.output, Nat.le_trans hb.size hc.size, fun i hi => (hc.old i hi).trans (hb.block i (by omega)), fun i o ho hk => hc.keep i o ((hb.block i (lt_of_heap ho)).trans ho) hk (fun q => ?_)⟩
            have := lt_of_heap ho
            omega
end Dk
end Go.Proofs.YtcjhligknhpadaaDoor

namespace Go.Proofs.YtcjhligknhpadaaDoor
open Go.RowKit Go.Proofs.YtcjhligknhpadaaDoor.Wp Go.Proofs.YtcjhligknhpadaaDoorW.PrintWords Go.Proofs.YtcjhligknhpadaaDoorW.PrintLast
set_option linter.unusedVariables false
set_option linter.unusedSimpArgs false
namespace Dk

/-- no block stands apart -/
@[instance_reducible]
def av0 : Av := ⟨fun _ => False⟩
theorem IsDk.weak {a b : Av} {base : Nat} {w : World} {D : Nat} {d : Dsk} (h : IsDk (av := a) base w D d) (hb : ∀ g, b.bad g → a.bad g) : IsDk (av := b) base w D d := by
  have byt : ∀ v l, Byts (av := a) w v l → Byts (av := b) w v l := fun v l h => ⟨⟨h.1.1, fun g hg q => h.1.2 g hg (hb g q)⟩, h.2⟩
  have mp : ∀ M m, MapB (av := a) w M m → MapB (av := b) w M m := fun M m ⟨es, c, h1, h2, h3⟩ => ⟨es, c, h1, h2, fun q => byt _ _ (h3 q)⟩
  obtain ⟨F, M, lv, sv, bD, bF, bM, ne, hD, hF, hM, ⟨vs, l1, l2, l3⟩, hS⟩ := h
  exact ⟨F, M, lv, sv, @DkAt.mk b _ _ _ _ _ _ _ _ bD bF bM ne hD (mp _ _ hF) (mp _ _ hM) ⟨vs, l1, fun p hp => byt _ _ (l2 p hp), l3⟩ hS⟩
theorem IsDk.now_by [av : Av] {base : Nat} {w : World} {D : Nat} {d : Dsk} (h : IsDk base w D d) (q : Int) : IsBy (d.now q) := by
  obtain ⟨F, M, lv, sv, hd⟩ := h
  obtain ⟨es, c, h1, h2, h3⟩ := hd.hM
  exact (h3 q).1.1
theorem open_any (base D x y : Nat) (d : Dsk) (w : World) (h : IsDk (av := av0) base w D d) (hb0 : 0 < base) (hbw : base ≤ w.heap.size) (ht : Tab w) (hN : 1 ≤ d.N ∧ d.N ≤ 4096) (h1 : 1 ≤ y) (h2 : y ≤ 1024) (h3 : (x : Int) ≤ d.N - y) (hn : d.log.length + y + 1 ≤ 1000000) (hs : d.syncs.length + 1 ≤ 1000000) (hnow : ∀ q, (d.now q).length ≤ 128) :
    Calls Tryd.prog 9 #[.pointer (some ⟨D, 0, none⟩), .int .i64 x, .int .i64 y] w fun e w' => e = .returned (.tuple #[.pointer (some ⟨w.heap.size + 1, 0, none⟩), .int .i64 0]) ∧ ∃ rv, LgAt (av := av0.with w.heap.size) base w' (w.heap.size + 1) D w.heap.size rv (openL x y (reg d.now x y)) ∧ IsDk (av := av0.with w.heap.size) base w' D (blankD x (reg d.now x y) (openL x y (reg d.now x y)).fin d) ∧ Chg base DK w w' ∧ (∀ i, i < w.heap.size → rv.ownBlock ≠ some i) :=
  open_core (av := av0.with w.heap.size) base D x y (w.heap.size + 1) w.heap.size d w ((begin_any (av := av0) base D d x y w h hbw hN h1 h2 h3).mono fun e w' q => ⟨q.1, q.2.1, q.2.2.1, q.2.2.2.1⟩) hb0 hbw (fun g hg q => by rcases q with q | q; exact q; omega) ⟨by omega, by omega⟩ ht hN h1 h2 h3 hn hs hnow (fun q => IsDk.now_by (av := av0) h q)
/-- what opens none -/
theorem open_no (v : Value) (x y : Int) (w : World) (k : Int) (hk : k ≠ 0) (h : Calls Tryd.prog 28 #[v, .int .i64 x, .int .i64 y] w fun e w' => e = .returned (.tuple #[.pointer none, .int .i64 k]) ∧ w = w') : Calls Tryd.prog 9 #[v, .int .i64 x, .int .i64 y] w fun e w' => e = .returned (.tuple #[.pointer none, .int .i64 k]) ∧ Below w.heap.size w w' := by
  have HB := Lib.hid h
  have t1 : decide (k = 0) = false := decide_eq_false hk
  clear h
  go_enter Tryd.func9, Tryd.ntmps9
  go_wp2_with (go_at_call 28; refine HB.out.mono ?_; rintro e w' ⟨rfl, rfl⟩)
  go_ret2
  exact ⟨rfl, (Below.refl _ _).alloc (Nat.le_refl _) _⟩
end Dk
end Go.Proofs.YtcjhligknhpadaaDoor

namespace Go.Proofs.YtcjhligknhpadaaDoor
open Go.RowKit Go.Proofs.YtcjhligknhpadaaDoor.Wp
set_option linter.unusedVariables false
set_option linter.unusedSimpArgs false
namespace Dk

theorem splice_app (F x Z : List Int) : splice (F ++ Z) F.length x = F ++ (x ++ Z.drop x.length) := by
  unfold splice
  rw [List.take_append_of_le_length (Nat.le_refl _), List.take_of_length_le (Nat.le_refl _), List.drop_append, List.drop_of_length_le (by omega), List.nil_append, Nat.add_sub_cancel_left]
theorem zer_drop (m n : Nat) : (zer m).drop n = zer (m - n) := by unfold zer; rw [List.drop_replicate]
theorem zer_add (m n : Nat) : zer (m + n) = zer m ++ zer n := by unfold zer; rw [List.replicate_append_replicate]
theorem putAt_app (F : List Int) (b : List Int) (m : Nat) (h : 8 + pad b.length ≤ m) : putAt (F ++ zer m) F.length b = (F ++ frame crcF b) ++ zer (m - (8 + pad b.length)) := by
  have hp := pad_le b.length
  unfold putAt
  rw [splice_app, putF_len, zer_drop, ← List.append_assoc F (putF 4 b.length)]
  rw [show F.length + 4 = (F ++ putF 4 b.length).length by rw [List.length_append, putF_len], splice_app, putF_len, zer_drop, ← List.append_assoc (F ++ putF 4 b.length)]
  rw [show F.length + 8 = (F ++ putF 4 b.length ++ putF 4 (crcF b)).length by simp only [List.length_append, putF_len], splice_app, zer_drop]
  unfold frame
  rw [show m - 4 - 4 - b.length = (pad b.length - b.length) + (m - (8 + pad b.length)) by omega, zer_add]
  simp only [List.append_assoc]
theorem framesF_snoc (rs : List (List Int)) (b : List Int) : framesF crcF (rs ++ [b]) = framesF crcF rs ++ frame crcF b := by simp [framesF]
theorem sizeF_snoc (rs : List (List Int)) (b : List Int) : sizeF (rs ++ [b]) = sizeF rs + 8 + pad b.length := by simp [sizeF]; omega
theorem put_get : ∀ {l : List Int}, IsBy l → putF l.length (getF l) = l
  | [], _ => rfl
  | b :: l, h => by
    have h0 := h b (List.mem_cons_self ..)
    have ih := put_get (l := l) fun c hc => h c (List.mem_cons_of_mem _ hc)
    show (b + 256 * getF l) % 256 :: putF l.length ((b + 256 * getF l) / 256) = b :: l
    rw [show (b + 256 * getF l) % 256 = b by omega, show (b + 256 * getF l) / 256 = getF l by omega, ih]
theorem frame_take {l r : List Int} (hb : IsBy l) (h : frameAt crcF l = some r) : l.take (8 + pad r.length) = frame crcF r := by
  have hl := frameAt_len crcF h
  have hp := pad_le r.length
  unfold frameAt at h
  split at h
  · cases h
  split at h
  · cases h
  split at h
  · rename_i h1 h2 h3
    have e := Option.some.inj h
    have hg : 0 ≤ getF (l.take 4) := by omega
    have hn : (getF (l.take 4)).toNat = r.length := by
      have hq := pad_le (getF (l.take 4)).toNat
      have q : r.length = min (getF (l.take 4)).toNat (l.length - 8) := by rw [← e, List.length_take, List.length_drop]
      omega
    rw [e, hn] at h3
    rw [hn] at e
    have h4 : IsBy (l.take 4) := fun c hc => hb c (List.mem_of_mem_take hc)
    have h5 : IsBy ((l.drop 4).take 4) := fun c hc => hb c (List.mem_of_mem_drop (List.mem_of_mem_take hc))
    have p1 := put_get h4
    have p2 := put_get h5
    rw [show (l.take 4).length = 4 by rw [List.length_take]; omega, show getF (l.take 4) = (r.length : Int) by omega] at p1
    rw [show ((l.drop 4).take 4).length = 4 by rw [List.length_take, List.length_drop]; omega, ← h3.1] at p2
    have hz := isZ_eq h3.2
    rw [show (List.take (pad r.length - r.length) (List.drop r.length (List.drop 8 l))).length = pad r.length - r.length by rw [List.length_take, List.length_drop, List.length_drop]; omega] at hz
    unfold frame
    rw [p1, p2, ← hz]
    rw [show List.take 4 l ++ (List.take 4 (List.drop 4 l) ++ (r ++ List.take (pad r.length - r.length) (List.drop r.length (List.drop 8 l)))) = List.take 4 l ++ (List.take 4 (List.drop 4 l) ++ (List.take r.length (List.drop 8 l) ++ List.take (pad r.length - r.length) (List.drop r.length (List.drop 8 l)))) by rw [e]]
    rw [show 8 + pad r.length = 4 + (4 + (r.length + (pad r.length - r.length))) by omega, List.take_add, List.take_add, List.take_add, List.drop_drop, List.drop_drop]
  · cases h
theorem read_take : ∀ (k : Nat) (l : List Int), IsBy l → l.take (sizeF (readF crcF k l)) = framesF crcF (readF crcF k l)
  | 0, l, _ => by simp [readF, sizeF, framesF]
  | k + 1, l, hb => by
    cases hf : frameAt crcF l with
    | none => simp [readF, hf, sizeF, framesF]
    | some r =>
      have e : readF crcF (k + 1) l = r :: readF crcF k (l.drop (8 + pad r.length)) := by rw [readF, hf]
      have ih := read_take k (l.drop (8 + pad r.length)) (fun c hc => hb c (List.mem_of_mem_drop hc))
      have e2 : ∀ rs, sizeF (r :: rs) = (8 + pad r.length) + sizeF rs := fun rs => by simp [sizeF]
      have e3 : ∀ rs, framesF crcF (r :: rs) = frame crcF r ++ framesF crcF rs := fun rs => by simp [framesF]
      rw [e, e2, e3, List.take_add, frame_take hb hf, ih]
theorem frameAt_zer (m : Nat) : frameAt crcF (zer m) = none := frameAt_zero crcF _ (by unfold zer; rw [List.take_replicate]; exact isZ_zer _)
theorem read_frames (rs : List (List Int)) (m k : Nat) (ho : RecOk rs) (hk : rs.length < k) : readF crcF k (framesF crcF rs ++ zer m) = rs := readF_frames rs (zer m) ho crcF_rng (frameAt_zer m) k hk
theorem sizeF_ge : ∀ rs : List (List Int), 8 * rs.length ≤ sizeF rs
  | [] => Nat.le_refl _
  | r :: rs => by
    have ih := sizeF_ge rs
    have e : sizeF (r :: rs) = (8 + pad r.length) + sizeF rs := by simp [sizeF]
    rw [e, List.length_cons]
    omega
theorem sizeF_take (rs : List (List Int)) (n : Nat) : sizeF (rs.take n) + sizeF (rs.drop n) = sizeF rs := by
  conv => rhs; rw [← List.take_append_drop n rs]
  unfold sizeF
  rw [List.map_append, List.sum_append]
theorem framesF_take (rs : List (List Int)) (n : Nat) : framesF crcF rs = framesF crcF (rs.take n) ++ framesF crcF (rs.drop n) := by
  conv => lhs; rw [← List.take_append_drop n rs]
  simp only [framesF, List.map_append, List.flatten_append]
/-- a log and its disk as they are to be -/
structure Good (l : Lg) (d : Dsk) : Prop where
  ok : RecOk l.recs
  fin : l.fin = sizeF l.recs
  le : l.fin ≤ l.S * 128
  img : l.img = framesF crcF l.recs ++ zer (l.S * 128 - l.fin)
  fl : l.flushed ≤ l.recs.length
  dirty : l.dirty = sizeF (l.recs.take l.flushed)
  reg : reg d.now l.first l.S = zfrom l.img l.dirty
  wf : Wf d
  sy : Synced d
theorem Good.len {l : Lg} {d : Dsk} (h : Good l d) : l.img.length = l.S * 128 := by
  have := h.le
  rw [h.img, List.length_append, framesF_len, zer_len, ← h.fin]
  omega
theorem Good.recs_le {l : Lg} {d : Dsk} (h : Good l d) : 8 * l.recs.length ≤ l.S * 128 := by
  have := sizeF_ge l.recs
  have := h.le
  have := h.fin
  omega
theorem Good.dirty_le {l : Lg} {d : Dsk} (h : Good l d) : l.dirty ≤ l.fin ∧ l.dirty % 8 = 0 ∧ (l.dirty < l.fin → l.dirty + 8 ≤ l.fin) := by
  have h1 := sizeF_take l.recs l.flushed
  have h2 := sizeF_mod (l.recs.take l.flushed)
  have h3 := sizeF_mod l.recs
  have h4 := h.fin
  have h5 := h.dirty
  omega
theorem zfrom_img {rs : List (List Int)} (m n : Nat) : zfrom (framesF crcF rs ++ zer m) (sizeF (rs.take n)) = framesF crcF (rs.take n) ++ zer (sizeF (rs.drop n) + m) := by
  unfold zfrom
  have h1 := sizeF_take rs n
  rw [framesF_take rs n, List.append_assoc, List.take_append_of_le_length (by rw [framesF_len]; exact Nat.le_refl _), List.take_of_length_le (by rw [framesF_len]; exact Nat.le_refl _)]
  simp only [List.length_append, framesF_len, zer_len]
  congr 2
  omega
theorem Good.read {l : Lg} {d : Dsk} (h : Good l d) : readF crcF (l.S * 128 + 1) (Dk.reg d.now l.first l.S) = l.recs.take l.flushed := by
  have h1 := h.recs_le
  rw [h.reg, h.img, h.dirty, zfrom_img]
  exact read_frames _ _ _ (fun r hr => h.ok r (List.mem_of_mem_take hr)) (by rw [List.length_take]; omega)
theorem Good.append {l : Lg} {d : Dsk} (h : Good l d) (b : List Int) (h0 : 1 ≤ b.length) (h1 : b.length ≤ 8192) (hf : l.fin + 8 + pad b.length ≤ l.S * 128) : Good { l with recs := l.recs ++ [b], fin := l.fin + 8 + pad b.length, img := putAt l.img l.fin b } d := by
  have hl := h.fl
  have hp : putAt l.img l.fin b = (framesF crcF l.recs ++ frame crcF b) ++ zer (l.S * 128 - (l.fin + 8 + pad b.length)) := by
    rw [h.img, show l.fin = (framesF crcF l.recs).length by rw [framesF_len]; exact h.fin, putAt_app _ _ _ (by rw [framesF_len, ← h.fin]; omega)]
    congr 2
    omega
  have ht : (l.recs ++ [b]).take l.flushed = l.recs.take l.flushed := by rw [List.take_append_of_le_length hl]
  refine ⟨fun r hr => ?_, ?_, hf, ?_, ?_, ?_, ?_, h.wf, h.sy⟩
  · rcases List.mem_append.1 hr with hr | hr
    · exact h.ok r hr
    · rw [List.mem_singleton.1 hr]; exact ⟨h0, h1⟩
  · show l.fin + 8 + pad b.length = _
    rw [sizeF_snoc, h.fin]
  · show putAt l.img l.fin b = _
    rw [hp, framesF_snoc]
  · show l.flushed ≤ (l.recs ++ [b]).length
    rw [List.length_append]
    omega
  · show l.dirty = sizeF ((l.recs ++ [b]).take l.flushed)
    rw [ht, h.dirty]
  · show Dk.reg d.now l.first l.S = zfrom (putAt l.img l.fin b) l.dirty
    rw [h.reg, hp, ← framesF_snoc, h.img, h.dirty, zfrom_img]
    have q := zfrom_img (rs := l.recs ++ [b]) (l.S * 128 - (l.fin + 8 + pad b.length)) l.flushed
    rw [ht] at q
    rw [q]
    congr 2
    have h2 := sizeF_take l.recs l.flushed
    have h3 := sizeF_take (l.recs ++ [b]) l.flushed
    rw [ht, sizeF_snoc] at h3
    have := h.fin
    omega
theorem sync_last (d : Dsk) : Synced (syncD d) := by
  unfold Synced syncD
  simp
theorem Good.flush {l : Lg} {d : Dsk} (h : Good l d) : Good { l with flushed := l.recs.length, dirty := l.fin } (flushD l.first l.img l.dirty l.fin d) := by
  have hd := h.dirty_le
  have hle := h.le
  have hlen := h.len
  have hz : zfrom l.img l.fin = l.img := by
    have q := zfrom_img (rs := l.recs) (l.S * 128 - l.fin) l.recs.length
    rw [List.take_of_length_le (Nat.le_refl _), List.drop_of_length_le (Nat.le_refl _), ← h.fin, ← h.img] at q
    rw [q, show sizeF [] = 0 from rfl, Nat.zero_add, ← h.img]
  refine ⟨h.ok, h.fin, h.le, h.img, Nat.le_refl _, ?_, ?_, ?_, ?_⟩
  · show l.fin = sizeF (l.recs.take l.recs.length)
    rw [List.take_of_length_le (Nat.le_refl _), h.fin]
  · show Dk.reg (flushD l.first l.img l.dirty l.fin d).now l.first l.S = zfrom l.img l.fin
    rw [hz]
    by_cases hlt : l.dirty < l.fin
    · exact reg_flush h.wf l.first l.img l.dirty l.fin l.S hlen hlt (by omega) hd.2.1 (hd.2.2 hlt) h.reg hz
    · unfold flushD
      rw [if_neg hlt, h.reg, show l.dirty = l.fin by omega, hz]
  · unfold flushD
    split
    · exact (h.wf.batch _ _ _ _).one _ _ _
    · exact h.wf
  · unfold flushD
    split
    · unfold oneD
      split
      · exact sync_last _
      · exact sync_last _
    · exact h.sy
theorem Good.new {d : Dsk} (h : Wf d) (x S : Nat) (hS : 1 ≤ S) : Good (Lg.new x S) (blankD x (zer (S * 128)) 0 d) := by
  refine ⟨fun r hr => by simp [Lg.new] at hr, rfl, Nat.zero_le _, ?_, Nat.le_refl _, rfl, ?_, h.blank _ _ _, sync_last _⟩
  · show zer (S * 128) = framesF crcF [] ++ zer (S * 128 - 0)
    simp [framesF]
  · exact reg_blank h x (zer (S * 128)) 0 S (zer_len _) (Nat.zero_le _) (.inr rfl)
theorem Good.opened {d : Dsk} (h : Wf d) (hb : ∀ q, IsBy (d.now q)) (x S : Nat) : Good (openL x S (Dk.reg d.now x S)) (blankD x (Dk.reg d.now x S) (openL x S (Dk.reg d.now x S)).fin d) := by
  have hR := reg_len d.now x h.now_len S
  have hRb := reg_by h.now_len hb x S
  have hrt := read_take (S * 128 + 1) _ hRb
  obtain ⟨h1, h2⟩ := readF_ok (crc := crcF) (S * 128 + 1) (Dk.reg d.now x S)
  generalize hrs : readF crcF (S * 128 + 1) (Dk.reg d.now x S) = rs at *
  have e : openL x S (Dk.reg d.now x S) = ⟨x, S, rs, rs.length, sizeF rs, zfrom (Dk.reg d.now x S) (sizeF rs), sizeF rs⟩ := by unfold openL; rw [hrs]
  rw [e]
  refine ⟨h1, rfl, by show sizeF rs ≤ S * 128; omega, ?_, Nat.le_refl _, ?_, ?_, h.blank _ _ _, sync_last _⟩
  · show zfrom (Dk.reg d.now x S) (sizeF rs) = framesF crcF rs ++ zer (S * 128 - sizeF rs)
    unfold zfrom
    rw [hrt, hR]
  · show sizeF rs = sizeF (rs.take rs.length)
    rw [List.take_of_length_le (Nat.le_refl _)]
  · show Dk.reg (blankD x (Dk.reg d.now x S) (sizeF rs) d).now x S = zfrom (zfrom (Dk.reg d.now x S) (sizeF rs)) (sizeF rs)
    rw [reg_blank h x _ (sizeF rs) S hR h2 (.inl rfl)]
    unfold zfrom
    rw [List.take_append_of_le_length (by rw [List.length_take]; omega), List.take_take, Nat.min_self, List.length_append, List.length_take, zer_len]
    congr 2
    omega
end Dk
end Go.Proofs.YtcjhligknhpadaaDoor

namespace Go.Proofs.YtcjhligknhpadaaDoor
open Go.RowKit Go.Proofs.YtcjhligknhpadaaDoor.Wp Go.Proofs.YtcjhligknhpadaaDoorW.PrintWords Go.Proofs.YtcjhligknhpadaaDoorW.PrintLast
set_option linter.unusedVariables false
set_option linter.unusedSimpArgs false
namespace Dk

theorem zfrom_zer (n : Nat) : zfrom (zer n) 0 = zer n := by simp [zfrom, zer]
/-- what begins none -/
theorem format_no (v : Value) (x y : Int) (w : World) (k : Int) (hk : k ≠ 0) (h : Calls Tryd.prog 28 #[v, .int .i64 x, .int .i64 y] w fun e w' => e = .returned (.tuple #[.pointer none, .int .i64 k]) ∧ w = w') : Calls Tryd.prog 8 #[v, .int .i64 x, .int .i64 y] w fun e w' => e = .returned (.tuple #[.pointer none, .int .i64 k]) ∧ w = w' := by
  have HB := Lib.hid h
  have t1 : decide (k = 0) = false := decide_eq_false hk
  clear h
  go_enter Tryd.func8, Tryd.ntmps8
  go_wp2_with (go_at_call 28; refine HB.out.mono ?_; rintro e w' ⟨rfl, rfl⟩)
  go_ret2
  exact ⟨rfl, rfl⟩
theorem format_any [av : Av] (base D : Nat) (d : Dsk) (x y : Nat) (w : World) (h : IsDk base w D d) (hb : base ≤ w.heap.size) (hav : ∀ g, w.heap.size ≤ g → ¬ av.bad g) (hN : 1 ≤ d.N ∧ d.N ≤ 4096) (h1 : 1 ≤ y) (h2 : y ≤ 1024) (h3 : (x : Int) ≤ d.N - y) (hn : d.log.length + y + 1 ≤ 1000000) (hs : d.syncs.length + 1 ≤ 1000000) :
    Calls Tryd.prog 8 #[.pointer (some ⟨D, 0, none⟩), .int .i64 x, .int .i64 y] w fun e w' => e = .returned (.tuple #[.pointer (some ⟨w.heap.size + 1, 0, none⟩), .int .i64 0]) ∧ LgAt (av := av.with w.heap.size) base w' (w.heap.size + 1) D w.heap.size (.slice none 0 0) (Lg.new x y) ∧ IsDk (av := av.with w.heap.size) base w' D (blankD x (zer (y * 128)) 0 d) ∧ Chg base DK w w' ∧ w.heap.size + 2 ≤ w'.heap.size := by
  have HB := Lib.hid (begin_any base D d x y w h hb hN h1 h2 h3)
  have HBL := Lib.hid (show ∀ w1, LgAt (av := av.with w.heap.size) base w1 (w.heap.size + 1) D w.heap.size (.slice none 0 0) (Lg.new x y) → IsDk (av := av.with w.heap.size) base w1 D d → Below w.heap.size w w1 → w1.heap.size = w.heap.size + 2 → Calls Tryd.prog 29 #[.pointer (some ⟨w.heap.size + 1, 0, none⟩), .int .i64 0] w1 fun e w' => e = .returned (.tuple #[]) ∧ LgAt (av := av.with w.heap.size) base w' (w.heap.size + 1) D w.heap.size (.slice none 0 0) (Lg.new x y) ∧ IsDk (av := av.with w.heap.size) base w' D (blankD x (zer (y * 128)) 0 d) ∧ Chg base DK w w' ∧ w.heap.size + 2 ≤ w'.heap.size from fun w1 hl hd hbl hsz => by
    refine (blank_log (av := av.with w.heap.size) base w1 (w.heap.size + 1) D w.heap.size _ _ d 0 hl hd (fun g hg => ?_) (Nat.zero_le _) (by show (x : Int) + (y : Int) ≤ _; omega) hN.2 (by omega) (by show d.log.length + y + 1 ≤ _; omega) hs).mono ?_
    · rintro (q | q)
      · exact hav g (by omega) q
      · omega
    · rintro e w' ⟨q1, q2, q3, q4⟩
      refine ⟨q1, ?_, q3, ?_, by have := q4.size; omega⟩
      · have e : ({ Lg.new x y with img := zfrom (Lg.new x y).img 0 } : Lg) = Lg.new x y := by
          show ({ Lg.new x y with img := zfrom (zer (y * 128)) 0 } : Lg) = _
          rw [zfrom_zer]
          rfl
        rw [e] at q2
        exact q2
      · have hc := Chg.of_below (K := DK) hbl hb
        refine ⟨q4.os.trans hc.os, q4.tape.trans hc.tape, q4.output.trans hc.output, Nat.le_trans hc.size q4.size, fun i hi => (q4.old i hi).trans (hc.old i hi), fun i o ho hk => q4.keep i o (hc.keep i o ho hk) hk ?_⟩
        have := lt_of_heap ho
        rintro (q | q | q)
        · omega
        · omega
        · cases q)
  clear h hav hb
  go_enter Tryd.func8, Tryd.ntmps8
  go_wp2_with (first | (go_at_call 28; refine HB.out.mono ?_; rintro e w1 ⟨rfl, q1, q2, q3, q4⟩; have Q1 := Lib.hid q1; have Q2 := Lib.hid q2; have Q3 := Lib.hid q3; have Q4 := Lib.hid q4; clear q1 q2 q3 q4) | (go_at_call 29; refine (HBL.out _ Q1.out Q2.out Q3.out Q4.out).mono ?_; rintro e w2 ⟨rfl, q1, q2, q3, q4⟩; have R1 := Lib.hid q1; have R2 := Lib.hid q2; have R3 := Lib.hid q3; have R4 := Lib.hid q4; clear q1 q2 q3 q4))
  go_ret2
  exact ⟨rfl, R1.out, R2.out, R3.out, R4.out⟩
theorem free_nil (w : World) : Calls Tryd.prog 15 #[.pointer none] w fun e w' => e = .returned (.int .i64 0) ∧ w = w' := by
  go_enter Tryd.func15, Tryd.ntmps15
  go_wp2
  go_ret
  exact ⟨rfl, rfl⟩
theorem flushed_nil (w : World) : Calls Tryd.prog 14 #[.pointer none] w fun e w' => e = .returned (.int .i64 0) ∧ w = w' := by
  go_enter Tryd.func14, Tryd.ntmps14
  go_wp2
  go_ret
  exact ⟨rfl, rfl⟩
theorem flushed_any [av : Av] (base : Nat) (w : World) (P D : Nat) (l : Lg) (h : IsLg base w P D l) : Calls Tryd.prog 14 #[.pointer (some ⟨P, 0, none⟩)] w fun e w' => e = .returned (.int .i64 l.flushed) ∧ w = w' := by
  obtain ⟨I, rv, h⟩ := h
  obtain ⟨_, _, _, _, c4, _⟩ := h.cells
  clear h
  go_enter Tryd.func14, Tryd.ntmps14
  go_wp2
  go_ret
  exact ⟨rfl, rfl⟩
set_option maxRecDepth 100000 in
theorem free_any [av : Av] (base : Nat) (w : World) (P D : Nat) (l : Lg) (h : IsLg base w P D l) (hf : l.fin ≤ l.S * 128) : Calls Tryd.prog 15 #[.pointer (some ⟨P, 0, none⟩)] w fun e w' => e = .returned (.int .i64 ((l.S : Int) * 128 - l.fin)) ∧ ∃ n, w' = w.drewN n := by
  obtain ⟨I, rv, h⟩ := h
  obtain ⟨_, _, _, _, _, c5, c6, _⟩ := h.cells
  have hs := h.s2
  clear h
  generalize l.S = S at *
  generalize l.fin = fn at *
  have e1 : IntKind.i64.wrap ((S : Int) * 128 - fn) = (S : Int) * 128 - fn := IntWalk.i64_in _ (by omega)
  go_enter Tryd.func15, Tryd.ntmps15
  go_wp2_with fail
  refine Go.Proofs.YtcjhligknhpadaaDoorW.PrintLast.start_ (n := 11) (S := fun v => v.cell? ⟨P, 5, none⟩ = some (.int .i64 fn) ∧ v.cell? ⟨P, 6, none⟩ = some (.slice (some ⟨I, 0, none⟩) (S * 128) (S * 128))) (ds := [10]) #[false, false, false, false, false, false, false, false, false, false, false] (by kernel_rfl) rfl rfl ⟨c5, c6⟩ (fun hHeld => ?_)
  refine Go.Proofs.YtcjhligknhpadaaDoorW.PrintLast.pure_ (i := 0) (N := some 5) (v := ?_) (a' := ?_) #[true, false, false, false, false, false, false, false, false, false, false] rfl rfl (by kernel_rfl) (fun _ _ _ h => h) (Or.inl ⟨by rfl, ?_⟩) ?_ ?_
  rotate_left
  · intro w'
    go_simp
    with_reducible rfl
  rotate_left
  · simp only [Act.put, List.setIfInBounds_toArray, List.set_cons_zero, List.set_cons_succ, Go.Proofs.YtcjhligknhpadaaDoorW.PrintLast.i64_w, Go.Proofs.YtcjhligknhpadaaDoorW.PrintLast.i32_w]
    rfl
  refine Go.Proofs.YtcjhligknhpadaaDoorW.PrintLast.pure_ (i := 1) (N := some 6) (v := ?_) (a' := ?_) #[true, true, false, false, false, false, false, false, false, false, false] rfl rfl (by kernel_rfl) (fun _ _ _ h => h) (Or.inl ⟨by rfl, ?_⟩) ?_ ?_
  rotate_left
  · intro w'
    go_simp
    with_reducible rfl
  rotate_left
  · simp only [Act.put, List.setIfInBounds_toArray, List.set_cons_zero, List.set_cons_succ, Go.Proofs.YtcjhligknhpadaaDoorW.PrintLast.i64_w, Go.Proofs.YtcjhligknhpadaaDoorW.PrintLast.i32_w]
    rfl
  refine Go.Proofs.YtcjhligknhpadaaDoorW.PrintLast.pure_ (i := 2) (N := some 7) (v := ?_) (a' := ?_) #[true, true, true, false, false, false, false, false, false, false, false] rfl rfl (by kernel_rfl) (fun _ _ _ h => h) (Or.inl ⟨by rfl, ?_⟩) ?_ ?_
  rotate_left
  · intro w'
    go_simp
    with_reducible rfl
  rotate_left
  · simp only [Act.put, List.setIfInBounds_toArray, List.set_cons_zero, List.set_cons_succ, Go.Proofs.YtcjhligknhpadaaDoorW.PrintLast.i64_w, Go.Proofs.YtcjhligknhpadaaDoorW.PrintLast.i32_w]
    rfl
  refine Go.Proofs.YtcjhligknhpadaaDoorW.PrintLast.take_ (i := 3) (N := some 8) (v := ?_) (a' := ?_) #[true, true, true, true, false, false, false, false, false, false, false] rfl rfl (by kernel_rfl) (fun _ _ _ h => h) (Or.inl ⟨by rfl, ?_⟩) hHeld ?_ ?_
  rotate_left
  · rintro w' ⟨s0, s1⟩
    go_simp
    with_reducible rfl
  rotate_left
  · simp only [Act.put, List.setIfInBounds_toArray, List.set_cons_zero, List.set_cons_succ, Go.Proofs.YtcjhligknhpadaaDoorW.PrintLast.i64_w, Go.Proofs.YtcjhligknhpadaaDoorW.PrintLast.i32_w]
    rfl
  refine Go.Proofs.YtcjhligknhpadaaDoorW.PrintLast.take_ (i := 4) (N := some 9) (v := ?_) (a' := ?_) #[true, true, true, true, true, false, false, false, false, false, false] rfl rfl (by kernel_rfl) (fun _ _ _ h => h) (Or.inl ⟨by rfl, ?_⟩) hHeld ?_ ?_
  rotate_left
  · rintro w' ⟨s0, s1⟩
    go_simp
    with_reducible rfl
  rotate_left
  · simp only [Act.put, List.setIfInBounds_toArray, List.set_cons_zero, List.set_cons_succ, Go.Proofs.YtcjhligknhpadaaDoorW.PrintLast.i64_w, Go.Proofs.YtcjhligknhpadaaDoorW.PrintLast.i32_w]
    rfl
  refine Go.Proofs.YtcjhligknhpadaaDoorW.PrintLast.pure_ (i := 5) (N := some 10) (v := ?_) (a' := ?_) #[true, true, true, true, true, true, false, false, false, false, false] rfl rfl (by kernel_rfl) (fun _ _ _ h => h) (Or.inl ⟨by rfl, ?_⟩) ?_ ?_
  rotate_left
  · intro w'
    go_simp
    with_reducible rfl
  rotate_left
  · simp only [Act.put, List.setIfInBounds_toArray, List.set_cons_zero, List.set_cons_succ, Go.Proofs.YtcjhligknhpadaaDoorW.PrintLast.i64_w, Go.Proofs.YtcjhligknhpadaaDoorW.PrintLast.i32_w]
    rfl
  refine Go.Proofs.YtcjhligknhpadaaDoorW.PrintLast.pure_ (i := 6) (N := some 11) (v := ?_) (a' := ?_) #[true, true, true, true, true, true, true, false, false, false, false] rfl rfl (by kernel_rfl) (fun _ _ _ h => h) (Or.inl ⟨by rfl, ?_⟩) ?_ ?_
  rotate_left
  · intro w'
    go_simp
    with_reducible rfl
  rotate_left
  · simp only [Act.put, List.setIfInBounds_toArray, List.set_cons_zero, List.set_cons_succ, Go.Proofs.YtcjhligknhpadaaDoorW.PrintLast.i64_w, Go.Proofs.YtcjhligknhpadaaDoorW.PrintLast.i32_w]
    rfl
  refine Go.Proofs.YtcjhligknhpadaaDoorW.PrintLast.pure_ (i := 7) (N := some 12) (v := ?_) (a' := ?_) #[true, true, true, true, true, true, true, true, false, false, false] rfl rfl (by kernel_rfl) (fun _ _ _ h => h) (Or.inl ⟨by rfl, ?_⟩) ?_ ?_
  rotate_left
  · intro w'
    go_simp
    with_reducible rfl
  rotate_left
  · simp only [Act.put, List.setIfInBounds_toArray, List.set_cons_zero, List.set_cons_succ, Go.Proofs.YtcjhligknhpadaaDoorW.PrintLast.i64_w, Go.Proofs.YtcjhligknhpadaaDoorW.PrintLast.i32_w]
    rfl
  refine Go.Proofs.YtcjhligknhpadaaDoorW.PrintLast.take_ (i := 8) (N := some 13) (v := ?_) (a' := ?_) #[true, true, true, true, true, true, true, true, true, false, false] rfl rfl (by kernel_rfl) (fun _ _ _ h => h) (Or.inl ⟨by rfl, ?_⟩) hHeld ?_ ?_
  rotate_left
  · rintro w' ⟨s0, s1⟩
    go_simp
    with_reducible rfl
  rotate_left
  · simp only [Act.put, List.setIfInBounds_toArray, List.set_cons_zero, List.set_cons_succ, Go.Proofs.YtcjhligknhpadaaDoorW.PrintLast.i64_w, Go.Proofs.YtcjhligknhpadaaDoorW.PrintLast.i32_w]
    rfl
  refine Go.Proofs.YtcjhligknhpadaaDoorW.PrintLast.pure_ (i := 9) (N := some 14) (v := ?_) (a' := ?_) #[true, true, true, true, true, true, true, true, true, true, false] rfl rfl (by kernel_rfl) (fun _ _ _ h => h) (Or.inl ⟨by rfl, ?_⟩) ?_ ?_
  rotate_left
  · intro w'
    go_simp
    with_reducible rfl
  rotate_left
  · simp only [Act.put, List.setIfInBounds_toArray, List.set_cons_zero, List.set_cons_succ, Go.Proofs.YtcjhligknhpadaaDoorW.PrintLast.i64_w, Go.Proofs.YtcjhligknhpadaaDoorW.PrintLast.i32_w]
    rfl
  refine Go.Proofs.YtcjhligknhpadaaDoorW.PrintLast.pure_ (i := 10) (N := some 2) (v := ?_) (a' := ?_) #[true, true, true, true, true, true, true, true, true, true, true] rfl rfl (by kernel_rfl) (fun _ _ _ h => h) (Or.inl ⟨by rfl, ?_⟩) ?_ ?_
  rotate_left
  · intro w'
    go_simp
    with_reducible rfl
  rotate_left
  · simp only [Act.put, List.setIfInBounds_toArray, List.set_cons_zero, List.set_cons_succ, Go.Proofs.YtcjhligknhpadaaDoorW.PrintLast.i64_w, Go.Proofs.YtcjhligknhpadaaDoorW.PrintLast.i32_w]
    rfl
  refine Go.Proofs.YtcjhligknhpadaaDoorW.PrintLast.done_ (by kernel_rfl) ?_
  go_wp2
  go_ret
  exact ⟨rfl, 1, rfl⟩
end Dk
end Go.Proofs.YtcjhligknhpadaaDoor

namespace Go.Proofs.YtcjhligknhpadaaDoor
open Go.RowKit Go.Proofs.YtcjhligknhpadaaDoor.Wp Go.Proofs.YtcjhligknhpadaaDoorW.PrintWords Go.Proofs.YtcjhligknhpadaaDoorW.PrintLast
set_option linter.unusedVariables false
set_option linter.unusedSimpArgs false
namespace Dk

def LogOf (base : Nat) (w : World) (P D I : Nat) (rv : Value) (l : Lg) (d : Dsk) : Prop :=
  LgAt (av := av0.with I) base w P D I rv l ∧ IsDk (av := av0.with I) base w D d ∧ Good l d ∧ ((l.first : Int) + l.S ≤ d.N ∧ 1 ≤ d.N ∧ d.N ≤ 4096)
def DkOf (base : Nat) (w : World) (D : Nat) (d : Dsk) : Prop := IsDk (av := av0) base w D d ∧ Wf d ∧ (1 ≤ d.N ∧ d.N ≤ 4096)
theorem LogOf.dk {base : Nat} {w : World} {P D I : Nat} {rv : Value} {l : Lg} {d : Dsk} (h : LogOf base w P D I rv l d) : DkOf base w D d := ⟨h.2.1.weak (fun g q => q.elim), h.2.2.1.wf, h.2.2.2.2⟩
theorem LogOf.below {base : Nat} {w w' : World} {P D I : Nat} {rv : Value} {l : Lg} {d : Dsk} (h : LogOf base w P D I rv l d) (hb : Below w.heap.size w w') : LogOf base w' P D I rv l d := ⟨LgAt.below (av := av0.with I) h.1 hb, IsDk.below (av := av0.with I) h.2.1 hb, h.2.2.1, h.2.2.2⟩
theorem DkOf.below {base : Nat} {w w' : World} {D : Nat} {d : Dsk} (h : DkOf base w D d) (hb : Below w.heap.size w w') : DkOf base w' D d := ⟨IsDk.below (av := av0) h.1 hb, h.2⟩
theorem LogOf.nums {base : Nat} {w : World} {P D I : Nat} {rv : Value} {l : Lg} {d : Dsk} (h : LogOf base w P D I rv l d) : base ≤ P ∧ base ≤ I ∧ P < w.heap.size ∧ I < w.heap.size ∧ 1 ≤ l.S ∧ l.S ≤ 1024 :=
  ⟨LgAt.bP (av := av0.with I) h.1, LgAt.bI (av := av0.with I) h.1, lt_of_heap (LgAt.hP (av := av0.with I) h.1), lt_of_heap (LgAt.hI (av := av0.with I) h.1), LgAt.s1 (av := av0.with I) h.1, LgAt.s2 (av := av0.with I) h.1⟩
theorem LogOf.fresh {base : Nat} {w : World} {P D I : Nat} {rv : Value} {l : Lg} {d : Dsk} (h : LogOf base w P D I rv l d) : ∀ g, w.heap.size ≤ g → ¬ (av0.with I).bad g := by
  rintro g hg (q | q)
  · exact q
  · have := h.nums
    omega
def appFits (l : Lg) (b : List Int) : Prop := 1 ≤ b.length ∧ b.length ≤ 8192 ∧ l.fin + 8 + pad b.length ≤ l.S * 128
instance (l : Lg) (b : List Int) : Decidable (appFits l b) := by unfold appFits; infer_instance
def appL (l : Lg) (b : List Int) : Lg := if appFits l b then { l with recs := l.recs ++ [b], fin := l.fin + 8 + pad b.length, img := putAt l.img l.fin b } else l
def appC (l : Lg) (b : List Int) : Int := if b.length = 0 ∨ 8192 < b.length then 62 else if appFits l b then 0 else 61
theorem appC_zero (l : Lg) (b : List Int) : appC l b = 0 ↔ appFits l b := by
  unfold appC
  split
  · unfold appFits; constructor <;> intro h <;> omega
  · split <;> simp_all
theorem log_append (base : Nat) (w : World) (P D I : Nat) (rv : Value) (l : Lg) (d : Dsk) (a : Option Addr) (n c : Nat) (b : List Int) (h : LogOf base w P D I rv l d) (hbw : base ≤ w.heap.size) (hb0 : 0 < base) (ht : Tab w) (hn : b.length = n) (hby : IsBy b) (hc : ∀ j, j < n → ∃ ad, a = some ad ∧ w.cell? (ad.add j) = some (.int .u8 (b.getD j 0))) (hbI : 0 < n → ∀ ad, a = some ad → ad.block ≠ I ∧ ad.block ≠ P) :
    Calls Tryd.prog 11 #[.pointer (some ⟨P, 0, none⟩), .slice a n c] w fun e w' => e = .returned (.int .i64 (appC l b)) ∧ ∃ rv', LogOf base w' P D I rv' (appL l b) d ∧ LKeep (LgOwn P I rv) w w' ∧ (∀ i, i < w.heap.size → LgOwn P I rv' i → LgOwn P I rv i) := by
  have hg := h.2.2.1
  by_cases h1 : n = 0 ∨ 8192 < n
  · refine (append_long P a n c w h1).mono ?_
    rintro e w' ⟨rfl, rfl⟩
    refine ⟨?_, rv, ?_, LKeep.refl _ _, fun _ _ q => q⟩
    · unfold appC
      rw [if_pos (by omega)]
    · unfold appL
      rw [if_neg (by unfold appFits; omega)]
      exact h
  · by_cases h2 : l.fin + 8 + pad n ≤ l.S * 128
    · obtain ⟨ad, rfl, _⟩ := hc 0 (by omega)
      have hsp : ad.spot = none := by
        obtain ⟨_, q, h0⟩ := hc 0 (by omega)
        cases q
        rw [show ad.add 0 = ad from rfl] at h0
        unfold World.cell? at h0
        split at h0
        · split at h0
          · cases h0
          · rename_i hs
            simpa using hs
        · cases h0
      obtain ⟨bg, bo, sp⟩ := ad
      simp only at hsp
      subst hsp
      have hbI' := hbI (by omega) _ rfl
      refine (append_any (av := av0.with I) base w P D I rv l bg bo n c b h.1 hbw h.fresh ht h2 (by omega) (by omega) hn hby hbI'.1 hbI'.2 (by have := h.nums; omega) (fun j hj => by
        obtain ⟨_, q, h0⟩ := hc j hj
        cases q
        rw [add_in (.inr rfl)] at h0
        exact h0) (by have := hg.recs_le; have := h.nums; omega)).mono ?_
      rintro e w' ⟨rfl, rv', h3, h4, h5⟩
      have hfits : appFits l b := by unfold appFits; rw [hn]; omega
      refine ⟨?_, rv', ?_, h4, h5⟩
      · unfold appC
        rw [if_neg (by omega), if_pos hfits]
      · unfold appL
        rw [if_pos hfits, hn]
        refine ⟨h3, LgAt.disk (av := av0.with I) h.1 h4 h.2.1, ?_, h.2.2.2⟩
        have q := hg.append b (by omega) (by omega) (by rw [hn]; exact h2)
        rw [hn] at q
        exact q
    · refine (append_full (av := av0.with I) base w P D I rv l a n c h.1 hg.le (by omega) (by omega) (by omega)).mono ?_
      rintro e w' ⟨rfl, k, rfl⟩
      refine ⟨?_, rv, ?_, LKeep.below (below_drewN (Below.refl _ _) k), fun _ _ q => q⟩
      · unfold appC
        rw [if_neg (by omega), if_neg (by unfold appFits; rw [hn]; omega)]
      · unfold appL
        rw [if_neg (by unfold appFits; rw [hn]; omega)]
        exact h.below (below_drewN (Below.refl _ _) k)
theorem batch_fields (first : Int) (img : List Int) (a b : Nat) (d : Dsk) : (batchD first img a b d).N = d.N ∧ (batchD first img a b d).first = d.first ∧ (batchD first img a b d).log.length = d.log.length + ((b + 127) / 128 - a / 128) ∧ (batchD first img a b d).syncs.length = d.syncs.length + 1 := by
  have hf := wrD_fields first img (a / 128) d ((b + 127) / 128 - a / 128)
  refine ⟨hf.1, hf.2.1, ?_, ?_⟩
  · show (wrD first img (a / 128) d _).log.length = _
    rw [hf.2.2.2, List.length_append, List.length_map, List.length_range]
  · show ((wrD first img (a / 128) d _).syncs ++ [_]).length = _
    rw [hf.2.2.1, List.length_append]
    rfl
theorem one_fields (first : Int) (img : List Int) (a : Nat) (d : Dsk) : (oneD first img a d).N = d.N ∧ (oneD first img a d).first = d.first ∧ (oneD first img a d).log.length ≤ d.log.length + 1 ∧ (oneD first img a d).syncs.length ≤ d.syncs.length + 1 := by
  unfold oneD
  split
  · have hf := batch_fields first img a (a + 1) d
    rw [one_batch] at hf
    exact ⟨hf.1, hf.2.1, by omega, by omega⟩
  · exact ⟨rfl, rfl, by omega, by omega⟩
theorem blank_fields (first : Int) (img : List Int) (a S : Nat) (d : Dsk) (h : img.length = S * 128) : (blankD first img a d).N = d.N ∧ (blankD first img a d).first = d.first ∧ (blankD first img a d).log.length ≤ d.log.length + S + 1 ∧ (blankD first img a d).syncs.length ≤ d.syncs.length + 2 := by
  unfold blankD
  have h1 := one_fields first (zfrom img a) a d
  have h2 := batch_fields first (zfrom img a) a img.length (oneD first (zfrom img a) a d)
  rw [h] at h2 ⊢
  exact ⟨h2.1.trans h1.1, h2.2.1.trans h1.2.1, by omega, by omega⟩
theorem flush_fields (first : Int) (img : List Int) (a b S : Nat) (d : Dsk) (h : b ≤ S * 128) : (flushD first img a b d).N = d.N ∧ (flushD first img a b d).first = d.first ∧ (flushD first img a b d).log.length ≤ d.log.length + S + 1 ∧ (flushD first img a b d).syncs.length ≤ d.syncs.length + 2 := by
  unfold flushD
  split
  · have h1 := batch_fields first (zcut img a) a b d
    have h2 := one_fields first img a (batchD first (zcut img a) a b d)
    exact ⟨h2.1.trans h1.1, h2.2.1.trans h1.2.1, by omega, by omega⟩
  · exact ⟨rfl, rfl, by omega, by omega⟩
def flL (l : Lg) : Lg := { l with flushed := l.recs.length, dirty := l.fin }
def flD (l : Lg) (d : Dsk) : Dsk := flushD l.first l.img l.dirty l.fin d
theorem flD_fields {l : Lg} {d : Dsk} (h : Good l d) : (flD l d).N = d.N ∧ (flD l d).first = d.first ∧ (flD l d).log.length ≤ d.log.length + l.S + 1 ∧ (flD l d).syncs.length ≤ d.syncs.length + 2 := flush_fields _ _ _ _ l.S _ h.le
theorem log_flush (base : Nat) (w : World) (P D I : Nat) (rv : Value) (l : Lg) (d : Dsk) (h : LogOf base w P D I rv l d) (hbw : base ≤ w.heap.size) (hn : d.log.length + l.S + 1 ≤ 1000000) (hs : d.syncs.length + 1 ≤ 1000000) :
    Calls Tryd.prog 12 #[.pointer (some ⟨P, 0, none⟩)] w fun e w' => e = .returned (.int .i64 0) ∧ LogOf base w' P D I rv (flL l) (flD l d) ∧ LChg base (LgOwn P I rv) w w' := by
  have hg := h.2.2.1
  have hd := hg.dirty_le
  have hle := hg.le
  refine (flush_any (av := av0.with I) base w P D I rv l d h.1 h.2.1 h.fresh hd.2.2 hle (by omega) h.2.2.2.1 h.2.2.2.2.2 hbw hn hs).mono ?_
  rintro e w' ⟨rfl, h1, h2, h3⟩
  refine ⟨rfl, ⟨h1, h2, hg.flush, ?_⟩, h3⟩
  show (l.first : Int) + l.S ≤ (flD l d).N ∧ 1 ≤ (flD l d).N ∧ (flD l d).N ≤ 4096
  rw [(flD_fields hg).1]
  exact h.2.2.2
def opD (x y : Nat) (d : Dsk) : Dsk := blankD x (reg d.now x y) (openL x y (reg d.now x y)).fin d
def opL (x y : Nat) (d : Dsk) : Lg := openL x y (reg d.now x y)
theorem opD_fields {d : Dsk} (h : Wf d) (x y : Nat) : (opD x y d).N = d.N ∧ (opD x y d).first = d.first ∧ (opD x y d).log.length ≤ d.log.length + y + 1 ∧ (opD x y d).syncs.length ≤ d.syncs.length + 2 := blank_fields _ _ _ y _ (reg_len _ _ h.now_len _)
theorem log_open (base D x y : Nat) (d : Dsk) (w : World) (h : DkOf base w D d) (hb0 : 0 < base) (hbw : base ≤ w.heap.size) (ht : Tab w) (h1 : 1 ≤ y) (h2 : y ≤ 1024) (h3 : (x : Int) ≤ d.N - y) (hn : d.log.length + y + 1 ≤ 1000000) (hs : d.syncs.length + 1 ≤ 1000000) :
    Calls Tryd.prog 9 #[.pointer (some ⟨D, 0, none⟩), .int .i64 x, .int .i64 y] w fun e w' => e = .returned (.tuple #[.pointer (some ⟨w.heap.size + 1, 0, none⟩), .int .i64 0]) ∧ ∃ rv, LogOf base w' (w.heap.size + 1) D w.heap.size rv (opL x y d) (opD x y d) ∧ Chg base DK w w' ∧ (∀ i, i < w.heap.size → rv.ownBlock ≠ some i) := by
  refine (open_any base D x y d w h.1 hb0 hbw ht h.2.2 h1 h2 h3 hn hs h.2.1.now_len).mono ?_
  rintro e w' ⟨rfl, rv, q1, q2, q3, q4⟩
  refine ⟨rfl, rv, ⟨q1, q2, Good.opened h.2.1 (fun q => IsDk.now_by (av := av0) h.1 q) x y, ?_⟩, q3, q4⟩
  show (x : Int) + y ≤ (opD x y d).N ∧ 1 ≤ (opD x y d).N ∧ (opD x y d).N ≤ 4096
  rw [(opD_fields h.2.1 x y).1]
  have := h.2.2
  omega
def foD (x y : Nat) (d : Dsk) : Dsk := blankD x (zer (y * 128)) 0 d
theorem foD_fields (d : Dsk) (x y : Nat) : (foD x y d).N = d.N ∧ (foD x y d).first = d.first ∧ (foD x y d).log.length ≤ d.log.length + y + 1 ∧ (foD x y d).syncs.length ≤ d.syncs.length + 2 := blank_fields _ _ _ y _ (zer_len _)
theorem log_format (base D x y : Nat) (d : Dsk) (w : World) (h : DkOf base w D d) (hbw : base ≤ w.heap.size) (h1 : 1 ≤ y) (h2 : y ≤ 1024) (h3 : (x : Int) ≤ d.N - y) (hn : d.log.length + y + 1 ≤ 1000000) (hs : d.syncs.length + 1 ≤ 1000000) :
    Calls Tryd.prog 8 #[.pointer (some ⟨D, 0, none⟩), .int .i64 x, .int .i64 y] w fun e w' => e = .returned (.tuple #[.pointer (some ⟨w.heap.size + 1, 0, none⟩), .int .i64 0]) ∧ LogOf base w' (w.heap.size + 1) D w.heap.size (.slice none 0 0) (Lg.new x y) (foD x y d) ∧ Chg base DK w w' ∧ w.heap.size + 2 ≤ w'.heap.size := by
  refine (format_any (av := av0) base D d x y w h.1 hbw (fun g _ q => q) h.2.2 h1 h2 h3 hn hs).mono ?_
  rintro e w' ⟨rfl, q1, q2, q3, q4⟩
  refine ⟨rfl, ⟨q1, q2, Good.new h.2.1 x y h1, ?_⟩, q3, q4⟩
  show (x : Int) + y ≤ (foD x y d).N ∧ 1 ≤ (foD x y d).N ∧ (foD x y d).N ≤ 4096
  rw [(foD_fields d x y).1]
  have := h.2.2
  omega
theorem log_free (base : Nat) (w : World) (P D I : Nat) (rv : Value) (l : Lg) (d : Dsk) (h : LogOf base w P D I rv l d) : Calls Tryd.prog 15 #[.pointer (some ⟨P, 0, none⟩)] w fun e w' => e = .returned (.int .i64 ((l.S : Int) * 128 - l.fin)) ∧ ∃ n, w' = w.drewN n :=
  free_any (av := av0.with I) base w P D l ⟨I, rv, h.1⟩ h.2.2.1.le
theorem log_records (base : Nat) (w : World) (P D I : Nat) (rv : Value) (l : Lg) (d : Dsk) (h : LogOf base w P D I rv l d) : Calls Tryd.prog 13 #[.pointer (some ⟨P, 0, none⟩)] w fun e w' => ∃ ov, e = .returned ov ∧ RowsAt (av := av0.with I) w.heap.size w' ov l.recs ∧ Below w.heap.size w w' :=
  records_any (av := av0.with I) base w P D I rv l h.1 h.fresh (by have := h.2.2.1.recs_le; have := h.nums; omega) (fun r hr => by have := h.2.2.1.ok r hr; omega)
theorem new_dkof (base : Nat) (n : Int) (w : World) (hb : base ≤ w.heap.size) (h0 : 1 ≤ n) (h1 : n ≤ 4096) : Calls Tryd.prog 16 #[.int .i64 n] w fun e w' => ∃ D, e = .returned (.tuple #[.pointer (some ⟨D, 0, none⟩), .int .i64 0]) ∧ DkOf base w' D (Dsk.new n) ∧ Below w.heap.size w w' := by
  refine (new_abs n w h0 h1).mono fun e w' ⟨he, hbl, hz, m0, m1, hC⟩ => ⟨_, he, ⟨?_, Wf.new n, h0, h1⟩, hbl⟩
  exact ⟨w.heap.size, w.heap.size + 1, .slice none 0 0, .slice none 0 0, @DkAt.mk av0 _ _ _ _ _ _ _ _ (by omega) hb (by omega) (by omega) hC ⟨#[], 0, m0, (by intro e he; simp at he), fun k => Byts.nil (av := av0) _⟩ ⟨#[], 0, m1, (by intro e he; simp at he), fun k => Byts.nil (av := av0) _⟩ ⟨[], rfl, (by intro p hp; simp [Dsk.new] at hp), World.ownsRow_nil _ _ _ _⟩ (World.ownsRow_nil _ _ _ _)⟩
end Dk
end Go.Proofs.YtcjhligknhpadaaDoor

namespace Go.Proofs.YtcjhligknhpadaaDoor
open Go.RowKit Go.Proofs.YtcjhligknhpadaaDoor.Wp Go.Proofs.YtcjhligknhpadaaDoorW.PrintWords Go.Proofs.YtcjhligknhpadaaDoorW.PrintLast
set_option linter.unusedVariables false
set_option linter.unusedSimpArgs false
namespace Dk

theorem Tab.mono {B : Nat} {w w' : World} (h : Tab w) (hb : Below B w w') (h0 : 0 < B) : Tab w' := fun j hj => by
  have q := h j hj
  simp only [World.cell?, hb.block 0 h0] at q ⊢
  exact q
theorem Tab.pos {w : World} (h : Tab w) : 0 < w.heap.size := by
  have q := h 0 (by omega)
  apply Classical.byContradiction
  intro hn
  simp [World.cell?, Array.getElem?_eq_none (show w.heap.size ≤ 0 by omega)] at q
theorem LogOf.own {base : Nat} {w : World} {P D I : Nat} {rv : Value} {l : Lg} {d : Dsk} (h : LogOf base w P D I rv l d) : ∀ i, LgOwn P I rv i → base ≤ i := LgAt.own (av := av0.with I) h.1
theorem LKeep.low {B : Nat} {S : Nat → Prop} {w w' : World} (h : LKeep S w w') (hb : B ≤ w.heap.size) (hS : ∀ i, S i → B ≤ i) : Below B w w' := (h.chg hb hS).below
def aL1 : Lg := appL (Lg.new 0 2) (zer 248)
def aL2 : Lg := appL aL1 [1]
theorem aFits : appFits (Lg.new 0 2) (zer 248) := by
  unfold appFits
  rw [zer_len]
  decide
theorem aL1_eq : aL1 = ⟨0, 2, [zer 248], 0, 256, putAt (zer 256) 0 (zer 248), 0⟩ := by
  unfold aL1 appL
  rw [if_pos aFits]
  have e : (Lg.new 0 2).fin + 8 + pad (zer 248).length = 256 := by rw [zer_len]; rfl
  rw [e]
  rfl
theorem aCode1 : appC (Lg.new 0 2) (zer 248) = 0 := (appC_zero _ _).2 aFits
theorem aNo : ¬ appFits aL1 [1] := by
  rw [aL1_eq]
  unfold appFits
  decide
theorem aCode2 : appC aL1 [1] = 61 := by
  unfold appC
  rw [if_neg (by decide), if_neg aNo]
theorem aL2_eq : aL2 = aL1 := by
  unfold aL2 appL
  rw [if_neg aNo]
theorem open_flushed {l : Lg} {d : Dsk} (h : Good l d) : (opL l.first l.S (flD l d)).recs = l.recs := by
  have hg := h.flush.read
  have e : (flL l).recs.take (flL l).flushed = l.recs := by show l.recs.take l.recs.length = _; exact List.take_of_length_le (Nat.le_refl _)
  exact hg.trans e
set_option maxHeartbeats 2000000 in
set_option maxRecDepth 100000 in
theorem alive_any (w : World) (ht : Tab w) : Calls Tryd.prog 10 #[] w fun e w' => e = .returned (.bool true) ∧ Below w.heap.size w w' := by
  have h0 := ht.pos
  have HT := Lib.hid ht
  have hmk : ∀ W : World, (Instr.makeSlice 22 (.int .i64 248) (.int .i64 248)).run Tryd.prog W = .ok (.slice (some ⟨W.heap.size, 0, none⟩) 248 248) (W.alloc (.cells ((zer 248).map (Value.int .u8)).toArray 5)) := fun W => make_n 248 (by omega) W
  clear ht
  go_enter Tryd.func10, Tryd.ntmps10
  go_wp2_with fail
  refine (new_dkof w.heap.size 2 _ (Nat.le_refl _) (by decide) (by decide)).mono ?_
  rintro e w1 ⟨D, rfl, hi1, hb1⟩
  have HI1 := Lib.hid hi1
  have HB1 := Lib.hid hb1
  clear hi1 hb1
  go_wp2_with fail
  refine (log_format w.heap.size D 0 2 (Dsk.new 2) w1 HI1.out HB1.out.size (by decide) (by decide) (by decide) (by decide) (by decide)).mono ?_
  rintro e w2 ⟨rfl, hi2, hc2, hs2⟩
  generalize w1.heap.size + 1 = P at hi2 ⊢
  generalize w1.heap.size = I at hi2 hs2 ⊢
  have HI2 := Lib.hid hi2
  have HB2 := Lib.hid (HB1.out.trans hc2.below)
  have HFR := Lib.hid (show Calls Tryd.prog 15 #[.pointer (some ⟨P, 0, none⟩)] w2 fun e w' => e = .returned (.int .i64 256) ∧ ∃ n, w' = w2.drewN n from log_free _ _ _ _ _ _ _ _ hi2)
  clear hi2 hc2 hs2
  go_wp2_with (go_at_call 15; refine HFR.out.mono ?_; rintro e w3 ⟨rfl, n3, rfl⟩)
  have hn3 : Below w2.heap.size w2 ((w2.drewN n3).alloc (.cells ((zer 248).map (Value.int .u8)).toArray 5)) := (below_drewN (Below.refl _ w2) n3).alloc (Nat.le_refl _) _
  have hsz2 := HB2.out.size
  have hbg : ((w2.drewN n3).alloc (.cells ((zer 248).map (Value.int .u8)).toArray 5)).heap[w2.heap.size]? = some (.cells ((zer 248).map (Value.int .u8)).toArray 5 (0, 0)) := World.alloc_heap_new (w2.drewN n3) _
  generalize (w2.drewN n3).alloc (.cells ((zer 248).map (Value.int .u8)).toArray 5) = w3 at hn3 hbg ⊢
  have hi3 := HI2.out.below hn3
  have hb3 := HB2.out.trans (hn3.mono hsz2)
  have hnum := HI2.out.nums
  refine (log_append w.heap.size w3 P D I _ _ _ (some ⟨w2.heap.size, 0, none⟩) 248 248 (zer 248) hi3 hb3.size h0 (HT.out.mono hb3 h0) (zer_len _) (zer_by _) (fun j hj => ⟨_, rfl, by
    rw [add_in (.inr rfl), Nat.zero_add]
    exact cell_of hbg (by
      rw [List.getElem?_toArray, List.getElem?_map, List.getD_eq_getElem?_getD, List.getElem?_eq_getElem (by rw [zer_len]; exact hj)]
      rfl)⟩) (fun _ ad q => by cases q; exact ⟨by show w2.heap.size ≠ I; omega, by show w2.heap.size ≠ P; omega⟩)).mono ?_
  rintro e w4 ⟨he, rv4, hi4, hk4, ho4⟩
  rw [aCode1] at he
  subst he
  have HI4 := Lib.hid (show LogOf w.heap.size w4 P D I rv4 aL1 _ from hi4)
  have HB4 := Lib.hid (hb3.trans (hk4.low hb3.size hi3.own))
  clear hi4 hk4 ho4 hi3 hb3 hbg hn3 hnum hsz2
  go_wp2_with fail
  have hn5 : Below w4.heap.size w4 (w4.alloc (.cells #[.int .u8 1] 5)) := (Below.refl _ _).alloc (Nat.le_refl _) _
  have hbg : (w4.alloc (.cells #[.int .u8 1] 5)).heap[w4.heap.size]? = some (.cells #[.int .u8 1] 5 (0, 0)) := World.alloc_heap_new w4 _
  generalize w4.alloc (.cells #[.int .u8 1] 5) = w5 at hn5 hbg ⊢
  have hi5 := HI4.out.below hn5
  have hb5 := HB4.out.trans (hn5.mono HB4.out.size)
  have hnum := HI4.out.nums
  refine (log_append w.heap.size w5 P D I _ _ _ (some ⟨w4.heap.size, 0, none⟩) 1 1 [1] hi5 hb5.size h0 (HT.out.mono hb5 h0) rfl (fun c hc => by rw [List.mem_singleton.1 hc]; omega) (fun j hj => ⟨_, rfl, by
    obtain rfl : j = 0 := by omega
    exact cell_of hbg rfl⟩) (fun _ ad q => by cases q; exact ⟨by show w4.heap.size ≠ I; omega, by show w4.heap.size ≠ P; omega⟩)).mono ?_
  rintro e w6 ⟨he, rv6, hi6, hk6, ho6⟩
  rw [aCode2] at he
  subst he
  have HI6 := Lib.hid (show LogOf w.heap.size w6 P D I rv6 aL1 (foD 0 2 (Dsk.new 2)) by rw [← aL2_eq]; exact hi6)
  have HB6 := Lib.hid (hb5.trans (hk6.low hb5.size hi5.own))
  clear hi6 hk6 ho6 hi5 hb5 hbg hn5 hnum HI4 HB4
  have hfo := foD_fields (Dsk.new 2) 0 2
  have hSe : aL1.S = 2 := by rw [aL1_eq]
  have hxe : aL1.first = 0 := by rw [aL1_eq]
  have hre : aL1.recs = [zer 248] := by rw [aL1_eq]
  have HFL := Lib.hid (log_flush w.heap.size w6 P D I rv6 _ _ HI6.out HB6.out.size (by rw [hSe]; have : (Dsk.new 2).log.length = 0 := rfl; omega) (by have : (Dsk.new 2).syncs.length = 0 := rfl; omega))
  have hfd := flD_fields HI6.out.2.2.1
  have hof := open_flushed HI6.out.2.2.1
  rw [hxe, hSe, hre] at hof
  rw [hSe] at hfd
  generalize foD 0 2 (Dsk.new 2) = d1 at *
  generalize hd2 : flD aL1 d1 = d2 at *
  have hN2 : d2.N = 2 := by rw [hfd.1, hfo.1]; rfl
  have hl2 : d2.log.length ≤ 6 := by have : (Dsk.new 2).log.length = 0 := rfl; omega
  have hs2 : d2.syncs.length ≤ 4 := by have : (Dsk.new 2).syncs.length = 0 := rfl; omega
  clear hfd hfo
  go_wp2_with (go_at_call 12; refine HFL.out.mono ?_; rintro e w7 ⟨rfl, hi7, hc7⟩; have HI7 := Lib.hid hi7; have HB7 := Lib.hid (HB6.out.trans (hc7.below)); clear hi7 hc7)
  refine (log_open w.heap.size D 0 2 _ _ HI7.out.dk h0 HB7.out.size (HT.out.mono HB7.out h0) (by decide) (by decide) (by rw [hN2]; decide) (by omega) (by omega)).mono ?_
  rintro e w8 ⟨rfl, rv8, hi8, hc8, _⟩
  have HB8 := Lib.hid (HB7.out.trans hc8.below)
  have HF8 := Lib.hid (show ∀ (W : World), Below w8.heap.size w8 W → Calls Tryd.prog 14 #[.pointer (some ⟨w7.heap.size + 1, 0, none⟩)] W fun e w' => e = .returned (.int .i64 1) ∧ W = w' from fun W hW => by
    have q := flushed_any (av := av0.with w7.heap.size) w.heap.size W (w7.heap.size + 1) D (opL 0 2 d2) ⟨_, _, (hi8.below hW).1⟩
    rw [show (opL 0 2 d2).flushed = 1 from (show (opL 0 2 d2).flushed = (opL 0 2 d2).recs.length from rfl).trans (by rw [hof]; rfl)] at q
    exact q)
  clear hi8 hc8
  go_wp2_with (go_at_call 14; refine (HF8.out _ (by first | exact Below.refl _ _ | exact below_drewN (Below.refl _ _) _)).mono ?_; rintro e w9 ⟨rfl, rfl⟩)
  go_ret
  exact ⟨rfl, HB8.out⟩
end Dk
end Go.Proofs.YtcjhligknhpadaaDoor

namespace Go.Proofs.YtcjhligknhpadaaDoor
open Go.ChangeShapes Go.WideShapes Go.ChangeAt Go.RowKit
set_option linter.unusedVariables false
set_option linter.unusedSimpArgs false
namespace Vl
theorem own : ownKnob Tryd.prog.godebug = none := by kernel_rfl
theorem laidOut : laidOutB Tryd.prog = true := by kernel_rfl
/-- A WORLD FOR THE WITNESS: the settled one, the three tables holding what they are listed with. -/
noncomputable def stepsBlock : Obj → Obj
  | .cells _ t frozen => .cells #[.int .u32 0, .int .u32 498536548, .int .u32 997073096, .int .u32 651767980, .int .u32 1994146192, .int .u32 1802195444, .int .u32 1303535960, .int .u32 1342533948, .int .u32 3988292384, .int .u32 4027552580, .int .u32 3604390888, .int .u32 3412177804, .int .u32 2607071920, .int .u32 2262029012, .int .u32 2685067896, .int .u32 3183342108] t frozen
  | o => o
noncomputable def firstBlock : Obj → Obj
  | .cells _ t frozen => .cells (Go.Pinned.utf8FirstZ.map fun (n : Nat) => Value.int .u8 (n : Int)).toArray t frozen
  | o => o
noncomputable def acceptBlock : Obj → Obj
  | .cells _ t frozen => .cells #[.int .u8 128, .int .u8 191, .int .u8 160, .int .u8 191, .int .u8 128, .int .u8 159, .int .u8 144, .int .u8 191, .int .u8 128, .int .u8 143, .int .u8 0, .int .u8 0, .int .u8 0, .int .u8 0, .int .u8 0, .int .u8 0, .int .u8 0, .int .u8 0, .int .u8 0, .int .u8 0, .int .u8 0, .int .u8 0, .int .u8 0, .int .u8 0, .int .u8 0, .int .u8 0, .int .u8 0, .int .u8 0, .int .u8 0, .int .u8 0, .int .u8 0, .int .u8 0] t frozen
  | o => o
noncomputable def laidWorld (os : Os) : World :=
  { World.holding Tryd.prog os ⟨#[], #[], []⟩ with heap := (((World.holding Tryd.prog os ⟨#[], #[], []⟩).heap.modify 0 stepsBlock).modify 1 firstBlock).modify 2 acceptBlock }
theorem gSteps : Tryd.prog.globalNamed "stile/octets.steps" = some 0 := by kernel_rfl
theorem tSteps : (Tryd.prog.globals[0]?).map (·.type) = some 85 := by kernel_rfl
/-- WHAT THE ROWS' LIST GIVES: the table's cells. -/
theorem tab_of {W : World} (h : laidMetH Tryd.prog Rows.walNilRow.laid W) : Dk.Tab W := by
  rw [MakeChecks.laidMetH_plain _ _ _ (by kernel_rfl)] at h
  have hc : Lib.TabIs Tryd.prog W "stile/octets.steps" .u32 Dk.tabC := Lib.tabIs_of_head gSteps tSteps Tryd.underlying85 Tryd.underlying70 (by kernel_rfl) (by kernel_rfl) h
  exact fun j hj => hc.cell gSteps j hj
end Vl
end Go.Proofs.YtcjhligknhpadaaDoor

namespace Go.Proofs.YtcjhligknhpadaaDoor
open Go.RowKit Go.Proofs.YtcjhligknhpadaaDoor.Wp Go.Proofs.YtcjhligknhpadaaDoorW.PrintWords Go.Proofs.YtcjhligknhpadaaDoorW.PrintLast
set_option linter.unusedVariables false
set_option linter.unusedSimpArgs false
namespace Dk

set_option maxHeartbeats 2000000 in
set_option maxRecDepth 100000 in
theorem nil_walk (v : Value) (w : World) (ht : Tab w) : Calls Tryd.prog 3 #[v] w fun e w' => e = .returned (.bool true) ∧ Below w.heap.size w w' := by
  have h0 := ht.pos
  have HT := Lib.hid ht
  clear ht
  go_enter Tryd.func3, Tryd.ntmps3
  go_wp2_with (first | (go_at_call 8; refine (format_no (.pointer none) 0 1 _ 1 (by decide) (begin_nil 0 1 _)).mono ?_; rintro e w1 ⟨rfl, rfl⟩) | (go_at_call 9; refine (open_no (.pointer none) 0 1 _ 1 (by decide) (begin_nil 0 1 _)).mono ?_; rintro e w2 ⟨rfl, hb2⟩; have HB2 := Lib.hid hb2; clear hb2) | (go_at_call 10; refine (alive_any _ (HT.out.mono HB2.out h0)).mono ?_; rintro e w3 ⟨rfl, hb3⟩; have HB3 := Lib.hid (HB2.out.trans (hb3.mono HB2.out.size)); clear hb3) | (go_at_call 11; refine (append_nil _ _).mono ?_; rintro e w4 ⟨rfl, rfl⟩) | (go_at_call 12; refine (flush_nil _).mono ?_; rintro e w4 ⟨rfl, rfl⟩) | (go_at_call 13; refine (records_nil _).mono ?_; rintro e w4 ⟨rfl, rfl⟩) | (go_at_call 14; refine (flushed_nil _).mono ?_; rintro e w4 ⟨rfl, rfl⟩) | (go_at_call 15; refine (free_nil _).mono ?_; rintro e w4 ⟨rfl, rfl⟩))
  go_ret
  exact ⟨rfl, HB3.out⟩
end Dk
end Go.Proofs.YtcjhligknhpadaaDoor
