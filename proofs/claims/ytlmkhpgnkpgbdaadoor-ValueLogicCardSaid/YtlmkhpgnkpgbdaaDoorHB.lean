/- SQL's values: a lifted operation, over any two values. -/
import Derived.Test.YtlmkhpgnkpgbdaaDoorHA
namespace Go.Proofs.YtlmkhpgnkpgbdaaDoor
open Go.RowKit
set_option linter.unusedVariables false
set_option linter.unusedSimpArgs false
namespace Vl
set_option maxHeartbeats 4000000 in
set_option maxRecDepth 100000 in
theorem add_raw (k1 n1 : Int) (s1 : ByteArray) (b1 : Bool) (k2 n2 : Int) (s2 : ByteArray) (b2 : Bool) (r1 r2 : Int) (r3 : ByteArray) (r4 : Bool) (r5 : ByteArray) (w : World) (h : liftF 1 k1 k2 (addF n1 n2) = (r1, r2, r3, r4, r5)) : Calls Tryd.prog 31 #[.agg #[.int .i64 k1, .int .i64 n1, .string s1, .bool b1], .agg #[.int .i64 k2, .int .i64 n2, .string s2, .bool b2]] w fun e w' => e = .returned (.tuple #[.agg #[.int .i64 r1, .int .i64 r2, .string r3, .bool r4], .string r5]) ∧ Nw w w' := by
  by_cases z1 : k1 = 0
  · subst z1
    by_cases z2 : k2 = 0
    · subst z2
      rw [liftF_nul _ _ _ _ (by simp) (.inl rfl)] at h
      simp only [nulR, Prod.mk.injEq] at h
      obtain ⟨rfl, rfl, rfl, rfl, rfl⟩ := h
      go_enter Tryd.func31, Tryd.ntmps31
      go_wp2_with fail
      refine (lift_3a _ _ _ _ _ _ _ _ _ _ _ rfl rfl rfl).mono ?_
      rintro e w1 ⟨rfl, hb⟩
      obtain ⟨q1, q2⟩ := hb.at_ (w.heap.size + 2) (by simp <;> omega)
      have hz := hb.size
      (try simp at hz)
      have G := Lib.hid hb
      clear hb
      go_wp2_with fail
      exact bodyPost_ret (v := .tuple #[.agg #[.int .i64 0, .int .i64 0, .string E, .bool false], .string sDone]) (by simp [results, Tryd.results31, go_sem, q1]) rfl ⟨rfl, (by repeat (first | exact Nw.refl _ | exact Nw.to (b := _) (by repeat (first | exact Nw.refl _ | assumption | apply Nw.alloc | apply Nw.drew | refine Nw.setCell ?_ (by simp <;> omega) _)) G.out | apply Nw.alloc | apply Nw.drew | refine Nw.setCell ?_ (by simp <;> omega) _))⟩
    · by_cases e2 : k2 = 1
      · subst e2
        rw [liftF_nul _ _ _ _ (by simp) (.inl rfl)] at h
        simp only [nulR, Prod.mk.injEq] at h
        obtain ⟨rfl, rfl, rfl, rfl, rfl⟩ := h
        go_enter Tryd.func31, Tryd.ntmps31
        go_wp2_with fail
        refine (lift_3b _ _ _ _ _ _ _ _ _ _ _ rfl rfl rfl rfl).mono ?_
        rintro e w1 ⟨rfl, hb⟩
        obtain ⟨q1, q2⟩ := hb.at_ (w.heap.size + 2) (by simp <;> omega)
        have hz := hb.size
        (try simp at hz)
        have G := Lib.hid hb
        clear hb
        go_wp2_with fail
        exact bodyPost_ret (v := .tuple #[.agg #[.int .i64 0, .int .i64 0, .string E, .bool false], .string sDone]) (by simp [results, Tryd.results31, go_sem, q1]) rfl ⟨rfl, (by repeat (first | exact Nw.refl _ | exact Nw.to (b := _) (by repeat (first | exact Nw.refl _ | assumption | apply Nw.alloc | apply Nw.drew | refine Nw.setCell ?_ (by simp <;> omega) _)) G.out | apply Nw.alloc | apply Nw.drew | refine Nw.setCell ?_ (by simp <;> omega) _))⟩
      · have H3 := Lib.hid (bne_iff_ne.2 z2)
        have H4 := Lib.hid (bne_iff_ne.2 e2)
        rw [liftF_mis _ _ _ _ (.inr ⟨z2, e2⟩)] at h
        clear z2 e2
        simp only [nulR, Prod.mk.injEq] at h
        obtain ⟨rfl, rfl, rfl, rfl, rfl⟩ := h
        go_enter Tryd.func31, Tryd.ntmps31
        go_wp2_with fail
        refine (lift_2a _ _ _ _ _ _ _ _ _ _ _ rfl H3.out H4.out).mono ?_
        rintro e w1 ⟨rfl, hb⟩
        obtain ⟨q1, q2⟩ := hb.at_ (w.heap.size + 2) (by simp <;> omega)
        have hz := hb.size
        (try simp at hz)
        have G := Lib.hid hb
        clear hb
        go_wp2_with fail
        exact bodyPost_ret (v := .tuple #[.agg #[.int .i64 0, .int .i64 0, .string E, .bool false], .string sMis]) (by simp [results, Tryd.results31, go_sem, q1]) rfl ⟨rfl, (by repeat (first | exact Nw.refl _ | exact Nw.to (b := _) (by repeat (first | exact Nw.refl _ | assumption | apply Nw.alloc | apply Nw.drew | refine Nw.setCell ?_ (by simp <;> omega) _)) G.out | apply Nw.alloc | apply Nw.drew | refine Nw.setCell ?_ (by simp <;> omega) _))⟩
  · by_cases e1 : k1 = 1
    · subst e1
      by_cases z2 : k2 = 0
      · subst z2
        rw [liftF_nul _ _ _ _ (by simp) (.inr rfl)] at h
        simp only [nulR, Prod.mk.injEq] at h
        obtain ⟨rfl, rfl, rfl, rfl, rfl⟩ := h
        go_enter Tryd.func31, Tryd.ntmps31
        go_wp2_with fail
        refine (lift_3c _ _ _ _ _ _ _ _ _ _ _ rfl rfl rfl rfl rfl).mono ?_
        rintro e w1 ⟨rfl, hb⟩
        obtain ⟨q1, q2⟩ := hb.at_ (w.heap.size + 2) (by simp <;> omega)
        have hz := hb.size
        (try simp at hz)
        have G := Lib.hid hb
        clear hb
        go_wp2_with fail
        exact bodyPost_ret (v := .tuple #[.agg #[.int .i64 0, .int .i64 0, .string E, .bool false], .string sDone]) (by simp [results, Tryd.results31, go_sem, q1]) rfl ⟨rfl, (by repeat (first | exact Nw.refl _ | exact Nw.to (b := _) (by repeat (first | exact Nw.refl _ | assumption | apply Nw.alloc | apply Nw.drew | refine Nw.setCell ?_ (by simp <;> omega) _)) G.out | apply Nw.alloc | apply Nw.drew | refine Nw.setCell ?_ (by simp <;> omega) _))⟩
      · by_cases e2 : k2 = 1
        · subst e2
          rw [liftF_do _ (by decide)] at h
          have HD := Lib.hid h
          clear h z1 z2
          go_enter Tryd.func31, Tryd.ntmps31
          go_wp2_with fail
          refine (lift_4_58 _ _ _ _ _ _ _ _ _ _ _ _ _ _ _ _ _ rfl rfl rfl rfl rfl rfl (fun W hW => add_do _ _ _ _ W ((hW.at_ (w.heap.size) (by simp <;> omega)).1 1 |>.trans (by simp [go_sem])) ((hW.at_ (w.heap.size + 1) (by simp <;> omega)).1 1 |>.trans (by simp [go_sem])) _ _ _ _ _ HD.out)).mono ?_
          rintro e w1 ⟨rfl, hb⟩
          obtain ⟨q1, q2⟩ := hb.at_ (w.heap.size + 2) (by simp <;> omega)
          have hz := hb.size
          (try simp at hz)
          have G := Lib.hid hb
          clear hb
          go_wp2_with fail
          exact bodyPost_ret (v := .tuple #[.agg #[.int .i64 r1, .int .i64 r2, .string r3, .bool r4], .string r5]) (by simp [results, Tryd.results31, go_sem, q1]) rfl ⟨rfl, (by repeat (first | exact Nw.refl _ | exact Nw.to (b := _) (by repeat (first | exact Nw.refl _ | assumption | apply Nw.alloc | apply Nw.drew | refine Nw.setCell ?_ (by simp <;> omega) _)) G.out | apply Nw.alloc | apply Nw.drew | refine Nw.setCell ?_ (by simp <;> omega) _))⟩
        · have H3 := Lib.hid (bne_iff_ne.2 z2)
          have H4 := Lib.hid (bne_iff_ne.2 e2)
          rw [liftF_mis _ _ _ _ (.inr ⟨z2, e2⟩)] at h
          clear z2 e2
          simp only [nulR, Prod.mk.injEq] at h
          obtain ⟨rfl, rfl, rfl, rfl, rfl⟩ := h
          go_enter Tryd.func31, Tryd.ntmps31
          go_wp2_with fail
          refine (lift_2b _ _ _ _ _ _ _ _ _ _ _ rfl rfl H3.out H4.out).mono ?_
          rintro e w1 ⟨rfl, hb⟩
          obtain ⟨q1, q2⟩ := hb.at_ (w.heap.size + 2) (by simp <;> omega)
          have hz := hb.size
          (try simp at hz)
          have G := Lib.hid hb
          clear hb
          go_wp2_with fail
          exact bodyPost_ret (v := .tuple #[.agg #[.int .i64 0, .int .i64 0, .string E, .bool false], .string sMis]) (by simp [results, Tryd.results31, go_sem, q1]) rfl ⟨rfl, (by repeat (first | exact Nw.refl _ | exact Nw.to (b := _) (by repeat (first | exact Nw.refl _ | assumption | apply Nw.alloc | apply Nw.drew | refine Nw.setCell ?_ (by simp <;> omega) _)) G.out | apply Nw.alloc | apply Nw.drew | refine Nw.setCell ?_ (by simp <;> omega) _))⟩
    · have H1 := Lib.hid (bne_iff_ne.2 z1)
      have H2 := Lib.hid (bne_iff_ne.2 e1)
      rw [liftF_mis _ _ _ _ (.inl ⟨z1, e1⟩)] at h
      clear z1 e1
      simp only [nulR, Prod.mk.injEq] at h
      obtain ⟨rfl, rfl, rfl, rfl, rfl⟩ := h
      go_enter Tryd.func31, Tryd.ntmps31
      go_wp2_with fail
      refine (lift_1 _ _ _ _ _ _ _ _ _ _ _ H1.out H2.out).mono ?_
      rintro e w1 ⟨rfl, hb⟩
      obtain ⟨q1, q2⟩ := hb.at_ (w.heap.size + 2) (by simp <;> omega)
      have hz := hb.size
      (try simp at hz)
      have G := Lib.hid hb
      clear hb
      go_wp2_with fail
      exact bodyPost_ret (v := .tuple #[.agg #[.int .i64 0, .int .i64 0, .string E, .bool false], .string sMis]) (by simp [results, Tryd.results31, go_sem, q1]) rfl ⟨rfl, (by repeat (first | exact Nw.refl _ | exact Nw.to (b := _) (by repeat (first | exact Nw.refl _ | assumption | apply Nw.alloc | apply Nw.drew | refine Nw.setCell ?_ (by simp <;> omega) _)) G.out | apply Nw.alloc | apply Nw.drew | refine Nw.setCell ?_ (by simp <;> omega) _))⟩
set_option maxHeartbeats 4000000 in
set_option maxRecDepth 100000 in
theorem sub_raw (k1 n1 : Int) (s1 : ByteArray) (b1 : Bool) (k2 n2 : Int) (s2 : ByteArray) (b2 : Bool) (r1 r2 : Int) (r3 : ByteArray) (r4 : Bool) (r5 : ByteArray) (w : World) (h : liftF 1 k1 k2 (subF n1 n2) = (r1, r2, r3, r4, r5)) : Calls Tryd.prog 32 #[.agg #[.int .i64 k1, .int .i64 n1, .string s1, .bool b1], .agg #[.int .i64 k2, .int .i64 n2, .string s2, .bool b2]] w fun e w' => e = .returned (.tuple #[.agg #[.int .i64 r1, .int .i64 r2, .string r3, .bool r4], .string r5]) ∧ Nw w w' := by
  by_cases z1 : k1 = 0
  · subst z1
    by_cases z2 : k2 = 0
    · subst z2
      rw [liftF_nul _ _ _ _ (by simp) (.inl rfl)] at h
      simp only [nulR, Prod.mk.injEq] at h
      obtain ⟨rfl, rfl, rfl, rfl, rfl⟩ := h
      go_enter Tryd.func32, Tryd.ntmps32
      go_wp2_with fail
      refine (lift_3a _ _ _ _ _ _ _ _ _ _ _ rfl rfl rfl).mono ?_
      rintro e w1 ⟨rfl, hb⟩
      obtain ⟨q1, q2⟩ := hb.at_ (w.heap.size + 2) (by simp <;> omega)
      have hz := hb.size
      (try simp at hz)
      have G := Lib.hid hb
      clear hb
      go_wp2_with fail
      exact bodyPost_ret (v := .tuple #[.agg #[.int .i64 0, .int .i64 0, .string E, .bool false], .string sDone]) (by simp [results, Tryd.results32, go_sem, q1]) rfl ⟨rfl, (by repeat (first | exact Nw.refl _ | exact Nw.to (b := _) (by repeat (first | exact Nw.refl _ | assumption | apply Nw.alloc | apply Nw.drew | refine Nw.setCell ?_ (by simp <;> omega) _)) G.out | apply Nw.alloc | apply Nw.drew | refine Nw.setCell ?_ (by simp <;> omega) _))⟩
    · by_cases e2 : k2 = 1
      · subst e2
        rw [liftF_nul _ _ _ _ (by simp) (.inl rfl)] at h
        simp only [nulR, Prod.mk.injEq] at h
        obtain ⟨rfl, rfl, rfl, rfl, rfl⟩ := h
        go_enter Tryd.func32, Tryd.ntmps32
        go_wp2_with fail
        refine (lift_3b _ _ _ _ _ _ _ _ _ _ _ rfl rfl rfl rfl).mono ?_
        rintro e w1 ⟨rfl, hb⟩
        obtain ⟨q1, q2⟩ := hb.at_ (w.heap.size + 2) (by simp <;> omega)
        have hz := hb.size
        (try simp at hz)
        have G := Lib.hid hb
        clear hb
        go_wp2_with fail
        exact bodyPost_ret (v := .tuple #[.agg #[.int .i64 0, .int .i64 0, .string E, .bool false], .string sDone]) (by simp [results, Tryd.results32, go_sem, q1]) rfl ⟨rfl, (by repeat (first | exact Nw.refl _ | exact Nw.to (b := _) (by repeat (first | exact Nw.refl _ | assumption | apply Nw.alloc | apply Nw.drew | refine Nw.setCell ?_ (by simp <;> omega) _)) G.out | apply Nw.alloc | apply Nw.drew | refine Nw.setCell ?_ (by simp <;> omega) _))⟩
      · have H3 := Lib.hid (bne_iff_ne.2 z2)
        have H4 := Lib.hid (bne_iff_ne.2 e2)
        rw [liftF_mis _ _ _ _ (.inr ⟨z2, e2⟩)] at h
        clear z2 e2
        simp only [nulR, Prod.mk.injEq] at h
        obtain ⟨rfl, rfl, rfl, rfl, rfl⟩ := h
        go_enter Tryd.func32, Tryd.ntmps32
        go_wp2_with fail
        refine (lift_2a _ _ _ _ _ _ _ _ _ _ _ rfl H3.out H4.out).mono ?_
        rintro e w1 ⟨rfl, hb⟩
        obtain ⟨q1, q2⟩ := hb.at_ (w.heap.size + 2) (by simp <;> omega)
        have hz := hb.size
        (try simp at hz)
        have G := Lib.hid hb
        clear hb
        go_wp2_with fail
        exact bodyPost_ret (v := .tuple #[.agg #[.int .i64 0, .int .i64 0, .string E, .bool false], .string sMis]) (by simp [results, Tryd.results32, go_sem, q1]) rfl ⟨rfl, (by repeat (first | exact Nw.refl _ | exact Nw.to (b := _) (by repeat (first | exact Nw.refl _ | assumption | apply Nw.alloc | apply Nw.drew | refine Nw.setCell ?_ (by simp <;> omega) _)) G.out | apply Nw.alloc | apply Nw.drew | refine Nw.setCell ?_ (by simp <;> omega) _))⟩
  · by_cases e1 : k1 = 1
    · subst e1
      by_cases z2 : k2 = 0
      · subst z2
        rw [liftF_nul _ _ _ _ (by simp) (.inr rfl)] at h
        simp only [nulR, Prod.mk.injEq] at h
        obtain ⟨rfl, rfl, rfl, rfl, rfl⟩ := h
        go_enter Tryd.func32, Tryd.ntmps32
        go_wp2_with fail
        refine (lift_3c _ _ _ _ _ _ _ _ _ _ _ rfl rfl rfl rfl rfl).mono ?_
        rintro e w1 ⟨rfl, hb⟩
        obtain ⟨q1, q2⟩ := hb.at_ (w.heap.size + 2) (by simp <;> omega)
        have hz := hb.size
        (try simp at hz)
        have G := Lib.hid hb
        clear hb
        go_wp2_with fail
        exact bodyPost_ret (v := .tuple #[.agg #[.int .i64 0, .int .i64 0, .string E, .bool false], .string sDone]) (by simp [results, Tryd.results32, go_sem, q1]) rfl ⟨rfl, (by repeat (first | exact Nw.refl _ | exact Nw.to (b := _) (by repeat (first | exact Nw.refl _ | assumption | apply Nw.alloc | apply Nw.drew | refine Nw.setCell ?_ (by simp <;> omega) _)) G.out | apply Nw.alloc | apply Nw.drew | refine Nw.setCell ?_ (by simp <;> omega) _))⟩
      · by_cases e2 : k2 = 1
        · subst e2
          rw [liftF_do _ (by decide)] at h
          have HD := Lib.hid h
          clear h z1 z2
          go_enter Tryd.func32, Tryd.ntmps32
          go_wp2_with fail
          refine (lift_4_60 _ _ _ _ _ _ _ _ _ _ _ _ _ _ _ _ _ rfl rfl rfl rfl rfl rfl (fun W hW => sub_do _ _ _ _ W ((hW.at_ (w.heap.size) (by simp <;> omega)).1 1 |>.trans (by simp [go_sem])) ((hW.at_ (w.heap.size + 1) (by simp <;> omega)).1 1 |>.trans (by simp [go_sem])) _ _ _ _ _ HD.out)).mono ?_
          rintro e w1 ⟨rfl, hb⟩
          obtain ⟨q1, q2⟩ := hb.at_ (w.heap.size + 2) (by simp <;> omega)
          have hz := hb.size
          (try simp at hz)
          have G := Lib.hid hb
          clear hb
          go_wp2_with fail
          exact bodyPost_ret (v := .tuple #[.agg #[.int .i64 r1, .int .i64 r2, .string r3, .bool r4], .string r5]) (by simp [results, Tryd.results32, go_sem, q1]) rfl ⟨rfl, (by repeat (first | exact Nw.refl _ | exact Nw.to (b := _) (by repeat (first | exact Nw.refl _ | assumption | apply Nw.alloc | apply Nw.drew | refine Nw.setCell ?_ (by simp <;> omega) _)) G.out | apply Nw.alloc | apply Nw.drew | refine Nw.setCell ?_ (by simp <;> omega) _))⟩
        · have H3 := Lib.hid (bne_iff_ne.2 z2)
          have H4 := Lib.hid (bne_iff_ne.2 e2)
          rw [liftF_mis _ _ _ _ (.inr ⟨z2, e2⟩)] at h
          clear z2 e2
          simp only [nulR, Prod.mk.injEq] at h
          obtain ⟨rfl, rfl, rfl, rfl, rfl⟩ := h
          go_enter Tryd.func32, Tryd.ntmps32
          go_wp2_with fail
          refine (lift_2b _ _ _ _ _ _ _ _ _ _ _ rfl rfl H3.out H4.out).mono ?_
          rintro e w1 ⟨rfl, hb⟩
          obtain ⟨q1, q2⟩ := hb.at_ (w.heap.size + 2) (by simp <;> omega)
          have hz := hb.size
          (try simp at hz)
          have G := Lib.hid hb
          clear hb
          go_wp2_with fail
          exact bodyPost_ret (v := .tuple #[.agg #[.int .i64 0, .int .i64 0, .string E, .bool false], .string sMis]) (by simp [results, Tryd.results32, go_sem, q1]) rfl ⟨rfl, (by repeat (first | exact Nw.refl _ | exact Nw.to (b := _) (by repeat (first | exact Nw.refl _ | assumption | apply Nw.alloc | apply Nw.drew | refine Nw.setCell ?_ (by simp <;> omega) _)) G.out | apply Nw.alloc | apply Nw.drew | refine Nw.setCell ?_ (by simp <;> omega) _))⟩
    · have H1 := Lib.hid (bne_iff_ne.2 z1)
      have H2 := Lib.hid (bne_iff_ne.2 e1)
      rw [liftF_mis _ _ _ _ (.inl ⟨z1, e1⟩)] at h
      clear z1 e1
      simp only [nulR, Prod.mk.injEq] at h
      obtain ⟨rfl, rfl, rfl, rfl, rfl⟩ := h
      go_enter Tryd.func32, Tryd.ntmps32
      go_wp2_with fail
      refine (lift_1 _ _ _ _ _ _ _ _ _ _ _ H1.out H2.out).mono ?_
      rintro e w1 ⟨rfl, hb⟩
      obtain ⟨q1, q2⟩ := hb.at_ (w.heap.size + 2) (by simp <;> omega)
      have hz := hb.size
      (try simp at hz)
      have G := Lib.hid hb
      clear hb
      go_wp2_with fail
      exact bodyPost_ret (v := .tuple #[.agg #[.int .i64 0, .int .i64 0, .string E, .bool false], .string sMis]) (by simp [results, Tryd.results32, go_sem, q1]) rfl ⟨rfl, (by repeat (first | exact Nw.refl _ | exact Nw.to (b := _) (by repeat (first | exact Nw.refl _ | assumption | apply Nw.alloc | apply Nw.drew | refine Nw.setCell ?_ (by simp <;> omega) _)) G.out | apply Nw.alloc | apply Nw.drew | refine Nw.setCell ?_ (by simp <;> omega) _))⟩
end Vl
end Go.Proofs.YtlmkhpgnkpgbdaaDoor
