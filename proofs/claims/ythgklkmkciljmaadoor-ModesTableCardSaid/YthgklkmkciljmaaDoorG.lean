/- The modes of locks: objects, without the program: what lies within what. -/
import Derived.Test.YthgklkmkciljmaaDoorB
import Derived.Lib.Strings
namespace Go.Proofs.YthgklkmkciljmaaDoor
set_option linter.unusedVariables false
namespace Md
theorem lt_ok (x y : ByteArray) : (Op.bytesLess x.toList y.toList = true) ↔ x.toList < y.toList := by rw [bytesLess_eq]; simp
theorem lt_no (x y : ByteArray) : ((!Op.bytesLess x.toList y.toList) = true) ↔ y.toList ≤ x.toList := by rw [bytesLess_eq]; simp
theorem le_ok (x y : ByteArray) : ((Op.bytesLess x.toList y.toList || x.toList == y.toList) = true) ↔ x.toList ≤ y.toList := by
  rw [bytesLess_eq, List.le_iff_lt_or_eq]; simp
theorem toList_inj {x y : ByteArray} (h : x.toList = y.toList) : x = y := by
  rw [Lib.toList_data, Lib.toList_data] at h
  cases x; cases y; simp at h; subst h; rfl
theorem al_iff (s1 : Int) (t1 l1 u1 : ByteArray) (e1 : Bool) (s2 : Int) (t2 l2 u2 : ByteArray) (e2 : Bool) : al s1 t1 l1 u1 e1 s2 t2 l2 u2 e2 = true ↔ pl s1 t1 l1 u1 e1 = true ∧ pl s2 t2 l2 u2 e2 = true ∧ s1 = s2 ∧ t1.toList = t2.toList := by simp [al, and_assoc]
theorem up_iff (k : ByteArray) (s : Int) (t l u : ByteArray) (e : Bool) : up k s t l u e = true ↔ s < 2 ∨ e = true ∨ k.toList ≤ u.toList := by
  unfold up; rw [Bool.or_eq_true, le_ok]; simp [or_assoc]
theorem with_iff (s1 : Int) (t1 l1 u1 : ByteArray) (e1 : Bool) (s2 : Int) (t2 l2 u2 : ByteArray) (e2 : Bool) : withB s1 t1 l1 u1 e1 s2 t2 l2 u2 e2 = true ↔ (pl s1 t1 l1 u1 e1 = true ∧ pl s2 t2 l2 u2 e2 = true ∧ s1 = s2 ∧ t1.toList = t2.toList) ∧ l2.toList ≤ l1.toList ∧ (e2 = true ∨ (e1 = false ∧ (s2 < 2 ∨ e2 = true ∨ u1.toList ≤ u2.toList))) := by
  unfold withB; rw [Bool.and_eq_true, Bool.and_eq_true, lt_no, al_iff, Bool.or_eq_true, Bool.and_eq_true, up_iff]; simp [and_assoc]
theorem meet_iff (s1 : Int) (t1 l1 u1 : ByteArray) (e1 : Bool) (s2 : Int) (t2 l2 u2 : ByteArray) (e2 : Bool) : meetB s1 t1 l1 u1 e1 s2 t2 l2 u2 e2 = true ↔ (pl s1 t1 l1 u1 e1 = true ∧ pl s2 t2 l2 u2 e2 = true ∧ s1 = s2 ∧ t1.toList = t2.toList) ∧ (s2 < 2 ∨ e2 = true ∨ l1.toList ≤ u2.toList) ∧ (s1 < 2 ∨ e1 = true ∨ l2.toList ≤ u1.toList) := by
  unfold meetB; rw [Bool.and_eq_true, Bool.and_eq_true, al_iff, up_iff, up_iff]; simp [and_assoc]
theorem pl_end (s : Int) (t l u : ByteArray) (e : Bool) (h : pl s t l u e = true) (he : e = true) : u.toList = [] := by
  subst he
  have five : s < 0 ∨ s = 0 ∨ s = 1 ∨ (2 ≤ s ∧ s ≤ 7) ∨ 7 < s := by omega
  rcases five with h0 | h0 | h0 | ⟨h0, h1⟩ | h0
  · rw [pl_neg _ _ _ _ _ h0] at h; cases h
  · subst h0; rw [pl_0] at h; simp at h
  · subst h0; rw [pl_1] at h; simp at h
  · rw [pl_mid _ _ _ _ _ h0 h1] at h; simp at h; exact h.2
  · rw [pl_big _ _ _ _ _ h0] at h; cases h
theorem pl_low (s : Int) (t l u : ByteArray) (e : Bool) (h : pl s t l u e = true) (hs : s < 2) : l.toList = [] ∧ u.toList = [] ∧ e = false := by
  have five : s < 0 ∨ s = 0 ∨ s = 1 := by omega
  rcases five with h0 | h0 | h0
  · rw [pl_neg _ _ _ _ _ h0] at h; cases h
  · subst h0; rw [pl_0] at h; simp at h; exact ⟨h.1.1.2, h.1.2, h.2⟩
  · subst h0; rw [pl_1] at h; simp at h; exact ⟨h.1.1.2, h.1.2, h.2⟩
theorem with_trans (s1 : Int) (t1 l1 u1 : ByteArray) (e1 : Bool) (s2 : Int) (t2 l2 u2 : ByteArray) (e2 : Bool) (s3 : Int) (t3 l3 u3 : ByteArray) (e3 : Bool) (h : withB s1 t1 l1 u1 e1 s2 t2 l2 u2 e2 = true) (k : withB s2 t2 l2 u2 e2 s3 t3 l3 u3 e3 = true) : withB s1 t1 l1 u1 e1 s3 t3 l3 u3 e3 = true := by
  rw [with_iff] at *
  obtain ⟨⟨a1, a2, a3, a4⟩, a5, a6⟩ := h
  obtain ⟨⟨b1, b2, b3, b4⟩, b5, b6⟩ := k
  refine ⟨⟨a1, b2, a3.trans b3, a4.trans b4⟩, List.le_trans b5 a5, ?_⟩
  rcases b6 with b6 | ⟨b6, b7⟩
  · exact .inl b6
  · rcases a6 with a6 | ⟨a6, a7⟩
    · rw [a6] at b6; cases b6
    · refine .inr ⟨a6, ?_⟩
      rcases b7 with b7 | b7 | b7
      · exact .inl b7
      · exact .inr (.inl b7)
      · rcases a7 with a7 | a7 | a7
        · exact .inl (by omega)
        · rw [a7] at b6; cases b6
        · exact .inr (.inr (List.le_trans a7 b7))
theorem with_meet (s1 : Int) (t1 l1 u1 : ByteArray) (e1 : Bool) (s2 : Int) (t2 l2 u2 : ByteArray) (e2 : Bool) (s3 : Int) (t3 l3 u3 : ByteArray) (e3 : Bool) (h : withB s1 t1 l1 u1 e1 s2 t2 l2 u2 e2 = true) (k : meetB s1 t1 l1 u1 e1 s3 t3 l3 u3 e3 = true) : meetB s2 t2 l2 u2 e2 s3 t3 l3 u3 e3 = true := by
  rw [with_iff] at h; rw [meet_iff] at *
  obtain ⟨⟨a1, a2, a3, a4⟩, a5, a6⟩ := h
  obtain ⟨⟨b1, b2, b3, b4⟩, b5, b6⟩ := k
  refine ⟨⟨a2, b2, a3.symm.trans b3, a4.symm.trans b4⟩, ?_, ?_⟩
  · rcases b5 with b5 | b5 | b5
    · exact .inl b5
    · exact .inr (.inl b5)
    · exact .inr (.inr (List.le_trans a5 b5))
  · rcases a6 with a6 | ⟨a6, a7⟩
    · exact .inr (.inl a6)
    · rcases b6 with b6 | b6 | b6
      · exact .inl (by omega)
      · rw [b6] at a6; cases a6
      · rcases a7 with a7 | a7 | a7
        · exact .inl a7
        · exact .inr (.inl a7)
        · exact .inr (.inr (List.le_trans b6 a7))
theorem with_anti (s1 : Int) (t1 l1 u1 : ByteArray) (e1 : Bool) (s2 : Int) (t2 l2 u2 : ByteArray) (e2 : Bool) (h : withB s1 t1 l1 u1 e1 s2 t2 l2 u2 e2 = true) (k : withB s2 t2 l2 u2 e2 s1 t1 l1 u1 e1 = true) : s1 = s2 ∧ t1 = t2 ∧ l1 = l2 ∧ u1 = u2 ∧ e1 = e2 := by
  rw [with_iff] at *
  obtain ⟨⟨a1, a2, a3, a4⟩, a5, a6⟩ := h
  obtain ⟨⟨b1, b2, b3, b4⟩, b5, b6⟩ := k
  have he : e1 = e2 := by
    cases e1 <;> cases e2 <;> first | rfl | (exfalso; rcases a6 with a6 | ⟨a6, _⟩ <;> rcases b6 with b6 | ⟨b6, _⟩ <;> first | exact absurd a6 (by decide) | exact absurd b6 (by decide))
  refine ⟨a3, toList_inj a4, toList_inj (List.le_antisymm b5 a5), toList_inj ?_, he⟩
  cases e1 with
  | true => rw [pl_end _ _ _ _ _ a1 rfl, pl_end _ _ _ _ _ a2 he.symm]
  | false =>
    subst he
    by_cases hs : s1 < 2
    · rw [(pl_low _ _ _ _ _ a1 hs).2.1, (pl_low _ _ _ _ _ a2 (by omega)).2.1]
    · rcases a6 with a6 | ⟨-, a7 | a7 | a7⟩
      · cases a6
      · omega
      · cases a7
      · rcases b6 with b6 | ⟨-, b7 | b7 | b7⟩
        · cases b6
        · omega
        · cases b7
        · exact List.le_antisymm a7 b7
theorem meet_comm (s1 : Int) (t1 l1 u1 : ByteArray) (e1 : Bool) (s2 : Int) (t2 l2 u2 : ByteArray) (e2 : Bool) : meetB s1 t1 l1 u1 e1 s2 t2 l2 u2 e2 = meetB s2 t2 l2 u2 e2 s1 t1 l1 u1 e1 := by
  rw [Bool.eq_iff_iff, meet_iff, meet_iff]
  constructor <;> (rintro ⟨⟨a, b, c, d⟩, e, f⟩; exact ⟨⟨b, a, c.symm, d.symm⟩, f, e⟩)
theorem with_self (s : Int) (t l u : ByteArray) (e : Bool) (h : pl s t l u e = true) : withB s t l u e s t l u e = true := by
  rw [with_iff]
  refine ⟨⟨h, h, rfl, rfl⟩, List.le_refl _, ?_⟩
  cases e
  · exact .inr ⟨rfl, .inr (.inr (List.le_refl _))⟩
  · exact .inl rfl
theorem pl_le (s : Int) (t l u : ByteArray) (e : Bool) (h : pl s t l u e = true) : s < 2 ∨ e = true ∨ l.toList ≤ u.toList := by
  by_cases hs : s < 2
  · exact .inl hs
  · cases e
    · have h1 : s ≤ 7 := by
        by_cases h7 : 7 < s
        · rw [pl_big _ _ _ _ _ h7] at h; cases h
        · omega
      rw [pl_mid _ _ _ _ _ (by omega) h1] at h
      rw [Bool.and_eq_true] at h
      exact .inr (.inr ((le_ok _ _).1 (by simpa using h.2)))
    · exact .inr (.inl rfl)
theorem meet_self (s : Int) (t l u : ByteArray) (e : Bool) (h : pl s t l u e = true) : meetB s t l u e s t l u e = true := by
  rw [meet_iff]; exact ⟨⟨h, h, rfl, rfl⟩, pl_le _ _ _ _ _ h, pl_le _ _ _ _ _ h⟩
theorem pl_key (t k : ByteArray) (ht : t.toList.isEmpty = false) : pl 2 t k k false = true := by
  rw [pl_mid _ _ _ _ _ (by omega) (by omega), ht]; simp
/-- a key lies in a range just if it meets it -/
theorem key_meets (t k t2 l2 u2 : ByteArray) (e2 : Bool) (s2 : Int) : withB 2 t k k false s2 t2 l2 u2 e2 = meetB 2 t k k false s2 t2 l2 u2 e2 := by
  rw [Bool.eq_iff_iff, with_iff, meet_iff]
  constructor
  · rintro ⟨⟨a, b, c, d⟩, x, y⟩
    refine ⟨⟨a, b, c, d⟩, ?_, .inr (.inr x)⟩
    rcases y with y | ⟨_, y⟩
    · exact .inr (.inl y)
    · exact y
  · rintro ⟨⟨a, b, c, d⟩, x, y⟩
    refine ⟨⟨a, b, c, d⟩, ?_, ?_⟩
    · rcases y with y | y | y
      · omega
      · cases y
      · exact y
    · exact .inr ⟨rfl, x⟩
theorem in_both (t k : ByteArray) (s1 : Int) (t1 l1 u1 : ByteArray) (e1 : Bool) (s2 : Int) (t2 l2 u2 : ByteArray) (e2 : Bool) (h : withB 2 t k k false s1 t1 l1 u1 e1 = true) (h2 : withB 2 t k k false s2 t2 l2 u2 e2 = true) : meetB s1 t1 l1 u1 e1 s2 t2 l2 u2 e2 = true := by
  rw [key_meets] at h2
  exact with_meet _ _ _ _ _ _ _ _ _ _ _ _ _ _ _ h h2
end Md
end Go.Proofs.YthgklkmkciljmaaDoor
