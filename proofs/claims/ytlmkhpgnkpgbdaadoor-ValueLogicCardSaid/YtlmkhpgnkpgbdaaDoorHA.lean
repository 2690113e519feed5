/- SQL's values: what lifts: contracts over any two values, right or not. -/
import Derived.Test.YtlmkhpgnkpgbdaaDoorDiv
import Derived.Test.YtlmkhpgnkpgbdaaDoorMul
import Derived.Test.YtlmkhpgnkpgbdaaDoorP
namespace Go.Proofs.YtlmkhpgnkpgbdaaDoor
open Go.RowKit
set_option linter.unusedVariables false
set_option linter.unusedSimpArgs false
namespace Vl
abbrev R5 := Int × Int × ByteArray × Bool × ByteArray
abbrev nulR (s : ByteArray) : R5 := (0, 0, E, false, s)
/-- what an operation on values of kind k comes to, r: on what is in them -/
def liftF (k k1 k2 : Int) (r : R5) : R5 := if (k1 ≠ 0 ∧ k1 ≠ k) ∨ (k2 ≠ 0 ∧ k2 ≠ k) then nulR sMis else if k1 = 0 ∨ k2 = 0 then nulR sDone else r
def inF (ok : Bool) (n : Int) : R5 := if ok = true then (1, n, E, false, sDone) else nulR sRange
def addF (a b : Int) : R5 := inF (decide (a < wrap64 (a + b)) == decide (0 < b)) (wrap64 (a + b))
def subF (a b : Int) : R5 := inF (decide (wrap64 (a - b) < a) == decide (0 < b)) (wrap64 (a - b))
def mulF (a b : Int) : R5 := inF (mulOk a b) (wrap64 (a * b))
def divF (a b : Int) : R5 := if b = 0 then nulR sZero else inF ((a != -9223372036854775808) || (b != -1)) (wrap64 (a.tdiv b))
def conF (a b : ByteArray) : R5 := if (400 : Int) < (a.size : Int) + b.size then nulR sLong else (2, 0, a ++ b, false, sDone)
def Fit (a : Int) : Prop := -9223372036854775808 ≤ a ∧ a ≤ 9223372036854775807
theorem liftF_mis (k k1 k2 : Int) (r : R5) (h : (k1 ≠ 0 ∧ k1 ≠ k) ∨ (k2 ≠ 0 ∧ k2 ≠ k)) : liftF k k1 k2 r = nulR sMis := if_pos h
theorem liftF_nul (k k1 k2 : Int) (r : R5) (h : ¬ ((k1 ≠ 0 ∧ k1 ≠ k) ∨ (k2 ≠ 0 ∧ k2 ≠ k))) (h2 : k1 = 0 ∨ k2 = 0) : liftF k k1 k2 r = nulR sDone := by unfold liftF; rw [if_neg h, if_pos h2]
theorem liftF_do (k : Int) (hk : k ≠ 0) (r : R5) : liftF k k k r = r := by unfold liftF; rw [if_neg (by simp), if_neg (by simp [hk])]
theorem inF_t (n : Int) : inF true n = (1, n, E, false, sDone) := rfl
theorem inF_f (n : Int) : inF false n = nulR sRange := rfl
theorem add_do (p q : Nat) (a b : Int) (w : World) (c1 : w.cell? ⟨p, 1, none⟩ = some (.int .i64 a)) (c2 : w.cell? ⟨q, 1, none⟩ = some (.int .i64 b)) (r1 r2 : Int) (r3 : ByteArray) (r4 : Bool) (r5 : ByteArray) (h : addF a b = (r1, r2, r3, r4, r5)) : Calls Tryd.prog 58 #[.pointer (some ⟨p, 0, none⟩), .pointer (some ⟨q, 0, none⟩)] w fun e w' => e = .returned (.tuple #[.agg #[.int .i64 r1, .int .i64 r2, .string r3, .bool r4], .string r5]) ∧ Nw w w' := by
  unfold addF at h
  cases hk : (decide (a < wrap64 (a + b)) == decide (0 < b)) <;> rw [hk] at h <;> simp only [inF_t, inF_f, nulR, Prod.mk.injEq] at h <;> obtain ⟨rfl, rfl, rfl, rfl, rfl⟩ := h
  · exact add_f p q a b w c1 c2 hk
  · exact add_t p q a b w c1 c2 hk
theorem sub_do (p q : Nat) (a b : Int) (w : World) (c1 : w.cell? ⟨p, 1, none⟩ = some (.int .i64 a)) (c2 : w.cell? ⟨q, 1, none⟩ = some (.int .i64 b)) (r1 r2 : Int) (r3 : ByteArray) (r4 : Bool) (r5 : ByteArray) (h : subF a b = (r1, r2, r3, r4, r5)) : Calls Tryd.prog 60 #[.pointer (some ⟨p, 0, none⟩), .pointer (some ⟨q, 0, none⟩)] w fun e w' => e = .returned (.tuple #[.agg #[.int .i64 r1, .int .i64 r2, .string r3, .bool r4], .string r5]) ∧ Nw w w' := by
  unfold subF at h
  cases hk : (decide (wrap64 (a - b) < a) == decide (0 < b)) <;> rw [hk] at h <;> simp only [inF_t, inF_f, nulR, Prod.mk.injEq] at h <;> obtain ⟨rfl, rfl, rfl, rfl, rfl⟩ := h
  · exact sub_f p q a b w c1 c2 hk
  · exact sub_t p q a b w c1 c2 hk
theorem div_do (p q : Nat) (b a : Int) (w : World) (c1 : w.cell? ⟨p, 1, none⟩ = some (.int .i64 b)) (c2 : w.cell? ⟨q, 1, none⟩ = some (.int .i64 a)) (r1 r2 : Int) (r3 : ByteArray) (r4 : Bool) (r5 : ByteArray) (h : divF a b = (r1, r2, r3, r4, r5)) : Calls Tryd.prog 61 #[.pointer (some ⟨p, 0, none⟩), .pointer (some ⟨q, 0, none⟩)] w fun e w' => e = .returned (.tuple #[.agg #[.int .i64 r1, .int .i64 r2, .string r3, .bool r4], .string r5]) ∧ Nw w w' := by
  unfold divF at h
  by_cases e0 : b = 0
  · rw [if_pos e0] at h
    simp only [nulR, Prod.mk.injEq] at h
    obtain ⟨rfl, rfl, rfl, rfl, rfl⟩ := h
    rw [e0] at c1
    exact div_0 p q w c1
  · rw [if_neg e0] at h
    have e1 : (b == 0) = false := beq_eq_false_iff_ne.2 e0
    cases h1 : (a != -9223372036854775808)
    · cases h2 : (b != -1) <;> rw [h1, h2] at h <;> simp only [Bool.or_self, Bool.false_or, Bool.or_true, inF_t, inF_f, nulR, Prod.mk.injEq] at h <;> obtain ⟨rfl, rfl, rfl, rfl, rfl⟩ := h
      · exact div_3 p q a b w c1 c2 e1 e0 h1 h2
      · exact div_2 p q a b w c1 c2 e1 e0 h1 h2
    · rw [h1] at h
      simp only [Bool.true_or, inF_t, nulR, Prod.mk.injEq] at h
      obtain ⟨rfl, rfl, rfl, rfl, rfl⟩ := h
      exact div_1 p q a b w c1 c2 e1 e0 h1
theorem con_do (p q : Nat) (a b : ByteArray) (w : World) (c1 : w.cell? ⟨p, 2, none⟩ = some (.string a)) (c2 : w.cell? ⟨q, 2, none⟩ = some (.string b)) (ha : a.size ≤ 140737488351232) (hb : b.size ≤ 140737488351232) (r1 r2 : Int) (r3 : ByteArray) (r4 : Bool) (r5 : ByteArray) (h : conF a b = (r1, r2, r3, r4, r5)) : Calls Tryd.prog 54 #[.pointer (some ⟨p, 0, none⟩), .pointer (some ⟨q, 0, none⟩)] w fun e w' => e = .returned (.tuple #[.agg #[.int .i64 r1, .int .i64 r2, .string r3, .bool r4], .string r5]) ∧ Nw w w' := by
  unfold conF at h
  by_cases hk : (400 : Int) < (a.size : Int) + b.size
  · rw [if_pos hk] at h
    simp only [nulR, Prod.mk.injEq] at h
    obtain ⟨rfl, rfl, rfl, rfl, rfl⟩ := h
    exact con_f p q a b w c1 c2 ha hb hk
  · rw [if_neg hk] at h
    simp only [nulR, Prod.mk.injEq] at h
    obtain ⟨rfl, rfl, rfl, rfl, rfl⟩ := h
    exact con_t p q a b w c1 c2 ha hb hk
theorem mul_do (p q : Nat) (a b : Int) (w : World) (c1 : w.cell? ⟨p, 1, none⟩ = some (.int .i64 a)) (c2 : w.cell? ⟨q, 1, none⟩ = some (.int .i64 b)) (ha : Fit a) (hb : Fit b) (r1 r2 : Int) (r3 : ByteArray) (r4 : Bool) (r5 : ByteArray) (h : mulF a b = (r1, r2, r3, r4, r5)) : Calls Tryd.prog 62 #[.pointer (some ⟨p, 0, none⟩), .pointer (some ⟨q, 0, none⟩)] w fun e w' => e = .returned (.tuple #[.agg #[.int .i64 r1, .int .i64 r2, .string r3, .bool r4], .string r5]) ∧ Nw w w' := by
  unfold mulF at h
  have hz : szQ a b ((a.natAbs * b.natAbs / 18446744073709551616 : Nat) : Int) ((a.natAbs * b.natAbs % 18446744073709551616 : Nat) : Int) := fun w => Tryd.bits_Mul64 _ _ (by unfold Fit at ha; omega) (by unfold Fit at hb; omega) w
  generalize hhi : ((a.natAbs * b.natAbs / 18446744073709551616 : Nat) : Int) = hi at hz
  generalize hlo : ((a.natAbs * b.natAbs % 18446744073709551616 : Nat) : Int) = lo at hz
  cases hs : (decide (a < 0) == decide (b < 0))
  · rw [mulOk_of a b hi lo 9223372036854775808 true hhi hlo (by rw [hs]; rfl) rfl] at h
    by_cases h1 : hi = 0
    · by_cases h2 : lo ≤ 9223372036854775808
      · rw [decide_eq_true h1, decide_eq_true h2] at h
        simp only [Bool.and_self, inF_t, nulR, Prod.mk.injEq] at h
        obtain ⟨rfl, rfl, rfl, rfl, rfl⟩ := h
        exact mul_0 p q a b hi lo w c1 c2 ha.1 ha.2 hb.1 hb.2 hz hs (beq_iff_eq.2 h1) (decide_eq_true h2)
      · rw [decide_eq_true h1, decide_eq_false h2] at h
        simp only [Bool.and_false, inF_f, nulR, Prod.mk.injEq] at h
        obtain ⟨rfl, rfl, rfl, rfl, rfl⟩ := h
        exact mul_1 p q a b hi lo w c1 c2 ha.1 ha.2 hb.1 hb.2 hz hs (beq_iff_eq.2 h1) (decide_eq_false h2)
    · rw [decide_eq_false h1] at h
      simp only [Bool.false_and, inF_f, nulR, Prod.mk.injEq] at h
      obtain ⟨rfl, rfl, rfl, rfl, rfl⟩ := h
      exact mul_2 p q a b hi lo w c1 c2 ha.1 ha.2 hb.1 hb.2 hz hs (beq_eq_false_iff_ne.2 h1)
  · rw [mulOk_of a b hi lo 9223372036854775807 false hhi hlo (by rw [hs]; rfl) rfl] at h
    by_cases h1 : hi = 0
    · by_cases h2 : lo ≤ 9223372036854775807
      · rw [decide_eq_true h1, decide_eq_true h2] at h
        simp only [Bool.and_self, inF_t, nulR, Prod.mk.injEq] at h
        obtain ⟨rfl, rfl, rfl, rfl, rfl⟩ := h
        exact mul_3 p q a b hi lo w c1 c2 ha.1 ha.2 hb.1 hb.2 hz hs (beq_iff_eq.2 h1) (decide_eq_true h2)
      · rw [decide_eq_true h1, decide_eq_false h2] at h
        simp only [Bool.and_false, inF_f, nulR, Prod.mk.injEq] at h
        obtain ⟨rfl, rfl, rfl, rfl, rfl⟩ := h
        exact mul_4 p q a b hi lo w c1 c2 ha.1 ha.2 hb.1 hb.2 hz hs (beq_iff_eq.2 h1) (decide_eq_false h2)
    · rw [decide_eq_false h1] at h
      simp only [Bool.false_and, inF_f, nulR, Prod.mk.injEq] at h
      obtain ⟨rfl, rfl, rfl, rfl, rfl⟩ := h
      exact mul_5 p q a b hi lo w c1 c2 ha.1 ha.2 hb.1 hb.2 hz hs (beq_eq_false_iff_ne.2 h1)
end Vl
end Go.Proofs.YtlmkhpgnkpgbdaaDoor
