/- Rows have the bytes that the document says, and bytes are the row that it says; it is proved for every input. -/
import Derived.Test.YthcoiomnlcagcaaXRowCodesSaid2
import Derived.Test.YthcoiomnlcagcaaXRowCodesSaid1
import Derived.Deep.Slices
import Derived.Deep.Fields
import Derived.ChangeSame
import Derived.SizedLaws
import Derived.WideShapes
import Derived.OpenShut
import Derived.Test.YthcoiomnlcagcaaWSized
import Derived.ChangeSlices
import Derived.Test.YthcoiomnlcagcaaRows
import Derived.WalkKit
import Derived.ProofKit
import Derived.ShutString
import Derived.ChangeOld
import Derived.Below
namespace Go.Proofs.Ythcoiomnlcagcaa
open Go.RowKit Go.Proofs.YthcoiomnlcagcaaW.PrintWords Go.Proofs.YthcoiomnlcagcaaW.PrintLast Go.Proofs.YthcoiomnlcagcaaW.PrintMore Go.Proofs.Ythcoiomnlcagcaa.PRQ
set_option linter.unusedVariables false
set_option linter.unusedSimpArgs false
namespace Rl
def right (x : S40) : Bool := Rw.rightF x.f0 x.f1 x.f2 x.f3
theorem right_ref (x : S40) : stileref01_Right.f x.f0 x.f1 x.f2 x.f3 = some (right x) := by
  unfold stileref01_Right.f right Rw.rightF
  by_cases h0 : x.f0 = 0
  · simp [h0]
  by_cases h1 : x.f0 = 1
  · simp [h1]
  by_cases h2 : x.f0 = 2
  · simp [h2]
  by_cases h3 : x.f0 = 3
  · simp [h3]
  simp [h0, h1, h2, h3]
theorem toList_nil (s : ByteArray) : s.toList = [] ↔ s = ⟨#[]⟩ := by
  have h := list_eq_iff s ⟨#[]⟩
  have e : (⟨#[]⟩ : ByteArray).toList = [] := by decide +kernel
  rw [e, beq_iff_eq] at h
  exact h
theorem right_iff (x : S40) : right x = true ↔ Ok x := by
  unfold right Rw.rightF Ok
  by_cases h0 : x.f0 = 0
  · rw [if_pos h0]
    simp only [Bool.and_eq_true, beq_iff_eq, toList_nil, Bool.not_eq_true']
    constructor
    · rintro ⟨a, b, c⟩; exact .inl ⟨h0, a, b, c⟩
    · rintro (⟨_, a, b, c⟩ | ⟨q, _⟩ | ⟨q, _⟩ | ⟨q, _⟩)
      · exact ⟨a, b, c⟩
      all_goals omega
  rw [if_neg h0]
  by_cases h1 : x.f0 = 1
  · rw [if_pos h1]
    simp only [Bool.and_eq_true, beq_iff_eq, toList_nil, Bool.not_eq_true']
    constructor
    · rintro ⟨a, b⟩; exact .inr (.inl ⟨h1, a, b⟩)
    · rintro (⟨q, _⟩ | ⟨_, a, b⟩ | ⟨q, _⟩ | ⟨q, _⟩)
      · omega
      · exact ⟨a, b⟩
      all_goals omega
  rw [if_neg h1]
  by_cases h2 : x.f0 = 2
  · rw [if_pos h2]
    simp only [Bool.and_eq_true, beq_iff_eq, Bool.not_eq_true']
    constructor
    · rintro ⟨a, b⟩; exact .inr (.inr (.inl ⟨h2, a, b⟩))
    · rintro (⟨q, _⟩ | ⟨q, _⟩ | ⟨_, a, b⟩ | ⟨q, _⟩)
      · omega
      · omega
      · exact ⟨a, b⟩
      · omega
  rw [if_neg h2]
  by_cases h3 : x.f0 = 3
  · rw [if_pos h3]
    simp only [Bool.and_eq_true, beq_iff_eq, toList_nil]
    constructor
    · rintro ⟨a, b⟩; exact .inr (.inr (.inr ⟨h3, a, b⟩))
    · rintro (⟨q, _⟩ | ⟨q, _⟩ | ⟨q, _⟩ | ⟨_, a, b⟩)
      · omega
      · omega
      · omega
      · exact ⟨a, b⟩
  rw [if_neg h3]
  constructor
  · intro h; cases h
  · rintro (⟨q, _⟩ | ⟨q, _⟩ | ⟨q, _⟩ | ⟨q, _⟩)
    · exact absurd q h0
    · exact absurd q h1
    · exact absurd q h2
    · exact absurd q h3
theorem all_ok {l : List S40} (h : l.all right = true) : ∀ x ∈ l, Ok x := fun x hx => (right_iff x).1 (List.all_eq_true.1 h x hx)
theorem ok_all {l : List S40} (h : ∀ x ∈ l, Ok x) : l.all right = true := List.all_eq_true.2 fun x hx => (right_iff x).2 (h x hx)
/-- what writing a row tells -/
def encRes (l : List S40) : List Int × Int := if long l then ([], 42) else if l.all right then (bytesR l, 0) else ([], 41)
theorem w1' (i : Nat) (h : i < 9223372036854775807) : wrap64 ((i : Int) + 1) = ((i + 1 : Nat) : Int) := by rw [w64 _ (by omega) (by omega)]; simp
theorem drop_all (l : List S40) (i : Nat) (h : i < l.length) : (l.drop i).all right = (right l[i] && (l.drop (i + 1)).all right) := by
  rw [List.drop_eq_getElem_cons h, List.all_cons]
theorem p_check (l : List S40) (hlen : l.length ≤ 9223372036854775807) (b' g' : Bool) (r : List Int × Int) (h1 : b' = true → r = ([], 42)) (h2 : b' = false → g' = false → r = ([], 41)) (h3 : b' = false → g' = true → ∃ k, rowcode_Encode.l1 k [((l.length : Int)) % 256] l (l.length : Int) 0 = some r) :
    ∀ (m i : Nat) (b g : Bool), i + m = l.length → (b || (l.drop i).any big) = b' → (g && (l.drop i).all right) = g' → ∃ k, rowcode_Encode.l0 k l b g l (l.length : Int) (i : Int) = some r := by
  intro m
  induction m with
  | zero =>
    intro i b g hi hb hg
    rw [List.drop_of_length_le (by omega)] at hb hg
    simp only [List.any_nil, Bool.or_false, List.all_nil, Bool.and_true] at hb hg
    subst hb hg
    cases b with
    | true =>
      refine ⟨1, ?_⟩
      unfold rowcode_Encode.l0
      (try dsimp only)
      rw [if_neg (by omega), if_pos rfl, h1 rfl]
    | false =>
      cases g with
      | true =>
        obtain ⟨k, hk⟩ := h3 rfl rfl
        refine ⟨k + 1, ?_⟩
        unfold rowcode_Encode.l0
        (try dsimp only)
        rw [if_neg (by omega), if_neg (by simp), if_pos rfl]
        exact hk
      | false =>
        refine ⟨1, ?_⟩
        unfold rowcode_Encode.l0
        (try dsimp only)
        rw [if_neg (by omega), if_neg (by simp), if_neg (by simp), h2 rfl rfl]
  | succ m ih =>
    intro i b g hi hb hg
    have hil : i < l.length := by omega
    rw [drop_any l i hil] at hb
    rw [drop_all l i hil] at hg
    have step : ∀ c : Bool, (c || (l.drop (i + 1)).any big) = b' → ∃ k, rowcode_Encode.j1 k l c g l (l.length : Int) (i : Int) l[i].f0 l[i].f1 l[i].f2 l[i].f3 = some r := by
      intro c hc
      cases g with
      | true =>
        obtain ⟨k, hk⟩ := ih (i + 1) c (right l[i]) (by omega) hc (by simpa using hg)
        refine ⟨k + 1, ?_⟩
        unfold rowcode_Encode.j1
        (try dsimp only)
        rw [if_pos rfl]
        unfold value_Right.f
        rw [Option.bind_some, w1' i (by omega)]
        exact hk
      | false =>
        obtain ⟨k, hk⟩ := ih (i + 1) c false (by omega) hc (by simpa using hg)
        refine ⟨k + 1, ?_⟩
        unfold rowcode_Encode.j1
        (try dsimp only)
        rw [if_neg (by simp), w1' i (by omega)]
        exact hk
    cases b with
    | true =>
      obtain ⟨k, hk⟩ := step true (by simpa using hb)
      refine ⟨k + 1, ?_⟩
      unfold rowcode_Encode.l0
      (try dsimp only)
      rw [if_pos (by omega), if_pos (by omega), if_pos (by omega), if_pos rfl, rd40 l i hil]
      exact hk
    | false =>
      by_cases h : l[i].f0 = 2
      · obtain ⟨k, hk⟩ := step (decide ((l[i].f2.size : Int) > 400)) (by simpa [big, h] using hb)
        refine ⟨k + 1, ?_⟩
        unfold rowcode_Encode.l0
        (try dsimp only)
        rw [if_pos (by omega), if_pos (by omega), if_pos (by omega), if_neg (by simp), rd40 l i hil, if_pos h]
        exact hk
      · obtain ⟨k, hk⟩ := step false (by simpa [big, h] using hb)
        refine ⟨k + 1, ?_⟩
        unfold rowcode_Encode.l0
        (try dsimp only)
        rw [if_pos (by omega), if_pos (by omega), if_pos (by omega), if_neg (by simp), rd40 l i hil, if_neg h]
        exact hk
theorem long_f {l : List S40} (h : long l = false) : l.any big = false ∧ l.length ≤ 12 := by
  simp only [long, Bool.or_eq_false_iff, decide_eq_false_iff_not] at h
  exact ⟨h.2, by omega⟩
theorem encP (l : List S40) (hlen : l.length ≤ 9223372036854775807) : ∃ k, rowcode_Encode.f k l = some (encRes l) := by
  unfold rowcode_Encode.f
  refine p_check l hlen (long l) (l.all right) _ (fun h => by simp [encRes, h]) (fun h h' => by simp only [encRes, h, h']; rfl) (fun h h' => ?_) l.length 0 _ true (by omega) (by simp [long]) (by simp)
  obtain ⟨hb, h12⟩ := long_f h
  obtain ⟨k, hk⟩ := enc_write l (all_ok h') (by omega) hb l.length 0 [((l.length : Int)) % 256] (by omega) (by simp)
  refine ⟨k, hk.trans ?_⟩
  simp only [encRes, h, h']
  rfl
theorem r_eight (l : List S40) (i : Nat) (r : List Int × Int) : ∀ (m j : Nat) (acc : List Int) (u : Int), j + m = 8 → 0 ≤ u → u < 18446744073709551616 → acc.length + m < 140737488355328 →
    (∃ k, stileref04_Encode.l1 k l (acc ++ Rw.leL u m) (wrap64 ((i : Int) + 1)) = some r) → ∃ k, stileref04_Encode.l2 k l acc (i : Int) u (j : Int) = some r := by
  intro m
  induction m with
  | zero =>
    intro j acc u hj h0 h1 hl ⟨k, hk⟩
    refine ⟨k + 1, ?_⟩
    unfold stileref04_Encode.l2
    (try dsimp only)
    rw [if_neg (by omega)]
    rw [leL_zero, List.append_nil] at hk
    exact hk
  | succ m ih =>
    intro j acc u hj h0 h1 hl ⟨k, hk⟩
    rw [leL_succ] at hk
    have hu : IntKind.u64.wrap (Int.tdiv u 256) = u / 256 := by
      rw [Int.tdiv_eq_ediv_of_nonneg h0]
      obtain ⟨n, hn⟩ : ∃ n : Nat, u / 256 = n := ⟨(u / 256).toNat, by omega⟩
      rw [hn]
      exact wrap_u64 n (by omega)
    have hm : (Int.tmod u 256) % 256 = u % 256 := by rw [Int.tmod_eq_emod_of_nonneg h0]; omega
    obtain ⟨k2, hk2⟩ := ih (j + 1) (acc ++ [u % 256]) (u / 256) (by omega) (by omega) (by omega) (by simp; omega) ⟨k, by rw [List.append_assoc]; exact hk⟩
    refine ⟨k2 + 1, ?_⟩
    unfold stileref04_Encode.l2
    (try dsimp only)
    rw [if_pos (by omega), if_pos (by omega), hu, hm, w1' j (by omega)]
    exact hk2
theorem r_write (l : List S40) (hok : ∀ x ∈ l, Ok x) (hlen : l.length ≤ 40) (hb : l.any big = false) :
    ∀ (m i : Nat) (acc : List Int), i + m = l.length → acc.length ≤ 1 + i * 403 → ∃ k, stileref04_Encode.l1 k l acc (i : Int) = some (acc ++ (l.drop i).flatMap bytesV, 0) := by
  intro m
  induction m with
  | zero =>
    intro i acc hi ha
    refine ⟨1, ?_⟩
    unfold stileref04_Encode.l1
    (try dsimp only)
    rw [if_neg (by omega), List.drop_of_length_le (by omega)]
    simp
  | succ m ih =>
    intro i acc hi ha
    have hil : i < l.length := by omega
    have hv : big l[i] = false := by
      cases hq : big l[i] with
      | false => rfl
      | true => rw [List.any_eq_true.2 ⟨_, List.getElem_mem hil, hq⟩] at hb; cases hb
    rw [List.drop_eq_getElem_cons hil, List.flatMap_cons]
    have step : ∀ bs : List Int, bs = bytesV l[i] → bs.length ≤ 403 → ∃ k, stileref04_Encode.l1 k l (acc ++ bs) (wrap64 ((i : Int) + 1)) = some (acc ++ (bytesV l[i] ++ (l.drop (i + 1)).flatMap bytesV), 0) := by
      intro bs hbs hbl
      obtain ⟨k, hk⟩ := ih (i + 1) (acc ++ bs) (by omega) (by rw [List.length_append]; omega)
      refine ⟨k, ?_⟩
      rw [w1' i (by omega), hk, hbs, List.append_assoc]
    have hal : acc.length < 140737488355328 := by omega
    rcases hok _ (List.getElem_mem hil) with ⟨e0, _⟩ | ⟨e0, _⟩ | ⟨e0, _⟩ | ⟨e0, _⟩
    · obtain ⟨k, hk⟩ := step [0] (by simp [bytesV, e0]) (by simp)
      refine ⟨k + 1, ?_⟩
      unfold stileref04_Encode.l1
      (try dsimp only)
      rw [if_pos (by omega), if_pos (by omega), rd40 l i hil, if_pos e0, if_pos (by omega)]
      exact hk
    · obtain ⟨k, hk⟩ := step ([1] ++ Rw.leL (IntKind.u64.wrap l[i].f1) 8) (by simp [bytesV, e0]) (by simp [leL_len])
      have hu := u64_lo l[i].f1
      rw [← List.append_assoc] at hk
      obtain ⟨k2, hk2⟩ := r_eight l i _ 8 0 (acc ++ [1]) (IntKind.u64.wrap l[i].f1) rfl hu.1 hu.2 (by simp; omega) ⟨k, hk⟩
      refine ⟨k2 + 1, ?_⟩
      unfold stileref04_Encode.l1
      (try dsimp only)
      rw [if_pos (by omega), if_pos (by omega), rd40 l i hil, if_neg (by omega), if_pos e0, if_pos (by omega)]
      exact hk2
    · have hs : l[i].f2.size ≤ 400 := by
        simp [big, e0] at hv
        omega
      have hw : IntKind.u64.wrap (l[i].f2.size : Int) = l[i].f2.size := wrap_u64 _ (by omega)
      have hl2 : ([2, (l[i].f2.size : Int) % 256, (wrap64 ((l[i].f2.size : Int) / 256)) % 256] : List Int) = [2] ++ Rw.leL (IntKind.u64.wrap (l[i].f2.size : Int)) 2 := by
        rw [hw, leL_succ, leL_succ, leL_zero, w64 _ (by omega) (by omega)]
        rfl
      obtain ⟨k, hk⟩ := step ([2] ++ Rw.leL (IntKind.u64.wrap (l[i].f2.size : Int)) 2 ++ bytesOf l[i].f2) (by simp [bytesV, e0]) (by simp [leL_len, bytesOf_len] <;> omega)
      refine ⟨k + 1, ?_⟩
      unfold stileref04_Encode.l1
      (try dsimp only)
      rw [if_pos (by omega), if_pos (by omega), rd40 l i hil, if_neg (by omega), if_neg (by omega), if_pos e0, hl2, Option.bind_some, if_pos (by simp [leL_len]; omega), Option.bind_some, if_pos (by simp [leL_len] <;> omega)]
      rw [← List.append_assoc] at hk
      exact hk
    · by_cases hf : l[i].f3 = true
      · obtain ⟨k, hk⟩ := step [4] (by simp [bytesV, e0, hf]) (by simp)
        refine ⟨k + 1, ?_⟩
        unfold stileref04_Encode.l1
        (try dsimp only)
        rw [if_pos (by omega), if_pos (by omega), rd40 l i hil, if_neg (by omega), if_neg (by omega), if_neg (by omega), if_pos e0, if_pos hf, if_pos (by omega)]
        exact hk
      · obtain ⟨k, hk⟩ := step [3] (by simp [bytesV, e0, hf]) (by simp)
        refine ⟨k + 1, ?_⟩
        unfold stileref04_Encode.l1
        (try dsimp only)
        rw [if_pos (by omega), if_pos (by omega), rd40 l i hil, if_neg (by omega), if_neg (by omega), if_neg (by omega), if_pos e0, if_neg hf, if_pos (by omega)]
        exact hk
theorem r_check (l : List S40) (hlen : l.length ≤ 9223372036854775807) (b' g' : Bool) (r : List Int × Int) (h1 : b' = true → r = ([], 42)) (h2 : b' = false → g' = false → r = ([], 41)) (h3 : b' = false → g' = true → ∃ k, stileref04_Encode.l1 k l [((l.length : Int)) % 256] 0 = some r) :
    ∀ (m i : Nat) (g : Bool), i + m = l.length → (l.drop i).any big = b' → (g && (l.drop i).all right) = g' → ∃ k, stileref04_Encode.l0 k l g (i : Int) = some r := by
  intro m
  induction m with
  | zero =>
    intro i g hi hb hg
    rw [List.drop_of_length_le (by omega)] at hb hg
    simp only [List.any_nil, List.all_nil, Bool.and_true] at hb hg
    subst hb hg
    cases g with
    | true =>
      obtain ⟨k, hk⟩ := h3 rfl rfl
      refine ⟨k + 1, ?_⟩
      unfold stileref04_Encode.l0
      (try dsimp only)
      rw [if_neg (by omega), if_pos rfl]
      exact hk
    | false =>
      refine ⟨1, ?_⟩
      unfold stileref04_Encode.l0
      (try dsimp only)
      rw [if_neg (by omega), if_neg (by simp), h2 rfl rfl]
  | succ m ih =>
    intro i g hi hb hg
    have hil : i < l.length := by omega
    rw [drop_any l i hil] at hb
    rw [drop_all l i hil, ← Bool.and_assoc] at hg
    have step : ∃ k, stileref04_Encode.j1 k l (g && right l[i]) (i : Int) = some r := by
      cases hq : big l[i] with
      | true =>
        rw [hq] at hb
        have hb2 : b' = true := by rw [← hb]; rfl
        refine ⟨2, ?_⟩
        unfold stileref04_Encode.j1
        (try dsimp only)
        simp only [big, Bool.and_eq_true, decide_eq_true_eq] at hq
        rw [if_pos (by omega), if_pos (by omega), rd40 l i hil, if_pos hq.1]
        unfold stileref04_Encode.j2
        (try dsimp only)
        rw [if_pos (decide_eq_true hq.2), h1 hb2]
      | false =>
        obtain ⟨k, hk⟩ := ih (i + 1) (g && right l[i]) (by omega) (by rw [← hb, hq]; rfl) hg
        refine ⟨k + 2, ?_⟩
        unfold stileref04_Encode.j1
        (try dsimp only)
        rw [if_pos (by omega), if_pos (by omega), rd40 l i hil]
        split
        · rename_i h2
          simp only [big, h2, decide_true, Bool.true_and, decide_eq_false_iff_not] at hq
          unfold stileref04_Encode.j2
          (try dsimp only)
          rw [if_neg (by simpa using hq), w1' i (by omega)]
          exact hk
        · unfold stileref04_Encode.j2
          (try dsimp only)
          rw [if_neg (by simp), w1' i (by omega)]
          exact hk
    obtain ⟨k, hk⟩ := step
    refine ⟨k + 1, ?_⟩
    unfold stileref04_Encode.l0
    (try dsimp only)
    rw [if_pos (by omega), if_pos (by omega), rd40 l i hil, right_ref, Option.bind_some]
    cases g with
    | true => rw [if_pos rfl]; simpa using hk
    | false => rw [if_neg (by simp)]; simpa using hk
theorem encR (l : List S40) (hlen : l.length ≤ 9223372036854775807) : ∃ k, stileref04_Encode.f k l = some (encRes l) := by
  unfold stileref04_Encode.f
  by_cases h12 : (l.length : Int) > 12
  · refine ⟨0, ?_⟩
    rw [if_pos h12]
    have hl : long l = true := by simp [long]; omega
    simp [encRes, hl]
  · simp only [if_neg h12]
    have hl : long l = l.any big := by simp [long]; omega
    refine r_check l hlen (long l) (l.all right) _ (fun h => by simp [encRes, h]) (fun h h' => by simp only [encRes, h, h']; rfl) (fun h h' => ?_) l.length 0 true (by omega) (by simp [hl]) (by simp)
    obtain ⟨hb, h12⟩ := long_f h
    obtain ⟨k, hk⟩ := r_write l (all_ok h') (by omega) hb l.length 0 [((l.length : Int)) % 256] (by omega) (by simp)
    refine ⟨k, hk.trans ?_⟩
    simp only [encRes, h, h']
    rfl
theorem encRes_byte (l : List S40) : Byte (encRes l).1 := by
  unfold encRes
  split
  · intro n hn; cases hn
  split
  · exact bytesR_byte l
  · intro n hn; cases hn
end Rl
end Go.Proofs.Ythcoiomnlcagcaa

namespace Go.Proofs.Ythcoiomnlcagcaa.PRQ
open Go.RowKit Go.Proofs.YthcoiomnlcagcaaW.PrintWords Go.Proofs.YthcoiomnlcagcaaW.PrintLast Go.Proofs.YthcoiomnlcagcaaW.PrintMore
attribute [local go_sem] max2_int min2_int max_two min_two max_three min_three max_four min_four   -- for this text's walks alone
set_option linter.unusedVariables false
set_option linter.unusedSimpArgs false

/-! ### stileref04_Decode: function 12 -/
mutual
def stileref04_Decode.l0 : Nat → List Int → List (S40) → Int → Option ((List (S40)) × Int)
  | 0, _, _, _ => none
  | k + 1, x0, x4, x5 => if x5 < (x0.length : Int) then (if 0 < (x0.length : Int) then (if (x4.length : Int) < (wrap64 (rd x0 0)) then (stileref04_Decode.j1 k x0 x4 x5 (decide ((x4.length : Int) ≤ 12))) else (stileref04_Decode.j1 k x0 x4 x5 false)) else (none)) else (stileref04_Decode.j1 k x0 x4 x5 false)
def stileref04_Decode.j1 : Nat → List Int → List (S40) → Int → Bool → Option ((List (S40)) × Int)
  | 0, _, _, _, _ => none
  | k + 1, x0, x4, x5, x29 => if x29 = true then (if 0 ≤ x5 then (if x5 < (x0.length : Int) then (if (rd x0 x5) = 0 then (if x4.length < 3518437208883 then (stileref04_Decode.l0 k x0 (x4 ++ [(⟨0, 0, (⟨#[]⟩ : ByteArray), false⟩ : S40)]) (wrap64 (x5 + 1))) else (none)) else (if (rd x0 x5) = 1 then (stileref04_Decode.l1 k x0 x4 x5 0 8) else (if (rd x0 x5) = 2 then (if (wrap64 (x5 + 2)) < (x0.length : Int) then (if 0 ≤ (wrap64 (x5 + 1)) then (if (wrap64 (x5 + 1)) < (x0.length : Int) then (if 0 ≤ (wrap64 (x5 + 2)) then (stileref04_Decode.j4 k x0 x4 x5 (wrap64 ((wrap64 (rd x0 (wrap64 (x5 + 1)))) + (wrap64 (256 * (wrap64 (rd x0 (wrap64 (x5 + 2))))))))) else (none)) else (none)) else (none)) else (stileref04_Decode.j4 k x0 x4 x5 0)) else (if (rd x0 x5) = 3 then (stileref04_Decode.j5 k x0 x4 x5 ((rd x0 x5) == 3)) else (stileref04_Decode.j5 k x0 x4 x5 ((rd x0 x5) == 4)))))) else (none)) else (none)) else ((stileref04_Encode.f k x4).bind fun bt217 => (if bt217.2 = 0 then (stileref04_Decode.j6 k x4 ((strOfNums bt217.1).toList != (strOfNums x0).toList)) else (stileref04_Decode.j6 k x4 true)))
def stileref04_Decode.l1 : Nat → List Int → List (S40) → Int → Int → Int → Option ((List (S40)) × Int)
  | 0, _, _, _, _, _ => none
  | k + 1, x0, x4, x5, x6, x7 => if x7 ≥ 1 then (stileref04_Decode.j3 k x0 x4 x5 x6 x7 (decide ((wrap64 (x5 + 8)) < (x0.length : Int)))) else (stileref04_Decode.j3 k x0 x4 x5 x6 x7 false)
def stileref04_Decode.j3 : Nat → List Int → List (S40) → Int → Int → Int → Bool → Option ((List (S40)) × Int)
  | 0, _, _, _, _, _, _ => none
  | k + 1, x0, x4, x5, x6, x7, x50 => if x50 = true then (if 0 ≤ (wrap64 (x5 + x7)) then (if (wrap64 (x5 + x7)) < (x0.length : Int) then (stileref04_Decode.l1 k x0 x4 x5 (IntKind.u64.wrap ((IntKind.u64.wrap (256 * x6)) + (IntKind.u64.wrap (rd x0 (wrap64 (x5 + x7)))))) (wrap64 (x7 - 1))) else (none)) else (none)) else ((stileref01_Num.f (wrap64 (x6))).bind fun bt196 => (if x4.length < 3518437208883 then (stileref04_Decode.l0 k x0 (x4 ++ [(⟨bt196.1, bt196.2.1, bt196.2.2.1, bt196.2.2.2⟩ : S40)]) (wrap64 ((wrap64 (x5 + 8)) + 1))) else (none)))
def stileref04_Decode.j4 : Nat → List Int → List (S40) → Int → Int → Option ((List (S40)) × Int)
  | 0, _, _, _, _ => none
  | k + 1, x0, x4, x5, x8 => if 0 ≤ (mn (wrap64 (x5 + 3)) (mn (wrap64 ((wrap64 (x5 + 3)) + x8)) (x0.length : Int))) then (if (mn (wrap64 (x5 + 3)) (mn (wrap64 ((wrap64 (x5 + 3)) + x8)) (x0.length : Int))) ≤ (mn (wrap64 ((wrap64 (x5 + 3)) + x8)) (x0.length : Int)) then (if (mn (wrap64 ((wrap64 (x5 + 3)) + x8)) (x0.length : Int)) ≤ (x0.length : Int) then ((stileref01_Text.f (strOfNums ((x0.take ((mn (wrap64 ((wrap64 (x5 + 3)) + x8)) (x0.length : Int)) : Int).toNat).drop ((mn (wrap64 (x5 + 3)) (mn (wrap64 ((wrap64 (x5 + 3)) + x8)) (x0.length : Int))) : Int).toNat))).bind fun bt206 => (if x4.length < 3518437208883 then (stileref04_Decode.l0 k x0 (x4 ++ [(⟨bt206.1, bt206.2.1, bt206.2.2.1, bt206.2.2.2⟩ : S40)]) (wrap64 ((wrap64 ((wrap64 (x5 + 2)) + x8)) + 1))) else (none))) else (none)) else (none)) else (none)
def stileref04_Decode.j5 : Nat → List Int → List (S40) → Int → Bool → Option ((List (S40)) × Int)
  | 0, _, _, _, _ => none
  | k + 1, x0, x4, x5, x115 => if x115 = true then (if 0 ≤ x5 then (if x5 < (x0.length : Int) then (if x4.length < 3518437208883 then (stileref04_Decode.l0 k x0 (x4 ++ [(⟨3, 0, (⟨#[]⟩ : ByteArray), ((rd x0 x5) == 4)⟩ : S40)]) (wrap64 (x5 + 1))) else (none)) else (none)) else (none)) else (some (([] : List (S40)), 41))
def stileref04_Decode.j6 : Nat → List (S40) → Bool → Option ((List (S40)) × Int)
  | 0, _, _ => none
  | k + 1, x4, x142 => if x142 = true then (some (([] : List (S40)), 41)) else (some (x4, 0))
end
def stileref04_Decode.f (k : Nat) (l0 : List Int) : Option ((List (S40)) × Int) := stileref04_Decode.l0 k l0 ([] : List (S40)) 1
theorem stileref04_Decode.mono_l : ∀ k, (∀ y0 y1 y2, LeO (stileref04_Decode.l0 k y0 y1 y2) (stileref04_Decode.l0 (k + 1) y0 y1 y2)) ∧ (∀ y0 y1 y2 y3, LeO (stileref04_Decode.j1 k y0 y1 y2 y3) (stileref04_Decode.j1 (k + 1) y0 y1 y2 y3)) ∧ (∀ y0 y1 y2 y3 y4, LeO (stileref04_Decode.l1 k y0 y1 y2 y3 y4) (stileref04_Decode.l1 (k + 1) y0 y1 y2 y3 y4)) ∧ (∀ y0 y1 y2 y3 y4 y5, LeO (stileref04_Decode.j3 k y0 y1 y2 y3 y4 y5) (stileref04_Decode.j3 (k + 1) y0 y1 y2 y3 y4 y5)) ∧ (∀ y0 y1 y2 y3, LeO (stileref04_Decode.j4 k y0 y1 y2 y3) (stileref04_Decode.j4 (k + 1) y0 y1 y2 y3)) ∧ (∀ y0 y1 y2 y3, LeO (stileref04_Decode.j5 k y0 y1 y2 y3) (stileref04_Decode.j5 (k + 1) y0 y1 y2 y3)) ∧ (∀ y0 y1, LeO (stileref04_Decode.j6 k y0 y1) (stileref04_Decode.j6 (k + 1) y0 y1))
  | 0 => ⟨fun _ _ _ r h => by simp [stileref04_Decode.l0] at h, fun _ _ _ _ r h => by simp [stileref04_Decode.j1] at h, fun _ _ _ _ _ r h => by simp [stileref04_Decode.l1] at h, fun _ _ _ _ _ _ r h => by simp [stileref04_Decode.j3] at h, fun _ _ _ _ r h => by simp [stileref04_Decode.j4] at h, fun _ _ _ _ r h => by simp [stileref04_Decode.j5] at h, fun _ _ r h => by simp [stileref04_Decode.j6] at h⟩
  | k + 1 => by
    obtain ⟨ih0, ih1, ih2, ih3, ih4, ih5, ih6⟩ := stileref04_Decode.mono_l k
    refine ⟨?_, ?_, ?_, ?_, ?_, ?_, ?_⟩
    · intro y0 y1 y2
      unfold stileref04_Decode.l0
      repeat' first
      | (with_reducible exact ih0 _ _ _)
      | (with_reducible exact ih1 _ _ _ _)
      | (with_reducible exact ih2 _ _ _ _ _)
      | (with_reducible exact ih3 _ _ _ _ _ _)
      | (with_reducible exact ih4 _ _ _ _)
      | (with_reducible exact ih5 _ _ _ _)
      | (with_reducible exact ih6 _ _)
      | (with_reducible exact stileref04_Encode.mono _ _)
      | (with_reducible exact LeO.refl _)
      | (with_reducible exact LeO.none _)
      | (with_reducible refine LeO.ite ?_ ?_)
      | (with_reducible refine LeO.bind ?_ (fun _ => ?_))
      | exact ih0 _ _ _
      | exact ih1 _ _ _ _
      | exact ih2 _ _ _ _ _
      | exact ih3 _ _ _ _ _ _
      | exact ih4 _ _ _ _
      | exact ih5 _ _ _ _
      | exact ih6 _ _
      | exact stileref04_Encode.mono _ _
      | exact LeO.none _
      | refine LeO.ite ?_ ?_
      | refine LeO.bind ?_ (fun _ => ?_)
    · intro y0 y1 y2 y3
      unfold stileref04_Decode.j1
      repeat' first
      | (with_reducible exact ih0 _ _ _)
      | (with_reducible exact ih1 _ _ _ _)
      | (with_reducible exact ih2 _ _ _ _ _)
      | (with_reducible exact ih3 _ _ _ _ _ _)
      | (with_reducible exact ih4 _ _ _ _)
      | (with_reducible exact ih5 _ _ _ _)
      | (with_reducible exact ih6 _ _)
      | (with_reducible exact stileref04_Encode.mono _ _)
      | (with_reducible exact LeO.refl _)
      | (with_reducible exact LeO.none _)
      | (with_reducible refine LeO.ite ?_ ?_)
      | (with_reducible refine LeO.bind ?_ (fun _ => ?_))
      | exact ih0 _ _ _
      | exact ih1 _ _ _ _
      | exact ih2 _ _ _ _ _
      | exact ih3 _ _ _ _ _ _
      | exact ih4 _ _ _ _
      | exact ih5 _ _ _ _
      | exact ih6 _ _
      | exact stileref04_Encode.mono _ _
      | exact LeO.none _
      | refine LeO.ite ?_ ?_
      | refine LeO.bind ?_ (fun _ => ?_)
    · intro y0 y1 y2 y3 y4
      unfold stileref04_Decode.l1
      repeat' first
      | (with_reducible exact ih0 _ _ _)
      | (with_reducible exact ih1 _ _ _ _)
      | (with_reducible exact ih2 _ _ _ _ _)
      | (with_reducible exact ih3 _ _ _ _ _ _)
      | (with_reducible exact ih4 _ _ _ _)
      | (with_reducible exact ih5 _ _ _ _)
      | (with_reducible exact ih6 _ _)
      | (with_reducible exact stileref04_Encode.mono _ _)
      | (with_reducible exact LeO.refl _)
      | (with_reducible exact LeO.none _)
      | (with_reducible refine LeO.ite ?_ ?_)
      | (with_reducible refine LeO.bind ?_ (fun _ => ?_))
      | exact ih0 _ _ _
      | exact ih1 _ _ _ _
      | exact ih2 _ _ _ _ _
      | exact ih3 _ _ _ _ _ _
      | exact ih4 _ _ _ _
      | exact ih5 _ _ _ _
      | exact ih6 _ _
      | exact stileref04_Encode.mono _ _
      | exact LeO.none _
      | refine LeO.ite ?_ ?_
      | refine LeO.bind ?_ (fun _ => ?_)
    · intro y0 y1 y2 y3 y4 y5
      unfold stileref04_Decode.j3
      repeat' first
      | (with_reducible exact ih0 _ _ _)
      | (with_reducible exact ih1 _ _ _ _)
      | (with_reducible exact ih2 _ _ _ _ _)
      | (with_reducible exact ih3 _ _ _ _ _ _)
      | (with_reducible exact ih4 _ _ _ _)
      | (with_reducible exact ih5 _ _ _ _)
      | (with_reducible exact ih6 _ _)
      | (with_reducible exact stileref04_Encode.mono _ _)
      | (with_reducible exact LeO.refl _)
      | (with_reducible exact LeO.none _)
      | (with_reducible refine LeO.ite ?_ ?_)
      | (with_reducible refine LeO.bind ?_ (fun _ => ?_))
      | exact ih0 _ _ _
      | exact ih1 _ _ _ _
      | exact ih2 _ _ _ _ _
      | exact ih3 _ _ _ _ _ _
      | exact ih4 _ _ _ _
      | exact ih5 _ _ _ _
      | exact ih6 _ _
      | exact stileref04_Encode.mono _ _
      | exact LeO.none _
      | refine LeO.ite ?_ ?_
      | refine LeO.bind ?_ (fun _ => ?_)
    · intro y0 y1 y2 y3
      unfold stileref04_Decode.j4
      repeat' first
      | (with_reducible exact ih0 _ _ _)
      | (with_reducible exact ih1 _ _ _ _)
      | (with_reducible exact ih2 _ _ _ _ _)
      | (with_reducible exact ih3 _ _ _ _ _ _)
      | (with_reducible exact ih4 _ _ _ _)
      | (with_reducible exact ih5 _ _ _ _)
      | (with_reducible exact ih6 _ _)
      | (with_reducible exact stileref04_Encode.mono _ _)
      | (with_reducible exact LeO.refl _)
      | (with_reducible exact LeO.none _)
      | (with_reducible refine LeO.ite ?_ ?_)
      | (with_reducible refine LeO.bind ?_ (fun _ => ?_))
      | exact ih0 _ _ _
      | exact ih1 _ _ _ _
      | exact ih2 _ _ _ _ _
      | exact ih3 _ _ _ _ _ _
      | exact ih4 _ _ _ _
      | exact ih5 _ _ _ _
      | exact ih6 _ _
      | exact stileref04_Encode.mono _ _
      | exact LeO.none _
      | refine LeO.ite ?_ ?_
      | refine LeO.bind ?_ (fun _ => ?_)
    · intro y0 y1 y2 y3
      unfold stileref04_Decode.j5
      repeat' first
      | (with_reducible exact ih0 _ _ _)
      | (with_reducible exact ih1 _ _ _ _)
      | (with_reducible exact ih2 _ _ _ _ _)
      | (with_reducible exact ih3 _ _ _ _ _ _)
      | (with_reducible exact ih4 _ _ _ _)
      | (with_reducible exact ih5 _ _ _ _)
      | (with_reducible exact ih6 _ _)
      | (with_reducible exact stileref04_Encode.mono _ _)
      | (with_reducible exact LeO.refl _)
      | (with_reducible exact LeO.none _)
      | (with_reducible refine LeO.ite ?_ ?_)
      | (with_reducible refine LeO.bind ?_ (fun _ => ?_))
      | exact ih0 _ _ _
      | exact ih1 _ _ _ _
      | exact ih2 _ _ _ _ _
      | exact ih3 _ _ _ _ _ _
      | exact ih4 _ _ _ _
      | exact ih5 _ _ _ _
      | exact ih6 _ _
      | exact stileref04_Encode.mono _ _
      | exact LeO.none _
      | refine LeO.ite ?_ ?_
      | refine LeO.bind ?_ (fun _ => ?_)
    · intro y0 y1
      unfold stileref04_Decode.j6
      repeat' first
      | (with_reducible exact ih0 _ _ _)
      | (with_reducible exact ih1 _ _ _ _)
      | (with_reducible exact ih2 _ _ _ _ _)
      | (with_reducible exact ih3 _ _ _ _ _ _)
      | (with_reducible exact ih4 _ _ _ _)
      | (with_reducible exact ih5 _ _ _ _)
      | (with_reducible exact ih6 _ _)
      | (with_reducible exact stileref04_Encode.mono _ _)
      | (with_reducible exact LeO.refl _)
      | (with_reducible exact LeO.none _)
      | (with_reducible refine LeO.ite ?_ ?_)
      | (with_reducible refine LeO.bind ?_ (fun _ => ?_))
      | exact ih0 _ _ _
      | exact ih1 _ _ _ _
      | exact ih2 _ _ _ _ _
      | exact ih3 _ _ _ _ _ _
      | exact ih4 _ _ _ _
      | exact ih5 _ _ _ _
      | exact ih6 _ _
      | exact stileref04_Encode.mono _ _
      | exact LeO.none _
      | refine LeO.ite ?_ ?_
      | refine LeO.bind ?_ (fun _ => ?_)
theorem stileref04_Decode.mono : ∀ a0 k, LeO (stileref04_Decode.f k a0) (stileref04_Decode.f (k + 1) a0) := by
  intro a0 k
  obtain ⟨ih0, ih1, ih2, ih3, ih4, ih5, ih6⟩ := stileref04_Decode.mono_l k
  unfold stileref04_Decode.f
  repeat' first
      | (with_reducible exact ih0 _ _ _)
      | (with_reducible exact ih1 _ _ _ _)
      | (with_reducible exact ih2 _ _ _ _ _)
      | (with_reducible exact ih3 _ _ _ _ _ _)
      | (with_reducible exact ih4 _ _ _ _)
      | (with_reducible exact ih5 _ _ _ _)
      | (with_reducible exact ih6 _ _)
      | (with_reducible exact stileref04_Encode.mono _ _)
      | (with_reducible exact LeO.refl _)
      | (with_reducible exact LeO.none _)
      | (with_reducible refine LeO.ite ?_ ?_)
      | (with_reducible refine LeO.bind ?_ (fun _ => ?_))
      | exact ih0 _ _ _
      | exact ih1 _ _ _ _
      | exact ih2 _ _ _ _ _
      | exact ih3 _ _ _ _ _ _
      | exact ih4 _ _ _ _
      | exact ih5 _ _ _ _
      | exact ih6 _ _
      | exact stileref04_Encode.mono _ _
      | exact LeO.none _
      | refine LeO.ite ?_ ?_
      | refine LeO.bind ?_ (fun _ => ?_)
set_option maxHeartbeats 8000000 in
set_option maxRecDepth 100000 in
theorem stileref04_Decode.calls (k : Nat) (A0 : Option Addr) (c0 : Nat) (l0 : List Int) (r1 : List (S40)) (r2 : Int) (w : World) (hr0 : Kd.C (Kd.int .u8) w A0 l0.length l0) (hc0 : l0.length ≤ c0) (h : stileref04_Decode.f k l0 = some (r1, r2)) :
    Calls Try.prog 12 #[.slice A0 l0.length c0] w fun e w' => ∃ v0_ : Value, e = .returned (.tuple #[v0_, .int .i64 r2]) ∧ Kd.R k40 40 w' w.heap.size (fun _ => True) v0_ r1 ∧ Below w.heap.size w w' := by
  have hu40 := Try.underlying40
  have HR0 := Aside0.mk hr0
  have HC0 := Aside0.mk hc0
  clear hr0 hc0
  have HB := Aside0.mk (Below.refl w.heap.size w)
  have H : (stileref04_Decode.l0 k l0 ([] : List (S40)) 1) = some (r1, r2) := h
  clear h
  have H' := Aside0.mk H
  clear H
  go_enter Try.func12, Try.ntmps12
  go_wp2
  repeat (go_quiet (fail); try go_wp2)
  go_loopg [4, 5] k (fun kq v4 v5 w' => ∃ (x4_1 : List (S40)) (x5_1 : Int), v5 = .int .i64 x5_1 ∧ Aside0 (stileref04_Decode.l0 kq l0 x4_1 x5_1 = some (r1, r2)) ∧ Aside0 (kq ≤ k) ∧ Aside0 (Kd.R k40 40 w' w.heap.size (fun _ => True) v4 x4_1) ∧ Aside0 (Below w.heap.size w w'))
  case atStart => exact ⟨(([] : List (S40))), (1), (by first | rfl | (simp; done) | (simp [*]; done)), H', ⟨Nat.le_refl _⟩, ⟨by first | exact Kd.R_nil _ _ _ _ _ | exact Kd.N_nil _ _ _ _ _ | exact Kd.V_nil _ _ _ _ _ | exact Kd.Q_nil _ _ _ _ _ | exact Kd.S_nil _ _ _ _ _⟩, ⟨by repeat (first | (with_reducible first | exact HB.out | apply below_alloc | apply pw_below_drewN | apply below_drew1) | exact HB.out)⟩⟩
  case round =>
    clear H'
    try clear c1
    obtain ⟨x4_1, x5_1, rfl, HA, HK1, HO_4, HB⟩ := hrel
    cases gk with
    | zero => exact absurd HA.out (by simp [stileref04_Decode.l0])
    | succ k1 =>
      have H := HA.out
      clear HA
      simp only [stileref04_Decode.l0] at H
      have HC2 := Aside0.mk H
      clear H
      go_upto_region 3 with (fail)
      repeat (go_quiet (fail); go_upto_region 3 with (fail))
      go_cut [29] (fun v29 wc => ∃ (kq : Nat) (x29_1 : Bool), v29 = .bool x29_1 ∧ Aside0 (stileref04_Decode.j1 kq l0 x4_1 x5_1 x29_1 = some (r1, r2)) ∧ Aside0 (kq ≤ k1) ∧ Aside0 (Kd.R k40 40 wc w.heap.size (fun _ => True) u4 x4_1) ∧ Aside0 (Below w.heap.size w wc))
      case first =>
        have H := HC2.out
        clear HC2
        by_cases c3 : x5_1 < (l0.length : Int)
        · rw [if_pos c3] at H
          have c3b0 : decide (x5_1 < (l0.length : Int)) = true := decide_eq_true c3
          clear c3
          (first | rw [c3b0] | (simp only [i64_w, i32_w]; rw [c3b0]) | skip)
          by_cases c4 : 0 < (l0.length : Int)
          · rw [if_pos c4] at H
            have c4b0 : decide (0 < (l0.length : Int)) = true := decide_eq_true c4
            have c4b1 : decide (0 < l0.length) = true := decide_eq_true (by omega)
            clear c4
            by_cases c5 : (x4_1.length : Int) < (wrap64 (rd l0 0))
            · rw [if_pos c5] at H
              have c5b0 : decide ((x4_1.length : Int) < (wrap64 (rd l0 0))) = true := decide_eq_true c5
              clear c5
              have H' := Aside0.mk H
              clear H
              obtain ⟨Ao6, co6, eo6⟩ := Kd.R_slice HO_4.out
              subst eo6
              have p190 : 0 ≤ (0 : Int) := (by omega)
              have q190 : 0 < (l0.length : Int) := of_decide_eq_true (by first | (with_reducible assumption) | assumption)
              obtain ⟨ad190, e190, hx190_0⟩ := Kd.at_int HR0.out 0 p190 q190
              cases e190
              have qi190 : (0 < l0.length) = True := eq_true (by omega)
              (try rw [show ((0 : Int)).toNat = 0 from rfl] at hx190_0)
              (try rw [Addr.add_zero'] at hx190_0)
              replace hx190_0 := (HB.out.cell (World.block_lt_of_cell? w _ hx190_0)).trans hx190_0
              replace p190 := eq_true p190
              replace q190 := eq_true q190
              go_wp2
              repeat (go_quiet (fail); try go_wp2)
              go_meet
              case rel => exact ⟨_, (decide ((x4_1.length : Int) ≤ 12)), (by first | rfl | (simp; done) | (simp [*]; done)), H', ⟨by have := HK1.out; first | omega | exact Nat.le_refl _⟩, ⟨by (with_reducible repeat (first | apply Kd.R_alloc | apply Kd.R_drewN | apply Kd.R_drew)); exact HO_4.out⟩, ⟨by repeat (first | (with_reducible first | exact HB.out | apply below_alloc | apply pw_below_drewN | apply below_drew1) | exact HB.out)⟩⟩
            · rw [if_neg c5] at H
              have c5b0 : decide ((x4_1.length : Int) < (wrap64 (rd l0 0))) = false := decide_eq_false c5
              clear c5
              have H' := Aside0.mk H
              clear H
              obtain ⟨Ao7, co7, eo7⟩ := Kd.R_slice HO_4.out
              subst eo7
              have p190 : 0 ≤ (0 : Int) := (by omega)
              have q190 : 0 < (l0.length : Int) := of_decide_eq_true (by first | (with_reducible assumption) | assumption)
              obtain ⟨ad190, e190, hx190_0⟩ := Kd.at_int HR0.out 0 p190 q190
              cases e190
              have qi190 : (0 < l0.length) = True := eq_true (by omega)
              (try rw [show ((0 : Int)).toNat = 0 from rfl] at hx190_0)
              (try rw [Addr.add_zero'] at hx190_0)
              replace hx190_0 := (HB.out.cell (World.block_lt_of_cell? w _ hx190_0)).trans hx190_0
              replace p190 := eq_true p190
              replace q190 := eq_true q190
              go_wp2
              repeat (go_quiet (fail); try go_wp2)
              go_meet
              case rel => exact ⟨_, (false), (by first | rfl | (simp; done) | (simp [*]; done)), H', ⟨by have := HK1.out; first | omega | exact Nat.le_refl _⟩, ⟨by (with_reducible repeat (first | apply Kd.R_alloc | apply Kd.R_drewN | apply Kd.R_drew)); exact HO_4.out⟩, ⟨by repeat (first | (with_reducible first | exact HB.out | apply below_alloc | apply pw_below_drewN | apply below_drew1) | exact HB.out)⟩⟩
          · rw [if_neg c4] at H
            exact absurd H (by simp)
        · rw [if_neg c3] at H
          have c3b0 : decide (x5_1 < (l0.length : Int)) = false := decide_eq_false c3
          clear c3
          (first | rw [c3b0] | (simp only [i64_w, i32_w]; rw [c3b0]) | skip)
          have H' := Aside0.mk H
          clear H
          go_wp2
          repeat (go_quiet (fail); try go_wp2)
          go_meet
          case rel => exact ⟨_, (false), (by first | rfl | (simp; done) | (simp [*]; done)), H', ⟨by have := HK1.out; first | omega | exact Nat.le_refl _⟩, ⟨by (with_reducible repeat (first | apply Kd.R_alloc | apply Kd.R_drewN | apply Kd.R_drew)); exact HO_4.out⟩, ⟨by repeat (first | (with_reducible first | exact HB.out | apply below_alloc | apply pw_below_drewN | apply below_drew1) | exact HB.out)⟩⟩
      case rest =>
        clear HC2
        try clear c1
        try clear p1
        try clear q1
        try clear hx1
        try clear qi1
        try clear p2
        try clear c3
        try clear c3b0
        try clear c4
        try clear c4b0
        try clear c4b1
        try clear c5
        try clear c5b0
        try clear p6
        try clear hx190_0
        try clear p190
        try clear q190
        obtain ⟨kq, x29_1, rfl, HA, HJ1, HO_4, HB⟩ := hcut
        cases kq with
        | zero => exact absurd HA.out (by simp [stileref04_Decode.j1])
        | succ kj1 =>
          have H := HA.out
          clear HA
          simp only [stileref04_Decode.j1] at H
          by_cases c8 : x29_1 = true
          · subst c8
            have H1 : (if 0 ≤ x5_1 then (if x5_1 < (l0.length : Int) then (if (rd l0 x5_1) = 0 then (if x4_1.length < 3518437208883 then (stileref04_Decode.l0 kj1 l0 (x4_1 ++ [(⟨0, 0, (⟨#[]⟩ : ByteArray), false⟩ : S40)]) (wrap64 (x5_1 + 1))) else (none)) else (if (rd l0 x5_1) = 1 then (stileref04_Decode.l1 kj1 l0 x4_1 x5_1 0 8) else (if (rd l0 x5_1) = 2 then (if (wrap64 (x5_1 + 2)) < (l0.length : Int) then (if 0 ≤ (wrap64 (x5_1 + 1)) then (if (wrap64 (x5_1 + 1)) < (l0.length : Int) then (if 0 ≤ (wrap64 (x5_1 + 2)) then (stileref04_Decode.j4 kj1 l0 x4_1 x5_1 (wrap64 ((wrap64 (rd l0 (wrap64 (x5_1 + 1)))) + (wrap64 (256 * (wrap64 (rd l0 (wrap64 (x5_1 + 2))))))))) else (none)) else (none)) else (none)) else (stileref04_Decode.j4 kj1 l0 x4_1 x5_1 0)) else (if (rd l0 x5_1) = 3 then (stileref04_Decode.j5 kj1 l0 x4_1 x5_1 ((rd l0 x5_1) == 3)) else (stileref04_Decode.j5 kj1 l0 x4_1 x5_1 ((rd l0 x5_1) == 4)))))) else (none)) else (none)) = some (r1, r2) := by rw [if_pos rfl] at H; exact H
            clear H
            have H := H1
            clear H1
            by_cases c9 : 0 ≤ x5_1
            · rw [if_pos c9] at H
              have c9b0 : decide (0 ≤ x5_1) = true := decide_eq_true c9
              clear c9
              by_cases c10 : x5_1 < (l0.length : Int)
              · rw [if_pos c10] at H
                have c10b0 : decide (x5_1 < (l0.length : Int)) = true := decide_eq_true c10
                clear c10
                by_cases c11 : (rd l0 x5_1) = 0
                · rw [if_pos c11] at H
                  have c11b0 : ((rd l0 x5_1) == 0) = true := beq_iff_eq.mpr c11
                  have c11b1 : ((rd l0 x5_1) != 0) = false := bne_eq_false_iff_eq.mpr c11
                  clear c11
                  by_cases c12 : x4_1.length < 3518437208883
                  · rw [if_pos c12] at H
                    have LMc12 := Aside0.mk c12
                    clear c12
                    obtain ⟨y192, hy192⟩ : ∃ y_ : List (S40), y_ = (x4_1 ++ [(⟨0, 0, (⟨#[]⟩ : ByteArray), false⟩ : S40)]) := ⟨_, rfl⟩
                    replace H : (stileref04_Decode.l0 kj1 l0 y192 (wrap64 (x5_1 + 1))) = some (r1, r2) := by first | (rw [hy192]; with_reducible exact H) | (have H2_ := (Option.bind_some _ _).symm.trans H; rw [hy192]; with_reducible exact H2_) | (have H2_ := (Option.bind_some _ _).symm.trans H; with_reducible exact H2_) | with_reducible exact H | (rw [hy192]; exact H) | exact H
                    have Ny192 := Aside0.mk hy192
                    clear hy192
                    have H' := Aside0.mk H
                    clear H
                    have p191 : 0 ≤ (x5_1 : Int) := of_decide_eq_true (by first | (with_reducible assumption) | assumption)
                    have q191 : x5_1 < (l0.length : Int) := of_decide_eq_true (by first | (with_reducible assumption) | assumption)
                    obtain ⟨ad191, e191, hx191_0⟩ := Kd.at_int HR0.out x5_1 p191 q191
                    cases e191
                    replace hx191_0 := (HB.out.cell (World.block_lt_of_cell? w _ hx191_0)).trans hx191_0
                    replace p191 := eq_true p191
                    replace q191 := eq_true q191
                    go_wp2_with (first | ((with_reducible refine gate_builtin (b := .append) (xs := #[.tmp 36, .tmp 38]) rfl ?_); (try (refine gate_guard (by rfl) ?_; dsimp only)); at_builtin; refine Kd.R_append k40 (w0 := w) w.heap.size rfl (.tmp 36) (.tmp 38) 24 40 (.agg #[(.int .i64 0), (.int .i64 0), (.string ⟨#[]⟩), (.bool false)]) 40 rfl Try.underlying24 info40 rfl (by decide) (by omega) u4 x4_1 (⟨0, 0, (⟨#[]⟩ : ByteArray), false⟩ : S40) [.int .i64 0, .int .i64 0, .string (⟨#[]⟩ : ByteArray), .bool false] (fun _ => True) (fun _ => False) rfl rfl ?aP (fun _ hk => hk.elim) ?aF ?aO ?aB ?aS ?aL ?_; (case aP => exact k40_mkM _ _ _ (⟨0, 0, (⟨#[]⟩ : ByteArray), false⟩ : S40)); (case aB => exact (by repeat (first | (with_reducible first | exact HB.out | apply below_alloc | apply pw_below_drewN | apply below_drew1) | exact HB.out))); (case aF => exact (fun _ _ => trivial)); (case aO => exact (by (with_reducible repeat (first | apply Kd.R_alloc | apply Kd.R_drewN | apply Kd.R_drew)); exact HO_4.out)); (case aS => exact (below_size (by repeat (first | (with_reducible first | exact HB.out | apply below_alloc | apply pw_below_drewN | apply below_drew1) | exact HB.out)))); (case aL => have := LMc12.out; omega); intro v193 w13 ho hb hg hat; rw [← Ny192.out] at ho; have n0_ := Aside0.mk (hb); have n1_ := Aside0.mk (ho); clear HB; clear HO_4; have HB := n0_; have HO194 := n1_; clear n0_ n1_; clear ho hb hg hat))
                    repeat (go_quiet (first | ((with_reducible refine gate_builtin (b := .append) (xs := #[.tmp 36, .tmp 38]) rfl ?_); (try (refine gate_guard (by rfl) ?_; dsimp only)); at_builtin; refine Kd.R_append k40 (w0 := w) w.heap.size rfl (.tmp 36) (.tmp 38) 24 40 (.agg #[(.int .i64 0), (.int .i64 0), (.string ⟨#[]⟩), (.bool false)]) 40 rfl Try.underlying24 info40 rfl (by decide) (by omega) u4 x4_1 (⟨0, 0, (⟨#[]⟩ : ByteArray), false⟩ : S40) [.int .i64 0, .int .i64 0, .string (⟨#[]⟩ : ByteArray), .bool false] (fun _ => True) (fun _ => False) rfl rfl ?aP (fun _ hk => hk.elim) ?aF ?aO ?aB ?aS ?aL ?_; (case aP => exact k40_mkM _ _ _ (⟨0, 0, (⟨#[]⟩ : ByteArray), false⟩ : S40)); (case aB => exact (by repeat (first | (with_reducible first | exact HB.out | apply below_alloc | apply pw_below_drewN | apply below_drew1) | exact HB.out))); (case aF => exact (fun _ _ => trivial)); (case aO => exact (by (with_reducible repeat (first | apply Kd.R_alloc | apply Kd.R_drewN | apply Kd.R_drew)); exact HO_4.out)); (case aS => exact (below_size (by repeat (first | (with_reducible first | exact HB.out | apply below_alloc | apply pw_below_drewN | apply below_drew1) | exact HB.out)))); (case aL => have := LMc12.out; omega); intro v193 w13 ho hb hg hat; rw [← Ny192.out] at ho; have n0_ := Aside0.mk (hb); have n1_ := Aside0.mk (ho); clear HB; clear HO_4; have HB := n0_; have HO194 := n1_; clear n0_ n1_; clear ho hb hg hat)); try go_wp2_with (first | ((with_reducible refine gate_builtin (b := .append) (xs := #[.tmp 36, .tmp 38]) rfl ?_); (try (refine gate_guard (by rfl) ?_; dsimp only)); at_builtin; refine Kd.R_append k40 (w0 := w) w.heap.size rfl (.tmp 36) (.tmp 38) 24 40 (.agg #[(.int .i64 0), (.int .i64 0), (.string ⟨#[]⟩), (.bool false)]) 40 rfl Try.underlying24 info40 rfl (by decide) (by omega) u4 x4_1 (⟨0, 0, (⟨#[]⟩ : ByteArray), false⟩ : S40) [.int .i64 0, .int .i64 0, .string (⟨#[]⟩ : ByteArray), .bool false] (fun _ => True) (fun _ => False) rfl rfl ?aP (fun _ hk => hk.elim) ?aF ?aO ?aB ?aS ?aL ?_; (case aP => exact k40_mkM _ _ _ (⟨0, 0, (⟨#[]⟩ : ByteArray), false⟩ : S40)); (case aB => exact (by repeat (first | (with_reducible first | exact HB.out | apply below_alloc | apply pw_below_drewN | apply below_drew1) | exact HB.out))); (case aF => exact (fun _ _ => trivial)); (case aO => exact (by (with_reducible repeat (first | apply Kd.R_alloc | apply Kd.R_drewN | apply Kd.R_drew)); exact HO_4.out)); (case aS => exact (below_size (by repeat (first | (with_reducible first | exact HB.out | apply below_alloc | apply pw_below_drewN | apply below_drew1) | exact HB.out)))); (case aL => have := LMc12.out; omega); intro v193 w13 ho hb hg hat; rw [← Ny192.out] at ho; have n0_ := Aside0.mk (hb); have n1_ := Aside0.mk (ho); clear HB; clear HO_4; have HB := n0_; have HO194 := n1_; clear n0_ n1_; clear ho hb hg hat)))
                    go_roundg kj1
                    case measure => have := HK1.out; have := HJ1.out; omega
                    case rel => exact ⟨(y192), (wrap64 (x5_1 + 1)), (by first | rfl | (simp; done) | (simp [*]; done)), H', ⟨by have := HK1.out; have := HJ1.out; omega⟩, ⟨by (with_reducible repeat (first | apply Kd.R_alloc | apply Kd.R_drewN | apply Kd.R_drew)); exact HO194.out⟩, ⟨by repeat (first | (with_reducible first | exact HB.out | apply below_alloc | apply pw_below_drewN | apply below_drew1) | exact HB.out)⟩⟩
                  · rw [if_neg c12] at H
                    exact absurd H (by simp)
                · rw [if_neg c11] at H
                  have c11b0 : ((rd l0 x5_1) == 0) = false := beq_eq_false_iff_ne.mpr c11
                  have c11b1 : ((rd l0 x5_1) != 0) = true := bne_iff_ne.mpr c11
                  by_cases c14 : (rd l0 x5_1) = 1
                  · rw [if_pos c14] at H
                    have c14b0 : ((rd l0 x5_1) == 1) = true := beq_iff_eq.mpr c14
                    have c14b1 : ((rd l0 x5_1) != 1) = false := bne_eq_false_iff_eq.mpr c14
                    clear c14
                    have H' := Aside0.mk H
                    clear H
                    have p191 : 0 ≤ (x5_1 : Int) := of_decide_eq_true (by first | (with_reducible assumption) | assumption)
                    have q191 : x5_1 < (l0.length : Int) := of_decide_eq_true (by first | (with_reducible assumption) | assumption)
                    obtain ⟨ad191, e191, hx191_0⟩ := Kd.at_int HR0.out x5_1 p191 q191
                    cases e191
                    replace hx191_0 := (HB.out.cell (World.block_lt_of_cell? w _ hx191_0)).trans hx191_0
                    replace p191 := eq_true p191
                    replace q191 := eq_true q191
                    go_wp2
                    repeat (go_quiet (fail); try go_wp2)
                    go_loopg [6, 7] kj1 (fun kq v6 v7 w' => ∃ (x6_3 : Int) (x7_3 : Int), v6 = .int .u64 x6_3 ∧ v7 = .int .i64 x7_3 ∧ Aside0 (stileref04_Decode.l1 kq l0 x4_1 x5_1 x6_3 x7_3 = some (r1, r2)) ∧ Aside0 (kq ≤ kj1) ∧ Aside0 (Kd.R k40 40 w' w.heap.size (fun _ => True) u4 x4_1) ∧ Aside0 (Below w.heap.size w w'))
                    case atStart => exact ⟨(0), (8), (by first | rfl | (simp; done) | (simp [*]; done)), (by first | rfl | (simp; done) | (simp [*]; done)), H', ⟨Nat.le_refl _⟩, ⟨by (with_reducible repeat (first | apply Kd.R_alloc | apply Kd.R_drewN | apply Kd.R_drew)); exact HO_4.out⟩, ⟨by repeat (first | (with_reducible first | exact HB.out | apply below_alloc | apply pw_below_drewN | apply below_drew1) | exact HB.out)⟩⟩
                    case round =>
                      clear H'
                      try clear c1
                      try clear p1
                      try clear q1
                      try clear hx1
                      try clear qi1
                      try clear p2
                      try clear c3
                      try clear c3b0
                      try clear c4
                      try clear c4b0
                      try clear c4b1
                      try clear c5
                      try clear c5b0
                      try clear p6
                      try clear c8
                      try clear c9
                      try clear c9b0
                      try clear c10
                      try clear c10b0
                      try clear c11
                      try clear c11b0
                      try clear c11b1
                      try clear c12
                      try clear c14
                      try clear c14b0
                      try clear c14b1
                      try clear hx190_0
                      try clear hx191_0
                      try clear p1
                      try clear p190
                      try clear p191
                      try clear p2
                      try clear p6
                      try clear q1
                      try clear q190
                      try clear q191
                      obtain ⟨x6_3, x7_3, rfl, rfl, HA, HK3, HO_4, HB⟩ := hrel
                      cases gk with
                      | zero => exact absurd HA.out (by simp [stileref04_Decode.l1])
                      | succ k3 =>
                        have H := HA.out
                        clear HA
                        simp only [stileref04_Decode.l1] at H
                        have HC15 := Aside0.mk H
                        clear H
                        go_upto_region 11 with (fail)
                        repeat (go_quiet (fail); go_upto_region 11 with (fail))
                        go_cut [50] (fun v50 wc => ∃ (kq : Nat) (x50_14 : Bool), v50 = .bool x50_14 ∧ Aside0 (stileref04_Decode.j3 kq l0 x4_1 x5_1 x6_3 x7_3 x50_14 = some (r1, r2)) ∧ Aside0 (kq ≤ k3) ∧ Aside0 (Kd.R k40 40 wc w.heap.size (fun _ => True) u4 x4_1) ∧ Aside0 (Below w.heap.size w wc))
                        case first =>
                          have H := HC15.out
                          clear HC15
                          by_cases c16 : x7_3 ≥ 1
                          · rw [if_pos c16] at H
                            have c16b0 : decide (1 ≤ x7_3) = true := decide_eq_true c16
                            clear c16
                            (first | rw [c16b0] | (simp only [i64_w, i32_w]; rw [c16b0]) | skip)
                            have H' := Aside0.mk H
                            clear H
                            go_wp2
                            repeat (go_quiet (fail); try go_wp2)
                            go_meet
                            case rel => exact ⟨_, (decide ((wrap64 (x5_1 + 8)) < (l0.length : Int))), (by first | rfl | (simp; done) | (simp [*]; done)), H', ⟨by have := HK1.out; have := HJ1.out; have := HK3.out; first | omega | exact Nat.le_refl _⟩, ⟨by (with_reducible repeat (first | apply Kd.R_alloc | apply Kd.R_drewN | apply Kd.R_drew)); exact HO_4.out⟩, ⟨by repeat (first | (with_reducible first | exact HB.out | apply below_alloc | apply pw_below_drewN | apply below_drew1) | exact HB.out)⟩⟩
                          · rw [if_neg c16] at H
                            have c16b0 : decide (1 ≤ x7_3) = false := decide_eq_false c16
                            clear c16
                            (first | rw [c16b0] | (simp only [i64_w, i32_w]; rw [c16b0]) | skip)
                            have H' := Aside0.mk H
                            clear H
                            go_wp2
                            repeat (go_quiet (fail); try go_wp2)
                            go_meet
                            case rel => exact ⟨_, (false), (by first | rfl | (simp; done) | (simp [*]; done)), H', ⟨by have := HK1.out; have := HJ1.out; have := HK3.out; first | omega | exact Nat.le_refl _⟩, ⟨by (with_reducible repeat (first | apply Kd.R_alloc | apply Kd.R_drewN | apply Kd.R_drew)); exact HO_4.out⟩, ⟨by repeat (first | (with_reducible first | exact HB.out | apply below_alloc | apply pw_below_drewN | apply below_drew1) | exact HB.out)⟩⟩
                        case rest =>
                          clear HC15
                          try clear c1
                          try clear p1
                          try clear q1
                          try clear hx1
                          try clear qi1
                          try clear p2
                          try clear c3
                          try clear c3b0
                          try clear c4
                          try clear c4b0
                          try clear c4b1
                          try clear c5
                          try clear c5b0
                          try clear p6
                          try clear c8
                          try clear c9
                          try clear c9b0
                          try clear c10
                          try clear c10b0
                          try clear c11
                          try clear c11b0
                          try clear c11b1
                          try clear c12
                          try clear c14
                          try clear c14b0
                          try clear c14b1
                          try clear c16
                          try clear c16b0
                          try clear hx190_0
                          try clear hx191_0
                          try clear p1
                          try clear p190
                          try clear p191
                          try clear p2
                          try clear p6
                          try clear q1
                          try clear q190
                          try clear q191
                          obtain ⟨kq, x50_14, rfl, HA, HJ14, HO_4, HB⟩ := hcut
                          cases kq with
                          | zero => exact absurd HA.out (by simp [stileref04_Decode.j3])
                          | succ kj14 =>
                            have H := HA.out
                            clear HA
                            simp only [stileref04_Decode.j3] at H
                            by_cases c17 : x50_14 = true
                            · subst c17
                              have H1 : (if 0 ≤ (wrap64 (x5_1 + x7_3)) then (if (wrap64 (x5_1 + x7_3)) < (l0.length : Int) then (stileref04_Decode.l1 kj14 l0 x4_1 x5_1 (IntKind.u64.wrap ((IntKind.u64.wrap (256 * x6_3)) + (IntKind.u64.wrap (rd l0 (wrap64 (x5_1 + x7_3)))))) (wrap64 (x7_3 - 1))) else (none)) else (none)) = some (r1, r2) := by rw [if_pos rfl] at H; exact H
                              clear H
                              have H := H1
                              clear H1
                              obtain ⟨ji18, hji18⟩ : ∃ j_ : Int, (wrap64 (x5_1 + x7_3)) = j_ := ⟨_, rfl⟩
                              replace H : (if 0 ≤ (ji18) then (if (ji18) < (l0.length : Int) then (stileref04_Decode.l1 kj14 l0 x4_1 x5_1 (IntKind.u64.wrap ((IntKind.u64.wrap (256 * x6_3)) + (IntKind.u64.wrap (rd l0 (ji18))))) (wrap64 (x7_3 - 1))) else (none)) else (none)) = some (r1, r2) := by first | (rw [hji18] at H; exact H) | (simp only [hji18] at H ⊢; exact H)
                              have hji18w : (IntKind.i64.wrap (x5_1 + x7_3)) = ji18 := (i64_w _).trans hji18
                              by_cases c19 : 0 ≤ (ji18)
                              · rw [if_pos c19] at H
                                have c19b0 : decide (0 ≤ (ji18)) = true := decide_eq_true c19
                                clear c19
                                by_cases c20 : (ji18) < (l0.length : Int)
                                · rw [if_pos c20] at H
                                  have c20b0 : decide ((ji18) < (l0.length : Int)) = true := decide_eq_true c20
                                  clear c20
                                  have H' := Aside0.mk H
                                  clear H
                                  have p195 : 0 ≤ ((ji18) : Int) := of_decide_eq_true (by first | (with_reducible assumption) | assumption)
                                  have q195 : (ji18) < (l0.length : Int) := of_decide_eq_true (by first | (with_reducible assumption) | assumption)
                                  obtain ⟨ad195, e195, hx195_0⟩ := Kd.at_int HR0.out (ji18) p195 q195
                                  obtain rfl : ad191 = ad195 := (by injection e195)
                                  replace hx195_0 := (HB.out.cell (World.block_lt_of_cell? w _ hx195_0)).trans hx195_0
                                  replace p195 := eq_true p195
                                  replace q195 := eq_true q195
                                  go_wp2
                                  repeat (go_quiet (fail); try go_wp2)
                                  go_roundg kj14
                                  case measure => have := HK1.out; have := HJ1.out; have := HK3.out; have := HJ14.out; omega
                                  case rel => exact ⟨(IntKind.u64.wrap ((IntKind.u64.wrap (256 * x6_3)) + (IntKind.u64.wrap (rd l0 (ji18))))), (wrap64 (x7_3 - 1)), (by first | rfl | (simp; done) | (simp only [← hji18] <;> (first | rfl | simp)) | (simp [*]; done)), (by first | rfl | (simp; done) | (simp [*]; done)), H', ⟨by have := HK1.out; have := HJ1.out; have := HK3.out; have := HJ14.out; omega⟩, ⟨by (with_reducible repeat (first | apply Kd.R_alloc | apply Kd.R_drewN | apply Kd.R_drew)); exact HO_4.out⟩, ⟨by repeat (first | (with_reducible first | exact HB.out | apply below_alloc | apply pw_below_drewN | apply below_drew1) | exact HB.out)⟩⟩
                                · rw [if_neg c20] at H
                                  exact absurd H (by simp)
                              · rw [if_neg c19] at H
                                exact absurd H (by simp)
                            · replace c17 := Bool.eq_false_iff.mpr c17
                              subst c17
                              have H1 : ((stileref01_Num.f (wrap64 (x6_3))).bind fun bt196 => (if x4_1.length < 3518437208883 then (stileref04_Decode.l0 kj14 l0 (x4_1 ++ [(⟨bt196.1, bt196.2.1, bt196.2.2.1, bt196.2.2.2⟩ : S40)]) (wrap64 ((wrap64 (x5_1 + 8)) + 1))) else (none))) = some (r1, r2) := by rw [if_neg (show ¬ (false = true) by decide)] at H; exact H
                              clear H
                              have H := H1
                              clear H1
                              replace H := Option.bind_eq_some_iff.mp H
                              obtain ⟨⟨t196, t197, t198, t199⟩, A210, H⟩ := H
                              replace H : (if x4_1.length < 3518437208883 then (stileref04_Decode.l0 kj14 l0 (x4_1 ++ [(⟨t196, t197, t198, t199⟩ : S40)]) (wrap64 ((wrap64 (x5_1 + 8)) + 1))) else (none)) = some (r1, r2) := H
                              have A21 := Aside0.mk A210
                              clear A210
                              by_cases c22 : x4_1.length < 3518437208883
                              · rw [if_pos c22] at H
                                have LMc22 := Aside0.mk c22
                                clear c22
                                obtain ⟨y200, hy200⟩ : ∃ y_ : List (S40), y_ = (x4_1 ++ [(⟨t196, t197, t198, t199⟩ : S40)]) := ⟨_, rfl⟩
                                replace H : (stileref04_Decode.l0 kj14 l0 y200 (wrap64 ((wrap64 (x5_1 + 8)) + 1))) = some (r1, r2) := by first | (rw [hy200]; with_reducible exact H) | (have H2_ := (Option.bind_some _ _).symm.trans H; rw [hy200]; with_reducible exact H2_) | (have H2_ := (Option.bind_some _ _).symm.trans H; with_reducible exact H2_) | with_reducible exact H | (rw [hy200]; exact H) | exact H
                                have Ny200 := Aside0.mk hy200
                                clear hy200
                                have H' := Aside0.mk H
                                clear H
                                go_wp2_with (first | (go_at_call 23; (with_reducible refine (stileref01_Num.calls (wrap64 (x6_3)) t196 t197 t198 t199 _ A21.out).mono ?_); rintro e w23 ⟨rfl, hb⟩; have n0_ := Aside0.mk (Kd.R_below (by (with_reducible repeat (first | apply Kd.R_alloc | apply Kd.R_drewN | apply Kd.R_drew)); exact HO_4.out) hb); have n1_ := Aside0.mk (below_step (by repeat (first | (with_reducible first | exact HB.out | apply below_alloc | apply pw_below_drewN | apply below_drew1) | exact HB.out)) hb); clear HO_4; clear HB; have HO_4 := n0_; have HB := n1_; clear n0_ n1_; (try clear hb); (try clear hb2); (try clear hk); (try clear hi)) | ((with_reducible refine gate_builtin (b := .append) (xs := #[.tmp 63, .tmp 67]) rfl ?_); (try (refine gate_guard (by rfl) ?_; dsimp only)); at_builtin; refine Kd.R_append k40 (w0 := w) w.heap.size rfl (.tmp 63) (.tmp 67) 24 40 (.agg #[(.int .i64 0), (.int .i64 0), (.string ⟨#[]⟩), (.bool false)]) 40 rfl Try.underlying24 info40 rfl (by decide) (by omega) u4 x4_1 (⟨t196, t197, t198, t199⟩ : S40) [.int .i64 t196, .int .i64 t197, .string t198, .bool t199] (fun _ => True) (fun _ => False) rfl rfl ?aP (fun _ hk => hk.elim) ?aF ?aO ?aB ?aS ?aL ?_; (case aP => exact k40_mkM _ _ _ (⟨t196, t197, t198, t199⟩ : S40)); (case aB => exact (by repeat (first | (with_reducible first | exact HB.out | apply below_alloc | apply pw_below_drewN | apply below_drew1) | exact HB.out))); (case aF => exact (fun _ _ => trivial)); (case aO => exact (by (with_reducible repeat (first | apply Kd.R_alloc | apply Kd.R_drewN | apply Kd.R_drew)); exact HO_4.out)); (case aS => exact (below_size (by repeat (first | (with_reducible first | exact HB.out | apply below_alloc | apply pw_below_drewN | apply below_drew1) | exact HB.out)))); (case aL => have := LMc22.out; omega); intro v201 w24 ho hb hg hat; rw [← Ny200.out] at ho; have n0_ := Aside0.mk (hb); have n1_ := Aside0.mk (ho); clear HB; clear HO_4; have HB := n0_; have HO202 := n1_; clear n0_ n1_; clear ho hb hg hat))
                                repeat (go_quiet (first | (go_at_call 23; (with_reducible refine (stileref01_Num.calls (wrap64 (x6_3)) t196 t197 t198 t199 _ A21.out).mono ?_); rintro e w23 ⟨rfl, hb⟩; have n0_ := Aside0.mk (Kd.R_below (by (with_reducible repeat (first | apply Kd.R_alloc | apply Kd.R_drewN | apply Kd.R_drew)); exact HO_4.out) hb); have n1_ := Aside0.mk (below_step (by repeat (first | (with_reducible first | exact HB.out | apply below_alloc | apply pw_below_drewN | apply below_drew1) | exact HB.out)) hb); clear HO_4; clear HB; have HO_4 := n0_; have HB := n1_; clear n0_ n1_; (try clear hb); (try clear hb2); (try clear hk); (try clear hi)) | ((with_reducible refine gate_builtin (b := .append) (xs := #[.tmp 63, .tmp 67]) rfl ?_); (try (refine gate_guard (by rfl) ?_; dsimp only)); at_builtin; refine Kd.R_append k40 (w0 := w) w.heap.size rfl (.tmp 63) (.tmp 67) 24 40 (.agg #[(.int .i64 0), (.int .i64 0), (.string ⟨#[]⟩), (.bool false)]) 40 rfl Try.underlying24 info40 rfl (by decide) (by omega) u4 x4_1 (⟨t196, t197, t198, t199⟩ : S40) [.int .i64 t196, .int .i64 t197, .string t198, .bool t199] (fun _ => True) (fun _ => False) rfl rfl ?aP (fun _ hk => hk.elim) ?aF ?aO ?aB ?aS ?aL ?_; (case aP => exact k40_mkM _ _ _ (⟨t196, t197, t198, t199⟩ : S40)); (case aB => exact (by repeat (first | (with_reducible first | exact HB.out | apply below_alloc | apply pw_below_drewN | apply below_drew1) | exact HB.out))); (case aF => exact (fun _ _ => trivial)); (case aO => exact (by (with_reducible repeat (first | apply Kd.R_alloc | apply Kd.R_drewN | apply Kd.R_drew)); exact HO_4.out)); (case aS => exact (below_size (by repeat (first | (with_reducible first | exact HB.out | apply below_alloc | apply pw_below_drewN | apply below_drew1) | exact HB.out)))); (case aL => have := LMc22.out; omega); intro v201 w24 ho hb hg hat; rw [← Ny200.out] at ho; have n0_ := Aside0.mk (hb); have n1_ := Aside0.mk (ho); clear HB; clear HO_4; have HB := n0_; have HO202 := n1_; clear n0_ n1_; clear ho hb hg hat)); try go_wp2_with (first | (go_at_call 23; (with_reducible refine (stileref01_Num.calls (wrap64 (x6_3)) t196 t197 t198 t199 _ A21.out).mono ?_); rintro e w23 ⟨rfl, hb⟩; have n0_ := Aside0.mk (Kd.R_below (by (with_reducible repeat (first | apply Kd.R_alloc | apply Kd.R_drewN | apply Kd.R_drew)); exact HO_4.out) hb); have n1_ := Aside0.mk (below_step (by repeat (first | (with_reducible first | exact HB.out | apply below_alloc | apply pw_below_drewN | apply below_drew1) | exact HB.out)) hb); clear HO_4; clear HB; have HO_4 := n0_; have HB := n1_; clear n0_ n1_; (try clear hb); (try clear hb2); (try clear hk); (try clear hi)) | ((with_reducible refine gate_builtin (b := .append) (xs := #[.tmp 63, .tmp 67]) rfl ?_); (try (refine gate_guard (by rfl) ?_; dsimp only)); at_builtin; refine Kd.R_append k40 (w0 := w) w.heap.size rfl (.tmp 63) (.tmp 67) 24 40 (.agg #[(.int .i64 0), (.int .i64 0), (.string ⟨#[]⟩), (.bool false)]) 40 rfl Try.underlying24 info40 rfl (by decide) (by omega) u4 x4_1 (⟨t196, t197, t198, t199⟩ : S40) [.int .i64 t196, .int .i64 t197, .string t198, .bool t199] (fun _ => True) (fun _ => False) rfl rfl ?aP (fun _ hk => hk.elim) ?aF ?aO ?aB ?aS ?aL ?_; (case aP => exact k40_mkM _ _ _ (⟨t196, t197, t198, t199⟩ : S40)); (case aB => exact (by repeat (first | (with_reducible first | exact HB.out | apply below_alloc | apply pw_below_drewN | apply below_drew1) | exact HB.out))); (case aF => exact (fun _ _ => trivial)); (case aO => exact (by (with_reducible repeat (first | apply Kd.R_alloc | apply Kd.R_drewN | apply Kd.R_drew)); exact HO_4.out)); (case aS => exact (below_size (by repeat (first | (with_reducible first | exact HB.out | apply below_alloc | apply pw_below_drewN | apply below_drew1) | exact HB.out)))); (case aL => have := LMc22.out; omega); intro v201 w24 ho hb hg hat; rw [← Ny200.out] at ho; have n0_ := Aside0.mk (hb); have n1_ := Aside0.mk (ho); clear HB; clear HO_4; have HB := n0_; have HO202 := n1_; clear n0_ n1_; clear ho hb hg hat)))
                                go_roundg kj14
                                case measure => have := HK1.out; have := HJ1.out; have := HK3.out; have := HJ14.out; omega
                                case rel => exact ⟨(y200), (wrap64 ((wrap64 (x5_1 + 8)) + 1)), (by first | rfl | (simp; done) | (simp [*]; done)), H', ⟨by have := HK1.out; have := HJ1.out; have := HK3.out; have := HJ14.out; omega⟩, ⟨by (with_reducible repeat (first | apply Kd.R_alloc | apply Kd.R_drewN | apply Kd.R_drew)); exact HO202.out⟩, ⟨by repeat (first | (with_reducible first | exact HB.out | apply below_alloc | apply pw_below_drewN | apply below_drew1) | exact HB.out)⟩⟩
                              · rw [if_neg c22] at H
                                exact absurd H (by simp)
                  · rw [if_neg c14] at H
                    have c14b0 : ((rd l0 x5_1) == 1) = false := beq_eq_false_iff_ne.mpr c14
                    have c14b1 : ((rd l0 x5_1) != 1) = true := bne_iff_ne.mpr c14
                    by_cases c25 : (rd l0 x5_1) = 2
                    · rw [if_pos c25] at H
                      have c25b0 : ((rd l0 x5_1) == 2) = true := beq_iff_eq.mpr c25
                      have c25b1 : ((rd l0 x5_1) != 2) = false := bne_eq_false_iff_eq.mpr c25
                      clear c25
                      have HC26 := Aside0.mk H
                      clear H
                      have p191 : 0 ≤ (x5_1 : Int) := of_decide_eq_true (by first | (with_reducible assumption) | assumption)
                      have q191 : x5_1 < (l0.length : Int) := of_decide_eq_true (by first | (with_reducible assumption) | assumption)
                      obtain ⟨ad191, e191, hx191_0⟩ := Kd.at_int HR0.out x5_1 p191 q191
                      cases e191
                      replace hx191_0 := (HB.out.cell (World.block_lt_of_cell? w _ hx191_0)).trans hx191_0
                      replace p191 := eq_true p191
                      replace q191 := eq_true q191
                      go_upto_if 77 with (fail)
                      repeat (go_quiet (fail); go_upto_if 77 with (fail))
                      go_cut [8] (fun v8 wc => ∃ (kq : Nat) (x8_25 : Int), v8 = .int .i64 x8_25 ∧ Aside0 (stileref04_Decode.j4 kq l0 x4_1 x5_1 x8_25 = some (r1, r2)) ∧ Aside0 (kq ≤ kj1) ∧ Aside0 (Kd.R k40 40 wc w.heap.size (fun _ => True) u4 x4_1) ∧ Aside0 (Below w.heap.size w wc))
                      case first =>
                        have H := HC26.out
                        clear HC26
                        by_cases c27 : (wrap64 (x5_1 + 2)) < (l0.length : Int)
                        · rw [if_pos c27] at H
                          have c27b0 : decide ((wrap64 (x5_1 + 2)) < (l0.length : Int)) = true := decide_eq_true c27
                          clear c27
                          (first | rw [c27b0] | (simp only [i64_w, i32_w]; rw [c27b0]) | skip)
                          obtain ⟨ji28, hji28⟩ : ∃ j_ : Int, (wrap64 (x5_1 + 1)) = j_ := ⟨_, rfl⟩
                          replace H : (if 0 ≤ (ji28) then (if (ji28) < (l0.length : Int) then (if 0 ≤ (wrap64 (x5_1 + 2)) then (stileref04_Decode.j4 kj1 l0 x4_1 x5_1 (wrap64 ((wrap64 (rd l0 (ji28))) + (wrap64 (256 * (wrap64 (rd l0 (wrap64 (x5_1 + 2))))))))) else (none)) else (none)) else (none)) = some (r1, r2) := by first | (rw [hji28] at H; exact H) | (simp only [hji28] at H ⊢; exact H)
                          have hji28w : (IntKind.i64.wrap (x5_1 + 1)) = ji28 := (i64_w _).trans hji28
                          by_cases c29 : 0 ≤ (ji28)
                          · rw [if_pos c29] at H
                            have c29b0 : decide (0 ≤ (ji28)) = true := decide_eq_true c29
                            clear c29
                            by_cases c30 : (ji28) < (l0.length : Int)
                            · rw [if_pos c30] at H
                              have c30b0 : decide ((ji28) < (l0.length : Int)) = true := decide_eq_true c30
                              clear c30
                              obtain ⟨ji31, hji31⟩ : ∃ j_ : Int, (wrap64 (x5_1 + 2)) = j_ := ⟨_, rfl⟩
                              replace H : (if 0 ≤ (ji31) then (stileref04_Decode.j4 kj1 l0 x4_1 x5_1 (wrap64 ((wrap64 (rd l0 (ji28))) + (wrap64 (256 * (wrap64 (rd l0 (ji31)))))))) else (none)) = some (r1, r2) := by first | (rw [hji31] at H; exact H) | (simp only [hji31] at H ⊢; exact H)
                              (try rw [hji31] at c27b0)
                              have hji31w : (IntKind.i64.wrap (x5_1 + 2)) = ji31 := (i64_w _).trans hji31
                              by_cases c32 : 0 ≤ (ji31)
                              · rw [if_pos c32] at H
                                have c32b0 : decide (0 ≤ (ji31)) = true := decide_eq_true c32
                                clear c32
                                have H' := Aside0.mk H
                                clear H
                                have p203 : 0 ≤ ((ji28) : Int) := of_decide_eq_true (by first | (with_reducible assumption) | assumption)
                                have q203 : (ji28) < (l0.length : Int) := of_decide_eq_true (by first | (with_reducible assumption) | assumption)
                                obtain ⟨ad203, e203, hx203_0⟩ := Kd.at_int HR0.out (ji28) p203 q203
                                obtain rfl : ad191 = ad203 := (by injection e203)
                                replace hx203_0 := (HB.out.cell (World.block_lt_of_cell? w _ hx203_0)).trans hx203_0
                                replace p203 := eq_true p203
                                replace q203 := eq_true q203
                                have p204 : 0 ≤ ((ji31) : Int) := of_decide_eq_true (by first | (with_reducible assumption) | assumption)
                                have q204 : (ji31) < (l0.length : Int) := of_decide_eq_true (by first | (with_reducible assumption) | assumption)
                                obtain ⟨ad204, e204, hx204_0⟩ := Kd.at_int HR0.out (ji31) p204 q204
                                obtain rfl : ad191 = ad204 := (by injection e204)
                                replace hx204_0 := (HB.out.cell (World.block_lt_of_cell? w _ hx204_0)).trans hx204_0
                                replace p204 := eq_true p204
                                replace q204 := eq_true q204
                                go_wp2
                                repeat (go_quiet (fail); try go_wp2)
                                go_meet
                                case rel => exact ⟨_, (wrap64 ((wrap64 (rd l0 (ji28))) + (wrap64 (256 * (wrap64 (rd l0 (ji31))))))), (by first | rfl | (simp; done) | (simp only [← hji28, ← hji31] <;> (first | rfl | simp)) | (simp [*]; done)), H', ⟨by have := HK1.out; have := HJ1.out; first | omega | exact Nat.le_refl _⟩, ⟨by (with_reducible repeat (first | apply Kd.R_alloc | apply Kd.R_drewN | apply Kd.R_drew)); exact HO_4.out⟩, ⟨by repeat (first | (with_reducible first | exact HB.out | apply below_alloc | apply pw_below_drewN | apply below_drew1) | exact HB.out)⟩⟩
                              · rw [if_neg c32] at H
                                exact absurd H (by simp)
                            · rw [if_neg c30] at H
                              exact absurd H (by simp)
                          · rw [if_neg c29] at H
                            exact absurd H (by simp)
                        · rw [if_neg c27] at H
                          have c27b0 : decide ((wrap64 (x5_1 + 2)) < (l0.length : Int)) = false := decide_eq_false c27
                          clear c27
                          (first | rw [c27b0] | (simp only [i64_w, i32_w]; rw [c27b0]) | skip)
                          have H' := Aside0.mk H
                          clear H
                          go_wp2
                          repeat (go_quiet (fail); try go_wp2)
                          go_meet
                          case rel => exact ⟨_, (0), (by first | rfl | (simp; done) | (simp [*]; done)), H', ⟨by have := HK1.out; have := HJ1.out; first | omega | exact Nat.le_refl _⟩, ⟨by (with_reducible repeat (first | apply Kd.R_alloc | apply Kd.R_drewN | apply Kd.R_drew)); exact HO_4.out⟩, ⟨by repeat (first | (with_reducible first | exact HB.out | apply below_alloc | apply pw_below_drewN | apply below_drew1) | exact HB.out)⟩⟩
                      case rest =>
                        clear HC26
                        try clear c1
                        try clear p1
                        try clear q1
                        try clear hx1
                        try clear qi1
                        try clear c2
                        try clear p2
                        try clear q2
                        try clear hx2
                        try clear c3
                        try clear c3b0
                        try clear c4
                        try clear c4b0
                        try clear c4b1
                        try clear c5
                        try clear c5b0
                        try clear p6
                        try clear c8
                        try clear c9
                        try clear c9b0
                        try clear c10
                        try clear c10b0
                        try clear c11
                        try clear c11b0
                        try clear c11b1
                        try clear c12
                        try clear c14
                        try clear c14b0
                        try clear c14b1
                        try clear c16
                        try clear c16b0
                        try clear c17
                        try clear c19
                        try clear c19b0
                        try clear p19
                        try clear q19
                        try clear hx19
                        try clear qi19
                        try clear c20
                        try clear c20b0
                        try clear p20
                        try clear q20
                        try clear hx20
                        try clear c22
                        try clear c25
                        try clear c25b0
                        try clear c25b1
                        try clear c27
                        try clear c27b0
                        try clear c29
                        try clear c29b0
                        try clear c30
                        try clear c30b0
                        try clear c32
                        try clear c32b0
                        try clear hx190_0
                        try clear hx191_0
                        try clear hx195_0
                        try clear hx203_0
                        try clear hx204_0
                        try clear p1
                        try clear p190
                        try clear p191
                        try clear p195
                        try clear p2
                        try clear p203
                        try clear p204
                        try clear p6
                        try clear q1
                        try clear q190
                        try clear q191
                        try clear q195
                        try clear q203
                        try clear q204
                        obtain ⟨kq, x8_25, rfl, HA, HJ25, HO_4, HB⟩ := hcut
                        cases kq with
                        | zero => exact absurd HA.out (by simp [stileref04_Decode.j4])
                        | succ kj25 =>
                          have H := HA.out
                          clear HA
                          simp only [stileref04_Decode.j4] at H
                          obtain ⟨ji33, hji33⟩ : ∃ j_ : Int, (mn (wrap64 ((wrap64 (x5_1 + 3)) + x8_25)) (l0.length : Int)) = j_ := ⟨_, rfl⟩
                          replace H : (if 0 ≤ (mn (wrap64 (x5_1 + 3)) (ji33)) then (if (mn (wrap64 (x5_1 + 3)) (ji33)) ≤ (ji33) then (if (ji33) ≤ (l0.length : Int) then ((stileref01_Text.f (strOfNums ((l0.take ((ji33) : Int).toNat).drop ((mn (wrap64 (x5_1 + 3)) (ji33)) : Int).toNat))).bind fun bt206 => (if x4_1.length < 3518437208883 then (stileref04_Decode.l0 kj25 l0 (x4_1 ++ [(⟨bt206.1, bt206.2.1, bt206.2.2.1, bt206.2.2.2⟩ : S40)]) (wrap64 ((wrap64 ((wrap64 (x5_1 + 2)) + x8_25)) + 1))) else (none))) else (none)) else (none)) else (none)) = some (r1, r2) := by first | (rw [hji33] at H; exact H) | (simp only [hji33] at H ⊢; exact H)
                          have hji33_ : (if (l0.length : Int) < (wrap64 ((wrap64 (x5_1 + 3)) + x8_25)) then (l0.length : Int) else (wrap64 ((wrap64 (x5_1 + 3)) + x8_25))) = ji33 := hji33
                          obtain ⟨ji34, hji34⟩ : ∃ j_ : Int, (mn (wrap64 (x5_1 + 3)) (ji33)) = j_ := ⟨_, rfl⟩
                          replace H : (if 0 ≤ (ji34) then (if (ji34) ≤ (ji33) then (if (ji33) ≤ (l0.length : Int) then ((stileref01_Text.f (strOfNums ((l0.take ((ji33) : Int).toNat).drop ((ji34) : Int).toNat))).bind fun bt206 => (if x4_1.length < 3518437208883 then (stileref04_Decode.l0 kj25 l0 (x4_1 ++ [(⟨bt206.1, bt206.2.1, bt206.2.2.1, bt206.2.2.2⟩ : S40)]) (wrap64 ((wrap64 ((wrap64 (x5_1 + 2)) + x8_25)) + 1))) else (none))) else (none)) else (none)) else (none)) = some (r1, r2) := by first | (rw [hji34] at H; exact H) | (simp only [hji34] at H ⊢; exact H)
                          have hji34_ : (if (ji33) < (wrap64 (x5_1 + 3)) then (ji33) else (wrap64 (x5_1 + 3))) = ji34 := hji34
                          by_cases c35 : 0 ≤ (ji34)
                          · rw [if_pos c35] at H
                            have c35b0 := eq_true c35
                            have c35b1 : decide (0 ≤ (ji34)) = true := decide_eq_true c35
                            clear c35
                            by_cases c36 : (ji34) ≤ (ji33)
                            · rw [if_pos c36] at H
                              have c36b0 := eq_true c36
                              have c36b1 : decide ((ji34) ≤ (ji33)) = true := decide_eq_true c36
                              clear c36
                              by_cases c37 : (ji33) ≤ (l0.length : Int)
                              · rw [if_pos c37] at H
                                have c37b0 := eq_true c37
                                have c37b1 : decide ((ji33) ≤ (l0.length : Int)) = true := decide_eq_true c37
                                clear c37
                                replace H := Option.bind_eq_some_iff.mp H
                                obtain ⟨⟨t206, t207, t208, t209⟩, A380, H⟩ := H
                                replace H : (if x4_1.length < 3518437208883 then (stileref04_Decode.l0 kj25 l0 (x4_1 ++ [(⟨t206, t207, t208, t209⟩ : S40)]) (wrap64 ((wrap64 ((wrap64 (x5_1 + 2)) + x8_25)) + 1))) else (none)) = some (r1, r2) := H
                                have A38 := Aside0.mk A380
                                clear A380
                                by_cases c39 : x4_1.length < 3518437208883
                                · rw [if_pos c39] at H
                                  have LMc39 := Aside0.mk c39
                                  clear c39
                                  obtain ⟨y210, hy210⟩ : ∃ y_ : List (S40), y_ = (x4_1 ++ [(⟨t206, t207, t208, t209⟩ : S40)]) := ⟨_, rfl⟩
                                  replace H : (stileref04_Decode.l0 kj25 l0 y210 (wrap64 ((wrap64 ((wrap64 (x5_1 + 2)) + x8_25)) + 1))) = some (r1, r2) := by first | (rw [hy210]; with_reducible exact H) | (have H2_ := (Option.bind_some _ _).symm.trans H; rw [hy210]; with_reducible exact H2_) | (have H2_ := (Option.bind_some _ _).symm.trans H; with_reducible exact H2_) | with_reducible exact H | (rw [hy210]; exact H) | exact H
                                  have Ny210 := Aside0.mk hy210
                                  clear hy210
                                  have H' := Aside0.mk H
                                  clear H
                                  obtain ⟨i040, hi040, _, hsz40, _⟩ := info_parts info5
                                  obtain ⟨A40, hcut40, hA40, hC40⟩ := print_mid_of (P := Try.prog) (Value.int .u8) 0 25 5 .i64 .i64 Try.underlying25 hi040 hsz40 (some ad191) c0 l0 (ji34) (ji33) (of_decide_eq_true (by first | (with_reducible assumption) | assumption)) (by first | omega | exact of_decide_eq_true (by first | (with_reducible assumption) | assumption)) (of_decide_eq_true (by first | (with_reducible assumption) | assumption)) HC0.out
                                  have HR205 := Aside0.mk (Kd.C_of_reads (h1 := fun _ => rfl) (hA40 _ (Kd.reads_of_C HR0.out)))
                                  have HC205 := Aside0.mk hC40
                                  clear hA40 hC40 hi040 hsz40
                                  have hcv41 := Kd.C_string (P := Try.prog) (A := A40) (c := (c0 - (ji34).toNat)) Try.underlying25 Try.underlying5 Try.underlying9 (Kd.C_below HR205.out HB.out)
                                  have hq_ : ji33 ≤ (l0.length : Int) := of_decide_eq_true (by first | (with_reducible assumption) | assumption)
                                  have hcv41b := hcv41
                                  rw [show ((l0.take (ji33 : Int).toNat).drop (ji34 : Int).toNat).length = ji33.toNat - ji34.toNat from by rw [List.length_drop, List.length_take]; omega] at hcv41b
                                  clear hq_
                                  go_wp2_with (first | (go_at_call 24; (with_reducible refine (stileref01_Text.calls (strOfNums ((l0.take ((ji33) : Int).toNat).drop ((ji34) : Int).toNat)) t206 t207 t208 t209 _ A38.out).mono ?_); rintro e w42 ⟨rfl, hb⟩; have n0_ := Aside0.mk (Kd.R_below (by (with_reducible repeat (first | apply Kd.R_alloc | apply Kd.R_drewN | apply Kd.R_drew)); exact HO_4.out) hb); have n1_ := Aside0.mk (below_step (by repeat (first | (with_reducible first | exact HB.out | apply below_alloc | apply pw_below_drewN | apply below_drew1) | exact HB.out)) hb); clear HO_4; clear HB; have HO_4 := n0_; have HB := n1_; clear n0_ n1_; (try clear hb); (try clear hb2); (try clear hk); (try clear hi)) | ((with_reducible refine gate_builtin (b := .append) (xs := #[.tmp 99, .tmp 109]) rfl ?_); (try (refine gate_guard (by rfl) ?_; dsimp only)); at_builtin; refine Kd.R_append k40 (w0 := w) w.heap.size rfl (.tmp 99) (.tmp 109) 24 40 (.agg #[(.int .i64 0), (.int .i64 0), (.string ⟨#[]⟩), (.bool false)]) 40 rfl Try.underlying24 info40 rfl (by decide) (by omega) u4 x4_1 (⟨t206, t207, t208, t209⟩ : S40) [.int .i64 t206, .int .i64 t207, .string t208, .bool t209] (fun _ => True) (fun _ => False) rfl rfl ?aP (fun _ hk => hk.elim) ?aF ?aO ?aB ?aS ?aL ?_; (case aP => exact k40_mkM _ _ _ (⟨t206, t207, t208, t209⟩ : S40)); (case aB => exact (by repeat (first | (with_reducible first | exact HB.out | apply below_alloc | apply pw_below_drewN | apply below_drew1) | exact HB.out))); (case aF => exact (fun _ _ => trivial)); (case aO => exact (by (with_reducible repeat (first | apply Kd.R_alloc | apply Kd.R_drewN | apply Kd.R_drew)); exact HO_4.out)); (case aS => exact (below_size (by repeat (first | (with_reducible first | exact HB.out | apply below_alloc | apply pw_below_drewN | apply below_drew1) | exact HB.out)))); (case aL => have := LMc39.out; omega); intro v211 w43 ho hb hg hat; rw [← Ny210.out] at ho; have n0_ := Aside0.mk (hb); have n1_ := Aside0.mk (ho); clear HB; clear HO_4; have HB := n0_; have HO212 := n1_; clear n0_ n1_; clear ho hb hg hat))
                                  repeat (go_quiet (first | (go_at_call 24; (with_reducible refine (stileref01_Text.calls (strOfNums ((l0.take ((ji33) : Int).toNat).drop ((ji34) : Int).toNat)) t206 t207 t208 t209 _ A38.out).mono ?_); rintro e w42 ⟨rfl, hb⟩; have n0_ := Aside0.mk (Kd.R_below (by (with_reducible repeat (first | apply Kd.R_alloc | apply Kd.R_drewN | apply Kd.R_drew)); exact HO_4.out) hb); have n1_ := Aside0.mk (below_step (by repeat (first | (with_reducible first | exact HB.out | apply below_alloc | apply pw_below_drewN | apply below_drew1) | exact HB.out)) hb); clear HO_4; clear HB; have HO_4 := n0_; have HB := n1_; clear n0_ n1_; (try clear hb); (try clear hb2); (try clear hk); (try clear hi)) | ((with_reducible refine gate_builtin (b := .append) (xs := #[.tmp 99, .tmp 109]) rfl ?_); (try (refine gate_guard (by rfl) ?_; dsimp only)); at_builtin; refine Kd.R_append k40 (w0 := w) w.heap.size rfl (.tmp 99) (.tmp 109) 24 40 (.agg #[(.int .i64 0), (.int .i64 0), (.string ⟨#[]⟩), (.bool false)]) 40 rfl Try.underlying24 info40 rfl (by decide) (by omega) u4 x4_1 (⟨t206, t207, t208, t209⟩ : S40) [.int .i64 t206, .int .i64 t207, .string t208, .bool t209] (fun _ => True) (fun _ => False) rfl rfl ?aP (fun _ hk => hk.elim) ?aF ?aO ?aB ?aS ?aL ?_; (case aP => exact k40_mkM _ _ _ (⟨t206, t207, t208, t209⟩ : S40)); (case aB => exact (by repeat (first | (with_reducible first | exact HB.out | apply below_alloc | apply pw_below_drewN | apply below_drew1) | exact HB.out))); (case aF => exact (fun _ _ => trivial)); (case aO => exact (by (with_reducible repeat (first | apply Kd.R_alloc | apply Kd.R_drewN | apply Kd.R_drew)); exact HO_4.out)); (case aS => exact (below_size (by repeat (first | (with_reducible first | exact HB.out | apply below_alloc | apply pw_below_drewN | apply below_drew1) | exact HB.out)))); (case aL => have := LMc39.out; omega); intro v211 w43 ho hb hg hat; rw [← Ny210.out] at ho; have n0_ := Aside0.mk (hb); have n1_ := Aside0.mk (ho); clear HB; clear HO_4; have HB := n0_; have HO212 := n1_; clear n0_ n1_; clear ho hb hg hat)); try go_wp2_with (first | (go_at_call 24; (with_reducible refine (stileref01_Text.calls (strOfNums ((l0.take ((ji33) : Int).toNat).drop ((ji34) : Int).toNat)) t206 t207 t208 t209 _ A38.out).mono ?_); rintro e w42 ⟨rfl, hb⟩; have n0_ := Aside0.mk (Kd.R_below (by (with_reducible repeat (first | apply Kd.R_alloc | apply Kd.R_drewN | apply Kd.R_drew)); exact HO_4.out) hb); have n1_ := Aside0.mk (below_step (by repeat (first | (with_reducible first | exact HB.out | apply below_alloc | apply pw_below_drewN | apply below_drew1) | exact HB.out)) hb); clear HO_4; clear HB; have HO_4 := n0_; have HB := n1_; clear n0_ n1_; (try clear hb); (try clear hb2); (try clear hk); (try clear hi)) | ((with_reducible refine gate_builtin (b := .append) (xs := #[.tmp 99, .tmp 109]) rfl ?_); (try (refine gate_guard (by rfl) ?_; dsimp only)); at_builtin; refine Kd.R_append k40 (w0 := w) w.heap.size rfl (.tmp 99) (.tmp 109) 24 40 (.agg #[(.int .i64 0), (.int .i64 0), (.string ⟨#[]⟩), (.bool false)]) 40 rfl Try.underlying24 info40 rfl (by decide) (by omega) u4 x4_1 (⟨t206, t207, t208, t209⟩ : S40) [.int .i64 t206, .int .i64 t207, .string t208, .bool t209] (fun _ => True) (fun _ => False) rfl rfl ?aP (fun _ hk => hk.elim) ?aF ?aO ?aB ?aS ?aL ?_; (case aP => exact k40_mkM _ _ _ (⟨t206, t207, t208, t209⟩ : S40)); (case aB => exact (by repeat (first | (with_reducible first | exact HB.out | apply below_alloc | apply pw_below_drewN | apply below_drew1) | exact HB.out))); (case aF => exact (fun _ _ => trivial)); (case aO => exact (by (with_reducible repeat (first | apply Kd.R_alloc | apply Kd.R_drewN | apply Kd.R_drew)); exact HO_4.out)); (case aS => exact (below_size (by repeat (first | (with_reducible first | exact HB.out | apply below_alloc | apply pw_below_drewN | apply below_drew1) | exact HB.out)))); (case aL => have := LMc39.out; omega); intro v211 w43 ho hb hg hat; rw [← Ny210.out] at ho; have n0_ := Aside0.mk (hb); have n1_ := Aside0.mk (ho); clear HB; clear HO_4; have HB := n0_; have HO212 := n1_; clear n0_ n1_; clear ho hb hg hat)))
                                  go_roundg kj25
                                  case measure => have := HK1.out; have := HJ1.out; have := HJ25.out; omega
                                  case rel => exact ⟨(y210), (wrap64 ((wrap64 ((wrap64 (x5_1 + 2)) + x8_25)) + 1)), (by first | rfl | (simp; done) | (simp [*]; done)), H', ⟨by have := HK1.out; have := HJ1.out; have := HJ25.out; omega⟩, ⟨by (with_reducible repeat (first | apply Kd.R_alloc | apply Kd.R_drewN | apply Kd.R_drew)); exact HO212.out⟩, ⟨by repeat (first | (with_reducible first | exact HB.out | apply below_alloc | apply pw_below_drewN | apply below_drew1) | exact HB.out)⟩⟩
                                · rw [if_neg c39] at H
                                  exact absurd H (by simp)
                              · rw [if_neg c37] at H
                                exact absurd H (by simp)
                            · rw [if_neg c36] at H
                              exact absurd H (by simp)
                          · rw [if_neg c35] at H
                            exact absurd H (by simp)
                    · rw [if_neg c25] at H
                      have c25b0 : ((rd l0 x5_1) == 2) = false := beq_eq_false_iff_ne.mpr c25
                      have c25b1 : ((rd l0 x5_1) != 2) = true := bne_iff_ne.mpr c25
                      have HC44 := Aside0.mk H
                      clear H
                      have p191 : 0 ≤ (x5_1 : Int) := of_decide_eq_true (by first | (with_reducible assumption) | assumption)
                      have q191 : x5_1 < (l0.length : Int) := of_decide_eq_true (by first | (with_reducible assumption) | assumption)
                      obtain ⟨ad191, e191, hx191_0⟩ := Kd.at_int HR0.out x5_1 p191 q191
                      cases e191
                      replace hx191_0 := (HB.out.cell (World.block_lt_of_cell? w _ hx191_0)).trans hx191_0
                      replace p191 := eq_true p191
                      replace q191 := eq_true q191
                      go_upto_if 115 with (fail)
                      repeat (go_quiet (fail); go_upto_if 115 with (fail))
                      go_cut [115] (fun v115 wc => ∃ (kq : Nat) (x115_43 : Bool), v115 = .bool x115_43 ∧ Aside0 (stileref04_Decode.j5 kq l0 x4_1 x5_1 x115_43 = some (r1, r2)) ∧ Aside0 (kq ≤ kj1) ∧ Aside0 (Kd.R k40 40 wc w.heap.size (fun _ => True) u4 x4_1) ∧ Aside0 (Below w.heap.size w wc))
                      case first =>
                        have H := HC44.out
                        clear HC44
                        by_cases c45 : (rd l0 x5_1) = 3
                        · rw [if_pos c45] at H
                          have c45b0 : ((rd l0 x5_1) == 3) = true := beq_iff_eq.mpr c45
                          have c45b1 : ((rd l0 x5_1) != 3) = false := bne_eq_false_iff_eq.mpr c45
                          clear c45
                          (first | rw [c45b0] | (simp only [i64_w, i32_w]; rw [c45b0]) | skip)
                          have H' := Aside0.mk H
                          clear H
                          go_wp2
                          repeat (go_quiet (fail); try go_wp2)
                          go_meet
                          case rel => exact ⟨_, (((rd l0 x5_1) == 3)), (by first | rfl | (simp; done) | (simp [*]; done)), H', ⟨by have := HK1.out; have := HJ1.out; first | omega | exact Nat.le_refl _⟩, ⟨by (with_reducible repeat (first | apply Kd.R_alloc | apply Kd.R_drewN | apply Kd.R_drew)); exact HO_4.out⟩, ⟨by repeat (first | (with_reducible first | exact HB.out | apply below_alloc | apply pw_below_drewN | apply below_drew1) | exact HB.out)⟩⟩
                        · rw [if_neg c45] at H
                          have c45b0 : ((rd l0 x5_1) == 3) = false := beq_eq_false_iff_ne.mpr c45
                          have c45b1 : ((rd l0 x5_1) != 3) = true := bne_iff_ne.mpr c45
                          (first | rw [c45b0] | (simp only [i64_w, i32_w]; rw [c45b0]) | skip)
                          have H' := Aside0.mk H
                          clear H
                          go_wp2
                          repeat (go_quiet (fail); try go_wp2)
                          go_meet
                          case rel => exact ⟨_, (((rd l0 x5_1) == 4)), (by first | rfl | (simp; done) | (simp [*]; done)), H', ⟨by have := HK1.out; have := HJ1.out; first | omega | exact Nat.le_refl _⟩, ⟨by (with_reducible repeat (first | apply Kd.R_alloc | apply Kd.R_drewN | apply Kd.R_drew)); exact HO_4.out⟩, ⟨by repeat (first | (with_reducible first | exact HB.out | apply below_alloc | apply pw_below_drewN | apply below_drew1) | exact HB.out)⟩⟩
                      case rest =>
                        clear HC44
                        try clear c1
                        try clear p1
                        try clear q1
                        try clear hx1
                        try clear qi1
                        try clear c2
                        try clear p2
                        try clear q2
                        try clear hx2
                        try clear c3
                        try clear c3b0
                        try clear c4
                        try clear c4b0
                        try clear c4b1
                        try clear hcv4
                        try clear c5
                        try clear c5b0
                        try clear p6
                        try clear c8
                        try clear c9
                        try clear c9b0
                        try clear c10
                        try clear c10b0
                        try clear c11
                        try clear c11b0
                        try clear c11b1
                        try clear c12
                        try clear c14
                        try clear c14b0
                        try clear c14b1
                        try clear c16
                        try clear c16b0
                        try clear c17
                        try clear c19
                        try clear c19b0
                        try clear p19
                        try clear q19
                        try clear hx19
                        try clear qi19
                        try clear c20
                        try clear c20b0
                        try clear p20
                        try clear q20
                        try clear hx20
                        try clear c22
                        try clear c25
                        try clear c25b0
                        try clear c25b1
                        try clear c27
                        try clear c27b0
                        try clear c29
                        try clear c29b0
                        try clear c30
                        try clear c30b0
                        try clear c32
                        try clear c32b0
                        try clear c35
                        try clear c35b0
                        try clear c35b1
                        try clear c36
                        try clear c36b0
                        try clear c36b1
                        try clear c37
                        try clear c37b0
                        try clear c37b1
                        try clear c39
                        try clear hcv41
                        try clear c45
                        try clear c45b0
                        try clear c45b1
                        try clear hx190_0
                        try clear hx191_0
                        try clear hx195_0
                        try clear hx203_0
                        try clear hx204_0
                        try clear p1
                        try clear p19
                        try clear p190
                        try clear p191
                        try clear p195
                        try clear p2
                        try clear p20
                        try clear p203
                        try clear p204
                        try clear p6
                        try clear q1
                        try clear q19
                        try clear q190
                        try clear q191
                        try clear q195
                        try clear q2
                        try clear q20
                        try clear q203
                        try clear q204
                        obtain ⟨kq, x115_43, rfl, HA, HJ43, HO_4, HB⟩ := hcut
                        cases kq with
                        | zero => exact absurd HA.out (by simp [stileref04_Decode.j5])
                        | succ kj43 =>
                          have H := HA.out
                          clear HA
                          simp only [stileref04_Decode.j5] at H
                          by_cases c46 : x115_43 = true
                          · subst c46
                            have H1 : (if 0 ≤ x5_1 then (if x5_1 < (l0.length : Int) then (if x4_1.length < 3518437208883 then (stileref04_Decode.l0 kj43 l0 (x4_1 ++ [(⟨3, 0, (⟨#[]⟩ : ByteArray), ((rd l0 x5_1) == 4)⟩ : S40)]) (wrap64 (x5_1 + 1))) else (none)) else (none)) else (none)) = some (r1, r2) := by rw [if_pos rfl] at H; exact H
                            clear H
                            have H := H1
                            clear H1
                            by_cases c47 : 0 ≤ x5_1
                            · rw [if_pos c47] at H
                              have c47b0 : decide (0 ≤ x5_1) = true := decide_eq_true c47
                              clear c47
                              by_cases c48 : x5_1 < (l0.length : Int)
                              · rw [if_pos c48] at H
                                have c48b0 : decide (x5_1 < (l0.length : Int)) = true := decide_eq_true c48
                                clear c48
                                by_cases c49 : x4_1.length < 3518437208883
                                · rw [if_pos c49] at H
                                  have LMc49 := Aside0.mk c49
                                  clear c49
                                  obtain ⟨y214, hy214⟩ : ∃ y_ : List (S40), y_ = (x4_1 ++ [(⟨3, 0, (⟨#[]⟩ : ByteArray), ((rd l0 x5_1) == 4)⟩ : S40)]) := ⟨_, rfl⟩
                                  replace H : (stileref04_Decode.l0 kj43 l0 y214 (wrap64 (x5_1 + 1))) = some (r1, r2) := by first | (rw [hy214]; with_reducible exact H) | (have H2_ := (Option.bind_some _ _).symm.trans H; rw [hy214]; with_reducible exact H2_) | (have H2_ := (Option.bind_some _ _).symm.trans H; with_reducible exact H2_) | with_reducible exact H | (rw [hy214]; exact H) | exact H
                                  have Ny214 := Aside0.mk hy214
                                  clear hy214
                                  have H' := Aside0.mk H
                                  clear H
                                  have p213 : 0 ≤ (x5_1 : Int) := of_decide_eq_true (by first | (with_reducible assumption) | assumption)
                                  have q213 : x5_1 < (l0.length : Int) := of_decide_eq_true (by first | (with_reducible assumption) | assumption)
                                  obtain ⟨ad213, e213, hx213_0⟩ := Kd.at_int HR0.out x5_1 p213 q213
                                  obtain rfl : ad191 = ad213 := (by injection e213)
                                  replace hx213_0 := (HB.out.cell (World.block_lt_of_cell? w _ hx213_0)).trans hx213_0
                                  replace p213 := eq_true p213
                                  replace q213 := eq_true q213
                                  go_wp2_with (first | ((with_reducible refine gate_builtin (b := .append) (xs := #[.tmp 118, .tmp 125]) rfl ?_); (try (refine gate_guard (by rfl) ?_; dsimp only)); at_builtin; refine Kd.R_append k40 (w0 := w) w.heap.size rfl (.tmp 118) (.tmp 125) 24 40 (.agg #[(.int .i64 0), (.int .i64 0), (.string ⟨#[]⟩), (.bool false)]) 40 rfl Try.underlying24 info40 rfl (by decide) (by omega) u4 x4_1 (⟨3, 0, (⟨#[]⟩ : ByteArray), ((rd l0 x5_1) == 4)⟩ : S40) [.int .i64 3, .int .i64 0, .string (⟨#[]⟩ : ByteArray), .bool ((rd l0 x5_1) == 4)] (fun _ => True) (fun _ => False) rfl rfl ?aP (fun _ hk => hk.elim) ?aF ?aO ?aB ?aS ?aL ?_; (case aP => exact k40_mkM _ _ _ (⟨3, 0, (⟨#[]⟩ : ByteArray), ((rd l0 x5_1) == 4)⟩ : S40)); (case aB => exact (by repeat (first | (with_reducible first | exact HB.out | apply below_alloc | apply pw_below_drewN | apply below_drew1) | exact HB.out))); (case aF => exact (fun _ _ => trivial)); (case aO => exact (by (with_reducible repeat (first | apply Kd.R_alloc | apply Kd.R_drewN | apply Kd.R_drew)); exact HO_4.out)); (case aS => exact (below_size (by repeat (first | (with_reducible first | exact HB.out | apply below_alloc | apply pw_below_drewN | apply below_drew1) | exact HB.out)))); (case aL => have := LMc49.out; omega); intro v215 w50 ho hb hg hat; rw [← Ny214.out] at ho; have n0_ := Aside0.mk (hb); have n1_ := Aside0.mk (ho); clear HB; clear HO_4; have HB := n0_; have HO216 := n1_; clear n0_ n1_; clear ho hb hg hat))
                                  repeat (go_quiet (first | ((with_reducible refine gate_builtin (b := .append) (xs := #[.tmp 118, .tmp 125]) rfl ?_); (try (refine gate_guard (by rfl) ?_; dsimp only)); at_builtin; refine Kd.R_append k40 (w0 := w) w.heap.size rfl (.tmp 118) (.tmp 125) 24 40 (.agg #[(.int .i64 0), (.int .i64 0), (.string ⟨#[]⟩), (.bool false)]) 40 rfl Try.underlying24 info40 rfl (by decide) (by omega) u4 x4_1 (⟨3, 0, (⟨#[]⟩ : ByteArray), ((rd l0 x5_1) == 4)⟩ : S40) [.int .i64 3, .int .i64 0, .string (⟨#[]⟩ : ByteArray), .bool ((rd l0 x5_1) == 4)] (fun _ => True) (fun _ => False) rfl rfl ?aP (fun _ hk => hk.elim) ?aF ?aO ?aB ?aS ?aL ?_; (case aP => exact k40_mkM _ _ _ (⟨3, 0, (⟨#[]⟩ : ByteArray), ((rd l0 x5_1) == 4)⟩ : S40)); (case aB => exact (by repeat (first | (with_reducible first | exact HB.out | apply below_alloc | apply pw_below_drewN | apply below_drew1) | exact HB.out))); (case aF => exact (fun _ _ => trivial)); (case aO => exact (by (with_reducible repeat (first | apply Kd.R_alloc | apply Kd.R_drewN | apply Kd.R_drew)); exact HO_4.out)); (case aS => exact (below_size (by repeat (first | (with_reducible first | exact HB.out | apply below_alloc | apply pw_below_drewN | apply below_drew1) | exact HB.out)))); (case aL => have := LMc49.out; omega); intro v215 w50 ho hb hg hat; rw [← Ny214.out] at ho; have n0_ := Aside0.mk (hb); have n1_ := Aside0.mk (ho); clear HB; clear HO_4; have HB := n0_; have HO216 := n1_; clear n0_ n1_; clear ho hb hg hat)); try go_wp2_with (first | ((with_reducible refine gate_builtin (b := .append) (xs := #[.tmp 118, .tmp 125]) rfl ?_); (try (refine gate_guard (by rfl) ?_; dsimp only)); at_builtin; refine Kd.R_append k40 (w0 := w) w.heap.size rfl (.tmp 118) (.tmp 125) 24 40 (.agg #[(.int .i64 0), (.int .i64 0), (.string ⟨#[]⟩), (.bool false)]) 40 rfl Try.underlying24 info40 rfl (by decide) (by omega) u4 x4_1 (⟨3, 0, (⟨#[]⟩ : ByteArray), ((rd l0 x5_1) == 4)⟩ : S40) [.int .i64 3, .int .i64 0, .string (⟨#[]⟩ : ByteArray), .bool ((rd l0 x5_1) == 4)] (fun _ => True) (fun _ => False) rfl rfl ?aP (fun _ hk => hk.elim) ?aF ?aO ?aB ?aS ?aL ?_; (case aP => exact k40_mkM _ _ _ (⟨3, 0, (⟨#[]⟩ : ByteArray), ((rd l0 x5_1) == 4)⟩ : S40)); (case aB => exact (by repeat (first | (with_reducible first | exact HB.out | apply below_alloc | apply pw_below_drewN | apply below_drew1) | exact HB.out))); (case aF => exact (fun _ _ => trivial)); (case aO => exact (by (with_reducible repeat (first | apply Kd.R_alloc | apply Kd.R_drewN | apply Kd.R_drew)); exact HO_4.out)); (case aS => exact (below_size (by repeat (first | (with_reducible first | exact HB.out | apply below_alloc | apply pw_below_drewN | apply below_drew1) | exact HB.out)))); (case aL => have := LMc49.out; omega); intro v215 w50 ho hb hg hat; rw [← Ny214.out] at ho; have n0_ := Aside0.mk (hb); have n1_ := Aside0.mk (ho); clear HB; clear HO_4; have HB := n0_; have HO216 := n1_; clear n0_ n1_; clear ho hb hg hat)))
                                  go_roundg kj43
                                  case measure => have := HK1.out; have := HJ1.out; have := HJ43.out; omega
                                  case rel => exact ⟨(y214), (wrap64 (x5_1 + 1)), (by first | rfl | (simp; done) | (simp [*]; done)), H', ⟨by have := HK1.out; have := HJ1.out; have := HJ43.out; omega⟩, ⟨by (with_reducible repeat (first | apply Kd.R_alloc | apply Kd.R_drewN | apply Kd.R_drew)); exact HO216.out⟩, ⟨by repeat (first | (with_reducible first | exact HB.out | apply below_alloc | apply pw_below_drewN | apply below_drew1) | exact HB.out)⟩⟩
                                · rw [if_neg c49] at H
                                  exact absurd H (by simp)
                              · rw [if_neg c48] at H
                                exact absurd H (by simp)
                            · rw [if_neg c47] at H
                              exact absurd H (by simp)
                          · replace c46 := Bool.eq_false_iff.mpr c46
                            subst c46
                            have H1 : (some (([] : List (S40)), 41)) = some (r1, r2) := by rw [if_neg (show ¬ (false = true) by decide)] at H; exact H
                            clear H
                            have H := H1
                            clear H1
                            simp only [Option.some.injEq, Prod.mk.injEq] at H
                            obtain ⟨rfl, rfl⟩ := H
                            go_wp2
                            repeat (go_quiet (fail); try go_wp2)
                            go_ret2
                            exact ⟨_, by first | rfl | (simp [errW_none, errW_some] <;> rfl) | (simp [*, errW_none, errW_some] <;> rfl), by first | exact Kd.R_nil _ _ _ _ _ | exact Kd.N_nil _ _ _ _ _ | exact Kd.V_nil _ _ _ _ _ | exact Kd.Q_nil _ _ _ _ _ | exact Kd.S_nil _ _ _ _ _, by repeat (first | (with_reducible first | exact HB.out | apply below_alloc | apply pw_below_drewN | apply below_drew1) | exact HB.out)⟩
              · rw [if_neg c10] at H
                exact absurd H (by simp)
            · rw [if_neg c9] at H
              exact absurd H (by simp)
          · replace c8 := Bool.eq_false_iff.mpr c8
            subst c8
            have H1 : ((stileref04_Encode.f kj1 x4_1).bind fun bt217 => (if bt217.2 = 0 then (stileref04_Decode.j6 kj1 x4_1 ((strOfNums bt217.1).toList != (strOfNums l0).toList)) else (stileref04_Decode.j6 kj1 x4_1 true))) = some (r1, r2) := by rw [if_neg (show ¬ (false = true) by decide)] at H; exact H
            clear H
            have H := H1
            clear H1
            replace H := Option.bind_eq_some_iff.mp H
            obtain ⟨⟨t217, t218⟩, A510, H⟩ := H
            replace H : (if t218 = 0 then (stileref04_Decode.j6 kj1 x4_1 ((strOfNums t217).toList != (strOfNums l0).toList)) else (stileref04_Decode.j6 kj1 x4_1 true)) = some (r1, r2) := H
            have A51 := Aside0.mk A510
            clear A510
            have HC52 := Aside0.mk H
            clear H
            obtain ⟨Ao53, co53, eo53⟩ := Kd.R_slice HO_4.out
            subst eo53
            go_upto_region 28 with (first | (go_at_call 10; (with_reducible refine (stileref04_Encode.calls kj1 _ _ x4_1 t217 t218 _ ?side1 ?side2 A51.out).mono ?_); (case side1 => repeat (first | exact (Kd.R_reads' HO_4.out).2.2 | (with_reducible refine Kd.C_alloc ?_ _) | (with_reducible refine Kd.C_drewN ?_ _) | (with_reducible refine Kd.C_drew ?_))); (case side2 => exact (Kd.R_reads' HO_4.out).2.1); rintro e w54 ⟨v219, rfl, ho0, hb⟩; have n0_ := Aside0.mk (Kd.R_below (by (with_reducible repeat (first | apply Kd.R_alloc | apply Kd.R_drewN | apply Kd.R_drew)); exact HO_4.out) hb); have n1_ := Aside0.mk (Kd.R_lower ho0 (below_size (by repeat (first | (with_reducible first | exact HB.out | apply below_alloc | apply pw_below_drewN | apply below_drew1) | exact HB.out)))); have n2_ := Aside0.mk (below_step (by repeat (first | (with_reducible first | exact HB.out | apply below_alloc | apply pw_below_drewN | apply below_drew1) | exact HB.out)) hb); clear HO_4; clear HB; have HO_4 := n0_; have HO220 := n1_; have HB := n2_; clear n0_ n1_ n2_; (try clear hb); (try clear hb2); (try clear hk); (try clear hi); (try clear ho0)))
            repeat (go_quiet (first | (go_at_call 10; (with_reducible refine (stileref04_Encode.calls kj1 _ _ x4_1 t217 t218 _ ?side1 ?side2 A51.out).mono ?_); (case side1 => repeat (first | exact (Kd.R_reads' HO_4.out).2.2 | (with_reducible refine Kd.C_alloc ?_ _) | (with_reducible refine Kd.C_drewN ?_ _) | (with_reducible refine Kd.C_drew ?_))); (case side2 => exact (Kd.R_reads' HO_4.out).2.1); rintro e w54 ⟨v219, rfl, ho0, hb⟩; have n0_ := Aside0.mk (Kd.R_below (by (with_reducible repeat (first | apply Kd.R_alloc | apply Kd.R_drewN | apply Kd.R_drew)); exact HO_4.out) hb); have n1_ := Aside0.mk (Kd.R_lower ho0 (below_size (by repeat (first | (with_reducible first | exact HB.out | apply below_alloc | apply pw_below_drewN | apply below_drew1) | exact HB.out)))); have n2_ := Aside0.mk (below_step (by repeat (first | (with_reducible first | exact HB.out | apply below_alloc | apply pw_below_drewN | apply below_drew1) | exact HB.out)) hb); clear HO_4; clear HB; have HO_4 := n0_; have HO220 := n1_; have HB := n2_; clear n0_ n1_ n2_; (try clear hb); (try clear hb2); (try clear hk); (try clear hi); (try clear ho0))); go_upto_region 28 with (first | (go_at_call 10; (with_reducible refine (stileref04_Encode.calls kj1 _ _ x4_1 t217 t218 _ ?side1 ?side2 A51.out).mono ?_); (case side1 => repeat (first | exact (Kd.R_reads' HO_4.out).2.2 | (with_reducible refine Kd.C_alloc ?_ _) | (with_reducible refine Kd.C_drewN ?_ _) | (with_reducible refine Kd.C_drew ?_))); (case side2 => exact (Kd.R_reads' HO_4.out).2.1); rintro e w54 ⟨v219, rfl, ho0, hb⟩; have n0_ := Aside0.mk (Kd.R_below (by (with_reducible repeat (first | apply Kd.R_alloc | apply Kd.R_drewN | apply Kd.R_drew)); exact HO_4.out) hb); have n1_ := Aside0.mk (Kd.R_lower ho0 (below_size (by repeat (first | (with_reducible first | exact HB.out | apply below_alloc | apply pw_below_drewN | apply below_drew1) | exact HB.out)))); have n2_ := Aside0.mk (below_step (by repeat (first | (with_reducible first | exact HB.out | apply below_alloc | apply pw_below_drewN | apply below_drew1) | exact HB.out)) hb); clear HO_4; clear HB; have HO_4 := n0_; have HO220 := n1_; have HB := n2_; clear n0_ n1_ n2_; (try clear hb); (try clear hb2); (try clear hk); (try clear hi); (try clear ho0))))
            (try simp only [Act.put, List.setIfInBounds_toArray, List.set_cons_zero, List.set_cons_succ])
            go_cut [142] (fun v142 wc => ∃ (kq : Nat) (x142_51 : Bool), v142 = .bool x142_51 ∧ Aside0 (stileref04_Decode.j6 kq x4_1 x142_51 = some (r1, r2)) ∧ Aside0 (kq ≤ kj1) ∧ Aside0 (Kd.R k40 40 wc w.heap.size (fun _ => True) (.slice Ao53 x4_1.length co53) x4_1) ∧ Aside0 (Below w.heap.size w wc))
            case first =>
              have H := HC52.out
              clear HC52
              by_cases c55 : t218 = 0
              · rw [if_pos c55] at H
                have c55b0 : (t218 == 0) = true := beq_iff_eq.mpr c55
                have c55b1 : (t218 != 0) = false := bne_eq_false_iff_eq.mpr c55
                clear c55
                (first | rw [c55b0] | (simp only [i64_w, i32_w]; rw [c55b0]) | skip)
                have H' := Aside0.mk H
                clear H
                have hcv56 := own_string (P := Try.prog) Try.underlying25 Try.underlying5 Try.underlying9 (Kd.own_of_R HO220.out)
                have hcv57 := Kd.C_string (P := Try.prog) (A := A0) (c := c0) Try.underlying25 Try.underlying5 Try.underlying9 (Kd.C_below HR0.out HB.out)
                go_wp2
                repeat (go_quiet (fail); try go_wp2)
                go_meet
                case rel => exact ⟨_, (((strOfNums t217).toList != (strOfNums l0).toList)), (by first | rfl | (simp; done) | (simp [*]; done)), H', ⟨by have := HK1.out; have := HJ1.out; first | omega | exact Nat.le_refl _⟩, ⟨by (with_reducible repeat (first | apply Kd.R_alloc | apply Kd.R_drewN | apply Kd.R_drew)); exact HO_4.out⟩, ⟨by repeat (first | (with_reducible first | exact HB.out | apply below_alloc | apply pw_below_drewN | apply below_drew1) | exact HB.out)⟩⟩
              · rw [if_neg c55] at H
                have c55b0 : (t218 == 0) = false := beq_eq_false_iff_ne.mpr c55
                have c55b1 : (t218 != 0) = true := bne_iff_ne.mpr c55
                (first | rw [c55b0] | (simp only [i64_w, i32_w]; rw [c55b0]) | skip)
                have H' := Aside0.mk H
                clear H
                go_wp2
                repeat (go_quiet (fail); try go_wp2)
                go_meet
                case rel => exact ⟨_, (true), (by first | rfl | (simp; done) | (simp [*]; done)), H', ⟨by have := HK1.out; have := HJ1.out; first | omega | exact Nat.le_refl _⟩, ⟨by (with_reducible repeat (first | apply Kd.R_alloc | apply Kd.R_drewN | apply Kd.R_drew)); exact HO_4.out⟩, ⟨by repeat (first | (with_reducible first | exact HB.out | apply below_alloc | apply pw_below_drewN | apply below_drew1) | exact HB.out)⟩⟩
            case rest =>
              clear HC52
              try clear c1
              try clear p1
              try clear q1
              try clear hx1
              try clear qi1
              try clear c2
              try clear p2
              try clear q2
              try clear hx2
              try clear c3
              try clear c3b0
              try clear c4
              try clear c4b0
              try clear c4b1
              try clear hcv4
              try clear c5
              try clear c5b0
              try clear hcv5
              try clear p6
              try clear c8
              try clear c9
              try clear c9b0
              try clear c10
              try clear c10b0
              try clear c11
              try clear c11b0
              try clear c11b1
              try clear c12
              try clear c14
              try clear c14b0
              try clear c14b1
              try clear c16
              try clear c16b0
              try clear c17
              try clear c19
              try clear c19b0
              try clear p19
              try clear q19
              try clear hx19
              try clear qi19
              try clear c20
              try clear c20b0
              try clear p20
              try clear q20
              try clear hx20
              try clear p21
              try clear q21
              try clear hx21
              try clear c22
              try clear c25
              try clear c25b0
              try clear c25b1
              try clear c27
              try clear c27b0
              try clear c29
              try clear c29b0
              try clear c30
              try clear c30b0
              try clear c32
              try clear c32b0
              try clear c35
              try clear c35b0
              try clear c35b1
              try clear c36
              try clear c36b0
              try clear c36b1
              try clear c37
              try clear c37b0
              try clear c37b1
              try clear c39
              try clear hcv41
              try clear c45
              try clear c45b0
              try clear c45b1
              try clear c46
              try clear c47
              try clear c47b0
              try clear c48
              try clear c48b0
              try clear c49
              try clear c55
              try clear c55b0
              try clear c55b1
              try clear hcv56
              try clear hcv57
              try clear hx190_0
              try clear hx191_0
              try clear hx195_0
              try clear hx203_0
              try clear hx204_0
              try clear hx213_0
              try clear p1
              try clear p19
              try clear p190
              try clear p191
              try clear p195
              try clear p2
              try clear p20
              try clear p203
              try clear p204
              try clear p213
              try clear p6
              try clear q1
              try clear q19
              try clear q190
              try clear q191
              try clear q195
              try clear q2
              try clear q20
              try clear q203
              try clear q204
              try clear q213
              obtain ⟨kq, x142_51, rfl, HA, HJ51, HO_4, HB⟩ := hcut
              cases kq with
              | zero => exact absurd HA.out (by simp [stileref04_Decode.j6])
              | succ kj51 =>
                have H := HA.out
                clear HA
                simp only [stileref04_Decode.j6] at H
                by_cases c58 : x142_51 = true
                · subst c58
                  have H1 : (some (([] : List (S40)), 41)) = some (r1, r2) := by rw [if_pos rfl] at H; exact H
                  clear H
                  have H := H1
                  clear H1
                  simp only [Option.some.injEq, Prod.mk.injEq] at H
                  obtain ⟨rfl, rfl⟩ := H
                  go_wp2
                  repeat (go_quiet (fail); try go_wp2)
                  go_ret2
                  exact ⟨_, by first | rfl | (simp [errW_none, errW_some] <;> rfl) | (simp [*, errW_none, errW_some] <;> rfl), by first | exact Kd.R_nil _ _ _ _ _ | exact Kd.N_nil _ _ _ _ _ | exact Kd.V_nil _ _ _ _ _ | exact Kd.Q_nil _ _ _ _ _ | exact Kd.S_nil _ _ _ _ _, by repeat (first | (with_reducible first | exact HB.out | apply below_alloc | apply pw_below_drewN | apply below_drew1) | exact HB.out)⟩
                · replace c58 := Bool.eq_false_iff.mpr c58
                  subst c58
                  have H1 : (some (x4_1, 0)) = some (r1, r2) := by rw [if_neg (show ¬ (false = true) by decide)] at H; exact H
                  clear H
                  have H := H1
                  clear H1
                  simp only [Option.some.injEq, Prod.mk.injEq] at H
                  obtain ⟨rfl, rfl⟩ := H
                  go_wp2
                  repeat (go_quiet (fail); try go_wp2)
                  go_ret2
                  exact ⟨_, by first | rfl | (simp [errW_none, errW_some] <;> rfl) | (simp [*, errW_none, errW_some] <;> rfl), by (with_reducible repeat (first | apply Kd.R_alloc | apply Kd.R_drewN | apply Kd.R_drew)); exact HO_4.out, by repeat (first | (with_reducible first | exact HB.out | apply below_alloc | apply pw_below_drewN | apply below_drew1) | exact HB.out)⟩

end Go.Proofs.Ythcoiomnlcagcaa.PRQ

namespace Go.Proofs.Ythcoiomnlcagcaa
open Go.RowKit Go.Proofs.YthcoiomnlcagcaaW.PrintWords Go.Proofs.YthcoiomnlcagcaaW.PrintLast Go.Proofs.YthcoiomnlcagcaaW.PrintMore Go.Proofs.Ythcoiomnlcagcaa.PRQ
set_option linter.unusedVariables false
set_option linter.unusedSimpArgs false
namespace Rl
/-- a row that is some bytes' -/
def IsRowOf (b : List Int) (x : List S40) : Prop := long x = false ∧ x.all right = true ∧ bytesR x = b
def Tells (b : List Int) (r : List S40 × Int) : Prop := r = ([], 41) ∨ ∃ x, r = (x, 0) ∧ IsRowOf b x ∧ ∀ y ∈ x, N64 y
def Must (b : List Int) (x4 : List S40) (p : Nat) (r : List S40 × Int) : Prop := ∀ suf : List S40, (∀ y ∈ suf, Ok y ∧ N64 y) → b.drop p = suf.flatMap bytesV → IsRowOf b (x4 ++ suf) → r = (x4 ++ suf, 0)
theorem str_inj {p q : List Int} (hp : Byte p) (hq : Byte q) (h : strOfNums p = strOfNums q) : p = q := by rw [← back_ hp, ← back_ hq, h]
theorem d_fin (b : List Int) (hb : Byte b) (x4 : List S40) (hN : ∀ y ∈ x4, N64 y) (hx : x4.length ≤ 13) (x5 : Int) : ∃ k r, stileref04_Decode.j1 k b x4 x5 false = some r ∧ Tells b r ∧ (IsRowOf b x4 → r = (x4, 0)) := by
  obtain ⟨k, hk⟩ := encR x4 (by omega)
  have hm := stileref04_Encode.mono
  by_cases hi : IsRowOf b x4
  · refine ⟨k + 2, (x4, 0), ?_, .inr ⟨x4, rfl, hi, hN⟩, fun _ => rfl⟩
    obtain ⟨h1, h2, h3⟩ := hi
    unfold stileref04_Decode.j1
    (try dsimp only)
    rw [if_neg (by simp), up (g := fun k => stileref04_Encode.f k x4) (fun k => stileref04_Encode.mono _ _) hk (k + 1) (by omega), Option.bind_some]
    simp only [encRes, h1, h2, Bool.false_eq_true, if_false, if_true]
    rw [h3]
    unfold stileref04_Decode.j6
    (try dsimp only)
    rw [if_neg (by simp)]
  · refine ⟨k + 2, ([], 41), ?_, .inl rfl, fun h => absurd h hi⟩
    unfold stileref04_Decode.j1
    (try dsimp only)
    rw [if_neg (by simp), up (g := fun k => stileref04_Encode.f k x4) (fun k => stileref04_Encode.mono _ _) hk (k + 1) (by omega), Option.bind_some]
    have last : ∀ k, stileref04_Decode.j6 (k + 1) x4 true = some ([], 41) := fun k => by
      unfold stileref04_Decode.j6
      (try dsimp only)
      rw [if_pos rfl]
    by_cases h0 : (encRes x4).2 = 0
    · rw [if_pos h0]
      have hne : ((strOfNums (encRes x4).1).toList != (strOfNums b).toList) = true := by
        rw [bne_iff_ne]
        intro he
        have he2 : strOfNums (encRes x4).1 = strOfNums b := (list_eq_iff _ _).1 (beq_iff_eq.2 he)
        have he3 := str_inj (encRes_byte x4) hb he2
        apply hi
        unfold encRes at he3 h0
        split at h0
        · cases h0
        rename_i hl
        rw [if_neg hl] at he3
        split at h0
        · rename_i hr
          rw [if_pos hr] at he3
          exact ⟨by simpa using hl, hr, he3⟩
        · cases h0
      rw [hne]
      exact last k
    · rw [if_neg h0]
      exact last k
theorem rd_at (b : List Int) (i : Nat) (h : i < b.length) : rd b (i : Int) = b[i] := by simp [rd, h]
theorem p7 (n : Nat) (h : n ≤ 7) : (256 : Int) ^ n ≤ 72057594037927936 := by
  rcases (by omega : n = 0 ∨ n = 1 ∨ n = 2 ∨ n = 3 ∨ n = 4 ∨ n = 5 ∨ n = 6 ∨ n = 7) with rfl | rfl | rfl | rfl | rfl | rfl | rfl | rfl <;> decide
theorem d_eight (b : List Int) (hb : IsB b) (hlen : b.length ≤ 140737488351232) (x4 : List S40) (p : Nat) (r : List S40 × Int) (hp : p + 8 < b.length) (hf : ∃ k, stileref04_Decode.j3 k b x4 (p : Int) (getV ((b.drop (p + 1)).take 8)) 0 false = some r) :
    ∀ j : Nat, j ≤ 8 → ∃ k, stileref04_Decode.l1 k b x4 (p : Int) (getV (((b.drop (p + 1)).take 8).drop j)) (j : Int) = some r := by
  intro j
  have hl8 : ((b.drop (p + 1)).take 8).length = 8 := by rw [List.length_take, List.length_drop]; omega
  induction j with
  | zero =>
    intro _
    obtain ⟨k, hk⟩ := hf
    refine ⟨k + 1, ?_⟩
    unfold stileref04_Decode.l1
    (try dsimp only)
    rw [if_neg (by omega)]
    exact hk
  | succ j ih =>
    intro hj
    obtain ⟨k, hk⟩ := ih (by omega)
    have hbb : IsB ((b.drop (p + 1)).take 8) := (hb.drop _).take _
    have hc : ((b.drop (p + 1)).take 8).drop j = b[p + 1 + j]'(by omega) :: ((b.drop (p + 1)).take 8).drop (j + 1) := by
      rw [List.drop_eq_getElem_cons (by omega)]
      congr 1
      rw [List.getElem_take, List.getElem_drop]
    rw [hc] at hk
    simp only [getV] at hk
    have hbd := getV_bd _ (hbb.drop (j + 1))
    have hpw := p7 (((b.drop (p + 1)).take 8).drop (j + 1)).length (by rewrite [List.length_drop]; omega)
    have hcb := hb _ (List.getElem_mem (show p + 1 + j < b.length by omega))
    generalize getV (((b.drop (p + 1)).take 8).drop (j + 1)) = u at hk hbd ⊢
    have hu : u < 72057594037927936 := by have := hbd.2; omega
    have hwi : wrap64 ((p : Int) + ((j + 1 : Nat) : Int)) = ((p + 1 + j : Nat) : Int) := by rw [w64 _ (by omega) (by omega)]; omega
    have hwj : wrap64 (((j + 1 : Nat) : Int) - 1) = (j : Int) := by rw [w64 _ (by omega) (by omega)]; omega
    have huu : IntKind.u64.wrap ((IntKind.u64.wrap (256 * u)) + (IntKind.u64.wrap (b[p + 1 + j]'(by omega)))) = b[p + 1 + j]'(by omega) + 256 * u := by
      generalize b[p + 1 + j]'(by omega) = c at hcb
      obtain ⟨u, rfl⟩ : ∃ m : Nat, u = m := ⟨u.toNat, by omega⟩
      obtain ⟨c, rfl⟩ : ∃ m : Nat, c = m := ⟨c.toNat, by omega⟩
      have e1 : IntKind.u64.wrap (256 * (u : Int)) = ((256 * u : Nat) : Int) := by
        rw [show (256 * (u : Int)) = ((256 * u : Nat) : Int) by omega]; exact wrap_u64 _ (by omega)
      rw [e1, wrap_u64 c (by omega), show ((256 * u : Nat) : Int) + (c : Int) = ((256 * u + c : Nat) : Int) by omega, wrap_u64 _ (by omega)]
      omega
    refine ⟨k + 2, ?_⟩
    unfold stileref04_Decode.l1
    (try dsimp only)
    rw [if_pos (by omega), decide_eq_true (show wrap64 ((p : Int) + 8) < (b.length : Int) by rw [w64 _ (by omega) (by omega)]; omega)]
    unfold stileref04_Decode.j3
    (try dsimp only)
    rw [if_pos rfl, hwi, if_pos (by omega), if_pos (by omega), rd_at b _ (by omega), hwj, huu]
    exact hk
theorem must_step {b : List Int} {x4 : List S40} {p q : Nat} {y : S40} {r : List S40 × Int} (hp : p < b.length) (h : Must b (x4 ++ [y]) q r) (hv : ∀ k n s t rest, Rw.valD (b.drop p) = some (.val k n s t rest) → y = ⟨k, n, s, t⟩ ∧ b.drop q = rest) : Must b x4 p r := by
  intro suf ho hd hi
  cases suf with
  | nil =>
    have := congrArg List.length hd
    rw [List.length_drop] at this
    simp at this
    omega
  | cons z suf =>
    have hz := ho z (by simp)
    have hbig : big z = false := by
      have h1 := (long_f hi.1).1
      rw [List.any_append, List.any_cons] at h1
      simp only [Bool.or_eq_false_iff] at h1
      exact h1.2.1
    rw [List.flatMap_cons] at hd
    have hval := valD_of z hz.1 hbig hz.2 (suf.flatMap bytesV)
    rw [← hd] at hval
    obtain ⟨hy, hq⟩ := hv _ _ _ _ _ hval
    have hyz : y = z := hy
    subst hyz
    have := h suf (fun w hw => ho w (by simp [hw])) hq (by simpa using hi)
    simpa using this
theorem must_none {b : List Int} {x4 : List S40} {p : Nat} {r : List S40 × Int} (hp : p < b.length) (hv : ∀ k n s t rest, Rw.valD (b.drop p) ≠ some (.val k n s t rest)) : Must b x4 p r := by
  intro suf ho hd hi
  cases suf with
  | nil =>
    have := congrArg List.length hd
    rw [List.length_drop] at this
    simp at this
    omega
  | cons z suf =>
    have hz := ho z (by simp)
    have hbig : big z = false := by
      have h1 := (long_f hi.1).1
      rw [List.any_append, List.any_cons] at h1
      simp only [Bool.or_eq_false_iff] at h1
      exact h1.2.1
    rw [List.flatMap_cons] at hd
    have hval := valD_of z hz.1 hbig hz.2 (suf.flatMap bytesV)
    rw [← hd] at hval
    exact absurd hval (hv _ _ _ _ _)
theorem bytesV_pos (x : S40) : 0 < (bytesV x).length := by
  unfold bytesV
  split
  · simp
  split
  · simp
  split
  · simp
  split <;> simp
theorem suf_nil {suf : List S40} (h : suf.flatMap bytesV = []) : suf = [] := by
  cases suf with
  | nil => rfl
  | cons z suf =>
    have := bytesV_pos z
    have e := congrArg List.length h
    rw [List.flatMap_cons, List.length_append, List.length_nil] at e
    omega
theorem j4_e (p n len tt : Nat) (hp : p ≤ 141000000000000) (hn : n ≤ 65535) (hto : tt = min (p + 3 + n) len) : wrap64 ((p : Int) + 3) = ((p + 3 : Nat) : Int) ∧ wrap64 (((p + 3 : Nat) : Int) + (n : Int)) = ((p + 3 + n : Nat) : Int) ∧ mn ((p + 3 + n : Nat) : Int) (len : Int) = ((tt : Nat) : Int) ∧ mn ((p + 3 : Nat) : Int) ((tt : Nat) : Int) = ((min (p + 3) tt : Nat) : Int) ∧ wrap64 (wrap64 (wrap64 ((p : Int) + 2) + (n : Int)) + 1) = ((p + 3 + n : Nat) : Int) := by
  refine ⟨?_, ?_, ?_, ?_, ?_⟩
  · rewrite [w64 _ (by omega) (by omega)]; omega
  · rewrite [w64 _ (by omega) (by omega)]; omega
  · rw [hto]; unfold mn; omega
  · unfold mn; omega
  · rewrite [w64 ((p : Int) + 2) (by omega) (by omega), w64 ((p : Int) + 2 + n) (by omega) (by omega), w64 _ (by omega) (by omega)]; omega
theorem j1_e (p n1 n2 : Nat) (hp : p ≤ 141000000000000) (h1 : n1 ≤ 255) (h2 : n2 ≤ 255) : wrap64 ((p : Int) + 1) = ((p + 1 : Nat) : Int) ∧ wrap64 ((p : Int) + 2) = ((p + 2 : Nat) : Int) ∧ wrap64 (wrap64 (n1 : Int) + wrap64 (256 * wrap64 (n2 : Int))) = ((n1 + 256 * n2 : Nat) : Int) := by
  refine ⟨?_, ?_, ?_⟩
  · rewrite [w64 _ (by omega) (by omega)]; omega
  · rewrite [w64 _ (by omega) (by omega)]; omega
  · rewrite [w64 (n1 : Int) (by omega) (by omega), w64 (n2 : Int) (by omega) (by omega), w64 (256 * (n2 : Int)) (by omega) (by omega), w64 _ (by omega) (by omega)]; omega
theorem d_num (b : List Int) (hb : IsB b) (hlen : b.length ≤ 140737488351232) (x4 : List S40) (p : Nat) (hpl : p < b.length) (small : x4.length < 3518437208883) (go : ∀ (y : S40) (q : Nat), N64 y → q ≤ p + 70000 → (∀ k n s t rest, Rw.valD (b.drop p) = some (.val k n s t rest) → y = ⟨k, n, s, t⟩ ∧ b.drop q = rest) → ∃ k r, stileref04_Decode.l0 k b (x4 ++ [y]) (q : Int) = some r ∧ Tells b r ∧ Must b x4 p r) (k0 : ¬ b[p] = 0) (k1 : b[p] = 1) : ∃ k r, stileref04_Decode.j1 k b x4 (p : Int) true = some r ∧ Tells b r ∧ Must b x4 p r := by
  have hdrop : b.drop p = b[p] :: b.drop (p + 1) := List.drop_eq_getElem_cons hpl
  have hrp := rd_at b p hpl
  have hbp := hb _ (List.getElem_mem hpl)
  have hrl : (b.drop (p + 1)).length = b.length - (p + 1) := List.length_drop
  have fin : ∀ u : Int, (b.length ≤ p + 8 ∨ u = getV ((b.drop (p + 1)).take 8)) → 0 ≤ u → ∀ j : Int, ∃ k r, stileref04_Decode.j3 k b x4 (p : Int) u j false = some r ∧ Tells b r ∧ Must b x4 p r := by
    intro u hu hu0 j
    obtain ⟨k, r, h1, h2⟩ := go ⟨1, wrap64 u, ⟨#[]⟩, false⟩ (p + 9) (by show -9223372036854775808 ≤ wrap64 u ∧ wrap64 u ≤ 9223372036854775807; unfold wrap64; omega) (by omega) (by
      intro k n s t rest hv
      rw [hdrop, k1, valD_num] at hv
      split at hv
      · cases hv
      · rename_i h8
        rw [getF_eq _ ((hb.drop _).take 8) (by rw [List.length_take]; omega)] at hv
        rcases hu with hu | hu
        · omega
        · subst hu
          cases hv
          refine ⟨rfl, ?_⟩
          rw [List.drop_drop])
    refine ⟨k + 1, r, ?_, h2⟩
    unfold stileref04_Decode.j3
    (try dsimp only)
    rw [if_neg (by simp)]
    unfold stileref01_Num.f
    rw [Option.bind_some, if_pos small]
    have e : wrap64 (wrap64 ((p : Int) + 8) + 1) = ((p + 9 : Nat) : Int) := by
      rw [w64 ((p : Int) + 8) (by omega) (by omega), w64 _ (by omega) (by omega)]; omega
    rw [e]
    exact h1
  have inner : ∃ k r, stileref04_Decode.l1 k b x4 (p : Int) 0 8 = some r ∧ Tells b r ∧ Must b x4 p r := by
    by_cases h8 : p + 8 < b.length
    · obtain ⟨k, r, h1, h2⟩ := fin (getV ((b.drop (p + 1)).take 8)) (.inr rfl) (getV_bd _ ((hb.drop _).take _)).1 0
      obtain ⟨k2, hk2⟩ := d_eight b hb hlen x4 p r h8 ⟨k, h1⟩ 8 (Nat.le_refl _)
      have e : ((b.drop (p + 1)).take 8).drop 8 = [] := List.drop_of_length_le (by rw [List.length_take]; omega)
      rw [e] at hk2
      exact ⟨k2, r, hk2, h2⟩
    · obtain ⟨k, r, h1, h2⟩ := fin 0 (.inl (by omega)) (by omega) 8
      refine ⟨k + 1, r, ?_, h2⟩
      unfold stileref04_Decode.l1
      (try dsimp only)
      rw [if_pos (by omega), decide_eq_false (by rw [w64 _ (by omega) (by omega)]; omega)]
      exact h1
  obtain ⟨k, r, h1, h2⟩ := inner
  refine ⟨k + 1, r, ?_, h2⟩
  unfold stileref04_Decode.j1
  (try dsimp only)
  rw [if_pos rfl, if_pos (by omega), if_pos (by omega), hrp, if_neg k0, if_pos k1]
  exact h1
theorem d_text (b : List Int) (hb : IsB b) (hlen : b.length ≤ 140737488351232) (x4 : List S40) (p : Nat) (hpl : p < b.length) (small : x4.length < 3518437208883) (go : ∀ (y : S40) (q : Nat), N64 y → q ≤ p + 70000 → (∀ k n s t rest, Rw.valD (b.drop p) = some (.val k n s t rest) → y = ⟨k, n, s, t⟩ ∧ b.drop q = rest) → ∃ k r, stileref04_Decode.l0 k b (x4 ++ [y]) (q : Int) = some r ∧ Tells b r ∧ Must b x4 p r) (k0 : ¬ b[p] = 0) (k1 : ¬ b[p] = 1) (k2 : b[p] = 2) : ∃ k r, stileref04_Decode.j1 k b x4 (p : Int) true = some r ∧ Tells b r ∧ Must b x4 p r := by
  have hdrop : b.drop p = b[p] :: b.drop (p + 1) := List.drop_eq_getElem_cons hpl
  have hrp := rd_at b p hpl
  have hbp := hb _ (List.getElem_mem hpl)
  have hrl : (b.drop (p + 1)).length = b.length - (p + 1) := List.length_drop
  have text : ∀ n : Nat, n ≤ 65535 → (b.length ≤ p + 2 ∨ (n : Int) = getV ((b.drop (p + 1)).take 2)) → ∃ k r, stileref04_Decode.j4 k b x4 (p : Int) (n : Int) = some r ∧ Tells b r ∧ Must b x4 p r := by
    intro n hn hu
    obtain ⟨tt, hto⟩ : ∃ tt : Nat, tt = min (p + 3 + n) b.length := ⟨_, rfl⟩
    obtain ⟨k, r, h1, h2⟩ := go ⟨2, 0, strOfNums ((b.take tt).drop (min (p + 3) tt)), false⟩ (p + 3 + n) (by simp [N64]) (by omega) (by
      intro k n' s t rest hv
      rw [hdrop, k2, valD_text] at hv
      split at hv
      · cases hv
      · rename_i h8
        rw [getF_eq _ ((hb.drop _).take 2) (by rw [List.length_take]; omega), Option.bind_some] at hv
        rcases hu with hu | hu
        · omega
        · rw [← hu] at hv
          split at hv
          · cases hv
          split at hv
          · cases hv
          split at hv
          · cases hv
          · have et : tt = p + 3 + n := by omega
            have em : min (p + 3) tt = p + 3 := by omega
            cases hv
            refine ⟨?_, ?_⟩
            · rw [em, et, List.drop_take, List.drop_drop, Int.toNat_natCast, show p + 3 + n - (p + 3) = n by omega, show p + 1 + 2 = p + 3 by omega]
            · rw [List.drop_drop, List.drop_drop, Int.toNat_natCast, show p + 1 + (2 + n) = p + 3 + n by omega])
    refine ⟨k + 1, r, ?_, h2⟩
    have E4 := Lib.hid (j4_e p n b.length tt (by omega) hn hto)
    unfold stileref04_Decode.j4
    (try dsimp only)
    rw [E4.out.1, E4.out.2.1, E4.out.2.2.1, E4.out.2.2.2.1, E4.out.2.2.2.2, if_pos (by omega), if_pos (by omega), if_pos (by omega), Int.toNat_natCast, Int.toNat_natCast]
    unfold stileref01_Text.f
    rw [Option.bind_some, if_pos small]
    exact h1
  by_cases h2' : p + 2 < b.length
  · have hx1 := hb _ (List.getElem_mem (show p + 1 < b.length by omega))
    have hx2 := hb _ (List.getElem_mem (show p + 2 < b.length by omega))
    obtain ⟨n1, hn1⟩ : ∃ n1 : Nat, b[p + 1] = n1 := ⟨b[p + 1].toNat, by omega⟩
    obtain ⟨n2, hn2⟩ : ∃ n2 : Nat, b[p + 2] = n2 := ⟨b[p + 2].toNat, by omega⟩
    have hg : (b.drop (p + 1)).take 2 = [(n1 : Int), (n2 : Int)] := by
      rw [List.drop_eq_getElem_cons (show p + 1 < b.length by omega), List.drop_eq_getElem_cons (show p + 1 + 1 < b.length by omega)]
      simp [hn1, hn2]
    obtain ⟨k, r, h1, h2⟩ := text (n1 + 256 * n2) (by omega) (.inr (by rw [hg]; simp [getV]))
    refine ⟨k + 1, r, ?_, h2⟩
    have E1 := Lib.hid (j1_e p n1 n2 (by omega) (by omega) (by omega))
    unfold stileref04_Decode.j1
    (try dsimp only)
    rw [if_pos rfl, if_pos (by omega), if_pos (by omega), hrp, if_neg k0, if_neg k1, if_pos k2, E1.out.2.1, E1.out.1, if_pos (by omega), if_pos (by omega), if_pos (by omega), if_pos (by omega), rd_at b (p + 1) (by omega), rd_at b (p + 2) (by omega), hn1, hn2, E1.out.2.2]
    exact h1
  · obtain ⟨k, r, h1, h2⟩ := text 0 (by omega) (.inl (by omega))
    refine ⟨k + 1, r, ?_, h2⟩
    have E1 := Lib.hid (j1_e p 0 0 (by omega) (by omega) (by omega))
    unfold stileref04_Decode.j1
    (try dsimp only)
    rw [if_pos rfl, if_pos (by omega), if_pos (by omega), hrp, if_neg k0, if_neg k1, if_pos k2, E1.out.2.1, if_neg (by omega)]
    exact h1
theorem d_tail (b : List Int) (hb : IsB b) (hlen : b.length ≤ 140737488351232) (x4 : List S40) (p : Nat) (hpl : p < b.length) (small : x4.length < 3518437208883) (go : ∀ (y : S40) (q : Nat), N64 y → q ≤ p + 70000 → (∀ k n s t rest, Rw.valD (b.drop p) = some (.val k n s t rest) → y = ⟨k, n, s, t⟩ ∧ b.drop q = rest) → ∃ k r, stileref04_Decode.l0 k b (x4 ++ [y]) (q : Int) = some r ∧ Tells b r ∧ Must b x4 p r) (k0 : ¬ b[p] = 0) (k1 : ¬ b[p] = 1) (k2 : ¬ b[p] = 2) : ∃ k r, stileref04_Decode.j1 k b x4 (p : Int) true = some r ∧ Tells b r ∧ Must b x4 p r := by
  have hdrop : b.drop p = b[p] :: b.drop (p + 1) := List.drop_eq_getElem_cons hpl
  have hrp := rd_at b p hpl
  have hbp := hb _ (List.getElem_mem hpl)
  have hrl : (b.drop (p + 1)).length = b.length - (p + 1) := List.length_drop
  have tail : ∀ c : Bool, (c = true → b[p] = 3 ∨ b[p] = 4) → (c = false → b[p] ≠ 3 ∧ b[p] ≠ 4) → ∃ k r, stileref04_Decode.j5 k b x4 (p : Int) c = some r ∧ Tells b r ∧ Must b x4 p r := by
    intro c ht hf
    cases c with
    | true =>
      obtain ⟨k, r, h1, h2⟩ := go ⟨3, 0, ⟨#[]⟩, b[p] == 4⟩ (p + 1) (by simp [N64]) (by omega) (by
        intro k n s t rest hv
        rw [hdrop] at hv
        rcases ht rfl with h3 | h3
        · rw [h3] at hv ⊢
          have e : Rw.valD (3 :: b.drop (p + 1)) = some (.val 3 0 ⟨#[]⟩ false (b.drop (p + 1))) := rfl
          rw [e] at hv
          cases hv
          exact ⟨rfl, rfl⟩
        · rw [h3] at hv ⊢
          have e : Rw.valD (4 :: b.drop (p + 1)) = some (.val 3 0 ⟨#[]⟩ true (b.drop (p + 1))) := rfl
          rw [e] at hv
          cases hv
          exact ⟨rfl, rfl⟩)
      refine ⟨k + 1, r, ?_, h2⟩
      unfold stileref04_Decode.j5
      (try dsimp only)
      rw [if_pos rfl, if_pos (by omega), if_pos (by omega), hrp, if_pos small, w1' p (by omega)]
      exact h1
    | false =>
      refine ⟨1, ([], 41), ?_, .inl rfl, must_none hpl ?_⟩
      · unfold stileref04_Decode.j5
        (try dsimp only)
        rw [if_neg (by simp)]
      · intro k n s t rest hv
        rw [hdrop] at hv
        simp only [Rw.valD, if_neg k0, if_neg k1, if_neg k2, if_neg (hf rfl).1, if_neg (hf rfl).2] at hv
        cases hv
  have fin : ∃ k r, stileref04_Decode.j1 k b x4 (p : Int) true = some r ∧ Tells b r ∧ Must b x4 p r := by
    by_cases k3 : b[p] = 3
    · obtain ⟨k, r, h1, h2⟩ := tail (b[p] == 3) (fun _ => .inl k3) (fun h => by simp [k3] at h)
      refine ⟨k + 1, r, ?_, h2⟩
      unfold stileref04_Decode.j1
      (try dsimp only)
      rw [if_pos rfl, if_pos (by omega), if_pos (by omega), hrp, if_neg k0, if_neg k1, if_neg k2, if_pos k3]
      exact h1
    · obtain ⟨k, r, h1, h2⟩ := tail (b[p] == 4) (fun h => .inr (by simpa using h)) (fun h => ⟨k3, by simpa using h⟩)
      refine ⟨k + 1, r, ?_, h2⟩
      unfold stileref04_Decode.j1
      (try dsimp only)
      rw [if_pos rfl, if_pos (by omega), if_pos (by omega), hrp, if_neg k0, if_neg k1, if_neg k2, if_neg k3]
      exact h1
  exact fin
set_option maxHeartbeats 1000000 in
theorem d_loop (b : List Int) (hb : IsB b) (hlen : b.length ≤ 140737488351232) : ∀ (m : Nat) (x4 : List S40) (p : Nat), (∀ y ∈ x4, N64 y) → x4.length + m = 13 → p ≤ 140737488351232 + 70000 * x4.length → ∃ k r, stileref04_Decode.l0 k b x4 (p : Int) = some r ∧ Tells b r ∧ Must b x4 p r := by
  intro m
  induction m with
  | zero =>
    intro x4 p hN hm hp
    obtain ⟨k, r, h1, h2, h3⟩ := d_fin b (fun n hn => by have := hb n hn; omega) x4 hN (by omega) (p : Int)
    refine ⟨k + 1, r, ?_, h2, fun suf ho hd hi => ?_⟩
    · unfold stileref04_Decode.l0
      (try dsimp only)
      split
      · rw [if_pos (by omega)]
        split
        · rw [decide_eq_false (by omega)]
          exact h1
        · exact h1
      · exact h1
    · have := (long_f hi.1).2
      rw [List.length_append] at this
      omega
  | succ m ih =>
    intro x4 p hN hm hp
    by_cases hc : p < b.length ∧ (x4.length : Int) < rd b 0
    · obtain ⟨hpl, h0⟩ := hc
      have hb0 : 0 < b.length := by omega
      have hr0 : rd b 0 = b[0] := rd_at b 0 hb0
      have hb0' := hb _ (List.getElem_mem hb0)
      have hdrop : b.drop p = b[p] :: b.drop (p + 1) := List.drop_eq_getElem_cons hpl
      have hrp := rd_at b p hpl
      have hbp := hb _ (List.getElem_mem hpl)
      have hrl : (b.drop (p + 1)).length = b.length - (p + 1) := List.length_drop
      have enter : (∃ k r, stileref04_Decode.j1 k b x4 (p : Int) true = some r ∧ Tells b r ∧ Must b x4 p r) → ∃ k r, stileref04_Decode.l0 k b x4 (p : Int) = some r ∧ Tells b r ∧ Must b x4 p r := by
        rintro ⟨k, r, h1, h2⟩
        refine ⟨k + 1, r, ?_, h2⟩
        unfold stileref04_Decode.l0
        (try dsimp only)
        rw [if_pos (by omega), if_pos (by omega), if_pos (by rw [w64 _ (by omega) (by omega)]; exact h0), decide_eq_true (by omega)]
        exact h1
      apply enter
      have small : x4.length < 3518437208883 := by omega
      have go : ∀ (y : S40) (q : Nat), N64 y → q ≤ p + 70000 → (∀ k n s t rest, Rw.valD (b.drop p) = some (.val k n s t rest) → y = ⟨k, n, s, t⟩ ∧ b.drop q = rest) → ∃ k r, stileref04_Decode.l0 k b (x4 ++ [y]) (q : Int) = some r ∧ Tells b r ∧ Must b x4 p r := by
        intro y q hy hq hv
        obtain ⟨k, r, h1, h2, h3⟩ := ih (x4 ++ [y]) q (fun z hz => (List.mem_append.1 hz).elim (hN z) (fun h => by rw [List.mem_singleton.1 h]; exact hy)) (by have e : (x4 ++ [y]).length = x4.length + 1 := List.length_append; omega) (by have e : (x4 ++ [y]).length = x4.length + 1 := List.length_append; omega)
        exact ⟨k, r, h1, h2, must_step hpl h3 hv⟩
      by_cases k0 : b[p] = 0
      · obtain ⟨k, r, h1, h2⟩ := go ⟨0, 0, ⟨#[]⟩, false⟩ (p + 1) (by simp [N64]) (by omega) (by
          intro k n s t rest hv
          rw [hdrop, k0] at hv
          simp only [Rw.valD, if_pos] at hv
          cases hv
          exact ⟨rfl, rfl⟩)
        refine ⟨k + 1, r, ?_, h2⟩
        unfold stileref04_Decode.j1
        (try dsimp only)
        rw [if_pos rfl, if_pos (by omega), if_pos (by omega), hrp, if_pos k0, if_pos small, w1' p (by omega)]
        exact h1
      by_cases k1 : b[p] = 1
      · exact d_num b hb hlen x4 p hpl small go k0 k1
      by_cases k2 : b[p] = 2
      · exact d_text b hb hlen x4 p hpl small go k0 k1 k2
      exact d_tail b hb hlen x4 p hpl small go k0 k1 k2
    · obtain ⟨k, r, h1, h2, h3⟩ := d_fin b (fun n hn => by have := hb n hn; omega) x4 hN (by omega) (p : Int)
      refine ⟨k + 1, r, ?_, h2, fun suf ho hd hi => ?_⟩
      · unfold stileref04_Decode.l0
        (try dsimp only)
        split
        · rename_i hpl
          have hb0 : 0 < b.length := by omega
          rw [if_pos (by omega)]
          have hb0' := hb _ (List.getElem_mem hb0)
          rw [if_neg (by intro hh; apply hc; refine ⟨by omega, ?_⟩; have e0 : rd b 0 = b[0] := rd_at b 0 hb0; rw [e0, w64 _ (by omega) (by omega)] at hh; rw [e0]; exact hh)]
          exact h1
        · exact h1
      · have hs : suf = [] := by
          by_cases hpl : p < b.length
          · have hb0 : 0 < b.length := by omega
            have h12 := (long_f hi.1).2
            have e : rd b 0 = ((x4 ++ suf).length : Int) := by
              have e1 : b[0] = (bytesR (x4 ++ suf))[0]'(by rw [hi.2.2]; exact hb0) := by congr 1; exact hi.2.2.symm
              rw [show rd b 0 = b[0] from rd_at b 0 hb0, e1]
              simp only [bytesR, List.cons_append, List.getElem_cons_zero]
              omega
            have : ¬ (x4.length : Int) < rd b 0 := fun h => hc ⟨hpl, h⟩
            rw [e, List.length_append] at this
            exact List.eq_nil_of_length_eq_zero (by omega)
          · rw [List.drop_of_length_le (by omega)] at hd
            exact suf_nil hd.symm
        subst hs
        rw [List.append_nil] at hi ⊢
        exact h3 hi
theorem decR (b : List Int) (hb : IsB b) (hlen : b.length ≤ 140737488351232) : ∃ k r, stileref04_Decode.f k b = some r ∧ rowcode_Decode.f b = some r := by
  obtain ⟨k, r, h1, h2, h3⟩ := d_loop b hb hlen 13 [] 1 (by simp) rfl (by omega)
  refine ⟨k, r, h1, ?_⟩
  rcases dec_inv_f b hb hlen with ⟨l, g1, g2, g3, g4⟩ | g
  · have e := h3 l g3 (by rw [g2]; simp [bytesR]) ⟨g4, ok_all (fun x hx => (g3 x hx).1), g2.symm⟩
    rw [e]
    exact g1
  · rcases h2 with rfl | ⟨x, rfl, ⟨hx1, hx2, hx3⟩, hN⟩
    · exact g
    · have hd := dec_f x (fun y hy => ⟨all_ok hx2 y hy, hN y hy⟩) hx1 [] (by rw [List.append_nil, hx3]; exact hlen)
      rw [List.append_nil, hx3, if_pos rfl] at hd
      exact hd
end Rl
end Go.Proofs.Ythcoiomnlcagcaa

namespace Go.Proofs.Ythcoiomnlcagcaa.PRQ
open Go.RowKit Go.Proofs.YthcoiomnlcagcaaW.PrintWords Go.Proofs.YthcoiomnlcagcaaW.PrintLast Go.Proofs.YthcoiomnlcagcaaW.PrintMore
attribute [local go_sem] max2_int min2_int max_two min_two max_three min_three max_four min_four   -- for this text's walks alone
set_option linter.unusedVariables false
set_option linter.unusedSimpArgs false

/-! ### stilelaw04_RowCodes: function 3 -/
def stilelaw04_RowCodes.j0 : Nat → List Int → Int → Int → Int → Int → List Int → List (S40) → Int → List (S40) → Int → Bool → Option (Bool)
  | 0, _, _, _, _, _, _, _, _, _, _, _ => none
  | k + 1, x2, x9, x11, x13, x15, x16, x17, x18, x19, x20, x21 => (stileref01_SameRow.f k x17 x19).bind fun t290 => ((stilelaw04_alive.f k).bind fun t291 => (if t291 = true then (if x21 = true then (if t290 = true then (if 0 ≤ (x2.length : Int) then (if (x2.length : Int) < (x16.length : Int) then (if (rd x16 (x2.length : Int)) = 77 then (if x9 = x11 then (if x13 = x15 then (some (x18 == x20)) else (some false)) else (some false)) else (some false)) else (none)) else (none)) else (some false)) else (some false)) else (some false)))
def stilelaw04_RowCodes.f (k : Nat) (l0 : List (S44)) (l1 : List (S40)) (l2 : List Int) : Option (Bool) := (stilelaw03_Row.f k l0).bind fun t243 => ((rowcode_Encode.f k t243).bind fun bt246 => ((stileref04_Encode.f k t243).bind fun bt250 => ((rowcode_Encode.f k l1).bind fun bt254 => ((stileref04_Encode.f k l1).bind fun bt258 => ((some (([] : List Int) : List Int)).bind fun y262 => (if y262.length + l2.length < 140737488355328 then ((some (y262 ++ l2 : List Int)).bind fun y265 => (if y265.length < 140737488355328 then ((some (y265 ++ [77] : List Int)).bind fun y268 => (if 0 ≤ (l2.length : Int) then (if (l2.length : Int) ≤ (y268.length : Int) then ((rowcode_Decode.f (y268.take ((l2.length : Int) : Int).toNat)).bind fun bt275 => ((stileref04_Decode.f k l2).bind fun bt279 => ((stileref04_Same.f bt246.1 bt250.1).bind fun t283 => (if t283 = true then ((stileref04_Same.f bt254.1 bt258.1).bind fun t284 => (if t284 = true then ((stileref04_Same.f (y268.take ((l2.length : Int) : Int).toNat) l2).bind fun t289 => (stilelaw04_RowCodes.j0 k l2 bt246.2 bt250.2 bt254.2 bt258.2 y268 bt275.1 bt275.2 bt279.1 bt279.2 t289)) else (stilelaw04_RowCodes.j0 k l2 bt246.2 bt250.2 bt254.2 bt258.2 y268 bt275.1 bt275.2 bt279.1 bt279.2 false))) else (stilelaw04_RowCodes.j0 k l2 bt246.2 bt250.2 bt254.2 bt258.2 y268 bt275.1 bt275.2 bt279.1 bt279.2 false))))) else (none)) else (none))) else (none))) else (none)))))))
theorem stilelaw04_RowCodes.mono_l : ∀ k, (∀ y0 y1 y2 y3 y4 y5 y6 y7 y8 y9 y10, LeO (stilelaw04_RowCodes.j0 k y0 y1 y2 y3 y4 y5 y6 y7 y8 y9 y10) (stilelaw04_RowCodes.j0 (k + 1) y0 y1 y2 y3 y4 y5 y6 y7 y8 y9 y10))
  | 0 => fun _ _ _ _ _ _ _ _ _ _ _ r h => by simp [stilelaw04_RowCodes.j0] at h
  | k + 1 => by
    have ih0 := stilelaw04_RowCodes.mono_l k
    · intro y0 y1 y2 y3 y4 y5 y6 y7 y8 y9 y10
      unfold stilelaw04_RowCodes.j0
      repeat' first
      | (with_reducible exact ih0 _ _ _ _ _ _ _ _ _ _ _)
      | (with_reducible exact rowcode_Encode.mono _ _)
      | (with_reducible exact stilelaw03_Row.mono _ _)
      | (with_reducible exact stilelaw04_alive.mono _)
      | (with_reducible exact stileref01_SameRow.mono _ _ _)
      | (with_reducible exact stileref04_Decode.mono _ _)
      | (with_reducible exact stileref04_Encode.mono _ _)
      | (with_reducible exact LeO.refl _)
      | (with_reducible exact LeO.none _)
      | (with_reducible refine LeO.ite ?_ ?_)
      | (with_reducible refine LeO.bind ?_ (fun _ => ?_))
      | exact ih0 _ _ _ _ _ _ _ _ _ _ _
      | exact rowcode_Encode.mono _ _
      | exact stilelaw03_Row.mono _ _
      | exact stilelaw04_alive.mono _
      | exact stileref01_SameRow.mono _ _ _
      | exact stileref04_Decode.mono _ _
      | exact stileref04_Encode.mono _ _
      | exact LeO.none _
      | refine LeO.ite ?_ ?_
      | refine LeO.bind ?_ (fun _ => ?_)
theorem stilelaw04_RowCodes.mono : ∀ a0 a1 a2 k, LeO (stilelaw04_RowCodes.f k a0 a1 a2) (stilelaw04_RowCodes.f (k + 1) a0 a1 a2) := by
  intro a0 a1 a2 k
  have ih0 := stilelaw04_RowCodes.mono_l k
  unfold stilelaw04_RowCodes.f
  repeat' first
      | (with_reducible exact ih0 _ _ _ _ _ _ _ _ _ _ _)
      | (with_reducible exact rowcode_Encode.mono _ _)
      | (with_reducible exact stilelaw03_Row.mono _ _)
      | (with_reducible exact stilelaw04_alive.mono _)
      | (with_reducible exact stileref01_SameRow.mono _ _ _)
      | (with_reducible exact stileref04_Decode.mono _ _)
      | (with_reducible exact stileref04_Encode.mono _ _)
      | (with_reducible exact LeO.refl _)
      | (with_reducible exact LeO.none _)
      | (with_reducible refine LeO.ite ?_ ?_)
      | (with_reducible refine LeO.bind ?_ (fun _ => ?_))
      | exact ih0 _ _ _ _ _ _ _ _ _ _ _
      | exact rowcode_Encode.mono _ _
      | exact stilelaw03_Row.mono _ _
      | exact stilelaw04_alive.mono _
      | exact stileref01_SameRow.mono _ _ _
      | exact stileref04_Decode.mono _ _
      | exact stileref04_Encode.mono _ _
      | exact LeO.none _
      | refine LeO.ite ?_ ?_
      | refine LeO.bind ?_ (fun _ => ?_)
set_option maxHeartbeats 8000000 in
set_option maxRecDepth 100000 in
theorem stilelaw04_RowCodes.calls (k : Nat) (A0 : Option Addr) (c0 : Nat) (l0 : List (S44)) (A1 : Option Addr) (c1 : Nat) (l1 : List (S40)) (A2 : Option Addr) (c2 : Nat) (l2 : List Int) (r : Bool) (w : World) (hr0 : Kd.C k44 w A0 l0.length l0) (hc0 : l0.length ≤ c0) (hr1 : Kd.C k40 w A1 l1.length l1) (hc1 : l1.length ≤ c1) (hr2 : Kd.C (Kd.int .u8) w A2 l2.length l2) (hc2 : l2.length ≤ c2) (h : stilelaw04_RowCodes.f k l0 l1 l2 = some r) :
    Calls Try.prog 3 #[.slice A0 l0.length c0, .slice A1 l1.length c1, .slice A2 l2.length c2] w fun e w' => e = .returned (.bool r) ∧ Below w.heap.size w w' := by
  have HR0 := Aside0.mk hr0
  have HC0 := Aside0.mk hc0
  clear hr0 hc0
  have HR1 := Aside0.mk hr1
  have HC1 := Aside0.mk hc1
  clear hr1 hc1
  have HR2 := Aside0.mk hr2
  have HC2 := Aside0.mk hc2
  clear hr2 hc2
  have HB := Aside0.mk (Below.refl w.heap.size w)
  have H : ((stilelaw03_Row.f k l0).bind fun t243 => ((rowcode_Encode.f k t243).bind fun bt246 => ((stileref04_Encode.f k t243).bind fun bt250 => ((rowcode_Encode.f k l1).bind fun bt254 => ((stileref04_Encode.f k l1).bind fun bt258 => ((some (([] : List Int) : List Int)).bind fun y262 => (if y262.length + l2.length < 140737488355328 then ((some (y262 ++ l2 : List Int)).bind fun y265 => (if y265.length < 140737488355328 then ((some (y265 ++ [77] : List Int)).bind fun y268 => (if 0 ≤ (l2.length : Int) then (if (l2.length : Int) ≤ (y268.length : Int) then ((rowcode_Decode.f (y268.take ((l2.length : Int) : Int).toNat)).bind fun bt275 => ((stileref04_Decode.f k l2).bind fun bt279 => ((stileref04_Same.f bt246.1 bt250.1).bind fun t283 => (if t283 = true then ((stileref04_Same.f bt254.1 bt258.1).bind fun t284 => (if t284 = true then ((stileref04_Same.f (y268.take ((l2.length : Int) : Int).toNat) l2).bind fun t289 => (stilelaw04_RowCodes.j0 k l2 bt246.2 bt250.2 bt254.2 bt258.2 y268 bt275.1 bt275.2 bt279.1 bt279.2 t289)) else (stilelaw04_RowCodes.j0 k l2 bt246.2 bt250.2 bt254.2 bt258.2 y268 bt275.1 bt275.2 bt279.1 bt279.2 false))) else (stilelaw04_RowCodes.j0 k l2 bt246.2 bt250.2 bt254.2 bt258.2 y268 bt275.1 bt275.2 bt279.1 bt279.2 false))))) else (none)) else (none))) else (none))) else (none)))))))) = some r := h
  clear h
  replace H := Option.bind_eq_some_iff.mp H
  obtain ⟨t243, A40, H⟩ := H
  replace H : ((rowcode_Encode.f k t243).bind fun bt246 => ((stileref04_Encode.f k t243).bind fun bt250 => ((rowcode_Encode.f k l1).bind fun bt254 => ((stileref04_Encode.f k l1).bind fun bt258 => ((some (([] : List Int) : List Int)).bind fun y262 => (if y262.length + l2.length < 140737488355328 then ((some (y262 ++ l2 : List Int)).bind fun y265 => (if y265.length < 140737488355328 then ((some (y265 ++ [77] : List Int)).bind fun y268 => (if 0 ≤ (l2.length : Int) then (if (l2.length : Int) ≤ (y268.length : Int) then ((rowcode_Decode.f (y268.take ((l2.length : Int) : Int).toNat)).bind fun bt275 => ((stileref04_Decode.f k l2).bind fun bt279 => ((stileref04_Same.f bt246.1 bt250.1).bind fun t283 => (if t283 = true then ((stileref04_Same.f bt254.1 bt258.1).bind fun t284 => (if t284 = true then ((stileref04_Same.f (y268.take ((l2.length : Int) : Int).toNat) l2).bind fun t289 => (stilelaw04_RowCodes.j0 k l2 bt246.2 bt250.2 bt254.2 bt258.2 y268 bt275.1 bt275.2 bt279.1 bt279.2 t289)) else (stilelaw04_RowCodes.j0 k l2 bt246.2 bt250.2 bt254.2 bt258.2 y268 bt275.1 bt275.2 bt279.1 bt279.2 false))) else (stilelaw04_RowCodes.j0 k l2 bt246.2 bt250.2 bt254.2 bt258.2 y268 bt275.1 bt275.2 bt279.1 bt279.2 false))))) else (none)) else (none))) else (none))) else (none))))))) = some r := H
  have A4 := Aside0.mk A40
  clear A40
  replace H := Option.bind_eq_some_iff.mp H
  obtain ⟨⟨t246, t247⟩, A50, H⟩ := H
  replace H : ((stileref04_Encode.f k t243).bind fun bt250 => ((rowcode_Encode.f k l1).bind fun bt254 => ((stileref04_Encode.f k l1).bind fun bt258 => ((some (([] : List Int) : List Int)).bind fun y262 => (if y262.length + l2.length < 140737488355328 then ((some (y262 ++ l2 : List Int)).bind fun y265 => (if y265.length < 140737488355328 then ((some (y265 ++ [77] : List Int)).bind fun y268 => (if 0 ≤ (l2.length : Int) then (if (l2.length : Int) ≤ (y268.length : Int) then ((rowcode_Decode.f (y268.take ((l2.length : Int) : Int).toNat)).bind fun bt275 => ((stileref04_Decode.f k l2).bind fun bt279 => ((stileref04_Same.f t246 bt250.1).bind fun t283 => (if t283 = true then ((stileref04_Same.f bt254.1 bt258.1).bind fun t284 => (if t284 = true then ((stileref04_Same.f (y268.take ((l2.length : Int) : Int).toNat) l2).bind fun t289 => (stilelaw04_RowCodes.j0 k l2 t247 bt250.2 bt254.2 bt258.2 y268 bt275.1 bt275.2 bt279.1 bt279.2 t289)) else (stilelaw04_RowCodes.j0 k l2 t247 bt250.2 bt254.2 bt258.2 y268 bt275.1 bt275.2 bt279.1 bt279.2 false))) else (stilelaw04_RowCodes.j0 k l2 t247 bt250.2 bt254.2 bt258.2 y268 bt275.1 bt275.2 bt279.1 bt279.2 false))))) else (none)) else (none))) else (none))) else (none)))))) = some r := H
  have A5 := Aside0.mk A50
  clear A50
  replace H := Option.bind_eq_some_iff.mp H
  obtain ⟨⟨t250, t251⟩, A60, H⟩ := H
  replace H : ((rowcode_Encode.f k l1).bind fun bt254 => ((stileref04_Encode.f k l1).bind fun bt258 => ((some (([] : List Int) : List Int)).bind fun y262 => (if y262.length + l2.length < 140737488355328 then ((some (y262 ++ l2 : List Int)).bind fun y265 => (if y265.length < 140737488355328 then ((some (y265 ++ [77] : List Int)).bind fun y268 => (if 0 ≤ (l2.length : Int) then (if (l2.length : Int) ≤ (y268.length : Int) then ((rowcode_Decode.f (y268.take ((l2.length : Int) : Int).toNat)).bind fun bt275 => ((stileref04_Decode.f k l2).bind fun bt279 => ((stileref04_Same.f t246 t250).bind fun t283 => (if t283 = true then ((stileref04_Same.f bt254.1 bt258.1).bind fun t284 => (if t284 = true then ((stileref04_Same.f (y268.take ((l2.length : Int) : Int).toNat) l2).bind fun t289 => (stilelaw04_RowCodes.j0 k l2 t247 t251 bt254.2 bt258.2 y268 bt275.1 bt275.2 bt279.1 bt279.2 t289)) else (stilelaw04_RowCodes.j0 k l2 t247 t251 bt254.2 bt258.2 y268 bt275.1 bt275.2 bt279.1 bt279.2 false))) else (stilelaw04_RowCodes.j0 k l2 t247 t251 bt254.2 bt258.2 y268 bt275.1 bt275.2 bt279.1 bt279.2 false))))) else (none)) else (none))) else (none))) else (none))))) = some r := H
  have A6 := Aside0.mk A60
  clear A60
  replace H := Option.bind_eq_some_iff.mp H
  obtain ⟨⟨t254, t255⟩, A70, H⟩ := H
  replace H : ((stileref04_Encode.f k l1).bind fun bt258 => ((some (([] : List Int) : List Int)).bind fun y262 => (if y262.length + l2.length < 140737488355328 then ((some (y262 ++ l2 : List Int)).bind fun y265 => (if y265.length < 140737488355328 then ((some (y265 ++ [77] : List Int)).bind fun y268 => (if 0 ≤ (l2.length : Int) then (if (l2.length : Int) ≤ (y268.length : Int) then ((rowcode_Decode.f (y268.take ((l2.length : Int) : Int).toNat)).bind fun bt275 => ((stileref04_Decode.f k l2).bind fun bt279 => ((stileref04_Same.f t246 t250).bind fun t283 => (if t283 = true then ((stileref04_Same.f t254 bt258.1).bind fun t284 => (if t284 = true then ((stileref04_Same.f (y268.take ((l2.length : Int) : Int).toNat) l2).bind fun t289 => (stilelaw04_RowCodes.j0 k l2 t247 t251 t255 bt258.2 y268 bt275.1 bt275.2 bt279.1 bt279.2 t289)) else (stilelaw04_RowCodes.j0 k l2 t247 t251 t255 bt258.2 y268 bt275.1 bt275.2 bt279.1 bt279.2 false))) else (stilelaw04_RowCodes.j0 k l2 t247 t251 t255 bt258.2 y268 bt275.1 bt275.2 bt279.1 bt279.2 false))))) else (none)) else (none))) else (none))) else (none)))) = some r := H
  have A7 := Aside0.mk A70
  clear A70
  replace H := Option.bind_eq_some_iff.mp H
  obtain ⟨⟨t258, t259⟩, A80, H⟩ := H
  replace H : ((some (([] : List Int) : List Int)).bind fun y262 => (if y262.length + l2.length < 140737488355328 then ((some (y262 ++ l2 : List Int)).bind fun y265 => (if y265.length < 140737488355328 then ((some (y265 ++ [77] : List Int)).bind fun y268 => (if 0 ≤ (l2.length : Int) then (if (l2.length : Int) ≤ (y268.length : Int) then ((rowcode_Decode.f (y268.take ((l2.length : Int) : Int).toNat)).bind fun bt275 => ((stileref04_Decode.f k l2).bind fun bt279 => ((stileref04_Same.f t246 t250).bind fun t283 => (if t283 = true then ((stileref04_Same.f t254 t258).bind fun t284 => (if t284 = true then ((stileref04_Same.f (y268.take ((l2.length : Int) : Int).toNat) l2).bind fun t289 => (stilelaw04_RowCodes.j0 k l2 t247 t251 t255 t259 y268 bt275.1 bt275.2 bt279.1 bt279.2 t289)) else (stilelaw04_RowCodes.j0 k l2 t247 t251 t255 t259 y268 bt275.1 bt275.2 bt279.1 bt279.2 false))) else (stilelaw04_RowCodes.j0 k l2 t247 t251 t255 t259 y268 bt275.1 bt275.2 bt279.1 bt279.2 false))))) else (none)) else (none))) else (none))) else (none))) = some r := H
  have A8 := Aside0.mk A80
  clear A80
  obtain ⟨y262, hy262⟩ : ∃ y_ : List Int, y_ = (([] : List Int)) := ⟨_, rfl⟩
  replace H : (if y262.length + l2.length < 140737488355328 then ((some (y262 ++ l2 : List Int)).bind fun y265 => (if y265.length < 140737488355328 then ((some (y265 ++ [77] : List Int)).bind fun y268 => (if 0 ≤ (l2.length : Int) then (if (l2.length : Int) ≤ (y268.length : Int) then ((rowcode_Decode.f (y268.take ((l2.length : Int) : Int).toNat)).bind fun bt275 => ((stileref04_Decode.f k l2).bind fun bt279 => ((stileref04_Same.f t246 t250).bind fun t283 => (if t283 = true then ((stileref04_Same.f t254 t258).bind fun t284 => (if t284 = true then ((stileref04_Same.f (y268.take ((l2.length : Int) : Int).toNat) l2).bind fun t289 => (stilelaw04_RowCodes.j0 k l2 t247 t251 t255 t259 y268 bt275.1 bt275.2 bt279.1 bt279.2 t289)) else (stilelaw04_RowCodes.j0 k l2 t247 t251 t255 t259 y268 bt275.1 bt275.2 bt279.1 bt279.2 false))) else (stilelaw04_RowCodes.j0 k l2 t247 t251 t255 t259 y268 bt275.1 bt275.2 bt279.1 bt279.2 false))))) else (none)) else (none))) else (none))) else (none)) = some r := by first | (rw [hy262]; with_reducible exact H) | (have H2_ := (Option.bind_some _ _).symm.trans H; rw [hy262]; with_reducible exact H2_) | (have H2_ := (Option.bind_some _ _).symm.trans H; with_reducible exact H2_) | with_reducible exact H | (rw [hy262]; exact H) | exact H
  have Ny262 := Aside0.mk hy262
  clear hy262
  by_cases c9 : y262.length + l2.length < 140737488355328
  · rw [if_pos c9] at H
    have LMc9 := Aside0.mk c9
    clear c9
    obtain ⟨y265, hy265⟩ : ∃ y_ : List Int, y_ = (y262 ++ l2) := ⟨_, rfl⟩
    replace H : (if y265.length < 140737488355328 then ((some (y265 ++ [77] : List Int)).bind fun y268 => (if 0 ≤ (l2.length : Int) then (if (l2.length : Int) ≤ (y268.length : Int) then ((rowcode_Decode.f (y268.take ((l2.length : Int) : Int).toNat)).bind fun bt275 => ((stileref04_Decode.f k l2).bind fun bt279 => ((stileref04_Same.f t246 t250).bind fun t283 => (if t283 = true then ((stileref04_Same.f t254 t258).bind fun t284 => (if t284 = true then ((stileref04_Same.f (y268.take ((l2.length : Int) : Int).toNat) l2).bind fun t289 => (stilelaw04_RowCodes.j0 k l2 t247 t251 t255 t259 y268 bt275.1 bt275.2 bt279.1 bt279.2 t289)) else (stilelaw04_RowCodes.j0 k l2 t247 t251 t255 t259 y268 bt275.1 bt275.2 bt279.1 bt279.2 false))) else (stilelaw04_RowCodes.j0 k l2 t247 t251 t255 t259 y268 bt275.1 bt275.2 bt279.1 bt279.2 false))))) else (none)) else (none))) else (none)) = some r := by first | (rw [hy265]; with_reducible exact H) | (have H2_ := (Option.bind_some _ _).symm.trans H; rw [hy265]; with_reducible exact H2_) | (have H2_ := (Option.bind_some _ _).symm.trans H; with_reducible exact H2_) | with_reducible exact H | (rw [hy265]; exact H) | exact H
    have Ny265 := Aside0.mk hy265
    clear hy265
    by_cases c10 : y265.length < 140737488355328
    · rw [if_pos c10] at H
      have LMc10 := Aside0.mk c10
      clear c10
      obtain ⟨y268, hy268⟩ : ∃ y_ : List Int, y_ = (y265 ++ [77]) := ⟨_, rfl⟩
      replace H : (if 0 ≤ (l2.length : Int) then (if (l2.length : Int) ≤ (y268.length : Int) then ((rowcode_Decode.f (y268.take ((l2.length : Int) : Int).toNat)).bind fun bt275 => ((stileref04_Decode.f k l2).bind fun bt279 => ((stileref04_Same.f t246 t250).bind fun t283 => (if t283 = true then ((stileref04_Same.f t254 t258).bind fun t284 => (if t284 = true then ((stileref04_Same.f (y268.take ((l2.length : Int) : Int).toNat) l2).bind fun t289 => (stilelaw04_RowCodes.j0 k l2 t247 t251 t255 t259 y268 bt275.1 bt275.2 bt279.1 bt279.2 t289)) else (stilelaw04_RowCodes.j0 k l2 t247 t251 t255 t259 y268 bt275.1 bt275.2 bt279.1 bt279.2 false))) else (stilelaw04_RowCodes.j0 k l2 t247 t251 t255 t259 y268 bt275.1 bt275.2 bt279.1 bt279.2 false))))) else (none)) else (none)) = some r := by first | (rw [hy268]; with_reducible exact H) | (have H2_ := (Option.bind_some _ _).symm.trans H; rw [hy268]; with_reducible exact H2_) | (have H2_ := (Option.bind_some _ _).symm.trans H; with_reducible exact H2_) | with_reducible exact H | (rw [hy268]; exact H) | exact H
      have Ny268 := Aside0.mk hy268
      clear hy268
      by_cases c11 : 0 ≤ (l2.length : Int)
      · rw [if_pos c11] at H
        have c11b0 := eq_true c11
        have c11b1 : decide (0 ≤ (l2.length : Int)) = true := decide_eq_true c11
        clear c11
        by_cases c12 : (l2.length : Int) ≤ (y268.length : Int)
        · rw [if_pos c12] at H
          have c12b0 := eq_true c12
          have c12b1 : decide ((l2.length : Int) ≤ (y268.length : Int)) = true := decide_eq_true c12
          clear c12
          obtain ⟨y271, hy271⟩ : ∃ y_ : List Int, y_ = (y268.take ((l2.length : Int) : Int).toNat) := ⟨_, rfl⟩
          replace H : ((rowcode_Decode.f y271).bind fun bt275 => ((stileref04_Decode.f k l2).bind fun bt279 => ((stileref04_Same.f t246 t250).bind fun t283 => (if t283 = true then ((stileref04_Same.f t254 t258).bind fun t284 => (if t284 = true then ((stileref04_Same.f (y268.take ((l2.length : Int) : Int).toNat) l2).bind fun t289 => (stilelaw04_RowCodes.j0 k l2 t247 t251 t255 t259 y268 bt275.1 bt275.2 bt279.1 bt279.2 t289)) else (stilelaw04_RowCodes.j0 k l2 t247 t251 t255 t259 y268 bt275.1 bt275.2 bt279.1 bt279.2 false))) else (stilelaw04_RowCodes.j0 k l2 t247 t251 t255 t259 y268 bt275.1 bt275.2 bt279.1 bt279.2 false))))) = some r := by first | (rw [hy271]; with_reducible exact H) | (have H2_ := (Option.bind_some _ _).symm.trans H; rw [hy271]; with_reducible exact H2_) | (have H2_ := (Option.bind_some _ _).symm.trans H; with_reducible exact H2_) | with_reducible exact H | (rw [hy271]; exact H) | exact H
          have Ny271 := Aside0.mk hy271
          clear hy271
          replace H := Option.bind_eq_some_iff.mp H
          obtain ⟨⟨t275, t276⟩, A130, H⟩ := H
          replace H : ((stileref04_Decode.f k l2).bind fun bt279 => ((stileref04_Same.f t246 t250).bind fun t283 => (if t283 = true then ((stileref04_Same.f t254 t258).bind fun t284 => (if t284 = true then ((stileref04_Same.f (y268.take ((l2.length : Int) : Int).toNat) l2).bind fun t289 => (stilelaw04_RowCodes.j0 k l2 t247 t251 t255 t259 y268 t275 t276 bt279.1 bt279.2 t289)) else (stilelaw04_RowCodes.j0 k l2 t247 t251 t255 t259 y268 t275 t276 bt279.1 bt279.2 false))) else (stilelaw04_RowCodes.j0 k l2 t247 t251 t255 t259 y268 t275 t276 bt279.1 bt279.2 false)))) = some r := H
          have A13 := Aside0.mk A130
          clear A130
          replace H := Option.bind_eq_some_iff.mp H
          obtain ⟨⟨t279, t280⟩, A140, H⟩ := H
          replace H : ((stileref04_Same.f t246 t250).bind fun t283 => (if t283 = true then ((stileref04_Same.f t254 t258).bind fun t284 => (if t284 = true then ((stileref04_Same.f (y268.take ((l2.length : Int) : Int).toNat) l2).bind fun t289 => (stilelaw04_RowCodes.j0 k l2 t247 t251 t255 t259 y268 t275 t276 t279 t280 t289)) else (stilelaw04_RowCodes.j0 k l2 t247 t251 t255 t259 y268 t275 t276 t279 t280 false))) else (stilelaw04_RowCodes.j0 k l2 t247 t251 t255 t259 y268 t275 t276 t279 t280 false))) = some r := H
          have A14 := Aside0.mk A140
          clear A140
          have HC15 := Aside0.mk H
          clear H
          go_enter Try.func3, Try.ntmps3
          go_upto_region 9 with (first | ((with_reducible refine gate_callee (f := 8) rfl ?_); refine goesL_ (some 24) rfl rfl Try.func8 (by kernel_rfl) rfl #[.slice A0 l0.length c0] rfl (by (try simp only [List.map_toArray, List.map_cons, List.map_nil]); first | done | rfl | (simp only [List.length_drop, List.length_take]; rfl)) ?_; (with_reducible refine (stilelaw03_Row.calls k _ _ l0 t243 _ ?side1 ?side2 A4.out).mono ?_); (case side1 => repeat (first | exact HR0.out | (with_reducible refine Kd.C_alloc ?_ _) | (with_reducible refine Kd.C_drewN ?_ _) | (with_reducible refine Kd.C_drew ?_))); (case side2 => exact HC0.out); rintro e w16 ⟨v244, rfl, ho0, hb⟩; refine ⟨_, rfl, ?_⟩; have n0_ := Aside0.mk (Kd.R_lower ho0 (below_size (by repeat (first | (with_reducible first | exact HB.out | apply below_alloc | apply pw_below_drewN | apply below_drew1) | exact HB.out)))); have n1_ := Aside0.mk (below_step (by repeat (first | (with_reducible first | exact HB.out | apply below_alloc | apply pw_below_drewN | apply below_drew1) | exact HB.out)) hb); clear HB; have HO245 := n0_; have HB := n1_; clear n0_ n1_; (try clear hb); (try clear hb2); (try clear hk); (try clear hi); (try clear ho0); obtain ⟨Ao17, co17, eo17⟩ := Kd.R_slice HO245.out; subst eo17) | ((with_reducible refine gate_callee (f := 9) rfl ?_); refine goesL_ (some 27) rfl rfl Try.func9 (by kernel_rfl) rfl #[.slice Ao17 t243.length co17] rfl (by (try simp only [List.map_toArray, List.map_cons, List.map_nil]); first | done | rfl | (simp only [List.length_drop, List.length_take]; rfl)) ?_; (with_reducible refine (rowcode_Encode.calls k _ _ t243 t246 t247 _ ?side1 ?side2 A5.out).mono ?_); (case side1 => repeat (first | exact (Kd.R_reads' HO245.out).2.2 | (with_reducible refine Kd.C_alloc ?_ _) | (with_reducible refine Kd.C_drewN ?_ _) | (with_reducible refine Kd.C_drew ?_))); (case side2 => exact (Kd.R_reads' HO245.out).2.1); rintro e w18 ⟨v248, rfl, ho0, hb⟩; refine ⟨_, rfl, ?_⟩; have n0_ := Aside0.mk (Kd.R_below (by (with_reducible repeat (first | apply Kd.R_alloc | apply Kd.R_drewN | apply Kd.R_drew)); exact HO245.out) hb); have n1_ := Aside0.mk (Kd.R_lower ho0 (below_size (by repeat (first | (with_reducible first | exact HB.out | apply below_alloc | apply pw_below_drewN | apply below_drew1) | exact HB.out)))); have n2_ := Aside0.mk (below_step (by repeat (first | (with_reducible first | exact HB.out | apply below_alloc | apply pw_below_drewN | apply below_drew1) | exact HB.out)) hb); clear HO245; clear HB; have HO245 := n0_; have HO249 := n1_; have HB := n2_; clear n0_ n1_ n2_; (try clear hb); (try clear hb2); (try clear hk); (try clear hi); (try clear ho0)) | ((with_reducible refine gate_callee (f := 10) rfl ?_); refine goesL_ (some 32) rfl rfl Try.func10 (by kernel_rfl) rfl #[.slice Ao17 t243.length co17] rfl (by (try simp only [List.map_toArray, List.map_cons, List.map_nil]); first | done | rfl | (simp only [List.length_drop, List.length_take]; rfl)) ?_; (with_reducible refine (stileref04_Encode.calls k _ _ t243 t250 t251 _ ?side1 ?side2 A6.out).mono ?_); (case side1 => repeat (first | exact (Kd.R_reads' HO245.out).2.2 | (with_reducible refine Kd.C_alloc ?_ _) | (with_reducible refine Kd.C_drewN ?_ _) | (with_reducible refine Kd.C_drew ?_))); (case side2 => exact (Kd.R_reads' HO245.out).2.1); rintro e w19 ⟨v252, rfl, ho0, hb⟩; refine ⟨_, rfl, ?_⟩; have n0_ := Aside0.mk (Kd.R_below (by (with_reducible repeat (first | apply Kd.R_alloc | apply Kd.R_drewN | apply Kd.R_drew)); exact HO245.out) hb); have n1_ := Aside0.mk (Kd.R_elder' (by (with_reducible repeat (first | apply Kd.R_alloc | apply Kd.R_drewN | apply Kd.R_drew)); exact HO249.out) (Kd.R_base ho0) hb); have n2_ := Aside0.mk (Kd.R_lower (Kd.R_new' ho0 (Kd.R_lt (by (with_reducible repeat (first | apply Kd.R_alloc | apply Kd.R_drewN | apply Kd.R_drew)); exact HO249.out))) (below_size (by repeat (first | (with_reducible first | exact HB.out | apply below_alloc | apply pw_below_drewN | apply below_drew1) | exact HB.out)))); have n3_ := Aside0.mk (below_step (by repeat (first | (with_reducible first | exact HB.out | apply below_alloc | apply pw_below_drewN | apply below_drew1) | exact HB.out)) hb); clear HO245; clear HO249; clear HB; have HO245 := n0_; have HO249 := n1_; have HO253 := n2_; have HB := n3_; clear n0_ n1_ n2_ n3_; (try clear hb); (try clear hb2); (try clear hk); (try clear hi); (try clear ho0)) | ((with_reducible refine gate_callee (f := 9) rfl ?_); refine goesL_ (some 37) rfl rfl Try.func9 (by kernel_rfl) rfl #[.slice A1 l1.length c1] rfl (by (try simp only [List.map_toArray, List.map_cons, List.map_nil]); first | done | rfl | (simp only [List.length_drop, List.length_take]; rfl)) ?_; (with_reducible refine (rowcode_Encode.calls k _ _ l1 t254 t255 _ ?side1 ?side2 A7.out).mono ?_); (case side1 => repeat (first | exact (Kd.C_below HR1.out HB.out) | (with_reducible refine Kd.C_alloc ?_ _) | (with_reducible refine Kd.C_drewN ?_ _) | (with_reducible refine Kd.C_drew ?_))); (case side2 => exact HC1.out); rintro e w20 ⟨v256, rfl, ho0, hb⟩; refine ⟨_, rfl, ?_⟩; have n0_ := Aside0.mk (Kd.R_below (by (with_reducible repeat (first | apply Kd.R_alloc | apply Kd.R_drewN | apply Kd.R_drew)); exact HO245.out) hb); have n1_ := Aside0.mk (Kd.R_elder' (by (with_reducible repeat (first | apply Kd.R_alloc | apply Kd.R_drewN | apply Kd.R_drew)); exact HO249.out) (Kd.R_base ho0) hb); have n2_ := Aside0.mk (Kd.R_elder' (by (with_reducible repeat (first | apply Kd.R_alloc | apply Kd.R_drewN | apply Kd.R_drew)); exact HO253.out) (Kd.R_base ho0) hb); have n3_ := Aside0.mk (Kd.R_lower (Kd.R_new' (Kd.R_new' ho0 (Kd.R_lt (by (with_reducible repeat (first | apply Kd.R_alloc | apply Kd.R_drewN | apply Kd.R_drew)); exact HO249.out))) (Kd.R_lt (by (with_reducible repeat (first | apply Kd.R_alloc | apply Kd.R_drewN | apply Kd.R_drew)); exact HO253.out))) (below_size (by repeat (first | (with_reducible first | exact HB.out | apply below_alloc | apply pw_below_drewN | apply below_drew1) | exact HB.out)))); have n4_ := Aside0.mk (below_step (by repeat (first | (with_reducible first | exact HB.out | apply below_alloc | apply pw_below_drewN | apply below_drew1) | exact HB.out)) hb); clear HO245; clear HO249; clear HO253; clear HB; have HO245 := n0_; have HO249 := n1_; have HO253 := n2_; have HO257 := n3_; have HB := n4_; clear n0_ n1_ n2_ n3_ n4_; (try clear hb); (try clear hb2); (try clear hk); (try clear hi); (try clear ho0)) | ((with_reducible refine gate_callee (f := 10) rfl ?_); refine goesL_ (some 42) rfl rfl Try.func10 (by kernel_rfl) rfl #[.slice A1 l1.length c1] rfl (by (try simp only [List.map_toArray, List.map_cons, List.map_nil]); first | done | rfl | (simp only [List.length_drop, List.length_take]; rfl)) ?_; (with_reducible refine (stileref04_Encode.calls k _ _ l1 t258 t259 _ ?side1 ?side2 A8.out).mono ?_); (case side1 => repeat (first | exact (Kd.C_below HR1.out HB.out) | (with_reducible refine Kd.C_alloc ?_ _) | (with_reducible refine Kd.C_drewN ?_ _) | (with_reducible refine Kd.C_drew ?_))); (case side2 => exact HC1.out); rintro e w21 ⟨v260, rfl, ho0, hb⟩; refine ⟨_, rfl, ?_⟩; have n0_ := Aside0.mk (Kd.R_below (by (with_reducible repeat (first | apply Kd.R_alloc | apply Kd.R_drewN | apply Kd.R_drew)); exact HO245.out) hb); have n1_ := Aside0.mk (Kd.R_elder' (by (with_reducible repeat (first | apply Kd.R_alloc | apply Kd.R_drewN | apply Kd.R_drew)); exact HO249.out) (Kd.R_base ho0) hb); have n2_ := Aside0.mk (Kd.R_elder' (by (with_reducible repeat (first | apply Kd.R_alloc | apply Kd.R_drewN | apply Kd.R_drew)); exact HO253.out) (Kd.R_base ho0) hb); have n3_ := Aside0.mk (Kd.R_elder' (by (with_reducible repeat (first | apply Kd.R_alloc | apply Kd.R_drewN | apply Kd.R_drew)); exact HO257.out) (Kd.R_base ho0) hb); have n4_ := Aside0.mk (Kd.R_lower (Kd.R_new' (Kd.R_new' (Kd.R_new' ho0 (Kd.R_lt (by (with_reducible repeat (first | apply Kd.R_alloc | apply Kd.R_drewN | apply Kd.R_drew)); exact HO249.out))) (Kd.R_lt (by (with_reducible repeat (first | apply Kd.R_alloc | apply Kd.R_drewN | apply Kd.R_drew)); exact HO253.out))) (Kd.R_lt (by (with_reducible repeat (first | apply Kd.R_alloc | apply Kd.R_drewN | apply Kd.R_drew)); exact HO257.out))) (below_size (by repeat (first | (with_reducible first | exact HB.out | apply below_alloc | apply pw_below_drewN | apply below_drew1) | exact HB.out)))); have n5_ := Aside0.mk (below_step (by repeat (first | (with_reducible first | exact HB.out | apply below_alloc | apply pw_below_drewN | apply below_drew1) | exact HB.out)) hb); clear HO245; clear HO249; clear HO253; clear HO257; clear HB; have HO245 := n0_; have HO249 := n1_; have HO253 := n2_; have HO257 := n3_; have HO261 := n4_; have HB := n5_; clear n0_ n1_ n2_ n3_ n4_ n5_; (try clear hb); (try clear hb2); (try clear hk); (try clear hi); (try clear ho0)) | ((with_reducible refine gate_dst (N := 45) rfl ?_); (try (refine gate_guard (by rfl) ?_; dsimp only)); refine Kd.R_lit (Kd.int .u8) _ 5 ?hg (N := 45) ?hd (xs := ([] : List Int)) (inner := []) (ok := fun _ => True) (okp := fun _ => True) ?hr ?hp (fun _ hk => hk) trivial (Below.refl _ _) (Nat.le_refl _) (by simp) ?_; (case hd => rfl); (case hg => rfl); (case hr => first | (go_simp; done) | (go_simp; rfl)); (case hp => exact (Reps.none _ _)); intro v263 w22 ho23 hb hg_ hnew_; clear hg_ hnew_; (first | rw [← Ny262.out] at ho23 | (simp only [Int.reduceToNat] at ho23; rw [← Ny262.out] at ho23)); have n0_ := Aside0.mk (Kd.R_below (by (with_reducible repeat (first | apply Kd.R_alloc | apply Kd.R_drewN | apply Kd.R_drew)); exact HO245.out) hb); have n1_ := Aside0.mk (Kd.R_elder' (by (with_reducible repeat (first | apply Kd.R_alloc | apply Kd.R_drewN | apply Kd.R_drew)); exact HO249.out) (Kd.R_base ho23) hb); have n2_ := Aside0.mk (Kd.R_elder' (by (with_reducible repeat (first | apply Kd.R_alloc | apply Kd.R_drewN | apply Kd.R_drew)); exact HO253.out) (Kd.R_base ho23) hb); have n3_ := Aside0.mk (Kd.R_elder' (by (with_reducible repeat (first | apply Kd.R_alloc | apply Kd.R_drewN | apply Kd.R_drew)); exact HO257.out) (Kd.R_base ho23) hb); have n4_ := Aside0.mk (Kd.R_elder' (by (with_reducible repeat (first | apply Kd.R_alloc | apply Kd.R_drewN | apply Kd.R_drew)); exact HO261.out) (Kd.R_base ho23) hb); have n5_ := Aside0.mk (Kd.R_lower (Kd.R_new' (Kd.R_new' (Kd.R_new' (Kd.R_new' ho23 (Kd.R_lt (by (with_reducible repeat (first | apply Kd.R_alloc | apply Kd.R_drewN | apply Kd.R_drew)); exact HO249.out))) (Kd.R_lt (by (with_reducible repeat (first | apply Kd.R_alloc | apply Kd.R_drewN | apply Kd.R_drew)); exact HO253.out))) (Kd.R_lt (by (with_reducible repeat (first | apply Kd.R_alloc | apply Kd.R_drewN | apply Kd.R_drew)); exact HO257.out))) (Kd.R_lt (by (with_reducible repeat (first | apply Kd.R_alloc | apply Kd.R_drewN | apply Kd.R_drew)); exact HO261.out))) (below_size (by repeat (first | (with_reducible first | exact HB.out | apply below_alloc | apply pw_below_drewN | apply below_drew1) | exact HB.out)))); have n6_ := Aside0.mk (below_step (by repeat (first | (with_reducible first | exact HB.out | apply below_alloc | apply pw_below_drewN | apply below_drew1) | exact HB.out)) hb); clear HO245; clear HO249; clear HO253; clear HO257; clear HO261; clear HB; have HO245 := n0_; have HO249 := n1_; have HO253 := n2_; have HO257 := n3_; have HO261 := n4_; have HO264 := n5_; have HB := n6_; clear n0_ n1_ n2_ n3_ n4_ n5_ n6_; clear hb ho23) | ((with_reducible refine gate_builtin (b := .append) (xs := #[.tmp 45, .tmp 46]) rfl ?_); (try (refine gate_guard (by rfl) ?_; dsimp only)); at_builtin; refine Kd.R_append_rows (Kd.int .u8) (w0 := w) w.heap.size rfl (.tmp 45) (.tmp 46) 25 5 (.int .u8 0) 1 rfl Try.underlying25 info5 rfl (by decide) (by omega) v263 y262 l2 _ _ _ (fun k_ => some k_ ≠ (v248 : Value).ownBlock ∧ some k_ ≠ (v252 : Value).ownBlock ∧ some k_ ≠ (v256 : Value).ownBlock ∧ some k_ ≠ (v260 : Value).ownBlock) (fun _ => False) rfl rfl ?aO ?aR (fun _ _ h => h) (fun _ h => h.elim) ?aF ?aB ?aS ?aL ?_; (case aR => repeat (first | exact (Kd.C_below HR2.out HB.out) | (with_reducible refine Kd.C_alloc ?_ _) | (with_reducible refine Kd.C_drewN ?_ _) | (with_reducible refine Kd.C_drew ?_))); (case aB => exact (by repeat (first | (with_reducible first | exact HB.out | apply below_alloc | apply pw_below_drewN | apply below_drew1) | exact HB.out))); (case aF => exact (fun k_ hk => ⟨Kd.fresh' (Kd.R_lt (by (with_reducible repeat (first | apply Kd.R_alloc | apply Kd.R_drewN | apply Kd.R_drew)); exact HO249.out)) k_ hk, Kd.fresh' (Kd.R_lt (by (with_reducible repeat (first | apply Kd.R_alloc | apply Kd.R_drewN | apply Kd.R_drew)); exact HO253.out)) k_ hk, Kd.fresh' (Kd.R_lt (by (with_reducible repeat (first | apply Kd.R_alloc | apply Kd.R_drewN | apply Kd.R_drew)); exact HO257.out)) k_ hk, Kd.fresh' (Kd.R_lt (by (with_reducible repeat (first | apply Kd.R_alloc | apply Kd.R_drewN | apply Kd.R_drew)); exact HO261.out)) k_ hk⟩)); (case aO => exact (by (with_reducible repeat (first | apply Kd.R_alloc | apply Kd.R_drewN | apply Kd.R_drew)); exact Kd.R_mono HO264.out (fun _ hk => ⟨hk.1.1.1.2, ⟨hk.1.1.2, ⟨hk.1.2, hk.2⟩⟩⟩))); (case aS => exact (below_size (by repeat (first | (with_reducible first | exact HB.out | apply below_alloc | apply pw_below_drewN | apply below_drew1) | exact HB.out)))); (case aL => have := LMc9.out; omega); intro v266 w24 ho hb hg hat; rw [← Ny265.out] at ho; have n0_ := Aside0.mk (Kd.R_over' (by (with_reducible repeat (first | apply Kd.R_alloc | apply Kd.R_drewN | apply Kd.R_drew)); exact HO245.out) (Kd.R_typed (by (with_reducible repeat (first | apply Kd.R_alloc | apply Kd.R_drewN | apply Kd.R_drew)); exact HO264.out)) (by decide) hg); have n1_ := Aside0.mk (Kd.R_after (ok := (fun k_ => some k_ ≠ (v252 : Value).ownBlock ∧ some k_ ≠ (v256 : Value).ownBlock ∧ some k_ ≠ (v260 : Value).ownBlock)) (by (with_reducible repeat (first | apply Kd.R_alloc | apply Kd.R_drewN | apply Kd.R_drew)); exact Kd.R_mono HO249.out (fun _ hk => ⟨⟨hk.1.1.1.2, ⟨hk.1.1.2, hk.1.2⟩⟩, hk.2⟩)) hg hat); have n2_ := Aside0.mk (Kd.R_after (ok := (fun k_ => some k_ ≠ (v248 : Value).ownBlock ∧ some k_ ≠ (v256 : Value).ownBlock ∧ some k_ ≠ (v260 : Value).ownBlock)) (by (with_reducible repeat (first | apply Kd.R_alloc | apply Kd.R_drewN | apply Kd.R_drew)); exact Kd.R_mono HO253.out (fun _ hk => ⟨⟨hk.1.1.1.2, ⟨hk.1.1.2, hk.1.2⟩⟩, hk.2⟩)) hg hat); have n3_ := Aside0.mk (Kd.R_after (ok := (fun k_ => some k_ ≠ (v248 : Value).ownBlock ∧ some k_ ≠ (v252 : Value).ownBlock ∧ some k_ ≠ (v260 : Value).ownBlock)) (by (with_reducible repeat (first | apply Kd.R_alloc | apply Kd.R_drewN | apply Kd.R_drew)); exact Kd.R_mono HO257.out (fun _ hk => ⟨⟨hk.1.1.1.2, ⟨hk.1.1.2, hk.1.2⟩⟩, hk.2⟩)) hg hat); have n4_ := Aside0.mk (Kd.R_after (ok := (fun k_ => some k_ ≠ (v248 : Value).ownBlock ∧ some k_ ≠ (v252 : Value).ownBlock ∧ some k_ ≠ (v256 : Value).ownBlock)) (by (with_reducible repeat (first | apply Kd.R_alloc | apply Kd.R_drewN | apply Kd.R_drew)); exact Kd.R_mono HO261.out (fun _ hk => ⟨⟨hk.1.1.1.2, ⟨hk.1.1.2, hk.1.2⟩⟩, hk.2⟩)) hg hat); have n5_ := Aside0.mk (hb); have n6_ := Aside0.mk (ho); clear HO245; clear HO249; clear HO253; clear HO257; clear HO261; clear HB; clear HO264; have HO245 := n0_; have HO249 := n1_; have HO253 := n2_; have HO257 := n3_; have HO261 := n4_; have HB := n5_; have HO267 := n6_; clear n0_ n1_ n2_ n3_ n4_ n5_ n6_; clear ho hb hg hat) | ((with_reducible refine gate_builtin (b := .append) (xs := #[.tmp 47, .tmp 48]) rfl ?_); (try (refine gate_guard (by rfl) ?_; dsimp only)); at_builtin; refine Kd.R_append (Kd.int .u8) (w0 := w) w.heap.size rfl (.tmp 47) (.tmp 48) 25 5 (.int .u8 0) 1 rfl Try.underlying25 info5 rfl (by decide) (by omega) v266 y265 77 [.int .u8 77] (fun k_ => some k_ ≠ (v248 : Value).ownBlock ∧ some k_ ≠ (v252 : Value).ownBlock ∧ some k_ ≠ (v256 : Value).ownBlock ∧ some k_ ≠ (v260 : Value).ownBlock) (fun _ => False) rfl rfl ?aP (fun _ hk => hk.elim) ?aF ?aO ?aB ?aS ?aL ?_; (case aP => exact rfl); (case aB => exact (by repeat (first | (with_reducible first | exact HB.out | apply below_alloc | apply pw_below_drewN | apply below_drew1) | exact HB.out))); (case aF => exact (fun k_ hk => ⟨Kd.fresh' (Kd.R_lt (by (with_reducible repeat (first | apply Kd.R_alloc | apply Kd.R_drewN | apply Kd.R_drew)); exact HO249.out)) k_ hk, Kd.fresh' (Kd.R_lt (by (with_reducible repeat (first | apply Kd.R_alloc | apply Kd.R_drewN | apply Kd.R_drew)); exact HO253.out)) k_ hk, Kd.fresh' (Kd.R_lt (by (with_reducible repeat (first | apply Kd.R_alloc | apply Kd.R_drewN | apply Kd.R_drew)); exact HO257.out)) k_ hk, Kd.fresh' (Kd.R_lt (by (with_reducible repeat (first | apply Kd.R_alloc | apply Kd.R_drewN | apply Kd.R_drew)); exact HO261.out)) k_ hk⟩)); (case aO => exact (by (with_reducible repeat (first | apply Kd.R_alloc | apply Kd.R_drewN | apply Kd.R_drew)); exact HO267.out)); (case aS => exact (below_size (by repeat (first | (with_reducible first | exact HB.out | apply below_alloc | apply pw_below_drewN | apply below_drew1) | exact HB.out)))); (case aL => have := LMc10.out; omega); intro v269 w25 ho hb hg hat; rw [← Ny268.out] at ho; have n0_ := Aside0.mk (Kd.R_over' (by (with_reducible repeat (first | apply Kd.R_alloc | apply Kd.R_drewN | apply Kd.R_drew)); exact HO245.out) (Kd.R_typed (by (with_reducible repeat (first | apply Kd.R_alloc | apply Kd.R_drewN | apply Kd.R_drew)); exact HO267.out)) (by decide) hg); have n1_ := Aside0.mk (Kd.R_after (ok := (fun k_ => some k_ ≠ (v252 : Value).ownBlock ∧ some k_ ≠ (v256 : Value).ownBlock ∧ some k_ ≠ (v260 : Value).ownBlock)) (by (with_reducible repeat (first | apply Kd.R_alloc | apply Kd.R_drewN | apply Kd.R_drew)); exact HO249.out) hg hat); have n2_ := Aside0.mk (Kd.R_after (ok := (fun k_ => some k_ ≠ (v248 : Value).ownBlock ∧ some k_ ≠ (v256 : Value).ownBlock ∧ some k_ ≠ (v260 : Value).ownBlock)) (by (with_reducible repeat (first | apply Kd.R_alloc | apply Kd.R_drewN | apply Kd.R_drew)); exact HO253.out) hg hat); have n3_ := Aside0.mk (Kd.R_after (ok := (fun k_ => some k_ ≠ (v248 : Value).ownBlock ∧ some k_ ≠ (v252 : Value).ownBlock ∧ some k_ ≠ (v260 : Value).ownBlock)) (by (with_reducible repeat (first | apply Kd.R_alloc | apply Kd.R_drewN | apply Kd.R_drew)); exact HO257.out) hg hat); have n4_ := Aside0.mk (Kd.R_after (ok := (fun k_ => some k_ ≠ (v248 : Value).ownBlock ∧ some k_ ≠ (v252 : Value).ownBlock ∧ some k_ ≠ (v256 : Value).ownBlock)) (by (with_reducible repeat (first | apply Kd.R_alloc | apply Kd.R_drewN | apply Kd.R_drew)); exact HO261.out) hg hat); have n5_ := Aside0.mk (hb); have n6_ := Aside0.mk (ho); clear HO245; clear HO249; clear HO253; clear HO257; clear HO261; clear HB; clear HO267; have HO245 := n0_; have HO249 := n1_; have HO253 := n2_; have HO257 := n3_; have HO261 := n4_; have HB := n5_; have HO270 := n6_; clear n0_ n1_ n2_ n3_ n4_ n5_ n6_; clear ho hb hg hat; obtain ⟨Ao27, co27, eo27⟩ := Kd.R_slice HO270.out; subst eo27; have q26 : ((l2.length : Int) : Int) ≤ ((y268.length : Int) : Int) := of_decide_eq_true (by first | (with_reducible assumption) | assumption); obtain ⟨i026, hi026, _, hsz26, _⟩ := info_parts info5; have hroom26 : y268.length ≤ co27 := (Kd.R_reads' HO270.out).2.1; have hC26 : Kd.C (Kd.int .u8) _ Ao27 y268.length y268 := (Kd.R_reads' HO270.out).2.2; have hcut26 := cut_to (P := Try.prog) 25 5 .i64 Try.underlying25 hi026 Ao27 y268.length co27 (l2.length : Int) (of_decide_eq_true (by first | (with_reducible assumption) | assumption)) q26 hroom26; have hr26 := Kd.C_take (m := ((l2.length : Int) : Int).toNat) hC26 (by omega); have hy26 : y271.length = ((l2.length : Int) : Int).toNat := (by rw [Ny271.out, List.length_take]; omega); rw [← Ny271.out] at hr26; rw [← hy26] at hcut26; have HR274 := Aside0.mk hr26; have HC274 := Aside0.mk (show y271.length ≤ co27 from by omega); clear hr26 hC26 hroom26 hi026 hsz26; have KY26 := Aside0.mk hy26; clear hy26; have KL26 := Aside0.mk (show ((l2.length : Int) : Int).toNat ≤ y268.length from by omega); replace q26 := eq_true q26) | ((with_reducible refine gate_callee (f := 11) rfl ?_); refine goesL_ (some 55) rfl rfl Try.func11 (by kernel_rfl) rfl #[.slice Ao27 y271.length co27] rfl (by (try simp only [List.map_toArray, List.map_cons, List.map_nil]); first | done | rfl | (simp only [List.length_drop, List.length_take]; rfl)) ?_; (with_reducible refine (rowcode_Decode.calls _ _ y271 t275 t276 _ ?side1 ?side2 A13.out).mono ?_); (case side1 => repeat (first | exact (by repeat (first | (with_reducible exact HR274.out) | (with_reducible refine Kd.C_alloc ?_ _) | (with_reducible refine Kd.C_drewN ?_ _) | (with_reducible refine Kd.C_drew ?_) | exact HR274.out)) | (with_reducible refine Kd.C_alloc ?_ _) | (with_reducible refine Kd.C_drewN ?_ _) | (with_reducible refine Kd.C_drew ?_))); (case side2 => exact HC274.out); rintro e w28 ⟨v277, rfl, ho0, hb⟩; refine ⟨_, rfl, ?_⟩; have n0_ := Aside0.mk (Kd.R_elder' (by (with_reducible repeat (first | apply Kd.R_alloc | apply Kd.R_drewN | apply Kd.R_drew)); exact HO245.out) (Kd.R_base ho0) hb); have n1_ := Aside0.mk (Kd.R_below (by (with_reducible repeat (first | apply Kd.R_alloc | apply Kd.R_drewN | apply Kd.R_drew)); exact HO249.out) hb); have n2_ := Aside0.mk (Kd.R_below (by (with_reducible repeat (first | apply Kd.R_alloc | apply Kd.R_drewN | apply Kd.R_drew)); exact HO253.out) hb); have n3_ := Aside0.mk (Kd.R_below (by (with_reducible repeat (first | apply Kd.R_alloc | apply Kd.R_drewN | apply Kd.R_drew)); exact HO257.out) hb); have n4_ := Aside0.mk (Kd.R_below (by (with_reducible repeat (first | apply Kd.R_alloc | apply Kd.R_drewN | apply Kd.R_drew)); exact HO261.out) hb); have n5_ := Aside0.mk (Kd.R_below (by (with_reducible repeat (first | apply Kd.R_alloc | apply Kd.R_drewN | apply Kd.R_drew)); exact HO270.out) hb); have n6_ := Aside0.mk (Kd.R_lower (Kd.R_new' ho0 (Kd.R_lt (by (with_reducible repeat (first | apply Kd.R_alloc | apply Kd.R_drewN | apply Kd.R_drew)); exact HO245.out))) (below_size (by repeat (first | (with_reducible first | exact HB.out | apply below_alloc | apply pw_below_drewN | apply below_drew1) | exact HB.out)))); have n7_ := Aside0.mk (Kd.C_below (by repeat (first | (with_reducible exact HR274.out) | (with_reducible refine Kd.C_alloc ?_ _) | (with_reducible refine Kd.C_drewN ?_ _) | (with_reducible refine Kd.C_drew ?_) | exact HR274.out)) hb); have n8_ := Aside0.mk (below_step (by repeat (first | (with_reducible first | exact HB.out | apply below_alloc | apply pw_below_drewN | apply below_drew1) | exact HB.out)) hb); clear HO245; clear HO249; clear HO253; clear HO257; clear HO261; clear HO270; clear HR274; clear HB; have HO245 := n0_; have HO249 := n1_; have HO253 := n2_; have HO257 := n3_; have HO261 := n4_; have HO270 := n5_; have HO278 := n6_; have HR274 := n7_; have HB := n8_; clear n0_ n1_ n2_ n3_ n4_ n5_ n6_ n7_ n8_; (try clear hb); (try clear hb2); (try clear hk); (try clear hi); (try clear ho0)) | ((with_reducible refine gate_callee (f := 12) rfl ?_); refine goesL_ (some 60) rfl rfl Try.func12 (by kernel_rfl) rfl #[.slice A2 l2.length c2] rfl (by (try simp only [List.map_toArray, List.map_cons, List.map_nil]); first | done | rfl | (simp only [List.length_drop, List.length_take]; rfl)) ?_; (with_reducible refine (stileref04_Decode.calls k _ _ l2 t279 t280 _ ?side1 ?side2 A14.out).mono ?_); (case side1 => repeat (first | exact (Kd.C_below HR2.out HB.out) | (with_reducible refine Kd.C_alloc ?_ _) | (with_reducible refine Kd.C_drewN ?_ _) | (with_reducible refine Kd.C_drew ?_))); (case side2 => exact HC2.out); rintro e w29 ⟨v281, rfl, ho0, hb⟩; refine ⟨_, rfl, ?_⟩; have n0_ := Aside0.mk (Kd.R_elder' (by (with_reducible repeat (first | apply Kd.R_alloc | apply Kd.R_drewN | apply Kd.R_drew)); exact HO245.out) (Kd.R_base ho0) hb); have n1_ := Aside0.mk (Kd.R_below (by (with_reducible repeat (first | apply Kd.R_alloc | apply Kd.R_drewN | apply Kd.R_drew)); exact HO249.out) hb); have n2_ := Aside0.mk (Kd.R_below (by (with_reducible repeat (first | apply Kd.R_alloc | apply Kd.R_drewN | apply Kd.R_drew)); exact HO253.out) hb); have n3_ := Aside0.mk (Kd.R_below (by (with_reducible repeat (first | apply Kd.R_alloc | apply Kd.R_drewN | apply Kd.R_drew)); exact HO257.out) hb); have n4_ := Aside0.mk (Kd.R_below (by (with_reducible repeat (first | apply Kd.R_alloc | apply Kd.R_drewN | apply Kd.R_drew)); exact HO261.out) hb); have n5_ := Aside0.mk (Kd.R_below (by (with_reducible repeat (first | apply Kd.R_alloc | apply Kd.R_drewN | apply Kd.R_drew)); exact HO270.out) hb); have n6_ := Aside0.mk (Kd.R_elder' (by (with_reducible repeat (first | apply Kd.R_alloc | apply Kd.R_drewN | apply Kd.R_drew)); exact HO278.out) (Kd.R_base ho0) hb); have n7_ := Aside0.mk (Kd.R_lower (Kd.R_new' (Kd.R_new' ho0 (Kd.R_lt (by (with_reducible repeat (first | apply Kd.R_alloc | apply Kd.R_drewN | apply Kd.R_drew)); exact HO245.out))) (Kd.R_lt (by (with_reducible repeat (first | apply Kd.R_alloc | apply Kd.R_drewN | apply Kd.R_drew)); exact HO278.out))) (below_size (by repeat (first | (with_reducible first | exact HB.out | apply below_alloc | apply pw_below_drewN | apply below_drew1) | exact HB.out)))); have n8_ := Aside0.mk (Kd.C_below (by repeat (first | (with_reducible exact HR274.out) | (with_reducible refine Kd.C_alloc ?_ _) | (with_reducible refine Kd.C_drewN ?_ _) | (with_reducible refine Kd.C_drew ?_) | exact HR274.out)) hb); have n9_ := Aside0.mk (below_step (by repeat (first | (with_reducible first | exact HB.out | apply below_alloc | apply pw_below_drewN | apply below_drew1) | exact HB.out)) hb); clear HO245; clear HO249; clear HO253; clear HO257; clear HO261; clear HO270; clear HO278; clear HR274; clear HB; have HO245 := n0_; have HO249 := n1_; have HO253 := n2_; have HO257 := n3_; have HO261 := n4_; have HO270 := n5_; have HO278 := n6_; have HO282 := n7_; have HR274 := n8_; have HB := n9_; clear n0_ n1_ n2_ n3_ n4_ n5_ n6_ n7_ n8_ n9_; (try clear hb); (try clear hb2); (try clear hk); (try clear hi); (try clear ho0)))
          (try simp only [Act.put, List.setIfInBounds_toArray, List.set_cons_zero, List.set_cons_succ])
          go_cut [21] (fun v21 wc => ∃ (kq : Nat) (x21_14 : Bool), v21 = .bool x21_14 ∧ Aside0 (stilelaw04_RowCodes.j0 kq l2 t247 t251 t255 t259 y268 t275 t276 t279 t280 x21_14 = some r) ∧ Aside0 (kq ≤ k) ∧ Aside0 (Kd.R (Kd.int .u8) 5 wc w.heap.size (fun _ => True) (.slice Ao27 y268.length co27) y268) ∧ Aside0 (Kd.R k40 40 wc w.heap.size (fun k_ => some k_ ≠ (v281 : Value).ownBlock) v277 t275) ∧ Aside0 (Kd.R k40 40 wc w.heap.size (fun k_ => some k_ ≠ (v277 : Value).ownBlock) v281 t279) ∧ Aside0 (Kd.C (Kd.int .u8) wc Ao27 y271.length y271) ∧ Aside0 (Below w.heap.size w wc))
          case first =>
            have H := HC15.out
            clear HC15
            replace H := Option.bind_eq_some_iff.mp H
            obtain ⟨t283, A300, H⟩ := H
            replace H : (if t283 = true then ((stileref04_Same.f t254 t258).bind fun t284 => (if t284 = true then ((stileref04_Same.f (y268.take ((l2.length : Int) : Int).toNat) l2).bind fun t289 => (stilelaw04_RowCodes.j0 k l2 t247 t251 t255 t259 y268 t275 t276 t279 t280 t289)) else (stilelaw04_RowCodes.j0 k l2 t247 t251 t255 t259 y268 t275 t276 t279 t280 false))) else (stilelaw04_RowCodes.j0 k l2 t247 t251 t255 t259 y268 t275 t276 t279 t280 false)) = some r := H
            have A30 := Aside0.mk A300
            clear A300
            by_cases c31 : t283 = true
            · subst c31
              have H1 : ((stileref04_Same.f t254 t258).bind fun t284 => (if t284 = true then ((stileref04_Same.f (y268.take ((l2.length : Int) : Int).toNat) l2).bind fun t289 => (stilelaw04_RowCodes.j0 k l2 t247 t251 t255 t259 y268 t275 t276 t279 t280 t289)) else (stilelaw04_RowCodes.j0 k l2 t247 t251 t255 t259 y268 t275 t276 t279 t280 false))) = some r := by rw [if_pos rfl] at H; exact H
              clear H
              have H := H1
              clear H1
              replace H := Option.bind_eq_some_iff.mp H
              obtain ⟨t284, A320, H⟩ := H
              replace H : (if t284 = true then ((stileref04_Same.f (y268.take ((l2.length : Int) : Int).toNat) l2).bind fun t289 => (stilelaw04_RowCodes.j0 k l2 t247 t251 t255 t259 y268 t275 t276 t279 t280 t289)) else (stilelaw04_RowCodes.j0 k l2 t247 t251 t255 t259 y268 t275 t276 t279 t280 false)) = some r := H
              have A32 := Aside0.mk A320
              clear A320
              by_cases c33 : t284 = true
              · subst c33
                have H1 : ((stileref04_Same.f (y268.take ((l2.length : Int) : Int).toNat) l2).bind fun t289 => (stilelaw04_RowCodes.j0 k l2 t247 t251 t255 t259 y268 t275 t276 t279 t280 t289)) = some r := by rw [if_pos rfl] at H; exact H
                clear H
                have H := H1
                clear H1
                have c34b0 := eq_true (of_decide_eq_true (by first | (with_reducible assumption) | assumption) : 0 ≤ (l2.length : Int))
                have c35b0 := eq_true (of_decide_eq_true (by first | (with_reducible assumption) | assumption) : (l2.length : Int) ≤ (y268.length : Int))
                obtain ⟨y285, hy285⟩ : ∃ y_ : List Int, y_ = (y268.take ((l2.length : Int) : Int).toNat) := ⟨_, rfl⟩
                obtain rfl : y285 = y271 := hy285.trans Ny271.out.symm
                replace H : ((stileref04_Same.f y285 l2).bind fun t289 => (stilelaw04_RowCodes.j0 k l2 t247 t251 t255 t259 y268 t275 t276 t279 t280 t289)) = some r := by first | (rw [hy285]; with_reducible exact H) | (have H2_ := (Option.bind_some _ _).symm.trans H; rw [hy285]; with_reducible exact H2_) | (have H2_ := (Option.bind_some _ _).symm.trans H; with_reducible exact H2_) | with_reducible exact H | (rw [hy285]; exact H) | exact H
                have Ny285 := Aside0.mk hy285
                clear hy285
                replace H := Option.bind_eq_some_iff.mp H
                obtain ⟨t289, A360, H⟩ := H
                replace H : (stilelaw04_RowCodes.j0 k l2 t247 t251 t255 t259 y268 t275 t276 t279 t280 t289) = some r := H
                have A36 := Aside0.mk A360
                clear A360
                have H' := Aside0.mk H
                clear H
                obtain ⟨Ao37, co37, eo37⟩ := Kd.R_slice HO249.out
                subst eo37
                obtain ⟨Ao38, co38, eo38⟩ := Kd.R_slice HO253.out
                subst eo38
                go_wp2_with (first | ((with_reducible refine gate_callee (f := 13) rfl ?_); refine goesL_ (some 65) rfl rfl Try.func13 (by kernel_rfl) rfl #[.slice Ao37 t246.length co37, .slice Ao38 t250.length co38] rfl (by (try simp only [List.map_toArray, List.map_cons, List.map_nil]); first | done | rfl | (simp only [List.length_drop, List.length_take]; rfl)) ?_; (with_reducible refine (stileref04_Same.calls _ _ t246 _ _ t250 true _ ?side1 ?side2 ?side3 ?side4 A30.out).mono ?_); (case side1 => repeat (first | exact (Kd.R_reads' HO249.out).2.2 | (with_reducible refine Kd.C_alloc ?_ _) | (with_reducible refine Kd.C_drewN ?_ _) | (with_reducible refine Kd.C_drew ?_))); (case side2 => exact (Kd.R_reads' HO249.out).2.1); (case side3 => repeat (first | exact (Kd.R_reads' HO253.out).2.2 | (with_reducible refine Kd.C_alloc ?_ _) | (with_reducible refine Kd.C_drewN ?_ _) | (with_reducible refine Kd.C_drew ?_))); (case side4 => exact (Kd.R_reads' HO253.out).2.1); rintro e w' ⟨rfl, ⟨nd, rfl⟩⟩; refine ⟨_, rfl, ?_⟩; obtain ⟨Ao39, co39, eo39⟩ := Kd.R_slice HO257.out; subst eo39; obtain ⟨Ao40, co40, eo40⟩ := Kd.R_slice HO261.out; subst eo40) | (go_at_call 13; (with_reducible refine (stileref04_Same.calls _ _ t254 _ _ t258 true _ ?side1 ?side2 ?side3 ?side4 A32.out).mono ?_); (case side1 => repeat (first | exact (Kd.R_reads' HO257.out).2.2 | (with_reducible refine Kd.C_alloc ?_ _) | (with_reducible refine Kd.C_drewN ?_ _) | (with_reducible refine Kd.C_drew ?_))); (case side2 => exact (Kd.R_reads' HO257.out).2.1); (case side3 => repeat (first | exact (Kd.R_reads' HO261.out).2.2 | (with_reducible refine Kd.C_alloc ?_ _) | (with_reducible refine Kd.C_drewN ?_ _) | (with_reducible refine Kd.C_drew ?_))); (case side4 => exact (Kd.R_reads' HO261.out).2.1); rintro e w' ⟨rfl, ⟨nd, rfl⟩⟩; have q41 : ((l2.length : Int) : Int) ≤ ((y268.length : Int) : Int) := of_decide_eq_true (by first | (with_reducible assumption) | assumption); obtain ⟨i041, hi041, _, hsz41, _⟩ := info_parts info5; have hroom41 : y268.length ≤ co27 := (Kd.R_reads' HO270.out).2.1; have hC41 : Kd.C (Kd.int .u8) _ Ao27 y268.length y268 := (Kd.R_reads' HO270.out).2.2; have hcut41 := cut_to (P := Try.prog) 25 5 .i64 Try.underlying25 hi041 Ao27 y268.length co27 (l2.length : Int) (of_decide_eq_true (by first | (with_reducible assumption) | assumption)) q41 hroom41; have hr41 := Kd.C_take (m := ((l2.length : Int) : Int).toNat) hC41 (by omega); have hy41 : y285.length = ((l2.length : Int) : Int).toNat := (by rw [Ny285.out, List.length_take]; omega); rw [← Ny285.out] at hr41; rw [← hy41] at hcut41; have HR288 := Aside0.mk hr41; have HC288 := Aside0.mk (show y285.length ≤ co27 from by omega); clear hr41 hC41 hroom41 hi041 hsz41; have KY41 := Aside0.mk hy41; clear hy41; have KL41 := Aside0.mk (show ((l2.length : Int) : Int).toNat ≤ y268.length from by omega); replace q41 := eq_true q41) | (go_at_call 13; (with_reducible refine (stileref04_Same.calls _ _ y285 _ _ l2 t289 _ ?side1 ?side2 ?side3 ?side4 A36.out).mono ?_); (case side1 => repeat (first | exact (by repeat (first | (with_reducible exact HR288.out) | (with_reducible refine Kd.C_alloc ?_ _) | (with_reducible refine Kd.C_drewN ?_ _) | (with_reducible refine Kd.C_drew ?_) | exact HR288.out)) | (with_reducible refine Kd.C_alloc ?_ _) | (with_reducible refine Kd.C_drewN ?_ _) | (with_reducible refine Kd.C_drew ?_))); (case side2 => exact HC288.out); (case side3 => repeat (first | exact (Kd.C_below HR2.out (by repeat (first | (with_reducible first | exact HB.out | apply below_alloc | apply pw_below_drewN | apply below_drew1) | exact HB.out))) | (with_reducible refine Kd.C_alloc ?_ _) | (with_reducible refine Kd.C_drewN ?_ _) | (with_reducible refine Kd.C_drew ?_))); (case side4 => exact HC2.out); rintro e w' ⟨rfl, ⟨nd, rfl⟩⟩))
                go_meet
                case rel => exact ⟨_, (t289), (by first | rfl | (simp; done) | (simp [*]; done)), H', ⟨by first | omega | exact Nat.le_refl _⟩, ⟨by (with_reducible repeat (first | apply Kd.R_alloc | apply Kd.R_drewN | apply Kd.R_drew)); exact Kd.R_mono HO270.out (fun _ hk => trivial)⟩, ⟨by (with_reducible repeat (first | apply Kd.R_alloc | apply Kd.R_drewN | apply Kd.R_drew)); exact Kd.R_mono HO278.out (fun _ hk => hk.2)⟩, ⟨by (with_reducible repeat (first | apply Kd.R_alloc | apply Kd.R_drewN | apply Kd.R_drew)); exact Kd.R_mono HO282.out (fun _ hk => hk.2)⟩, ⟨by repeat (first | (with_reducible exact HR274.out) | (with_reducible refine Kd.C_alloc ?_ _) | (with_reducible refine Kd.C_drewN ?_ _) | (with_reducible refine Kd.C_drew ?_) | exact HR274.out)⟩, ⟨by repeat (first | (with_reducible first | exact HB.out | apply below_alloc | apply pw_below_drewN | apply below_drew1) | exact HB.out)⟩⟩
              · replace c33 := Bool.eq_false_iff.mpr c33
                subst c33
                have H1 : (stilelaw04_RowCodes.j0 k l2 t247 t251 t255 t259 y268 t275 t276 t279 t280 false) = some r := by rw [if_neg (show ¬ (false = true) by decide)] at H; exact H
                clear H
                have H := H1
                clear H1
                have H' := Aside0.mk H
                clear H
                obtain ⟨Ao42, co42, eo42⟩ := Kd.R_slice HO249.out
                subst eo42
                obtain ⟨Ao43, co43, eo43⟩ := Kd.R_slice HO253.out
                subst eo43
                go_wp2_with (first | ((with_reducible refine gate_callee (f := 13) rfl ?_); refine goesL_ (some 65) rfl rfl Try.func13 (by kernel_rfl) rfl #[.slice Ao42 t246.length co42, .slice Ao43 t250.length co43] rfl (by (try simp only [List.map_toArray, List.map_cons, List.map_nil]); first | done | rfl | (simp only [List.length_drop, List.length_take]; rfl)) ?_; (with_reducible refine (stileref04_Same.calls _ _ t246 _ _ t250 true _ ?side1 ?side2 ?side3 ?side4 A30.out).mono ?_); (case side1 => repeat (first | exact (Kd.R_reads' HO249.out).2.2 | (with_reducible refine Kd.C_alloc ?_ _) | (with_reducible refine Kd.C_drewN ?_ _) | (with_reducible refine Kd.C_drew ?_))); (case side2 => exact (Kd.R_reads' HO249.out).2.1); (case side3 => repeat (first | exact (Kd.R_reads' HO253.out).2.2 | (with_reducible refine Kd.C_alloc ?_ _) | (with_reducible refine Kd.C_drewN ?_ _) | (with_reducible refine Kd.C_drew ?_))); (case side4 => exact (Kd.R_reads' HO253.out).2.1); rintro e w' ⟨rfl, ⟨nd, rfl⟩⟩; refine ⟨_, rfl, ?_⟩; obtain ⟨Ao44, co44, eo44⟩ := Kd.R_slice HO257.out; subst eo44; obtain ⟨Ao45, co45, eo45⟩ := Kd.R_slice HO261.out; subst eo45) | (go_at_call 13; (with_reducible refine (stileref04_Same.calls _ _ t254 _ _ t258 false _ ?side1 ?side2 ?side3 ?side4 A32.out).mono ?_); (case side1 => repeat (first | exact (Kd.R_reads' HO257.out).2.2 | (with_reducible refine Kd.C_alloc ?_ _) | (with_reducible refine Kd.C_drewN ?_ _) | (with_reducible refine Kd.C_drew ?_))); (case side2 => exact (Kd.R_reads' HO257.out).2.1); (case side3 => repeat (first | exact (Kd.R_reads' HO261.out).2.2 | (with_reducible refine Kd.C_alloc ?_ _) | (with_reducible refine Kd.C_drewN ?_ _) | (with_reducible refine Kd.C_drew ?_))); (case side4 => exact (Kd.R_reads' HO261.out).2.1); rintro e w' ⟨rfl, ⟨nd, rfl⟩⟩))
                go_meet
                case rel => exact ⟨_, (false), (by first | rfl | (simp; done) | (simp [*]; done)), H', ⟨by first | omega | exact Nat.le_refl _⟩, ⟨by (with_reducible repeat (first | apply Kd.R_alloc | apply Kd.R_drewN | apply Kd.R_drew)); exact Kd.R_mono HO270.out (fun _ hk => trivial)⟩, ⟨by (with_reducible repeat (first | apply Kd.R_alloc | apply Kd.R_drewN | apply Kd.R_drew)); exact Kd.R_mono HO278.out (fun _ hk => hk.2)⟩, ⟨by (with_reducible repeat (first | apply Kd.R_alloc | apply Kd.R_drewN | apply Kd.R_drew)); exact Kd.R_mono HO282.out (fun _ hk => hk.2)⟩, ⟨by repeat (first | (with_reducible exact HR274.out) | (with_reducible refine Kd.C_alloc ?_ _) | (with_reducible refine Kd.C_drewN ?_ _) | (with_reducible refine Kd.C_drew ?_) | exact HR274.out)⟩, ⟨by repeat (first | (with_reducible first | exact HB.out | apply below_alloc | apply pw_below_drewN | apply below_drew1) | exact HB.out)⟩⟩
            · replace c31 := Bool.eq_false_iff.mpr c31
              subst c31
              have H1 : (stilelaw04_RowCodes.j0 k l2 t247 t251 t255 t259 y268 t275 t276 t279 t280 false) = some r := by rw [if_neg (show ¬ (false = true) by decide)] at H; exact H
              clear H
              have H := H1
              clear H1
              have H' := Aside0.mk H
              clear H
              obtain ⟨Ao46, co46, eo46⟩ := Kd.R_slice HO249.out
              subst eo46
              obtain ⟨Ao47, co47, eo47⟩ := Kd.R_slice HO253.out
              subst eo47
              go_wp2_with (first | ((with_reducible refine gate_callee (f := 13) rfl ?_); refine goesL_ (some 65) rfl rfl Try.func13 (by kernel_rfl) rfl #[.slice Ao46 t246.length co46, .slice Ao47 t250.length co47] rfl (by (try simp only [List.map_toArray, List.map_cons, List.map_nil]); first | done | rfl | (simp only [List.length_drop, List.length_take]; rfl)) ?_; (with_reducible refine (stileref04_Same.calls _ _ t246 _ _ t250 false _ ?side1 ?side2 ?side3 ?side4 A30.out).mono ?_); (case side1 => repeat (first | exact (Kd.R_reads' HO249.out).2.2 | (with_reducible refine Kd.C_alloc ?_ _) | (with_reducible refine Kd.C_drewN ?_ _) | (with_reducible refine Kd.C_drew ?_))); (case side2 => exact (Kd.R_reads' HO249.out).2.1); (case side3 => repeat (first | exact (Kd.R_reads' HO253.out).2.2 | (with_reducible refine Kd.C_alloc ?_ _) | (with_reducible refine Kd.C_drewN ?_ _) | (with_reducible refine Kd.C_drew ?_))); (case side4 => exact (Kd.R_reads' HO253.out).2.1); rintro e w' ⟨rfl, ⟨nd, rfl⟩⟩; refine ⟨_, rfl, ?_⟩))
              go_meet
              case rel => exact ⟨_, (false), (by first | rfl | (simp; done) | (simp [*]; done)), H', ⟨by first | omega | exact Nat.le_refl _⟩, ⟨by (with_reducible repeat (first | apply Kd.R_alloc | apply Kd.R_drewN | apply Kd.R_drew)); exact Kd.R_mono HO270.out (fun _ hk => trivial)⟩, ⟨by (with_reducible repeat (first | apply Kd.R_alloc | apply Kd.R_drewN | apply Kd.R_drew)); exact Kd.R_mono HO278.out (fun _ hk => hk.2)⟩, ⟨by (with_reducible repeat (first | apply Kd.R_alloc | apply Kd.R_drewN | apply Kd.R_drew)); exact Kd.R_mono HO282.out (fun _ hk => hk.2)⟩, ⟨by repeat (first | (with_reducible exact HR274.out) | (with_reducible refine Kd.C_alloc ?_ _) | (with_reducible refine Kd.C_drewN ?_ _) | (with_reducible refine Kd.C_drew ?_) | exact HR274.out)⟩, ⟨by repeat (first | (with_reducible first | exact HB.out | apply below_alloc | apply pw_below_drewN | apply below_drew1) | exact HB.out)⟩⟩
          case rest =>
            clear HC15
            try clear c1
            try clear c2
            try clear p2
            try clear q2
            try clear c3
            try clear q4
            try clear c8
            try clear c9
            try clear c10
            try clear c11
            try clear c11b0
            try clear c11b1
            try clear c12
            try clear c12b0
            try clear c12b1
            try clear c13
            try clear q26
            try clear c31
            try clear c33
            try clear c34
            try clear c34b0
            try clear c35
            try clear c35b0
            try clear q41
            try clear q26
            try clear q41
            obtain ⟨kq, x21_14, rfl, HA, HJ14, HO_16, HO_17, HO_19, HR274, HB⟩ := hcut
            cases kq with
            | zero => exact absurd HA.out (by simp [stilelaw04_RowCodes.j0])
            | succ kj14 =>
              have H := HA.out
              clear HA
              simp only [stilelaw04_RowCodes.j0] at H
              replace H := Option.bind_eq_some_iff.mp H
              obtain ⟨t290, A480, H⟩ := H
              replace H : ((stilelaw04_alive.f kj14).bind fun t291 => (if t291 = true then (if x21_14 = true then (if t290 = true then (if 0 ≤ (l2.length : Int) then (if (l2.length : Int) < (y268.length : Int) then (if (rd y268 (l2.length : Int)) = 77 then (if t247 = t251 then (if t255 = t259 then (some (t276 == t280)) else (some false)) else (some false)) else (some false)) else (none)) else (none)) else (some false)) else (some false)) else (some false))) = some r := H
              have A48 := Aside0.mk A480
              clear A480
              replace H := Option.bind_eq_some_iff.mp H
              obtain ⟨t291, A490, H⟩ := H
              replace H : (if t291 = true then (if x21_14 = true then (if t290 = true then (if 0 ≤ (l2.length : Int) then (if (l2.length : Int) < (y268.length : Int) then (if (rd y268 (l2.length : Int)) = 77 then (if t247 = t251 then (if t255 = t259 then (some (t276 == t280)) else (some false)) else (some false)) else (some false)) else (none)) else (none)) else (some false)) else (some false)) else (some false)) = some r := H
              have A49 := Aside0.mk A490
              clear A490
              by_cases c50 : t291 = true
              · subst c50
                have H1 : (if x21_14 = true then (if t290 = true then (if 0 ≤ (l2.length : Int) then (if (l2.length : Int) < (y268.length : Int) then (if (rd y268 (l2.length : Int)) = 77 then (if t247 = t251 then (if t255 = t259 then (some (t276 == t280)) else (some false)) else (some false)) else (some false)) else (none)) else (none)) else (some false)) else (some false)) = some r := by rw [if_pos rfl] at H; exact H
                clear H
                have H := H1
                clear H1
                by_cases c51 : x21_14 = true
                · subst c51
                  have H1 : (if t290 = true then (if 0 ≤ (l2.length : Int) then (if (l2.length : Int) < (y268.length : Int) then (if (rd y268 (l2.length : Int)) = 77 then (if t247 = t251 then (if t255 = t259 then (some (t276 == t280)) else (some false)) else (some false)) else (some false)) else (none)) else (none)) else (some false)) = some r := by rw [if_pos rfl] at H; exact H
                  clear H
                  have H := H1
                  clear H1
                  by_cases c52 : t290 = true
                  · subst c52
                    have H1 : (if 0 ≤ (l2.length : Int) then (if (l2.length : Int) < (y268.length : Int) then (if (rd y268 (l2.length : Int)) = 77 then (if t247 = t251 then (if t255 = t259 then (some (t276 == t280)) else (some false)) else (some false)) else (some false)) else (none)) else (none)) = some r := by rw [if_pos rfl] at H; exact H
                    clear H
                    have H := H1
                    clear H1
                    by_cases c53 : 0 ≤ (l2.length : Int)
                    · rw [if_pos c53] at H
                      have c53b0 : decide (0 ≤ (l2.length : Int)) = true := decide_eq_true c53
                      have c53b1 : decide (0 ≤ l2.length) = true := decide_eq_true (by omega)
                      clear c53
                      by_cases c54 : (l2.length : Int) < (y268.length : Int)
                      · rw [if_pos c54] at H
                        have c54b0 : decide ((l2.length : Int) < (y268.length : Int)) = true := decide_eq_true c54
                        have c54b1 : decide (l2.length < y268.length) = true := decide_eq_true (Int.ofNat_lt.mp c54)
                        clear c54
                        by_cases c55 : (rd y268 (l2.length : Int)) = 77
                        · rw [if_pos c55] at H
                          have c55b0 : ((rd y268 (l2.length : Int)) == 77) = true := beq_iff_eq.mpr c55
                          have c55b1 : ((rd y268 (l2.length : Int)) != 77) = false := bne_eq_false_iff_eq.mpr c55
                          clear c55
                          by_cases c56 : t247 = t251
                          · rw [if_pos c56] at H
                            have c56b0 : (t247 == t251) = true := beq_iff_eq.mpr c56
                            have c56b1 : (t247 != t251) = false := bne_eq_false_iff_eq.mpr c56
                            clear c56
                            by_cases c57 : t255 = t259
                            · rw [if_pos c57] at H
                              have c57b0 : (t255 == t259) = true := beq_iff_eq.mpr c57
                              have c57b1 : (t255 != t259) = false := bne_eq_false_iff_eq.mpr c57
                              clear c57
                              obtain rfl := Option.some.inj H
                              obtain ⟨Ao58, co58, eo58⟩ := Kd.R_slice HO_17.out
                              subst eo58
                              obtain ⟨Ao59, co59, eo59⟩ := Kd.R_slice HO_19.out
                              subst eo59
                              go_wp2_with (first | ((with_reducible refine gate_callee (f := 14) rfl ?_); refine goesL_ (some 81) rfl rfl Try.func14 (by kernel_rfl) rfl #[.slice Ao58 t275.length co58, .slice Ao59 t279.length co59] rfl (by (try simp only [List.map_toArray, List.map_cons, List.map_nil]); first | done | rfl | (simp only [List.length_drop, List.length_take]; rfl)) ?_; (with_reducible refine (stileref01_SameRow.calls kj14 _ _ t275 _ _ t279 true _ ?side1 ?side2 ?side3 ?side4 A48.out).mono ?_); (case side1 => repeat (first | exact (Kd.R_reads' HO_17.out).2.2 | (with_reducible refine Kd.C_alloc ?_ _) | (with_reducible refine Kd.C_drewN ?_ _) | (with_reducible refine Kd.C_drew ?_))); (case side2 => exact (Kd.R_reads' HO_17.out).2.1); (case side3 => repeat (first | exact (Kd.R_reads' HO_19.out).2.2 | (with_reducible refine Kd.C_alloc ?_ _) | (with_reducible refine Kd.C_drewN ?_ _) | (with_reducible refine Kd.C_drew ?_))); (case side4 => exact (Kd.R_reads' HO_19.out).2.1); rintro e w' ⟨rfl, ⟨nd, rfl⟩⟩; refine ⟨_, rfl, ?_⟩) | ((with_reducible refine gate_callee (f := 15) rfl ?_); refine goesL_ (some 82) rfl rfl Try.func15 (by kernel_rfl) rfl #[] rfl (by (try simp only [List.map_toArray, List.map_cons, List.map_nil]); first | done | rfl | (simp only [List.length_drop, List.length_take]; rfl)) ?_; (with_reducible refine (stilelaw04_alive.calls kj14  true _ A49.out).mono ?_); rintro e w60 ⟨rfl, hb⟩; refine ⟨_, rfl, ?_⟩; have n0_ := Aside0.mk (Kd.R_below (by (with_reducible repeat (first | apply Kd.R_alloc | apply Kd.R_drewN | apply Kd.R_drew)); exact HO_16.out) hb); have n1_ := Aside0.mk (Kd.R_below (by (with_reducible repeat (first | apply Kd.R_alloc | apply Kd.R_drewN | apply Kd.R_drew)); exact HO_17.out) hb); have n2_ := Aside0.mk (Kd.R_below (by (with_reducible repeat (first | apply Kd.R_alloc | apply Kd.R_drewN | apply Kd.R_drew)); exact HO_19.out) hb); have n3_ := Aside0.mk (Kd.C_below (by repeat (first | (with_reducible exact HR274.out) | (with_reducible refine Kd.C_alloc ?_ _) | (with_reducible refine Kd.C_drewN ?_ _) | (with_reducible refine Kd.C_drew ?_) | exact HR274.out)) hb); have n4_ := Aside0.mk (below_step (by repeat (first | (with_reducible first | exact HB.out | apply below_alloc | apply pw_below_drewN | apply below_drew1) | exact HB.out)) hb); clear HO_16; clear HO_17; clear HO_19; clear HR274; clear HB; have HO_16 := n0_; have HO_17 := n1_; have HO_19 := n2_; have HR274 := n3_; have HB := n4_; clear n0_ n1_ n2_ n3_ n4_; (try clear hb); (try clear hb2); (try clear hk); (try clear hi); have p292 : 0 ≤ ((l2.length : Int) : Int) := of_decide_eq_true (by first | (with_reducible assumption) | assumption); have q292 : (l2.length : Int) < (y268.length : Int) := of_decide_eq_true (by first | (with_reducible assumption) | assumption); obtain ⟨ad292, e292, hx292_0⟩ := Kd.at_int (Kd.R_reads' HO_16.out).2.2 (l2.length : Int) p292 q292; cases e292; (try simp only [Go.IntWalk.toNatUp] at hx292_0); replace p292 := eq_true p292; replace q292 := eq_true q292))
                              go_ret
                              exact ⟨by first | rfl | (simp [errW_none, errW_some] <;> rfl) | (simp [*, errW_none, errW_some] <;> rfl), by repeat (first | (with_reducible first | exact HB.out | apply below_alloc | apply pw_below_drewN | apply below_drew1) | exact HB.out)⟩
                            · rw [if_neg c57] at H
                              have c57b0 : (t255 == t259) = false := beq_eq_false_iff_ne.mpr c57
                              have c57b1 : (t255 != t259) = true := bne_iff_ne.mpr c57
                              obtain rfl := Option.some.inj H
                              obtain ⟨Ao61, co61, eo61⟩ := Kd.R_slice HO_17.out
                              subst eo61
                              obtain ⟨Ao62, co62, eo62⟩ := Kd.R_slice HO_19.out
                              subst eo62
                              go_wp2_with (first | ((with_reducible refine gate_callee (f := 14) rfl ?_); refine goesL_ (some 81) rfl rfl Try.func14 (by kernel_rfl) rfl #[.slice Ao61 t275.length co61, .slice Ao62 t279.length co62] rfl (by (try simp only [List.map_toArray, List.map_cons, List.map_nil]); first | done | rfl | (simp only [List.length_drop, List.length_take]; rfl)) ?_; (with_reducible refine (stileref01_SameRow.calls kj14 _ _ t275 _ _ t279 true _ ?side1 ?side2 ?side3 ?side4 A48.out).mono ?_); (case side1 => repeat (first | exact (Kd.R_reads' HO_17.out).2.2 | (with_reducible refine Kd.C_alloc ?_ _) | (with_reducible refine Kd.C_drewN ?_ _) | (with_reducible refine Kd.C_drew ?_))); (case side2 => exact (Kd.R_reads' HO_17.out).2.1); (case side3 => repeat (first | exact (Kd.R_reads' HO_19.out).2.2 | (with_reducible refine Kd.C_alloc ?_ _) | (with_reducible refine Kd.C_drewN ?_ _) | (with_reducible refine Kd.C_drew ?_))); (case side4 => exact (Kd.R_reads' HO_19.out).2.1); rintro e w' ⟨rfl, ⟨nd, rfl⟩⟩; refine ⟨_, rfl, ?_⟩) | ((with_reducible refine gate_callee (f := 15) rfl ?_); refine goesL_ (some 82) rfl rfl Try.func15 (by kernel_rfl) rfl #[] rfl (by (try simp only [List.map_toArray, List.map_cons, List.map_nil]); first | done | rfl | (simp only [List.length_drop, List.length_take]; rfl)) ?_; (with_reducible refine (stilelaw04_alive.calls kj14  true _ A49.out).mono ?_); rintro e w63 ⟨rfl, hb⟩; refine ⟨_, rfl, ?_⟩; have n0_ := Aside0.mk (Kd.R_below (by (with_reducible repeat (first | apply Kd.R_alloc | apply Kd.R_drewN | apply Kd.R_drew)); exact HO_16.out) hb); have n1_ := Aside0.mk (Kd.R_below (by (with_reducible repeat (first | apply Kd.R_alloc | apply Kd.R_drewN | apply Kd.R_drew)); exact HO_17.out) hb); have n2_ := Aside0.mk (Kd.R_below (by (with_reducible repeat (first | apply Kd.R_alloc | apply Kd.R_drewN | apply Kd.R_drew)); exact HO_19.out) hb); have n3_ := Aside0.mk (Kd.C_below (by repeat (first | (with_reducible exact HR274.out) | (with_reducible refine Kd.C_alloc ?_ _) | (with_reducible refine Kd.C_drewN ?_ _) | (with_reducible refine Kd.C_drew ?_) | exact HR274.out)) hb); have n4_ := Aside0.mk (below_step (by repeat (first | (with_reducible first | exact HB.out | apply below_alloc | apply pw_below_drewN | apply below_drew1) | exact HB.out)) hb); clear HO_16; clear HO_17; clear HO_19; clear HR274; clear HB; have HO_16 := n0_; have HO_17 := n1_; have HO_19 := n2_; have HR274 := n3_; have HB := n4_; clear n0_ n1_ n2_ n3_ n4_; (try clear hb); (try clear hb2); (try clear hk); (try clear hi); have p292 : 0 ≤ ((l2.length : Int) : Int) := of_decide_eq_true (by first | (with_reducible assumption) | assumption); have q292 : (l2.length : Int) < (y268.length : Int) := of_decide_eq_true (by first | (with_reducible assumption) | assumption); obtain ⟨ad292, e292, hx292_0⟩ := Kd.at_int (Kd.R_reads' HO_16.out).2.2 (l2.length : Int) p292 q292; cases e292; (try simp only [Go.IntWalk.toNatUp] at hx292_0); replace p292 := eq_true p292; replace q292 := eq_true q292))
                              go_ret
                              exact ⟨by first | rfl | (simp [errW_none, errW_some] <;> rfl) | (simp [*, errW_none, errW_some] <;> rfl), by repeat (first | (with_reducible first | exact HB.out | apply below_alloc | apply pw_below_drewN | apply below_drew1) | exact HB.out)⟩
                          · rw [if_neg c56] at H
                            have c56b0 : (t247 == t251) = false := beq_eq_false_iff_ne.mpr c56
                            have c56b1 : (t247 != t251) = true := bne_iff_ne.mpr c56
                            obtain rfl := Option.some.inj H
                            obtain ⟨Ao64, co64, eo64⟩ := Kd.R_slice HO_17.out
                            subst eo64
                            obtain ⟨Ao65, co65, eo65⟩ := Kd.R_slice HO_19.out
                            subst eo65
                            go_wp2_with (first | ((with_reducible refine gate_callee (f := 14) rfl ?_); refine goesL_ (some 81) rfl rfl Try.func14 (by kernel_rfl) rfl #[.slice Ao64 t275.length co64, .slice Ao65 t279.length co65] rfl (by (try simp only [List.map_toArray, List.map_cons, List.map_nil]); first | done | rfl | (simp only [List.length_drop, List.length_take]; rfl)) ?_; (with_reducible refine (stileref01_SameRow.calls kj14 _ _ t275 _ _ t279 true _ ?side1 ?side2 ?side3 ?side4 A48.out).mono ?_); (case side1 => repeat (first | exact (Kd.R_reads' HO_17.out).2.2 | (with_reducible refine Kd.C_alloc ?_ _) | (with_reducible refine Kd.C_drewN ?_ _) | (with_reducible refine Kd.C_drew ?_))); (case side2 => exact (Kd.R_reads' HO_17.out).2.1); (case side3 => repeat (first | exact (Kd.R_reads' HO_19.out).2.2 | (with_reducible refine Kd.C_alloc ?_ _) | (with_reducible refine Kd.C_drewN ?_ _) | (with_reducible refine Kd.C_drew ?_))); (case side4 => exact (Kd.R_reads' HO_19.out).2.1); rintro e w' ⟨rfl, ⟨nd, rfl⟩⟩; refine ⟨_, rfl, ?_⟩) | ((with_reducible refine gate_callee (f := 15) rfl ?_); refine goesL_ (some 82) rfl rfl Try.func15 (by kernel_rfl) rfl #[] rfl (by (try simp only [List.map_toArray, List.map_cons, List.map_nil]); first | done | rfl | (simp only [List.length_drop, List.length_take]; rfl)) ?_; (with_reducible refine (stilelaw04_alive.calls kj14  true _ A49.out).mono ?_); rintro e w66 ⟨rfl, hb⟩; refine ⟨_, rfl, ?_⟩; have n0_ := Aside0.mk (Kd.R_below (by (with_reducible repeat (first | apply Kd.R_alloc | apply Kd.R_drewN | apply Kd.R_drew)); exact HO_16.out) hb); have n1_ := Aside0.mk (Kd.R_below (by (with_reducible repeat (first | apply Kd.R_alloc | apply Kd.R_drewN | apply Kd.R_drew)); exact HO_17.out) hb); have n2_ := Aside0.mk (Kd.R_below (by (with_reducible repeat (first | apply Kd.R_alloc | apply Kd.R_drewN | apply Kd.R_drew)); exact HO_19.out) hb); have n3_ := Aside0.mk (Kd.C_below (by repeat (first | (with_reducible exact HR274.out) | (with_reducible refine Kd.C_alloc ?_ _) | (with_reducible refine Kd.C_drewN ?_ _) | (with_reducible refine Kd.C_drew ?_) | exact HR274.out)) hb); have n4_ := Aside0.mk (below_step (by repeat (first | (with_reducible first | exact HB.out | apply below_alloc | apply pw_below_drewN | apply below_drew1) | exact HB.out)) hb); clear HO_16; clear HO_17; clear HO_19; clear HR274; clear HB; have HO_16 := n0_; have HO_17 := n1_; have HO_19 := n2_; have HR274 := n3_; have HB := n4_; clear n0_ n1_ n2_ n3_ n4_; (try clear hb); (try clear hb2); (try clear hk); (try clear hi); have p292 : 0 ≤ ((l2.length : Int) : Int) := of_decide_eq_true (by first | (with_reducible assumption) | assumption); have q292 : (l2.length : Int) < (y268.length : Int) := of_decide_eq_true (by first | (with_reducible assumption) | assumption); obtain ⟨ad292, e292, hx292_0⟩ := Kd.at_int (Kd.R_reads' HO_16.out).2.2 (l2.length : Int) p292 q292; cases e292; (try simp only [Go.IntWalk.toNatUp] at hx292_0); replace p292 := eq_true p292; replace q292 := eq_true q292))
                            go_ret
                            exact ⟨by first | rfl | (simp [errW_none, errW_some] <;> rfl) | (simp [*, errW_none, errW_some] <;> rfl), by repeat (first | (with_reducible first | exact HB.out | apply below_alloc | apply pw_below_drewN | apply below_drew1) | exact HB.out)⟩
                        · rw [if_neg c55] at H
                          have c55b0 : ((rd y268 (l2.length : Int)) == 77) = false := beq_eq_false_iff_ne.mpr c55
                          have c55b1 : ((rd y268 (l2.length : Int)) != 77) = true := bne_iff_ne.mpr c55
                          obtain rfl := Option.some.inj H
                          obtain ⟨Ao67, co67, eo67⟩ := Kd.R_slice HO_17.out
                          subst eo67
                          obtain ⟨Ao68, co68, eo68⟩ := Kd.R_slice HO_19.out
                          subst eo68
                          go_wp2_with (first | ((with_reducible refine gate_callee (f := 14) rfl ?_); refine goesL_ (some 81) rfl rfl Try.func14 (by kernel_rfl) rfl #[.slice Ao67 t275.length co67, .slice Ao68 t279.length co68] rfl (by (try simp only [List.map_toArray, List.map_cons, List.map_nil]); first | done | rfl | (simp only [List.length_drop, List.length_take]; rfl)) ?_; (with_reducible refine (stileref01_SameRow.calls kj14 _ _ t275 _ _ t279 true _ ?side1 ?side2 ?side3 ?side4 A48.out).mono ?_); (case side1 => repeat (first | exact (Kd.R_reads' HO_17.out).2.2 | (with_reducible refine Kd.C_alloc ?_ _) | (with_reducible refine Kd.C_drewN ?_ _) | (with_reducible refine Kd.C_drew ?_))); (case side2 => exact (Kd.R_reads' HO_17.out).2.1); (case side3 => repeat (first | exact (Kd.R_reads' HO_19.out).2.2 | (with_reducible refine Kd.C_alloc ?_ _) | (with_reducible refine Kd.C_drewN ?_ _) | (with_reducible refine Kd.C_drew ?_))); (case side4 => exact (Kd.R_reads' HO_19.out).2.1); rintro e w' ⟨rfl, ⟨nd, rfl⟩⟩; refine ⟨_, rfl, ?_⟩) | ((with_reducible refine gate_callee (f := 15) rfl ?_); refine goesL_ (some 82) rfl rfl Try.func15 (by kernel_rfl) rfl #[] rfl (by (try simp only [List.map_toArray, List.map_cons, List.map_nil]); first | done | rfl | (simp only [List.length_drop, List.length_take]; rfl)) ?_; (with_reducible refine (stilelaw04_alive.calls kj14  true _ A49.out).mono ?_); rintro e w69 ⟨rfl, hb⟩; refine ⟨_, rfl, ?_⟩; have n0_ := Aside0.mk (Kd.R_below (by (with_reducible repeat (first | apply Kd.R_alloc | apply Kd.R_drewN | apply Kd.R_drew)); exact HO_16.out) hb); have n1_ := Aside0.mk (Kd.R_below (by (with_reducible repeat (first | apply Kd.R_alloc | apply Kd.R_drewN | apply Kd.R_drew)); exact HO_17.out) hb); have n2_ := Aside0.mk (Kd.R_below (by (with_reducible repeat (first | apply Kd.R_alloc | apply Kd.R_drewN | apply Kd.R_drew)); exact HO_19.out) hb); have n3_ := Aside0.mk (Kd.C_below (by repeat (first | (with_reducible exact HR274.out) | (with_reducible refine Kd.C_alloc ?_ _) | (with_reducible refine Kd.C_drewN ?_ _) | (with_reducible refine Kd.C_drew ?_) | exact HR274.out)) hb); have n4_ := Aside0.mk (below_step (by repeat (first | (with_reducible first | exact HB.out | apply below_alloc | apply pw_below_drewN | apply below_drew1) | exact HB.out)) hb); clear HO_16; clear HO_17; clear HO_19; clear HR274; clear HB; have HO_16 := n0_; have HO_17 := n1_; have HO_19 := n2_; have HR274 := n3_; have HB := n4_; clear n0_ n1_ n2_ n3_ n4_; (try clear hb); (try clear hb2); (try clear hk); (try clear hi); have p292 : 0 ≤ ((l2.length : Int) : Int) := of_decide_eq_true (by first | (with_reducible assumption) | assumption); have q292 : (l2.length : Int) < (y268.length : Int) := of_decide_eq_true (by first | (with_reducible assumption) | assumption); obtain ⟨ad292, e292, hx292_0⟩ := Kd.at_int (Kd.R_reads' HO_16.out).2.2 (l2.length : Int) p292 q292; cases e292; (try simp only [Go.IntWalk.toNatUp] at hx292_0); replace p292 := eq_true p292; replace q292 := eq_true q292))
                          go_ret
                          exact ⟨by first | rfl | (simp [errW_none, errW_some] <;> rfl) | (simp [*, errW_none, errW_some] <;> rfl), by repeat (first | (with_reducible first | exact HB.out | apply below_alloc | apply pw_below_drewN | apply below_drew1) | exact HB.out)⟩
                      · rw [if_neg c54] at H
                        exact absurd H (by simp)
                    · rw [if_neg c53] at H
                      exact absurd H (by simp)
                  · replace c52 := Bool.eq_false_iff.mpr c52
                    subst c52
                    have H1 : (some false) = some r := by rw [if_neg (show ¬ (false = true) by decide)] at H; exact H
                    clear H
                    have H := H1
                    clear H1
                    obtain rfl := Option.some.inj H
                    obtain ⟨Ao70, co70, eo70⟩ := Kd.R_slice HO_17.out
                    subst eo70
                    obtain ⟨Ao71, co71, eo71⟩ := Kd.R_slice HO_19.out
                    subst eo71
                    go_wp2_with (first | ((with_reducible refine gate_callee (f := 14) rfl ?_); refine goesL_ (some 81) rfl rfl Try.func14 (by kernel_rfl) rfl #[.slice Ao70 t275.length co70, .slice Ao71 t279.length co71] rfl (by (try simp only [List.map_toArray, List.map_cons, List.map_nil]); first | done | rfl | (simp only [List.length_drop, List.length_take]; rfl)) ?_; (with_reducible refine (stileref01_SameRow.calls kj14 _ _ t275 _ _ t279 false _ ?side1 ?side2 ?side3 ?side4 A48.out).mono ?_); (case side1 => repeat (first | exact (Kd.R_reads' HO_17.out).2.2 | (with_reducible refine Kd.C_alloc ?_ _) | (with_reducible refine Kd.C_drewN ?_ _) | (with_reducible refine Kd.C_drew ?_))); (case side2 => exact (Kd.R_reads' HO_17.out).2.1); (case side3 => repeat (first | exact (Kd.R_reads' HO_19.out).2.2 | (with_reducible refine Kd.C_alloc ?_ _) | (with_reducible refine Kd.C_drewN ?_ _) | (with_reducible refine Kd.C_drew ?_))); (case side4 => exact (Kd.R_reads' HO_19.out).2.1); rintro e w' ⟨rfl, ⟨nd, rfl⟩⟩; refine ⟨_, rfl, ?_⟩) | ((with_reducible refine gate_callee (f := 15) rfl ?_); refine goesL_ (some 82) rfl rfl Try.func15 (by kernel_rfl) rfl #[] rfl (by (try simp only [List.map_toArray, List.map_cons, List.map_nil]); first | done | rfl | (simp only [List.length_drop, List.length_take]; rfl)) ?_; (with_reducible refine (stilelaw04_alive.calls kj14  true _ A49.out).mono ?_); rintro e w72 ⟨rfl, hb⟩; refine ⟨_, rfl, ?_⟩; have n0_ := Aside0.mk (Kd.R_below (by (with_reducible repeat (first | apply Kd.R_alloc | apply Kd.R_drewN | apply Kd.R_drew)); exact HO_16.out) hb); have n1_ := Aside0.mk (Kd.R_below (by (with_reducible repeat (first | apply Kd.R_alloc | apply Kd.R_drewN | apply Kd.R_drew)); exact HO_17.out) hb); have n2_ := Aside0.mk (Kd.R_below (by (with_reducible repeat (first | apply Kd.R_alloc | apply Kd.R_drewN | apply Kd.R_drew)); exact HO_19.out) hb); have n3_ := Aside0.mk (Kd.C_below (by repeat (first | (with_reducible exact HR274.out) | (with_reducible refine Kd.C_alloc ?_ _) | (with_reducible refine Kd.C_drewN ?_ _) | (with_reducible refine Kd.C_drew ?_) | exact HR274.out)) hb); have n4_ := Aside0.mk (below_step (by repeat (first | (with_reducible first | exact HB.out | apply below_alloc | apply pw_below_drewN | apply below_drew1) | exact HB.out)) hb); clear HO_16; clear HO_17; clear HO_19; clear HR274; clear HB; have HO_16 := n0_; have HO_17 := n1_; have HO_19 := n2_; have HR274 := n3_; have HB := n4_; clear n0_ n1_ n2_ n3_ n4_; (try clear hb); (try clear hb2); (try clear hk); (try clear hi)))
                    go_ret
                    exact ⟨by first | rfl | (simp [errW_none, errW_some] <;> rfl) | (simp [*, errW_none, errW_some] <;> rfl), by repeat (first | (with_reducible first | exact HB.out | apply below_alloc | apply pw_below_drewN | apply below_drew1) | exact HB.out)⟩
                · replace c51 := Bool.eq_false_iff.mpr c51
                  subst c51
                  have H1 : (some false) = some r := by rw [if_neg (show ¬ (false = true) by decide)] at H; exact H
                  clear H
                  have H := H1
                  clear H1
                  obtain rfl := Option.some.inj H
                  obtain ⟨Ao73, co73, eo73⟩ := Kd.R_slice HO_17.out
                  subst eo73
                  obtain ⟨Ao74, co74, eo74⟩ := Kd.R_slice HO_19.out
                  subst eo74
                  go_wp2_with (first | ((with_reducible refine gate_callee (f := 14) rfl ?_); refine goesL_ (some 81) rfl rfl Try.func14 (by kernel_rfl) rfl #[.slice Ao73 t275.length co73, .slice Ao74 t279.length co74] rfl (by (try simp only [List.map_toArray, List.map_cons, List.map_nil]); first | done | rfl | (simp only [List.length_drop, List.length_take]; rfl)) ?_; (with_reducible refine (stileref01_SameRow.calls kj14 _ _ t275 _ _ t279 t290 _ ?side1 ?side2 ?side3 ?side4 A48.out).mono ?_); (case side1 => repeat (first | exact (Kd.R_reads' HO_17.out).2.2 | (with_reducible refine Kd.C_alloc ?_ _) | (with_reducible refine Kd.C_drewN ?_ _) | (with_reducible refine Kd.C_drew ?_))); (case side2 => exact (Kd.R_reads' HO_17.out).2.1); (case side3 => repeat (first | exact (Kd.R_reads' HO_19.out).2.2 | (with_reducible refine Kd.C_alloc ?_ _) | (with_reducible refine Kd.C_drewN ?_ _) | (with_reducible refine Kd.C_drew ?_))); (case side4 => exact (Kd.R_reads' HO_19.out).2.1); rintro e w' ⟨rfl, ⟨nd, rfl⟩⟩; refine ⟨_, rfl, ?_⟩) | ((with_reducible refine gate_callee (f := 15) rfl ?_); refine goesL_ (some 82) rfl rfl Try.func15 (by kernel_rfl) rfl #[] rfl (by (try simp only [List.map_toArray, List.map_cons, List.map_nil]); first | done | rfl | (simp only [List.length_drop, List.length_take]; rfl)) ?_; (with_reducible refine (stilelaw04_alive.calls kj14  true _ A49.out).mono ?_); rintro e w75 ⟨rfl, hb⟩; refine ⟨_, rfl, ?_⟩; have n0_ := Aside0.mk (Kd.R_below (by (with_reducible repeat (first | apply Kd.R_alloc | apply Kd.R_drewN | apply Kd.R_drew)); exact HO_16.out) hb); have n1_ := Aside0.mk (Kd.R_below (by (with_reducible repeat (first | apply Kd.R_alloc | apply Kd.R_drewN | apply Kd.R_drew)); exact HO_17.out) hb); have n2_ := Aside0.mk (Kd.R_below (by (with_reducible repeat (first | apply Kd.R_alloc | apply Kd.R_drewN | apply Kd.R_drew)); exact HO_19.out) hb); have n3_ := Aside0.mk (Kd.C_below (by repeat (first | (with_reducible exact HR274.out) | (with_reducible refine Kd.C_alloc ?_ _) | (with_reducible refine Kd.C_drewN ?_ _) | (with_reducible refine Kd.C_drew ?_) | exact HR274.out)) hb); have n4_ := Aside0.mk (below_step (by repeat (first | (with_reducible first | exact HB.out | apply below_alloc | apply pw_below_drewN | apply below_drew1) | exact HB.out)) hb); clear HO_16; clear HO_17; clear HO_19; clear HR274; clear HB; have HO_16 := n0_; have HO_17 := n1_; have HO_19 := n2_; have HR274 := n3_; have HB := n4_; clear n0_ n1_ n2_ n3_ n4_; (try clear hb); (try clear hb2); (try clear hk); (try clear hi)))
                  go_ret
                  exact ⟨by first | rfl | (simp [errW_none, errW_some] <;> rfl) | (simp [*, errW_none, errW_some] <;> rfl), by repeat (first | (with_reducible first | exact HB.out | apply below_alloc | apply pw_below_drewN | apply below_drew1) | exact HB.out)⟩
              · replace c50 := Bool.eq_false_iff.mpr c50
                subst c50
                have H1 : (some false) = some r := by rw [if_neg (show ¬ (false = true) by decide)] at H; exact H
                clear H
                have H := H1
                clear H1
                obtain rfl := Option.some.inj H
                obtain ⟨Ao76, co76, eo76⟩ := Kd.R_slice HO_17.out
                subst eo76
                obtain ⟨Ao77, co77, eo77⟩ := Kd.R_slice HO_19.out
                subst eo77
                go_wp2_with (first | ((with_reducible refine gate_callee (f := 14) rfl ?_); refine goesL_ (some 81) rfl rfl Try.func14 (by kernel_rfl) rfl #[.slice Ao76 t275.length co76, .slice Ao77 t279.length co77] rfl (by (try simp only [List.map_toArray, List.map_cons, List.map_nil]); first | done | rfl | (simp only [List.length_drop, List.length_take]; rfl)) ?_; (with_reducible refine (stileref01_SameRow.calls kj14 _ _ t275 _ _ t279 t290 _ ?side1 ?side2 ?side3 ?side4 A48.out).mono ?_); (case side1 => repeat (first | exact (Kd.R_reads' HO_17.out).2.2 | (with_reducible refine Kd.C_alloc ?_ _) | (with_reducible refine Kd.C_drewN ?_ _) | (with_reducible refine Kd.C_drew ?_))); (case side2 => exact (Kd.R_reads' HO_17.out).2.1); (case side3 => repeat (first | exact (Kd.R_reads' HO_19.out).2.2 | (with_reducible refine Kd.C_alloc ?_ _) | (with_reducible refine Kd.C_drewN ?_ _) | (with_reducible refine Kd.C_drew ?_))); (case side4 => exact (Kd.R_reads' HO_19.out).2.1); rintro e w' ⟨rfl, ⟨nd, rfl⟩⟩; refine ⟨_, rfl, ?_⟩) | ((with_reducible refine gate_callee (f := 15) rfl ?_); refine goesL_ (some 82) rfl rfl Try.func15 (by kernel_rfl) rfl #[] rfl (by (try simp only [List.map_toArray, List.map_cons, List.map_nil]); first | done | rfl | (simp only [List.length_drop, List.length_take]; rfl)) ?_; (with_reducible refine (stilelaw04_alive.calls kj14  false _ A49.out).mono ?_); rintro e w78 ⟨rfl, hb⟩; refine ⟨_, rfl, ?_⟩; have n0_ := Aside0.mk (Kd.R_below (by (with_reducible repeat (first | apply Kd.R_alloc | apply Kd.R_drewN | apply Kd.R_drew)); exact HO_16.out) hb); have n1_ := Aside0.mk (Kd.R_below (by (with_reducible repeat (first | apply Kd.R_alloc | apply Kd.R_drewN | apply Kd.R_drew)); exact HO_17.out) hb); have n2_ := Aside0.mk (Kd.R_below (by (with_reducible repeat (first | apply Kd.R_alloc | apply Kd.R_drewN | apply Kd.R_drew)); exact HO_19.out) hb); have n3_ := Aside0.mk (Kd.C_below (by repeat (first | (with_reducible exact HR274.out) | (with_reducible refine Kd.C_alloc ?_ _) | (with_reducible refine Kd.C_drewN ?_ _) | (with_reducible refine Kd.C_drew ?_) | exact HR274.out)) hb); have n4_ := Aside0.mk (below_step (by repeat (first | (with_reducible first | exact HB.out | apply below_alloc | apply pw_below_drewN | apply below_drew1) | exact HB.out)) hb); clear HO_16; clear HO_17; clear HO_19; clear HR274; clear HB; have HO_16 := n0_; have HO_17 := n1_; have HO_19 := n2_; have HR274 := n3_; have HB := n4_; clear n0_ n1_ n2_ n3_ n4_; (try clear hb); (try clear hb2); (try clear hk); (try clear hi)))
                go_ret
                exact ⟨by first | rfl | (simp [errW_none, errW_some] <;> rfl) | (simp [*, errW_none, errW_some] <;> rfl), by repeat (first | (with_reducible first | exact HB.out | apply below_alloc | apply pw_below_drewN | apply below_drew1) | exact HB.out)⟩
        · rw [if_neg c12] at H
          exact absurd H (by simp)
      · rw [if_neg c11] at H
        exact absurd H (by simp)
    · rw [if_neg c10] at H
      exact absurd H (by simp)
  · rw [if_neg c9] at H
    exact absurd H (by simp)

end Go.Proofs.Ythcoiomnlcagcaa.PRQ

namespace Go.Proofs.Ythcoiomnlcagcaa
open Go.RowKit Go.Proofs.YthcoiomnlcagcaaW.PrintWords Go.Proofs.YthcoiomnlcagcaaW.PrintLast Go.Proofs.YthcoiomnlcagcaaW.PrintMore Go.Proofs.Ythcoiomnlcagcaa.PRQ
set_option linter.unusedVariables false
set_option linter.unusedSimpArgs false
namespace Rl
theorem codes (l : List S44) (odd : List S40) (b : List Int) (ho : odd.length ≤ 9223372036854775807) (hb : IsB b) (hs : b.length ≤ 140737488351232) : ∃ k, stilelaw04_RowCodes.f k l odd b = some true := by
  obtain ⟨k1, h1⟩ := row_f l
  have hrl := row_len l
  obtain ⟨k2, h2⟩ := encP (rowOf l) (by omega)
  obtain ⟨k3, h3⟩ := encR (rowOf l) (by omega)
  obtain ⟨k4, h4⟩ := encP odd ho
  obtain ⟨k5, h5⟩ := encR odd ho
  obtain ⟨k6, r, h6, h7⟩ := decR b hb hs
  obtain ⟨b8, h8, g8⟩ := same_f (encRes (rowOf l)).1 (encRes (rowOf l)).1 (encRes_byte _) (encRes_byte _)
  obtain rfl : b8 = true := g8.2 rfl
  obtain ⟨b9, h9, g9⟩ := same_f (encRes odd).1 (encRes odd).1 (encRes_byte _) (encRes_byte _)
  obtain rfl : b9 = true := g9.2 rfl
  have hby : Byte b := fun n hn => by have := hb n hn; omega
  obtain ⟨b10, h10, g10⟩ := same_f b b hby hby
  obtain rfl : b10 = true := g10.2 rfl
  have hr40 : r.1.length ≤ 40 := by
    rcases dec_inv_f b hb hs with ⟨x, e1, e2, e3, e4⟩ | e1
    · rw [h7] at e1
      obtain rfl := Option.some.inj e1
      have := (bytesR_len x (fun y hy => (e3 y hy).1) e4).2.2
      show x.length ≤ 40
      omega
    · rw [h7] at e1
      obtain rfl := Option.some.inj e1
      simp
  obtain ⟨k11, b11, h11, g11⟩ := sameRow_f r.1 r.1 hr40
  obtain rfl : b11 = true := g11.2 rfl
  have htake : (([] ++ b ++ [77] : List Int)).take ((b.length : Int)).toNat = b := by simp
  have hlast : rd (([] ++ b ++ [77] : List Int)) (b.length : Int) = 77 := by simp [rd]
  have hlen : (([] ++ b ++ [77] : List Int)).length = b.length + 1 := by simp
  refine ⟨k1 + k2 + k3 + k4 + k5 + k6 + k11 + 42, ?_⟩
  unfold stilelaw04_RowCodes.f
  rw [up (g := fun k => stilelaw03_Row.f k l) (fun k => stilelaw03_Row.mono _ _) h1 _ (by omega), Option.bind_some,
    up (g := fun k => rowcode_Encode.f k (rowOf l)) (fun k => rowcode_Encode.mono _ _) h2 _ (by omega), Option.bind_some,
    up (g := fun k => stileref04_Encode.f k (rowOf l)) (fun k => stileref04_Encode.mono _ _) h3 _ (by omega), Option.bind_some,
    up (g := fun k => rowcode_Encode.f k odd) (fun k => rowcode_Encode.mono _ _) h4 _ (by omega), Option.bind_some,
    up (g := fun k => stileref04_Encode.f k odd) (fun k => stileref04_Encode.mono _ _) h5 _ (by omega), Option.bind_some]
  simp only [Option.bind_some]
  rw [if_pos (by simp; omega), if_pos (by simp; omega), if_pos (by omega), if_pos (by rw [hlen]; omega), htake, h7, Option.bind_some,
    up (g := fun k => stileref04_Decode.f k b) (fun k => stileref04_Decode.mono _ _) h6 _ (by omega), Option.bind_some, h8, Option.bind_some, if_pos rfl, h9, Option.bind_some, if_pos rfl, h10, Option.bind_some]
  unfold stilelaw04_RowCodes.j0
  dsimp only
  rw [up (g := fun k => stileref01_SameRow.f k r.1 r.1) (fun k => stileref01_SameRow.mono _ _ _) h11 _ (by omega), Option.bind_some,
    up (g := fun k => stilelaw04_alive.f k) stilelaw04_alive.mono alive_ok _ (by omega), Option.bind_some, if_pos rfl, if_pos rfl, if_pos rfl, if_pos (by omega), if_pos (by rw [hlen]; omega), if_pos hlast, if_pos rfl, if_pos rfl]
  simp
theorem codes_walk (A0 : Option Addr) (c0 : Nat) (l0 : List (S44)) (A1 : Option Addr) (c1 : Nat) (l1 : List (S40)) (A2 : Option Addr) (c2 : Nat) (l2 : List Int) (w : World) (hr0 : Kd.C k44 w A0 l0.length l0) (hc0 : l0.length ≤ c0) (hr1 : Kd.C k40 w A1 l1.length l1) (hc1 : l1.length ≤ c1) (hr2 : Kd.C (Kd.int .u8) w A2 l2.length l2) (hc2 : l2.length ≤ c2) (h0 : ∀ x ∈ l0, -9223372036854775808 ≤ x.f1 ∧ x.f1 ≤ 9223372036854775807) (y1 : ∀ x ∈ l1, x.f2.size ≤ 140737488351232) (z1 : ∀ x ∈ l1, -9223372036854775808 ≤ x.f1 ∧ x.f1 ≤ 9223372036854775807) (h2 : IsB l2) (h3 : l2.length ≤ 140737488351232) :
    Calls Try.prog 3 #[.slice A0 l0.length c0, .slice A1 l1.length c1, .slice A2 l2.length c2] w fun e w' => e = .returned (.bool true) ∧ Below w.heap.size w w' := by
  obtain ⟨k, hk⟩ := codes l0 l1 l2 hr1.2.1 h2 h3
  exact stilelaw04_RowCodes.calls k A0 c0 l0 A1 c1 l1 A2 c2 l2 true w hr0 hc0 hr1 hc1 hr2 hc2 hk
end Rl
end Go.Proofs.Ythcoiomnlcagcaa

namespace Go.Proofs.Ythcoiomnlcagcaa
open Go.ChangeShapes Go.WideShapes Go.Deep Go.RowKit Go.Proofs.YthcoiomnlcagcaaW.PrintWords Go.Proofs.Ythcoiomnlcagcaa.PRQ
set_option linter.unusedVariables false
set_option linter.unusedSimpArgs false
namespace Rl
section
variable {H : Type} {enc : TypeId × Value → H} {P : Program} {w : World} {base : Nat} {spare : Nat → Bool} {held : Bool}
theorem open_slice_fields {t e : TypeId} {fs : Array Field} {fuel : Nat} {cs : List Value} {x : DataW H × List MemPlace} (ht : P.underlying t = some (.slice e)) (he : P.underlying e = some (.struct fs))
    (hone : oneCellFields P fs = true) (hC : P.cellsOf e = fs.size) (h : DataW.trod enc P w base spare held fuel t cs = some x) :
    (cs = [.slice none 0 0] ∧ x = (.nil, [])) ∨
    ∃ (a : Addr) (len cap m : Nat) (D : Nat → DataW H) (Pl : Nat → List MemPlace), cs = [.slice (some a) len cap] ∧ base ≤ a.block ∧ len ≤ cap ∧ cap ≤ maxLen ∧ m = (if spare a.block then cap else len) ∧
      x = (.slice ((List.range len).map D) ((List.range (m - len)).map fun j => D (len + j)), MemPlace.row a (m * fs.size) ++ (List.range m).flatMap Pl) ∧
      ∀ i, i < m → ∃ (ys : List (DataW H × List MemPlace)) (n : Nat), D i = .agg (ys.map (·.1)) ∧ Pl i = ys.flatMap (·.2) ∧ ys.length = fs.size ∧
        ∀ (j : Nat) (f : Field), fs[j]? = some f → ∃ (v : Value) (y : DataW H × List MemPlace), w.cell? (a.add (i * fs.size + j)) = some v ∧ ys[j]? = some y ∧ DataW.trod enc P w base spare held n f.type [v] = some y := by
  rcases open_slice ht h with h0 | ⟨a, len, cap, m, n, D, Pl, hcs, hb, hl, hm, hmm, hx, hi⟩
  · exact .inl h0
  · refine .inr ⟨a, len, cap, m, D, Pl, hcs, hb, hl, hm, hmm, by rw [hC] at hx; exact hx, fun i him => ?_⟩
    obtain ⟨cs', hc, ht'⟩ := hi i him
    rw [hC] at hc
    obtain ⟨ys, n', hn', hy, hlen, hyl, hf⟩ := DataW.trod_struct he ht'
    obtain ⟨_, hcl, hat⟩ := World.cells?_some hc
    simp only [Prod.mk.injEq] at hy
    refine ⟨ys, n', hy.1, hy.2, hyl, fun j f hj => ?_⟩
    obtain ⟨ho, hk⟩ := hone_of hone j f hj
    have hjl : j < fs.size := (Array.getElem?_eq_some_iff.1 hj).1
    have hcell := hat j hjl
    have hv : cs'[j]? = some (cs'[j]'(by omega)) := List.getElem?_eq_getElem (by omega)
    have h1 := hf j f hj
    rw [ho, hk] at h1
    have hone' : (cs'.drop j).take 1 = [cs'[j]'(by omega)] := by
      rw [List.drop_eq_getElem_cons (by omega)]
      rfl
    rw [hone'] at h1
    have hys : ys[j]? = some (ys[j]'(by omega)) := List.getElem?_eq_getElem (by omega)
    refine ⟨_, _, ?_, hys, h1.trans hys⟩
    rw [← Go.Deep.add_add, hcell, hv]
end
theorem weightsAll_mem {H : Type} {P : Program} {t : TypeId} {n : Nat} {d : DataW H} : ∀ {ds : List (DataW H)}, d ∈ ds → n ∈ d.weights P t → n ∈ DataW.weightsAll P t ds
  | d0 :: ds, hd, hn => by
    simp only [DataW.weightsAll, List.mem_append]
    rcases List.mem_cons.1 hd with rfl | hd
    · exact .inl hn
    · exact .inr (weightsAll_mem hd hn)
theorem opens {H : Type} {enc : TypeId × Value → H} {w : World} {base b0 : Nat} {spare : Nat → Bool} {held : Bool} {r : Reach} {v : Value} {d : DataW H} {p : List MemPlace} (hv : Value.okWide Try.prog w r b0 22 v) (h : DataW.Trod enc Try.prog w base spare held 22 v d p) (hsz : ∀ n ∈ d.weights Try.prog 22, n ≤ 140737488351232) :
    ∃ (A : Option Addr) (c : Nat) (l : List S44), v = .slice A l.length c ∧ l.length ≤ c ∧ Kd.C k44 w A l.length l ∧ (∀ x ∈ l, x.f2.size ≤ 140737488351232) ∧ ∀ x ∈ l, -9223372036854775808 ≤ x.f1 ∧ x.f1 ≤ 9223372036854775807 := by
  obtain ⟨a, len, cap, rfl⟩ := okWide_slice Try.underlying22 hv
  obtain ⟨fuel, hf⟩ := h
  rcases open_slice_fields Try.underlying22 Try.underlying44 (by kernel_rfl) (by kernel_rfl) hf with ⟨hc, hx⟩ | ⟨a', len', cap', m, D, Pl, hc, hb, hl, hm, hmm, hx, hi⟩
  · simp [Value.cells] at hc
    obtain ⟨rfl, rfl, rfl⟩ := hc
    exact ⟨none, 0, [], rfl, Nat.le_refl _, ⟨rfl, by decide, fun q => absurd q (by simp)⟩, by simp, by simp⟩
  · simp [Value.cells] at hc
    obtain ⟨rfl, rfl, rfl⟩ := hc
    simp only [Prod.mk.injEq] at hx
    obtain ⟨rfl, -⟩ := hx
    have hex : ∀ i, i < len → ∃ x : S44, (w.cell? (a'.add (i * 4)) = some (.int .i64 x.f0) ∧ w.cell? (a'.add (i * 4 + 1)) = some (.int .i64 x.f1) ∧ w.cell? (a'.add (i * 4 + 2)) = some (.string x.f2) ∧ w.cell? (a'.add (i * 4 + 3)) = some (.bool x.f3)) ∧ x.f2.size ≤ 140737488351232 ∧ -9223372036854775808 ≤ x.f1 ∧ x.f1 ≤ 9223372036854775807 := by
      intro i hil
      obtain ⟨ys, n, hD, hP, hyl, hfl⟩ := hi i (by rw [hmm]; split <;> omega)
      obtain ⟨v0, y0, c0, g0, t0⟩ := hfl 0 _ rfl
      obtain ⟨v1, y1, c1, g1, t1⟩ := hfl 1 _ rfl
      obtain ⟨v2, y2, c2, g2, t2⟩ := hfl 2 _ rfl
      obtain ⟨v3, y3, c3, g3, t3⟩ := hfl 3 _ rfl
      obtain ⟨s0, e0, z0, b0⟩ := DataW.trod_int Try.underlying3 t0
      obtain ⟨s1, e1, z1, b1⟩ := DataW.trod_int Try.underlying2 t1
      obtain ⟨s2, e2, z2, b2⟩ := DataW.trod_string Try.underlying9 t2
      obtain ⟨s3, e3, z3⟩ := DataW.trod_bool Try.underlying4 t3
      simp only [List.cons.injEq, and_true] at e0 e1 e2 e3
      subst e0 e1 e2 e3
      refine ⟨⟨s0, s1, s2, s3⟩, ⟨c0, c1, c2, c3⟩, ?_, bounds_i64 b1⟩
      have hw : s2.data.toList.length ∈ (D i).weights Try.prog 44 := by
        rw [hD]
        simp only [DataW.weights, Try.underlying44]
        refine DataW.weights_mem_each (j := 2) (t := 9) (d := y2.1) rfl (by rw [List.getElem?_map, g2]; rfl) _ ?_
        rw [z2]
        simp [DataW.weights]
      have := hsz s2.data.toList.length (by
        simp only [DataW.weights, Try.underlying22]
        exact List.mem_cons_of_mem _ (List.mem_append_left _ (weightsAll_mem (List.mem_map.2 ⟨i, List.mem_range.2 hil, rfl⟩) hw)))
      rw [Array.length_toList] at this
      exact this
    let g : Nat → S44 := fun i => if q : i < len then (hex i q).choose else z44
    have hg : ∀ i, i < len → (w.cell? (a'.add (i * 4)) = some (.int .i64 (g i).f0) ∧ w.cell? (a'.add (i * 4 + 1)) = some (.int .i64 (g i).f1) ∧ w.cell? (a'.add (i * 4 + 2)) = some (.string (g i).f2) ∧ w.cell? (a'.add (i * 4 + 3)) = some (.bool (g i).f3)) ∧ (g i).f2.size ≤ 140737488351232 ∧ -9223372036854775808 ≤ (g i).f1 ∧ (g i).f1 ≤ 9223372036854775807 := by
      intro i q
      show _
      simp only [g, dif_pos q]
      exact (hex i q).choose_spec
    have hlen : ((List.range len).map g).length = len := by simp
    refine ⟨some a', cap, (List.range len).map g, by rw [hlen], by rw [hlen]; exact hl, ⟨rfl, by rw [hlen]; unfold maxLen at hm; omega, fun _ => ⟨a', rfl, fun j x hj => ?_⟩⟩, fun x hx => ?_, fun x hx => ?_⟩
    · obtain ⟨hj', rfl⟩ := List.getElem?_eq_some_iff.1 hj
      have hjl : j < len := by simpa using hj'
      simp only [List.getElem_map, List.getElem_range]
      obtain ⟨⟨q0, q1, q2, q3⟩, _⟩ := hg j hjl
      refine ⟨_, rfl, k44_mk w (g j), fun i u hu => ?_⟩
      match i, hu with
      | 0, hu => obtain rfl := Option.some.inj hu; exact q0
      | 1, hu => obtain rfl := Option.some.inj hu; exact q1
      | 2, hu => obtain rfl := Option.some.inj hu; exact q2
      | 3, hu => obtain rfl := Option.some.inj hu; exact q3
      | i + 4, hu => simp at hu
    · obtain ⟨i, hi', rfl⟩ := List.mem_map.1 hx
      exact (hg i (List.mem_range.1 hi')).2.1
    · obtain ⟨i, hi', rfl⟩ := List.mem_map.1 hx
      exact (hg i (List.mem_range.1 hi')).2.2
theorem opensO {H : Type} {enc : TypeId × Value → H} {w : World} {base b0 : Nat} {spare : Nat → Bool} {held : Bool} {r : Reach} {v : Value} {d : DataW H} {p : List MemPlace} (hv : Value.okWide Try.prog w r b0 24 v) (h : DataW.Trod enc Try.prog w base spare held 24 v d p) (hsz : ∀ n ∈ d.weights Try.prog 24, n ≤ 140737488351232) :
    ∃ (A : Option Addr) (c : Nat) (l : List S40), v = .slice A l.length c ∧ l.length ≤ c ∧ Kd.C k40 w A l.length l ∧ (∀ x ∈ l, x.f2.size ≤ 140737488351232) ∧ ∀ x ∈ l, -9223372036854775808 ≤ x.f1 ∧ x.f1 ≤ 9223372036854775807 := by
  obtain ⟨a, len, cap, rfl⟩ := okWide_slice Try.underlying24 hv
  obtain ⟨fuel, hf⟩ := h
  rcases open_slice_fields Try.underlying24 Try.underlying40 (by kernel_rfl) (by kernel_rfl) hf with ⟨hc, hx⟩ | ⟨a', len', cap', m, D, Pl, hc, hb, hl, hm, hmm, hx, hi⟩
  · simp [Value.cells] at hc
    obtain ⟨rfl, rfl, rfl⟩ := hc
    exact ⟨none, 0, [], rfl, Nat.le_refl _, ⟨rfl, by decide, fun q => absurd q (by simp)⟩, by simp, by simp⟩
  · simp [Value.cells] at hc
    obtain ⟨rfl, rfl, rfl⟩ := hc
    simp only [Prod.mk.injEq] at hx
    obtain ⟨rfl, -⟩ := hx
    have hex : ∀ i, i < len → ∃ x : S40, (w.cell? (a'.add (i * 4)) = some (.int .i64 x.f0) ∧ w.cell? (a'.add (i * 4 + 1)) = some (.int .i64 x.f1) ∧ w.cell? (a'.add (i * 4 + 2)) = some (.string x.f2) ∧ w.cell? (a'.add (i * 4 + 3)) = some (.bool x.f3)) ∧ x.f2.size ≤ 140737488351232 ∧ -9223372036854775808 ≤ x.f1 ∧ x.f1 ≤ 9223372036854775807 := by
      intro i hil
      obtain ⟨ys, n, hD, hP, hyl, hfl⟩ := hi i (by rw [hmm]; split <;> omega)
      obtain ⟨v0, y0, c0, g0, t0⟩ := hfl 0 _ rfl
      obtain ⟨v1, y1, c1, g1, t1⟩ := hfl 1 _ rfl
      obtain ⟨v2, y2, c2, g2, t2⟩ := hfl 2 _ rfl
      obtain ⟨v3, y3, c3, g3, t3⟩ := hfl 3 _ rfl
      obtain ⟨s0, e0, z0, b0⟩ := DataW.trod_int Try.underlying38 t0
      obtain ⟨s1, e1, z1, b1⟩ := DataW.trod_int Try.underlying2 t1
      obtain ⟨s2, e2, z2, b2⟩ := DataW.trod_string Try.underlying9 t2
      obtain ⟨s3, e3, z3⟩ := DataW.trod_bool Try.underlying4 t3
      simp only [List.cons.injEq, and_true] at e0 e1 e2 e3
      subst e0 e1 e2 e3
      refine ⟨⟨s0, s1, s2, s3⟩, ⟨c0, c1, c2, c3⟩, ?_, bounds_i64 b1⟩
      have hw : s2.data.toList.length ∈ (D i).weights Try.prog 40 := by
        rw [hD]
        simp only [DataW.weights, Try.underlying40]
        refine DataW.weights_mem_each (j := 2) (t := 9) (d := y2.1) rfl (by rw [List.getElem?_map, g2]; rfl) _ ?_
        rw [z2]
        simp [DataW.weights]
      have := hsz s2.data.toList.length (by
        simp only [DataW.weights, Try.underlying24]
        exact List.mem_cons_of_mem _ (List.mem_append_left _ (weightsAll_mem (List.mem_map.2 ⟨i, List.mem_range.2 hil, rfl⟩) hw)))
      rw [Array.length_toList] at this
      exact this
    let g : Nat → S40 := fun i => if q : i < len then (hex i q).choose else z40
    have hg : ∀ i, i < len → (w.cell? (a'.add (i * 4)) = some (.int .i64 (g i).f0) ∧ w.cell? (a'.add (i * 4 + 1)) = some (.int .i64 (g i).f1) ∧ w.cell? (a'.add (i * 4 + 2)) = some (.string (g i).f2) ∧ w.cell? (a'.add (i * 4 + 3)) = some (.bool (g i).f3)) ∧ (g i).f2.size ≤ 140737488351232 ∧ -9223372036854775808 ≤ (g i).f1 ∧ (g i).f1 ≤ 9223372036854775807 := by
      intro i q
      show _
      simp only [g, dif_pos q]
      exact (hex i q).choose_spec
    have hlen : ((List.range len).map g).length = len := by simp
    refine ⟨some a', cap, (List.range len).map g, by rw [hlen], by rw [hlen]; exact hl, ⟨rfl, by rw [hlen]; unfold maxLen at hm; omega, fun _ => ⟨a', rfl, fun j x hj => ?_⟩⟩, fun x hx => ?_, fun x hx => ?_⟩
    · obtain ⟨hj', rfl⟩ := List.getElem?_eq_some_iff.1 hj
      have hjl : j < len := by simpa using hj'
      simp only [List.getElem_map, List.getElem_range]
      obtain ⟨⟨q0, q1, q2, q3⟩, _⟩ := hg j hjl
      refine ⟨_, rfl, k40_mk w (g j), fun i u hu => ?_⟩
      match i, hu with
      | 0, hu => obtain rfl := Option.some.inj hu; exact q0
      | 1, hu => obtain rfl := Option.some.inj hu; exact q1
      | 2, hu => obtain rfl := Option.some.inj hu; exact q2
      | 3, hu => obtain rfl := Option.some.inj hu; exact q3
      | i + 4, hu => simp at hu
    · obtain ⟨i, hi', rfl⟩ := List.mem_map.1 hx
      exact (hg i (List.mem_range.1 hi')).2.1
    · obtain ⟨i, hi', rfl⟩ := List.mem_map.1 hx
      exact (hg i (List.mem_range.1 hi')).2.2
end Rl
end Go.Proofs.Ythcoiomnlcagcaa

namespace Go.Proofs.Ythcoiomnlcagcaa
open Go.ChangeShapes Go.WideShapes Go.Deep Go.RowKit Go.Proofs.YthcoiomnlcagcaaW.PrintWords Go.Proofs.Ythcoiomnlcagcaa.PRQ
set_option linter.unusedVariables false
set_option linter.unusedSimpArgs false
namespace Rl
theorem opensB {H : Type} {enc : TypeId × Value → H} {w : World} {base b0 : Nat} {spare : Nat → Bool} {held : Bool} {r : Reach} {v : Value} {d : DataW H} {p : List MemPlace} {ts : List TypeId} {ds : List (DataW H)} {j : Nat} (hv : Value.okWide Try.prog w r b0 25 v) (h : DataW.Trod enc Try.prog w base spare held 25 v d p)
    (hsz : (DataW.weightsEach Try.prog ts ds).all (· ≤ reachBytes) = true) (ht : ts[j]? = some 25) (hd : ds[j]? = some d) :
    ∃ (A : Option Addr) (c : Nat) (l : List Int), v = .slice A l.length c ∧ l.length ≤ c ∧ Kd.C (Kd.int .u8) w A l.length l ∧ IsB l ∧ l.length ≤ 140737488351232 := by
  obtain ⟨a, len, cap, rfl⟩ := okWide_slice Try.underlying25 hv
  have hb := sized_ints hsz ht hd Try.underlying25 Try.underlying5 (by kernel_rfl) (B := 1) (by kernel_rfl) h
  obtain ⟨fuel, hf⟩ := h
  rcases open_ints Try.underlying25 Try.underlying5 (by kernel_rfl) hf with ⟨hcs, _⟩ | ⟨x, l, c, zs, hcs, _, hl, hm, hz, _, hcell, hwz⟩
  · simp [Value.cells] at hcs
    obtain ⟨rfl, rfl, rfl⟩ := hcs
    exact ⟨none, 0, [], rfl, Nat.le_refl _, Kd.C_of_reads (d := 0) (h1 := fun _ => rfl) ⟨rfl, by decide, fun q => absurd q (by simp)⟩, fun c hc => by simp at hc, by simp⟩
  · simp [Value.cells] at hcs
    obtain ⟨rfl, rfl, rfl⟩ := hcs
    have hl2 : len ≤ zs.length := by
      rw [hz]
      split
      · exact hl
      · exact Nat.le_refl _
    have hlen : (zs.take len).length = len := by rw [List.length_take]; omega
    refine ⟨some x, cap, zs.take len, by rw [hlen], by rw [hlen]; exact hl, ?_, ?_, by omega⟩
    · refine Kd.C_of_reads (d := 0) (h1 := fun _ => rfl) ⟨rfl, by rw [hlen]; omega, fun q => ⟨x, rfl, fun i hi => ?_⟩⟩
      rw [hlen] at hi
      have h1 := hcell i (by omega)
      simp only [List.getD_eq_getElem?_getD, List.getElem?_take, if_pos hi] at h1 ⊢
      exact h1
    · intro c hc
      have := hwz c (List.mem_of_mem_take hc)
      simp [Lit.wf, IntKind.min, IntKind.max, IntKind.bits, IntKind.signed] at this
      omega
end Rl
end Go.Proofs.Ythcoiomnlcagcaa

namespace Go.Proofs.Ythcoiomnlcagcaa.rowCodes
open Go.ChangeShapes Go.WideShapes Go.ChangeAt Go.RowKit
set_option linter.unusedVariables false
set_option linter.unusedSimpArgs false
theorem own : ownKnob Try.prog.godebug = none := by kernel_rfl
theorem laidOut : laidOutB Try.prog = true := by kernel_rfl
set_option maxRecDepth 100000 in
theorem lifted (os : Os) (started : os.Started) (H : Type) (enc : TypeId × Value → H) :
    ReturnsInHanded {} Try.checked os 3 .any (Rows.rowCodesSpec.pre6 enc Try.prog Try.f3 Rows.rowCodesRow.domain false) (Rows.rowCodesSpec.post enc Try.prog Try.f3 false true false false) := by
  refine returnsInHanded_of_change_sized (C := Try.checked) own started (by kernel_rfl) Try.func3
    (ChangeSpec.witness6 (enc := enc) (C := Try.checked) false ⟨#[], #[.slice none 0 0, .slice none 0 0, .slice none 0 0], []⟩ 8 (by kernel_rfl) (by kernel_rfl) (by kernel_rfl) (by kernel_rfl)) ?_
  intro W base args ds gs before hval0 hW hcnd hsz0 _
  have hsz : (DataW.weightsEach Try.prog (Try.f3.params.toList ++ Rows.rowCodesSpec.plain.varTypes Try.prog) (ds ++ gs)).all (· ≤ reachBytes) = true := hsz0
  have hval : ∀ (j : Nat) t v, Try.f3.params[j]? = some t → args[j]? = some v → Value.okWide Try.prog W .any base t v := hval0
  have hW' := hW
  obtain ⟨p, q, hA0, hV, rfl, hfz, hnd⟩ := hW
  have hA : DataW.TrodAll enc Try.prog W 0 (fun _ => true) true Try.f3.params.toList args.toList ds p := hA0
  rw [Try.params3] at hA hval hsz
  obtain ⟨v0, vs0, d0, ds0, p0, q0, hargs, rfl, rfl, h0, r0⟩ := trodAll_cons hA
  obtain ⟨v1, vs1, d1, ds1, p1, q1, rfl, rfl, rfl, h1, r1⟩ := trodAll_cons r0
  obtain ⟨v2, vs2, d2, ds2, p2, q2, rfl, rfl, rfl, h2, r2⟩ := trodAll_cons r1
  obtain ⟨rfl, rfl, rfl⟩ := trodAll_nil r2
  obtain rfl : args = #[v0, v1, v2] := by cases args; simp_all
  obtain ⟨rfl, rfl⟩ := trodVars_none hV
  have k0 := h0
  have lt0 : ∀ x ∈ p0, x.block < W.heap.size := by obtain ⟨m, hm⟩ := k0; exact DataW.trod_lt m _ _ _ hm
  obtain ⟨A0, c0, l0, rfl, m0, C0, y0, z0⟩ := Rl.opens (hval 0 22 v0 rfl rfl) h0 (fun n hn => Nat.le_trans (of_decide_eq_true (List.all_eq_true.1 hsz _ (DataW.weights_mem_each (j := 0) (t := 22) (d := d0) rfl rfl n hn))) (by decide))
  have k1 := h1
  have lt1 : ∀ x ∈ p1, x.block < W.heap.size := by obtain ⟨m, hm⟩ := k1; exact DataW.trod_lt m _ _ _ hm
  obtain ⟨A1, c1, l1, rfl, m1, C1, y1, z1⟩ := Rl.opensO (hval 1 24 v1 rfl rfl) h1 (fun n hn => Nat.le_trans (of_decide_eq_true (List.all_eq_true.1 hsz _ (DataW.weights_mem_each (j := 1) (t := 24) (d := d1) rfl rfl n hn))) (by decide))
  have k2 := h2
  have lt2 : ∀ x ∈ p2, x.block < W.heap.size := by obtain ⟨m, hm⟩ := k2; exact DataW.trod_lt m _ _ _ hm
  obtain ⟨A2, c2, l2, rfl, m2, C2, y2, z2⟩ := Rl.opensB (j := 2) (hval 2 25 v2 rfl rfl) h2 hsz rfl rfl
  clear hA0 hval0 hsz0 hsz
  refine (Rl.codes_walk A0 c0 l0 A1 c1 l1 A2 c2 l2 W C0 m0 C1 m1 C2 m2 z0 y1 z1 y2 z2).mono fun e W' ⟨he, bel⟩ => ?_
  subst he
  exact ⟨_, rfl, _, _, _, [], _, [], hW', trodAll_mk1 (shut_bool Try.underlying4 _), (trodAll_cons_mk (Below.trod laidOut (by kernel_rfl) (of_decide_eq_true (by kernel_rfl)) k0 bel lt0) (trodAll_cons_mk (Below.trod laidOut (by kernel_rfl) (of_decide_eq_true (by kernel_rfl)) k1 bel lt1) (trodAll_cons_mk (Below.trod laidOut (by kernel_rfl) (of_decide_eq_true (by kernel_rfl)) k2 bel lt2) trodAll_mk0))), rfl, bel.frame _, fun h => by cases h⟩
theorem proved : Rows.RowCodesSaid :=
  OpenClaim.holds_of_wide 3 Try.f3 rfl rfl rfl rfl rfl rfl rfl ⟨rfl, rfl, rfl, rfl, rfl⟩ rfl rfl rfl rfl rfl (by kernel_rfl) Try.func3 (by kernel_rfl)
    (of_decide_eq_true (by kernel_rfl)) (by unfold Func.isWrapper; first | (rw [if_pos (by decide +kernel)]; kernel_rfl) | (rw [if_neg (by decide +kernel)]; exact ⟨rfl, rfl⟩))
    (fun os started H enc _ => lifted os started H enc)
end Go.Proofs.Ythcoiomnlcagcaa.rowCodes
namespace Go.Proofs.Ythcoiomnlcagcaa
/-- THE ROW. -/
theorem rowCodes_said : Rows.RowCodesSaid := rowCodes.proved
#print axioms rowCodes_said
end Go.Proofs.Ythcoiomnlcagcaa
