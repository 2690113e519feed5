/- SQL's values: texts without what stands at their ends. -/
import Derived.Test.YtlmkhpgnkpgbdaaDoorA
import Derived.Lib.Strings
namespace Go.Proofs.YtlmkhpgnkpgbdaaDoor
open Go.RowKit
set_option linter.unusedVariables false
set_option linter.unusedSimpArgs false
namespace Vl
/-- how much of the first n bytes is left without the c at their end -/
def trimN (s : ByteArray) (c : Int) : Nat → Nat
  | 0 => 0
  | n + 1 => if h : n < s.size then (if (s[n].toNat : Int) = c then trimN s c n else n + 1) else n + 1
theorem trimN_le (s : ByteArray) (c : Int) : ∀ n, trimN s c n ≤ n
  | 0 => Nat.le_refl _
  | n + 1 => by
    have := trimN_le s c n
    unfold trimN
    split
    · split <;> omega
    · omega
theorem trimN_yes (s : ByteArray) (c : Int) (k : Nat) (h0 : 0 < k) (hk : k - 1 < s.size) (h : ((s[k - 1]'hk).toNat : Int) = c) : trimN s c k = trimN s c (k - 1) := by
  obtain ⟨j, rfl⟩ : ∃ j, k = j + 1 := ⟨k - 1, by omega⟩
  have hk' : j < s.size := by simpa using hk
  have h' : ((s[j]'hk').toNat : Int) = c := by simpa using h
  simp [trimN, hk', h']
theorem trimN_no (s : ByteArray) (c : Int) (k : Nat) (h0 : 0 < k) (hk : k - 1 < s.size) (h : ¬ ((s[k - 1]'hk).toNat : Int) = c) : trimN s c k = k := by
  obtain ⟨j, rfl⟩ : ∃ j, k = j + 1 := ⟨k - 1, by omega⟩
  have hk' : j < s.size := by simpa using hk
  have h' : ¬ ((s[j]'hk').toNat : Int) = c := by simpa using h
  simp [trimN, hk', h']
def trimR (s : ByteArray) (c : Int) : ByteArray := s.extract 0 (trimN s c s.size)
theorem rwords_any (s : ByteArray) (w : World) (hs : s.size ≤ 140737488351232) : Calls Tryd.prog 71 #[.string s] w fun e w' => e = .returned (.string (trimR s 32)) ∧ w = w' := by
  go_enter Tryd.func71, Tryd.ntmps71
  go_wp2
  go_loop [3] (fun v => ∃ k : Nat, k ≤ s.size ∧ v = .int .i64 k ∧ Hid (trimN s 32 k = trimN s 32 s.size)) (fun v => (intOf v).toNat)
  case atStart => exact ⟨s.size, Nat.le_refl _, rfl, rfl⟩
  case round =>
    obtain ⟨k, hk, rfl, ht⟩ := hrel
    by_cases h0 : 0 < k
    · have hk1 : k - 1 < s.size := by omega
      by_cases hc : ((s[k - 1]'hk1).toNat : Int) = 32
      · have hb : (((s[k - 1]'hk1).toNat : Int) == 32) = true := by rw [hc]; rfl
        have HT := Lib.hid (trimN_yes s 32 k h0 hk1 hc)
        clear hc
        go_wp2
        go_round
        case rel => exact ⟨k - 1, by omega, congrArg _ (by omega), HT.out.symm.trans ht.out⟩
        case measure => simp [intOf]; omega
      · have hb : (((s[k - 1]'hk1).toNat : Int) == 32) = false := beq_eq_false_iff_ne.2 hc
        have HT := Lib.hid (trimN_no s 32 k h0 hk1 hc)
        clear hc
        go_wp2
        go_ret
        exact ⟨by rw [trimR, ← ht.out, HT.out]; rfl, rfl⟩
    · go_wp2
      go_ret
      obtain rfl : k = 0 := by omega
      exact ⟨by rw [trimR, ← ht.out]; rfl, rfl⟩
theorem trimN_congr (s t : ByteArray) (c : Int) : ∀ n, (hs : n ≤ s.size) → (ht : n ≤ t.size) → (∀ i (hi : i < n), s[i]'(by omega) = t[i]'(by omega)) → trimN s c n = trimN t c n
  | 0, _, _, _ => rfl
  | n + 1, hs, ht, h => by
    have ih := trimN_congr s t c n (by omega) (by omega) (fun i hi => h i (by omega))
    have h1 : n < s.size := by omega
    have h2 : n < t.size := by omega
    simp only [trimN, h1, h2, dite_true, h n (by omega), ih]
theorem trimR_yes (x : ByteArray) (c : Int) (h0 : 0 < x.size) (h : ((x[x.size - 1]'(by omega)).toNat : Int) = c) : trimR (x.extract 0 (x.size - 1)) c = trimR x c := by
  have hz : (x.extract 0 (x.size - 1)).size = x.size - 1 := by rw [ByteArray.size_extract]; omega
  unfold trimR
  rw [hz, trimN_yes x c x.size h0 (by omega) h]
  have h1 : trimN (x.extract 0 (x.size - 1)) c (x.size - 1) = trimN x c (x.size - 1) := trimN_congr _ _ _ _ (by omega) (by omega) (fun i hi => by simp [ByteArray.getElem_extract])
  rw [h1]
  have h2 := trimN_le x c (x.size - 1)
  rw [ByteArray.extract_extract]
  congr 1
  omega
theorem trimR_no (x : ByteArray) (c : Int) (h0 : 0 < x.size) (h : ¬ ((x[x.size - 1]'(by omega)).toNat : Int) = c) : trimR x c = x := by
  unfold trimR
  rw [trimN_no x c x.size h0 (by omega) h]
  simp
theorem trimR_none (x : ByteArray) (c : Int) (h0 : ¬ 0 < x.size) : trimR x c = x := by
  unfold trimR
  have : x.size = 0 := by omega
  have h1 := trimN_le x c x.size
  rw [show trimN x c x.size = x.size from by omega]
  simp
theorem trimRB_any (s : ByteArray) (c : Int) (w : World) (hs : s.size ≤ 140737488351232) : Calls Tryd.prog 73 #[.string s, .int .u8 c] w fun e w' => e = .returned (.string (trimR s c)) ∧ w = w' := by
  go_enter Tryd.func73, Tryd.ntmps73
  go_wp2
  go_loop [0] (fun v => ∃ x : ByteArray, x.size ≤ 140737488351232 ∧ v = .string x ∧ Hid (trimR x c = trimR s c)) (fun v => match v with | .string x => x.size | _ => 0)
  case atStart => exact ⟨s, hs, rfl, rfl⟩
  case round =>
    obtain ⟨x, hx, rfl, ht⟩ := hrel
    by_cases h0 : 0 < x.size
    · have hk1 : x.size - 1 < x.size := by omega
      by_cases hc : ((x[x.size - 1]'hk1).toNat : Int) = c
      · have hb : (((x[x.size - 1]'hk1).toNat : Int) == c) = true := beq_iff_eq.2 hc
        have HT := Lib.hid (trimR_yes x c h0 hc)
        clear hc
        go_wp2
        go_round
        case rel => exact ⟨x.extract 0 (x.size - 1), by rw [ByteArray.size_extract]; omega, rfl, HT.out.trans ht.out⟩
        case measure => simp; omega
      · have hb : (((x[x.size - 1]'hk1).toNat : Int) == c) = false := beq_eq_false_iff_ne.2 hc
        have HT := Lib.hid (trimR_no x c h0 hc)
        clear hc
        go_wp2
        go_ret
        exact ⟨by rw [← ht.out, HT.out]; rfl, rfl⟩
    · have HT := Lib.hid (trimR_none x c h0)
      go_wp2
      go_ret
      exact ⟨by rw [← ht.out, HT.out]; rfl, rfl⟩
def trimLn (c : Int) : Nat → ByteArray → ByteArray
  | 0, s => s
  | n + 1, s => if h : 0 < s.size then (if (s[0].toNat : Int) = c then trimLn c n (s.extract 1 s.size) else s) else s
def trimL (s : ByteArray) (c : Int) : ByteArray := trimLn c s.size s
theorem trimL_yes (x : ByteArray) (c : Int) (h0 : 0 < x.size) (h : ((x[0]'h0).toNat : Int) = c) : trimL (x.extract 1 x.size) c = trimL x c := by
  unfold trimL
  obtain ⟨n, hn⟩ : ∃ n, x.size = n + 1 := ⟨x.size - 1, by omega⟩
  have hz : (x.extract 1 x.size).size = n := by rw [ByteArray.size_extract]; omega
  rw [hz]
  conv => rhs; rw [hn]
  simp only [trimLn, h0, dite_true, h, if_true]
theorem trimL_no (x : ByteArray) (c : Int) (h0 : 0 < x.size) (h : ¬ ((x[0]'h0).toNat : Int) = c) : trimL x c = x := by
  unfold trimL
  obtain ⟨n, hn⟩ : ∃ n, x.size = n + 1 := ⟨x.size - 1, by omega⟩
  conv => lhs; rw [hn]
  simp only [trimLn, h0, dite_true, h, if_false]
theorem trimL_none (x : ByteArray) (c : Int) (h0 : ¬ 0 < x.size) : trimL x c = x := by
  unfold trimL
  have : x.size = 0 := by omega
  rw [this]; rfl
theorem trimLB_any (s : ByteArray) (c : Int) (w : World) (hs : s.size ≤ 140737488351232) : Calls Tryd.prog 72 #[.string s, .int .u8 c] w fun e w' => e = .returned (.string (trimL s c)) ∧ w = w' := by
  go_enter Tryd.func72, Tryd.ntmps72
  go_wp2
  go_loop [0] (fun v => ∃ x : ByteArray, x.size ≤ 140737488351232 ∧ v = .string x ∧ Hid (trimL x c = trimL s c)) (fun v => match v with | .string x => x.size | _ => 0)
  case atStart => exact ⟨s, hs, rfl, rfl⟩
  case round =>
    obtain ⟨x, hx, rfl, ht⟩ := hrel
    by_cases h0 : 0 < x.size
    · by_cases hc : ((x[0]'h0).toNat : Int) = c
      · have hb : (((x[0]'h0).toNat : Int) == c) = true := beq_iff_eq.2 hc
        have HT := Lib.hid (trimL_yes x c h0 hc)
        clear hc
        go_wp2
        go_round
        case rel => exact ⟨x.extract 1 x.size, by rw [ByteArray.size_extract]; omega, rfl, HT.out.trans ht.out⟩
        case measure => simp; omega
      · have hb : (((x[0]'h0).toNat : Int) == c) = false := beq_eq_false_iff_ne.2 hc
        have HT := Lib.hid (trimL_no x c h0 hc)
        clear hc
        go_wp2
        go_ret
        exact ⟨by rw [← ht.out, HT.out]; rfl, rfl⟩
    · have HT := Lib.hid (trimL_none x c h0)
      go_wp2
      go_ret
      exact ⟨by rw [← ht.out, HT.out]; rfl, rfl⟩
theorem empty_size {s : ByteArray} (h : s.toList.isEmpty = true) : ¬ 0 < s.size := by
  rw [Lib.toList_data] at h
  have : s.data.toList = [] := by simpa using h
  have h2 : s.data.size = 0 := by simpa using congrArg List.length this
  show ¬ 0 < s.data.size
  omega
set_option maxRecDepth 100000 in
theorem words_r (s : ByteArray) (w : World) (hs : s.size ≤ 140737488351232) : Calls Tryd.prog 82 #[.string s, .string ⟨#[32]⟩] w fun e w' => e = .returned (.string (trimR s 32)) ∧ w = w' := by
  cases he : s.toList.isEmpty
  · go_enter Tryd.func82, Tryd.ntmps82
    go_wp2_with fail
    refine (trimRB_any _ _ _ hs).mono ?_
    rintro e w' ⟨rfl, rfl⟩
    go_wp2_with fail
    go_ret
    exact ⟨rfl, rfl⟩
  · have HT := Lib.hid (trimR_none s 32 (empty_size he))
    go_enter Tryd.func82, Tryd.ntmps82
    go_wp2_with fail
    go_ret
    exact ⟨by rw [HT.out]; rfl, rfl⟩
set_option maxRecDepth 100000 in
theorem words_any (s : ByteArray) (w : World) (hs : s.size ≤ 140737488351232) : Calls Tryd.prog 51 #[.string s] w fun e w' => e = .returned (.string (trimR s 32)) ∧ w = w' := by
  go_enter Tryd.func51, Tryd.ntmps51
  go_wp2_with fail
  refine (words_r _ _ hs).mono ?_
  rintro e w' ⟨rfl, rfl⟩
  go_wp2_with fail
  go_ret
  exact ⟨rfl, rfl⟩
theorem trimR_size (s : ByteArray) (c : Int) : (trimR s c).size ≤ s.size := by unfold trimR; rw [ByteArray.size_extract]; omega

theorem Nw.drewN {a w : World} (h : Nw a w) (n : Nat) : Nw a (w.drewN n) := Below.trans h ⟨rfl, rfl, rfl, Nat.le_refl _, fun _ _ => rfl⟩
theorem quiet {f : FuncId} {args : Array Value} {w : World} {n : Nat} {v : Value} (h : Calls Tryd.prog f args (w.drewN n) fun e w' => e = .returned v ∧ w.drewN n = w') : Calls Tryd.prog f args (w.drewN n) fun e w'' => e = .returned v ∧ ∃ m, w'' = w.drewN m :=
  Calls.quiet_of_same (h.mono fun _ _ ⟨a, b⟩ => ⟨a, b.symm⟩)
set_option maxRecDepth 100000 in
theorem trim_any (s : ByteArray) (w : World) (hs : s.size ≤ 140737488351232) : Calls Tryd.prog 47 #[.string s, .string ⟨#[37]⟩] w fun e w' => e = .returned (.string (trimL (trimR s 37) 37)) ∧ Nw w w' := by
  cases he : s.toList.isEmpty
  · go_enter Tryd.func47, Tryd.ntmps47
    go_wp2_with fail
    go_quiet ((first | (go_at_call 73; exact quiet (trimRB_any _ _ _ hs)) | (go_at_call 72; exact quiet (trimLB_any _ _ _ (Nat.le_trans (trimR_size _ _) hs)))))
    go_wp2_with fail
    go_ret
    exact ⟨rfl, Nw.drewN (Nw.refl _) _⟩
  · have H1 := Lib.hid (trimR_none s 37 (empty_size he))
    have H2 := Lib.hid (trimL_none s 37 (empty_size he))
    go_enter Tryd.func47, Tryd.ntmps47
    go_wp2_with fail
    go_ret
    exact ⟨by rw [H1.out, H2.out]; rfl, Nw.refl _⟩
end Vl
end Go.Proofs.YtlmkhpgnkpgbdaaDoor
