/- Texts of this claim, set one behind the other by a program: part 2. -/
import Derived.Test.YtcjhligknhpadaaDoorXWalAgain1
namespace Go.Proofs.YtcjhligknhpadaaDoor
open Go.RowKit Go.Proofs.YtcjhligknhpadaaDoor.Wp Go.Proofs.YtcjhligknhpadaaDoorW.PrintWords Go.Proofs.YtcjhligknhpadaaDoorW.PrintLast
set_option linter.unusedVariables false
set_option linter.unusedSimpArgs false
namespace Dk

def tabC : List Int := [0, 498536548, 997073096, 651767980, 1994146192, 1802195444, 1303535960, 1342533948, 3988292384, 4027552580, 3604390888, 3412177804, 2607071920, 2262029012, 2685067896, 3183342108]
def nib (c : Int) : Int := bits .xor .u32 (tabC.getD (c % 16).toNat 0) (c / 16)
def sumStep (c b : Int) : Int := nib (nib (bits .xor .u32 c b))
def sumOn (c : Int) (l : List Int) : Int := l.foldl sumStep c
def crcF (l : List Int) : Int := bits .xor .u32 IntKind.u32.max (sumOn 4294967295 l)
theorem wrap32 (n : Int) : 0 ≤ IntKind.u32.wrap n ∧ IntKind.u32.wrap n < 4294967296 := by rw [IntKind.wrap_u32]; omega
theorem xor_rng (a b : Int) : 0 ≤ bits .xor .u32 a b ∧ bits .xor .u32 a b < 4294967296 := wrap32 _
theorem crcF_rng (l : List Int) : 0 ≤ crcF l ∧ crcF l < 4294967296 := wrap32 _
/-- the table lies -/
def Tab (w : World) : Prop := ∀ j, j < 16 → w.cell? ⟨0, j, none⟩ = some (.int .u32 (tabC.getD j 0))
set_option maxRecDepth 100000 in
theorem sum_any (g o c : Nat) (l : List Int) (w : World) (ht : Tab w) (hn : l.length ≤ 1000000) (hl : ∀ j, j < l.length → w.cell? ⟨g, o + j, none⟩ = some (.int .u8 (l.getD j 0))) (hb : IsBy l) :
    Calls Tryd.prog 35 #[.slice (some ⟨g, o, none⟩) l.length c] w fun e w' => e = .returned (.int .u32 (crcF l)) ∧ w = w' := by
  have HT := Lib.hid ht
  have HL := Lib.hid hl
  have HB := Lib.hid hb
  clear ht hl hb
  go_enter Tryd.func35, Tryd.ntmps35
  go_wp2_with fail
  go_loop [3, 8] (fun n i => ∃ k : Nat, ∃ x : Int, k ≤ l.length ∧ i = .int .i64 k ∧ n = .int .u32 x ∧ x = sumOn 4294967295 (l.take k) ∧ 0 ≤ x ∧ x < 4294967296) (fun _ i => l.length - (intOf i).toNat)
  case atStart => exact ⟨0, 4294967295, by omega, rfl, rfl, rfl, by omega, by omega⟩
  case round =>
    obtain ⟨k, x, hk, rfl, rfl, hx, hx0, hx1⟩ := hrel
    have HX := Lib.hid hx
    clear hx
    by_cases hkl : k < l.length
    · have t1 : decide (k < l.length) = true := decide_eq_true hkl
      have hcell := HL.out k hkl
      have hby : 0 ≤ l.getD k 0 ∧ l.getD k 0 ≤ 255 := by
        rw [List.getD_eq_getElem?_getD, List.getElem?_eq_getElem hkl]
        exact HB.out _ (List.getElem_mem hkl)
      generalize hbd : l.getD k 0 = b at hcell hby
      have HBD := Lib.hid hbd
      clear hbd
      go_wp2_with fail
      have hy := xor_rng x b
      generalize hyd : bits .xor .u32 x b = y at *
      have HY := Lib.hid hyd
      clear hyd hcell
      have HKL := Lib.hid hkl
      have HX0 := Lib.hid hx0
      have HX1 := Lib.hid hx1
      clear hx0 hx1 t1 hkl hk hby
      go_loop [3, 16] (fun n i => ∃ m : Nat, ∃ z : Int, m ≤ 2 ∧ i = .int .i64 m ∧ n = .int .u32 z ∧ z = Nat.repeat nib m y ∧ 0 ≤ z ∧ z < 4294967296) (fun _ i => 2 - (intOf i).toNat)
      case atStart => exact ⟨0, y, by omega, rfl, rfl, rfl, hy.1, hy.2⟩
      case round =>
        obtain ⟨m, z, hm, rfl, rfl, hz, hz0, hz1⟩ := hrel
        have HZ := Lib.hid hz
        clear hz
        by_cases hm2 : m < 2
        · have t2 : decide ((m : Int) < 2) = true := decide_eq_true (by omega)
          obtain ⟨j, hj⟩ : ∃ j : Nat, z % 16 = (j : Int) := ⟨(z % 16).toNat, by omega⟩
          have hj16 : j < 16 := by omega
          have e1 : bits .and .u32 z 15 = (j : Int) := by
            rw [← hj]
            exact bits_mask .u32 32 (by decide) (fun n h0 h1 => by rw [IntKind.wrap_u32]; omega) 4 (by decide) z hz0 (by omega)
          have hcell := HT.out j hj16
          have HJ := Lib.hid hj
          clear hj
          have HN := Lib.hid (show nib z = bits .xor .u32 (tabC.getD j 0) (z / 16) by unfold nib; rw [HJ.out]; rfl)
          generalize tabC.getD j 0 = t at hcell HN
          go_wp2_with fail
          go_round
          case rel => exact ⟨m + 1, _, by omega, by go_num, rfl, by rw [← HN.out, HZ.out]; rfl, xor_rng _ _⟩
          case measure => simp [intOf]; omega
        · have em : m = 2 := by omega
          subst em
          have hkl := HKL.out
          go_wp2_with fail
          go_round
          case rel =>
            have hkl := HKL.out
            refine ⟨k + 1, _, hkl, by go_num, rfl, ?_, hz0, hz1⟩
            rw [HZ.out, ← HY.out, HX.out, ← HBD.out]
            unfold sumOn
            rw [List.take_add_one, List.getElem?_eq_getElem hkl, List.getD_eq_getElem?_getD, List.getElem?_eq_getElem hkl, List.foldl_append]
            rfl
          case measure => have hkl := HKL.out; simp [intOf]; omega
    · have ek : k = l.length := by omega
      subst ek
      have t1 : decide (l.length < l.length) = false := decide_eq_false (by omega)
      go_wp2_with fail
      go_ret
      refine ⟨?_, rfl⟩
      have hx := HX.out
      rw [List.take_of_length_le (Nat.le_refl _)] at hx
      unfold crcF
      rw [← hx]
      rfl
end Dk
end Go.Proofs.YtcjhligknhpadaaDoor

namespace Go.Proofs.YtcjhligknhpadaaDoor
open Go.RowKit Go.Proofs.YtcjhligknhpadaaDoor.Wp Go.Proofs.YtcjhligknhpadaaDoorW.PrintWords Go.Proofs.YtcjhligknhpadaaDoorW.PrintLast
set_option linter.unusedVariables false
set_option linter.unusedSimpArgs false
namespace Dk

def lenOf : Value → Nat
  | .slice _ n _ => n
  | _ => 0
/-- a slice that is empty as another was -/
def EmptyIff (e : Ending) (n : Nat) : Prop := ∃ a' n' c', e = .returned (.slice a' n' c') ∧ (n' = 0 ↔ n = 0)
set_option maxRecDepth 100000 in
theorem trimright_any (g o n c : Nat) (l : List Int) (w : World) (hl : ∀ j, j < n → w.cell? ⟨g, o + j, none⟩ = some (.int .u8 (l.getD j 0))) (hn : n ≤ 1000000) (hc : n ≤ c) :
    Calls Tryd.prog 47 #[.slice (some ⟨g, o, none⟩) n c, .int .u8 0] w fun e w' => (∃ m, m ≤ n ∧ e = .returned (.slice (some ⟨g, o, none⟩) m c) ∧ (∀ j, m ≤ j → j < n → l.getD j 0 = 0) ∧ (m = 0 ∨ l.getD (m - 1) 0 ≠ 0)) ∧ w = w' := by
  have HL := Lib.hid hl
  clear hl
  go_enter Tryd.func47, Tryd.ntmps47
  go_wp2_with fail
  go_loop [0] (fun s => ∃ m : Nat, m ≤ n ∧ s = .slice (some ⟨g, o, none⟩) m c ∧ (∀ j, m ≤ j → j < n → l.getD j 0 = 0)) (fun s => lenOf s)
  case atStart => exact ⟨n, Nat.le_refl _, rfl, fun j h1 h2 => by omega⟩
  case round =>
    obtain ⟨m, hm, rfl, hz⟩ := hrel
    have HZ := Lib.hid hz
    clear hz
    rcases Nat.eq_zero_or_pos m with rfl | hpos
    · go_wp2_with fail
      go_ret
      exact ⟨⟨0, by omega, rfl, HZ.out, .inl rfl⟩, rfl⟩
    · obtain ⟨k, rfl⟩ : ∃ k, m = k + 1 := ⟨m - 1, by omega⟩
      have hcell := HL.out k (by omega)
      have t1 : decide ((0 : Int) < ((k + 1 : Nat) : Int)) = true := decide_eq_true (by omega)
      generalize hbd : l.getD k 0 = b at hcell
      have HB := Lib.hid hbd
      clear hbd
      by_cases hb : b = 0
      · subst hb
        go_wp2_with fail
        go_round
        case rel => exact ⟨k, by omega, rfl, fun j h1 h2 => by rcases Nat.eq_or_lt_of_le h1 with rfl | h; exact HB.out; exact HZ.out j h h2⟩
        case measure => simp [lenOf]
      · have t2 : decide (b = 0) = false := decide_eq_false hb
        go_wp2_with fail
        go_ret
        exact ⟨⟨k + 1, hm, rfl, HZ.out, .inr (fun q => hb (by rw [← HB.out]; exact q))⟩, rfl⟩
set_option maxRecDepth 100000 in
theorem trimleft_any (g o n c : Nat) (l : List Int) (w : World) (hl : ∀ j, j < n → w.cell? ⟨g, o + j, none⟩ = some (.int .u8 (l.getD j 0))) (h0 : n = 0 ∨ l.getD (n - 1) 0 ≠ 0) (hn : n ≤ 1000000) (hc : n ≤ c) :
    Calls Tryd.prog 46 #[.slice (some ⟨g, o, none⟩) n c, .int .u8 0] w fun e w' => EmptyIff e n ∧ w = w' := by
  have HL := Lib.hid hl
  have H0 := Lib.hid h0
  clear hl h0
  rcases Nat.eq_zero_or_pos n with rfl | hpos
  · go_enter Tryd.func46, Tryd.ntmps46
    go_wp2_with fail
    go_loop [0] (fun s => s = .slice (some ⟨g, o, none⟩) 0 c) (fun s => lenOf s)
    case atStart => rfl
    case round =>
      subst hrel
      go_wp2_with fail
      go_ret
      exact ⟨⟨_, 0, _, rfl, Iff.rfl⟩, rfl⟩
  · go_enter Tryd.func46, Tryd.ntmps46
    go_wp2_with fail
    go_loop [0] (fun s => ∃ k : Nat, k < n ∧ s = .slice (some ⟨g, o + k, none⟩) (n - k) (c - k)) (fun s => lenOf s)
    case atStart => exact ⟨0, hpos, rfl⟩
    case round =>
      obtain ⟨k, hk, rfl⟩ := hrel
      have hcell := HL.out k hk
      have t1 : decide ((0 : Int) < ((n - k : Nat) : Int)) = true := decide_eq_true (by omega)
      have t3 : 0 < n - k := by omega
      generalize hbd : l.getD k 0 = b at hcell
      have HB := Lib.hid hbd
      clear hbd
      by_cases hb : b = 0
      · have hk1 : k + 1 < n := by
          rcases H0.out with h | h
          · omega
          · apply Classical.byContradiction
            intro q
            have e : n - 1 = k := by omega
            rw [e, HB.out] at h
            exact h hb
        subst hb
        have t4 : 1 ≤ n - k := by omega
        have t5 : 1 < c - k := by omega
        go_wp2_with fail
        go_round
        case rel => exact ⟨k + 1, hk1, by congr 1⟩
        case measure => simp [lenOf]; omega
      · have t2 : decide (b = 0) = false := decide_eq_false hb
        go_wp2_with fail
        go_ret
        exact ⟨⟨_, n - k, _, rfl, by omega⟩, rfl⟩
set_option maxRecDepth 100000 in
theorem trim_any (g o n c : Nat) (a : Option Addr) (l : List Int) (w : World) (hp : 0 < n → a = some ⟨g, o, none⟩) (hl : ∀ j, j < n → w.cell? ⟨g, o + j, none⟩ = some (.int .u8 (l.getD j 0))) (hln : l.length = n) (hn : n ≤ 1000000) (hc : n ≤ c) :
    Calls Tryd.prog 36 #[.slice a n c, .string ⟨#[0]⟩] w fun e w' => (∃ m, EmptyIff e m ∧ (m = 0 ↔ isZ l = true)) ∧ ∃ k, w' = w.drewN k := by
  rcases Nat.eq_zero_or_pos n with rfl | hpos
  · go_enter Tryd.func36, Tryd.ntmps36
    go_wp2_with fail
    go_ret
    exact ⟨⟨0, ⟨_, 0, _, rfl, Iff.rfl⟩, by simp [List.eq_nil_of_length_eq_zero hln, isZ]⟩, 0, rfl⟩
  · rw [hp hpos]
    have HL := Lib.hid hl
    have HLN := Lib.hid hln
    have t1 : ((n : Int) == 0) = false := by simp; omega
    have s0 := hl
    clear hl hp hln
    go_enter Tryd.func36, Tryd.ntmps36
    go_wp2_with fail
    refine Go.Proofs.YtcjhligknhpadaaDoorW.PrintLast.start_ (n := 8) (S := fun v => ∀ j, j < n → v.cell? ⟨g, o + j, none⟩ = some (.int .u8 (l.getD j 0))) (ds := [7]) #[false, false, false, false, false, false, false, false] (by kernel_rfl) rfl rfl s0 (fun hHeld => ?_)
    refine Go.Proofs.YtcjhligknhpadaaDoorW.PrintLast.pure_ (i := 0) (N := some 21) (v := ?_) (a' := ?_) #[true, false, false, false, false, false, false, false] rfl rfl (by kernel_rfl) (fun _ _ _ h => h) (Or.inl ⟨by rfl, ?_⟩) ?_ ?_
    rotate_left
    · intro w'
      go_simp
      with_reducible rfl
    rotate_left
    · simp only [Act.put, List.setIfInBounds_toArray, List.set_cons_zero, List.set_cons_succ, Go.Proofs.YtcjhligknhpadaaDoorW.PrintLast.i64_w, Go.Proofs.YtcjhligknhpadaaDoorW.PrintLast.i32_w]
      rfl
    refine Go.Proofs.YtcjhligknhpadaaDoorW.PrintLast.pure_ (i := 1) (N := some 22) (v := ?_) (a' := ?_) #[true, true, false, false, false, false, false, false] rfl rfl (by kernel_rfl) (fun _ _ _ h => h) (Or.inl ⟨by rfl, ?_⟩) ?_ ?_
    rotate_left
    · intro w'
      go_simp
      with_reducible rfl
    rotate_left
    · simp only [Act.put, List.setIfInBounds_toArray, List.set_cons_zero, List.set_cons_succ, Go.Proofs.YtcjhligknhpadaaDoorW.PrintLast.i64_w, Go.Proofs.YtcjhligknhpadaaDoorW.PrintLast.i32_w]
      rfl
    refine Go.Proofs.YtcjhligknhpadaaDoorW.PrintLast.pure_ (i := 2) (N := some 23) (v := ?_) (a' := ?_) #[true, true, true, false, false, false, false, false] rfl rfl (by kernel_rfl) (fun _ _ _ h => h) (Or.inl ⟨by rfl, ?_⟩) ?_ ?_
    rotate_left
    · intro w'
      go_simp
      with_reducible rfl
    rotate_left
    · simp only [Act.put, List.setIfInBounds_toArray, List.set_cons_zero, List.set_cons_succ, Go.Proofs.YtcjhligknhpadaaDoorW.PrintLast.i64_w, Go.Proofs.YtcjhligknhpadaaDoorW.PrintLast.i32_w]
      rfl
    refine Go.Proofs.YtcjhligknhpadaaDoorW.PrintLast.pure_ (i := 4) (N := some 25) (v := ?_) (a' := ?_) #[true, true, true, false, true, false, false, false] rfl rfl (by kernel_rfl) (fun _ _ _ h => h) (Or.inl ⟨by rfl, ?_⟩) ?_ ?_
    rotate_left
    · intro w'
      go_simp
      with_reducible rfl
    rotate_left
    · simp only [Act.put, List.setIfInBounds_toArray, List.set_cons_zero, List.set_cons_succ, Go.Proofs.YtcjhligknhpadaaDoorW.PrintLast.i64_w, Go.Proofs.YtcjhligknhpadaaDoorW.PrintLast.i32_w]
      rfl
    refine Go.Proofs.YtcjhligknhpadaaDoorW.PrintLast.pure_ (i := 5) (N := some 26) (v := ?_) (a' := ?_) #[true, true, true, false, true, true, false, false] rfl rfl (by kernel_rfl) (fun _ _ _ h => h) (Or.inl ⟨by rfl, ?_⟩) ?_ ?_
    rotate_left
    · intro w'
      go_simp
      with_reducible rfl
    rotate_left
    · simp only [Act.put, List.setIfInBounds_toArray, List.set_cons_zero, List.set_cons_succ, Go.Proofs.YtcjhligknhpadaaDoorW.PrintLast.i64_w, Go.Proofs.YtcjhligknhpadaaDoorW.PrintLast.i32_w]
      rfl
    refine Go.Proofs.YtcjhligknhpadaaDoorW.PrintLast.one_ (i := 3) (N := some 24) #[true, true, true, true, true, true, false, false] rfl rfl (by kernel_rfl) (by decide) (fun K hK => ?_)
    refine Go.Proofs.YtcjhligknhpadaaDoorW.PrintLast.goes_ Tryd.func47 (by kernel_rfl) rfl #[.slice (some ⟨g, o, none⟩) n c, .int .u8 0] (by rfl) rfl rfl (by (try simp only [List.map_toArray, List.map_cons, List.map_nil]); first | done | rfl) ?_
    refine (trimright_any g o n c l _ hHeld hn hc).mono ?_
    rintro e w2 ⟨⟨m, hm, rfl, hz, hl2⟩, rfl⟩
    have HZ := Lib.hid hz
    have HL2 := Lib.hid hl2
    clear hz hl2
    refine ⟨_, rfl, ?_⟩
    refine hK.out _ _ hHeld (fun hHeld => ?_)
    clear hK K
    refine Go.Proofs.YtcjhligknhpadaaDoorW.PrintLast.norm_ (a' := ?_) ?_ ?_
    rotate_left
    · show Act.put _ (some 24) _ = _
      simp only [Act.put, List.setIfInBounds_toArray, List.set_cons_zero, List.set_cons_succ, Go.Proofs.YtcjhligknhpadaaDoorW.PrintLast.i64_w, Go.Proofs.YtcjhligknhpadaaDoorW.PrintLast.i32_w]
      rfl
    refine Go.Proofs.YtcjhligknhpadaaDoorW.PrintLast.one_ (i := 6) (N := some 27) #[true, true, true, true, true, true, true, false] rfl rfl (by kernel_rfl) (by decide) (fun K hK => ?_)
    refine Go.Proofs.YtcjhligknhpadaaDoorW.PrintLast.goes_ Tryd.func46 (by kernel_rfl) rfl #[.slice (some ⟨g, o, none⟩) m c, .int .u8 0] (by rfl) rfl rfl (by (try simp only [List.map_toArray, List.map_cons, List.map_nil]); first | done | rfl) ?_
    refine (trimleft_any g o m c l _ (fun j hj => hHeld j (by omega)) HL2.out (by omega) (by omega)).mono ?_
    rintro e w2 ⟨⟨a', n', c', rfl, hiff⟩, rfl⟩
    have HI := Lib.hid hiff
    clear hiff
    refine ⟨_, rfl, ?_⟩
    refine hK.out _ _ hHeld (fun hHeld => ?_)
    clear hK K
    refine Go.Proofs.YtcjhligknhpadaaDoorW.PrintLast.norm_ (a' := ?_) ?_ ?_
    rotate_left
    · show Act.put _ (some 27) _ = _
      simp only [Act.put, List.setIfInBounds_toArray, List.set_cons_zero, List.set_cons_succ, Go.Proofs.YtcjhligknhpadaaDoorW.PrintLast.i64_w, Go.Proofs.YtcjhligknhpadaaDoorW.PrintLast.i32_w]
      rfl
    refine Go.Proofs.YtcjhligknhpadaaDoorW.PrintLast.pure_ (i := 7) (N := some 4) (v := ?_) (a' := ?_) #[true, true, true, true, true, true, true, true] rfl rfl (by kernel_rfl) (fun _ _ _ h => h) (Or.inl ⟨by rfl, ?_⟩) ?_ ?_
    rotate_left
    · intro w'
      go_simp
      with_reducible rfl
    rotate_left
    · simp only [Act.put, List.setIfInBounds_toArray, List.set_cons_zero, List.set_cons_succ, Go.Proofs.YtcjhligknhpadaaDoorW.PrintLast.i64_w, Go.Proofs.YtcjhligknhpadaaDoorW.PrintLast.i32_w]
      rfl
    refine Go.Proofs.YtcjhligknhpadaaDoorW.PrintLast.done_ (by kernel_rfl) ?_
    go_wp2
    go_ret
    refine ⟨⟨m, ⟨_, n', _, rfl, HI.out⟩, ?_⟩, 1, rfl⟩
    have hz := HZ.out
    have h2 := HL2.out
    have hln := HLN.out
    constructor
    · rintro rfl
      unfold isZ
      rw [List.all_eq_true]
      intro x hx
      obtain ⟨j, hj, rfl⟩ := List.mem_iff_getElem.1 hx
      have := hz j (Nat.zero_le _) (by omega)
      rw [List.getD_eq_getElem?_getD, List.getElem?_eq_getElem hj] at this
      simpa using this
    · intro h
      rcases h2 with h2 | h2
      · exact h2
      · exfalso
        apply h2
        have e := isZ_eq h
        rw [e]
        unfold zer
        rw [List.getD_eq_getElem?_getD, List.getElem?_replicate]
        split <;> rfl
end Dk
end Go.Proofs.YtcjhligknhpadaaDoor

namespace Go.Proofs.YtcjhligknhpadaaDoor
open Go.RowKit Go.Proofs.YtcjhligknhpadaaDoor.Wp Go.Proofs.YtcjhligknhpadaaDoorW.PrintWords Go.Proofs.YtcjhligknhpadaaDoorW.PrintLast
set_option linter.unusedVariables false
set_option linter.unusedSimpArgs false
namespace Dk

theorem info_sl : (Tryd.prog.info? 22).map (fun i => (i.zero, i.size, i.bytes)) = some (some (.slice none 0 0), 1, 24) := by kernel_rfl
theorem byts_slice [av : Av] {w : World} {v : Value} {l : List Int} (h : Byts w v l) : ∃ a c, v = .slice a l.length c := own_slice h.2
theorem byts_read [av : Av] {w : World} {A0 : Option Addr} {cap : Nat} {l : List Int} (h : Byts w (.slice A0 l.length cap) l) : ∀ i, i < l.length → ∃ a, A0 = some a ∧ w.cell? (a.add i) = some (.int .u8 (l.getD i 0)) := fun i hi => by
  obtain ⟨ad, e, hc⟩ := bytes_cells h (by omega)
  exact ⟨ad, e, hc i _ (by rw [List.getElem?_map, List.getD_eq_getElem?_getD, List.getElem?_eq_getElem hi]; rfl)⟩
theorem RowsAt.at_ [av : Av] {base : Nat} {w : World} {rv : Value} {rs : List (List Int)} (h : RowsAt base w rv rs) {k : Nat} (hk : k < rs.length) : ∃ g c u, rv = .slice (some ⟨g, 0, none⟩) rs.length c ∧ rs.length ≤ c ∧ w.cell? ⟨g, k, none⟩ = some u ∧ Byts w u rs[k] := by
  obtain ⟨vs, h1, h2, h3⟩ := h
  rcases h3.2 with ⟨_, q⟩ | ⟨g, cap, cur, q, q2, q3, q4, q5⟩
  · omega
  · have hv : vs[k]? = some vs[k] := List.getElem?_eq_getElem (by omega)
    have hc := World.ownsRow.cells h3 (g := g) (by rw [q]; rfl) k vs[k] hv
    rw [add_00] at hc
    refine ⟨g, cap, vs[k], q, q4, hc, h2 (rs[k], vs[k]) ?_⟩
    rw [List.mem_iff_getElem]
    exact ⟨k, by rw [List.length_zip]; omega, List.getElem_zip⟩
theorem RowsAt.put [av : Av] {base : Nat} {w w1 : World} {rv rv1 u : Value} {rs : List (List Int)} {x : List Int} {vs : List Value} (h1 : vs.length = rs.length) (h2 : ∀ p ∈ rs.zip vs, Byts w p.2 p.1) (h3 : w1.ownsRow base 22 1 rv1 (rs.length + 1) (vs ++ [u])) (hu : Byts w u x) (hm : ∀ (g : Nat) (cur : Array Value), w.heap[g]? = some (.cells cur 5 (0, 0)) → w1.heap[g]? = some (.cells cur 5 (0, 0))) : RowsAt base w1 rv1 (rs ++ [x]) := by
  have mv : ∀ v l, Byts w v l → Byts w1 v l := fun v l h => ⟨h.1, own_move h.2 fun g cur _ hh => hm g cur hh⟩
  refine ⟨vs ++ [u], by simp [h1], fun p hp => ?_, by rw [List.length_append]; exact h3⟩
  rw [List.zip_append h1.symm] at hp
  rcases List.mem_append.1 hp with hp | hp
  · exact mv _ _ (h2 p hp)
  · simp only [List.zip_cons_cons, List.zip_nil_right, List.mem_singleton] at hp
    subst hp
    exact mv _ _ hu
def LRec [av : Av] (w : World) (recs : List (List Int)) (ov i : Value) (wr : World) : Prop := ∃ k : Nat, k ≤ recs.length ∧ i = .int .i64 k ∧ RowsAt w.heap.size wr ov (recs.take k) ∧ Below w.heap.size w wr
theorem records_nil (w : World) : Calls Tryd.prog 13 #[.pointer none] w fun e w' => e = .returned (.slice none 0 0) ∧ w = w' := by
  go_enter Tryd.func13, Tryd.ntmps13
  go_wp2_with fail
  go_ret
  exact ⟨rfl, rfl⟩
set_option maxHeartbeats 1000000 in
set_option maxRecDepth 100000 in
theorem records_any [av : Av] (base : Nat) (w : World) (P D I : Nat) (rv : Value) (l : Lg) (hl : LgAt base w P D I rv l) (hav : ∀ g, w.heap.size ≤ g → ¬ av.bad g) (hn : l.recs.length ≤ 1000000) (hr : ∀ r ∈ l.recs, r.length ≤ 1000000) :
    Calls Tryd.prog 13 #[.pointer (some ⟨P, 0, none⟩)] w fun e w' => ∃ ov, e = .returned ov ∧ RowsAt w.heap.size w' ov l.recs ∧ Below w.heap.size w w' := by
  obtain ⟨_, _, _, c3, _⟩ := hl.cells
  have HR := Lib.hid hl.hR
  have HAV := Lib.hid hav
  have HRL := Lib.hid hr
  obtain ⟨_, _, _, h3⟩ := hl.hR
  obtain ⟨ra, rc, rfl⟩ := own_slice h3
  clear hl hav hr h3
  generalize l.recs = recs at *
  go_enter Tryd.func13, Tryd.ntmps13
  go_wp2_with fail
  go_loopw [3, 13] (fun ov i wr => LRec w recs ov i wr) (fun _ i _ => 1000001 - (intOf i).toNat)
  case atStart => exact ⟨0, Nat.zero_le _, rfl, ⟨[], rfl, (by intro p hp; simp at hp), World.ownsRow_nil _ _ _ _⟩, Below.refl _ _⟩
  case round =>
    obtain ⟨k, hk, rfl, ho, hb⟩ := hrel
    obtain ⟨vs, o1, o2, o3⟩ := ho
    have hkt : (recs.take k).length = k := by rw [List.length_take]; omega
    rw [hkt] at o3
    obtain ⟨oa, oc, rfl⟩ := own_slice o3
    have O1 := Lib.hid o1
    have O2 := Lib.hid o2
    have O3 := Lib.hid o3
    have HB := Lib.hid hb
    have HKT := Lib.hid hkt
    clear o1 o2 o3 hb hkt
    by_cases hkl : k < recs.length
    · have t1 : decide (k < recs.length) = true := decide_eq_true hkl
      obtain ⟨g, c, u, hg, hgc, hcell, hby⟩ := HR.out.at_ hkl
      cases hg
      have hcw : wr.cell? ⟨g, k, none⟩ = some u := cell_up hcell HB.out
      have hbw := hby.below HB.out
      obtain ⟨ua, uc, rfl⟩ := byts_slice hbw
      have hrl := HRL.out _ (List.getElem_mem hkl)
      have HCL := Lib.hid (clone_bytes ua recs[k].length uc recs[k] wr rfl hrl (fun g hg => HAV.out g (by have := HB.out.size; omega)) hbw.1.1 (byts_read hbw))
      clear hcell hby hbw hrl
      go_wp2_with (first | (go_at_call 37; refine HCL.out.mono ?_; rintro e w1 ⟨bv, rfl, hbv, hb1⟩; obtain ⟨ba, bc, rfl⟩ := byts_slice hbv; have HBV := Lib.hid hbv; have HB1 := Lib.hid hb1; clear hbv hb1) | (at_builtin; refine print_append_cells (w0 := wr) (W := w1) w.heap.size rfl _ _ 30 22 (.slice none 0 0) 1 24 rfl Tryd.underlying30 info_sl rfl (by decide) (by decide) (.slice oa k oc) k vs [.slice ba recs[k].length bc] rfl rfl rfl (by intro u hu; rw [List.mem_singleton.1 hu]; rfl) (own_up O3.out HB1.out) (HB1.out.mono HB.out.size) (Nat.le_trans HB.out.size HB1.out.size) (by omega) ?_))
      intro v1 w3 h3 hb3 hg3 _
      have H3 := Lib.hid h3
      have HB3 := Lib.hid hb3
      have HG3 := Lib.hid hg3
      clear h3 hb3 hg3
      go_wp2_with fail
      go_roundw
      case rel =>
        refine ⟨k + 1, hkl, by go_num, ?_, HB.out.trans HB3.out⟩
        rw [List.take_add_one, List.getElem?_eq_getElem hkl]
        refine RowsAt.put (w := w1) (rv := .slice oa k oc) (by rw [O1.out]) (fun p hp => (O2.out p hp).below HB1.out) (by rw [HKT.out]; exact H3.out) HBV.out (fun g' cur hh => ?_)
        refine (HG3.out.block g' (lt_of_heap hh) (fun q => ?_)).trans hh
        obtain ⟨cur', hc⟩ := (own_kind (own_up O3.out HB1.out) q.symm).2
        rw [hh] at hc
        cases hc
      case measure => simp [intOf]; omega
    · have ek : k = recs.length := by omega
      subst ek
      have t1 : decide (recs.length < recs.length) = false := decide_eq_false (by omega)
      go_wp2_with fail
      go_ret
      refine ⟨_, rfl, ?_, HB.out⟩
      have e : recs.take recs.length = recs := List.take_of_length_le (Nat.le_refl _)
      exact ⟨vs, by rw [O1.out, e], fun p hp => O2.out p (by rw [e]; exact hp), O3.out⟩
end Dk
end Go.Proofs.YtcjhligknhpadaaDoor

namespace Go.Proofs.YtcjhligknhpadaaDoor
open Go.RowKit Go.Proofs.YtcjhligknhpadaaDoor.Wp Go.Proofs.YtcjhligknhpadaaDoorW.PrintWords Go.Proofs.YtcjhligknhpadaaDoorW.PrintLast
set_option linter.unusedVariables false
set_option linter.unusedSimpArgs false
namespace Dk

theorem append_nil (v : Value) (w : World) : Calls Tryd.prog 11 #[.pointer none, v] w fun e w' => e = .returned (.int .i64 1) ∧ w = w' := by
  go_enter Tryd.func11, Tryd.ntmps11
  go_wp2_with fail
  go_ret
  exact ⟨rfl, rfl⟩
set_option maxRecDepth 100000 in
theorem append_long (P : Nat) (a : Option Addr) (n c : Nat) (w : World) (h : n = 0 ∨ 8192 < n) : Calls Tryd.prog 11 #[.pointer (some ⟨P, 0, none⟩), .slice a n c] w fun e w' => e = .returned (.int .i64 62) ∧ w = w' := by
  rcases h with rfl | h
  · go_enter Tryd.func11, Tryd.ntmps11
    go_wp2_with fail
    go_ret
    exact ⟨rfl, rfl⟩
  · have t1 : ((n : Int) == 0) = false := by simp; omega
    have t2 : decide (8192 < (n : Int)) = true := decide_eq_true (by omega)
    have t3 : n ≠ 0 := by omega
    have t4 : 8192 < n := h
    clear h
    go_enter Tryd.func11, Tryd.ntmps11
    go_wp2_with fail
    go_ret
    exact ⟨rfl, rfl⟩
set_option maxHeartbeats 1000000 in
set_option maxRecDepth 100000 in
theorem append_full [av : Av] (base : Nat) (w : World) (P D I : Nat) (rv : Value) (l : Lg) (a : Option Addr) (n c : Nat) (hl : LgAt base w P D I rv l) (hf : l.fin ≤ l.S * 128) (h0 : 0 < n) (h1 : n ≤ 8192) (hfull : l.S * 128 < l.fin + 8 + pad n) : Calls Tryd.prog 11 #[.pointer (some ⟨P, 0, none⟩), .slice a n c] w fun e w' => e = .returned (.int .i64 61) ∧ ∃ k, w' = w.drewN k := by
  obtain ⟨_, _, _, _, _, c5, c6, _⟩ := hl.cells
  have hs2 := hl.s2
  have hp := pad_le n
  clear hl
  generalize l.S = S at *
  generalize l.fin = fn at *
  have t1 : ((n : Int) == 0) = false := by simp; omega
  have t2 : decide (8192 < (n : Int)) = false := decide_eq_false (by omega)
  have t3 : n ≠ 0 := by omega
  have t4 : ¬ 8192 < n := by omega
  have e1 : IntKind.i64.wrap ((S : Int) * 128 - fn) = (S : Int) * 128 - fn := IntWalk.i64_in _ (by omega)
  have e2 : IntKind.i64.wrap (8 + (pad n : Int)) = 8 + (pad n : Int) := IntWalk.i64_in _ (by omega)
  have t5 : decide ((S : Int) * 128 - fn < 8 + (pad n : Int)) = true := decide_eq_true (by omega)
  go_enter Tryd.func11, Tryd.ntmps11
  go_wp2_with fail
  refine Go.Proofs.YtcjhligknhpadaaDoorW.PrintLast.start_ (n := 16) (S := fun v => v.cell? ⟨P, 5, none⟩ = some (.int .i64 fn) ∧ v.cell? ⟨P, 6, none⟩ = some (.slice (some ⟨I, 0, none⟩) (S * 128) (S * 128))) (ds := [15]) #[false, false, false, false, false, false, false, false, false, false, false, false, false, false, false, false] (by kernel_rfl) rfl rfl ⟨c5, c6⟩ (fun hHeld => ?_)
  refine Go.Proofs.YtcjhligknhpadaaDoorW.PrintLast.pure_ (i := 0) (N := some 19) (v := ?_) (a' := ?_) #[true, false, false, false, false, false, false, false, false, false, false, false, false, false, false, false] rfl rfl (by kernel_rfl) (fun _ _ _ h => h) (Or.inl ⟨by rfl, ?_⟩) ?_ ?_
  rotate_left
  · intro w'
    go_simp
    with_reducible rfl
  rotate_left
  · simp only [Act.put, List.setIfInBounds_toArray, List.set_cons_zero, List.set_cons_succ, Go.Proofs.YtcjhligknhpadaaDoorW.PrintLast.i64_w, Go.Proofs.YtcjhligknhpadaaDoorW.PrintLast.i32_w]
    rfl
  refine Go.Proofs.YtcjhligknhpadaaDoorW.PrintLast.take_ (i := 1) (N := some 20) (v := ?_) (a' := ?_) #[true, true, false, false, false, false, false, false, false, false, false, false, false, false, false, false] rfl rfl (by kernel_rfl) (fun _ _ _ h => h) (Or.inl ⟨by rfl, ?_⟩) hHeld ?_ ?_
  rotate_left
  · rintro w' ⟨s0, s1⟩
    go_simp
    with_reducible rfl
  rotate_left
  · simp only [Act.put, List.setIfInBounds_toArray, List.set_cons_zero, List.set_cons_succ, Go.Proofs.YtcjhligknhpadaaDoorW.PrintLast.i64_w, Go.Proofs.YtcjhligknhpadaaDoorW.PrintLast.i32_w]
    rfl
  refine Go.Proofs.YtcjhligknhpadaaDoorW.PrintLast.pure_ (i := 4) (N := some 23) (v := ?_) (a' := ?_) #[true, true, false, false, true, false, false, false, false, false, false, false, false, false, false, false] rfl rfl (by kernel_rfl) (fun _ _ _ h => h) (Or.inl ⟨by rfl, ?_⟩) ?_ ?_
  rotate_left
  · intro w'
    go_simp
    with_reducible rfl
  rotate_left
  · simp only [Act.put, List.setIfInBounds_toArray, List.set_cons_zero, List.set_cons_succ, Go.Proofs.YtcjhligknhpadaaDoorW.PrintLast.i64_w, Go.Proofs.YtcjhligknhpadaaDoorW.PrintLast.i32_w]
    rfl
  refine Go.Proofs.YtcjhligknhpadaaDoorW.PrintLast.pure_ (i := 5) (N := some 24) (v := ?_) (a' := ?_) #[true, true, false, false, true, true, false, false, false, false, false, false, false, false, false, false] rfl rfl (by kernel_rfl) (fun _ _ _ h => h) (Or.inl ⟨by rfl, ?_⟩) ?_ ?_
  rotate_left
  · intro w'
    go_simp
    with_reducible rfl
  rotate_left
  · simp only [Act.put, List.setIfInBounds_toArray, List.set_cons_zero, List.set_cons_succ, Go.Proofs.YtcjhligknhpadaaDoorW.PrintLast.i64_w, Go.Proofs.YtcjhligknhpadaaDoorW.PrintLast.i32_w]
    rfl
  refine Go.Proofs.YtcjhligknhpadaaDoorW.PrintLast.pure_ (i := 6) (N := some 25) (v := ?_) (a' := ?_) #[true, true, false, false, true, true, true, false, false, false, false, false, false, false, false, false] rfl rfl (by kernel_rfl) (fun _ _ _ h => h) (Or.inl ⟨by rfl, ?_⟩) ?_ ?_
  rotate_left
  · intro w'
    go_simp
    with_reducible rfl
  rotate_left
  · simp only [Act.put, List.setIfInBounds_toArray, List.set_cons_zero, List.set_cons_succ, Go.Proofs.YtcjhligknhpadaaDoorW.PrintLast.i64_w, Go.Proofs.YtcjhligknhpadaaDoorW.PrintLast.i32_w]
    rfl
  refine Go.Proofs.YtcjhligknhpadaaDoorW.PrintLast.take_ (i := 7) (N := some 26) (v := ?_) (a' := ?_) #[true, true, false, false, true, true, true, true, false, false, false, false, false, false, false, false] rfl rfl (by kernel_rfl) (fun _ _ _ h => h) (Or.inl ⟨by rfl, ?_⟩) hHeld ?_ ?_
  rotate_left
  · rintro w' ⟨s0, s1⟩
    go_simp
    with_reducible rfl
  rotate_left
  · simp only [Act.put, List.setIfInBounds_toArray, List.set_cons_zero, List.set_cons_succ, Go.Proofs.YtcjhligknhpadaaDoorW.PrintLast.i64_w, Go.Proofs.YtcjhligknhpadaaDoorW.PrintLast.i32_w]
    rfl
  refine Go.Proofs.YtcjhligknhpadaaDoorW.PrintLast.take_ (i := 8) (N := some 27) (v := ?_) (a' := ?_) #[true, true, false, false, true, true, true, true, true, false, false, false, false, false, false, false] rfl rfl (by kernel_rfl) (fun _ _ _ h => h) (Or.inl ⟨by rfl, ?_⟩) hHeld ?_ ?_
  rotate_left
  · rintro w' ⟨s0, s1⟩
    go_simp
    with_reducible rfl
  rotate_left
  · simp only [Act.put, List.setIfInBounds_toArray, List.set_cons_zero, List.set_cons_succ, Go.Proofs.YtcjhligknhpadaaDoorW.PrintLast.i64_w, Go.Proofs.YtcjhligknhpadaaDoorW.PrintLast.i32_w]
    rfl
  refine Go.Proofs.YtcjhligknhpadaaDoorW.PrintLast.pure_ (i := 9) (N := some 28) (v := ?_) (a' := ?_) #[true, true, false, false, true, true, true, true, true, true, false, false, false, false, false, false] rfl rfl (by kernel_rfl) (fun _ _ _ h => h) (Or.inl ⟨by rfl, ?_⟩) ?_ ?_
  rotate_left
  · intro w'
    go_simp
    with_reducible rfl
  rotate_left
  · simp only [Act.put, List.setIfInBounds_toArray, List.set_cons_zero, List.set_cons_succ, Go.Proofs.YtcjhligknhpadaaDoorW.PrintLast.i64_w, Go.Proofs.YtcjhligknhpadaaDoorW.PrintLast.i32_w]
    rfl
  refine Go.Proofs.YtcjhligknhpadaaDoorW.PrintLast.pure_ (i := 10) (N := some 29) (v := ?_) (a' := ?_) #[true, true, false, false, true, true, true, true, true, true, true, false, false, false, false, false] rfl rfl (by kernel_rfl) (fun _ _ _ h => h) (Or.inl ⟨by rfl, ?_⟩) ?_ ?_
  rotate_left
  · intro w'
    go_simp
    with_reducible rfl
  rotate_left
  · simp only [Act.put, List.setIfInBounds_toArray, List.set_cons_zero, List.set_cons_succ, Go.Proofs.YtcjhligknhpadaaDoorW.PrintLast.i64_w, Go.Proofs.YtcjhligknhpadaaDoorW.PrintLast.i32_w]
    rfl
  refine Go.Proofs.YtcjhligknhpadaaDoorW.PrintLast.pure_ (i := 11) (N := some 30) (v := ?_) (a' := ?_) #[true, true, false, false, true, true, true, true, true, true, true, true, false, false, false, false] rfl rfl (by kernel_rfl) (fun _ _ _ h => h) (Or.inl ⟨by rfl, ?_⟩) ?_ ?_
  rotate_left
  · intro w'
    go_simp
    with_reducible rfl
  rotate_left
  · simp only [Act.put, List.setIfInBounds_toArray, List.set_cons_zero, List.set_cons_succ, Go.Proofs.YtcjhligknhpadaaDoorW.PrintLast.i64_w, Go.Proofs.YtcjhligknhpadaaDoorW.PrintLast.i32_w]
    rfl
  refine Go.Proofs.YtcjhligknhpadaaDoorW.PrintLast.take_ (i := 12) (N := some 31) (v := ?_) (a' := ?_) #[true, true, false, false, true, true, true, true, true, true, true, true, true, false, false, false] rfl rfl (by kernel_rfl) (fun _ _ _ h => h) (Or.inl ⟨by rfl, ?_⟩) hHeld ?_ ?_
  rotate_left
  · rintro w' ⟨s0, s1⟩
    go_simp
    with_reducible rfl
  rotate_left
  · simp only [Act.put, List.setIfInBounds_toArray, List.set_cons_zero, List.set_cons_succ, Go.Proofs.YtcjhligknhpadaaDoorW.PrintLast.i64_w, Go.Proofs.YtcjhligknhpadaaDoorW.PrintLast.i32_w]
    rfl
  refine Go.Proofs.YtcjhligknhpadaaDoorW.PrintLast.pure_ (i := 13) (N := some 32) (v := ?_) (a' := ?_) #[true, true, false, false, true, true, true, true, true, true, true, true, true, true, false, false] rfl rfl (by kernel_rfl) (fun _ _ _ h => h) (Or.inl ⟨by rfl, ?_⟩) ?_ ?_
  rotate_left
  · intro w'
    go_simp
    with_reducible rfl
  rotate_left
  · simp only [Act.put, List.setIfInBounds_toArray, List.set_cons_zero, List.set_cons_succ, Go.Proofs.YtcjhligknhpadaaDoorW.PrintLast.i64_w, Go.Proofs.YtcjhligknhpadaaDoorW.PrintLast.i32_w]
    rfl
  refine Go.Proofs.YtcjhligknhpadaaDoorW.PrintLast.one_ (i := 2) (N := some 21) #[true, true, true, false, true, true, true, true, true, true, true, true, true, true, false, false] rfl rfl (by kernel_rfl) (by decide) (fun K hK => ?_)
  refine Go.Proofs.YtcjhligknhpadaaDoorW.PrintLast.goes_ Tryd.func34 (by kernel_rfl) rfl #[.int .i64 n] (by rfl) rfl rfl (by (try simp only [List.map_toArray, List.map_cons, List.map_nil]); first | done | rfl) ?_
  refine (padded_any n _ (by omega)).mono ?_
  rintro e w2 ⟨rfl, rfl⟩
  refine ⟨_, rfl, ?_⟩
  refine hK.out _ _ hHeld (fun hHeld => ?_)
  clear hK K
  refine Go.Proofs.YtcjhligknhpadaaDoorW.PrintLast.norm_ (a' := ?_) ?_ ?_
  rotate_left
  · show Act.put _ (some 21) _ = _
    simp only [Act.put, List.setIfInBounds_toArray, List.set_cons_zero, List.set_cons_succ, Go.Proofs.YtcjhligknhpadaaDoorW.PrintLast.i64_w, Go.Proofs.YtcjhligknhpadaaDoorW.PrintLast.i32_w]
    rfl
  refine Go.Proofs.YtcjhligknhpadaaDoorW.PrintLast.pure_ (i := 3) (N := some 22) (v := ?_) (a' := ?_) #[true, true, true, true, true, true, true, true, true, true, true, true, true, true, false, false] rfl rfl (by kernel_rfl) (fun _ _ _ h => h) (Or.inl ⟨by rfl, ?_⟩) ?_ ?_
  rotate_left
  · intro w'
    go_simp
    with_reducible rfl
  rotate_left
  · simp only [Act.put, List.setIfInBounds_toArray, List.set_cons_zero, List.set_cons_succ, Go.Proofs.YtcjhligknhpadaaDoorW.PrintLast.i64_w, Go.Proofs.YtcjhligknhpadaaDoorW.PrintLast.i32_w]
    rfl
  refine Go.Proofs.YtcjhligknhpadaaDoorW.PrintLast.pure_ (i := 14) (N := some 33) (v := ?_) (a' := ?_) #[true, true, true, true, true, true, true, true, true, true, true, true, true, true, true, false] rfl rfl (by kernel_rfl) (fun _ _ _ h => h) (Or.inl ⟨by rfl, ?_⟩) ?_ ?_
  rotate_left
  · intro w'
    go_simp
    with_reducible rfl
  rotate_left
  · simp only [Act.put, List.setIfInBounds_toArray, List.set_cons_zero, List.set_cons_succ, Go.Proofs.YtcjhligknhpadaaDoorW.PrintLast.i64_w, Go.Proofs.YtcjhligknhpadaaDoorW.PrintLast.i32_w]
    rfl
  refine Go.Proofs.YtcjhligknhpadaaDoorW.PrintLast.pure_ (i := 15) (N := some 18) (v := ?_) (a' := ?_) #[true, true, true, true, true, true, true, true, true, true, true, true, true, true, true, true] rfl rfl (by kernel_rfl) (fun _ _ _ h => h) (Or.inl ⟨by rfl, ?_⟩) ?_ ?_
  rotate_left
  · intro w'
    go_simp
    with_reducible rfl
  rotate_left
  · simp only [Act.put, List.setIfInBounds_toArray, List.set_cons_zero, List.set_cons_succ, Go.Proofs.YtcjhligknhpadaaDoorW.PrintLast.i64_w, Go.Proofs.YtcjhligknhpadaaDoorW.PrintLast.i32_w]
    rfl
  refine Go.Proofs.YtcjhligknhpadaaDoorW.PrintLast.done_ (by kernel_rfl) ?_
  go_wp2_with fail
  go_ret
  exact ⟨rfl, 1, rfl⟩
end Dk
end Go.Proofs.YtcjhligknhpadaaDoor

namespace Go.Proofs.YtcjhligknhpadaaDoor
open Go.RowKit Go.Proofs.YtcjhligknhpadaaDoor.Wp Go.Proofs.YtcjhligknhpadaaDoorW.PrintWords Go.Proofs.YtcjhligknhpadaaDoorW.PrintLast
set_option linter.unusedVariables false
set_option linter.unusedSimpArgs false
namespace Dk

/-- the image with a frame more (its noughts lie there already) -/
def putAt (img : List Int) (e : Nat) (b : List Int) : List Int := splice (splice (splice img e (putF 4 b.length)) (e + 4) (putF 4 (crcF b))) (e + 8) b
theorem copy_only {P : Program} {w : World} {ops : Array Oper} {rest : List Oper} {o : Oper} {a : Act} {Q : Exit → Act → World → Prop} (hgd : o.guard = none) (d s : Operand) (dT sT : TypeId)
    (ho : o.op = .call { callee := .builtin .copy, args := #[d, s], argTypes := #[dT, sT] }) (elem : TypeId) (hu : P.underlying dT = some (.slice elem)) (hsz : (P.info? elem).map (·.size) = some 1)
    (g off dLen dCap : Nat) (ad : Addr) (sLen sCap : Nat) (hd : a.eval d = .slice (some ⟨g, off, none⟩) dLen dCap) (hs : a.eval s = .slice (some ad) sLen sCap)
    (cur : List Value) (t : TypeId) (hg : w.heap[g]? = some (.cells cur.toArray t (0, 0))) (cs : List Value) (hn : cs.length = Nat.min sLen dLen)
    (hsrc : ∀ j v, cs[j]? = some v → w.cell? (ad.add j) = some v) (hfit : off + cs.length ≤ cur.length) (h1 : ∀ v ∈ cs, v.oneCell' = true)
    (h : ∀ w', Hid (w'.heap[g]? = some (.cells (splice cur off cs).toArray t (0, 0))) → Hid (Only g w w') → wpList P ops Q rest (a.put o.dst (goInt cs.length)) w') : wpList P ops Q (o :: rest) a w :=
  wpList_copy_own hgd d s dT sT ho elem hu hsz g off dLen dCap ad sLen sCap hd hs cur.toArray t hg cs hn hsrc (by simpa using hfit) h1
    (h _ (Lib.hid (by simpa [splice] using setRow_heap w g _ _ t _ hg)) (Lib.hid (Only.row w g _)))
theorem LgAt.end_ [av : Av] {base : Nat} {w : World} {P D I : Nat} {rv : Value} {l : Lg} (h : LgAt base w P D I rv l) (x : Nat) : LgAt base (w.setCell ⟨P, 5, none⟩ (.int .i64 x)) P D I rv { l with fin := x } := by
  have ne : ∀ (k : Nat) (cur : Array Value) (t : TypeId), w.heap[k]? = some (.cells cur t (0, 0)) → t ≠ 66 → k ≠ P := fun k cur t hk ht => by
    rintro rfl
    rw [h.hP] at hk
    exact ht (Obj.cells.inj (Option.some.inj hk)).2.1.symm
  exact ⟨h.bP, h.bI, h.bad, by rw [set_at h.hP]; rfl, (set_ne (ne I _ _ h.hI (by decide))).trans h.hI, h.by_, h.len, h.s1, h.s2, h.hR.move fun k cur => ⟨fun hh => (set_ne (ne k cur _ hh (by decide))).trans hh, fun _ hh => (set_ne (ne k cur _ hh (by decide))).trans hh⟩⟩
theorem splice_by {img x : List Int} (h : IsBy img) (g : IsBy x) (e : Nat) : IsBy (splice img e x) := by
  intro c hc
  rcases List.mem_append.1 hc with hc | hc
  · exact h c (List.mem_of_mem_take hc)
  · rcases List.mem_append.1 hc with hc | hc
    · exact g c hc
    · exact h c (List.mem_of_mem_drop hc)
theorem map_splice (img x : List Int) (e : Nat) : splice (img.map (Value.int .u8)) e (x.map (Value.int .u8)) = (splice img e x).map (Value.int .u8) := by
  unfold splice
  simp only [List.map_append, List.map_take, List.map_drop, List.length_map]
/-- what a doing of a log's that touches no disk may change: its own blocks -/
structure LKeep (S : Nat → Prop) (w w' : World) : Prop where
  os : w'.os = w.os
  tape : w'.tape = w.tape
  output : w'.output = w.output
  size : w.heap.size ≤ w'.heap.size
  all : ∀ (i : Nat) (o : Obj), w.heap[i]? = some o → ¬ S i → w'.heap[i]? = some o
theorem LKeep.refl (S : Nat → Prop) (w : World) : LKeep S w w := ⟨rfl, rfl, rfl, Nat.le_refl _, fun _ _ h _ => h⟩
theorem LKeep.below {S : Nat → Prop} {w w' : World} (h : Below w.heap.size w w') : LKeep S w w' := ⟨h.os, h.tape, h.output, h.size, fun i _ ho _ => (h.block i (lt_of_heap ho)).trans ho⟩
theorem LKeep.only {g : Nat} {S : Nat → Prop} {w w' : World} (h : Only g w w') (hS : S g) : LKeep S w w' :=
  ⟨h.os, h.tape, h.output, by rw [h.size]; exact Nat.le_refl _, fun i o h1 h3 => (h.same i (by rintro rfl; exact h3 hS)).trans h1⟩
theorem LKeep.trans {S S' : Nat → Prop} {w w1 w2 : World} (h : LKeep S w w1) (g : LKeep S' w1 w2) (hs : ∀ i, i < w.heap.size → S' i → S i) : LKeep S w w2 :=
  ⟨g.os.trans h.os, g.tape.trans h.tape, g.output.trans h.output, Nat.le_trans h.size g.size, fun i o h1 h3 => g.all i o (h.all i o h1 h3) (fun q => h3 (hs i (lt_of_heap h1) q))⟩
theorem LKeep.chg {B : Nat} {S : Nat → Prop} {w w' : World} (h : LKeep S w w') (hb : B ≤ w.heap.size) (hS : ∀ i, S i → B ≤ i) : LChg B S w w' :=
  ⟨h.os, h.tape, h.output, h.size, fun i hi => by
    have e := Array.getElem?_eq_getElem (show i < w.heap.size by omega)
    rw [e]
    exact h.all i _ e (fun q => by have := hS i q; omega), fun i o h1 _ h3 => h.all i o h1 h3⟩
theorem LgAt.own [av : Av] {base : Nat} {w : World} {P D I : Nat} {rv : Value} {l : Lg} (h : LgAt base w P D I rv l) : ∀ i, LgOwn P I rv i → base ≤ i := by
  obtain ⟨vs, h1, h2, h3⟩ := h.hR
  rintro i (rfl | rfl | q)
  · exact h.bP
  · exact h.bI
  · exact (own_kind h3 q).1
theorem LgAt.disk [av : Av] {base : Nat} {w w' : World} {P D I : Nat} {rv : Value} {l : Lg} {d : Dsk} (h : LgAt base w P D I rv l) (hk : LKeep (LgOwn P I rv) w w') (hd : IsDk base w D d) : IsDk base w' D d := by
  obtain ⟨vs0, k1, k2, k3⟩ := h.hR
  have mv : ∀ (k : Nat) (o : Obj), w.heap[k]? = some o → (∀ cur, o ≠ .cells cur 66 (0, 0)) → (∀ cur, o ≠ .cells cur 22 (0, 0)) → (∀ cur, o = .cells cur 5 (0, 0) → ¬ av.bad k) → w'.heap[k]? = some o := fun k o ho n1 n2 n3 => hk.all k o ho (by
    rintro (rfl | rfl | q)
    · rw [h.hP] at ho
      cases ho
      exact n1 _ rfl
    · rw [h.hI] at ho
      cases ho
      exact n3 _ rfl h.bad
    · obtain ⟨cur, hc⟩ := (own_kind k3 q).2
      rw [hc] at ho
      cases ho
      exact n2 _ rfl)
  have ne : ∀ (t u : TypeId) (cur : Array Value), t ≠ u → ∀ c, (Obj.cells cur t (0, 0)) ≠ .cells c u (0, 0) := fun t u cur ht c q => ht (Obj.cells.inj q).2.1
  have oth : ∀ (k : Nat) (cur : Array Value) (t : TypeId), w.heap[k]? = some (.cells cur t (0, 0)) → t ≠ 66 → t ≠ 22 → t ≠ 5 → w'.heap[k]? = some (.cells cur t (0, 0)) := fun k cur t ho n1 n2 n3 => mv k _ ho (ne _ _ _ n1) (ne _ _ _ n2) (fun c q => absurd (Obj.cells.inj q).2.1 n3)
  have byt : ∀ v l, Byts w v l → Byts w' v l := fun v l h => ⟨h.1, own_move h.2 fun g cur hg hh => mv g _ hh (ne _ _ _ (by decide)) (ne _ _ _ (by decide)) (fun c q => h.1.2 g hg)⟩
  have mp : ∀ M m, MapB w M m → MapB w' M m := fun M m ⟨es, c, h1, h2, h3⟩ => ⟨es, c, mv M _ h1 (fun cur q => by cases q) (fun cur q => by cases q) (fun cur q => by cases q), h2, fun q => byt _ _ (h3 q)⟩
  obtain ⟨F, M, lv, sv, hd⟩ := hd
  obtain ⟨vs, l1, l2, l3⟩ := hd.hL
  exact ⟨F, M, lv, sv, hd.bD, hd.bF, hd.bM, hd.ne, oth D _ _ hd.hD (by decide) (by decide) (by decide), mp _ _ hd.hF, mp _ _ hd.hM, ⟨vs, l1, fun p hp => byt _ _ (l2 p hp), own_move l3 fun g cur _ hh => oth g _ _ hh (by decide) (by decide) (by decide)⟩, own_move hd.hS fun g cur _ hh => oth g _ _ hh (by decide) (by decide) (by decide)⟩
theorem LgAt.more [av : Av] {base : Nat} {w w1 w2 : World} {P D I : Nat} {rv rv1 u : Value} {l : Lg} {b : List Int} {vs : List Value} (h : LgAt base w P D I rv l) (hb : Below w.heap.size w w1) (h1 : vs.length = l.recs.length) (h2 : (∀ p ∈ l.recs.zip vs, Byts w p.2 p.1) ∧ w.ownsRow base 22 1 rv l.recs.length vs) (hg : w1.grownBy w2 rv.ownBlock) (hu : Byts w1 u b) (ho : w2.ownsRow base 22 1 rv1 (l.recs.length + 1) (vs ++ [u])) (hv : rv1.ownBlock = rv.ownBlock ∨ ∃ b, rv1.ownBlock = some b ∧ w1.heap.size ≤ b) :
    LgAt base (w2.setCell ⟨P, 3, none⟩ rv1) P D I rv1 { l with recs := l.recs ++ [b] } ∧ LKeep (LgOwn P I rv) w (w2.setCell ⟨P, 3, none⟩ rv1) ∧ (∀ i, i < w.heap.size → LgOwn P I rv1 i → LgOwn P I rv i) ∧ w2.heap[P]? = some (.cells (lgCells D I rv l) 66 (0, 0)) := by
  have ek := fun (g : Nat) (q : rv.ownBlock = some g) => own_kind h2.2 q
  have neo : ∀ (k : Nat) (cur : Array Value) (t : TypeId), w.heap[k]? = some (.cells cur t (0, 0)) → t ≠ 22 → some k ≠ rv.ownBlock := fun k cur t hk ht q => by
    obtain ⟨cur', hc⟩ := (ek k q.symm).2
    rw [hk] at hc
    exact ht (Obj.cells.inj (Option.some.inj hc)).2.1
  have up : ∀ (k : Nat) (cur : Array Value) (t : TypeId), w.heap[k]? = some (.cells cur t (0, 0)) → t ≠ 22 → w2.heap[k]? = some (.cells cur t (0, 0)) := fun k cur t hk ht =>
    (hg.block k (Nat.lt_of_lt_of_le (lt_of_heap hk) hb.size) (neo k cur t hk ht)).trans ((hb.block k (lt_of_heap hk)).trans hk)
  have hP2 := up P _ _ h.hP (by decide)
  have hI2 := up I _ _ h.hI (by decide)
  have hPI : I ≠ P := by
    rintro rfl
    rw [hP2] at hI2
    exact absurd (Obj.cells.inj (Option.some.inj hI2)).2.1 (by decide)
  refine ⟨⟨h.bP, h.bI, h.bad, by rw [set_at hP2]; rfl, (set_ne hPI).trans hI2, h.by_, h.len, h.s1, h.s2, ?_⟩, ?_, ?_, hP2⟩
  · have q := RowsAt.put (w := w1) (w1 := w2) (rv := rv) (rv1 := rv1) h1 (fun p hp => (h2.1 p hp).below hb) ho hu (fun g cur hh => (hg.block g (lt_of_heap hh) (fun q => by
      obtain ⟨cur', hc⟩ := (ek g q.symm).2
      rw [(hb.block g (lt_of_heap hc)).trans hc] at hh
      exact absurd (Obj.cells.inj (Option.some.inj hh)).2.1 (by decide))).trans hh)
    refine q.move fun k cur => ⟨fun hh => (set_ne ?_).trans hh, fun _ hh => (set_ne ?_).trans hh⟩ <;>
    · rintro rfl
      rw [hP2] at hh
      exact absurd (Obj.cells.inj (Option.some.inj hh)).2.1 (by decide)
  · have hs := hb.size
    have hs2 := hg.size
    refine ⟨hg.os.trans hb.os, hg.tape.trans hb.tape, hg.output.trans hb.output, ?_, fun i o h3 h5 => ?_⟩
    · rw [set_size]
      omega
    · have hi := lt_of_heap h3
      exact (set_ne (fun q => h5 (.inl q))).trans ((hg.block i (by omega) (fun q => h5 (.inr (.inr q.symm)))).trans ((hb.block i hi).trans h3))
  · rintro i hi (q | q | q)
    · exact .inl q
    · exact .inr (.inl q)
    · rcases hv with hv | ⟨b', hv, hlt⟩
      · exact .inr (.inr (hv ▸ q))
      · rw [hv] at q
        cases q
        have := hb.size
        omega
set_option maxHeartbeats 2000000 in
set_option maxRecDepth 100000 in
theorem append_any [av : Av] (base : Nat) (w : World) (P D I : Nat) (rv : Value) (l : Lg) (bg bo n c : Nat) (b : List Int) (hl : LgAt base w P D I rv l) (hbw : base ≤ w.heap.size) (hav : ∀ g, w.heap.size ≤ g → ¬ av.bad g) (ht : Tab w) (hfit : l.fin + 8 + pad n ≤ l.S * 128) (h0 : 0 < n) (h1 : n ≤ 8192) (hbn : b.length = n) (hby : IsBy b) (hbI : bg ≠ I) (hbP : bg ≠ P) (hI0 : I ≠ 0)
    (hb : ∀ j, j < n → w.cell? ⟨bg, bo + j, none⟩ = some (.int .u8 (b.getD j 0))) (hrn : l.recs.length ≤ 1000000) :
    Calls Tryd.prog 11 #[.pointer (some ⟨P, 0, none⟩), .slice (some ⟨bg, bo, none⟩) n c] w fun e w' => e = .returned (.int .i64 0) ∧ ∃ rv', LgAt base w' P D I rv' { l with recs := l.recs ++ [b], fin := l.fin + 8 + pad n, img := putAt l.img l.fin b } ∧ LKeep (LgOwn P I rv) w w' ∧ (∀ i, i < w.heap.size → LgOwn P I rv' i → LgOwn P I rv i) := by
  obtain ⟨_, _, _, _, _, c5, c6, _⟩ := hl.cells
  have hs2 := hl.s2
  have hp := pad_le n
  have HL := Lib.hid hl
  have HI := Lib.hid hl.hI
  have HT := Lib.hid ht
  have HB := Lib.hid hb
  have HBN := Lib.hid hbn
  have HBY := Lib.hid hby
  have HAV := Lib.hid hav
  have HBW := Lib.hid hbw
  have HPI := Lib.hid (show P ≠ I by rintro rfl; have q := hl.hI; rw [hl.hP] at q; exact absurd (Obj.cells.inj (Option.some.inj q)).2.1 (by decide))
  have HLEN := Lib.hid hl.len
  have HRN := Lib.hid hrn
  have HN0 := Lib.hid h0
  clear hl ht hb hbn hby hav hbw hrn
  generalize hSd : l.S = S at *
  generalize hFd : l.fin = fn at *
  have HSD := Lib.hid hSd
  have HFD := Lib.hid hFd
  clear hSd hFd
  have t1 : ((n : Int) == 0) = false := by simp; omega
  have t2 : decide (8192 < (n : Int)) = false := decide_eq_false (by omega)
  have t3 : n ≠ 0 := by omega
  have t4 : ¬ 8192 < n := by omega
  have e1 : IntKind.i64.wrap ((S : Int) * 128 - fn) = (S : Int) * 128 - fn := IntWalk.i64_in _ (by omega)
  have e2 : IntKind.i64.wrap (8 + (pad n : Int)) = 8 + (pad n : Int) := IntWalk.i64_in _ (by omega)
  have t5 : decide ((S : Int) * 128 - fn < 8 + (pad n : Int)) = false := decide_eq_false (by omega)
  have t6 : fn < S * 128 := by omega
  have q1 : (fn : Int) ≤ (S : Int) * 128 := by omega
  have q2 : ¬ S * 128 = fn := by omega
  have q3 : (8 : Int) ≤ ((S * 128 - fn : Nat) : Int) := by omega
  have q4 : ¬ S * 128 - fn = 4 := by omega
  have t7 : 4 < S * 128 - fn := by omega
  have t8 : 8 < S * 128 - fn := by omega
  go_enter Tryd.func11, Tryd.ntmps11
  go_wp2_with fail
  refine Go.Proofs.YtcjhligknhpadaaDoorW.PrintLast.start_ (n := 16) (S := fun v => v.cell? ⟨P, 5, none⟩ = some (.int .i64 fn) ∧ v.cell? ⟨P, 6, none⟩ = some (.slice (some ⟨I, 0, none⟩) (S * 128) (S * 128))) (ds := [15]) #[false, false, false, false, false, false, false, false, false, false, false, false, false, false, false, false] (by kernel_rfl) rfl rfl ⟨c5, c6⟩ (fun hHeld => ?_)
  refine Go.Proofs.YtcjhligknhpadaaDoorW.PrintLast.pure_ (i := 0) (N := some 19) (v := ?_) (a' := ?_) #[true, false, false, false, false, false, false, false, false, false, false, false, false, false, false, false] rfl rfl (by kernel_rfl) (fun _ _ _ h => h) (Or.inl ⟨by rfl, ?_⟩) ?_ ?_
  rotate_left
  · intro w'
    go_simp
    with_reducible rfl
  rotate_left
  · simp only [Act.put, List.setIfInBounds_toArray, List.set_cons_zero, List.set_cons_succ, Go.Proofs.YtcjhligknhpadaaDoorW.PrintLast.i64_w, Go.Proofs.YtcjhligknhpadaaDoorW.PrintLast.i32_w]
    rfl
  refine Go.Proofs.YtcjhligknhpadaaDoorW.PrintLast.take_ (i := 1) (N := some 20) (v := ?_) (a' := ?_) #[true, true, false, false, false, false, false, false, false, false, false, false, false, false, false, false] rfl rfl (by kernel_rfl) (fun _ _ _ h => h) (Or.inl ⟨by rfl, ?_⟩) hHeld ?_ ?_
  rotate_left
  · rintro w' ⟨s0, s1⟩
    go_simp
    with_reducible rfl
  rotate_left
  · simp only [Act.put, List.setIfInBounds_toArray, List.set_cons_zero, List.set_cons_succ, Go.Proofs.YtcjhligknhpadaaDoorW.PrintLast.i64_w, Go.Proofs.YtcjhligknhpadaaDoorW.PrintLast.i32_w]
    rfl
  refine Go.Proofs.YtcjhligknhpadaaDoorW.PrintLast.pure_ (i := 4) (N := some 23) (v := ?_) (a' := ?_) #[true, true, false, false, true, false, false, false, false, false, false, false, false, false, false, false] rfl rfl (by kernel_rfl) (fun _ _ _ h => h) (Or.inl ⟨by rfl, ?_⟩) ?_ ?_
  rotate_left
  · intro w'
    go_simp
    with_reducible rfl
  rotate_left
  · simp only [Act.put, List.setIfInBounds_toArray, List.set_cons_zero, List.set_cons_succ, Go.Proofs.YtcjhligknhpadaaDoorW.PrintLast.i64_w, Go.Proofs.YtcjhligknhpadaaDoorW.PrintLast.i32_w]
    rfl
  refine Go.Proofs.YtcjhligknhpadaaDoorW.PrintLast.pure_ (i := 5) (N := some 24) (v := ?_) (a' := ?_) #[true, true, false, false, true, true, false, false, false, false, false, false, false, false, false, false] rfl rfl (by kernel_rfl) (fun _ _ _ h => h) (Or.inl ⟨by rfl, ?_⟩) ?_ ?_
  rotate_left
  · intro w'
    go_simp
    with_reducible rfl
  rotate_left
  · simp only [Act.put, List.setIfInBounds_toArray, List.set_cons_zero, List.set_cons_succ, Go.Proofs.YtcjhligknhpadaaDoorW.PrintLast.i64_w, Go.Proofs.YtcjhligknhpadaaDoorW.PrintLast.i32_w]
    rfl
  refine Go.Proofs.YtcjhligknhpadaaDoorW.PrintLast.pure_ (i := 6) (N := some 25) (v := ?_) (a' := ?_) #[true, true, false, false, true, true, true, false, false, false, false, false, false, false, false, false] rfl rfl (by kernel_rfl) (fun _ _ _ h => h) (Or.inl ⟨by rfl, ?_⟩) ?_ ?_
  rotate_left
  · intro w'
    go_simp
    with_reducible rfl
  rotate_left
  · simp only [Act.put, List.setIfInBounds_toArray, List.set_cons_zero, List.set_cons_succ, Go.Proofs.YtcjhligknhpadaaDoorW.PrintLast.i64_w, Go.Proofs.YtcjhligknhpadaaDoorW.PrintLast.i32_w]
    rfl
  refine Go.Proofs.YtcjhligknhpadaaDoorW.PrintLast.take_ (i := 7) (N := some 26) (v := ?_) (a' := ?_) #[true, true, false, false, true, true, true, true, false, false, false, false, false, false, false, false] rfl rfl (by kernel_rfl) (fun _ _ _ h => h) (Or.inl ⟨by rfl, ?_⟩) hHeld ?_ ?_
  rotate_left
  · rintro w' ⟨s0, s1⟩
    go_simp
    with_reducible rfl
  rotate_left
  · simp only [Act.put, List.setIfInBounds_toArray, List.set_cons_zero, List.set_cons_succ, Go.Proofs.YtcjhligknhpadaaDoorW.PrintLast.i64_w, Go.Proofs.YtcjhligknhpadaaDoorW.PrintLast.i32_w]
    rfl
  refine Go.Proofs.YtcjhligknhpadaaDoorW.PrintLast.take_ (i := 8) (N := some 27) (v := ?_) (a' := ?_) #[true, true, false, false, true, true, true, true, true, false, false, false, false, false, false, false] rfl rfl (by kernel_rfl) (fun _ _ _ h => h) (Or.inl ⟨by rfl, ?_⟩) hHeld ?_ ?_
  rotate_left
  · rintro w' ⟨s0, s1⟩
    go_simp
    with_reducible rfl
  rotate_left
  · simp only [Act.put, List.setIfInBounds_toArray, List.set_cons_zero, List.set_cons_succ, Go.Proofs.YtcjhligknhpadaaDoorW.PrintLast.i64_w, Go.Proofs.YtcjhligknhpadaaDoorW.PrintLast.i32_w]
    rfl
  refine Go.Proofs.YtcjhligknhpadaaDoorW.PrintLast.pure_ (i := 9) (N := some 28) (v := ?_) (a' := ?_) #[true, true, false, false, true, true, true, true, true, true, false, false, false, false, false, false] rfl rfl (by kernel_rfl) (fun _ _ _ h => h) (Or.inl ⟨by rfl, ?_⟩) ?_ ?_
  rotate_left
  · intro w'
    go_simp
    with_reducible rfl
  rotate_left
  · simp only [Act.put, List.setIfInBounds_toArray, List.set_cons_zero, List.set_cons_succ, Go.Proofs.YtcjhligknhpadaaDoorW.PrintLast.i64_w, Go.Proofs.YtcjhligknhpadaaDoorW.PrintLast.i32_w]
    rfl
  refine Go.Proofs.YtcjhligknhpadaaDoorW.PrintLast.pure_ (i := 10) (N := some 29) (v := ?_) (a' := ?_) #[true, true, false, false, true, true, true, true, true, true, true, false, false, false, false, false] rfl rfl (by kernel_rfl) (fun _ _ _ h => h) (Or.inl ⟨by rfl, ?_⟩) ?_ ?_
  rotate_left
  · intro w'
    go_simp
    with_reducible rfl
  rotate_left
  · simp only [Act.put, List.setIfInBounds_toArray, List.set_cons_zero, List.set_cons_succ, Go.Proofs.YtcjhligknhpadaaDoorW.PrintLast.i64_w, Go.Proofs.YtcjhligknhpadaaDoorW.PrintLast.i32_w]
    rfl
  refine Go.Proofs.YtcjhligknhpadaaDoorW.PrintLast.pure_ (i := 11) (N := some 30) (v := ?_) (a' := ?_) #[true, true, false, false, true, true, true, true, true, true, true, true, false, false, false, false] rfl rfl (by kernel_rfl) (fun _ _ _ h => h) (Or.inl ⟨by rfl, ?_⟩) ?_ ?_
  rotate_left
  · intro w'
    go_simp
    with_reducible rfl
  rotate_left
  · simp only [Act.put, List.setIfInBounds_toArray, List.set_cons_zero, List.set_cons_succ, Go.Proofs.YtcjhligknhpadaaDoorW.PrintLast.i64_w, Go.Proofs.YtcjhligknhpadaaDoorW.PrintLast.i32_w]
    rfl
  refine Go.Proofs.YtcjhligknhpadaaDoorW.PrintLast.take_ (i := 12) (N := some 31) (v := ?_) (a' := ?_) #[true, true, false, false, true, true, true, true, true, true, true, true, true, false, false, false] rfl rfl (by kernel_rfl) (fun _ _ _ h => h) (Or.inl ⟨by rfl, ?_⟩) hHeld ?_ ?_
  rotate_left
  · rintro w' ⟨s0, s1⟩
    go_simp
    with_reducible rfl
  rotate_left
  · simp only [Act.put, List.setIfInBounds_toArray, List.set_cons_zero, List.set_cons_succ, Go.Proofs.YtcjhligknhpadaaDoorW.PrintLast.i64_w, Go.Proofs.YtcjhligknhpadaaDoorW.PrintLast.i32_w]
    rfl
  refine Go.Proofs.YtcjhligknhpadaaDoorW.PrintLast.pure_ (i := 13) (N := some 32) (v := ?_) (a' := ?_) #[true, true, false, false, true, true, true, true, true, true, true, true, true, true, false, false] rfl rfl (by kernel_rfl) (fun _ _ _ h => h) (Or.inl ⟨by rfl, ?_⟩) ?_ ?_
  rotate_left
  · intro w'
    go_simp
    with_reducible rfl
  rotate_left
  · simp only [Act.put, List.setIfInBounds_toArray, List.set_cons_zero, List.set_cons_succ, Go.Proofs.YtcjhligknhpadaaDoorW.PrintLast.i64_w, Go.Proofs.YtcjhligknhpadaaDoorW.PrintLast.i32_w]
    rfl
  refine Go.Proofs.YtcjhligknhpadaaDoorW.PrintLast.one_ (i := 2) (N := some 21) #[true, true, true, false, true, true, true, true, true, true, true, true, true, true, false, false] rfl rfl (by kernel_rfl) (by decide) (fun K hK => ?_)
  refine Go.Proofs.YtcjhligknhpadaaDoorW.PrintLast.goes_ Tryd.func34 (by kernel_rfl) rfl #[.int .i64 n] (by rfl) rfl rfl (by (try simp only [List.map_toArray, List.map_cons, List.map_nil]); first | done | rfl) ?_
  refine (padded_any n _ (by omega)).mono ?_
  rintro e w2 ⟨rfl, rfl⟩
  refine ⟨_, rfl, ?_⟩
  refine hK.out _ _ hHeld (fun hHeld => ?_)
  clear hK K
  refine Go.Proofs.YtcjhligknhpadaaDoorW.PrintLast.norm_ (a' := ?_) ?_ ?_
  rotate_left
  · show Act.put _ (some 21) _ = _
    simp only [Act.put, List.setIfInBounds_toArray, List.set_cons_zero, List.set_cons_succ, Go.Proofs.YtcjhligknhpadaaDoorW.PrintLast.i64_w, Go.Proofs.YtcjhligknhpadaaDoorW.PrintLast.i32_w]
    rfl
  refine Go.Proofs.YtcjhligknhpadaaDoorW.PrintLast.pure_ (i := 3) (N := some 22) (v := ?_) (a' := ?_) #[true, true, true, true, true, true, true, true, true, true, true, true, true, true, false, false] rfl rfl (by kernel_rfl) (fun _ _ _ h => h) (Or.inl ⟨by rfl, ?_⟩) ?_ ?_
  rotate_left
  · intro w'
    go_simp
    with_reducible rfl
  rotate_left
  · simp only [Act.put, List.setIfInBounds_toArray, List.set_cons_zero, List.set_cons_succ, Go.Proofs.YtcjhligknhpadaaDoorW.PrintLast.i64_w, Go.Proofs.YtcjhligknhpadaaDoorW.PrintLast.i32_w]
    rfl
  refine Go.Proofs.YtcjhligknhpadaaDoorW.PrintLast.pure_ (i := 14) (N := some 33) (v := ?_) (a' := ?_) #[true, true, true, true, true, true, true, true, true, true, true, true, true, true, true, false] rfl rfl (by kernel_rfl) (fun _ _ _ h => h) (Or.inl ⟨by rfl, ?_⟩) ?_ ?_
  rotate_left
  · intro w'
    go_simp
    with_reducible rfl
  rotate_left
  · simp only [Act.put, List.setIfInBounds_toArray, List.set_cons_zero, List.set_cons_succ, Go.Proofs.YtcjhligknhpadaaDoorW.PrintLast.i64_w, Go.Proofs.YtcjhligknhpadaaDoorW.PrintLast.i32_w]
    rfl
  refine Go.Proofs.YtcjhligknhpadaaDoorW.PrintLast.pure_ (i := 15) (N := some 18) (v := ?_) (a' := ?_) #[true, true, true, true, true, true, true, true, true, true, true, true, true, true, true, true] rfl rfl (by kernel_rfl) (fun _ _ _ h => h) (Or.inl ⟨by rfl, ?_⟩) ?_ ?_
  rotate_left
  · intro w'
    go_simp
    with_reducible rfl
  rotate_left
  · simp only [Act.put, List.setIfInBounds_toArray, List.set_cons_zero, List.set_cons_succ, Go.Proofs.YtcjhligknhpadaaDoorW.PrintLast.i64_w, Go.Proofs.YtcjhligknhpadaaDoorW.PrintLast.i32_w]
    rfl
  refine Go.Proofs.YtcjhligknhpadaaDoorW.PrintLast.done_ (by kernel_rfl) ?_
  go_wp2_with fail
  refine Go.Proofs.YtcjhligknhpadaaDoorW.PrintLast.start_ (n := 10) (S := fun v => v.cell? ⟨P, 5, none⟩ = some (.int .i64 fn) ∧ v.cell? ⟨P, 6, none⟩ = some (.slice (some ⟨I, 0, none⟩) (S * 128) (S * 128))) (ds := [9]) #[false, false, false, false, false, false, false, false, false, false] (by kernel_rfl) rfl rfl ⟨c5, c6⟩ (fun hHeld => ?_)
  refine Go.Proofs.YtcjhligknhpadaaDoorW.PrintLast.pure_ (i := 0) (N := some 34) (v := ?_) (a' := ?_) #[true, false, false, false, false, false, false, false, false, false] rfl rfl (by kernel_rfl) (fun _ _ _ h => h) (Or.inl ⟨by rfl, ?_⟩) ?_ ?_
  rotate_left
  · intro w'
    go_simp
    with_reducible rfl
  rotate_left
  · simp only [Act.put, List.setIfInBounds_toArray, List.set_cons_zero, List.set_cons_succ, Go.Proofs.YtcjhligknhpadaaDoorW.PrintLast.i64_w, Go.Proofs.YtcjhligknhpadaaDoorW.PrintLast.i32_w]
    rfl
  refine Go.Proofs.YtcjhligknhpadaaDoorW.PrintLast.pure_ (i := 1) (N := some 35) (v := ?_) (a' := ?_) #[true, true, false, false, false, false, false, false, false, false] rfl rfl (by kernel_rfl) (fun _ _ _ h => h) (Or.inl ⟨by rfl, ?_⟩) ?_ ?_
  rotate_left
  · intro w'
    go_simp
    with_reducible rfl
  rotate_left
  · simp only [Act.put, List.setIfInBounds_toArray, List.set_cons_zero, List.set_cons_succ, Go.Proofs.YtcjhligknhpadaaDoorW.PrintLast.i64_w, Go.Proofs.YtcjhligknhpadaaDoorW.PrintLast.i32_w]
    rfl
  refine Go.Proofs.YtcjhligknhpadaaDoorW.PrintLast.pure_ (i := 2) (N := some 36) (v := ?_) (a' := ?_) #[true, true, true, false, false, false, false, false, false, false] rfl rfl (by kernel_rfl) (fun _ _ _ h => h) (Or.inl ⟨by rfl, ?_⟩) ?_ ?_
  rotate_left
  · intro w'
    go_simp
    with_reducible rfl
  rotate_left
  · simp only [Act.put, List.setIfInBounds_toArray, List.set_cons_zero, List.set_cons_succ, Go.Proofs.YtcjhligknhpadaaDoorW.PrintLast.i64_w, Go.Proofs.YtcjhligknhpadaaDoorW.PrintLast.i32_w]
    rfl
  refine Go.Proofs.YtcjhligknhpadaaDoorW.PrintLast.take_ (i := 3) (N := some 37) (v := ?_) (a' := ?_) #[true, true, true, true, false, false, false, false, false, false] rfl rfl (by kernel_rfl) (fun _ _ _ h => h) (Or.inl ⟨by rfl, ?_⟩) hHeld ?_ ?_
  rotate_left
  · rintro w' ⟨s0, s1⟩
    go_simp
    with_reducible rfl
  rotate_left
  · simp only [Act.put, List.setIfInBounds_toArray, List.set_cons_zero, List.set_cons_succ, Go.Proofs.YtcjhligknhpadaaDoorW.PrintLast.i64_w, Go.Proofs.YtcjhligknhpadaaDoorW.PrintLast.i32_w]
    rfl
  refine Go.Proofs.YtcjhligknhpadaaDoorW.PrintLast.pure_ (i := 4) (N := some 38) (v := ?_) (a' := ?_) #[true, true, true, true, true, false, false, false, false, false] rfl rfl (by kernel_rfl) (fun _ _ _ h => h) (Or.inl ⟨by rfl, ?_⟩) ?_ ?_
  rotate_left
  · intro w'
    go_simp
    with_reducible rfl
  rotate_left
  · simp only [Act.put, List.setIfInBounds_toArray, List.set_cons_zero, List.set_cons_succ, Go.Proofs.YtcjhligknhpadaaDoorW.PrintLast.i64_w, Go.Proofs.YtcjhligknhpadaaDoorW.PrintLast.i32_w]
    rfl
  refine Go.Proofs.YtcjhligknhpadaaDoorW.PrintLast.pure_ (i := 5) (N := some 39) (v := ?_) (a' := ?_) #[true, true, true, true, true, true, false, false, false, false] rfl rfl (by kernel_rfl) (fun _ _ _ h => h) (Or.inl ⟨by rfl, ?_⟩) ?_ ?_
  rotate_left
  · intro w'
    go_simp
    with_reducible rfl
  rotate_left
  · simp only [Act.put, List.setIfInBounds_toArray, List.set_cons_zero, List.set_cons_succ, Go.Proofs.YtcjhligknhpadaaDoorW.PrintLast.i64_w, Go.Proofs.YtcjhligknhpadaaDoorW.PrintLast.i32_w]
    rfl
  refine Go.Proofs.YtcjhligknhpadaaDoorW.PrintLast.pure_ (i := 6) (N := some 40) (v := ?_) (a' := ?_) #[true, true, true, true, true, true, true, false, false, false] rfl rfl (by kernel_rfl) (fun _ _ _ h => h) (Or.inl ⟨by rfl, ?_⟩) ?_ ?_
  rotate_left
  · intro w'
    go_simp
    with_reducible rfl
  rotate_left
  · simp only [Act.put, List.setIfInBounds_toArray, List.set_cons_zero, List.set_cons_succ, Go.Proofs.YtcjhligknhpadaaDoorW.PrintLast.i64_w, Go.Proofs.YtcjhligknhpadaaDoorW.PrintLast.i32_w]
    rfl
  refine Go.Proofs.YtcjhligknhpadaaDoorW.PrintLast.take_ (i := 7) (N := some 41) (v := ?_) (a' := ?_) #[true, true, true, true, true, true, true, true, false, false] rfl rfl (by kernel_rfl) (fun _ _ _ h => h) (Or.inl ⟨by rfl, ?_⟩) hHeld ?_ ?_
  rotate_left
  · rintro w' ⟨s0, s1⟩
    go_simp
    with_reducible rfl
  rotate_left
  · simp only [Act.put, List.setIfInBounds_toArray, List.set_cons_zero, List.set_cons_succ, Go.Proofs.YtcjhligknhpadaaDoorW.PrintLast.i64_w, Go.Proofs.YtcjhligknhpadaaDoorW.PrintLast.i32_w]
    rfl
  refine Go.Proofs.YtcjhligknhpadaaDoorW.PrintLast.pure_ (i := 8) (N := some 42) (v := ?_) (a' := ?_) #[true, true, true, true, true, true, true, true, true, false] rfl rfl (by kernel_rfl) (fun _ _ _ h => h) (Or.inl ⟨by rfl, ?_⟩) ?_ ?_
  rotate_left
  · intro w'
    go_simp
    with_reducible rfl
  rotate_left
  · simp only [Act.put, List.setIfInBounds_toArray, List.set_cons_zero, List.set_cons_succ, Go.Proofs.YtcjhligknhpadaaDoorW.PrintLast.i64_w, Go.Proofs.YtcjhligknhpadaaDoorW.PrintLast.i32_w]
    rfl
  refine Go.Proofs.YtcjhligknhpadaaDoorW.PrintLast.pure_ (i := 9) (N := some 5) (v := ?_) (a' := ?_) #[true, true, true, true, true, true, true, true, true, true] rfl rfl (by kernel_rfl) (fun _ _ _ h => h) (Or.inl ⟨by rfl, ?_⟩) ?_ ?_
  rotate_left
  · intro w'
    go_simp
    with_reducible rfl
  rotate_left
  · simp only [Act.put, List.setIfInBounds_toArray, List.set_cons_zero, List.set_cons_succ, Go.Proofs.YtcjhligknhpadaaDoorW.PrintLast.i64_w, Go.Proofs.YtcjhligknhpadaaDoorW.PrintLast.i32_w]
    rfl
  refine Go.Proofs.YtcjhligknhpadaaDoorW.PrintLast.done_ (by kernel_rfl) ?_
  go_wp2_with fail
  refine (put_four I fn _ (n : Int) (l.img.map (Value.int .u8)) w.drew.drew HI.out (by have := HLEN.out; rw [List.length_map]; omega) (by omega) (by omega)).mono ?_
  rintro e w1 ⟨rfl, hw1⟩
  have hI1 : w1.heap[I]? = some (.cells ((splice l.img fn (putF 4 n)).map (Value.int .u8)).toArray 5 (0, 0)) := by
    rw [hw1, ← map_splice]
    exact sets_at I 5 _ fn _ _ HI.out (by have := HLEN.out; simp only [List.length_map, putF_len]; omega)
  have ho1 : Only I w w1 := by
    rw [hw1]
    exact Only.trans (w1 := w.drew.drew) ⟨rfl, rfl, rfl, rfl, fun _ _ => rfl⟩ (Only.sets I _ fn _)
  clear hw1
  have s1 : ∀ j, j < n → w1.cell? ⟨bg, bo + j, none⟩ = some (.int .u8 (b.getD j 0)) := fun j hj => by
    have q := HB.out j hj
    simp only [World.cell?, ho1.same bg hbI] at q ⊢
    exact q
  have s0 : Tab w1 := fun j hj => by
    have q := HT.out j hj
    simp only [World.cell?, ho1.same 0 (Ne.symm hI0)] at q ⊢
    exact q
  have HO1 := Lib.hid ho1
  have HCS := Lib.hid (crcF_rng b)
  generalize hcsd : crcF b = cs at HCS
  have HCSD := Lib.hid hcsd
  generalize hc1d : (splice l.img fn (putF 4 n)).map (Value.int .u8) = cur1 at hI1
  have HC1 := Lib.hid (show cur1.length = S * 128 by rw [← hc1d, List.length_map, length_splice _ _ _ (by have := HLEN.out; rw [putF_len]; omega), HLEN.out])
  have HC1D := Lib.hid hc1d
  have s2 := hI1
  clear ho1 hI1 hcsd hc1d
  have e9 : IntKind.u64.wrap cs = cs := wraps64 cs HCS.out.1 (by have := HCS.out.2; omega)
  have e10 : cs % 18446744073709551616 = cs := by have := HCS.out; omega
  have e11 := HCS.out.1
  have e12 : cs < 18446744073709551616 := by have := HCS.out; omega
  go_wp2_with fail
  refine Go.Proofs.YtcjhligknhpadaaDoorW.PrintLast.start_ (n := 6) (S := fun v => Tab v ∧ (∀ j, j < n → v.cell? ⟨bg, bo + j, none⟩ = some (.int .u8 (b.getD j 0))) ∧ v.heap[I]? = some (.cells cur1.toArray 5 (0, 0))) (ds := [5]) #[false, false, false, false, false, false] (by kernel_rfl) rfl rfl ⟨s0, s1, s2⟩ (fun hHeld => ?_)
  refine Go.Proofs.YtcjhligknhpadaaDoorW.PrintLast.pure_ (i := 0) (N := some 49) (v := ?_) (a' := ?_) #[true, false, false, false, false, false] rfl rfl (by kernel_rfl) (fun _ _ _ h => h) (Or.inl ⟨by rfl, ?_⟩) ?_ ?_
  rotate_left
  · intro w'
    go_simp
    with_reducible rfl
  rotate_left
  · simp only [Act.put, List.setIfInBounds_toArray, List.set_cons_zero, List.set_cons_succ, Go.Proofs.YtcjhligknhpadaaDoorW.PrintLast.i64_w, Go.Proofs.YtcjhligknhpadaaDoorW.PrintLast.i32_w]
    rfl
  refine Go.Proofs.YtcjhligknhpadaaDoorW.PrintLast.pure_ (i := 1) (N := some 50) (v := ?_) (a' := ?_) #[true, true, false, false, false, false] rfl rfl (by kernel_rfl) (fun _ _ _ h => h) (Or.inl ⟨by rfl, ?_⟩) ?_ ?_
  rotate_left
  · intro w'
    go_simp
    with_reducible rfl
  rotate_left
  · simp only [Act.put, List.setIfInBounds_toArray, List.set_cons_zero, List.set_cons_succ, Go.Proofs.YtcjhligknhpadaaDoorW.PrintLast.i64_w, Go.Proofs.YtcjhligknhpadaaDoorW.PrintLast.i32_w]
    rfl
  refine Go.Proofs.YtcjhligknhpadaaDoorW.PrintLast.pure_ (i := 2) (N := some 51) (v := ?_) (a' := ?_) #[true, true, true, false, false, false] rfl rfl (by kernel_rfl) (fun _ _ _ h => h) (Or.inl ⟨by rfl, ?_⟩) ?_ ?_
  rotate_left
  · intro w'
    go_simp
    with_reducible rfl
  rotate_left
  · simp only [Act.put, List.setIfInBounds_toArray, List.set_cons_zero, List.set_cons_succ, Go.Proofs.YtcjhligknhpadaaDoorW.PrintLast.i64_w, Go.Proofs.YtcjhligknhpadaaDoorW.PrintLast.i32_w]
    rfl
  refine Go.Proofs.YtcjhligknhpadaaDoorW.PrintLast.one_ (i := 3) (N := some 52) #[true, true, true, true, false, false] rfl rfl (by kernel_rfl) (by decide) (fun K hK => ?_)
  refine Go.Proofs.YtcjhligknhpadaaDoorW.PrintLast.goes_ Tryd.func35 (by kernel_rfl) rfl #[.slice (some ⟨bg, bo, none⟩) n c] (by rfl) rfl rfl (by (try simp only [List.map_toArray, List.map_cons, List.map_nil]); first | done | rfl) ?_
  have hsum := sum_any bg bo c b _ hHeld.1 (by have := HBN.out; omega) (fun j hj => hHeld.2.1 j (by have := HBN.out; omega)) HBY.out
  rw [HBN.out, HCSD.out] at hsum
  refine hsum.mono ?_
  rintro e w2 ⟨rfl, rfl⟩
  refine ⟨_, rfl, ?_⟩
  refine hK.out _ _ hHeld (fun hHeld => ?_)
  clear hK K
  refine Go.Proofs.YtcjhligknhpadaaDoorW.PrintLast.norm_ (a' := ?_) ?_ ?_
  rotate_left
  · show Act.put _ (some 52) _ = _
    simp only [Act.put, List.setIfInBounds_toArray, List.set_cons_zero, List.set_cons_succ, Go.Proofs.YtcjhligknhpadaaDoorW.PrintLast.i64_w, Go.Proofs.YtcjhligknhpadaaDoorW.PrintLast.i32_w]
    rfl
  refine Go.Proofs.YtcjhligknhpadaaDoorW.PrintLast.pure_ (i := 4) (N := some 53) (v := ?_) (a' := ?_) #[true, true, true, true, true, false] rfl rfl (by kernel_rfl) (fun _ _ _ h => h) (Or.inl ⟨by rfl, ?_⟩) ?_ ?_
  rotate_left
  · intro w'
    go_simp
    with_reducible rfl
  rotate_left
  · simp only [Act.put, List.setIfInBounds_toArray, List.set_cons_zero, List.set_cons_succ, Go.Proofs.YtcjhligknhpadaaDoorW.PrintLast.i64_w, Go.Proofs.YtcjhligknhpadaaDoorW.PrintLast.i32_w]
    rfl
  refine Go.Proofs.YtcjhligknhpadaaDoorW.PrintLast.last_ (i := 5) (N := some 54) #[true, true, true, true, true, true] rfl rfl (by kernel_rfl) (by decide) (fun K hK => ?_)
  refine Go.Proofs.YtcjhligknhpadaaDoorW.PrintLast.goes_ Tryd.func38 (by kernel_rfl) rfl #[.slice (some ⟨I, fn + 4, none⟩) 4 (S * 128 - fn - 4), .int .u64 cs] (by rfl) rfl rfl (by (try simp only [List.map_toArray, List.map_cons, List.map_nil]); first | done | rfl) ?_
  refine (put_four I (fn + 4) _ cs cur1 _ hHeld.2.2 (by have := HC1.out; omega) HCS.out.1 HCS.out.2).mono ?_
  rintro e w2 ⟨rfl, hw2⟩
  have HW2 := Lib.hid hw2
  clear hw2
  refine ⟨_, rfl, ?_⟩
  refine hK.out _ _ ?_
  clear hK K
  refine Go.Proofs.YtcjhligknhpadaaDoorW.PrintLast.norm_ (a' := ?_) ?_ ?_
  rotate_left
  · show Act.put _ (some 54) _ = _
    simp only [Act.put, List.setIfInBounds_toArray, List.set_cons_zero, List.set_cons_succ, Go.Proofs.YtcjhligknhpadaaDoorW.PrintLast.i64_w, Go.Proofs.YtcjhligknhpadaaDoorW.PrintLast.i32_w]
    rfl
  refine Go.Proofs.YtcjhligknhpadaaDoorW.PrintLast.done_ (by kernel_rfl) ?_
  have hI2 : w2.heap[I]? = some (.cells (splice cur1 (fn + 4) ((putF 4 cs).map (Value.int .u8))).toArray 5 (0, 0)) := by
    rw [HW2.out]
    exact sets_at I 5 _ (fn + 4) _ cur1 s2 (by have := HC1.out; simp only [List.length_map, putF_len]; omega)
  have ho2 : Only I w1 w2 := by
    rw [HW2.out]
    exact Only.trans (w1 := w1.drew) ⟨rfl, rfl, rfl, rfl, fun _ _ => rfl⟩ (Only.sets I _ (fn + 4) _)
  have s1' : ∀ j, j < n → w2.cell? ⟨bg, bo + j, none⟩ = some (.int .u8 (b.getD j 0)) := fun j hj => by
    have q := s1 j hj
    simp only [World.cell?, ho2.same bg hbI] at q ⊢
    exact q
  generalize hc2d : splice cur1 (fn + 4) ((putF 4 cs).map (Value.int .u8)) = cur2 at hI2
  have HC2D := Lib.hid hc2d
  have HC2 := Lib.hid (show cur2.length = S * 128 by rw [← hc2d, length_splice _ _ _ (by have := HC1.out; simp only [List.length_map, putF_len]; omega), HC1.out])
  have HO2 := Lib.hid (HO1.out.trans ho2)
  have HI2 := Lib.hid hI2
  have HS1 := Lib.hid s1'
  clear hI2 ho2 hc2d s0 s1 s2 HW2 s1'
  go_wp2_with (with_reducible refine copy_only rfl (.tmp 56) (.tmp 57) 22 22 rfl 5 Tryd.underlying22 (by kernel_rfl) I (fn + 8) (S * 128 - fn - 8) (S * 128 - fn - 8) ⟨bg, bo, none⟩ n c rfl rfl cur2 5 ?g0 (b.map (Value.int .u8)) ?g1 ?g2 ?g3 ?g4 ?_)
  case g0 => exact HI2.out
  case g1 => rw [List.length_map, HBN.out]; exact (Nat.min_eq_left (by omega)).symm
  case g2 =>
    intro j v hj
    rw [List.getElem?_map] at hj
    have hjn : j < n := by
      apply Classical.byContradiction
      intro q
      rw [List.getElem?_eq_none (by have := HBN.out; omega)] at hj
      cases hj
    have e := HS1.out j hjn
    rw [List.getD_eq_getElem?_getD] at e
    rw [add_in (.inr rfl), e]
    rw [List.getElem?_eq_getElem (by have := HBN.out; omega)] at hj ⊢
    exact hj
  case g3 => have := HC2.out; have h2 := HBN.out; simp only [List.length_map]; omega
  case g4 => intro v hv; obtain ⟨x, _, rfl⟩ := List.mem_map.1 hv; rfl
  intro w3 hI3 hO3
  have hO := HO2.out.trans hO3.out
  have hlg : LgAt base w3 P D I rv { l with img := putAt l.img fn b } := by
    refine HL.out.turn hO ?_ ?_ ?_
    · rw [hI3.out, ← HC2D.out, ← HC1D.out, map_splice, ← HCSD.out, map_splice]
      unfold putAt
      rw [HBN.out]
    · unfold putAt
      exact splice_by (splice_by (splice_by HL.out.by_ (putF_by _ _) _) (putF_by _ _) _) HBY.out _
    · have h1 := HLEN.out
      have h2 := HBN.out
      unfold putAt
      rw [length_splice _ _ _ (by rw [length_splice _ _ _ (by rw [length_splice _ _ _ (by rw [putF_len]; omega), putF_len]; omega), length_splice _ _ _ (by rw [putF_len]; omega)]; omega), length_splice _ _ _ (by rw [length_splice _ _ _ (by rw [putF_len]; omega), putF_len]; omega), length_splice _ _ _ (by rw [putF_len]; omega), HSD.out, h1]
  have HLG := Lib.hid hlg
  have HO3 := Lib.hid hO
  have c5' : w3.cell? ⟨P, 5, none⟩ = some (.int .i64 fn) := by have q := hlg.cells.2.2.2.2.2.1; rw [← HFD.out]; exact q
  have f5' : w3.frozen? ⟨P, 5, none⟩ = false := free_of hlg.hP
  have e13 : IntKind.i64.wrap ((fn : Int) + (8 + (pad n : Int))) = (fn : Int) + (8 + (pad n : Int)) := IntWalk.i64_in _ (by omega)
  clear hI3 hO3 hO hlg HI2
  go_wp2_with fail
  refine Go.Proofs.YtcjhligknhpadaaDoorW.PrintLast.start_ (n := 12) (S := fun v => v.cell? ⟨P, 5, none⟩ = some (.int .i64 fn)) (ds := [11]) #[false, false, false, false, false, false, false, false, false, false, false, false] (by kernel_rfl) rfl rfl c5' (fun hHeld => ?_)
  refine Go.Proofs.YtcjhligknhpadaaDoorW.PrintLast.pure_ (i := 0) (N := some 59) (v := ?_) (a' := ?_) #[true, false, false, false, false, false, false, false, false, false, false, false] rfl rfl (by kernel_rfl) (fun _ _ _ h => h) (Or.inl ⟨by rfl, ?_⟩) ?_ ?_
  rotate_left
  · intro w'
    go_simp
    with_reducible rfl
  rotate_left
  · simp only [Act.put, List.setIfInBounds_toArray, List.set_cons_zero, List.set_cons_succ, Go.Proofs.YtcjhligknhpadaaDoorW.PrintLast.i64_w, Go.Proofs.YtcjhligknhpadaaDoorW.PrintLast.i32_w]
    rfl
  refine Go.Proofs.YtcjhligknhpadaaDoorW.PrintLast.pure_ (i := 1) (N := some 60) (v := ?_) (a' := ?_) #[true, true, false, false, false, false, false, false, false, false, false, false] rfl rfl (by kernel_rfl) (fun _ _ _ h => h) (Or.inl ⟨by rfl, ?_⟩) ?_ ?_
  rotate_left
  · intro w'
    go_simp
    with_reducible rfl
  rotate_left
  · simp only [Act.put, List.setIfInBounds_toArray, List.set_cons_zero, List.set_cons_succ, Go.Proofs.YtcjhligknhpadaaDoorW.PrintLast.i64_w, Go.Proofs.YtcjhligknhpadaaDoorW.PrintLast.i32_w]
    rfl
  refine Go.Proofs.YtcjhligknhpadaaDoorW.PrintLast.pure_ (i := 2) (N := some 61) (v := ?_) (a' := ?_) #[true, true, true, false, false, false, false, false, false, false, false, false] rfl rfl (by kernel_rfl) (fun _ _ _ h => h) (Or.inl ⟨by rfl, ?_⟩) ?_ ?_
  rotate_left
  · intro w'
    go_simp
    with_reducible rfl
  rotate_left
  · simp only [Act.put, List.setIfInBounds_toArray, List.set_cons_zero, List.set_cons_succ, Go.Proofs.YtcjhligknhpadaaDoorW.PrintLast.i64_w, Go.Proofs.YtcjhligknhpadaaDoorW.PrintLast.i32_w]
    rfl
  refine Go.Proofs.YtcjhligknhpadaaDoorW.PrintLast.take_ (i := 3) (N := some 62) (v := ?_) (a' := ?_) #[true, true, true, true, false, false, false, false, false, false, false, false] rfl rfl (by kernel_rfl) (fun _ _ _ h => h) (Or.inl ⟨by rfl, ?_⟩) hHeld ?_ ?_
  rotate_left
  · rintro w' c5q
    go_simp
    with_reducible rfl
  rotate_left
  · simp only [Act.put, List.setIfInBounds_toArray, List.set_cons_zero, List.set_cons_succ, Go.Proofs.YtcjhligknhpadaaDoorW.PrintLast.i64_w, Go.Proofs.YtcjhligknhpadaaDoorW.PrintLast.i32_w]
    rfl
  refine Go.Proofs.YtcjhligknhpadaaDoorW.PrintLast.pure_ (i := 4) (N := some 63) (v := ?_) (a' := ?_) #[true, true, true, true, true, false, false, false, false, false, false, false] rfl rfl (by kernel_rfl) (fun _ _ _ h => h) (Or.inl ⟨by rfl, ?_⟩) ?_ ?_
  rotate_left
  · intro w'
    go_simp
    with_reducible rfl
  rotate_left
  · simp only [Act.put, List.setIfInBounds_toArray, List.set_cons_zero, List.set_cons_succ, Go.Proofs.YtcjhligknhpadaaDoorW.PrintLast.i64_w, Go.Proofs.YtcjhligknhpadaaDoorW.PrintLast.i32_w]
    rfl
  refine Go.Proofs.YtcjhligknhpadaaDoorW.PrintLast.take_ (i := 5) (N := some 64) (v := ?_) (a' := ?_) #[true, true, true, true, true, true, false, false, false, false, false, false] rfl rfl (by kernel_rfl) (fun _ _ _ h => h) (Or.inl ⟨by rfl, ?_⟩) hHeld ?_ ?_
  rotate_left
  · rintro w' c5q
    go_simp
    with_reducible rfl
  rotate_left
  · simp only [Act.put, List.setIfInBounds_toArray, List.set_cons_zero, List.set_cons_succ, Go.Proofs.YtcjhligknhpadaaDoorW.PrintLast.i64_w, Go.Proofs.YtcjhligknhpadaaDoorW.PrintLast.i32_w]
    rfl
  refine Go.Proofs.YtcjhligknhpadaaDoorW.PrintLast.one_ (i := 6) (N := some 65) #[true, true, true, true, true, true, true, false, false, false, false, false] rfl rfl (by kernel_rfl) (by decide) (fun K hK => ?_)
  refine Go.Proofs.YtcjhligknhpadaaDoorW.PrintLast.goes_ Tryd.func34 (by kernel_rfl) rfl #[.int .i64 n] (by rfl) rfl rfl (by (try simp only [List.map_toArray, List.map_cons, List.map_nil]); first | done | rfl) ?_
  refine (padded_any n _ (by omega)).mono ?_
  rintro e w4 ⟨rfl, rfl⟩
  refine ⟨_, rfl, ?_⟩
  refine hK.out _ _ hHeld (fun hHeld => ?_)
  clear hK K
  refine Go.Proofs.YtcjhligknhpadaaDoorW.PrintLast.norm_ (a' := ?_) ?_ ?_
  rotate_left
  · show Act.put _ (some 65) _ = _
    simp only [Act.put, List.setIfInBounds_toArray, List.set_cons_zero, List.set_cons_succ, Go.Proofs.YtcjhligknhpadaaDoorW.PrintLast.i64_w, Go.Proofs.YtcjhligknhpadaaDoorW.PrintLast.i32_w]
    rfl
  refine Go.Proofs.YtcjhligknhpadaaDoorW.PrintLast.pure_ (i := 7) (N := some 66) (v := ?_) (a' := ?_) #[true, true, true, true, true, true, true, true, false, false, false, false] rfl rfl (by kernel_rfl) (fun _ _ _ h => h) (Or.inl ⟨by rfl, ?_⟩) ?_ ?_
  rotate_left
  · intro w'
    go_simp
    with_reducible rfl
  rotate_left
  · simp only [Act.put, List.setIfInBounds_toArray, List.set_cons_zero, List.set_cons_succ, Go.Proofs.YtcjhligknhpadaaDoorW.PrintLast.i64_w, Go.Proofs.YtcjhligknhpadaaDoorW.PrintLast.i32_w]
    rfl
  refine Go.Proofs.YtcjhligknhpadaaDoorW.PrintLast.pure_ (i := 8) (N := some 67) (v := ?_) (a' := ?_) #[true, true, true, true, true, true, true, true, true, false, false, false] rfl rfl (by kernel_rfl) (fun _ _ _ h => h) (Or.inl ⟨by rfl, ?_⟩) ?_ ?_
  rotate_left
  · intro w'
    go_simp
    with_reducible rfl
  rotate_left
  · simp only [Act.put, List.setIfInBounds_toArray, List.set_cons_zero, List.set_cons_succ, Go.Proofs.YtcjhligknhpadaaDoorW.PrintLast.i64_w, Go.Proofs.YtcjhligknhpadaaDoorW.PrintLast.i32_w]
    rfl
  refine Go.Proofs.YtcjhligknhpadaaDoorW.PrintLast.pure_ (i := 9) (N := some 68) (v := ?_) (a' := ?_) #[true, true, true, true, true, true, true, true, true, true, false, false] rfl rfl (by kernel_rfl) (fun _ _ _ h => h) (Or.inl ⟨by rfl, ?_⟩) ?_ ?_
  rotate_left
  · intro w'
    go_simp
    with_reducible rfl
  rotate_left
  · simp only [Act.put, List.setIfInBounds_toArray, List.set_cons_zero, List.set_cons_succ, Go.Proofs.YtcjhligknhpadaaDoorW.PrintLast.i64_w, Go.Proofs.YtcjhligknhpadaaDoorW.PrintLast.i32_w]
    rfl
  refine Go.Proofs.YtcjhligknhpadaaDoorW.PrintLast.pure_ (i := 10) (N := some 69) (v := ?_) (a' := ?_) #[true, true, true, true, true, true, true, true, true, true, true, false] rfl rfl (by kernel_rfl) (fun _ _ _ h => h) (Or.inl ⟨by rfl, ?_⟩) ?_ ?_
  rotate_left
  · intro w'
    go_simp
    with_reducible rfl
  rotate_left
  · simp only [Act.put, List.setIfInBounds_toArray, List.set_cons_zero, List.set_cons_succ, Go.Proofs.YtcjhligknhpadaaDoorW.PrintLast.i64_w, Go.Proofs.YtcjhligknhpadaaDoorW.PrintLast.i32_w]
    rfl
  refine Go.Proofs.YtcjhligknhpadaaDoorW.PrintLast.last_ (i := 11) (N := none) #[true, true, true, true, true, true, true, true, true, true, true, true] rfl rfl (by kernel_rfl) (by decide) (fun K hK => ?_)
  refine Go.Proofs.YtcjhligknhpadaaDoorW.PrintLast.skip_ (w1 := w3.drew.setCell ⟨P, 5, none⟩ (.int .i64 ((fn : Int) + (8 + (pad n : Int))))) (by rfl) rfl (by go_simp) ?_
  refine hK.out _ _ ?_
  clear hK K
  refine Go.Proofs.YtcjhligknhpadaaDoorW.PrintLast.done_ (by kernel_rfl) ?_
  go_wp2_with fail
  have hlg5 := LgAt.end_ (w := w3.drew) (HLG.out.below (Below.refl _ _).drew) (fn + (8 + pad n))
  rw [show ((fn + (8 + pad n) : Nat) : Int) = (fn : Int) + (8 + (pad n : Int)) by omega] at hlg5
  have ho5 : Only P w3 (w3.drew.setCell ⟨P, 5, none⟩ (.int .i64 ((fn : Int) + (8 + (pad n : Int))))) := Only.trans (w1 := w3.drew) ⟨rfl, rfl, rfl, rfl, fun _ _ => rfl⟩ (Only.set _ _ _ _)
  have s4 : ∀ j, j < n → (w3.drew.setCell ⟨P, 5, none⟩ (.int .i64 ((fn : Int) + (8 + (pad n : Int))))).cell? ⟨bg, bo + j, none⟩ = some (.int .u8 (b.getD j 0)) := fun j hj => by
    have q := HB.out j hj
    simp only [World.cell?, ho5.same bg hbP, HO3.out.same bg hbI] at q ⊢
    exact q
  have hsz4 : (w3.drew.setCell ⟨P, 5, none⟩ (.int .i64 ((fn : Int) + (8 + (pad n : Int))))).heap.size = w.heap.size := by rw [ho5.size, HO3.out.size]
  have hch4 : LKeep (LgOwn P I rv) w (w3.drew.setCell ⟨P, 5, none⟩ (.int .i64 ((fn : Int) + (8 + (pad n : Int))))) := (LKeep.only HO3.out (.inr (.inl rfl))).trans (LKeep.only (S := LgOwn P I rv) ho5 (.inl rfl)) (fun i _ h => h)
  generalize w3.drew.setCell ⟨P, 5, none⟩ (.int .i64 ((fn : Int) + (8 + (pad n : Int)))) = w4 at hlg5 ho5 s4 hsz4 hch4 ⊢
  have hlg6 := hlg5.below (Below.refl _ w4).drew
  obtain ⟨vs, hv1, hv2, hv3⟩ := hlg6.hR
  have HCH4 := Lib.hid hch4
  have HSZ4 := Lib.hid hsz4
  have HL4 := Lib.hid hlg6
  have HVL := Lib.hid hv1
  have HVB := Lib.hid (And.intro hv2 hv3)
  have HVS := Lib.hid hv3
  have HONE := Lib.hid (show ∀ (W : World) (v : Value), Byts W v b → v.oneCell' = true from fun W v h => by obtain ⟨a, c, rfl⟩ := byts_slice h; rfl)
  have HAV4 := Lib.hid (show ∀ g, w4.drew.heap.size ≤ g → ¬ av.bad g from fun g hg => HAV.out g (by rw [← hsz4]; exact hg))
  have HBS4 := Lib.hid (show base ≤ w4.drew.heap.size from by rw [show w4.drew.heap.size = w.heap.size from hsz4]; exact HBW.out)
  have HS4 := Lib.hid (show ∀ i, i < n → ∃ a, (some ⟨bg, bo, none⟩ : Option Addr) = some a ∧ w4.drew.cell? (a.add i) = some (.int .u8 (b.getD i 0)) from fun i hi => ⟨_, rfl, by rw [add_in (.inr rfl)]; exact s4 i hi⟩)
  have c3' : w4.drew.cell? ⟨P, 3, none⟩ = some rv := hlg6.cells.2.2.2.1
  clear hlg5 ho5 s4 hsz4 hch4 hlg6 hv1 hv2 hv3
  refine Go.Proofs.YtcjhligknhpadaaDoorW.PrintLast.start_ (n := 12) (S := fun v => v.cell? ⟨P, 3, none⟩ = some rv) (ds := [11]) #[false, false, false, false, false, false, false, false, false, false, false, false] (by kernel_rfl) rfl rfl c3' (fun hHeld => ?_)
  refine Go.Proofs.YtcjhligknhpadaaDoorW.PrintLast.pure_ (i := 0) (N := some 70) (v := ?_) (a' := ?_) #[true, false, false, false, false, false, false, false, false, false, false, false] rfl rfl (by kernel_rfl) (fun _ _ _ h => h) (Or.inl ⟨by rfl, ?_⟩) ?_ ?_
  rotate_left
  · intro w'
    go_simp
    with_reducible rfl
  rotate_left
  · simp only [Act.put, List.setIfInBounds_toArray, List.set_cons_zero, List.set_cons_succ, Go.Proofs.YtcjhligknhpadaaDoorW.PrintLast.i64_w, Go.Proofs.YtcjhligknhpadaaDoorW.PrintLast.i32_w]
    rfl
  refine Go.Proofs.YtcjhligknhpadaaDoorW.PrintLast.pure_ (i := 1) (N := some 71) (v := ?_) (a' := ?_) #[true, true, false, false, false, false, false, false, false, false, false, false] rfl rfl (by kernel_rfl) (fun _ _ _ h => h) (Or.inl ⟨by rfl, ?_⟩) ?_ ?_
  rotate_left
  · intro w'
    go_simp
    with_reducible rfl
  rotate_left
  · simp only [Act.put, List.setIfInBounds_toArray, List.set_cons_zero, List.set_cons_succ, Go.Proofs.YtcjhligknhpadaaDoorW.PrintLast.i64_w, Go.Proofs.YtcjhligknhpadaaDoorW.PrintLast.i32_w]
    rfl
  refine Go.Proofs.YtcjhligknhpadaaDoorW.PrintLast.pure_ (i := 2) (N := some 72) (v := ?_) (a' := ?_) #[true, true, true, false, false, false, false, false, false, false, false, false] rfl rfl (by kernel_rfl) (fun _ _ _ h => h) (Or.inl ⟨by rfl, ?_⟩) ?_ ?_
  rotate_left
  · intro w'
    go_simp
    with_reducible rfl
  rotate_left
  · simp only [Act.put, List.setIfInBounds_toArray, List.set_cons_zero, List.set_cons_succ, Go.Proofs.YtcjhligknhpadaaDoorW.PrintLast.i64_w, Go.Proofs.YtcjhligknhpadaaDoorW.PrintLast.i32_w]
    rfl
  refine Go.Proofs.YtcjhligknhpadaaDoorW.PrintLast.pure_ (i := 3) (N := some 73) (v := ?_) (a' := ?_) #[true, true, true, true, false, false, false, false, false, false, false, false] rfl rfl (by kernel_rfl) (fun _ _ _ h => h) (Or.inl ⟨by rfl, ?_⟩) ?_ ?_
  rotate_left
  · intro w'
    go_simp
    with_reducible rfl
  rotate_left
  · simp only [Act.put, List.setIfInBounds_toArray, List.set_cons_zero, List.set_cons_succ, Go.Proofs.YtcjhligknhpadaaDoorW.PrintLast.i64_w, Go.Proofs.YtcjhligknhpadaaDoorW.PrintLast.i32_w]
    rfl
  refine Go.Proofs.YtcjhligknhpadaaDoorW.PrintLast.take_ (i := 4) (N := some 74) (v := ?_) (a' := ?_) #[true, true, true, true, true, false, false, false, false, false, false, false] rfl rfl (by kernel_rfl) (fun _ _ _ h => h) (Or.inl ⟨by rfl, ?_⟩) hHeld ?_ ?_
  rotate_left
  · rintro w' c3q
    go_simp
    with_reducible rfl
  rotate_left
  · simp only [Act.put, List.setIfInBounds_toArray, List.set_cons_zero, List.set_cons_succ, Go.Proofs.YtcjhligknhpadaaDoorW.PrintLast.i64_w, Go.Proofs.YtcjhligknhpadaaDoorW.PrintLast.i32_w]
    rfl
  refine Go.Proofs.YtcjhligknhpadaaDoorW.PrintLast.pure_ (i := 5) (N := some 75) (v := ?_) (a' := ?_) #[true, true, true, true, true, true, false, false, false, false, false, false] rfl rfl (by kernel_rfl) (fun _ _ _ h => h) (Or.inl ⟨by rfl, ?_⟩) ?_ ?_
  rotate_left
  · intro w'
    go_simp
    with_reducible rfl
  rotate_left
  · simp only [Act.put, List.setIfInBounds_toArray, List.set_cons_zero, List.set_cons_succ, Go.Proofs.YtcjhligknhpadaaDoorW.PrintLast.i64_w, Go.Proofs.YtcjhligknhpadaaDoorW.PrintLast.i32_w]
    rfl
  refine Go.Proofs.YtcjhligknhpadaaDoorW.PrintLast.one_ (i := 6) (N := some 76) #[true, true, true, true, true, true, true, false, false, false, false, false] rfl rfl (by kernel_rfl) (by decide) (fun K hK => ?_)
  refine Go.Proofs.YtcjhligknhpadaaDoorW.PrintLast.goes_ Tryd.func37 (by kernel_rfl) rfl #[.slice (some ⟨bg, bo, none⟩) n c] (by rfl) rfl rfl (by (try simp only [List.map_toArray, List.map_cons, List.map_nil]); first | done | rfl) ?_
  refine (clone_bytes (some ⟨bg, bo, none⟩) n c b _ HBN.out (by omega) HAV4.out HBY.out HS4.out).mono ?_
  rintro e w5 ⟨bv, rfl, hbv, hb5⟩
  obtain ⟨ba, bc, rfl⟩ := byts_slice hbv
  have HBV := Lib.hid hbv
  have HB5 := Lib.hid hb5
  clear hbv hb5
  refine ⟨_, rfl, ?_⟩
  refine hK.out _ _ (cell_up hHeld HB5.out) (fun hHeld => ?_)
  clear hK K
  refine Go.Proofs.YtcjhligknhpadaaDoorW.PrintLast.norm_ (a' := ?_) ?_ ?_
  rotate_left
  · show Act.put _ (some 76) _ = _
    simp only [Act.put, List.setIfInBounds_toArray, List.set_cons_zero, List.set_cons_succ, Go.Proofs.YtcjhligknhpadaaDoorW.PrintLast.i64_w, Go.Proofs.YtcjhligknhpadaaDoorW.PrintLast.i32_w]
    rfl
  refine Go.Proofs.YtcjhligknhpadaaDoorW.PrintLast.one_ (i := 7) (N := some 77) #[true, true, true, true, true, true, true, true, false, false, false, false] rfl rfl (by kernel_rfl) (by decide) (fun K hK => ?_)
  refine Go.Proofs.YtcjhligknhpadaaDoorW.PrintLast.value_ (w1 := w5.alloc (.cells #[.slice ba b.length bc] 22)) (v := .slice (some ⟨w5.heap.size, 0, none⟩) 1 1) (by rfl) rfl (by go_simp) ?_
  have hHeld7 := hHeld
  refine hK.out _ _ (cell_al _ hHeld) (fun hHeld => ?_)
  clear hK K
  refine Go.Proofs.YtcjhligknhpadaaDoorW.PrintLast.norm_ (a' := ?_) ?_ ?_
  rotate_left
  · show Act.put _ (some 77) _ = _
    simp only [Act.put, List.setIfInBounds_toArray, List.set_cons_zero, List.set_cons_succ, Go.Proofs.YtcjhligknhpadaaDoorW.PrintLast.i64_w, Go.Proofs.YtcjhligknhpadaaDoorW.PrintLast.i32_w]
    rfl
  refine Go.Proofs.YtcjhligknhpadaaDoorW.PrintLast.one_ (i := 8) (N := some 78) #[true, true, true, true, true, true, true, true, true, false, false, false] rfl rfl (by kernel_rfl) (by decide) (fun K hK => ?_)
  refine step_append_cells (w0 := w5) (W := w5) base (by rfl) (.tmp 74) (.tmp 77) 30 22 (.slice none 0 0) 1 24 rfl Tryd.underlying30 info_sl (by rfl) (by decide) (by decide) rv l.recs.length vs [.slice ba b.length bc] (by rfl) (by rfl) (by rfl) (by intro u hu; rw [List.mem_singleton.1 hu]; rfl) (own_move HVS.out (fun g cur _ hg => (HB5.out.block g (lt_of_heap hg)).trans hg)) (Below.refl _ _) (Nat.le_trans HBS4.out HB5.out.size) (by have := HRN.out; omega) (fun rv1 w6 hown6 hB6 hg6 hv6 => ?_)
  have HMORE := Lib.hid (LgAt.more HL4.out HB5.out HVL.out HVB.out hg6 HBV.out hown6 hv6)
  obtain ⟨rva, rvc, rfl⟩ := own_slice hown6
  have hf6 : w6.frozen? ⟨P, 3, none⟩ = false := free_of (HMORE.out.2.2.2)
  have hc6 : w6.cell? ⟨P, 3, none⟩ = some rv := cell_of (HMORE.out.2.2.2) rfl
  refine hK.out _ _ hc6 (fun hHeld => ?_)
  clear hK K
  refine Go.Proofs.YtcjhligknhpadaaDoorW.PrintLast.norm_ (a' := ?_) ?_ ?_
  rotate_left
  · show Act.put _ (some 78) _ = _
    simp only [Act.put, List.setIfInBounds_toArray, List.set_cons_zero, List.set_cons_succ, Go.Proofs.YtcjhligknhpadaaDoorW.PrintLast.i64_w, Go.Proofs.YtcjhligknhpadaaDoorW.PrintLast.i32_w]
    rfl
  refine Go.Proofs.YtcjhligknhpadaaDoorW.PrintLast.pure_ (i := 9) (N := some 79) (v := ?_) (a' := ?_) #[true, true, true, true, true, true, true, true, true, true, false, false] rfl rfl (by kernel_rfl) (fun _ _ _ h => h) (Or.inl ⟨by rfl, ?_⟩) ?_ ?_
  rotate_left
  · intro w'
    go_simp
    with_reducible rfl
  rotate_left
  · simp only [Act.put, List.setIfInBounds_toArray, List.set_cons_zero, List.set_cons_succ, Go.Proofs.YtcjhligknhpadaaDoorW.PrintLast.i64_w, Go.Proofs.YtcjhligknhpadaaDoorW.PrintLast.i32_w]
    rfl
  refine Go.Proofs.YtcjhligknhpadaaDoorW.PrintLast.pure_ (i := 10) (N := some 80) (v := ?_) (a' := ?_) #[true, true, true, true, true, true, true, true, true, true, true, false] rfl rfl (by kernel_rfl) (fun _ _ _ h => h) (Or.inl ⟨by rfl, ?_⟩) ?_ ?_
  rotate_left
  · intro w'
    go_simp
    with_reducible rfl
  rotate_left
  · simp only [Act.put, List.setIfInBounds_toArray, List.set_cons_zero, List.set_cons_succ, Go.Proofs.YtcjhligknhpadaaDoorW.PrintLast.i64_w, Go.Proofs.YtcjhligknhpadaaDoorW.PrintLast.i32_w]
    rfl
  refine Go.Proofs.YtcjhligknhpadaaDoorW.PrintLast.last_ (i := 11) (N := none) #[true, true, true, true, true, true, true, true, true, true, true, true] rfl rfl (by kernel_rfl) (by decide) (fun K hK => ?_)
  refine Go.Proofs.YtcjhligknhpadaaDoorW.PrintLast.skip_ (w1 := w6.setCell ⟨P, 3, none⟩ (.slice rva (l.recs.length + 1) rvc)) (by rfl) rfl (by go_simp) ?_
  refine hK.out _ _ ?_
  clear hK K
  refine Go.Proofs.YtcjhligknhpadaaDoorW.PrintLast.done_ (by kernel_rfl) ?_
  go_wp2_with fail
  go_ret
  have hM := HMORE.out
  have hrv : (Value.slice rva (l.recs.length + 1) rvc) = Value.slice rva (l.recs ++ [b]).length rvc := by rw [List.length_append]; rfl
  refine ⟨rfl, _, ?_, (HCH4.out.trans (LKeep.only (S := LgOwn P I rv) (g := P) (⟨rfl, rfl, rfl, rfl, fun _ _ => rfl⟩ : Only P w4 w4.drew) (.inl rfl)) (fun i _ h => h)).trans hM.2.1 (fun i _ h => h), fun i hi => hM.2.2.1 i (by show i < w4.heap.size; rw [HSZ4.out]; exact hi)⟩
  rw [Nat.add_assoc]
  have hM1 := hM.1
  rw [HSD.out] at hM1
  exact hM1
end Dk
end Go.Proofs.YtcjhligknhpadaaDoor

namespace Go.Proofs.YtcjhligknhpadaaDoor
open Go.RowKit Go.Proofs.YtcjhligknhpadaaDoor.Wp Go.Proofs.YtcjhligknhpadaaDoorW.PrintWords Go.Proofs.YtcjhligknhpadaaDoorW.PrintLast
set_option linter.unusedVariables false
set_option linter.unusedSimpArgs false
namespace Dk

theorem flush_nil (w : World) : Calls Tryd.prog 12 #[.pointer none] w fun e w' => e = .returned (.int .i64 1) ∧ w = w' := by
  go_enter Tryd.func12, Tryd.ntmps12
  go_wp2_with fail
  go_ret
  exact ⟨rfl, rfl⟩
theorem zcut_splice (img : List Int) (a : Nat) : splice img a (zer 8) = zcut img a := by
  unfold splice zcut
  rw [zer_len]
theorem zcut_back (img : List Int) (a : Nat) (h : a + 8 ≤ img.length) : splice (zcut img a) a ((img.drop a).take 8) = img := by
  unfold splice zcut
  have h8 : ((img.drop a).take 8).length = 8 := by rw [List.length_take, List.length_drop]; omega
  rw [h8, List.take_append_of_le_length (by rw [List.length_take]; omega), List.take_take, Nat.min_self, List.drop_append, List.drop_of_length_le (l := List.take a img) (by rw [List.length_take]; omega), List.nil_append, List.length_take, Nat.min_eq_left (by omega : a ≤ img.length), show a + 8 - a = 8 by omega, List.drop_append, List.drop_of_length_le (l := zer 8) (by rw [zer_len]; omega), List.nil_append, zer_len, Nat.sub_self, List.drop_zero]
  conv => rhs; rw [← List.take_append_drop a img]
  congr 1
  conv => rhs; rw [← List.take_append_drop 8 (img.drop a)]
  rw [List.drop_drop]
theorem LgAt.dirty_ [av : Av] {base : Nat} {w : World} {P D I : Nat} {rv : Value} {l : Lg} (h : LgAt base w P D I rv l) (x : Nat) : LgAt base (w.setCell ⟨P, 7, none⟩ (.int .i64 x)) P D I rv { l with dirty := x } := by
  have ne : ∀ (k : Nat) (cur : Array Value) (t : TypeId), w.heap[k]? = some (.cells cur t (0, 0)) → t ≠ 66 → k ≠ P := fun k cur t hk ht => by
    rintro rfl
    rw [h.hP] at hk
    exact ht (Obj.cells.inj (Option.some.inj hk)).2.1.symm
  exact ⟨h.bP, h.bI, h.bad, by rw [set_at h.hP]; rfl, (set_ne (ne I _ _ h.hI (by decide))).trans h.hI, h.by_, h.len, h.s1, h.s2, h.hR.move fun k cur => ⟨fun hh => (set_ne (ne k cur _ hh (by decide))).trans hh, fun _ hh => (set_ne (ne k cur _ hh (by decide))).trans hh⟩⟩
theorem LgAt.flushed_ [av : Av] {base : Nat} {w : World} {P D I : Nat} {rv : Value} {l : Lg} (h : LgAt base w P D I rv l) (x : Nat) : LgAt base (w.setCell ⟨P, 4, none⟩ (.int .i64 x)) P D I rv { l with flushed := x } := by
  have ne : ∀ (k : Nat) (cur : Array Value) (t : TypeId), w.heap[k]? = some (.cells cur t (0, 0)) → t ≠ 66 → k ≠ P := fun k cur t hk ht => by
    rintro rfl
    rw [h.hP] at hk
    exact ht (Obj.cells.inj (Option.some.inj hk)).2.1.symm
  exact ⟨h.bP, h.bI, h.bad, by rw [set_at h.hP]; rfl, (set_ne (ne I _ _ h.hI (by decide))).trans h.hI, h.by_, h.len, h.s1, h.s2, h.hR.move fun k cur => ⟨fun hh => (set_ne (ne k cur _ hh (by decide))).trans hh, fun _ hh => (set_ne (ne k cur _ hh (by decide))).trans hh⟩⟩
theorem IsDk.other [av : Av] {base : Nat} {w w' : World} {D : Nat} {d : Dsk} (h : IsDk base w D d) (hp : ∀ (k : Nat) (o : Obj), w.heap[k]? = some o → (∀ cur, o ≠ .cells cur 66 (0, 0)) → w'.heap[k]? = some o) : IsDk base w' D d := by
  have ne : ∀ (cur : Array Value) (t : TypeId), t ≠ 66 → ∀ c, (Obj.cells cur t (0, 0)) ≠ .cells c 66 (0, 0) := fun cur t ht c q => ht (Obj.cells.inj q).2.1
  have byt : ∀ v l, Byts w v l → Byts w' v l := fun v l h => ⟨h.1, own_move h.2 fun g cur hg hh => hp g _ hh (ne _ _ (by decide))⟩
  have mp : ∀ M m, MapB w M m → MapB w' M m := fun M m ⟨es, c, h1, h2, h3⟩ => ⟨es, c, hp M _ h1 (fun cur q => by cases q), h2, fun q => byt _ _ (h3 q)⟩
  obtain ⟨F, M, lv, sv, hd⟩ := h
  obtain ⟨vs, l1, l2, l3⟩ := hd.hL
  exact ⟨F, M, lv, sv, hd.bD, hd.bF, hd.bM, hd.ne, hp D _ hd.hD (ne _ _ (by decide)), mp _ _ hd.hF, mp _ _ hd.hM, ⟨vs, l1, fun p hp => byt _ _ (l2 p hp), own_move l3 fun g cur _ hh => hp g _ hh (ne _ _ (by decide))⟩, own_move hd.hS fun g cur _ hh => hp g _ hh (ne _ _ (by decide))⟩
theorem IsDk.set_ [av : Av] {base : Nat} {w : World} {D P o : Nat} {d : Dsk} {cs : Array Value} {v : Value} (h : IsDk base w D d) (hP : w.heap[P]? = some (.cells cs 66 (0, 0))) : IsDk base (w.setCell ⟨P, o, none⟩ v) D d :=
  h.other fun k ob hk hn => (set_ne (by rintro rfl; rw [hP] at hk; cases hk; exact hn _ rfl)).trans hk
set_option maxHeartbeats 2000000 in
set_option maxRecDepth 100000 in
theorem flush_any [av : Av] (base : Nat) (w : World) (P D I : Nat) (rv : Value) (l : Lg) (d : Dsk) (hl : LgAt base w P D I rv l) (hd : IsDk base w D d) (hav : ∀ g, w.heap.size ≤ g → ¬ av.bad g) (hab : l.dirty < l.fin → l.dirty + 8 ≤ l.fin) (hff : l.fin ≤ l.S * 128) (hdd : l.dirty ≤ l.S * 128) (hfit : (l.first : Int) + l.S ≤ d.N) (hN : d.N ≤ 4096) (hbw : base ≤ w.heap.size)
    (hn : d.log.length + l.S + 1 ≤ 1000000) (hs : d.syncs.length + 1 ≤ 1000000) :
    Calls Tryd.prog 12 #[.pointer (some ⟨P, 0, none⟩)] w fun e w' => e = .returned (.int .i64 0) ∧ LgAt base w' P D I rv { l with flushed := l.recs.length, dirty := l.fin } ∧ IsDk base w' D (flushD l.first l.img l.dirty l.fin d) ∧ LChg base (LgOwn P I rv) w w' := by
  obtain ⟨_, _, _, hvR⟩ := hl.hR
  obtain ⟨ra, rc, rfl⟩ := own_slice hvR
  clear hvR
  obtain ⟨_, _, _, c3, _, c5, c6, c7⟩ := hl.cells
  have hs2 := hl.s2
  have HL := Lib.hid hl
  have HD := Lib.hid hd
  have HAV := Lib.hid hav
  have HAB := Lib.hid hab
  have HFIT := Lib.hid hfit
  have HNN := Lib.hid hN
  have HBW := Lib.hid hbw
  have HN := Lib.hid hn
  have HS := Lib.hid hs
  have HLEN := Lib.hid hl.len
  clear hl hd hav hab hfit hN hbw hn hs
  generalize hSd : l.S = S at *
  generalize hFd : l.fin = fn at *
  generalize hDd : l.dirty = dt at *
  have HSD := Lib.hid hSd
  have HFD := Lib.hid hFd
  have HDD := Lib.hid hDd
  clear hSd hFd hDd
  by_cases hlt : dt < fn
  · have h8 := HAB.out hlt
    have t0 : decide ((dt : Int) < (fn : Int)) = true := decide_eq_true (by omega)
    have e1 : IntKind.i64.wrap ((dt : Int) + 8) = (dt : Int) + 8 := IntWalk.i64_in _ (by omega)
    have q1 : 0 ≤ (dt : Int) + 8 := by omega
    have q2 : (dt : Int) + 8 ≤ (S : Int) * 128 := by omega
    have q3 : dt ≤ ((dt : Int) + 8).toNat := by omega
    have q4 : ¬ S * 128 = dt := by omega
    have q5 : ((dt : Int) + 8).toNat - dt = 8 := by omega
    obtain ⟨kl, hkl⟩ : ∃ kl, kl = (l.img.drop dt).take 8 := ⟨_, rfl⟩
    have hkl8 : kl.length = 8 := by rw [hkl, List.length_take, List.length_drop, HLEN.out]; omega
    have hkby : IsBy kl := by rw [hkl]; exact fun c hc => HL.out.by_ c (List.mem_of_mem_drop (List.mem_of_mem_take hc))
    have HKL := Lib.hid hkl
    have HCL := Lib.hid (show Calls Tryd.prog 37 #[.slice (some ⟨I, dt, none⟩) 8 (S * 128 - dt)] w.drew.drew fun e w' => ∃ v, e = .returned v ∧ Byts w' v kl ∧ Below w.drew.drew.heap.size w.drew.drew w' from
      clone_bytes (some ⟨I, dt, none⟩) 8 _ kl w.drew.drew hkl8 (by omega) HAV.out hkby (fun i hi => ⟨_, rfl, by
        rw [add_in (.inr rfl), hkl, List.getD_eq_getElem?_getD, List.getElem?_take, if_pos hi, List.getElem?_drop, ← List.getD_eq_getElem?_getD]
        exact (HL.out.below (Below.refl _ _).drew.drew).byte (by rw [HSD.out]; omega)⟩))
    have HCLR := Lib.hid (show ∀ w1, Below w.heap.size w w1 → ∀ ty, (Builtin.clear_ #[22] ty #[.slice (some ⟨I, dt, none⟩) 8 (S * 128 - dt)]).run Tryd.prog w1 = .ok (.tuple #[]) (w1.setCells I dt (List.replicate 8 (.int .u8 0))) from fun w1 hb ty =>
      Lib.run_clear_slice w1 22 5 ty (.int .u8 0) Tryd.underlying22 (fun w => by kernel_rfl) rfl rfl I dt _ _ (by omega) (fun j hj => by rw [(HL.out.below hb).byte (by rw [HSD.out]; omega)]; rfl) (fun j hj => free_of (HL.out.below hb).hI))
    clear hkl
    go_enter Tryd.func12, Tryd.ntmps12
    go_wp2_with fail
    refine Go.Proofs.YtcjhligknhpadaaDoorW.PrintLast.start_ (n := 9) (S := fun v => v.cell? ⟨P, 7, none⟩ = some (.int .i64 dt) ∧ v.cell? ⟨P, 5, none⟩ = some (.int .i64 fn)) (ds := [8]) #[false, false, false, false, false, false, false, false, false] (by kernel_rfl) rfl rfl ⟨c7, c5⟩ (fun hHeld => ?_)
    refine Go.Proofs.YtcjhligknhpadaaDoorW.PrintLast.pure_ (i := 0) (N := some 7) (v := ?_) (a' := ?_) #[true, false, false, false, false, false, false, false, false] rfl rfl (by kernel_rfl) (fun _ _ _ h => h) (Or.inl ⟨by rfl, ?_⟩) ?_ ?_
    rotate_left
    · intro w'
      go_simp
      with_reducible rfl
    rotate_left
    · simp only [Act.put, List.setIfInBounds_toArray, List.set_cons_zero, List.set_cons_succ, Go.Proofs.YtcjhligknhpadaaDoorW.PrintLast.i64_w, Go.Proofs.YtcjhligknhpadaaDoorW.PrintLast.i32_w]
      rfl
    refine Go.Proofs.YtcjhligknhpadaaDoorW.PrintLast.pure_ (i := 1) (N := some 8) (v := ?_) (a' := ?_) #[true, true, false, false, false, false, false, false, false] rfl rfl (by kernel_rfl) (fun _ _ _ h => h) (Or.inl ⟨by rfl, ?_⟩) ?_ ?_
    rotate_left
    · intro w'
      go_simp
      with_reducible rfl
    rotate_left
    · simp only [Act.put, List.setIfInBounds_toArray, List.set_cons_zero, List.set_cons_succ, Go.Proofs.YtcjhligknhpadaaDoorW.PrintLast.i64_w, Go.Proofs.YtcjhligknhpadaaDoorW.PrintLast.i32_w]
      rfl
    refine Go.Proofs.YtcjhligknhpadaaDoorW.PrintLast.pure_ (i := 2) (N := some 9) (v := ?_) (a' := ?_) #[true, true, true, false, false, false, false, false, false] rfl rfl (by kernel_rfl) (fun _ _ _ h => h) (Or.inl ⟨by rfl, ?_⟩) ?_ ?_
    rotate_left
    · intro w'
      go_simp
      with_reducible rfl
    rotate_left
    · simp only [Act.put, List.setIfInBounds_toArray, List.set_cons_zero, List.set_cons_succ, Go.Proofs.YtcjhligknhpadaaDoorW.PrintLast.i64_w, Go.Proofs.YtcjhligknhpadaaDoorW.PrintLast.i32_w]
      rfl
    refine Go.Proofs.YtcjhligknhpadaaDoorW.PrintLast.take_ (i := 3) (N := some 10) (v := ?_) (a' := ?_) #[true, true, true, true, false, false, false, false, false] rfl rfl (by kernel_rfl) (fun _ _ _ h => h) (Or.inl ⟨by rfl, ?_⟩) hHeld ?_ ?_
    rotate_left
    · rintro w' ⟨s0, s1⟩
      go_simp
      with_reducible rfl
    rotate_left
    · simp only [Act.put, List.setIfInBounds_toArray, List.set_cons_zero, List.set_cons_succ, Go.Proofs.YtcjhligknhpadaaDoorW.PrintLast.i64_w, Go.Proofs.YtcjhligknhpadaaDoorW.PrintLast.i32_w]
      rfl
    refine Go.Proofs.YtcjhligknhpadaaDoorW.PrintLast.pure_ (i := 4) (N := some 11) (v := ?_) (a' := ?_) #[true, true, true, true, true, false, false, false, false] rfl rfl (by kernel_rfl) (fun _ _ _ h => h) (Or.inl ⟨by rfl, ?_⟩) ?_ ?_
    rotate_left
    · intro w'
      go_simp
      with_reducible rfl
    rotate_left
    · simp only [Act.put, List.setIfInBounds_toArray, List.set_cons_zero, List.set_cons_succ, Go.Proofs.YtcjhligknhpadaaDoorW.PrintLast.i64_w, Go.Proofs.YtcjhligknhpadaaDoorW.PrintLast.i32_w]
      rfl
    refine Go.Proofs.YtcjhligknhpadaaDoorW.PrintLast.pure_ (i := 5) (N := some 12) (v := ?_) (a' := ?_) #[true, true, true, true, true, true, false, false, false] rfl rfl (by kernel_rfl) (fun _ _ _ h => h) (Or.inl ⟨by rfl, ?_⟩) ?_ ?_
    rotate_left
    · intro w'
      go_simp
      with_reducible rfl
    rotate_left
    · simp only [Act.put, List.setIfInBounds_toArray, List.set_cons_zero, List.set_cons_succ, Go.Proofs.YtcjhligknhpadaaDoorW.PrintLast.i64_w, Go.Proofs.YtcjhligknhpadaaDoorW.PrintLast.i32_w]
      rfl
    refine Go.Proofs.YtcjhligknhpadaaDoorW.PrintLast.pure_ (i := 6) (N := some 13) (v := ?_) (a' := ?_) #[true, true, true, true, true, true, true, false, false] rfl rfl (by kernel_rfl) (fun _ _ _ h => h) (Or.inl ⟨by rfl, ?_⟩) ?_ ?_
    rotate_left
    · intro w'
      go_simp
      with_reducible rfl
    rotate_left
    · simp only [Act.put, List.setIfInBounds_toArray, List.set_cons_zero, List.set_cons_succ, Go.Proofs.YtcjhligknhpadaaDoorW.PrintLast.i64_w, Go.Proofs.YtcjhligknhpadaaDoorW.PrintLast.i32_w]
      rfl
    refine Go.Proofs.YtcjhligknhpadaaDoorW.PrintLast.take_ (i := 7) (N := some 14) (v := ?_) (a' := ?_) #[true, true, true, true, true, true, true, true, false] rfl rfl (by kernel_rfl) (fun _ _ _ h => h) (Or.inl ⟨by rfl, ?_⟩) hHeld ?_ ?_
    rotate_left
    · rintro w' ⟨s0, s1⟩
      go_simp
      with_reducible rfl
    rotate_left
    · simp only [Act.put, List.setIfInBounds_toArray, List.set_cons_zero, List.set_cons_succ, Go.Proofs.YtcjhligknhpadaaDoorW.PrintLast.i64_w, Go.Proofs.YtcjhligknhpadaaDoorW.PrintLast.i32_w]
      rfl
    refine Go.Proofs.YtcjhligknhpadaaDoorW.PrintLast.pure_ (i := 8) (N := some 15) (v := ?_) (a' := ?_) #[true, true, true, true, true, true, true, true, true] rfl rfl (by kernel_rfl) (fun _ _ _ h => h) (Or.inl ⟨by rfl, ?_⟩) ?_ ?_
    rotate_left
    · intro w'
      go_simp
      with_reducible rfl
    rotate_left
    · simp only [Act.put, List.setIfInBounds_toArray, List.set_cons_zero, List.set_cons_succ, Go.Proofs.YtcjhligknhpadaaDoorW.PrintLast.i64_w, Go.Proofs.YtcjhligknhpadaaDoorW.PrintLast.i32_w]
      rfl
    refine Go.Proofs.YtcjhligknhpadaaDoorW.PrintLast.done_ (by kernel_rfl) ?_
    go_wp2_with fail
    refine Go.Proofs.YtcjhligknhpadaaDoorW.PrintLast.start_ (n := 15) (S := fun v => v.cell? ⟨P, 6, none⟩ = some (.slice (some ⟨I, 0, none⟩) (S * 128) (S * 128)) ∧ v.cell? ⟨P, 7, none⟩ = some (.int .i64 dt)) (ds := [14]) #[false, false, false, false, false, false, false, false, false, false, false, false, false, false, false] (by kernel_rfl) rfl rfl ⟨c6, c7⟩ (fun hHeld => ?_)
    refine Go.Proofs.YtcjhligknhpadaaDoorW.PrintLast.pure_ (i := 0) (N := some 16) (v := ?_) (a' := ?_) #[true, false, false, false, false, false, false, false, false, false, false, false, false, false, false] rfl rfl (by kernel_rfl) (fun _ _ _ h => h) (Or.inl ⟨by rfl, ?_⟩) ?_ ?_
    rotate_left
    · intro w'
      go_simp
      with_reducible rfl
    rotate_left
    · simp only [Act.put, List.setIfInBounds_toArray, List.set_cons_zero, List.set_cons_succ, Go.Proofs.YtcjhligknhpadaaDoorW.PrintLast.i64_w, Go.Proofs.YtcjhligknhpadaaDoorW.PrintLast.i32_w]
      rfl
    refine Go.Proofs.YtcjhligknhpadaaDoorW.PrintLast.pure_ (i := 1) (N := some 17) (v := ?_) (a' := ?_) #[true, true, false, false, false, false, false, false, false, false, false, false, false, false, false] rfl rfl (by kernel_rfl) (fun _ _ _ h => h) (Or.inl ⟨by rfl, ?_⟩) ?_ ?_
    rotate_left
    · intro w'
      go_simp
      with_reducible rfl
    rotate_left
    · simp only [Act.put, List.setIfInBounds_toArray, List.set_cons_zero, List.set_cons_succ, Go.Proofs.YtcjhligknhpadaaDoorW.PrintLast.i64_w, Go.Proofs.YtcjhligknhpadaaDoorW.PrintLast.i32_w]
      rfl
    refine Go.Proofs.YtcjhligknhpadaaDoorW.PrintLast.pure_ (i := 2) (N := some 18) (v := ?_) (a' := ?_) #[true, true, true, false, false, false, false, false, false, false, false, false, false, false, false] rfl rfl (by kernel_rfl) (fun _ _ _ h => h) (Or.inl ⟨by rfl, ?_⟩) ?_ ?_
    rotate_left
    · intro w'
      go_simp
      with_reducible rfl
    rotate_left
    · simp only [Act.put, List.setIfInBounds_toArray, List.set_cons_zero, List.set_cons_succ, Go.Proofs.YtcjhligknhpadaaDoorW.PrintLast.i64_w, Go.Proofs.YtcjhligknhpadaaDoorW.PrintLast.i32_w]
      rfl
    refine Go.Proofs.YtcjhligknhpadaaDoorW.PrintLast.take_ (i := 3) (N := some 19) (v := ?_) (a' := ?_) #[true, true, true, true, false, false, false, false, false, false, false, false, false, false, false] rfl rfl (by kernel_rfl) (fun _ _ _ h => h) (Or.inl ⟨by rfl, ?_⟩) hHeld ?_ ?_
    rotate_left
    · rintro w' ⟨s0, s1⟩
      go_simp
      with_reducible rfl
    rotate_left
    · simp only [Act.put, List.setIfInBounds_toArray, List.set_cons_zero, List.set_cons_succ, Go.Proofs.YtcjhligknhpadaaDoorW.PrintLast.i64_w, Go.Proofs.YtcjhligknhpadaaDoorW.PrintLast.i32_w]
      rfl
    refine Go.Proofs.YtcjhligknhpadaaDoorW.PrintLast.pure_ (i := 4) (N := some 20) (v := ?_) (a' := ?_) #[true, true, true, true, true, false, false, false, false, false, false, false, false, false, false] rfl rfl (by kernel_rfl) (fun _ _ _ h => h) (Or.inl ⟨by rfl, ?_⟩) ?_ ?_
    rotate_left
    · intro w'
      go_simp
      with_reducible rfl
    rotate_left
    · simp only [Act.put, List.setIfInBounds_toArray, List.set_cons_zero, List.set_cons_succ, Go.Proofs.YtcjhligknhpadaaDoorW.PrintLast.i64_w, Go.Proofs.YtcjhligknhpadaaDoorW.PrintLast.i32_w]
      rfl
    refine Go.Proofs.YtcjhligknhpadaaDoorW.PrintLast.pure_ (i := 5) (N := some 21) (v := ?_) (a' := ?_) #[true, true, true, true, true, true, false, false, false, false, false, false, false, false, false] rfl rfl (by kernel_rfl) (fun _ _ _ h => h) (Or.inl ⟨by rfl, ?_⟩) ?_ ?_
    rotate_left
    · intro w'
      go_simp
      with_reducible rfl
    rotate_left
    · simp only [Act.put, List.setIfInBounds_toArray, List.set_cons_zero, List.set_cons_succ, Go.Proofs.YtcjhligknhpadaaDoorW.PrintLast.i64_w, Go.Proofs.YtcjhligknhpadaaDoorW.PrintLast.i32_w]
      rfl
    refine Go.Proofs.YtcjhligknhpadaaDoorW.PrintLast.pure_ (i := 6) (N := some 22) (v := ?_) (a' := ?_) #[true, true, true, true, true, true, true, false, false, false, false, false, false, false, false] rfl rfl (by kernel_rfl) (fun _ _ _ h => h) (Or.inl ⟨by rfl, ?_⟩) ?_ ?_
    rotate_left
    · intro w'
      go_simp
      with_reducible rfl
    rotate_left
    · simp only [Act.put, List.setIfInBounds_toArray, List.set_cons_zero, List.set_cons_succ, Go.Proofs.YtcjhligknhpadaaDoorW.PrintLast.i64_w, Go.Proofs.YtcjhligknhpadaaDoorW.PrintLast.i32_w]
      rfl
    refine Go.Proofs.YtcjhligknhpadaaDoorW.PrintLast.take_ (i := 7) (N := some 23) (v := ?_) (a' := ?_) #[true, true, true, true, true, true, true, true, false, false, false, false, false, false, false] rfl rfl (by kernel_rfl) (fun _ _ _ h => h) (Or.inl ⟨by rfl, ?_⟩) hHeld ?_ ?_
    rotate_left
    · rintro w' ⟨s0, s1⟩
      go_simp
      with_reducible rfl
    rotate_left
    · simp only [Act.put, List.setIfInBounds_toArray, List.set_cons_zero, List.set_cons_succ, Go.Proofs.YtcjhligknhpadaaDoorW.PrintLast.i64_w, Go.Proofs.YtcjhligknhpadaaDoorW.PrintLast.i32_w]
      rfl
    refine Go.Proofs.YtcjhligknhpadaaDoorW.PrintLast.pure_ (i := 8) (N := some 24) (v := ?_) (a' := ?_) #[true, true, true, true, true, true, true, true, true, false, false, false, false, false, false] rfl rfl (by kernel_rfl) (fun _ _ _ h => h) (Or.inl ⟨by rfl, ?_⟩) ?_ ?_
    rotate_left
    · intro w'
      go_simp
      with_reducible rfl
    rotate_left
    · simp only [Act.put, List.setIfInBounds_toArray, List.set_cons_zero, List.set_cons_succ, Go.Proofs.YtcjhligknhpadaaDoorW.PrintLast.i64_w, Go.Proofs.YtcjhligknhpadaaDoorW.PrintLast.i32_w]
      rfl
    refine Go.Proofs.YtcjhligknhpadaaDoorW.PrintLast.pure_ (i := 9) (N := some 25) (v := ?_) (a' := ?_) #[true, true, true, true, true, true, true, true, true, true, false, false, false, false, false] rfl rfl (by kernel_rfl) (fun _ _ _ h => h) (Or.inl ⟨by rfl, ?_⟩) ?_ ?_
    rotate_left
    · intro w'
      go_simp
      with_reducible rfl
    rotate_left
    · simp only [Act.put, List.setIfInBounds_toArray, List.set_cons_zero, List.set_cons_succ, Go.Proofs.YtcjhligknhpadaaDoorW.PrintLast.i64_w, Go.Proofs.YtcjhligknhpadaaDoorW.PrintLast.i32_w]
      rfl
    refine Go.Proofs.YtcjhligknhpadaaDoorW.PrintLast.pure_ (i := 10) (N := some 26) (v := ?_) (a' := ?_) #[true, true, true, true, true, true, true, true, true, true, true, false, false, false, false] rfl rfl (by kernel_rfl) (fun _ _ _ h => h) (Or.inl ⟨by rfl, ?_⟩) ?_ ?_
    rotate_left
    · intro w'
      go_simp
      with_reducible rfl
    rotate_left
    · simp only [Act.put, List.setIfInBounds_toArray, List.set_cons_zero, List.set_cons_succ, Go.Proofs.YtcjhligknhpadaaDoorW.PrintLast.i64_w, Go.Proofs.YtcjhligknhpadaaDoorW.PrintLast.i32_w]
      rfl
    refine Go.Proofs.YtcjhligknhpadaaDoorW.PrintLast.take_ (i := 11) (N := some 27) (v := ?_) (a' := ?_) #[true, true, true, true, true, true, true, true, true, true, true, true, false, false, false] rfl rfl (by kernel_rfl) (fun _ _ _ h => h) (Or.inl ⟨by rfl, ?_⟩) hHeld ?_ ?_
    rotate_left
    · rintro w' ⟨s0, s1⟩
      go_simp
      with_reducible rfl
    rotate_left
    · simp only [Act.put, List.setIfInBounds_toArray, List.set_cons_zero, List.set_cons_succ, Go.Proofs.YtcjhligknhpadaaDoorW.PrintLast.i64_w, Go.Proofs.YtcjhligknhpadaaDoorW.PrintLast.i32_w]
      rfl
    refine Go.Proofs.YtcjhligknhpadaaDoorW.PrintLast.pure_ (i := 12) (N := some 28) (v := ?_) (a' := ?_) #[true, true, true, true, true, true, true, true, true, true, true, true, true, false, false] rfl rfl (by kernel_rfl) (fun _ _ _ h => h) (Or.inl ⟨by rfl, ?_⟩) ?_ ?_
    rotate_left
    · intro w'
      go_simp
      with_reducible rfl
    rotate_left
    · simp only [Act.put, List.setIfInBounds_toArray, List.set_cons_zero, List.set_cons_succ, Go.Proofs.YtcjhligknhpadaaDoorW.PrintLast.i64_w, Go.Proofs.YtcjhligknhpadaaDoorW.PrintLast.i32_w]
      rfl
    refine Go.Proofs.YtcjhligknhpadaaDoorW.PrintLast.pure_ (i := 13) (N := some 29) (v := ?_) (a' := ?_) #[true, true, true, true, true, true, true, true, true, true, true, true, true, true, false] rfl rfl (by kernel_rfl) (fun _ _ _ h => h) (Or.inl ⟨by rfl, ?_⟩) ?_ ?_
    rotate_left
    · intro w'
      go_simp
      with_reducible rfl
    rotate_left
    · simp only [Act.put, List.setIfInBounds_toArray, List.set_cons_zero, List.set_cons_succ, Go.Proofs.YtcjhligknhpadaaDoorW.PrintLast.i64_w, Go.Proofs.YtcjhligknhpadaaDoorW.PrintLast.i32_w]
      rfl
    refine Go.Proofs.YtcjhligknhpadaaDoorW.PrintLast.pure_ (i := 14) (N := some 3) (v := ?_) (a' := ?_) #[true, true, true, true, true, true, true, true, true, true, true, true, true, true, true] rfl rfl (by kernel_rfl) (fun _ _ _ h => h) (Or.inl ⟨by rfl, ?_⟩) ?_ ?_
    rotate_left
    · intro w'
      go_simp
      with_reducible rfl
    rotate_left
    · simp only [Act.put, List.setIfInBounds_toArray, List.set_cons_zero, List.set_cons_succ, Go.Proofs.YtcjhligknhpadaaDoorW.PrintLast.i64_w, Go.Proofs.YtcjhligknhpadaaDoorW.PrintLast.i32_w]
      rfl
    refine Go.Proofs.YtcjhligknhpadaaDoorW.PrintLast.done_ (by kernel_rfl) ?_
    go_wp2_with (first | (go_at_call 37; refine HCL.out.mono ?_; rintro e w1 ⟨kv, rfl, hkv, hb1⟩; have hks := byts_slice hkv; rw [hkl8] at hks; obtain ⟨ka, kc, rfl⟩ := hks; have HKV := Lib.hid hkv; have HB1 := Lib.hid ((Below.refl _ _).drew.drew.trans hb1); have hcl := HCLR.out w1 HB1.out; clear hkv hb1))
    have hl1 := HL.out.below HB1.out
    have hd1 := HD.out.below HB1.out
    have hkv' : Byts w1 (.slice ka kl.length kc) kl := by rw [hkl8]; exact HKV.out
    obtain ⟨ad, rfl, _⟩ := bytes_cells hkv' (by omega)
    have ho2 := Only.sets I [Value.int .u8 0, Value.int .u8 0, Value.int .u8 0, Value.int .u8 0, Value.int .u8 0, Value.int .u8 0, Value.int .u8 0, Value.int .u8 0] dt w1
    have hI2 := sets_at I 5 [Value.int .u8 0, Value.int .u8 0, Value.int .u8 0, Value.int .u8 0, Value.int .u8 0, Value.int .u8 0, Value.int .u8 0, Value.int .u8 0] dt w1 _ hl1.hI (by rw [List.length_map, HLEN.out]; show dt + 8 ≤ _; omega)
    have ez : splice (l.img.map (Value.int .u8)) dt [Value.int .u8 0, Value.int .u8 0, Value.int .u8 0, Value.int .u8 0, Value.int .u8 0, Value.int .u8 0, Value.int .u8 0, Value.int .u8 0] = (zcut l.img dt).map (Value.int .u8) := by rw [← zcut_splice, ← map_splice]; rfl
    rw [ez] at hI2
    generalize w1.setCells I dt [Value.int .u8 0, Value.int .u8 0, Value.int .u8 0, Value.int .u8 0, Value.int .u8 0, Value.int .u8 0, Value.int .u8 0, Value.int .u8 0] = w2 at ho2 hI2 ⊢
    have hzl := zcut_len l.img dt (by rw [HLEN.out]; omega)
    have hl2 := hl1.turn ho2 hI2 (by rw [← zcut_splice]; exact splice_by HL.out.by_ (fun c hc => by rw [(List.mem_replicate.1 hc).2]; omega) _) (hzl.trans HL.out.len)
    have hd2 := hd1.turn hl1.hI hl1.bad ho2
    have hkv2 : Byts w2 (.slice (some ad) kl.length kc) kl := ⟨hkv'.1, own_move hkv'.2 fun g cur hg hh => (ho2.same g (by rintro rfl; exact hkv'.1.2 g hg hl1.bad)).trans hh⟩
    have hsz1 := HB1.out.size
    have hsz2 := ho2.size
    have hc2 : LChg base (LgOwn P I (.slice ra l.recs.length rc)) w w2 := (LChg.of (Chg.of_below HB1.out HBW.out)).trans (LChg.only (S := LgOwn P I (.slice ra l.recs.length rc)) ho2 HL.out.bI (.inr (.inl rfl))) (fun i _ h => h)
    have HWR := Lib.hid (show ∀ W, Below w2.heap.size w2 W → Calls Tryd.prog 39 #[.pointer (some ⟨P, 0, none⟩), .int .i64 dt, .int .i64 fn] W fun e w' => e = .returned (.tuple #[]) ∧ IsDk base w' D (batchD l.first (zcut l.img dt) dt fn d) ∧ Chg base DK w2 w' from fun W hb => by
      have h1 := HBW.out
      have h2 := hb.size
      have h3 := HN.out
      have h4 := HS.out
      refine (write_log base W P D I _ _ d dt fn (hl2.below hb) (hd2.below hb) (fun g hg => HAV.out g (by omega)) (by show fn ≤ l.S * 128; rw [HSD.out]; exact hff) (by omega) (by show (l.first : Int) + (l.S : Nat) ≤ d.N; rw [HSD.out]; exact HFIT.out) HNN.out (by omega) (by omega) (by omega)).mono ?_
      rintro e w' ⟨q1, q2, q3⟩
      exact ⟨q1, q2, (Chg.of_below hb (by omega)).trans q3⟩)
    have d7 : w2.cell? ⟨P, 7, none⟩ = some (.int .i64 dt) := by have q : w2.cell? ⟨P, 7, none⟩ = some (.int .i64 (l.dirty : Nat)) := hl2.cells.2.2.2.2.2.2.2; rw [HDD.out] at q; exact q
    have d5 : w2.cell? ⟨P, 5, none⟩ = some (.int .i64 fn) := by have q : w2.cell? ⟨P, 5, none⟩ = some (.int .i64 (l.fin : Nat)) := hl2.cells.2.2.2.2.2.1; rw [HFD.out] at q; exact q
    have HL2 := Lib.hid hl2
    have HD2 := Lib.hid hd2
    have HC2 := Lib.hid hc2
    have HKV2 := Lib.hid hkv2
    have HSZ2 := Lib.hid (Nat.le_trans hsz1 (Nat.le_of_eq hsz2.symm))
    have HZL := Lib.hid hzl
    clear hl1 hd1 hkv' ho2 hI2 ez hzl hl2 hd2 hc2 hkv2 hsz1 hsz2 hcl HB1 HKV HCL HCLR
    refine Go.Proofs.YtcjhligknhpadaaDoorW.PrintLast.start_ (n := 10) (S := fun v => v.cell? ⟨P, 7, none⟩ = some (.int .i64 dt) ∧ v.cell? ⟨P, 5, none⟩ = some (.int .i64 fn)) (ds := [9]) #[false, false, false, false, false, false, false, false, false, false] (by kernel_rfl) rfl rfl ⟨d7, d5⟩ (fun hHeld => ?_)
    refine Go.Proofs.YtcjhligknhpadaaDoorW.PrintLast.pure_ (i := 0) (N := some 33) (v := ?_) (a' := ?_) #[true, false, false, false, false, false, false, false, false, false] rfl rfl (by kernel_rfl) (fun _ _ _ h => h) (Or.inl ⟨by rfl, ?_⟩) ?_ ?_
    rotate_left
    · intro w'
      go_simp
      with_reducible rfl
    rotate_left
    · simp only [Act.put, List.setIfInBounds_toArray, List.set_cons_zero, List.set_cons_succ, Go.Proofs.YtcjhligknhpadaaDoorW.PrintLast.i64_w, Go.Proofs.YtcjhligknhpadaaDoorW.PrintLast.i32_w]
      rfl
    refine Go.Proofs.YtcjhligknhpadaaDoorW.PrintLast.pure_ (i := 1) (N := some 34) (v := ?_) (a' := ?_) #[true, true, false, false, false, false, false, false, false, false] rfl rfl (by kernel_rfl) (fun _ _ _ h => h) (Or.inl ⟨by rfl, ?_⟩) ?_ ?_
    rotate_left
    · intro w'
      go_simp
      with_reducible rfl
    rotate_left
    · simp only [Act.put, List.setIfInBounds_toArray, List.set_cons_zero, List.set_cons_succ, Go.Proofs.YtcjhligknhpadaaDoorW.PrintLast.i64_w, Go.Proofs.YtcjhligknhpadaaDoorW.PrintLast.i32_w]
      rfl
    refine Go.Proofs.YtcjhligknhpadaaDoorW.PrintLast.pure_ (i := 2) (N := some 35) (v := ?_) (a' := ?_) #[true, true, true, false, false, false, false, false, false, false] rfl rfl (by kernel_rfl) (fun _ _ _ h => h) (Or.inl ⟨by rfl, ?_⟩) ?_ ?_
    rotate_left
    · intro w'
      go_simp
      with_reducible rfl
    rotate_left
    · simp only [Act.put, List.setIfInBounds_toArray, List.set_cons_zero, List.set_cons_succ, Go.Proofs.YtcjhligknhpadaaDoorW.PrintLast.i64_w, Go.Proofs.YtcjhligknhpadaaDoorW.PrintLast.i32_w]
      rfl
    refine Go.Proofs.YtcjhligknhpadaaDoorW.PrintLast.pure_ (i := 3) (N := some 36) (v := ?_) (a' := ?_) #[true, true, true, true, false, false, false, false, false, false] rfl rfl (by kernel_rfl) (fun _ _ _ h => h) (Or.inl ⟨by rfl, ?_⟩) ?_ ?_
    rotate_left
    · intro w'
      go_simp
      with_reducible rfl
    rotate_left
    · simp only [Act.put, List.setIfInBounds_toArray, List.set_cons_zero, List.set_cons_succ, Go.Proofs.YtcjhligknhpadaaDoorW.PrintLast.i64_w, Go.Proofs.YtcjhligknhpadaaDoorW.PrintLast.i32_w]
      rfl
    refine Go.Proofs.YtcjhligknhpadaaDoorW.PrintLast.take_ (i := 4) (N := some 37) (v := ?_) (a' := ?_) #[true, true, true, true, true, false, false, false, false, false] rfl rfl (by kernel_rfl) (fun _ _ _ h => h) (Or.inl ⟨by rfl, ?_⟩) hHeld ?_ ?_
    rotate_left
    · rintro w' ⟨s0, s1⟩
      go_simp
      with_reducible rfl
    rotate_left
    · simp only [Act.put, List.setIfInBounds_toArray, List.set_cons_zero, List.set_cons_succ, Go.Proofs.YtcjhligknhpadaaDoorW.PrintLast.i64_w, Go.Proofs.YtcjhligknhpadaaDoorW.PrintLast.i32_w]
      rfl
    refine Go.Proofs.YtcjhligknhpadaaDoorW.PrintLast.pure_ (i := 5) (N := some 38) (v := ?_) (a' := ?_) #[true, true, true, true, true, true, false, false, false, false] rfl rfl (by kernel_rfl) (fun _ _ _ h => h) (Or.inl ⟨by rfl, ?_⟩) ?_ ?_
    rotate_left
    · intro w'
      go_simp
      with_reducible rfl
    rotate_left
    · simp only [Act.put, List.setIfInBounds_toArray, List.set_cons_zero, List.set_cons_succ, Go.Proofs.YtcjhligknhpadaaDoorW.PrintLast.i64_w, Go.Proofs.YtcjhligknhpadaaDoorW.PrintLast.i32_w]
      rfl
    refine Go.Proofs.YtcjhligknhpadaaDoorW.PrintLast.pure_ (i := 6) (N := some 39) (v := ?_) (a' := ?_) #[true, true, true, true, true, true, true, false, false, false] rfl rfl (by kernel_rfl) (fun _ _ _ h => h) (Or.inl ⟨by rfl, ?_⟩) ?_ ?_
    rotate_left
    · intro w'
      go_simp
      with_reducible rfl
    rotate_left
    · simp only [Act.put, List.setIfInBounds_toArray, List.set_cons_zero, List.set_cons_succ, Go.Proofs.YtcjhligknhpadaaDoorW.PrintLast.i64_w, Go.Proofs.YtcjhligknhpadaaDoorW.PrintLast.i32_w]
      rfl
    refine Go.Proofs.YtcjhligknhpadaaDoorW.PrintLast.pure_ (i := 7) (N := some 40) (v := ?_) (a' := ?_) #[true, true, true, true, true, true, true, true, false, false] rfl rfl (by kernel_rfl) (fun _ _ _ h => h) (Or.inl ⟨by rfl, ?_⟩) ?_ ?_
    rotate_left
    · intro w'
      go_simp
      with_reducible rfl
    rotate_left
    · simp only [Act.put, List.setIfInBounds_toArray, List.set_cons_zero, List.set_cons_succ, Go.Proofs.YtcjhligknhpadaaDoorW.PrintLast.i64_w, Go.Proofs.YtcjhligknhpadaaDoorW.PrintLast.i32_w]
      rfl
    refine Go.Proofs.YtcjhligknhpadaaDoorW.PrintLast.take_ (i := 8) (N := some 41) (v := ?_) (a' := ?_) #[true, true, true, true, true, true, true, true, true, false] rfl rfl (by kernel_rfl) (fun _ _ _ h => h) (Or.inl ⟨by rfl, ?_⟩) hHeld ?_ ?_
    rotate_left
    · rintro w' ⟨s0, s1⟩
      go_simp
      with_reducible rfl
    rotate_left
    · simp only [Act.put, List.setIfInBounds_toArray, List.set_cons_zero, List.set_cons_succ, Go.Proofs.YtcjhligknhpadaaDoorW.PrintLast.i64_w, Go.Proofs.YtcjhligknhpadaaDoorW.PrintLast.i32_w]
      rfl
    refine Go.Proofs.YtcjhligknhpadaaDoorW.PrintLast.last_ (i := 9) (N := some 42) #[true, true, true, true, true, true, true, true, true, true] rfl rfl (by kernel_rfl) (by decide) (fun K hK => ?_)
    refine Go.Proofs.YtcjhligknhpadaaDoorW.PrintLast.goes_ Tryd.func39 (by kernel_rfl) rfl #[.pointer (some ⟨P, 0, none⟩), .int .i64 dt, .int .i64 fn] (by rfl) rfl rfl (by (try simp only [List.map_toArray, List.map_cons, List.map_nil]); first | done | rfl) ?_
    refine (HWR.out _ (Below.refl _ _).drew).mono ?_
    rintro e w3 ⟨rfl, hi3, hb3⟩
    have HI3 := Lib.hid hi3
    have HB3 := Lib.hid hb3
    clear hi3 hb3
    refine ⟨_, rfl, ?_⟩
    refine hK.out _ _ ?_
    clear hK K
    refine Go.Proofs.YtcjhligknhpadaaDoorW.PrintLast.norm_ (a' := ?_) ?_ ?_
    rotate_left
    · show Act.put _ (some 42) _ = _
      simp only [Act.put, List.setIfInBounds_toArray, List.set_cons_zero, List.set_cons_succ, Go.Proofs.YtcjhligknhpadaaDoorW.PrintLast.i64_w, Go.Proofs.YtcjhligknhpadaaDoorW.PrintLast.i32_w]
      rfl
    refine Go.Proofs.YtcjhligknhpadaaDoorW.PrintLast.done_ (by kernel_rfl) ?_
    have hkv3 : Byts w3 (.slice (some ad) kl.length kc) kl := ⟨HKV2.out.1, own_move HKV2.out.2 fun g cur hg hh => HB3.out.keep g _ hh rfl⟩
    obtain ⟨_, q, hkc⟩ := bytes_cells hkv3 (by omega)
    cases q
    have HKC := Lib.hid hkc
    have hl3 := HL2.out.chg HB3.out
    have HL3 := Lib.hid hl3
    clear hkv3 hkc hl3
    go_wp2_with (with_reducible refine copy_only rfl (.tmp 43) (.tmp 44) 22 22 rfl 5 Tryd.underlying22 (by kernel_rfl) I dt 8 (S * 128 - dt) ad 8 kc rfl rfl ((zcut l.img dt).map (Value.int .u8)) 5 ?g0 (kl.map (Value.int .u8)) ?g1 ?g2 ?g3 ?g4 ?_)
    case g0 => exact HL3.out.hI
    case g1 => rw [List.length_map, hkl8]; rfl
    case g2 => exact HKC.out
    case g3 => rw [List.length_map, List.length_map, hkl8, HZL.out, HLEN.out]; omega
    case g4 => intro v hv; obtain ⟨x, _, rfl⟩ := List.mem_map.1 hv; rfl
    intro w4 hI4 hO4
    rw [map_splice, HKL.out, zcut_back _ _ (by rw [HLEN.out]; omega)] at hI4
    have hl4 := HL3.out.turn hO4.out hI4.out HL.out.by_ HL.out.len
    have hd4 := HI3.out.turn HL3.out.hI HL3.out.bad hO4.out
    have hc4 := (HC2.out.trans (LChg.of HB3.out (S := LgOwn P I (.slice ra l.recs.length rc))) (fun i _ h => h)).trans (LChg.only (S := LgOwn P I (.slice ra l.recs.length rc)) hO4.out HL.out.bI (.inr (.inl rfl))) (fun i _ h => h)
    have hsz3 := HB3.out.size
    have hsz4 := hO4.out.size
    have HON := Lib.hid (show Calls Tryd.prog 40 #[.pointer (some ⟨P, 0, none⟩), .int .i64 dt] w4 fun e w' => e = .returned (.tuple #[]) ∧ IsDk base w' D (oneD l.first l.img dt (batchD l.first (zcut l.img dt) dt fn d)) ∧ Chg base DK w4 w' from by
      have h1 := HBW.out
      have h3 := HN.out
      have h4 := HS.out
      have h5 := HSZ2.out
      have hf := wrD_fields l.first (zcut l.img dt) (dt / 128) d ((fn + 127) / 128 - dt / 128)
      have hlog : (batchD l.first (zcut l.img dt) dt fn d).log.length ≤ d.log.length + S := by
        show (wrD l.first (zcut l.img dt) (dt / 128) d ((fn + 127) / 128 - dt / 128)).log.length ≤ _
        rw [hf.2.2.2, List.length_append, List.length_map, List.length_range]
        omega
      have hsyn : (batchD l.first (zcut l.img dt) dt fn d).syncs.length = d.syncs.length + 1 := by
        show ((wrD l.first (zcut l.img dt) (dt / 128) d ((fn + 127) / 128 - dt / 128)).syncs ++ [_]).length = _
        rw [hf.2.2.1, List.length_append]
        rfl
      have hN' : (batchD l.first (zcut l.img dt) dt fn d).N = d.N := hf.1
      exact one_log base w4 P D I _ _ _ dt hl4 hd4 (fun g hg => HAV.out g (by omega)) (by omega) (by rw [hN']; show (l.first : Int) + (l.S : Nat) ≤ d.N; rw [HSD.out]; exact HFIT.out) (by rw [hN']; exact HNN.out) (by omega) (by omega) (by omega))
    have d7 : w4.cell? ⟨P, 7, none⟩ = some (.int .i64 dt) := by have q : w4.cell? ⟨P, 7, none⟩ = some (.int .i64 (l.dirty : Nat)) := hl4.cells.2.2.2.2.2.2.2; rw [HDD.out] at q; exact q
    have HL4 := Lib.hid hl4
    have HC4 := Lib.hid hc4
    clear hl4 hd4 hc4 hsz3 hsz4 hI4 hO4
    go_wp2_with (go_at_call 40; refine HON.out.mono ?_; rintro e w5 ⟨rfl, hi5, hb5⟩; have HI5 := Lib.hid hi5; have HB5 := Lib.hid hb5; clear hi5 hb5)
    have hlE := (HL4.out.chg HB5.out).below (Below.refl _ _).drew
    have hdE := HI5.out.below (Below.refl _ _).drew
    have hcE := (HC4.out.trans (LChg.of HB5.out (S := LgOwn P I (.slice ra l.recs.length rc))) (fun i _ h => h)).trans (LChg.only (S := LgOwn P I (.slice ra l.recs.length rc)) (g := P) (⟨rfl, rfl, rfl, rfl, fun _ _ => rfl⟩ : Only P w5 w5.drew) HL.out.bP (.inl rfl)) (fun i _ h => h)
    have hst := hlE.dirty_ fn
    have hst2 := hst.flushed_ l.recs.length
    have HST := Lib.hid (show (w5.drew.setCell ⟨P, 7, none⟩ (.int .i64 fn)).cell? ⟨P, 5, none⟩ = some (.int .i64 fn) ∧ (w5.drew.setCell ⟨P, 7, none⟩ (.int .i64 fn)).cell? ⟨P, 3, none⟩ = some (.slice ra l.recs.length rc) ∧ _ from ⟨by have q : (w5.drew.setCell ⟨P, 7, none⟩ (.int .i64 fn)).cell? ⟨P, 5, none⟩ = some (.int .i64 (l.fin : Nat)) := hst.cells.2.2.2.2.2.1; rw [HFD.out] at q; exact q, hst.cells.2.2.2.1, hst2⟩)
    have g5 : w5.drew.cell? ⟨P, 5, none⟩ = some (.int .i64 fn) := by have q : w5.drew.cell? ⟨P, 5, none⟩ = some (.int .i64 (l.fin : Nat)) := hlE.cells.2.2.2.2.2.1; rw [HFD.out] at q; exact q
    have g3 : w5.drew.cell? ⟨P, 3, none⟩ = some (.slice ra l.recs.length rc) := hlE.cells.2.2.2.1
    have f7 : w5.drew.frozen? ⟨P, 7, none⟩ = false := free_of hlE.hP
    have g7 : w5.cell? ⟨P, 7, none⟩ = _ := hlE.cells.2.2.2.2.2.2.2
    have g4 : w5.cell? ⟨P, 4, none⟩ = _ := hlE.cells.2.2.2.2.1
    have f4' : w5.frozen? ⟨P, 4, none⟩ = false := free_of hlE.hP
    have f4 : (w5.drew.setCell ⟨P, 7, none⟩ (.int .i64 fn)).frozen? ⟨P, 4, none⟩ = false := free_of hst.hP
    have HDE := Lib.hid ((hdE.set_ (o := 7) (v := .int .i64 fn) hlE.hP).set_ (o := 4) (v := .int .i64 l.recs.length) hst.hP)
    have HCE := Lib.hid ((hcE.trans (LChg.only (S := LgOwn P I (.slice ra l.recs.length rc)) (Only.set w5.drew P 7 (.int .i64 fn)) HL.out.bP (.inl rfl)) (fun i _ h => h)).trans (LChg.only (S := LgOwn P I (.slice ra l.recs.length rc)) (Only.set _ P 4 (.int .i64 l.recs.length)) HL.out.bP (.inl rfl)) (fun i _ h => h))
    clear hst hst2 hlE hdE hcE
    refine Go.Proofs.YtcjhligknhpadaaDoorW.PrintLast.start_ (n := 17) (S := fun v => v.cell? ⟨P, 5, none⟩ = some (.int .i64 fn) ∧ v.cell? ⟨P, 3, none⟩ = some (.slice ra l.recs.length rc)) (ds := [16]) #[false, false, false, false, false, false, false, false, false, false, false, false, false, false, false, false, false] (by kernel_rfl) rfl rfl ⟨g5, g3⟩ (fun hHeld => ?_)
    refine Go.Proofs.YtcjhligknhpadaaDoorW.PrintLast.pure_ (i := 0) (N := some 52) (v := ?_) (a' := ?_) #[true, false, false, false, false, false, false, false, false, false, false, false, false, false, false, false, false] rfl rfl (by kernel_rfl) (fun _ _ _ h => h) (Or.inl ⟨by rfl, ?_⟩) ?_ ?_
    rotate_left
    · intro w'
      go_simp
      with_reducible rfl
    rotate_left
    · simp only [Act.put, List.setIfInBounds_toArray, List.set_cons_zero, List.set_cons_succ, Go.Proofs.YtcjhligknhpadaaDoorW.PrintLast.i64_w, Go.Proofs.YtcjhligknhpadaaDoorW.PrintLast.i32_w]
      rfl
    refine Go.Proofs.YtcjhligknhpadaaDoorW.PrintLast.pure_ (i := 1) (N := some 53) (v := ?_) (a' := ?_) #[true, true, false, false, false, false, false, false, false, false, false, false, false, false, false, false, false] rfl rfl (by kernel_rfl) (fun _ _ _ h => h) (Or.inl ⟨by rfl, ?_⟩) ?_ ?_
    rotate_left
    · intro w'
      go_simp
      with_reducible rfl
    rotate_left
    · simp only [Act.put, List.setIfInBounds_toArray, List.set_cons_zero, List.set_cons_succ, Go.Proofs.YtcjhligknhpadaaDoorW.PrintLast.i64_w, Go.Proofs.YtcjhligknhpadaaDoorW.PrintLast.i32_w]
      rfl
    refine Go.Proofs.YtcjhligknhpadaaDoorW.PrintLast.pure_ (i := 2) (N := some 54) (v := ?_) (a' := ?_) #[true, true, true, false, false, false, false, false, false, false, false, false, false, false, false, false, false] rfl rfl (by kernel_rfl) (fun _ _ _ h => h) (Or.inl ⟨by rfl, ?_⟩) ?_ ?_
    rotate_left
    · intro w'
      go_simp
      with_reducible rfl
    rotate_left
    · simp only [Act.put, List.setIfInBounds_toArray, List.set_cons_zero, List.set_cons_succ, Go.Proofs.YtcjhligknhpadaaDoorW.PrintLast.i64_w, Go.Proofs.YtcjhligknhpadaaDoorW.PrintLast.i32_w]
      rfl
    refine Go.Proofs.YtcjhligknhpadaaDoorW.PrintLast.pure_ (i := 3) (N := some 55) (v := ?_) (a' := ?_) #[true, true, true, true, false, false, false, false, false, false, false, false, false, false, false, false, false] rfl rfl (by kernel_rfl) (fun _ _ _ h => h) (Or.inl ⟨by rfl, ?_⟩) ?_ ?_
    rotate_left
    · intro w'
      go_simp
      with_reducible rfl
    rotate_left
    · simp only [Act.put, List.setIfInBounds_toArray, List.set_cons_zero, List.set_cons_succ, Go.Proofs.YtcjhligknhpadaaDoorW.PrintLast.i64_w, Go.Proofs.YtcjhligknhpadaaDoorW.PrintLast.i32_w]
      rfl
    refine Go.Proofs.YtcjhligknhpadaaDoorW.PrintLast.pure_ (i := 4) (N := some 56) (v := ?_) (a' := ?_) #[true, true, true, true, true, false, false, false, false, false, false, false, false, false, false, false, false] rfl rfl (by kernel_rfl) (fun _ _ _ h => h) (Or.inl ⟨by rfl, ?_⟩) ?_ ?_
    rotate_left
    · intro w'
      go_simp
      with_reducible rfl
    rotate_left
    · simp only [Act.put, List.setIfInBounds_toArray, List.set_cons_zero, List.set_cons_succ, Go.Proofs.YtcjhligknhpadaaDoorW.PrintLast.i64_w, Go.Proofs.YtcjhligknhpadaaDoorW.PrintLast.i32_w]
      rfl
    refine Go.Proofs.YtcjhligknhpadaaDoorW.PrintLast.take_ (i := 5) (N := some 57) (v := ?_) (a' := ?_) #[true, true, true, true, true, true, false, false, false, false, false, false, false, false, false, false, false] rfl rfl (by kernel_rfl) (fun _ _ _ h => h) (Or.inl ⟨by rfl, ?_⟩) hHeld ?_ ?_
    rotate_left
    · rintro w' ⟨s0, s1⟩
      go_simp
      with_reducible rfl
    rotate_left
    · simp only [Act.put, List.setIfInBounds_toArray, List.set_cons_zero, List.set_cons_succ, Go.Proofs.YtcjhligknhpadaaDoorW.PrintLast.i64_w, Go.Proofs.YtcjhligknhpadaaDoorW.PrintLast.i32_w]
      rfl
    refine Go.Proofs.YtcjhligknhpadaaDoorW.PrintLast.pure_ (i := 6) (N := some 58) (v := ?_) (a' := ?_) #[true, true, true, true, true, true, true, false, false, false, false, false, false, false, false, false, false] rfl rfl (by kernel_rfl) (fun _ _ _ h => h) (Or.inl ⟨by rfl, ?_⟩) ?_ ?_
    rotate_left
    · intro w'
      go_simp
      with_reducible rfl
    rotate_left
    · simp only [Act.put, List.setIfInBounds_toArray, List.set_cons_zero, List.set_cons_succ, Go.Proofs.YtcjhligknhpadaaDoorW.PrintLast.i64_w, Go.Proofs.YtcjhligknhpadaaDoorW.PrintLast.i32_w]
      rfl
    refine Go.Proofs.YtcjhligknhpadaaDoorW.PrintLast.pure_ (i := 7) (N := some 59) (v := ?_) (a' := ?_) #[true, true, true, true, true, true, true, true, false, false, false, false, false, false, false, false, false] rfl rfl (by kernel_rfl) (fun _ _ _ h => h) (Or.inl ⟨by rfl, ?_⟩) ?_ ?_
    rotate_left
    · intro w'
      go_simp
      with_reducible rfl
    rotate_left
    · simp only [Act.put, List.setIfInBounds_toArray, List.set_cons_zero, List.set_cons_succ, Go.Proofs.YtcjhligknhpadaaDoorW.PrintLast.i64_w, Go.Proofs.YtcjhligknhpadaaDoorW.PrintLast.i32_w]
      rfl
    refine Go.Proofs.YtcjhligknhpadaaDoorW.PrintLast.pure_ (i := 8) (N := some 60) (v := ?_) (a' := ?_) #[true, true, true, true, true, true, true, true, true, false, false, false, false, false, false, false, false] rfl rfl (by kernel_rfl) (fun _ _ _ h => h) (Or.inl ⟨by rfl, ?_⟩) ?_ ?_
    rotate_left
    · intro w'
      go_simp
      with_reducible rfl
    rotate_left
    · simp only [Act.put, List.setIfInBounds_toArray, List.set_cons_zero, List.set_cons_succ, Go.Proofs.YtcjhligknhpadaaDoorW.PrintLast.i64_w, Go.Proofs.YtcjhligknhpadaaDoorW.PrintLast.i32_w]
      rfl
    refine Go.Proofs.YtcjhligknhpadaaDoorW.PrintLast.take_ (i := 9) (N := some 61) (v := ?_) (a' := ?_) #[true, true, true, true, true, true, true, true, true, true, false, false, false, false, false, false, false] rfl rfl (by kernel_rfl) (fun _ _ _ h => h) (Or.inl ⟨by rfl, ?_⟩) hHeld ?_ ?_
    rotate_left
    · rintro w' ⟨s0, s1⟩
      go_simp
      with_reducible rfl
    rotate_left
    · simp only [Act.put, List.setIfInBounds_toArray, List.set_cons_zero, List.set_cons_succ, Go.Proofs.YtcjhligknhpadaaDoorW.PrintLast.i64_w, Go.Proofs.YtcjhligknhpadaaDoorW.PrintLast.i32_w]
      rfl
    refine Go.Proofs.YtcjhligknhpadaaDoorW.PrintLast.take_ (i := 10) (N := some 62) (v := ?_) (a' := ?_) #[true, true, true, true, true, true, true, true, true, true, true, false, false, false, false, false, false] rfl rfl (by kernel_rfl) (fun _ _ _ h => h) (Or.inl ⟨by rfl, ?_⟩) hHeld ?_ ?_
    rotate_left
    · rintro w' ⟨s0, s1⟩
      go_simp
      with_reducible rfl
    rotate_left
    · simp only [Act.put, List.setIfInBounds_toArray, List.set_cons_zero, List.set_cons_succ, Go.Proofs.YtcjhligknhpadaaDoorW.PrintLast.i64_w, Go.Proofs.YtcjhligknhpadaaDoorW.PrintLast.i32_w]
      rfl
    refine Go.Proofs.YtcjhligknhpadaaDoorW.PrintLast.pure_ (i := 11) (N := some 63) (v := ?_) (a' := ?_) #[true, true, true, true, true, true, true, true, true, true, true, true, false, false, false, false, false] rfl rfl (by kernel_rfl) (fun _ _ _ h => h) (Or.inl ⟨by rfl, ?_⟩) ?_ ?_
    rotate_left
    · intro w'
      go_simp
      with_reducible rfl
    rotate_left
    · simp only [Act.put, List.setIfInBounds_toArray, List.set_cons_zero, List.set_cons_succ, Go.Proofs.YtcjhligknhpadaaDoorW.PrintLast.i64_w, Go.Proofs.YtcjhligknhpadaaDoorW.PrintLast.i32_w]
      rfl
    refine Go.Proofs.YtcjhligknhpadaaDoorW.PrintLast.pure_ (i := 12) (N := some 64) (v := ?_) (a' := ?_) #[true, true, true, true, true, true, true, true, true, true, true, true, true, false, false, false, false] rfl rfl (by kernel_rfl) (fun _ _ _ h => h) (Or.inl ⟨by rfl, ?_⟩) ?_ ?_
    rotate_left
    · intro w'
      go_simp
      with_reducible rfl
    rotate_left
    · simp only [Act.put, List.setIfInBounds_toArray, List.set_cons_zero, List.set_cons_succ, Go.Proofs.YtcjhligknhpadaaDoorW.PrintLast.i64_w, Go.Proofs.YtcjhligknhpadaaDoorW.PrintLast.i32_w]
      rfl
    refine Go.Proofs.YtcjhligknhpadaaDoorW.PrintLast.one_ (i := 13) (N := none) #[true, true, true, true, true, true, true, true, true, true, true, true, true, true, false, false, false] rfl rfl (by kernel_rfl) (by decide) (fun K hK => ?_)
    refine Go.Proofs.YtcjhligknhpadaaDoorW.PrintLast.skip_ (w1 := w5.drew.setCell ⟨P, 7, none⟩ (.int .i64 fn)) (by rfl) rfl (by go_simp) ?_
    refine hK.out _ _ ⟨HST.out.1, HST.out.2.1⟩ (fun hHeld => ?_)
    clear hK K
    refine Go.Proofs.YtcjhligknhpadaaDoorW.PrintLast.pure_ (i := 14) (N := some 65) (v := ?_) (a' := ?_) #[true, true, true, true, true, true, true, true, true, true, true, true, true, true, true, false, false] rfl rfl (by kernel_rfl) (fun _ _ _ h => h) (Or.inl ⟨by rfl, ?_⟩) ?_ ?_
    rotate_left
    · intro w'
      go_simp
      with_reducible rfl
    rotate_left
    · simp only [Act.put, List.setIfInBounds_toArray, List.set_cons_zero, List.set_cons_succ, Go.Proofs.YtcjhligknhpadaaDoorW.PrintLast.i64_w, Go.Proofs.YtcjhligknhpadaaDoorW.PrintLast.i32_w]
      rfl
    refine Go.Proofs.YtcjhligknhpadaaDoorW.PrintLast.pure_ (i := 15) (N := some 66) (v := ?_) (a' := ?_) #[true, true, true, true, true, true, true, true, true, true, true, true, true, true, true, true, false] rfl rfl (by kernel_rfl) (fun _ _ _ h => h) (Or.inl ⟨by rfl, ?_⟩) ?_ ?_
    rotate_left
    · intro w'
      go_simp
      with_reducible rfl
    rotate_left
    · simp only [Act.put, List.setIfInBounds_toArray, List.set_cons_zero, List.set_cons_succ, Go.Proofs.YtcjhligknhpadaaDoorW.PrintLast.i64_w, Go.Proofs.YtcjhligknhpadaaDoorW.PrintLast.i32_w]
      rfl
    refine Go.Proofs.YtcjhligknhpadaaDoorW.PrintLast.last_ (i := 16) (N := none) #[true, true, true, true, true, true, true, true, true, true, true, true, true, true, true, true, true] rfl rfl (by kernel_rfl) (by decide) (fun K hK => ?_)
    refine Go.Proofs.YtcjhligknhpadaaDoorW.PrintLast.skip_ (w1 := (w5.drew.setCell ⟨P, 7, none⟩ (.int .i64 fn)).setCell ⟨P, 4, none⟩ (.int .i64 l.recs.length)) (by rfl) rfl (by go_simp) ?_
    refine hK.out _ _ ?_
    clear hK K
    refine Go.Proofs.YtcjhligknhpadaaDoorW.PrintLast.done_ (by kernel_rfl) ?_
    go_wp2_with fail
    go_ret
    have hM1 := HST.out.2.2
    have hM2 := HDE.out
    rw [HSD.out, HFD.out] at hM1
    refine ⟨rfl, hM1, ?_, HCE.out⟩
    unfold flushD
    rw [if_pos hlt]
    exact hM2
  · have t0 : decide ((dt : Int) < (fn : Int)) = false := decide_eq_false (by omega)
    have hlE := HL.out.below (Below.refl _ _).drew.drew
    have hdE := HD.out.below (Below.refl _ _).drew.drew
    have hcE : LChg base (LgOwn P I (.slice ra l.recs.length rc)) w w.drew.drew := LChg.only (g := P) (⟨rfl, rfl, rfl, rfl, fun _ _ => rfl⟩ : Only P w w.drew.drew) HL.out.bP (.inl rfl)
    have hst := hlE.dirty_ fn
    have hst2 := hst.flushed_ l.recs.length
    have HST := Lib.hid (show (w.drew.drew.setCell ⟨P, 7, none⟩ (.int .i64 fn)).cell? ⟨P, 5, none⟩ = some (.int .i64 fn) ∧ (w.drew.drew.setCell ⟨P, 7, none⟩ (.int .i64 fn)).cell? ⟨P, 3, none⟩ = some (.slice ra l.recs.length rc) ∧ _ from ⟨by have q : (w.drew.drew.setCell ⟨P, 7, none⟩ (.int .i64 fn)).cell? ⟨P, 5, none⟩ = some (.int .i64 (l.fin : Nat)) := hst.cells.2.2.2.2.2.1; rw [HFD.out] at q; exact q, hst.cells.2.2.2.1, hst2⟩)
    have g5 : w.drew.drew.cell? ⟨P, 5, none⟩ = some (.int .i64 fn) := by have q : w.drew.drew.cell? ⟨P, 5, none⟩ = some (.int .i64 (l.fin : Nat)) := hlE.cells.2.2.2.2.2.1; rw [HFD.out] at q; exact q
    have g3 : w.drew.drew.cell? ⟨P, 3, none⟩ = some (.slice ra l.recs.length rc) := hlE.cells.2.2.2.1
    have f7 : w.drew.drew.frozen? ⟨P, 7, none⟩ = false := free_of hlE.hP
    have g7 : w.cell? ⟨P, 7, none⟩ = _ := hlE.cells.2.2.2.2.2.2.2
    have g4 : w.cell? ⟨P, 4, none⟩ = _ := hlE.cells.2.2.2.2.1
    have f4' : w.frozen? ⟨P, 4, none⟩ = false := free_of hlE.hP
    have f4 : (w.drew.drew.setCell ⟨P, 7, none⟩ (.int .i64 fn)).frozen? ⟨P, 4, none⟩ = false := free_of hst.hP
    have HDE := Lib.hid ((hdE.set_ (o := 7) (v := .int .i64 fn) hlE.hP).set_ (o := 4) (v := .int .i64 l.recs.length) hst.hP)
    have HCE := Lib.hid ((hcE.trans (LChg.only (S := LgOwn P I (.slice ra l.recs.length rc)) (Only.set w.drew.drew P 7 (.int .i64 fn)) HL.out.bP (.inl rfl)) (fun i _ h => h)).trans (LChg.only (S := LgOwn P I (.slice ra l.recs.length rc)) (Only.set _ P 4 (.int .i64 l.recs.length)) HL.out.bP (.inl rfl)) (fun i _ h => h))
    clear hst hst2 hlE hdE hcE
    go_enter Tryd.func12, Tryd.ntmps12
    go_wp2_with fail
    refine Go.Proofs.YtcjhligknhpadaaDoorW.PrintLast.start_ (n := 9) (S := fun v => v.cell? ⟨P, 7, none⟩ = some (.int .i64 dt) ∧ v.cell? ⟨P, 5, none⟩ = some (.int .i64 fn)) (ds := [8]) #[false, false, false, false, false, false, false, false, false] (by kernel_rfl) rfl rfl ⟨c7, c5⟩ (fun hHeld => ?_)
    refine Go.Proofs.YtcjhligknhpadaaDoorW.PrintLast.pure_ (i := 0) (N := some 7) (v := ?_) (a' := ?_) #[true, false, false, false, false, false, false, false, false] rfl rfl (by kernel_rfl) (fun _ _ _ h => h) (Or.inl ⟨by rfl, ?_⟩) ?_ ?_
    rotate_left
    · intro w'
      go_simp
      with_reducible rfl
    rotate_left
    · simp only [Act.put, List.setIfInBounds_toArray, List.set_cons_zero, List.set_cons_succ, Go.Proofs.YtcjhligknhpadaaDoorW.PrintLast.i64_w, Go.Proofs.YtcjhligknhpadaaDoorW.PrintLast.i32_w]
      rfl
    refine Go.Proofs.YtcjhligknhpadaaDoorW.PrintLast.pure_ (i := 1) (N := some 8) (v := ?_) (a' := ?_) #[true, true, false, false, false, false, false, false, false] rfl rfl (by kernel_rfl) (fun _ _ _ h => h) (Or.inl ⟨by rfl, ?_⟩) ?_ ?_
    rotate_left
    · intro w'
      go_simp
      with_reducible rfl
    rotate_left
    · simp only [Act.put, List.setIfInBounds_toArray, List.set_cons_zero, List.set_cons_succ, Go.Proofs.YtcjhligknhpadaaDoorW.PrintLast.i64_w, Go.Proofs.YtcjhligknhpadaaDoorW.PrintLast.i32_w]
      rfl
    refine Go.Proofs.YtcjhligknhpadaaDoorW.PrintLast.pure_ (i := 2) (N := some 9) (v := ?_) (a' := ?_) #[true, true, true, false, false, false, false, false, false] rfl rfl (by kernel_rfl) (fun _ _ _ h => h) (Or.inl ⟨by rfl, ?_⟩) ?_ ?_
    rotate_left
    · intro w'
      go_simp
      with_reducible rfl
    rotate_left
    · simp only [Act.put, List.setIfInBounds_toArray, List.set_cons_zero, List.set_cons_succ, Go.Proofs.YtcjhligknhpadaaDoorW.PrintLast.i64_w, Go.Proofs.YtcjhligknhpadaaDoorW.PrintLast.i32_w]
      rfl
    refine Go.Proofs.YtcjhligknhpadaaDoorW.PrintLast.take_ (i := 3) (N := some 10) (v := ?_) (a' := ?_) #[true, true, true, true, false, false, false, false, false] rfl rfl (by kernel_rfl) (fun _ _ _ h => h) (Or.inl ⟨by rfl, ?_⟩) hHeld ?_ ?_
    rotate_left
    · rintro w' ⟨s0, s1⟩
      go_simp
      with_reducible rfl
    rotate_left
    · simp only [Act.put, List.setIfInBounds_toArray, List.set_cons_zero, List.set_cons_succ, Go.Proofs.YtcjhligknhpadaaDoorW.PrintLast.i64_w, Go.Proofs.YtcjhligknhpadaaDoorW.PrintLast.i32_w]
      rfl
    refine Go.Proofs.YtcjhligknhpadaaDoorW.PrintLast.pure_ (i := 4) (N := some 11) (v := ?_) (a' := ?_) #[true, true, true, true, true, false, false, false, false] rfl rfl (by kernel_rfl) (fun _ _ _ h => h) (Or.inl ⟨by rfl, ?_⟩) ?_ ?_
    rotate_left
    · intro w'
      go_simp
      with_reducible rfl
    rotate_left
    · simp only [Act.put, List.setIfInBounds_toArray, List.set_cons_zero, List.set_cons_succ, Go.Proofs.YtcjhligknhpadaaDoorW.PrintLast.i64_w, Go.Proofs.YtcjhligknhpadaaDoorW.PrintLast.i32_w]
      rfl
    refine Go.Proofs.YtcjhligknhpadaaDoorW.PrintLast.pure_ (i := 5) (N := some 12) (v := ?_) (a' := ?_) #[true, true, true, true, true, true, false, false, false] rfl rfl (by kernel_rfl) (fun _ _ _ h => h) (Or.inl ⟨by rfl, ?_⟩) ?_ ?_
    rotate_left
    · intro w'
      go_simp
      with_reducible rfl
    rotate_left
    · simp only [Act.put, List.setIfInBounds_toArray, List.set_cons_zero, List.set_cons_succ, Go.Proofs.YtcjhligknhpadaaDoorW.PrintLast.i64_w, Go.Proofs.YtcjhligknhpadaaDoorW.PrintLast.i32_w]
      rfl
    refine Go.Proofs.YtcjhligknhpadaaDoorW.PrintLast.pure_ (i := 6) (N := some 13) (v := ?_) (a' := ?_) #[true, true, true, true, true, true, true, false, false] rfl rfl (by kernel_rfl) (fun _ _ _ h => h) (Or.inl ⟨by rfl, ?_⟩) ?_ ?_
    rotate_left
    · intro w'
      go_simp
      with_reducible rfl
    rotate_left
    · simp only [Act.put, List.setIfInBounds_toArray, List.set_cons_zero, List.set_cons_succ, Go.Proofs.YtcjhligknhpadaaDoorW.PrintLast.i64_w, Go.Proofs.YtcjhligknhpadaaDoorW.PrintLast.i32_w]
      rfl
    refine Go.Proofs.YtcjhligknhpadaaDoorW.PrintLast.take_ (i := 7) (N := some 14) (v := ?_) (a' := ?_) #[true, true, true, true, true, true, true, true, false] rfl rfl (by kernel_rfl) (fun _ _ _ h => h) (Or.inl ⟨by rfl, ?_⟩) hHeld ?_ ?_
    rotate_left
    · rintro w' ⟨s0, s1⟩
      go_simp
      with_reducible rfl
    rotate_left
    · simp only [Act.put, List.setIfInBounds_toArray, List.set_cons_zero, List.set_cons_succ, Go.Proofs.YtcjhligknhpadaaDoorW.PrintLast.i64_w, Go.Proofs.YtcjhligknhpadaaDoorW.PrintLast.i32_w]
      rfl
    refine Go.Proofs.YtcjhligknhpadaaDoorW.PrintLast.pure_ (i := 8) (N := some 15) (v := ?_) (a' := ?_) #[true, true, true, true, true, true, true, true, true] rfl rfl (by kernel_rfl) (fun _ _ _ h => h) (Or.inl ⟨by rfl, ?_⟩) ?_ ?_
    rotate_left
    · intro w'
      go_simp
      with_reducible rfl
    rotate_left
    · simp only [Act.put, List.setIfInBounds_toArray, List.set_cons_zero, List.set_cons_succ, Go.Proofs.YtcjhligknhpadaaDoorW.PrintLast.i64_w, Go.Proofs.YtcjhligknhpadaaDoorW.PrintLast.i32_w]
      rfl
    refine Go.Proofs.YtcjhligknhpadaaDoorW.PrintLast.done_ (by kernel_rfl) ?_
    go_wp2_with fail
    refine Go.Proofs.YtcjhligknhpadaaDoorW.PrintLast.start_ (n := 17) (S := fun v => v.cell? ⟨P, 5, none⟩ = some (.int .i64 fn) ∧ v.cell? ⟨P, 3, none⟩ = some (.slice ra l.recs.length rc)) (ds := [16]) #[false, false, false, false, false, false, false, false, false, false, false, false, false, false, false, false, false] (by kernel_rfl) rfl rfl ⟨g5, g3⟩ (fun hHeld => ?_)
    refine Go.Proofs.YtcjhligknhpadaaDoorW.PrintLast.pure_ (i := 0) (N := some 52) (v := ?_) (a' := ?_) #[true, false, false, false, false, false, false, false, false, false, false, false, false, false, false, false, false] rfl rfl (by kernel_rfl) (fun _ _ _ h => h) (Or.inl ⟨by rfl, ?_⟩) ?_ ?_
    rotate_left
    · intro w'
      go_simp
      with_reducible rfl
    rotate_left
    · simp only [Act.put, List.setIfInBounds_toArray, List.set_cons_zero, List.set_cons_succ, Go.Proofs.YtcjhligknhpadaaDoorW.PrintLast.i64_w, Go.Proofs.YtcjhligknhpadaaDoorW.PrintLast.i32_w]
      rfl
    refine Go.Proofs.YtcjhligknhpadaaDoorW.PrintLast.pure_ (i := 1) (N := some 53) (v := ?_) (a' := ?_) #[true, true, false, false, false, false, false, false, false, false, false, false, false, false, false, false, false] rfl rfl (by kernel_rfl) (fun _ _ _ h => h) (Or.inl ⟨by rfl, ?_⟩) ?_ ?_
    rotate_left
    · intro w'
      go_simp
      with_reducible rfl
    rotate_left
    · simp only [Act.put, List.setIfInBounds_toArray, List.set_cons_zero, List.set_cons_succ, Go.Proofs.YtcjhligknhpadaaDoorW.PrintLast.i64_w, Go.Proofs.YtcjhligknhpadaaDoorW.PrintLast.i32_w]
      rfl
    refine Go.Proofs.YtcjhligknhpadaaDoorW.PrintLast.pure_ (i := 2) (N := some 54) (v := ?_) (a' := ?_) #[true, true, true, false, false, false, false, false, false, false, false, false, false, false, false, false, false] rfl rfl (by kernel_rfl) (fun _ _ _ h => h) (Or.inl ⟨by rfl, ?_⟩) ?_ ?_
    rotate_left
    · intro w'
      go_simp
      with_reducible rfl
    rotate_left
    · simp only [Act.put, List.setIfInBounds_toArray, List.set_cons_zero, List.set_cons_succ, Go.Proofs.YtcjhligknhpadaaDoorW.PrintLast.i64_w, Go.Proofs.YtcjhligknhpadaaDoorW.PrintLast.i32_w]
      rfl
    refine Go.Proofs.YtcjhligknhpadaaDoorW.PrintLast.pure_ (i := 3) (N := some 55) (v := ?_) (a' := ?_) #[true, true, true, true, false, false, false, false, false, false, false, false, false, false, false, false, false] rfl rfl (by kernel_rfl) (fun _ _ _ h => h) (Or.inl ⟨by rfl, ?_⟩) ?_ ?_
    rotate_left
    · intro w'
      go_simp
      with_reducible rfl
    rotate_left
    · simp only [Act.put, List.setIfInBounds_toArray, List.set_cons_zero, List.set_cons_succ, Go.Proofs.YtcjhligknhpadaaDoorW.PrintLast.i64_w, Go.Proofs.YtcjhligknhpadaaDoorW.PrintLast.i32_w]
      rfl
    refine Go.Proofs.YtcjhligknhpadaaDoorW.PrintLast.pure_ (i := 4) (N := some 56) (v := ?_) (a' := ?_) #[true, true, true, true, true, false, false, false, false, false, false, false, false, false, false, false, false] rfl rfl (by kernel_rfl) (fun _ _ _ h => h) (Or.inl ⟨by rfl, ?_⟩) ?_ ?_
    rotate_left
    · intro w'
      go_simp
      with_reducible rfl
    rotate_left
    · simp only [Act.put, List.setIfInBounds_toArray, List.set_cons_zero, List.set_cons_succ, Go.Proofs.YtcjhligknhpadaaDoorW.PrintLast.i64_w, Go.Proofs.YtcjhligknhpadaaDoorW.PrintLast.i32_w]
      rfl
    refine Go.Proofs.YtcjhligknhpadaaDoorW.PrintLast.take_ (i := 5) (N := some 57) (v := ?_) (a' := ?_) #[true, true, true, true, true, true, false, false, false, false, false, false, false, false, false, false, false] rfl rfl (by kernel_rfl) (fun _ _ _ h => h) (Or.inl ⟨by rfl, ?_⟩) hHeld ?_ ?_
    rotate_left
    · rintro w' ⟨s0, s1⟩
      go_simp
      with_reducible rfl
    rotate_left
    · simp only [Act.put, List.setIfInBounds_toArray, List.set_cons_zero, List.set_cons_succ, Go.Proofs.YtcjhligknhpadaaDoorW.PrintLast.i64_w, Go.Proofs.YtcjhligknhpadaaDoorW.PrintLast.i32_w]
      rfl
    refine Go.Proofs.YtcjhligknhpadaaDoorW.PrintLast.pure_ (i := 6) (N := some 58) (v := ?_) (a' := ?_) #[true, true, true, true, true, true, true, false, false, false, false, false, false, false, false, false, false] rfl rfl (by kernel_rfl) (fun _ _ _ h => h) (Or.inl ⟨by rfl, ?_⟩) ?_ ?_
    rotate_left
    · intro w'
      go_simp
      with_reducible rfl
    rotate_left
    · simp only [Act.put, List.setIfInBounds_toArray, List.set_cons_zero, List.set_cons_succ, Go.Proofs.YtcjhligknhpadaaDoorW.PrintLast.i64_w, Go.Proofs.YtcjhligknhpadaaDoorW.PrintLast.i32_w]
      rfl
    refine Go.Proofs.YtcjhligknhpadaaDoorW.PrintLast.pure_ (i := 7) (N := some 59) (v := ?_) (a' := ?_) #[true, true, true, true, true, true, true, true, false, false, false, false, false, false, false, false, false] rfl rfl (by kernel_rfl) (fun _ _ _ h => h) (Or.inl ⟨by rfl, ?_⟩) ?_ ?_
    rotate_left
    · intro w'
      go_simp
      with_reducible rfl
    rotate_left
    · simp only [Act.put, List.setIfInBounds_toArray, List.set_cons_zero, List.set_cons_succ, Go.Proofs.YtcjhligknhpadaaDoorW.PrintLast.i64_w, Go.Proofs.YtcjhligknhpadaaDoorW.PrintLast.i32_w]
      rfl
    refine Go.Proofs.YtcjhligknhpadaaDoorW.PrintLast.pure_ (i := 8) (N := some 60) (v := ?_) (a' := ?_) #[true, true, true, true, true, true, true, true, true, false, false, false, false, false, false, false, false] rfl rfl (by kernel_rfl) (fun _ _ _ h => h) (Or.inl ⟨by rfl, ?_⟩) ?_ ?_
    rotate_left
    · intro w'
      go_simp
      with_reducible rfl
    rotate_left
    · simp only [Act.put, List.setIfInBounds_toArray, List.set_cons_zero, List.set_cons_succ, Go.Proofs.YtcjhligknhpadaaDoorW.PrintLast.i64_w, Go.Proofs.YtcjhligknhpadaaDoorW.PrintLast.i32_w]
      rfl
    refine Go.Proofs.YtcjhligknhpadaaDoorW.PrintLast.take_ (i := 9) (N := some 61) (v := ?_) (a' := ?_) #[true, true, true, true, true, true, true, true, true, true, false, false, false, false, false, false, false] rfl rfl (by kernel_rfl) (fun _ _ _ h => h) (Or.inl ⟨by rfl, ?_⟩) hHeld ?_ ?_
    rotate_left
    · rintro w' ⟨s0, s1⟩
      go_simp
      with_reducible rfl
    rotate_left
    · simp only [Act.put, List.setIfInBounds_toArray, List.set_cons_zero, List.set_cons_succ, Go.Proofs.YtcjhligknhpadaaDoorW.PrintLast.i64_w, Go.Proofs.YtcjhligknhpadaaDoorW.PrintLast.i32_w]
      rfl
    refine Go.Proofs.YtcjhligknhpadaaDoorW.PrintLast.take_ (i := 10) (N := some 62) (v := ?_) (a' := ?_) #[true, true, true, true, true, true, true, true, true, true, true, false, false, false, false, false, false] rfl rfl (by kernel_rfl) (fun _ _ _ h => h) (Or.inl ⟨by rfl, ?_⟩) hHeld ?_ ?_
    rotate_left
    · rintro w' ⟨s0, s1⟩
      go_simp
      with_reducible rfl
    rotate_left
    · simp only [Act.put, List.setIfInBounds_toArray, List.set_cons_zero, List.set_cons_succ, Go.Proofs.YtcjhligknhpadaaDoorW.PrintLast.i64_w, Go.Proofs.YtcjhligknhpadaaDoorW.PrintLast.i32_w]
      rfl
    refine Go.Proofs.YtcjhligknhpadaaDoorW.PrintLast.pure_ (i := 11) (N := some 63) (v := ?_) (a' := ?_) #[true, true, true, true, true, true, true, true, true, true, true, true, false, false, false, false, false] rfl rfl (by kernel_rfl) (fun _ _ _ h => h) (Or.inl ⟨by rfl, ?_⟩) ?_ ?_
    rotate_left
    · intro w'
      go_simp
      with_reducible rfl
    rotate_left
    · simp only [Act.put, List.setIfInBounds_toArray, List.set_cons_zero, List.set_cons_succ, Go.Proofs.YtcjhligknhpadaaDoorW.PrintLast.i64_w, Go.Proofs.YtcjhligknhpadaaDoorW.PrintLast.i32_w]
      rfl
    refine Go.Proofs.YtcjhligknhpadaaDoorW.PrintLast.pure_ (i := 12) (N := some 64) (v := ?_) (a' := ?_) #[true, true, true, true, true, true, true, true, true, true, true, true, true, false, false, false, false] rfl rfl (by kernel_rfl) (fun _ _ _ h => h) (Or.inl ⟨by rfl, ?_⟩) ?_ ?_
    rotate_left
    · intro w'
      go_simp
      with_reducible rfl
    rotate_left
    · simp only [Act.put, List.setIfInBounds_toArray, List.set_cons_zero, List.set_cons_succ, Go.Proofs.YtcjhligknhpadaaDoorW.PrintLast.i64_w, Go.Proofs.YtcjhligknhpadaaDoorW.PrintLast.i32_w]
      rfl
    refine Go.Proofs.YtcjhligknhpadaaDoorW.PrintLast.one_ (i := 13) (N := none) #[true, true, true, true, true, true, true, true, true, true, true, true, true, true, false, false, false] rfl rfl (by kernel_rfl) (by decide) (fun K hK => ?_)
    refine Go.Proofs.YtcjhligknhpadaaDoorW.PrintLast.skip_ (w1 := w.drew.drew.setCell ⟨P, 7, none⟩ (.int .i64 fn)) (by rfl) rfl (by go_simp) ?_
    refine hK.out _ _ ⟨HST.out.1, HST.out.2.1⟩ (fun hHeld => ?_)
    clear hK K
    refine Go.Proofs.YtcjhligknhpadaaDoorW.PrintLast.pure_ (i := 14) (N := some 65) (v := ?_) (a' := ?_) #[true, true, true, true, true, true, true, true, true, true, true, true, true, true, true, false, false] rfl rfl (by kernel_rfl) (fun _ _ _ h => h) (Or.inl ⟨by rfl, ?_⟩) ?_ ?_
    rotate_left
    · intro w'
      go_simp
      with_reducible rfl
    rotate_left
    · simp only [Act.put, List.setIfInBounds_toArray, List.set_cons_zero, List.set_cons_succ, Go.Proofs.YtcjhligknhpadaaDoorW.PrintLast.i64_w, Go.Proofs.YtcjhligknhpadaaDoorW.PrintLast.i32_w]
      rfl
    refine Go.Proofs.YtcjhligknhpadaaDoorW.PrintLast.pure_ (i := 15) (N := some 66) (v := ?_) (a' := ?_) #[true, true, true, true, true, true, true, true, true, true, true, true, true, true, true, true, false] rfl rfl (by kernel_rfl) (fun _ _ _ h => h) (Or.inl ⟨by rfl, ?_⟩) ?_ ?_
    rotate_left
    · intro w'
      go_simp
      with_reducible rfl
    rotate_left
    · simp only [Act.put, List.setIfInBounds_toArray, List.set_cons_zero, List.set_cons_succ, Go.Proofs.YtcjhligknhpadaaDoorW.PrintLast.i64_w, Go.Proofs.YtcjhligknhpadaaDoorW.PrintLast.i32_w]
      rfl
    refine Go.Proofs.YtcjhligknhpadaaDoorW.PrintLast.last_ (i := 16) (N := none) #[true, true, true, true, true, true, true, true, true, true, true, true, true, true, true, true, true] rfl rfl (by kernel_rfl) (by decide) (fun K hK => ?_)
    refine Go.Proofs.YtcjhligknhpadaaDoorW.PrintLast.skip_ (w1 := (w.drew.drew.setCell ⟨P, 7, none⟩ (.int .i64 fn)).setCell ⟨P, 4, none⟩ (.int .i64 l.recs.length)) (by rfl) rfl (by go_simp) ?_
    refine hK.out _ _ ?_
    clear hK K
    refine Go.Proofs.YtcjhligknhpadaaDoorW.PrintLast.done_ (by kernel_rfl) ?_
    go_wp2_with fail
    go_ret
    have hM1 := HST.out.2.2
    have hM2 := HDE.out
    rw [HSD.out, HFD.out] at hM1
    refine ⟨rfl, hM1, ?_, HCE.out⟩
    unfold flushD
    rw [if_neg hlt]
    exact hM2
end Dk
end Go.Proofs.YtcjhligknhpadaaDoor
