/-
  Sums, products, quotients, and texts behind one another are as the document says, or refused as it says; whatever the values are. It is proved for every input; the row lists two package-level tables of Go's package unicode/utf8 (tied to the program's text; one of them is pinned).
-/
import Derived.Test.YtlmkhpgnkpgbdaaDoorXSums2
import Derived.Test.YtlmkhpgnkpgbdaaDoorXSums3
import Derived.Test.YtlmkhpgnkpgbdaaDoorXSums1
namespace Go.Proofs.YtlmkhpgnkpgbdaaDoor
open Go.RowKit Go.Proofs.YtlmkhpgnkpgbdaaDoor.PSU2 Go.Proofs.YtlmkhpgnkpgbdaaDoorW.PrintWords Go.Proofs.YtlmkhpgnkpgbdaaDoorW.PrintLast
set_option linter.unusedVariables false
set_option linter.unusedSimpArgs false
namespace Vl
theorem szF_abs (n : Int) (h : Fit n) : szF n = (n.natAbs : Int) := by
  unfold Fit at h
  unfold szF
  split
  · rw [IntKind.wrap_u64, IntKind.wrap_u64]; omega
  · rw [IntKind.wrap_u64]; omega
theorem prod_sign (a b : Int) (p : Nat) (hp : a.natAbs * b.natAbs = p) : ((!(decide (a < 0) == decide (b < 0))) = false → a * b = p) ∧ ((!(decide (a < 0) == decide (b < 0))) = true → a * b = -(p : Int)) := by
  have e : (a * b).natAbs = p := by rw [Int.natAbs_mul, hp]
  by_cases ha : a < 0 <;> by_cases hb : b < 0
  · have := Int.mul_nonneg_of_nonpos_of_nonpos (show a ≤ 0 by omega) (show b ≤ 0 by omega)
    simp [ha, hb]; omega
  · have := Int.mul_nonpos_of_nonpos_of_nonneg (show a ≤ 0 by omega) (show 0 ≤ b by omega)
    simp [ha, hb]; omega
  · have := Int.mul_nonpos_of_nonneg_of_nonpos (show 0 ≤ a by omega) (show b ≤ 0 by omega)
    simp [ha, hb]; omega
  · have := Int.mul_nonneg (show 0 ≤ a by omega) (show 0 ≤ b by omega)
    simp [ha, hb]; omega
set_option maxHeartbeats 1000000 in
theorem mulR_num (a b : Int) (ha : Fit a) (hb : Fit b) (w : World) : Calls Tryd.prog 38 #[.agg #[.int .i64 1, .int .i64 a, .string E, .bool false], .agg #[.int .i64 1, .int .i64 b, .string E, .bool false]] w fun e w' => RetR (mulF a b) e ∧ Below w.heap.size w w' := by
  obtain ⟨p, hp⟩ : ∃ p, a.natAbs * b.natAbs = p := ⟨_, rfl⟩
  have hsg := prod_sign a b p hp
  have ea := szF_abs a ha
  have eb := szF_abs b hb
  have CB : Hid (∀ w, Calls Tryd.prog 66 #[.agg #[.int .i64 1, .int .i64 a, .string E, .bool false], .agg #[.int .i64 1, .int .i64 b, .string E, .bool false], .int .i64 1] w fun e w' => e = .returned (.tuple #[.string sDone, .bool false]) ∧ Below w.heap.size w w') :=
    fun w => stileref01_both.calls 1 a E false 1 b E false 1 sDone false w rfl
  obtain ⟨hi, hhi⟩ : ∃ hi : Int, ((p / 18446744073709551616 : Nat) : Int) = hi := ⟨_, rfl⟩
  obtain ⟨lo, hlo⟩ : ∃ lo : Int, ((p % 18446744073709551616 : Nat) : Int) = lo := ⟨_, rfl⟩
  have CW : Hid (∀ (w : World) n, Calls Tryd.prog 67 #[.int .u64 (szF a), .int .u64 (szF b)] (w.drewN n) fun e w' => e = .returned (.tuple #[.int .u64 hi, .int .u64 lo]) ∧ ∃ m, w' = w.drewN m) := fun w n => by
    unfold Fit at ha hb
    have hw := wide_ok (szF a) (szF b) (by omega) (by omega) (by omega) (by omega)
    have e1 : szF a * szF b = (p : Int) := by rw [ea, eb, ← hp]; exact (Int.natCast_mul _ _).symm
    rw [e1] at hw
    have e2 : (p : Int) / 18446744073709551616 = hi := by omega
    have e3 : (p : Int) % 18446744073709551616 = lo := by omega
    rw [e2, e3] at hw
    refine (stileref01_wide.calls _ _ hi lo _ hw).mono fun e w' ⟨he, hd⟩ => ?_
    obtain ⟨m, hm⟩ := hd.out
    exact ⟨he, n + m, by rw [hm, World.drewN_drewN]⟩
  have hok := fun (m : Int) (b0 : Bool) (hs : (!(decide (a < 0) == decide (b < 0))) = b0) (hm : (if b0 = true then (9223372036854775808 : Int) else 9223372036854775807) = m) => mulOk_of a b hi lo m b0 (by rw [hp]; exact hhi) (by rw [hp]; exact hlo) hs hm
  have hlo0 : 0 ≤ lo ∧ lo < 18446744073709551616 := by omega
  have hhi0 : 0 ≤ hi := by omega
  have hpv : (p : Int) = hi * 18446744073709551616 + lo := by omega
  clear ea eb hp hhi hlo ha hb
  have no : mulOk a b = false → mulF a b = nulR sRange := fun h => by unfold mulF inF; rw [h]; rfl
  have yes : mulOk a b = true → mulF a b = (1, wrap64 (a * b), E, false, sDone) := fun h => by unfold mulF inF; rw [h]; rfl
  cases e1 : decide (a < 0) <;> cases e2 : decide (b < 0)
  · have hs : (!(decide (a < 0) == decide (b < 0))) = false := by rw [e1, e2]; rfl
    have hk := hok 9223372036854775807 false hs rfl
    have hab := hsg.1 hs
    by_cases t1 : 0 < hi
    · have e : mulOk a b = false := by rw [hk, decide_eq_false (show ¬ hi = 0 by omega)]; rfl
      rw [no e]
      exact mulR_hi3 _ _ _ _ _ _ _ _ hi lo w CB CW e1 e2 (decide_eq_true t1)
    have h0 : hi = 0 := by omega
    by_cases t2 : 9223372036854775808 < lo
    · have e : mulOk a b = false := by rw [hk, decide_eq_false (show ¬ lo ≤ 9223372036854775807 by omega), Bool.and_false]
      rw [no e]
      exact mulR_lo3 _ _ _ _ _ _ _ _ hi lo w CB CW e1 e2 (decide_eq_false t1) (decide_eq_true t2)
    by_cases t3 : lo = 9223372036854775808
    · have e : mulOk a b = false := by rw [hk, decide_eq_false (show ¬ lo ≤ 9223372036854775807 by omega), Bool.and_false]
      rw [no e]
      exact mulR_eq3 _ _ _ _ _ _ _ _ hi lo w CB CW e1 e2 (decide_eq_false t1) (decide_eq_false t2) (beq_iff_eq.2 t3)
    · have e : mulOk a b = true := by rw [hk, decide_eq_true h0, decide_eq_true (show lo ≤ 9223372036854775807 by omega)]; rfl
      have ew : wrap64 (a * b) = wrap64 lo := by
        rw [hab, hpv]; unfold wrap64; omega
      rw [yes e, ew]
      exact mulR_ok3f _ _ _ _ _ _ _ _ hi lo w CB CW e1 e2 (decide_eq_false t1) (decide_eq_false t2) (beq_false_of_ne t3)
  · have hs : (!(decide (a < 0) == decide (b < 0))) = true := by rw [e1, e2]; rfl
    have hk := hok 9223372036854775808 true hs rfl
    have hab := hsg.2 hs
    by_cases t1 : 0 < hi
    · have e : mulOk a b = false := by rw [hk, decide_eq_false (show ¬ hi = 0 by omega)]; rfl
      rw [no e]
      exact mulR_hi2 _ _ _ _ _ _ _ _ hi lo w CB CW e1 e2 (decide_eq_true t1)
    have h0 : hi = 0 := by omega
    by_cases t2 : 9223372036854775808 < lo
    · have e : mulOk a b = false := by rw [hk, decide_eq_false (show ¬ lo ≤ 9223372036854775808 by omega), Bool.and_false]
      rw [no e]
      exact mulR_lo2 _ _ _ _ _ _ _ _ hi lo w CB CW e1 e2 (decide_eq_false t1) (decide_eq_true t2)
    have e : mulOk a b = true := by rw [hk, decide_eq_true h0, decide_eq_true (show lo ≤ 9223372036854775808 by omega)]; rfl
    have ew : wrap64 (a * b) = wrap64 (IntKind.u64.wrap (-lo)) := by
      rw [hab, hpv, IntKind.wrap_u64]; unfold wrap64; omega
    rw [yes e, ew]
    by_cases t3 : lo = 9223372036854775808
    · exact mulR_ok2t _ _ _ _ _ _ _ _ hi lo w CB CW e1 e2 (decide_eq_false t1) (decide_eq_false t2) (beq_iff_eq.2 t3)
    · exact mulR_ok2f _ _ _ _ _ _ _ _ hi lo w CB CW e1 e2 (decide_eq_false t1) (decide_eq_false t2) (beq_false_of_ne t3)
  · have hs : (!(decide (a < 0) == decide (b < 0))) = true := by rw [e1, e2]; rfl
    have hk := hok 9223372036854775808 true hs rfl
    have hab := hsg.2 hs
    by_cases t1 : 0 < hi
    · have e : mulOk a b = false := by rw [hk, decide_eq_false (show ¬ hi = 0 by omega)]; rfl
      rw [no e]
      exact mulR_hi1 _ _ _ _ _ _ _ _ hi lo w CB CW e1 e2 (decide_eq_true t1)
    have h0 : hi = 0 := by omega
    by_cases t2 : 9223372036854775808 < lo
    · have e : mulOk a b = false := by rw [hk, decide_eq_false (show ¬ lo ≤ 9223372036854775808 by omega), Bool.and_false]
      rw [no e]
      exact mulR_lo1 _ _ _ _ _ _ _ _ hi lo w CB CW e1 e2 (decide_eq_false t1) (decide_eq_true t2)
    have e : mulOk a b = true := by rw [hk, decide_eq_true h0, decide_eq_true (show lo ≤ 9223372036854775808 by omega)]; rfl
    have ew : wrap64 (a * b) = wrap64 (IntKind.u64.wrap (-lo)) := by
      rw [hab, hpv, IntKind.wrap_u64]; unfold wrap64; omega
    rw [yes e, ew]
    by_cases t3 : lo = 9223372036854775808
    · exact mulR_ok1t _ _ _ _ _ _ _ _ hi lo w CB CW e1 e2 (decide_eq_false t1) (decide_eq_false t2) (beq_iff_eq.2 t3)
    · exact mulR_ok1f _ _ _ _ _ _ _ _ hi lo w CB CW e1 e2 (decide_eq_false t1) (decide_eq_false t2) (beq_false_of_ne t3)
  · have hs : (!(decide (a < 0) == decide (b < 0))) = false := by rw [e1, e2]; rfl
    have hk := hok 9223372036854775807 false hs rfl
    have hab := hsg.1 hs
    by_cases t1 : 0 < hi
    · have e : mulOk a b = false := by rw [hk, decide_eq_false (show ¬ hi = 0 by omega)]; rfl
      rw [no e]
      exact mulR_hi0 _ _ _ _ _ _ _ _ hi lo w CB CW e1 e2 (decide_eq_true t1)
    have h0 : hi = 0 := by omega
    by_cases t2 : 9223372036854775808 < lo
    · have e : mulOk a b = false := by rw [hk, decide_eq_false (show ¬ lo ≤ 9223372036854775807 by omega), Bool.and_false]
      rw [no e]
      exact mulR_lo0 _ _ _ _ _ _ _ _ hi lo w CB CW e1 e2 (decide_eq_false t1) (decide_eq_true t2)
    by_cases t3 : lo = 9223372036854775808
    · have e : mulOk a b = false := by rw [hk, decide_eq_false (show ¬ lo ≤ 9223372036854775807 by omega), Bool.and_false]
      rw [no e]
      exact mulR_eq0 _ _ _ _ _ _ _ _ hi lo w CB CW e1 e2 (decide_eq_false t1) (decide_eq_false t2) (beq_iff_eq.2 t3)
    · have e : mulOk a b = true := by rw [hk, decide_eq_true h0, decide_eq_true (show lo ≤ 9223372036854775807 by omega)]; rfl
      have ew : wrap64 (a * b) = wrap64 lo := by
        rw [hab, hpv]; unfold wrap64; omega
      rw [yes e, ew]
      exact mulR_ok0f _ _ _ _ _ _ _ _ hi lo w CB CW e1 e2 (decide_eq_false t1) (decide_eq_false t2) (beq_false_of_ne t3)
theorem mulR (x y : Rv) (hx : x.ok) (hy : y.ok) (w : World) : Calls Tryd.prog 38 #[.agg #[.int .i64 x.k, .int .i64 x.n, .string x.s, .bool x.b], .agg #[.int .i64 y.k, .int .i64 y.n, .string y.s, .bool y.b]] w fun e w' => RetR (liftF 1 x.k y.k (mulF x.n y.n)) e ∧ Below w.heap.size w w' := by
  cases x <;> cases y
  case num.num a b =>
    show Calls Tryd.prog 38 #[.agg #[.int .i64 1, .int .i64 a, .string E, .bool false], .agg #[.int .i64 1, .int .i64 b, .string E, .bool false]] w fun e w' => RetR (liftF 1 1 1 (mulF a b)) e ∧ Below w.heap.size w w'
    rw [lift11]
    exact mulR_num a b hx hy w
  all_goals exact mulR_known _ _ _ _ _ _ _ _ _ w (fun w => stileref01_both.calls _ _ _ _ _ _ _ _ _ _ true w rfl)
theorem valueSums_walk (a0_0 a0_1 : Int) (a0_2 : ByteArray) (a0_3 : Bool) (a1_0 a1_1 : Int) (a1_2 : ByteArray) (a1_3 : Bool) (W : World) (w00 : (Lit.int .i64 a0_0).wf = true) (w01 : (Lit.int .i64 a0_1).wf = true) (w02 : a0_2.size ≤ 140737488351232) (w10 : (Lit.int .i64 a1_0).wf = true) (w11 : (Lit.int .i64 a1_1).wf = true) (w12 : a1_2.size ≤ 140737488351232) :
    Calls Tryd.prog 10 #[.agg #[.int .i64 a0_0, .int .i64 a0_1, .string a0_2, .bool a0_3], .agg #[.int .i64 a1_0, .int .i64 a1_1, .string a1_2, .bool a1_3]] W fun e W' => e = .returned (.bool true) ∧ Below W.heap.size W W' := by
  obtain ⟨x, ex, hx⟩ := raw_ok a0_0 a0_1 a0_2 a0_3 w00 w01 w02
  obtain ⟨y, ey, hy⟩ := raw_ok a1_0 a1_1 a1_2 a1_3 w10 w11 w12
  have sz : ∀ z : Rv, z.ok → z.s.size ≤ 140737488351232 := fun z hz => by cases z <;> first | exact hz | (show (0 : Nat) ≤ _; omega)
  have fz : ∀ z : Rv, z.ok → Fit z.n := fun z hz => by cases z <;> first | exact hz | (show Fit 0; unfold Fit; omega)
  exact sums_law _ _ _ _ _ _ _ _ x.k x.n x.s x.b y.k y.n y.s y.b _ _ _ _ _ _ _ _ _ _ _ _ _ _ _ _ _ _ _ _ _ _ _ _ _ _ _ _ _ _ W
    (fun w => stilelaw01_Raw_Value.calls _ _ _ _ _ _ _ _ w ex) (fun w => stilelaw01_Raw_Value.calls _ _ _ _ _ _ _ _ w ey)
    (fun w => add_raw _ _ _ _ _ _ _ _ _ _ _ _ _ w rfl) (fun w => stileref01_Add.calls _ _ _ _ _ _ _ _ _ _ _ _ _ w (addR x y hx hy))
    (fun w => sub_raw _ _ _ _ _ _ _ _ _ _ _ _ _ w rfl) (fun w => stileref01_Sub.calls _ _ _ _ _ _ _ _ _ _ _ _ _ w (subR x y hx hy))
    (fun w => mul_raw _ _ _ _ _ _ _ _ _ _ _ _ _ w (fz x hx) (fz y hy) rfl) (fun w => mulR x y hx hy w)
    (fun w => div_raw _ _ _ _ _ _ _ _ _ _ _ _ _ w rfl) (fun w => stileref01_Div.calls _ _ _ _ _ _ _ _ _ _ _ _ _ w (divR x y hx hy))
    (fun w => value_Neg.calls _ _ _ _ _ _ _ _ _ w (negP x)) (fun w => stileref01_Neg.calls _ _ _ _ _ _ _ _ _ w (negR x hx))
    (fun w => con_raw _ _ _ _ _ _ _ _ _ _ _ _ _ w (sz x hx) (sz y hy) rfl) (fun w => stileref01_Concat.calls _ _ _ _ _ _ _ _ _ _ _ _ _ w (conR x y hx hy))
end Vl
end Go.Proofs.YtlmkhpgnkpgbdaaDoor

namespace Go.Proofs.YtlmkhpgnkpgbdaaDoor.valueSums
open Go.ChangeShapes Go.WideShapes Go.ChangeAt Go.RowKit
open Go.ChangeMaps (open_string shut_string)
open Go.Joins Go.Deep
set_option linter.unusedVariables false
set_option linter.unusedSimpArgs false
set_option maxRecDepth 100000 in
theorem contract (H : Type) (enc : TypeId × Value → H) (W : World) (base : Nat) (args : Array Value) (ds gs : List (DataW H)) (before : List MemPlace)
    (hval0 : ∀ (j : Nat) t v, Tryd.f10.params[j]? = some t → args[j]? = some v → Value.okWide Tryd.prog W .any base t v)
    (hW : DataW.Whole enc Tryd.prog Tryd.f10.params.toList Rows.valueSumsSpec.vars false W args.toList ds gs before)
    (hsz0 : (DataW.weightsEach Tryd.prog (Tryd.f10.params.toList ++ (OpenSpec.ofChange Rows.valueSumsSpec).bare.plain.varTypes Tryd.prog) (ds ++ gs)).all (· ≤ reachBytes) = true) :
    Calls Tryd.prog 10 args W fun e W' => ∃ v, e = .returned v ∧ Rows.valueSumsSpec.post enc Tryd.prog Tryd.f10 false true false false W args v W' := by
  have hval := hval0
  have hW' := hW
  obtain ⟨p, q, hA0, hV, rfl, hfz, hnd⟩ := hW
  have hA : DataW.TrodAll enc Tryd.prog W 0 (fun _ => true) true Tryd.f10.params.toList args.toList ds p := hA0
  have hsz := hsz0
  rw [Tryd.params10] at hA hval hsz
  obtain ⟨v0, vs0, d0, ds0, p0, q0, hargs, rfl, rfl, h0, r0⟩ := trodAll_cons hA
  obtain ⟨v1, vs1, d1, ds1, p1, q1, rfl, rfl, rfl, h1, r1⟩ := trodAll_cons r0
  obtain ⟨rfl, rfl, rfl⟩ := trodAll_nil r1
  obtain rfl : args = #[v0, v1] := by cases args; simp_all
  obtain ⟨rfl, rfl⟩ := trodVars_none hV
  have k0 := h0
  have lt0 : ∀ x ∈ p0, x.block < W.heap.size := by obtain ⟨m, hm⟩ := k0; exact DataW.trod_lt m _ _ _ hm
  obtain ⟨c00, c01, c02, c03, y00, y01, y02, y03, m0, rfl, rfl, hp0, f00, f01, f02, f03⟩ := open_agg4 Tryd.underlying25 (by kernel_rfl) (by kernel_rfl) (hval 0 25 v0 rfl rfl) h0
  obtain ⟨s00, e00, z00, b00⟩ := DataW.trod_int Tryd.underlying3 f00
  obtain ⟨s01, e01, z01, b01⟩ := DataW.trod_int Tryd.underlying2 f01
  obtain ⟨s02, e02, z02, _⟩ := DataW.trod_string Tryd.underlying9 f02
  obtain ⟨s03, e03, z03⟩ := DataW.trod_bool Tryd.underlying4 f03
  simp only [List.cons.injEq, and_true] at e00 e01 e02 e03
  subst e00 e01 e02 e03
  have g0 := Vl.size_agg4 Tryd.underlying25 hsz (j := 0) rfl rfl
  have b02 : s02.size ≤ 140737488351232 := by
    have := g0 s02.data.toList.length (by rw [z02]; simp [DataW.weights])
    rw [Array.length_toList] at this
    exact this
  have k1 := h1
  have lt1 : ∀ x ∈ p1, x.block < W.heap.size := by obtain ⟨m, hm⟩ := k1; exact DataW.trod_lt m _ _ _ hm
  obtain ⟨c10, c11, c12, c13, y10, y11, y12, y13, m1, rfl, rfl, hp1, f10, f11, f12, f13⟩ := open_agg4 Tryd.underlying25 (by kernel_rfl) (by kernel_rfl) (hval 1 25 v1 rfl rfl) h1
  obtain ⟨s10, e10, z10, b10⟩ := DataW.trod_int Tryd.underlying3 f10
  obtain ⟨s11, e11, z11, b11⟩ := DataW.trod_int Tryd.underlying2 f11
  obtain ⟨s12, e12, z12, _⟩ := DataW.trod_string Tryd.underlying9 f12
  obtain ⟨s13, e13, z13⟩ := DataW.trod_bool Tryd.underlying4 f13
  simp only [List.cons.injEq, and_true] at e10 e11 e12 e13
  subst e10 e11 e12 e13
  have g1 := Vl.size_agg4 Tryd.underlying25 hsz (j := 1) rfl rfl
  have b12 : s12.size ≤ 140737488351232 := by
    have := g1 s12.data.toList.length (by rw [z12]; simp [DataW.weights])
    rw [Array.length_toList] at this
    exact this
  clear hA0 hval0 hsz hsz0
  refine (Vl.valueSums_walk s00 s01 s02 s03 s10 s11 s12 s13 W b00 b01 b02 b10 b11 b12).mono fun e W' ⟨he, bel⟩ => ?_
  subst he
  exact ⟨_, rfl, _, _, _, [], _, [], hW', trodAll_mk1 (shut_bool Tryd.underlying4 _), (trodAll_cons_mk (Below.trod Vl.laidOut (by kernel_rfl) (of_decide_eq_true (by kernel_rfl)) k0 bel lt0) (trodAll_cons_mk (Below.trod Vl.laidOut (by kernel_rfl) (of_decide_eq_true (by kernel_rfl)) k1 bel lt1) trodAll_mk0)), rfl, bel.frame _, fun h => by cases h⟩
theorem laid_met (os : Os) : laidMet Tryd.prog Rows.valueSumsRow.laid ((Vl.laidWorld os).forCall (fun _ _ => 0) ⟨#[], #[.agg #[.int .i64 0, .int .i64 0, .string ⟨#[]⟩, .bool false], .agg #[.int .i64 0, .int .i64 0, .string ⟨#[]⟩, .bool false]], []⟩).memory :=
  laidMet_of_run' 8 (by kernel_rfl) (by kernel_rfl)
theorem reads (os : Os) {H : Type} (enc : TypeId × Value → H) : ∃ places, DataW.whole enc Tryd.prog ((Vl.laidWorld os).forCall (fun _ _ => 0) ⟨#[], #[.agg #[.int .i64 0, .int .i64 0, .string ⟨#[]⟩, .bool false], .agg #[.int .i64 0, .int .i64 0, .string ⟨#[]⟩, .bool false]], []⟩).memory Tryd.f10.params.toList Rows.valueSumsSpec.vars false (#[.agg #[.int .i64 0, .int .i64 0, .string ⟨#[]⟩, .bool false], .agg #[.int .i64 0, .int .i64 0, .string ⟨#[]⟩, .bool false]] : Array Value).toList 8 = some ([.agg [.lit (.int .i64 0), .lit (.int .i64 0), .lit (.string []), .lit (.bool false)], .agg [.lit (.int .i64 0), .lit (.int .i64 0), .lit (.string []), .lit (.bool false)]], [], places) :=
  ⟨[], by kernel_rfl⟩
set_option maxRecDepth 100000 in
theorem lifted (os : Os) (started : os.Started) (H : Type) (enc : TypeId × Value → H) (F : Stop.Interp) :
    ReturnsInHanded {} Tryd.checked os 10 .any ((OpenSpec.ofChange Rows.valueSumsSpec).preRow enc Tryd.prog Tryd.f10 Rows.valueSumsRow.domain false Rows.valueSumsRow.laid) (((OpenSpec.ofChange Rows.valueSumsSpec).at F).post enc Tryd.prog Tryd.f10 false true false false) := by
  obtain ⟨places, hx⟩ := reads os enc
  refine returnsInHanded_of_row (C := Tryd.checked) (s := OpenSpec.ofChange Rows.valueSumsSpec) Vl.own started (by kernel_rfl) Tryd.func10
    (witness_row_at (enc := enc) (C := Tryd.checked) false (Vl.laidWorld os) #[.agg #[.int .i64 0, .int .i64 0, .string ⟨#[]⟩, .bool false], .agg #[.int .i64 0, .int .i64 0, .string ⟨#[]⟩, .bool false]] rfl (by kernel_rfl) (by kernel_rfl) (by kernel_rfl)
      (OpenSpec.preRow_of_cond 8 hx (by kernel_rfl) (fun k hk => by cases hk) (by kernel_rfl) (laid_met os))) ?_
  intro W base args ds gs before hval hW _ _ hsz _ _ _
  exact contract H enc W base args ds gs before hval hW hsz
theorem said : Rows.ValueSumsSaid :=
  OpenClaim.holds_of_cond 10 Tryd.f10 rfl rfl rfl rfl rfl rfl rfl ⟨rfl, rfl, rfl, rfl, rfl⟩ rfl rfl rfl rfl rfl (by kernel_rfl) Tryd.func10 (by kernel_rfl)
    (of_decide_eq_true (by kernel_rfl)) (by unfold Func.isWrapper; first | (rw [if_pos (by decide +kernel)]; kernel_rfl) | (rw [if_neg (by decide +kernel)]; exact ⟨rfl, rfl⟩))
    (fun os started H enc _ F => by rw [OpenClaim.pre_eq_preRow]; exact lifted os started H enc F)
theorem plain (f : FuncId) (fn : Func) (hf : Tryd.pinned.checked.prog.funcNamed "stile/stilelaw01.ValueSums" = some f) (hfn : Tryd.pinned.checked.prog.funcs[f]? = some fn) :
    false = Tryd.pinned.checked.prog.looks [] ∧ ∀ (j : Nat) t, fn.params[j]? = some t → Tryd.pinned.checked.prog.wantsStandIn t = false := by
  obtain rfl : f = 10 := Option.some.inj ((show Tryd.prog.funcNamed "stile/stilelaw01.ValueSums" = some 10 by kernel_rfl).symm.trans hf) |>.symm
  obtain rfl : fn = Tryd.f10 := (Option.some.inj (Tryd.func10.symm.trans hfn)).symm
  refine ⟨by kernel_rfl, fun j t ht => ?_⟩
  rw [Tryd.params10] at ht
  have hm : t ∈ [25, 25] := by simpa using Array.mem_of_getElem? ht
  have hall : ([25, 25].all fun u => !Tryd.prog.wantsStandIn u) = true := by kernel_rfl
  exact (show Tryd.prog.wantsStandIn t = false by simpa using List.all_eq_true.1 hall t hm)
end Go.Proofs.YtlmkhpgnkpgbdaaDoor.valueSums
namespace Go.Proofs.YtlmkhpgnkpgbdaaDoor
/-- THE CARD: the row, its two tables tied to the program's text. -/
theorem valueSums_card : Rows.ValueSumsCardSaid :=
  Claim7.holds_tied_plain_at .later [] _ _ _ _ valueSums.said (fun _ h => by cases h) (by kernel_rfl) (fun _ h => by cases h) valueSums_row_tie rfl ⟨rfl, rfl⟩ (by kernel_rfl) rfl valueSums.plain (by kernel_rfl)
#print axioms valueSums_card
end Go.Proofs.YtlmkhpgnkpgbdaaDoor
