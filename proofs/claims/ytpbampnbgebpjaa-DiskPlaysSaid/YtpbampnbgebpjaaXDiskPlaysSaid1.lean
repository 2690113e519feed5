/- Texts of this claim, set one behind the other by a program: part 1. -/
import Derived.Test.YtpbampnbgebpjaaProg
import Derived.WalkKit
import Derived.Lib.Hide
import Derived.Laws.AppendOwn
import Derived.Below
import Derived.Outline
import Derived.MapKept
import Derived.WalkSpells
import Derived.Shelf.SlMaps.Clone
import Derived.Maps.AppendAt
import Derived.Deep.DeepFit
import Derived.Laws.CopyOwn
import Derived.RangeFuncRecord
import Derived.Test.YtpbampnbgebpjaaWWords
import Derived.Test.YtpbampnbgebpjaaWLast
import Derived.Deep.QuietTactic
import Derived.BigQuiet
import Derived.IntWalk
import Derived.WalkLawsBesides
import Derived.Lib.SlBytesConst
import Derived.Deep.Slices
import Derived.Deep.Fields
import Derived.Deep.Grids
import Derived.ChangeSame
import Derived.SizedLaws
import Derived.WideShapes
import Derived.OpenShut
import Derived.ChangeSlices
namespace Go.Proofs.Ytpbampnbgebpjaa
open Go.RowKit
set_option linter.unusedVariables false
set_option linter.unusedSimpArgs false
namespace Dk

/-- what may change: nothing below B, and of what lies above only objects of kind K; new objects may come -/
structure Chg (B : Nat) (K : Obj → Bool) (w w' : World) : Prop where
  os : w'.os = w.os
  tape : w'.tape = w.tape
  output : w'.output = w.output
  size : w.heap.size ≤ w'.heap.size
  old : ∀ i, i < B → w'.heap[i]? = w.heap[i]?
  keep : ∀ (i : Nat) (o : Obj), w.heap[i]? = some o → K o = false → w'.heap[i]? = some o
theorem Chg.refl (B : Nat) (K : Obj → Bool) (w : World) : Chg B K w w := ⟨rfl, rfl, rfl, Nat.le_refl _, fun _ _ => rfl, fun _ _ h _ => h⟩
theorem Chg.trans {B : Nat} {K : Obj → Bool} {w w1 w2 : World} (h : Chg B K w w1) (g : Chg B K w1 w2) : Chg B K w w2 :=
  ⟨g.os.trans h.os, g.tape.trans h.tape, g.output.trans h.output, Nat.le_trans h.size g.size, fun i hi => (g.old i hi).trans (h.old i hi), fun i o ho hk => g.keep i o (h.keep i o ho hk) hk⟩
theorem Chg.of_below {B : Nat} {K : Obj → Bool} {w w1 : World} (h : Below w.heap.size w w1) (hB : B ≤ w.heap.size) : Chg B K w w1 :=
  ⟨h.os, h.tape, h.output, h.size, fun i hi => h.block i (by omega), fun i o ho _ => (h.block i (Array.getElem?_eq_some_iff.1 ho).1).trans ho⟩
theorem Chg.below {B : Nat} {K : Obj → Bool} {w w1 : World} (h : Chg B K w w1) : Below B w w1 := ⟨h.os, h.tape, h.output, h.size, h.old⟩
def ikey : Value → Option Int
  | .int .i64 k => some k
  | _ => none
/-- the first entry of a key -/
def mget : List MapEntry → Int → Option Value
  | [], _ => none
  | e :: es, k => if ikey e.key = some k then some e.val else mget es k
def KeysInt (es : List MapEntry) : Prop := ∀ e ∈ es, ∃ k : Int, e.key = .int .i64 k
def fidx : List MapEntry → Int → Nat → Option (Nat × Value)
  | [], _, _ => none
  | e :: es, k, i => if ikey e.key = some k then some (i, e.val) else fidx es k (i + 1)
theorem findNow_int (k : Int) : ∀ (es : List MapEntry) (i : Nat), KeysInt es → Instr.findNow (.int .i64) (.int .i64 k) es i = some (fidx es k i)
  | [], i, _ => rfl
  | e :: es, i, h => by
    obtain ⟨k', hk⟩ := h e (by simp)
    have ih := findNow_int k es (i + 1) (fun d hd => h d (by simp [hd]))
    unfold Instr.findNow fidx
    rw [hk]
    by_cases e1 : k = k'
    · subst e1
      have e3 : ikey (Value.int .i64 k) = some k := rfl
      simp [Instr.sameNow, e3]
    · have e2 : ¬ ikey (Value.int .i64 k') = some k := fun q => e1 (Option.some.inj q).symm
      rw [if_neg e2, ← ih]
      simp [Instr.sameNow, beq_false_of_ne e1]
theorem fidx_get (k : Int) : ∀ (es : List MapEntry) (i : Nat), (fidx es k i).map Prod.snd = mget es k
  | [], _ => rfl
  | e :: es, i => by
    unfold fidx mget
    split
    · rfl
    · exact fidx_get k es (i + 1)
theorem fidx_at (k : Int) : ∀ (es : List MapEntry) (i j : Nat) (v : Value), fidx es k i = some (j, v) → i ≤ j ∧ ∃ h : j - i < es.length, ikey es[j - i].key = some k ∧ ∀ q, (h2 : q < j - i) → ¬ ikey (es[q]'(by omega)).key = some k
  | [], i, j, v, h => by simp [fidx] at h
  | e :: es, i, j, v, h => by
    unfold fidx at h
    split at h
    · rename_i he
      cases h
      exact ⟨Nat.le_refl _, by simp, by simpa using he, fun q hq => by omega⟩
    · rename_i he
      obtain ⟨h1, h2, h3, h4⟩ := fidx_at k es (i + 1) j v h
      refine ⟨by omega, by simp; omega, ?_, fun q hq => ?_⟩
      · have e1 : j - i = (j - (i + 1)) + 1 := by omega
        simp only [e1, List.getElem_cons_succ]
        exact h3
      · cases q with
        | zero => simpa using he
        | succ q =>
          simp only [List.getElem_cons_succ]
          exact h4 q (by omega)
theorem mget_mod (k : Int) (v : Value) : ∀ (es : List MapEntry) (j : Nat) (hj : j < es.length), ikey es[j].key = some k → (∀ q, (h2 : q < j) → ¬ ikey (es[q]'(by omega)).key = some k) → ∀ k2, mget (es.modify j fun e => { e with key := .int .i64 k, val := v }) k2 = if k2 = k then some v else mget es k2
  | [], j, hj, _, _, _ => by simp at hj
  | e :: es, 0, hj, h, _, k2 => by
    simp only [List.getElem_cons_zero] at h
    simp only [List.modify_zero_cons, mget]
    by_cases e1 : k2 = k
    · subst e1; simp [ikey]
    · have e2 : ¬ ikey (Value.int .i64 k) = some k2 := fun q => e1 (Option.some.inj q).symm
      rw [if_neg e2, if_neg e1, if_neg (fun q => e1 (Option.some.inj (q.symm.trans h)))]
  | e :: es, j + 1, hj, h, hq, k2 => by
    have h0 := hq 0 (by omega)
    simp only [List.getElem_cons_zero] at h0
    simp only [List.getElem_cons_succ] at h
    have ih := mget_mod k v es j (by simpa using hj) h (fun q hq2 => by have := hq (q + 1) (by omega); simpa using this) k2
    simp only [List.modify_succ_cons, mget, ih]
    by_cases e1 : k2 = k
    · subst e1
      rw [if_neg h0, if_pos rfl, if_pos rfl]
    · rw [if_neg e1, if_neg e1]
theorem mget_push (k : Int) (v : Value) (b : Nat) : ∀ (es : List MapEntry), mget es k = none → ∀ k2, mget (es ++ [⟨.int .i64 k, v, b⟩]) k2 = if k2 = k then some v else mget es k2
  | [], _, k2 => by
    simp only [List.nil_append, mget]
    by_cases e1 : k2 = k
    · subst e1; simp [ikey]
    · have e2 : ¬ ikey (Value.int .i64 k) = some k2 := fun q => e1 (Option.some.inj q).symm
      rw [if_neg e2, if_neg e1]
  | e :: es, h, k2 => by
    unfold mget at h
    split at h
    · cases h
    · rename_i he
      have ih := mget_push k v b es h k2
      simp only [List.cons_append, mget, ih]
      by_cases e1 : k2 = k
      · subst e1
        rw [if_neg he, if_pos rfl, if_pos rfl]
      · rw [if_neg e1, if_neg e1]
theorem KeysInt.mod {es : List MapEntry} (h : KeysInt es) (j : Nat) (k : Int) (v : Value) : KeysInt (es.modify j fun e => { e with key := .int .i64 k, val := v }) := by
  intro e he
  obtain ⟨i, hi, rfl⟩ := List.mem_iff_getElem.1 he
  rw [List.getElem_modify]
  split
  · exact ⟨k, rfl⟩
  · exact h _ (List.getElem_mem _)
theorem key_of {e : MapEntry} {k : Int} (h : ∃ k', e.key = .int .i64 k') (hk : ikey e.key = some k) : e.key = .int .i64 k := by
  obtain ⟨k', h⟩ := h
  rw [h] at hk ⊢
  rw [Option.some.inj hk]
theorem fidx_none (k : Int) (es : List MapEntry) (h : fidx es k 0 = none) : mget es k = none := by rw [← fidx_get k es 0, h]; rfl
def setMap (w : World) (M : Nat) (o : Obj) : World := { w with heap := w.heap.setIfInBounds M o }
theorem setMap_at {w : World} {M : Nat} {o : Obj} (h : M < w.heap.size) : (setMap w M o).heap[M]? = some o := by simp [setMap, h]
theorem setMap_ne {w : World} {M k : Nat} {o : Obj} (h : k ≠ M) : (setMap w M o).heap[k]? = w.heap[k]? := by simp [setMap, Array.getElem?_setIfInBounds_ne (Ne.symm h)]
theorem setMap_size (w : World) (M : Nat) (o : Obj) : (setMap w M o).heap.size = w.heap.size := by simp [setMap]
theorem setMap_cell {w : World} {M : Nat} {o : Obj} {a : Addr} (h : a.block ≠ M) : (setMap w M o).cell? a = w.cell? a := by
  simp only [World.cell?, setMap_ne h]
/-- a map of whole numbers is written -/
theorem run_mapUpdate {P : Program} {w : World} {t kt et : TypeId} {r : Nat} {es : Array MapEntry} {c : Nat} (ht : P.underlying t = some (.map kt et)) (hk : P.underlying kt = some (.int .i64)) (hb : w.heap[r]? = some (.map es c)) (hi : KeysInt es.toList) (k : Int) (v : Value) :
    ∃ es' c', (Instr.mapUpdate t (.map (some r)) (.int .i64 k) v).run P w = .ok () (setMap w r (.map es' c')) ∧ KeysInt es'.toList ∧ ∀ k2, mget es'.toList k2 = if k2 = k then some v else mget es.toList k2 := by
  have hf := findNow_int k es.toList 0 hi
  cases hx : fidx es.toList k 0 with
  | none =>
    rw [hx] at hf
    refine ⟨es.push ⟨.int .i64 k, v, c⟩, c + 1, ?_, ?_, ?_⟩
    · simp [setMap, Instr.mapUpdate, run_underlying ht, MapKept.run_getObj_map hb, MapKept.run_checkKey (P := P) (w := w) (k := .int .i64 k) hk rfl false 9999, MapKept.run_findKey (w := w) hk hf, MapKept.run_setObj_map _ hb, Result.andThen]
    · intro e he
      rw [Array.toList_push] at he
      rcases List.mem_append.1 he with he | he
      · exact hi e he
      · rw [List.mem_singleton.1 he]; exact ⟨k, rfl⟩
    · intro k2
      rw [Array.toList_push]
      exact mget_push k v c es.toList (fidx_none k _ hx) k2
  | some p =>
    obtain ⟨j, u⟩ := p
    rw [hx] at hf
    obtain ⟨_, h2, h3, h4⟩ := fidx_at k es.toList 0 j u hx
    simp only [Nat.sub_zero] at h2 h3 h4
    have hkey := key_of (hi _ (List.getElem_mem h2)) h3
    have hlt : j < es.size := by simpa using h2
    have hkey' : es[j].key = .int .i64 k := by simpa using hkey
    refine ⟨es.modify j fun e => { e with key := .int .i64 k, val := v }, c, ?_, ?_, ?_⟩
    · simp [setMap, Instr.mapUpdate, run_underlying ht, MapKept.run_getObj_map hb, MapKept.run_checkKey (P := P) (w := w) (k := .int .i64 k) hk rfl false 9999, MapKept.run_findKey (w := w) hk hf, MapKept.run_setObj_map _ hb, Result.andThen, hlt, hkey', Instr.keyThatStays, Instr.sameBits]
    · rw [Array.toList_modify]
      exact hi.mod j k v
    · intro k2
      rw [Array.toList_modify]
      exact mget_mod k v es.toList j h2 h3 h4 k2
theorem run_lookup {P : Program} {w : World} {t kt et : TypeId} {r : Nat} {es : Array MapEntry} {c : Nat} {z : Value} (ht : P.underlying t = some (.map kt et)) (hk : P.underlying kt = some (.int .i64)) (hz : (zeroValue et).run P w = .ok z w) (hb : w.heap[r]? = some (.map es c)) (hi : KeysInt es.toList) (k : Int) :
    (Instr.lookup t (.map (some r)) (.int .i64 k) false).run P w = .ok ((mget es.toList k).getD z) w := by
  have hf := findNow_int k es.toList 0 hi
  have hg := fidx_get k es.toList 0
  cases hx : fidx es.toList k 0 with
  | none =>
    rw [hx] at hf hg
    rw [← hg]
    simp [Instr.lookup, run_underlying ht, MapKept.run_getObj_map hb, MapKept.run_checkKey (P := P) (w := w) (k := .int .i64 k) hk rfl _ 9999, MapKept.run_findKey (w := w) hk hf, Result.andThen, hz]
  | some p =>
    rw [hx] at hf hg
    rw [← hg]
    simp [Instr.lookup, run_underlying ht, MapKept.run_getObj_map hb, MapKept.run_checkKey (P := P) (w := w) (k := .int .i64 k) hk rfl _ 9999, MapKept.run_findKey (w := w) hk hf, Result.andThen]
theorem own_move {w w' : World} {base : Nat} {e : TypeId} {size n : Nat} {v : Value} {xs : List Value} (h : w.ownsRow base e size v n xs) (hm : ∀ (g : Nat) (cur : Array Value), v.ownBlock = some g → w.heap[g]? = some (.cells cur e (0, 0)) → w'.heap[g]? = some (.cells cur e (0, 0))) : w'.ownsRow base e size v n xs := by
  refine ⟨h.1, ?_⟩
  rcases h.2 with q | ⟨g, cap, cur, q1, q2, q3, q4⟩
  · exact .inl q
  · exact .inr ⟨g, cap, cur, q1, q2, hm g cur (by rw [q1]; rfl) q3, q4⟩
theorem own_base {w : World} {base base' : Nat} {e : TypeId} {size n : Nat} {v : Value} {xs : List Value} (h : w.ownsRow base e size v n xs) (hb : base' ≤ base) : w.ownsRow base' e size v n xs := by
  refine ⟨h.1, ?_⟩
  rcases h.2 with q | ⟨g, cap, cur, q1, q2, q3, q4⟩
  · exact .inl q
  · exact .inr ⟨g, cap, cur, q1, by omega, q3, q4⟩
theorem cell_of {w : World} {D i : Nat} {cs : Array Value} {t : TypeId} {v : Value} (h : w.heap[D]? = some (.cells cs t (0, 0))) (h4 : cs[i]? = some v) : w.cell? ⟨D, i, none⟩ = some v := by simp [World.cell?, h, h4]
theorem free_of {w : World} {D i : Nat} {cs : Array Value} {t : TypeId} (h : w.heap[D]? = some (.cells cs t (0, 0))) : w.frozen? ⟨D, i, none⟩ = false := by simp [World.frozen?, h]
theorem cell_al {w : World} {a : Addr} {v : Value} (o : Obj) (h : w.cell? a = some v) : (w.alloc o).cell? a = some v := (World.grownBy_alloc w o none).cell h (by simp)
theorem own_slice {w : World} {base : Nat} {e : TypeId} {size n : Nat} {v : Value} {xs : List Value} (h : w.ownsRow base e size v n xs) : ∃ a c, v = .slice a n c := by
  rcases h.2 with ⟨q, h0⟩ | ⟨g, cap, cur, q, _⟩
  · exact ⟨_, _, by rw [q, h0]⟩
  · exact ⟨_, _, q⟩
/-- the objects of disks -/
def DK : Obj → Bool
  | .cells _ t _ => t == 58 || t == 61 || t == 3
  | .map _ _ => true
  | _ => false
def IsBy (l : List Int) : Prop := ∀ c ∈ l, 0 ≤ c ∧ c ≤ 255
/-- bytes, in a row that nobody writes -/
def Byts (w : World) (v : Value) (l : List Int) : Prop := IsBy l ∧ w.ownsRow 0 5 1 v l.length (l.map (Value.int .u8))
theorem Byts.nil (w : World) : Byts w (.slice none 0 0) [] := ⟨fun c hc => by simp at hc, World.ownsRow_nil w 0 5 1⟩
theorem Byts.keep {B : Nat} {w w' : World} {v : Value} {l : List Int} (h : Byts w v l) (hc : Chg B DK w w') : Byts w' v l :=
  ⟨h.1, own_move h.2 fun g cur _ hg => hc.keep g _ hg rfl⟩
theorem Byts.below {w w' : World} {v : Value} {l : List Int} (h : Byts w v l) (hc : Below w.heap.size w w') : Byts w' v l :=
  ⟨h.1, own_move h.2 fun g cur _ hg => (hc.block g (Array.getElem?_eq_some_iff.1 hg).1).trans hg⟩
/-- a map from numbers to bytes; none are no bytes -/
def MapB (w : World) (M : Nat) (m : Int → List Int) : Prop := ∃ es c, w.heap[M]? = some (.map es c) ∧ KeysInt es.toList ∧ ∀ k, Byts w ((mget es.toList k).getD (.slice none 0 0)) (m k)
theorem MapB.below {w w' : World} {M : Nat} {m : Int → List Int} (h : MapB w M m) (hc : Below w.heap.size w w') : MapB w' M m := by
  obtain ⟨es, c, h1, h2, h3⟩ := h
  exact ⟨es, c, (hc.block M (Array.getElem?_eq_some_iff.1 h1).1).trans h1, h2, fun k => (h3 k).below hc⟩
def rowOf (log : List (Int × List Int)) (vs : List Value) : List Value := (log.zip vs).flatMap fun p => [.int .i64 p.1.1, p.2]
theorem rowOf_snoc {log : List (Int × List Int)} {vs : List Value} (h : vs.length = log.length) (x : Int × List Int) (v : Value) : rowOf (log ++ [x]) (vs ++ [v]) = rowOf log vs ++ [.int .i64 x.1, v] := by
  unfold rowOf
  rw [List.zip_append h.symm]
  simp
def LogAt (base : Nat) (w : World) (lv : Value) (log : List (Int × List Int)) : Prop :=
  ∃ vs : List Value, vs.length = log.length ∧ (∀ p ∈ log.zip vs, Byts w p.2 p.1.2) ∧ w.ownsRow base 61 2 lv log.length (rowOf log vs)
theorem LogAt.below {base : Nat} {w w' : World} {lv : Value} {log : List (Int × List Int)} (h : LogAt base w lv log) (hc : Below w.heap.size w w') : LogAt base w' lv log := by
  obtain ⟨vs, h1, h2, h3⟩ := h
  exact ⟨vs, h1, fun p hp => (h2 p hp).below hc, own_move h3 fun g cur _ hg => (hc.block g (Array.getElem?_eq_some_iff.1 hg).1).trans hg⟩
structure Dsk where
  N : Int
  first : Int → List Int
  now : Int → List Int
  log : List (Int × List Int)
  syncs : List Int
/-- a disk lies at a block -/
structure DkAt (base : Nat) (w : World) (D F M : Nat) (lv sv : Value) (d : Dsk) : Prop where
  bD : base ≤ D
  bF : base ≤ F
  bM : base ≤ M
  ne : F ≠ M
  hD : w.heap[D]? = some (.cells #[.int .i64 d.N, .map (some F), .map (some M), lv, sv] 58 (0, 0))
  hF : MapB w F d.first
  hM : MapB w M d.now
  hL : LogAt base w lv d.log
  hS : w.ownsRow base 3 1 sv d.syncs.length (d.syncs.map (Value.int .i64))
def IsDk (base : Nat) (w : World) (D : Nat) (d : Dsk) : Prop := ∃ F M lv sv, DkAt base w D F M lv sv d
theorem DkAt.below {base : Nat} {w w' : World} {D F M : Nat} {lv sv : Value} {d : Dsk} (h : DkAt base w D F M lv sv d) (hc : Below w.heap.size w w') : DkAt base w' D F M lv sv d :=
  ⟨h.bD, h.bF, h.bM, h.ne, (hc.block D (Array.getElem?_eq_some_iff.1 h.hD).1).trans h.hD, h.hF.below hc, h.hM.below hc, h.hL.below hc, own_move h.hS fun g cur _ hg => (hc.block g (Array.getElem?_eq_some_iff.1 hg).1).trans hg⟩
theorem IsDk.below {base : Nat} {w w' : World} {D : Nat} {d : Dsk} (h : IsDk base w D d) (hc : Below w.heap.size w w') : IsDk base w' D d := by
  obtain ⟨F, M, lv, sv, h⟩ := h
  exact ⟨F, M, lv, sv, h.below hc⟩
theorem DkAt.cells {base : Nat} {w : World} {D F M : Nat} {lv sv : Value} {d : Dsk} (h : DkAt base w D F M lv sv d) :
    w.cell? ⟨D, 0, none⟩ = some (.int .i64 d.N) ∧ w.cell? ⟨D, 1, none⟩ = some (.map (some F)) ∧ w.cell? ⟨D, 2, none⟩ = some (.map (some M)) ∧ w.cell? ⟨D, 3, none⟩ = some lv ∧ w.cell? ⟨D, 4, none⟩ = some sv := by
  refine ⟨?_, ?_, ?_, ?_, ?_⟩ <;> simp [World.cell?, h.hD]
theorem DkAt.free {base : Nat} {w : World} {D F M : Nat} {lv sv : Value} {d : Dsk} (h : DkAt base w D F M lv sv d) :
    w.frozen? ⟨D, 1, none⟩ = false ∧ w.frozen? ⟨D, 2, none⟩ = false ∧ w.frozen? ⟨D, 3, none⟩ = false ∧ w.frozen? ⟨D, 4, none⟩ = false := by
  refine ⟨?_, ?_, ?_, ?_⟩ <;> simp [World.frozen?, h.hD]
/-- the empty disk -/
def Dsk.new (n : Int) : Dsk := ⟨n, fun _ => [], fun _ => [], [], []⟩
end Dk
end Go.Proofs.Ytpbampnbgebpjaa

namespace Go.Proofs.Ytpbampnbgebpjaa
open Go.RowKit
set_option linter.unusedVariables false
set_option linter.unusedSimpArgs false
namespace Dk

theorem has_yes (D : Nat) (n i : Int) (w : World) (hc : w.cell? ⟨D, 0, none⟩ = some (.int .i64 n)) (h0 : 0 ≤ i) (h1 : i < n) : Calls Try.prog 25 #[.pointer (some ⟨D, 0, none⟩), .int .i64 i] w fun e w' => e = .returned (.bool true) ∧ w = w' := by
  have h0' : decide (0 ≤ i) = true := decide_eq_true h0
  have h1' : decide (i < n) = true := decide_eq_true h1
  go_enter Try.func25, Try.ntmps25
  go_wp2
  go_ret
  exact ⟨rfl, rfl⟩
theorem has_no (D : Nat) (n i : Int) (w : World) (hc : w.cell? ⟨D, 0, none⟩ = some (.int .i64 n)) (h : i < 0 ∨ n ≤ i) : Calls Try.prog 25 #[.pointer (some ⟨D, 0, none⟩), .int .i64 i] w fun e w' => e = .returned (.bool false) ∧ w = w' := by
  by_cases h0 : 0 ≤ i
  · have h0' : decide (0 ≤ i) = true := decide_eq_true h0
    have h1' : decide (i < n) = false := decide_eq_false (by omega)
    clear h
    go_enter Try.func25, Try.ntmps25
    go_wp2
    go_ret
    exact ⟨rfl, rfl⟩
  · have h0' : decide (0 ≤ i) = false := decide_eq_false h0
    clear h
    go_enter Try.func25, Try.ntmps25
    go_wp2
    go_ret
    exact ⟨rfl, rfl⟩
theorem size_any (D : Nat) (n : Int) (w : World) (hc : w.cell? ⟨D, 0, none⟩ = some (.int .i64 n)) : Calls Try.prog 24 #[.pointer (some ⟨D, 0, none⟩)] w fun e w' => e = .returned (.int .i64 n) ∧ w = w' := by
  go_enter Try.func24, Try.ntmps24
  go_wp2
  go_ret
  exact ⟨rfl, rfl⟩
theorem size_nil (w : World) : Calls Try.prog 24 #[.pointer none] w fun e w' => e = .returned (.int .i64 0) ∧ w = w' := by
  go_enter Try.func24, Try.ntmps24
  go_wp2
  go_ret
  exact ⟨rfl, rfl⟩
theorem writes_any (D n c : Nat) (a : Option Addr) (w : World) (hc : w.cell? ⟨D, 3, none⟩ = some (.slice a n c)) : Calls Try.prog 16 #[.pointer (some ⟨D, 0, none⟩)] w fun e w' => e = .returned (.int .i64 n) ∧ w = w' := by
  go_enter Try.func16, Try.ntmps16
  go_wp2
  go_ret
  exact ⟨rfl, rfl⟩
theorem writes_nil (w : World) : Calls Try.prog 16 #[.pointer none] w fun e w' => e = .returned (.int .i64 0) ∧ w = w' := by
  go_enter Try.func16, Try.ntmps16
  go_wp2
  go_ret
  exact ⟨rfl, rfl⟩
theorem read_nil (i : Int) (w : World) : Calls Try.prog 11 #[.pointer none, .int .i64 i] w fun e w' => e = .returned (.tuple #[.slice none 0 0, .int .i64 1]) ∧ w = w' := by
  go_enter Try.func11, Try.ntmps11
  go_wp2
  go_ret2
  exact ⟨rfl, rfl⟩
theorem write_nil (i : Int) (v : Value) (w : World) : Calls Try.prog 9 #[.pointer none, .int .i64 i, v] w fun e w' => e = .returned (.int .i64 1) ∧ w = w' := by
  go_enter Try.func9, Try.ntmps9
  go_wp2
  go_ret
  exact ⟨rfl, rfl⟩
theorem sync_nil (w : World) : Calls Try.prog 10 #[.pointer none] w fun e w' => e = .returned (.tuple #[]) ∧ w = w' := by
  go_enter Try.func10, Try.ntmps10
  go_wp2
  go_end0
  exact ⟨rfl, rfl⟩
theorem pending_nil (w : World) : Calls Try.prog 14 #[.pointer none] w fun e w' => e = .returned (.int .i64 0) ∧ w = w' := by
  go_enter Try.func14, Try.ntmps14
  go_wp2_with (go_at_call 16; refine (writes_nil _).mono ?_; rintro e w' ⟨rfl, rfl⟩)
  go_ret
  exact ⟨rfl, rfl⟩
theorem cut_nil (v : Value) (w : World) : Calls Try.prog 13 #[.pointer none, v] w fun e w' => e = .returned (.pointer none) ∧ w = w' := by
  go_enter Try.func13, Try.ntmps13
  go_wp2
  go_ret
  exact ⟨rfl, rfl⟩
theorem cutat_nil (n : Int) (v : Value) (w : World) : Calls Try.prog 17 #[.pointer none, .int .i64 n, v] w fun e w' => e = .returned (.pointer none) ∧ w = w' := by
  go_enter Try.func17, Try.ntmps17
  go_wp2
  go_ret
  exact ⟨rfl, rfl⟩
end Dk
end Go.Proofs.Ytpbampnbgebpjaa

namespace Go.Proofs.Ytpbampnbgebpjaa
open Go.RowKit
set_option linter.unusedVariables false
set_option linter.unusedSimpArgs false
namespace Dk

theorem new_no (n : Int) (w : World) (h : n < 1 ∨ 4096 < n) : Calls Try.prog 7 #[.int .i64 n] w fun e w' => e = .returned (.tuple #[.pointer none, .int .i64 1]) ∧ w = w' := by
  by_cases h0 : n < 1
  · have h0' : decide (n < 1) = true := decide_eq_true h0
    clear h
    go_enter Try.func7, Try.ntmps7
    go_wp2
    go_ret2
    exact ⟨rfl, rfl⟩
  · have h0' : decide (n < 1) = false := decide_eq_false h0
    have h1' : decide (4096 < n) = true := decide_eq_true (by omega)
    clear h
    go_enter Try.func7, Try.ntmps7
    go_wp2
    go_ret2
    exact ⟨rfl, rfl⟩
theorem new_yes (n : Int) (w : World) (h0 : 1 ≤ n) (h1 : n ≤ 4096) : Calls Try.prog 7 #[.int .i64 n] w fun e w' => e = .returned (.tuple #[.pointer (some ⟨w.heap.size + 2, 0, none⟩), .int .i64 0]) ∧ w' = ((w.alloc (.map #[] 0)).alloc (.map #[] 0)).alloc (.cells #[.int .i64 n, .map (some w.heap.size), .map (some (w.heap.size + 1)), .slice none 0 0, .slice none 0 0] 58) := by
  have h0' : decide (n < 1) = false := decide_eq_false (by omega)
  have h1' : decide (4096 < n) = false := decide_eq_false (by omega)
  have hmm := @run_makeMap Try.prog
  go_enter Try.func7, Try.ntmps7
  go_wp2
  go_ret2
  exact ⟨rfl, rfl⟩
theorem clone_map (M : Nat) (es : Array MapEntry) (c : Nat) (w : World) (hb : w.heap[M]? = some (.map es c)) : Calls Try.prog 32 #[.map (some M)] w fun e w' => e = .returned (.map (some w.heap.size)) ∧ w' = w.alloc (.map es c) := by
  have hq := fun w => run_eql_map_nil_sl (P := Try.prog) w 54 _ _ (some M) Try.underlying54
  go_enter Try.func32, Try.ntmps32
  go_wp2
  rw [run_callFunc_extern Try.func33 (by kernel_rfl) (by kernel_rfl) (by kernel_rfl) (e := Extern.MapsClone.clone) (by kernel_rfl), run_maps_clone_sl w 54 hb]
  simp only [Result.andThen]
  rw [Oper.upon_value]
  go_wp2
  rw [run_typeAssert_map_sl _ 54 _ _ _ _ Try.underlying54]
  simp only [Result.andThen]
  rw [Oper.upon_value]
  go_wp2
  go_ret
  exact ⟨rfl, rfl⟩
theorem info_u8 : (Try.prog.info? 5).map (fun i => (i.zero, i.size, i.bytes)) = some (some (.int .u8 0), 1, 1) := by kernel_rfl
theorem bytes_at (a : Addr) (l : List Int) (w : World) (o : Obj) (h : ∀ i, i < l.length → w.cell? (a.add i) = some (.int .u8 (l.getD i 0))) : ∀ j u, (l.map (Value.int .u8))[j]? = some u → (w.alloc o).cell? (a.add j) = some u := by
  intro j u hu
  rw [List.getElem?_map] at hu
  cases hj : l[j]? with
  | none => rw [hj] at hu; cases hu
  | some x =>
    rw [hj] at hu
    obtain ⟨h1, h2⟩ := List.getElem?_eq_some_iff.1 hj
    have h3 := h j h1
    rw [List.getD_eq_getElem?_getD, hj] at h3
    cases hu
    exact (World.grownBy_alloc w o none).cell h3 (by simp)
theorem clone_bytes (A0 : Option Addr) (n c : Nat) (l : List Int) (w : World) (hl : l.length = n) (hn : n ≤ 1000) (hb : IsBy l) (hc : ∀ i, i < n → ∃ a, A0 = some a ∧ w.cell? (a.add i) = some (.int .u8 (l.getD i 0))) : Calls Try.prog 26 #[.slice A0 n c] w fun e w' => ∃ v, e = .returned v ∧ Byts w' v l ∧ Below w.heap.size w w' := by
  cases A0 with
  | none =>
    have hn0 : n = 0 := by
      cases n with
      | zero => rfl
      | succ n => obtain ⟨a, h, _⟩ := hc 0 (by omega); cases h
    subst hn0
    obtain rfl : l = [] := List.eq_nil_of_length_eq_zero hl
    have hq := fun w => Lib.run_eql_slice_nil (P := Try.prog) w 30 5 none 0 c 0 0 Try.underlying30
    go_enter Try.func26, Try.ntmps26
    go_wp2
    go_ret
    exact ⟨_, rfl, Byts.nil _, Below.refl _ _⟩
  | some a =>
    have hq := fun w => Lib.run_eql_slice_nil (P := Try.prog) w 30 5 (some a) n c 0 0 Try.underlying30
    obtain ⟨i0, hi, hz0, hz1, hz2⟩ := info_parts info_u8
    have hown : (w.alloc (.cells #[] 5)).ownsRow w.heap.size 5 1 (.slice (some ⟨w.heap.size, 0, none⟩) 0 0) 0 [] := World.ownsRow_made w #[] 0 (Nat.le_refl _) (by decide) rfl
    have HC := Lib.hid hc
    have HL := Lib.hid hl
    have HN := Lib.hid hn
    clear hc hl hn
    go_enter Try.func26, Try.ntmps26
    go_wp2_with (at_builtin; refine wpList_append_own _ rfl _ _ 30 rfl w.heap.size 5 i0 (.int .u8 0) 1 1 Try.underlying30 hi hz0 hz1 hz2 rfl (by decide) _ _ _ rfl hown a n c (l.map (Value.int .u8)) rfl ?c1 ?c2 ?c3 ?c4 ?c5 ?c6 ?_; (case c1 => rw [List.length_map, HL.out, Nat.mul_one]); (case c2 => exact bytes_at a l w _ (fun i hi => by obtain ⟨a2, e, h⟩ := HC.out i (by rw [← HL.out]; exact hi); cases e; exact h)); (case c3 => intro u hu; obtain ⟨x, _, rfl⟩ := List.mem_map.1 hu; rfl); (case c4 => have := HN.out; simp only [maxLen]; omega); (case c5 => have := HN.out; omega); (case c6 => simp))
    intro v' w1 hown' hg _
    have hown2 : w1.ownsRow w.heap.size 5 1 v' n (l.map (Value.int .u8)) := by simpa using hown'
    have HO := Lib.hid hown2
    clear hown2
    have HG := Lib.hid hg
    clear hown' hg
    go_wp2
    go_ret
    refine ⟨v', rfl, ⟨hb, by rw [HL.out]; exact own_base HO.out (Nat.zero_le _)⟩, ?_⟩
    exact ((Below.refl _ _).alloc (Nat.le_refl _) _).grown HG.out (by simp) (fun k hk => by cases hk; exact Nat.le_refl _)
end Dk
end Go.Proofs.Ytpbampnbgebpjaa

namespace Go.Proofs.Ytpbampnbgebpjaa
open Go.RowKit
set_option linter.unusedVariables false
set_option linter.unusedSimpArgs false
namespace Dk

/-- bytes, and noughts behind them, a sector -/
def full (l : List Int) : List Int := l ++ List.replicate (128 - l.length) 0
theorem full_len (l : List Int) (h : l.length ≤ 128) : (full l).length = 128 := by simp [full]; omega
theorem full_by {l : List Int} (h : IsBy l) : IsBy (full l) := by
  intro c hc
  rcases List.mem_append.1 hc with hc | hc
  · exact h c hc
  · rw [(List.mem_replicate.1 hc).2]; omega
theorem bytes_cells {w : World} {A0 : Option Addr} {cap : Nat} {l : List Int} (h : Byts w (.slice A0 l.length cap) l) (hp : 0 < l.length) : ∃ ad, A0 = some ad ∧ ∀ j v, (l.map (Value.int .u8))[j]? = some v → w.cell? (ad.add j) = some v := by
  obtain ⟨hl, h2⟩ := h.2
  rcases h2 with ⟨q, h0⟩ | ⟨g, cap2, cur, q, q2, q3, q4⟩
  · omega
  · cases q
    exact ⟨_, rfl, fun j v hj => World.ownsRow.cells (w := w) (base := 0) (e := 5) (size := 1) h.2 (g := g) rfl j v hj⟩
/-- noughts in memory -/
def zs (n : Nat) : List Value := List.replicate n (.int .u8 0)
theorem zs_len (n : Nat) : (zs n).length = n := List.length_replicate
theorem splice_zs (l : List Int) (n : Nat) : splice (zs n) 0 (l.map (Value.int .u8)) = (l ++ List.replicate (n - l.length) 0).map (Value.int .u8) := by
  simp only [splice, zs, List.take_zero, List.nil_append, Nat.zero_add, List.length_map, List.map_append, List.map_replicate, List.drop_replicate]
theorem make128 (W : World) : (Instr.makeSlice 30 (.int .i64 128) (.int .i64 128)).run Try.prog W = .ok (.slice (some ⟨W.heap.size, 0, none⟩) 128 128) (W.alloc (.cells (zs 128).toArray 5)) := by kernel_rfl
theorem read_no (base : Nat) (w : World) (D : Nat) (i : Int) (d : Dsk) (h : IsDk base w D d) (hi : i < 0 ∨ d.N ≤ i) : Calls Try.prog 11 #[.pointer (some ⟨D, 0, none⟩), .int .i64 i] w fun e w' => e = .returned (.tuple #[.slice none 0 0, .int .i64 51]) ∧ w = w' := by
  obtain ⟨F, M, lv, sv, hd⟩ := h
  obtain ⟨c0, _⟩ := hd.cells
  have hH := fun W => has_no D d.N i W
  clear hd
  go_enter Try.func11, Try.ntmps11
  go_wp2_with (go_at_call 25; refine (has_no D d.N i _ c0 hi).mono ?_; rintro e w' ⟨rfl, rfl⟩)
  go_ret2
  exact ⟨rfl, rfl⟩
theorem read_yes (base : Nat) (w : World) (D : Nat) (i : Int) (d : Dsk) (h : IsDk base w D d) (h0 : 0 ≤ i) (h1 : i < d.N) (hl : (d.now i).length ≤ 128) : Calls Try.prog 11 #[.pointer (some ⟨D, 0, none⟩), .int .i64 i] w fun e w' => ∃ v, e = .returned (.tuple #[v, .int .i64 0]) ∧ w'.ownsRow w.heap.size 5 1 v 128 ((full (d.now i)).map (Value.int .u8)) ∧ Below w.heap.size w w' := by
  obtain ⟨F, M, lv, sv, hd⟩ := h
  obtain ⟨c0, _, c2, _⟩ := hd.cells
  obtain ⟨es, c, hm, hk, hv⟩ := hd.hM
  have hlk : ∀ o : Obj, (Instr.lookup 54 (.map (some M)) (.int .i64 i) false).run Try.prog (w.alloc o) = .ok ((mget es.toList i).getD (.slice none 0 0)) (w.alloc o) := fun o =>
    run_lookup Try.underlying54 Try.underlying3 (by kernel_rfl) (((World.grownBy_alloc w o none).block M (Array.getElem?_eq_some_iff.1 hm).1 (by simp)).trans hm) hk i
  have hb := hv i
  generalize (mget es.toList i).getD (.slice none 0 0) = u at hlk hb
  obtain ⟨A0, cap, rfl⟩ : ∃ A0 cap, u = .slice A0 (d.now i).length cap := by
    rcases hb.2.2 with ⟨q, h0⟩ | ⟨g, cap, cur, q, _⟩
    · rw [q, h0]; exact ⟨_, _, rfl⟩
    · exact ⟨_, _, q⟩
  have hDlt := (Array.getElem?_eq_some_iff.1 hd.hD).1
  have HB := Lib.hid hb
  clear hd hv hb hm hk
  have hmk := make128
  have HH0 := Lib.hid h0
  have HH1 := Lib.hid h1
  have HL := Lib.hid hl
  clear h0 h1 hl
  go_enter Try.func11, Try.ntmps11
  go_wp2_with (first | (go_at_call 25; refine (has_yes D d.N i _ c0 HH0.out HH1.out).mono ?_; rintro e w' ⟨rfl, rfl⟩) | (with_reducible refine wpList_copy_splice rfl (.tmp 16) (.tmp 22) 30 30 rfl 5 Try.underlying30 (by kernel_rfl) (some ⟨w.heap.size, 0, none⟩) A0 128 128 (d.now i).length cap rfl rfl w.heap.size 0 (zs 128) 5 ?g1 ((d.now i).map (Value.int .u8)) ?g2 ?g3 ?g4 ?g5 w.heap.size w ?g6 (Nat.le_refl _) ?_))
  case g1 => exact World.alloc_heap_new _ _
  case g2 => have := HL.out; rw [List.length_map]; exact (Nat.min_eq_left this).symm
  case g3 =>
    intro hp
    obtain ⟨ad, e, h⟩ := bytes_cells HB.out (by simpa using hp)
    exact ⟨ad, e, fun j x hj => (World.grownBy_alloc w _ none).cell (h j _ (by rw [List.getElem?_map, hj]; rfl)) (by simp)⟩
  case g4 => have := HL.out; rw [List.length_map, zs_len]; omega
  case g5 => intro v hv; obtain ⟨x, _, rfl⟩ := List.mem_map.1 hv; rfl
  case g6 => exact (Below.refl _ _).alloc (Nat.le_refl _) _
  intro w1 hw1 hb1
  have HW := Lib.hid hw1.out
  have HB1 := Lib.hid hb1
  clear hw1 hb1
  go_wp2
  go_ret2
  refine ⟨_, rfl, ⟨?_, .inr ⟨w.heap.size, 128, _, rfl, Nat.le_refl _, HW.out, Nat.le_refl _, by decide, ?_, ?_⟩⟩, HB1.out⟩
  · rw [List.length_map, full_len _ HL.out]
  · have := HL.out
    simp only [splice, List.size_toArray, List.length_append, List.length_take, List.length_drop, List.length_map, zs_len]
    omega
  · have := HL.out
    have e : (splice (zs 128) 0 ((d.now i).map (Value.int .u8))) = (full (d.now i)).map (Value.int .u8) := splice_zs _ 128
    show List.take _ (splice (zs 128) 0 ((d.now i).map (Value.int .u8))) = _
    rw [e, List.take_of_length_le (by rw [List.length_map, full_len _ this]; omega)]
end Dk
end Go.Proofs.Ytpbampnbgebpjaa

namespace Go.Proofs.Ytpbampnbgebpjaa
open Go.RowKit Go.Proofs.YtpbampnbgebpjaaW.PrintWords Go.Proofs.YtpbampnbgebpjaaW.PrintLast
set_option linter.unusedVariables false
set_option linter.unusedSimpArgs false
namespace Dk

theorem info_int : (Try.prog.info? 3).map (fun i => (i.zero, i.size, i.bytes)) = some (some (.int .i64 0), 1, 8) := by kernel_rfl
set_option maxHeartbeats 1000000 in
set_option maxRecDepth 100000 in
theorem sync_raw (base D n lc ns : Nat) (la : Option Addr) (sv : Value) (ss : List Value) (cs : Array Value) (w : World) (hD : w.heap[D]? = some (.cells cs 58 (0, 0))) (h3 : cs[3]? = some (.slice la n lc)) (h4 : cs[4]? = some sv)
    (hS : w.ownsRow base 3 1 sv ns ss) (hns : ns ≤ 1000000) (hb : base ≤ w.heap.size) (hne : sv.ownBlock ≠ some D) :
    Calls Try.prog 10 #[.pointer (some ⟨D, 0, none⟩)] w fun e w' => e = .returned (.tuple #[]) ∧ ∃ sv1 w3, w3.ownsRow base 3 1 sv1 (ns + 1) (ss ++ [.int .i64 n]) ∧ w.grownBy w3 sv.ownBlock ∧ (sv1.ownBlock = sv.ownBlock ∨ ∃ b, sv1.ownBlock = some b ∧ w.heap.size ≤ b) ∧ w' = w3.setCell ⟨D, 4, none⟩ sv1 := by
  have c3 : w.cell? ⟨D, 3, none⟩ = some (.slice la n lc) := by exact cell_of hD h3
  have c4 : w.cell? ⟨D, 4, none⟩ = some sv := by exact cell_of hD h4
  have HD := Lib.hid (show w.heap[D]? = some (.cells cs 58 (0, 0)) from hD)
  have H3 := Lib.hid h3
  have H4 := Lib.hid h4
  have HS := Lib.hid hS
  have HNS := Lib.hid hns
  have HBS := Lib.hid hb
  have HDL := Lib.hid (Array.getElem?_eq_some_iff.1 hD).1
  have HNE := Lib.hid hne
  clear hD h3 h4 hS hns hb hne
  go_enter Try.func10, Try.ntmps10
  go_wp2
  refine Go.Proofs.YtpbampnbgebpjaaW.PrintLast.start_ (n := 15) (S := fun v => v.cell? ⟨D, 3, none⟩ = some (.slice la n lc) ∧ v.cell? ⟨D, 4, none⟩ = some sv) (ds := [14]) #[false, false, false, false, false, false, false, false, false, false, false, false, false, false, false] (by kernel_rfl) rfl rfl ⟨c3, c4⟩ (fun hHeld => ?_)
  refine Go.Proofs.YtpbampnbgebpjaaW.PrintLast.pure_ (i := 0) (N := some 4) (v := ?_) (a' := ?_) #[true, false, false, false, false, false, false, false, false, false, false, false, false, false, false] rfl rfl (by kernel_rfl) (fun _ _ _ h => h) (Or.inl ⟨by rfl, ?_⟩) ?_ ?_
  rotate_left
  · intro w'
    go_simp
    with_reducible rfl
  rotate_left
  · simp only [Act.put, List.setIfInBounds_toArray, List.set_cons_zero, List.set_cons_succ, Go.Proofs.YtpbampnbgebpjaaW.PrintLast.i64_w, Go.Proofs.YtpbampnbgebpjaaW.PrintLast.i32_w]
    rfl
  refine Go.Proofs.YtpbampnbgebpjaaW.PrintLast.pure_ (i := 1) (N := some 5) (v := ?_) (a' := ?_) #[true, true, false, false, false, false, false, false, false, false, false, false, false, false, false] rfl rfl (by kernel_rfl) (fun _ _ _ h => h) (Or.inl ⟨by rfl, ?_⟩) ?_ ?_
  rotate_left
  · intro w'
    go_simp
    with_reducible rfl
  rotate_left
  · simp only [Act.put, List.setIfInBounds_toArray, List.set_cons_zero, List.set_cons_succ, Go.Proofs.YtpbampnbgebpjaaW.PrintLast.i64_w, Go.Proofs.YtpbampnbgebpjaaW.PrintLast.i32_w]
    rfl
  refine Go.Proofs.YtpbampnbgebpjaaW.PrintLast.pure_ (i := 2) (N := some 6) (v := ?_) (a' := ?_) #[true, true, true, false, false, false, false, false, false, false, false, false, false, false, false] rfl rfl (by kernel_rfl) (fun _ _ _ h => h) (Or.inl ⟨by rfl, ?_⟩) ?_ ?_
  rotate_left
  · intro w'
    go_simp
    with_reducible rfl
  rotate_left
  · simp only [Act.put, List.setIfInBounds_toArray, List.set_cons_zero, List.set_cons_succ, Go.Proofs.YtpbampnbgebpjaaW.PrintLast.i64_w, Go.Proofs.YtpbampnbgebpjaaW.PrintLast.i32_w]
    rfl
  refine Go.Proofs.YtpbampnbgebpjaaW.PrintLast.pure_ (i := 3) (N := some 7) (v := ?_) (a' := ?_) #[true, true, true, true, false, false, false, false, false, false, false, false, false, false, false] rfl rfl (by kernel_rfl) (fun _ _ _ h => h) (Or.inl ⟨by rfl, ?_⟩) ?_ ?_
  rotate_left
  · intro w'
    go_simp
    with_reducible rfl
  rotate_left
  · simp only [Act.put, List.setIfInBounds_toArray, List.set_cons_zero, List.set_cons_succ, Go.Proofs.YtpbampnbgebpjaaW.PrintLast.i64_w, Go.Proofs.YtpbampnbgebpjaaW.PrintLast.i32_w]
    rfl
  refine Go.Proofs.YtpbampnbgebpjaaW.PrintLast.take_ (i := 4) (N := some 8) (v := ?_) (a' := ?_) #[true, true, true, true, true, false, false, false, false, false, false, false, false, false, false] rfl rfl (by kernel_rfl) (fun _ _ _ h => h) (Or.inl ⟨by rfl, ?_⟩) hHeld ?_ ?_
  rotate_left
  · rintro w' ⟨s0, s1⟩
    go_simp
    with_reducible rfl
  rotate_left
  · simp only [Act.put, List.setIfInBounds_toArray, List.set_cons_zero, List.set_cons_succ, Go.Proofs.YtpbampnbgebpjaaW.PrintLast.i64_w, Go.Proofs.YtpbampnbgebpjaaW.PrintLast.i32_w]
    rfl
  refine Go.Proofs.YtpbampnbgebpjaaW.PrintLast.pure_ (i := 5) (N := some 9) (v := ?_) (a' := ?_) #[true, true, true, true, true, true, false, false, false, false, false, false, false, false, false] rfl rfl (by kernel_rfl) (fun _ _ _ h => h) (Or.inl ⟨by rfl, ?_⟩) ?_ ?_
  rotate_left
  · intro w'
    go_simp
    with_reducible rfl
  rotate_left
  · simp only [Act.put, List.setIfInBounds_toArray, List.set_cons_zero, List.set_cons_succ, Go.Proofs.YtpbampnbgebpjaaW.PrintLast.i64_w, Go.Proofs.YtpbampnbgebpjaaW.PrintLast.i32_w]
    rfl
  refine Go.Proofs.YtpbampnbgebpjaaW.PrintLast.pure_ (i := 6) (N := some 10) (v := ?_) (a' := ?_) #[true, true, true, true, true, true, true, false, false, false, false, false, false, false, false] rfl rfl (by kernel_rfl) (fun _ _ _ h => h) (Or.inl ⟨by rfl, ?_⟩) ?_ ?_
  rotate_left
  · intro w'
    go_simp
    with_reducible rfl
  rotate_left
  · simp only [Act.put, List.setIfInBounds_toArray, List.set_cons_zero, List.set_cons_succ, Go.Proofs.YtpbampnbgebpjaaW.PrintLast.i64_w, Go.Proofs.YtpbampnbgebpjaaW.PrintLast.i32_w]
    rfl
  refine Go.Proofs.YtpbampnbgebpjaaW.PrintLast.pure_ (i := 7) (N := some 11) (v := ?_) (a' := ?_) #[true, true, true, true, true, true, true, true, false, false, false, false, false, false, false] rfl rfl (by kernel_rfl) (fun _ _ _ h => h) (Or.inl ⟨by rfl, ?_⟩) ?_ ?_
  rotate_left
  · intro w'
    go_simp
    with_reducible rfl
  rotate_left
  · simp only [Act.put, List.setIfInBounds_toArray, List.set_cons_zero, List.set_cons_succ, Go.Proofs.YtpbampnbgebpjaaW.PrintLast.i64_w, Go.Proofs.YtpbampnbgebpjaaW.PrintLast.i32_w]
    rfl
  refine Go.Proofs.YtpbampnbgebpjaaW.PrintLast.take_ (i := 8) (N := some 12) (v := ?_) (a' := ?_) #[true, true, true, true, true, true, true, true, true, false, false, false, false, false, false] rfl rfl (by kernel_rfl) (fun _ _ _ h => h) (Or.inl ⟨by rfl, ?_⟩) hHeld ?_ ?_
  rotate_left
  · rintro w' ⟨s0, s1⟩
    go_simp
    with_reducible rfl
  rotate_left
  · simp only [Act.put, List.setIfInBounds_toArray, List.set_cons_zero, List.set_cons_succ, Go.Proofs.YtpbampnbgebpjaaW.PrintLast.i64_w, Go.Proofs.YtpbampnbgebpjaaW.PrintLast.i32_w]
    rfl
  refine Go.Proofs.YtpbampnbgebpjaaW.PrintLast.take_ (i := 9) (N := some 13) (v := ?_) (a' := ?_) #[true, true, true, true, true, true, true, true, true, true, false, false, false, false, false] rfl rfl (by kernel_rfl) (fun _ _ _ h => h) (Or.inl ⟨by rfl, ?_⟩) hHeld ?_ ?_
  rotate_left
  · rintro w' ⟨s0, s1⟩
    go_simp
    with_reducible rfl
  rotate_left
  · simp only [Act.put, List.setIfInBounds_toArray, List.set_cons_zero, List.set_cons_succ, Go.Proofs.YtpbampnbgebpjaaW.PrintLast.i64_w, Go.Proofs.YtpbampnbgebpjaaW.PrintLast.i32_w]
    rfl
  refine Go.Proofs.YtpbampnbgebpjaaW.PrintLast.one_ (i := 10) (N := some 14) #[true, true, true, true, true, true, true, true, true, true, true, false, false, false, false] rfl rfl (by kernel_rfl) (by decide) (fun K hK => ?_)
  refine Go.Proofs.YtpbampnbgebpjaaW.PrintLast.value_ (w1 := w.drew.alloc (.cells #[.int .i64 n] 3)) (v := .slice (some ⟨w.heap.size, 0, none⟩) 1 1) (by rfl) rfl (by go_simp) ?_
  refine hK.out _ _ ⟨cell_al _ hHeld.1, cell_al _ hHeld.2⟩ (fun hHeld => ?_)
  clear hK K
  refine Go.Proofs.YtpbampnbgebpjaaW.PrintLast.norm_ (a' := ?_) ?_ ?_
  rotate_left
  · show Act.put _ (some 14) _ = _
    simp only [Act.put, List.setIfInBounds_toArray, List.set_cons_zero, List.set_cons_succ, Go.Proofs.YtpbampnbgebpjaaW.PrintLast.i64_w, Go.Proofs.YtpbampnbgebpjaaW.PrintLast.i32_w]
    rfl
  refine Go.Proofs.YtpbampnbgebpjaaW.PrintLast.one_ (i := 11) (N := some 15) #[true, true, true, true, true, true, true, true, true, true, true, true, false, false, false] rfl rfl (by kernel_rfl) (by decide) (fun K hK => ?_)
  refine step_append_cells (w0 := w.drew) (W := w.drew) base (by rfl) (.tmp 8) (.tmp 14) 56 3 (.int .i64 0) 1 8 rfl Try.underlying56 info_int (by rfl) (by decide) (by decide) sv ns ss [.int .i64 n] (by rfl) (by rfl) (by rfl) (by simp [Value.oneCell']) (own_move HS.out (fun g cur _ hg => hg)) (Below.refl _ _) HBS.out (by have := HNS.out; omega) (fun sv1 w3 hown3 hB3 hg3 hv3 => ?_)
  have hD3 : w3.heap[D]? = w.heap[D]? := hg3.block D HDL.out (fun q => HNE.out q.symm)
  obtain ⟨av1, cv1, rfl⟩ := own_slice hown3
  have hD4 := hD3.trans HD.out
  have hf3 : w3.frozen? ⟨D, 4, none⟩ = false := free_of hD4
  have hc3 : w3.cell? ⟨D, 4, none⟩ = some sv := cell_of hD4 H4.out
  have hc4 : w3.cell? ⟨D, 3, none⟩ = some (.slice la n lc) := cell_of hD4 H3.out
  refine hK.out _ _ ⟨hc4, hc3⟩ (fun hHeld => ?_)
  clear hK K
  refine Go.Proofs.YtpbampnbgebpjaaW.PrintLast.norm_ (a' := ?_) ?_ ?_
  rotate_left
  · show Act.put _ (some 15) _ = _
    simp only [Act.put, List.setIfInBounds_toArray, List.set_cons_zero, List.set_cons_succ, Go.Proofs.YtpbampnbgebpjaaW.PrintLast.i64_w, Go.Proofs.YtpbampnbgebpjaaW.PrintLast.i32_w]
    rfl
  refine Go.Proofs.YtpbampnbgebpjaaW.PrintLast.pure_ (i := 12) (N := some 16) (v := ?_) (a' := ?_) #[true, true, true, true, true, true, true, true, true, true, true, true, true, false, false] rfl rfl (by kernel_rfl) (fun _ _ _ h => h) (Or.inl ⟨by rfl, ?_⟩) ?_ ?_
  rotate_left
  · intro w'
    go_simp
    with_reducible rfl
  rotate_left
  · simp only [Act.put, List.setIfInBounds_toArray, List.set_cons_zero, List.set_cons_succ, Go.Proofs.YtpbampnbgebpjaaW.PrintLast.i64_w, Go.Proofs.YtpbampnbgebpjaaW.PrintLast.i32_w]
    rfl
  refine Go.Proofs.YtpbampnbgebpjaaW.PrintLast.pure_ (i := 13) (N := some 17) (v := ?_) (a' := ?_) #[true, true, true, true, true, true, true, true, true, true, true, true, true, true, false] rfl rfl (by kernel_rfl) (fun _ _ _ h => h) (Or.inl ⟨by rfl, ?_⟩) ?_ ?_
  rotate_left
  · intro w'
    go_simp
    with_reducible rfl
  rotate_left
  · simp only [Act.put, List.setIfInBounds_toArray, List.set_cons_zero, List.set_cons_succ, Go.Proofs.YtpbampnbgebpjaaW.PrintLast.i64_w, Go.Proofs.YtpbampnbgebpjaaW.PrintLast.i32_w]
    rfl
  refine Go.Proofs.YtpbampnbgebpjaaW.PrintLast.last_ (i := 14) (N := none) #[true, true, true, true, true, true, true, true, true, true, true, true, true, true, true] rfl rfl (by kernel_rfl) (by decide) (fun K hK => ?_)
  refine Go.Proofs.YtpbampnbgebpjaaW.PrintLast.skip_ (w1 := w3.setCell ⟨D, 4, none⟩ (.slice av1 (ns + 1) cv1)) (by rfl) rfl (by go_simp) ?_
  refine hK.out _ _ ?_
  clear hK K
  refine Go.Proofs.YtpbampnbgebpjaaW.PrintLast.done_ (by kernel_rfl) ?_
  go_wp2
  go_end0
  exact ⟨rfl, _, w3, hown3, ⟨hg3.os, hg3.tape, hg3.output, hg3.size, hg3.block⟩, hv3, rfl⟩
end Dk
end Go.Proofs.Ytpbampnbgebpjaa

namespace Go.Proofs.Ytpbampnbgebpjaa
open Go.RowKit
set_option linter.unusedVariables false
set_option linter.unusedSimpArgs false
namespace Dk

theorem own_kind {w : World} {base : Nat} {e : TypeId} {size n : Nat} {v : Value} {xs : List Value} (h : w.ownsRow base e size v n xs) {g : Nat} (hg : v.ownBlock = some g) : base ≤ g ∧ ∃ cur, w.heap[g]? = some (.cells cur e (0, 0)) := by
  rcases h.2 with ⟨q, _⟩ | ⟨g', cap, cur, q, q2, q3, _⟩
  · rw [q] at hg; cases hg
  · rw [q] at hg; cases hg; exact ⟨q2, cur, q3⟩
theorem lt_of_heap {w : World} {k : Nat} {o : Obj} (h : w.heap[k]? = some o) : k < w.heap.size := (Array.getElem?_eq_some_iff.1 h).1
theorem MapB.move {B : Nat} {w w' : World} {M : Nat} {m : Int → List Int} (h : MapB w M m) (e : w'.heap[M]? = w.heap[M]?) (hc : Chg B DK w w') : MapB w' M m := by
  obtain ⟨es, c, h1, h2, h3⟩ := h
  exact ⟨es, c, e.trans h1, h2, fun k => (h3 k).keep hc⟩
theorem LogAt.move {B base : Nat} {w w' : World} {lv : Value} {log : List (Int × List Int)} (h : LogAt base w lv log) (e : ∀ g, lv.ownBlock = some g → w'.heap[g]? = w.heap[g]?) (hc : Chg B DK w w') : LogAt base w' lv log := by
  obtain ⟨vs, h1, h2, h3⟩ := h
  exact ⟨vs, h1, fun p hp => (h2 p hp).keep hc, own_move h3 fun g cur hg hh => (e g hg).trans hh⟩
/-- what an append to a row and a store into the disk leave -/
theorem chg_of {base D i : Nat} {w w3 : World} {v v1 : Value} {e : TypeId} {size n : Nat} {xs : List Value} {cs : Array Value} (hb : base ≤ D) (hbw : base ≤ w.heap.size) (hD : w.heap[D]? = some (.cells cs 58 (0, 0))) (hv : w.ownsRow base e size v n xs) (he : ∀ cur, DK (.cells cur e (0, 0)) = true) (hg : w.grownBy w3 v.ownBlock) : Chg base DK w (w3.setCell ⟨D, i, none⟩ v1) := by
  have hs : (w3.setCell ⟨D, i, none⟩ v1).heap.size = w3.heap.size := by simp [World.setCell]
  have ho : ∀ k, k ≠ D → (w3.setCell ⟨D, i, none⟩ v1).heap[k]? = w3.heap[k]? := fun k hk => by simp [World.setCell, Array.getElem?_modify, Ne.symm hk]
  refine ⟨hg.os, hg.tape, hg.output, by rw [hs]; exact hg.size, fun k hk => ?_, fun k o hk hK => ?_⟩
  · rw [ho k (by omega), hg.block k (by omega) (fun q => by have := (own_kind hv q.symm).1; omega)]
  · have h1 : k ≠ D := by rintro rfl; rw [hD] at hk; cases hk; cases hK
    have h2 : some k ≠ v.ownBlock := by
      intro q
      obtain ⟨cur, hc⟩ := (own_kind hv q.symm).2
      rw [hc] at hk
      cases hk
      rw [he cur] at hK
      cases hK
    rw [ho k h1, hg.block k (lt_of_heap hk) h2, hk]
theorem sync_any (base : Nat) (w : World) (D : Nat) (d : Dsk) (h : IsDk base w D d) (hn : d.syncs.length ≤ 1000000) (hbw : base ≤ w.heap.size) : Calls Try.prog 10 #[.pointer (some ⟨D, 0, none⟩)] w fun e w' => e = .returned (.tuple #[]) ∧ IsDk base w' D { d with syncs := d.syncs ++ [(d.log.length : Int)] } ∧ Chg base DK w w' := by
  obtain ⟨F, M, lv, sv, hd⟩ := h
  obtain ⟨vs, l1, l2, l3⟩ := hd.hL
  obtain ⟨la, lc, rfl⟩ := own_slice l3
  have hne : sv.ownBlock ≠ some D := fun q => by
    obtain ⟨cur, hc⟩ := (own_kind hd.hS q).2
    rw [hd.hD] at hc
    cases hc
  refine (sync_raw base D d.log.length lc d.syncs.length la sv (d.syncs.map (Value.int .i64)) _ w hd.hD rfl rfl hd.hS hn hbw hne).mono fun e w' ⟨he, sv1, w3, h1, h2, h3, hw⟩ => ⟨he, ?_, ?_⟩
  · subst hw
    have hc : Chg base DK w (w3.setCell ⟨D, 4, none⟩ sv1) := chg_of hd.bD hbw hd.hD hd.hS (fun _ => rfl) h2
    have ho : ∀ k, k ≠ D → (w3.setCell ⟨D, 4, none⟩ sv1).heap[k]? = w3.heap[k]? := fun k hk => by simp [World.setCell, Array.getElem?_modify, Ne.symm hk]
    have hD3 : w3.heap[D]? = _ := (h2.block D (lt_of_heap hd.hD) (fun q => hne q.symm)).trans hd.hD
    have same : ∀ k o, w.heap[k]? = some o → k ≠ D → some k ≠ sv.ownBlock → (w3.setCell ⟨D, 4, none⟩ sv1).heap[k]? = w.heap[k]? := fun k o hk h4 h5 => (ho k h4).trans (h2.block k (lt_of_heap hk) h5)
    have mapNe : ∀ k es c, w.heap[k]? = some (.map es c) → k ≠ D ∧ some k ≠ sv.ownBlock := fun k es c hk =>
      ⟨(by rintro rfl; rw [hd.hD] at hk; cases hk), fun q => (by obtain ⟨cur, hc⟩ := (own_kind hd.hS q.symm).2; rw [hc] at hk; cases hk)⟩
    obtain ⟨esF, cF, hF, _⟩ := hd.hF
    obtain ⟨esM, cM, hM, _⟩ := hd.hM
    refine ⟨F, M, .slice la d.log.length lc, sv1, hd.bD, hd.bF, hd.bM, hd.ne, ?_, hd.hF.move (same F _ hF (mapNe F _ _ hF).1 (mapNe F _ _ hF).2) hc, hd.hM.move (same M _ hM (mapNe M _ _ hM).1 (mapNe M _ _ hM).2) hc, hd.hL.move (fun g hg => ?_) hc, ?_⟩
    · simp [World.setCell, Array.getElem?_modify, hD3]
    · obtain ⟨cur, hcur⟩ := (own_kind l3 hg).2
      refine same g _ hcur (by rintro rfl; rw [hd.hD] at hcur; cases hcur) (fun q => ?_)
      obtain ⟨cur2, hc2⟩ := (own_kind hd.hS q.symm).2
      rw [hc2] at hcur
      cases hcur
    · have e1 : (d.syncs ++ [(d.log.length : Int)]).length = d.syncs.length + 1 := List.length_append
      have e2 : (d.syncs ++ [(d.log.length : Int)]).map (Value.int .i64) = d.syncs.map (Value.int .i64) ++ [.int .i64 d.log.length] := by simp
      show World.ownsRow _ base 3 1 sv1 (d.syncs ++ [(d.log.length : Int)]).length ((d.syncs ++ [(d.log.length : Int)]).map (Value.int .i64))
      rw [e1, e2]
      refine own_move h1 fun g cur hg hh => (ho g ?_).trans hh
      rintro rfl
      rw [hD3] at hh
      cases hh
  · subst hw
    exact chg_of hd.bD hbw hd.hD hd.hS (fun _ => rfl) h2
end Dk
end Go.Proofs.Ytpbampnbgebpjaa

namespace Go.Proofs.Ytpbampnbgebpjaa
open Go.RowKit Go.Proofs.YtpbampnbgebpjaaW.PrintWords Go.Proofs.YtpbampnbgebpjaaW.PrintLast
set_option linter.unusedVariables false
set_option linter.unusedSimpArgs false
namespace Dk

theorem info_wr : (Try.prog.info? 61).map (fun i => (i.zero, i.size, i.bytes)) = some (some (.agg #[.int .i64 0, .slice none 0 0]), 2, 32) := by kernel_rfl
set_option maxHeartbeats 1000000 in
set_option maxRecDepth 100000 in
theorem write_raw (base D F M n : Nat) (N : Int) (lv sv : Value) (ls : List Value) (es : Array MapEntry) (c : Nat) (i : Int) (A0 : Option Addr) (bn bc : Nat) (l : List Int) (w : World)
    (hD : w.heap[D]? = some (.cells #[.int .i64 N, .map (some F), .map (some M), lv, sv] 58 (0, 0))) (hM : w.heap[M]? = some (.map es c)) (hki : KeysInt es.toList) (hL : w.ownsRow base 61 2 lv n ls) (hn : n ≤ 1000000) (hb : base ≤ w.heap.size)
    (h0 : 0 ≤ i) (h1 : i < N) (hl : l.length = bn) (hbn : bn ≤ 128) (hby : IsBy l) (hc : ∀ i, i < bn → ∃ a, A0 = some a ∧ w.cell? (a.add i) = some (.int .u8 (l.getD i 0))) :
    Calls Try.prog 9 #[.pointer (some ⟨D, 0, none⟩), .int .i64 i, .slice A0 bn bc] w fun e w' => e = .returned (.int .i64 0) ∧ ∃ w1 bv es' c' lv1 w3, Byts w1 bv l ∧ Below w.heap.size w w1 ∧ KeysInt es'.toList ∧ (∀ k2, mget es'.toList k2 = if k2 = i then some bv else mget es.toList k2) ∧
      w3.ownsRow base 61 2 lv1 (n + 1) (ls ++ [.int .i64 i, bv]) ∧ (setMap (w1.alloc (.cells #[.int .i64 i, bv] 61)) M (.map es' c')).grownBy w3 lv.ownBlock ∧ w' = w3.setCell ⟨D, 3, none⟩ lv1 := by
  have c0 : w.cell? ⟨D, 0, none⟩ = some (.int .i64 N) := cell_of hD rfl
  have HD := Lib.hid hD
  have HM := Lib.hid hM
  have HKI := Lib.hid hki
  have HL := Lib.hid hL
  have HN := Lib.hid hn
  have HBS := Lib.hid hb
  have H0 := Lib.hid h0
  have H1 := Lib.hid h1
  have HBL := Lib.hid hl
  have HBY := Lib.hid hby
  have HC := Lib.hid hc
  have HDM : Hid (D ≠ M) := Lib.hid (by rintro rfl; rw [hD] at hM; cases hM)
  clear hD hM hki hL hn hb h0 h1 hl hby hc
  go_enter Try.func9, Try.ntmps9
  go_wp2_with (first | (go_at_call 25; refine (has_yes D N i _ c0 H0.out H1.out).mono ?_; rintro e w' ⟨rfl, rfl⟩) | (go_at_call 26; refine (clone_bytes A0 bn bc l _ HBL.out (by omega) HBY.out HC.out).mono ?_; rintro e w1 ⟨bv, rfl, hbv, hb1⟩; have HBV := Lib.hid hbv; have HB1 := Lib.hid hb1; obtain ⟨bva, bvc, hbve⟩ := own_slice hbv.2; subst hbve; clear hbv hb1))
  generalize hbvE : (Value.slice bva l.length bvc) = bv at HBV ⊢
  have HBVE := Lib.hid hbvE
  clear hbvE
  have hsz : w.heap.size ≤ w1.heap.size := HB1.out.size
  have d1 : w1.heap[D]? = _ := (HB1.out.block D (lt_of_heap HD.out)).trans HD.out
  have m1 : w1.heap[M]? = _ := (HB1.out.block M (lt_of_heap HM.out)).trans HM.out
  have d2 := cell_al (.cells #[.int .i64 i, bv] 61) (cell_of (i := 2) d1 rfl)
  have b1 : (w1.alloc (.cells #[.int .i64 i, bv] 61)).cell? ⟨w1.heap.size, 1, none⟩ = some bv := by simp
  have dm : (w1.alloc (.cells #[.int .i64 i, bv] 61)).heap[M]? = some (.map es c) := ((World.grownBy_alloc w1 _ none).block M (lt_of_heap m1) (by simp)).trans m1
  have HD1 := Lib.hid d1
  have HM1 := Lib.hid m1
  clear d1 m1
  have hml := lt_of_heap HM1.out
  refine Go.Proofs.YtpbampnbgebpjaaW.PrintLast.start_ (n := 8) (S := fun v => v.cell? ⟨D, 2, none⟩ = some (.map (some M)) ∧ v.cell? ⟨w1.heap.size, 1, none⟩ = some bv ∧ v.heap[M]? = some (.map es c)) (ds := [7]) #[false, false, false, false, false, false, false, false] (by kernel_rfl) rfl rfl ⟨d2, b1, dm⟩ (fun hHeld => ?_)
  refine Go.Proofs.YtpbampnbgebpjaaW.PrintLast.pure_ (i := 0) (N := some 24) (v := ?_) (a' := ?_) #[true, false, false, false, false, false, false, false] rfl rfl (by kernel_rfl) (fun _ _ _ h => h) (Or.inl ⟨by rfl, ?_⟩) ?_ ?_
  rotate_left
  · intro w'
    go_simp
    with_reducible rfl
  rotate_left
  · simp only [Act.put, List.setIfInBounds_toArray, List.set_cons_zero, List.set_cons_succ, Go.Proofs.YtpbampnbgebpjaaW.PrintLast.i64_w, Go.Proofs.YtpbampnbgebpjaaW.PrintLast.i32_w]
    rfl
  refine Go.Proofs.YtpbampnbgebpjaaW.PrintLast.pure_ (i := 1) (N := some 25) (v := ?_) (a' := ?_) #[true, true, false, false, false, false, false, false] rfl rfl (by kernel_rfl) (fun _ _ _ h => h) (Or.inl ⟨by rfl, ?_⟩) ?_ ?_
  rotate_left
  · intro w'
    go_simp
    with_reducible rfl
  rotate_left
  · simp only [Act.put, List.setIfInBounds_toArray, List.set_cons_zero, List.set_cons_succ, Go.Proofs.YtpbampnbgebpjaaW.PrintLast.i64_w, Go.Proofs.YtpbampnbgebpjaaW.PrintLast.i32_w]
    rfl
  refine Go.Proofs.YtpbampnbgebpjaaW.PrintLast.pure_ (i := 2) (N := some 26) (v := ?_) (a' := ?_) #[true, true, true, false, false, false, false, false] rfl rfl (by kernel_rfl) (fun _ _ _ h => h) (Or.inl ⟨by rfl, ?_⟩) ?_ ?_
  rotate_left
  · intro w'
    go_simp
    with_reducible rfl
  rotate_left
  · simp only [Act.put, List.setIfInBounds_toArray, List.set_cons_zero, List.set_cons_succ, Go.Proofs.YtpbampnbgebpjaaW.PrintLast.i64_w, Go.Proofs.YtpbampnbgebpjaaW.PrintLast.i32_w]
    rfl
  refine Go.Proofs.YtpbampnbgebpjaaW.PrintLast.take_ (i := 3) (N := some 27) (v := ?_) (a' := ?_) #[true, true, true, true, false, false, false, false] rfl rfl (by kernel_rfl) (fun _ _ _ h => h) (Or.inl ⟨by rfl, ?_⟩) hHeld ?_ ?_
  rotate_left
  · rintro w' ⟨s0, s1, s2⟩
    go_simp
    with_reducible rfl
  rotate_left
  · simp only [Act.put, List.setIfInBounds_toArray, List.set_cons_zero, List.set_cons_succ, Go.Proofs.YtpbampnbgebpjaaW.PrintLast.i64_w, Go.Proofs.YtpbampnbgebpjaaW.PrintLast.i32_w]
    rfl
  refine Go.Proofs.YtpbampnbgebpjaaW.PrintLast.pure_ (i := 4) (N := some 28) (v := ?_) (a' := ?_) #[true, true, true, true, true, false, false, false] rfl rfl (by kernel_rfl) (fun _ _ _ h => h) (Or.inl ⟨by rfl, ?_⟩) ?_ ?_
  rotate_left
  · intro w'
    go_simp
    with_reducible rfl
  rotate_left
  · simp only [Act.put, List.setIfInBounds_toArray, List.set_cons_zero, List.set_cons_succ, Go.Proofs.YtpbampnbgebpjaaW.PrintLast.i64_w, Go.Proofs.YtpbampnbgebpjaaW.PrintLast.i32_w]
    rfl
  refine Go.Proofs.YtpbampnbgebpjaaW.PrintLast.pure_ (i := 5) (N := some 29) (v := ?_) (a' := ?_) #[true, true, true, true, true, true, false, false] rfl rfl (by kernel_rfl) (fun _ _ _ h => h) (Or.inl ⟨by rfl, ?_⟩) ?_ ?_
  rotate_left
  · intro w'
    go_simp
    with_reducible rfl
  rotate_left
  · simp only [Act.put, List.setIfInBounds_toArray, List.set_cons_zero, List.set_cons_succ, Go.Proofs.YtpbampnbgebpjaaW.PrintLast.i64_w, Go.Proofs.YtpbampnbgebpjaaW.PrintLast.i32_w]
    rfl
  refine Go.Proofs.YtpbampnbgebpjaaW.PrintLast.take_ (i := 6) (N := some 30) (v := ?_) (a' := ?_) #[true, true, true, true, true, true, true, false] rfl rfl (by kernel_rfl) (fun _ _ _ h => h) (Or.inl ⟨by rfl, ?_⟩) hHeld ?_ ?_
  rotate_left
  · rintro w' ⟨s0, s1, s2⟩
    go_simp
    with_reducible rfl
  rotate_left
  · simp only [Act.put, List.setIfInBounds_toArray, List.set_cons_zero, List.set_cons_succ, Go.Proofs.YtpbampnbgebpjaaW.PrintLast.i64_w, Go.Proofs.YtpbampnbgebpjaaW.PrintLast.i32_w]
    rfl
  refine Go.Proofs.YtpbampnbgebpjaaW.PrintLast.last_ (i := 7) (N := none) #[true, true, true, true, true, true, true, true] rfl rfl (by kernel_rfl) (by decide) (fun K hK => ?_)
  obtain ⟨es', c', hrun, hk', hm'⟩ := run_mapUpdate (w := (w1.alloc (.cells #[.int .i64 i, bv] 61)).drew) Try.underlying54 Try.underlying3 hHeld.2.2 HKI.out i bv
  refine Go.Proofs.YtpbampnbgebpjaaW.PrintLast.skip_ (w1 := setMap (w1.alloc (.cells #[.int .i64 i, bv] 61)).drew M (.map es' c')) (by rfl) rfl (by go_simp) ?_
  refine hK.out _ _ ?_
  clear hK K
  refine Go.Proofs.YtpbampnbgebpjaaW.PrintLast.done_ (by kernel_rfl) ?_
  go_wp2_with fail
  have hml2 : M < (w1.alloc (.cells #[.int .i64 i, bv] 61)).drew.heap.size := by simp; omega
  have hD2 : (setMap (w1.alloc (.cells #[.int .i64 i, bv] 61)).drew M (.map es' c')).heap[D]? = some (.cells #[.int .i64 N, .map (some F), .map (some M), lv, sv] 58 (0, 0)) := (setMap_ne HDM.out).trans (((World.grownBy_alloc w1 _ none).block D (lt_of_heap HD1.out) (by simp)).trans HD1.out)
  have HD2L := Lib.hid (lt_of_heap hD2)
  have e3 : (setMap (w1.alloc (.cells #[.int .i64 i, bv] 61)).drew M (.map es' c')).cell? ⟨D, 3, none⟩ = some lv := cell_of hD2 rfl
  have f0 : (setMap (w1.alloc (.cells #[.int .i64 i, bv] 61)).drew M (.map es' c')).cell? ⟨w1.heap.size, 0, none⟩ = some (.int .i64 i) := (setMap_cell (show w1.heap.size ≠ M by omega)).trans (by simp)
  have f1 : (setMap (w1.alloc (.cells #[.int .i64 i, bv] 61)).drew M (.map es' c')).cell? ⟨w1.heap.size, 1, none⟩ = some bv := (setMap_cell (show w1.heap.size ≠ M by omega)).trans (by simp)
  have HW2 := Lib.hid (show (setMap (w1.alloc (.cells #[.int .i64 i, bv] 61)).drew M (.map es' c')).ownsRow base 61 2 lv n ls from own_move HL.out (fun g cur hg hh => by
    have hne : g ≠ M := by rintro rfl; rw [HM.out] at hh; cases hh
    have h1 := (HB1.out.block g (lt_of_heap hh)).trans hh
    exact (setMap_ne hne).trans (((World.grownBy_alloc w1 _ none).block g (lt_of_heap h1) (by simp)).trans h1)))
  have H1C := Lib.hid (show bv.oneCell' = true by rw [← HBVE.out]; rfl)
  have HBS2 := Lib.hid (show base ≤ (setMap (w1.alloc (.cells #[.int .i64 i, bv] 61)).drew M (.map es' c')).drew.heap.size by have h2 := HBS.out; have h3 := setMap_size (w1.alloc (.cells #[.int .i64 i, bv] 61)).drew M (.map es' c'); show base ≤ (setMap (w1.alloc (.cells #[.int .i64 i, bv] 61)).drew M (.map es' c')).heap.size; rw [h3]; simp; omega)
  have HNE := Lib.hid (show some D ≠ lv.ownBlock from fun q => by obtain ⟨cur, hc⟩ := (own_kind HL.out q.symm).2; rw [HD.out] at hc; cases hc)
  have HNB := Lib.hid (show some w1.heap.size ≠ lv.ownBlock from fun q => by obtain ⟨cur, hc⟩ := (own_kind HL.out q.symm).2; have := lt_of_heap hc; omega)
  have HD2 := Lib.hid hD2
  have HK2 := Lib.hid hk'
  have HM2 := Lib.hid hm'
  clear hD2 hk' hm' hrun
  refine Go.Proofs.YtpbampnbgebpjaaW.PrintLast.start_ (n := 11) (S := fun v => v.cell? ⟨D, 3, none⟩ = some lv ∧ v.cell? ⟨w1.heap.size, 0, none⟩ = some (.int .i64 i) ∧ v.cell? ⟨w1.heap.size, 1, none⟩ = some bv) (ds := [10]) #[false, false, false, false, false, false, false, false, false, false, false] (by kernel_rfl) rfl rfl ⟨e3, f0, f1⟩ (fun hHeld => ?_)
  refine Go.Proofs.YtpbampnbgebpjaaW.PrintLast.pure_ (i := 0) (N := some 31) (v := ?_) (a' := ?_) #[true, false, false, false, false, false, false, false, false, false, false] rfl rfl (by kernel_rfl) (fun _ _ _ h => h) (Or.inl ⟨by rfl, ?_⟩) ?_ ?_
  rotate_left
  · intro w'
    go_simp
    with_reducible rfl
  rotate_left
  · simp only [Act.put, List.setIfInBounds_toArray, List.set_cons_zero, List.set_cons_succ, Go.Proofs.YtpbampnbgebpjaaW.PrintLast.i64_w, Go.Proofs.YtpbampnbgebpjaaW.PrintLast.i32_w]
    rfl
  refine Go.Proofs.YtpbampnbgebpjaaW.PrintLast.pure_ (i := 1) (N := some 32) (v := ?_) (a' := ?_) #[true, true, false, false, false, false, false, false, false, false, false] rfl rfl (by kernel_rfl) (fun _ _ _ h => h) (Or.inl ⟨by rfl, ?_⟩) ?_ ?_
  rotate_left
  · intro w'
    go_simp
    with_reducible rfl
  rotate_left
  · simp only [Act.put, List.setIfInBounds_toArray, List.set_cons_zero, List.set_cons_succ, Go.Proofs.YtpbampnbgebpjaaW.PrintLast.i64_w, Go.Proofs.YtpbampnbgebpjaaW.PrintLast.i32_w]
    rfl
  refine Go.Proofs.YtpbampnbgebpjaaW.PrintLast.pure_ (i := 2) (N := some 33) (v := ?_) (a' := ?_) #[true, true, true, false, false, false, false, false, false, false, false] rfl rfl (by kernel_rfl) (fun _ _ _ h => h) (Or.inl ⟨by rfl, ?_⟩) ?_ ?_
  rotate_left
  · intro w'
    go_simp
    with_reducible rfl
  rotate_left
  · simp only [Act.put, List.setIfInBounds_toArray, List.set_cons_zero, List.set_cons_succ, Go.Proofs.YtpbampnbgebpjaaW.PrintLast.i64_w, Go.Proofs.YtpbampnbgebpjaaW.PrintLast.i32_w]
    rfl
  refine Go.Proofs.YtpbampnbgebpjaaW.PrintLast.pure_ (i := 3) (N := some 34) (v := ?_) (a' := ?_) #[true, true, true, true, false, false, false, false, false, false, false] rfl rfl (by kernel_rfl) (fun _ _ _ h => h) (Or.inl ⟨by rfl, ?_⟩) ?_ ?_
  rotate_left
  · intro w'
    go_simp
    with_reducible rfl
  rotate_left
  · simp only [Act.put, List.setIfInBounds_toArray, List.set_cons_zero, List.set_cons_succ, Go.Proofs.YtpbampnbgebpjaaW.PrintLast.i64_w, Go.Proofs.YtpbampnbgebpjaaW.PrintLast.i32_w]
    rfl
  refine Go.Proofs.YtpbampnbgebpjaaW.PrintLast.take_ (i := 4) (N := some 35) (v := ?_) (a' := ?_) #[true, true, true, true, true, false, false, false, false, false, false] rfl rfl (by kernel_rfl) (fun _ _ _ h => h) (Or.inl ⟨by rfl, ?_⟩) hHeld ?_ ?_
  rotate_left
  · rintro w' ⟨s0, s1, s2⟩
    go_simp
    with_reducible rfl
  rotate_left
  · simp only [Act.put, List.setIfInBounds_toArray, List.set_cons_zero, List.set_cons_succ, Go.Proofs.YtpbampnbgebpjaaW.PrintLast.i64_w, Go.Proofs.YtpbampnbgebpjaaW.PrintLast.i32_w]
    rfl
  refine Go.Proofs.YtpbampnbgebpjaaW.PrintLast.take_ (i := 5) (N := some 36) (v := ?_) (a' := ?_) #[true, true, true, true, true, true, false, false, false, false, false] rfl rfl (by kernel_rfl) (fun _ _ _ h => h) (Or.inl ⟨by rfl, ?_⟩) hHeld ?_ ?_
  rotate_left
  · rintro w' ⟨s0, s1, s2⟩
    go_simp
    with_reducible rfl
  rotate_left
  · simp only [Act.put, List.setIfInBounds_toArray, List.set_cons_zero, List.set_cons_succ, Go.Proofs.YtpbampnbgebpjaaW.PrintLast.i64_w, Go.Proofs.YtpbampnbgebpjaaW.PrintLast.i32_w]
    rfl
  refine Go.Proofs.YtpbampnbgebpjaaW.PrintLast.one_ (i := 6) (N := some 37) #[true, true, true, true, true, true, true, false, false, false, false] rfl rfl (by kernel_rfl) (by decide) (fun K hK => ?_)
  refine Go.Proofs.YtpbampnbgebpjaaW.PrintLast.value_ (w1 := (setMap (w1.alloc (.cells #[.int .i64 i, bv] 61)).drew M (.map es' c')).drew.alloc (.cells #[.int .i64 i, bv] 61)) (v := .slice (some ⟨(setMap (w1.alloc (.cells #[.int .i64 i, bv] 61)).drew M (.map es' c')).heap.size, 0, none⟩) 1 1) (by rfl) rfl (by go_simp) ?_
  have hHeld7 := hHeld
  refine hK.out _ _ ⟨cell_al _ hHeld.1, cell_al _ hHeld.2.1, cell_al _ hHeld.2.2⟩ (fun hHeld => ?_)
  clear hK K
  refine Go.Proofs.YtpbampnbgebpjaaW.PrintLast.norm_ (a' := ?_) ?_ ?_
  rotate_left
  · show Act.put _ (some 37) _ = _
    simp only [Act.put, List.setIfInBounds_toArray, List.set_cons_zero, List.set_cons_succ, Go.Proofs.YtpbampnbgebpjaaW.PrintLast.i64_w, Go.Proofs.YtpbampnbgebpjaaW.PrintLast.i32_w]
    rfl
  refine Go.Proofs.YtpbampnbgebpjaaW.PrintLast.one_ (i := 7) (N := some 38) #[true, true, true, true, true, true, true, true, false, false, false] rfl rfl (by kernel_rfl) (by decide) (fun K hK => ?_)
  refine step_append_cells (w0 := (setMap (w1.alloc (.cells #[.int .i64 i, bv] 61)).drew M (.map es' c')).drew) (W := (setMap (w1.alloc (.cells #[.int .i64 i, bv] 61)).drew M (.map es' c')).drew) base (by rfl) (.tmp 35) (.tmp 37) 55 61 (.agg #[.int .i64 0, .slice none 0 0]) 2 32 rfl Try.underlying55 info_wr (by rfl) (by decide) (by decide) lv n ls [.int .i64 i, bv] (by rfl) (by rfl) (by rfl) (by intro u hu; rcases List.mem_cons.1 hu with rfl | hu; rfl; rw [List.mem_singleton.1 hu]; exact H1C.out) (own_move HW2.out (fun g cur _ hg => hg)) (Below.refl _ _) HBS2.out (by have := HN.out; omega) (fun lv1 w3 hown3 hB3 hg3 hv3 => ?_)
  obtain ⟨lva, lvc, rfl⟩ := own_slice hown3
  have hD4 := (hg3.block D HD2L.out HNE.out).trans HD2.out
  have hf3 : w3.frozen? ⟨D, 3, none⟩ = false := free_of hD4
  have hc3 : w3.cell? ⟨D, 3, none⟩ = some lv := cell_of hD4 rfl
  have hk0 : w3.cell? ⟨w1.heap.size, 0, none⟩ = some (.int .i64 i) := hg3.cell hHeld7.2.1 HNB.out
  have hk1 : w3.cell? ⟨w1.heap.size, 1, none⟩ = some bv := hg3.cell hHeld7.2.2 HNB.out
  refine hK.out _ _ ⟨hc3, hk0, hk1⟩ (fun hHeld => ?_)
  clear hK K
  refine Go.Proofs.YtpbampnbgebpjaaW.PrintLast.norm_ (a' := ?_) ?_ ?_
  rotate_left
  · show Act.put _ (some 38) _ = _
    simp only [Act.put, List.setIfInBounds_toArray, List.set_cons_zero, List.set_cons_succ, Go.Proofs.YtpbampnbgebpjaaW.PrintLast.i64_w, Go.Proofs.YtpbampnbgebpjaaW.PrintLast.i32_w]
    rfl
  refine Go.Proofs.YtpbampnbgebpjaaW.PrintLast.pure_ (i := 8) (N := some 39) (v := ?_) (a' := ?_) #[true, true, true, true, true, true, true, true, true, false, false] rfl rfl (by kernel_rfl) (fun _ _ _ h => h) (Or.inl ⟨by rfl, ?_⟩) ?_ ?_
  rotate_left
  · intro w'
    go_simp
    with_reducible rfl
  rotate_left
  · simp only [Act.put, List.setIfInBounds_toArray, List.set_cons_zero, List.set_cons_succ, Go.Proofs.YtpbampnbgebpjaaW.PrintLast.i64_w, Go.Proofs.YtpbampnbgebpjaaW.PrintLast.i32_w]
    rfl
  refine Go.Proofs.YtpbampnbgebpjaaW.PrintLast.pure_ (i := 9) (N := some 40) (v := ?_) (a' := ?_) #[true, true, true, true, true, true, true, true, true, true, false] rfl rfl (by kernel_rfl) (fun _ _ _ h => h) (Or.inl ⟨by rfl, ?_⟩) ?_ ?_
  rotate_left
  · intro w'
    go_simp
    with_reducible rfl
  rotate_left
  · simp only [Act.put, List.setIfInBounds_toArray, List.set_cons_zero, List.set_cons_succ, Go.Proofs.YtpbampnbgebpjaaW.PrintLast.i64_w, Go.Proofs.YtpbampnbgebpjaaW.PrintLast.i32_w]
    rfl
  refine Go.Proofs.YtpbampnbgebpjaaW.PrintLast.last_ (i := 10) (N := none) #[true, true, true, true, true, true, true, true, true, true, true] rfl rfl (by kernel_rfl) (by decide) (fun K hK => ?_)
  refine Go.Proofs.YtpbampnbgebpjaaW.PrintLast.skip_ (w1 := w3.setCell ⟨D, 3, none⟩ (.slice lva (n + 1) lvc)) (by rfl) rfl (by go_simp) ?_
  refine hK.out _ _ ?_
  clear hK K
  refine Go.Proofs.YtpbampnbgebpjaaW.PrintLast.done_ (by kernel_rfl) ?_
  go_wp2
  go_ret
  exact ⟨rfl, w1, bv, es', c', _, w3, HBV.out, HB1.out, HK2.out, HM2.out, hown3, ⟨hg3.os, hg3.tape, hg3.output, hg3.size, hg3.block⟩, rfl⟩
end Dk
end Go.Proofs.Ytpbampnbgebpjaa

namespace Go.Proofs.Ytpbampnbgebpjaa
open Go.RowKit
set_option linter.unusedVariables false
set_option linter.unusedSimpArgs false
namespace Dk

theorem Chg.setMap {base : Nat} {w : World} {M : Nat} {es : Array MapEntry} {c : Nat} (hb : base ≤ M) (hM : w.heap[M]? = some (.map es c)) (o : Obj) : Chg base DK w (setMap w M o) := by
  refine ⟨rfl, rfl, rfl, by rw [setMap_size]; exact Nat.le_refl _, fun i hi => setMap_ne (by omega), fun i p hp hk => ?_⟩
  have hne : i ≠ M := by rintro rfl; rw [hM] at hp; cases hp; cases hk
  exact (setMap_ne hne).trans hp
theorem write_any (base : Nat) (w : World) (D : Nat) (d : Dsk) (i : Int) (A0 : Option Addr) (bn bc : Nat) (l : List Int) (h : IsDk base w D d) (hn : d.log.length ≤ 1000000) (hbw : base ≤ w.heap.size) (h0 : 0 ≤ i) (h1 : i < d.N) (hl : l.length = bn) (hbn : bn ≤ 128) (hby : IsBy l) (hc : ∀ i, i < bn → ∃ a, A0 = some a ∧ w.cell? (a.add i) = some (.int .u8 (l.getD i 0))) :
    Calls Try.prog 9 #[.pointer (some ⟨D, 0, none⟩), .int .i64 i, .slice A0 bn bc] w fun e w' => e = .returned (.int .i64 0) ∧ IsDk base w' D { d with now := fun k => if k = i then l else d.now k, log := d.log ++ [(i, l)] } ∧ Chg base DK w w' := by
  obtain ⟨F, M, lv, sv, hd⟩ := h
  obtain ⟨vs, l1, l2, l3⟩ := hd.hL
  obtain ⟨es, c, hM, hki, hmb⟩ := hd.hM
  refine (write_raw base D F M d.log.length d.N lv sv (rowOf d.log vs) es c i A0 bn bc l w hd.hD hM hki l3 hn hbw h0 h1 hl hbn hby hc).mono fun e w' ⟨he, w1, bv, es', c', lv1, w3, q1, q2, q3, q4, q5, q6, hw⟩ => ⟨he, ?_⟩
  have hs1 := q2.size
  have box : ∀ k o, w1.heap[k]? = some o → (w1.alloc (.cells #[.int .i64 i, bv] 61)).heap[k]? = some o := fun k o hk => ((World.grownBy_alloc w1 _ none).block k (lt_of_heap hk) (by simp)).trans hk
  have hM1 := (q2.block M (lt_of_heap hM)).trans hM
  have hM2 := box M _ hM1
  have hDM : D ≠ M := by rintro rfl; rw [hd.hD] at hM; cases hM
  have hD2 := (setMap_ne (o := .map es' c') hDM).trans (box D _ ((q2.block D (lt_of_heap hd.hD)).trans hd.hD))
  have up : ∀ k o, w.heap[k]? = some o → k ≠ M → (setMap (w1.alloc (.cells #[.int .i64 i, bv] 61)) M (.map es' c')).heap[k]? = some o := fun k o hk hne => (setMap_ne hne).trans (box k o ((q2.block k (lt_of_heap hk)).trans hk))
  have hL2 : (setMap (w1.alloc (.cells #[.int .i64 i, bv] 61)) M (.map es' c')).ownsRow base 61 2 lv d.log.length (rowOf d.log vs) := own_move l3 fun g cur hg hh => up g _ hh (by rintro rfl; rw [hM] at hh; cases hh)
  have cA : Chg base DK w w1 := Chg.of_below q2 hbw
  have cB : Chg base DK w1 (w1.alloc (.cells #[.int .i64 i, bv] 61)) := Chg.of_below ((Below.refl _ _).alloc (Nat.le_refl _) _) (by omega)
  have cC := Chg.setMap (o := .map es' c') hd.bM hM2
  have cD : Chg base DK _ (w3.setCell ⟨D, 3, none⟩ lv1) := chg_of hd.bD (by rw [setMap_size]; simp; omega) hD2 hL2 (fun _ => rfl) q6
  have c1 := (cB.trans cC).trans cD
  have call := cA.trans c1
  subst hw
  refine ⟨?_, call⟩
  have ho : ∀ k, k ≠ D → (w3.setCell ⟨D, 3, none⟩ lv1).heap[k]? = w3.heap[k]? := fun k hk => by simp [World.setCell, Array.getElem?_modify, Ne.symm hk]
  have hne : lv.ownBlock ≠ some D := fun q => by
    obtain ⟨cur, hc⟩ := (own_kind l3 q).2
    rw [hd.hD] at hc
    cases hc
  have hD3 : w3.heap[D]? = _ := (q6.block D (lt_of_heap hD2) (fun q => hne q.symm)).trans hD2
  have same : ∀ k o, w.heap[k]? = some o → k ≠ M → k ≠ D → some k ≠ lv.ownBlock → (w3.setCell ⟨D, 3, none⟩ lv1).heap[k]? = some o := fun k o hk h3 h4 h5 =>
    (ho k h4).trans ((q6.block k (lt_of_heap (up k o hk h3)) h5).trans (up k o hk h3))
  have rowNe : ∀ k o, w.heap[k]? = some o → (∀ cur, o ≠ .cells cur 61 (0, 0)) → some k ≠ lv.ownBlock := fun k o hk hn q => by
    obtain ⟨cur, hc⟩ := (own_kind l3 q.symm).2
    rw [hc] at hk
    cases hk
    exact hn cur rfl
  have hMf : (w3.setCell ⟨D, 3, none⟩ lv1).heap[M]? = some (.map es' c') := by
    rw [ho M (Ne.symm hDM), q6.block M (by rw [setMap_size]; exact lt_of_heap hM2) (rowNe M _ hM (fun cur q => by cases q))]
    exact setMap_at (lt_of_heap hM2)
  obtain ⟨esF, cF, hF, _⟩ := hd.hF
  refine ⟨F, M, lv1, sv, hd.bD, hd.bF, hd.bM, hd.ne, ?_, hd.hF.move ((same F _ hF hd.ne (by rintro rfl; rw [hd.hD] at hF; cases hF) (rowNe F _ hF (fun cur q => by cases q))).trans hF.symm) call, ⟨es', c', hMf, q3, fun k => ?_⟩, ⟨vs ++ [bv], by simp [l1], ?_, ?_⟩, own_move hd.hS fun g cur hg hh => same g _ hh (by rintro rfl; rw [hM] at hh; cases hh) (by rintro rfl; rw [hd.hD] at hh; cases hh) (rowNe g _ hh (fun cur q => by cases q))⟩
  · simp [World.setCell, Array.getElem?_modify, hD3]
  · rw [q4 k]
    by_cases hk : k = i
    · rw [if_pos hk]
      show Byts _ bv (if k = i then l else d.now k)
      rw [if_pos hk]
      exact q1.keep c1
    · rw [if_neg hk]
      show Byts _ _ (if k = i then l else d.now k)
      rw [if_neg hk]
      exact (hmb k).keep call
  · intro p hp
    rw [List.zip_append l1.symm] at hp
    rcases List.mem_append.1 hp with hp | hp
    · exact (l2 p hp).keep call
    · simp only [List.zip_cons_cons, List.zip_nil_right, List.mem_singleton] at hp
      subst hp
      exact q1.keep c1
  · show World.ownsRow _ base 61 2 lv1 (d.log ++ [(i, l)]).length (rowOf (d.log ++ [(i, l)]) (vs ++ [bv]))
    rw [rowOf_snoc l1, List.length_append]
    refine own_move q5 fun g cur hg hh => (ho g ?_).trans hh
    rintro rfl
    rw [hD3] at hh
    cases hh
theorem write_no (base : Nat) (w : World) (D : Nat) (d : Dsk) (i : Int) (v : Value) (h : IsDk base w D d) (hi : i < 0 ∨ d.N ≤ i) : Calls Try.prog 9 #[.pointer (some ⟨D, 0, none⟩), .int .i64 i, v] w fun e w' => e = .returned (.int .i64 51) ∧ w = w' := by
  obtain ⟨F, M, lv, sv, hd⟩ := h
  obtain ⟨c0, _⟩ := hd.cells
  clear hd
  go_enter Try.func9, Try.ntmps9
  go_wp2_with (go_at_call 25; refine (has_no D d.N i _ c0 hi).mono ?_; rintro e w' ⟨rfl, rfl⟩)
  go_ret
  exact ⟨rfl, rfl⟩
theorem write_long (base : Nat) (w : World) (D : Nat) (d : Dsk) (i : Int) (a : Option Addr) (n c : Nat) (h : IsDk base w D d) (h0 : 0 ≤ i) (h1 : i < d.N) (hn : 128 < n) : Calls Try.prog 9 #[.pointer (some ⟨D, 0, none⟩), .int .i64 i, .slice a n c] w fun e w' => e = .returned (.int .i64 1) ∧ w = w' := by
  obtain ⟨F, M, lv, sv, hd⟩ := h
  obtain ⟨c0, _⟩ := hd.cells
  have hn' : decide (128 < (n : Int)) = true := decide_eq_true (by omega)
  have H0 := Lib.hid h0
  have H1 := Lib.hid h1
  clear hd h0 h1
  go_enter Try.func9, Try.ntmps9
  go_wp2_with (go_at_call 25; refine (has_yes D d.N i _ c0 H0.out H1.out).mono ?_; rintro e w' ⟨rfl, rfl⟩)
  go_ret
  exact ⟨rfl, rfl⟩
end Dk
end Go.Proofs.Ytpbampnbgebpjaa

namespace Go.Proofs.Ytpbampnbgebpjaa
open Go.RowKit
set_option linter.unusedVariables false
set_option linter.unusedSimpArgs false
namespace Dk

/-- how many writes are not safe -/
def pend (d : Dsk) : Int := match d.syncs.getLast? with
  | none => d.log.length
  | some s => d.log.length - s
def Dsk.Fit (d : Dsk) : Prop := d.log.length ≤ 1000000 ∧ d.syncs.length ≤ 1000000 ∧ (∀ s ∈ d.syncs, 0 ≤ s ∧ s ≤ d.log.length)
theorem sync_cell {base : Nat} {w : World} {D F M : Nat} {lv sv : Value} {d : Dsk} (h : DkAt base w D F M lv sv d) (i : Nat) (hi : i < d.syncs.length) : ∃ g c, sv = .slice (some ⟨g, 0, none⟩) d.syncs.length c ∧ d.syncs.length ≤ c ∧ w.cell? ⟨g, i, none⟩ = some (.int .i64 d.syncs[i]) := by
  rcases h.hS.2 with ⟨_, q⟩ | ⟨g, cap, cur, q, q2, q3, q4, q5⟩
  · omega
  · refine ⟨g, cap, q, q4, ?_⟩
    have := World.ownsRow.cells h.hS (g := g) (by rw [q]; rfl) i (.int .i64 d.syncs[i]) (by rw [List.getElem?_map, List.getElem?_eq_getElem hi]; rfl)
    rw [show (⟨g, 0, none⟩ : Addr).add i = ⟨g, i, none⟩ by unfold Addr.add; split <;> simp_all] at this
    exact this
set_option maxHeartbeats 1000000 in
theorem pending_any (base : Nat) (w : World) (D : Nat) (d : Dsk) (h : IsDk base w D d) (hf : d.Fit) : Calls Try.prog 14 #[.pointer (some ⟨D, 0, none⟩)] w fun e w' => e = .returned (.int .i64 (pend d)) ∧ ∃ n, w' = w.drewN n := by
  obtain ⟨F, M, lv, sv, hd⟩ := h
  obtain ⟨vs, l1, l2, l3⟩ := hd.hL
  obtain ⟨la, lc, rfl⟩ := own_slice l3
  obtain ⟨_, _, _, c3, c4⟩ := hd.cells
  obtain ⟨f1, f2, f3⟩ := hf
  by_cases hs : d.syncs = []
  · have hp : pend d = d.log.length := by simp [pend, hs]
    obtain ⟨sa, sc, rfl⟩ := own_slice hd.hS
    have hl : d.syncs.length = 0 := by rw [hs]; rfl
    rw [hl] at c4
    have h0' : ((0 : Nat) : Int) == 0 := rfl
    clear l3 hd f1 f2 f3 hs
    rw [hp]
    go_enter Try.func14, Try.ntmps14
    go_wp2_with (go_at_call 16; refine (writes_any D d.log.length lc la _ c3).mono ?_; rintro e w' ⟨rfl, rfl⟩)
    go_ret
    exact ⟨rfl, 0, rfl⟩
  · have hpos : 0 < d.syncs.length := List.length_pos_iff.2 hs
    obtain ⟨g, c, rfl, hcap, hcell⟩ := sync_cell hd (d.syncs.length - 1) (by omega)
    have hp : pend d = d.log.length - d.syncs[d.syncs.length - 1] := by
      unfold pend
      rw [List.getLast?_eq_getElem?, List.getElem?_eq_getElem (by omega)]
    have hb := f3 _ (List.getElem_mem (show d.syncs.length - 1 < d.syncs.length by omega))
    rw [hp]
    clear hp hd l3 l2 l1 f3 hs
    generalize d.syncs[d.syncs.length - 1] = s at hcell hb ⊢
    generalize d.syncs.length = n at f2 c4 hpos hcap hcell ⊢
    generalize d.log.length = m at f1 c3 hb ⊢
    obtain ⟨k, hk⟩ : ∃ k, n - 1 = k := ⟨_, rfl⟩
    rw [hk] at hcell
    have e1 : IntKind.i64.wrap ((n : Int) - 1) = (k : Int) := by rw [IntWalk.i64_in _ (by omega)]; omega
    have e2 : IntKind.i64.wrap ((m : Int) - s) = (m : Int) - s := IntWalk.i64_in _ (by omega)
    have e3 : ((n : Int) == 0) = false := by simp; omega
    have e4 : (0 : Int) ≤ (k : Int) := by omega
    have e5 : (k : Int) < (n : Int) := by omega
    have e6 : k < n := by omega
    clear f1 f2 hb hpos hcap hk
    go_enter Try.func14, Try.ntmps14
    go_wp2
    refine Go.Proofs.YtpbampnbgebpjaaW.PrintLast.start_ (n := 19) (S := fun v => v.cell? ⟨D, 3, none⟩ = some (.slice la m lc) ∧ v.cell? ⟨D, 4, none⟩ = some (.slice (some ⟨g, 0, none⟩) n c) ∧ v.cell? ⟨g, k, none⟩ = some (.int .i64 s)) (ds := [18]) #[false, false, false, false, false, false, false, false, false, false, false, false, false, false, false, false, false, false, false] (by kernel_rfl) rfl rfl ⟨c3, c4, hcell⟩ (fun hHeld => ?_)
    refine Go.Proofs.YtpbampnbgebpjaaW.PrintLast.pure_ (i := 0) (N := some 15) (v := ?_) (a' := ?_) #[true, false, false, false, false, false, false, false, false, false, false, false, false, false, false, false, false, false, false] rfl rfl (by kernel_rfl) (fun _ _ _ h => h) (Or.inl ⟨by rfl, ?_⟩) ?_ ?_
    rotate_left
    · intro w'
      go_simp
      with_reducible rfl
    rotate_left
    · simp only [Act.put, List.setIfInBounds_toArray, List.set_cons_zero, List.set_cons_succ, Go.Proofs.YtpbampnbgebpjaaW.PrintLast.i64_w, Go.Proofs.YtpbampnbgebpjaaW.PrintLast.i32_w]
      rfl
    refine Go.Proofs.YtpbampnbgebpjaaW.PrintLast.pure_ (i := 1) (N := some 16) (v := ?_) (a' := ?_) #[true, true, false, false, false, false, false, false, false, false, false, false, false, false, false, false, false, false, false] rfl rfl (by kernel_rfl) (fun _ _ _ h => h) (Or.inl ⟨by rfl, ?_⟩) ?_ ?_
    rotate_left
    · intro w'
      go_simp
      with_reducible rfl
    rotate_left
    · simp only [Act.put, List.setIfInBounds_toArray, List.set_cons_zero, List.set_cons_succ, Go.Proofs.YtpbampnbgebpjaaW.PrintLast.i64_w, Go.Proofs.YtpbampnbgebpjaaW.PrintLast.i32_w]
      rfl
    refine Go.Proofs.YtpbampnbgebpjaaW.PrintLast.pure_ (i := 2) (N := some 17) (v := ?_) (a' := ?_) #[true, true, true, false, false, false, false, false, false, false, false, false, false, false, false, false, false, false, false] rfl rfl (by kernel_rfl) (fun _ _ _ h => h) (Or.inl ⟨by rfl, ?_⟩) ?_ ?_
    rotate_left
    · intro w'
      go_simp
      with_reducible rfl
    rotate_left
    · simp only [Act.put, List.setIfInBounds_toArray, List.set_cons_zero, List.set_cons_succ, Go.Proofs.YtpbampnbgebpjaaW.PrintLast.i64_w, Go.Proofs.YtpbampnbgebpjaaW.PrintLast.i32_w]
      rfl
    refine Go.Proofs.YtpbampnbgebpjaaW.PrintLast.take_ (i := 3) (N := some 18) (v := ?_) (a' := ?_) #[true, true, true, true, false, false, false, false, false, false, false, false, false, false, false, false, false, false, false] rfl rfl (by kernel_rfl) (fun _ _ _ h => h) (Or.inl ⟨by rfl, ?_⟩) hHeld ?_ ?_
    rotate_left
    · rintro w' ⟨s0, s1, s2⟩
      go_simp
      with_reducible rfl
    rotate_left
    · simp only [Act.put, List.setIfInBounds_toArray, List.set_cons_zero, List.set_cons_succ, Go.Proofs.YtpbampnbgebpjaaW.PrintLast.i64_w, Go.Proofs.YtpbampnbgebpjaaW.PrintLast.i32_w]
      rfl
    refine Go.Proofs.YtpbampnbgebpjaaW.PrintLast.take_ (i := 4) (N := some 19) (v := ?_) (a' := ?_) #[true, true, true, true, true, false, false, false, false, false, false, false, false, false, false, false, false, false, false] rfl rfl (by kernel_rfl) (fun _ _ _ h => h) (Or.inl ⟨by rfl, ?_⟩) hHeld ?_ ?_
    rotate_left
    · rintro w' ⟨s0, s1, s2⟩
      go_simp
      with_reducible rfl
    rotate_left
    · simp only [Act.put, List.setIfInBounds_toArray, List.set_cons_zero, List.set_cons_succ, Go.Proofs.YtpbampnbgebpjaaW.PrintLast.i64_w, Go.Proofs.YtpbampnbgebpjaaW.PrintLast.i32_w]
      rfl
    refine Go.Proofs.YtpbampnbgebpjaaW.PrintLast.pure_ (i := 5) (N := some 20) (v := ?_) (a' := ?_) #[true, true, true, true, true, true, false, false, false, false, false, false, false, false, false, false, false, false, false] rfl rfl (by kernel_rfl) (fun _ _ _ h => h) (Or.inl ⟨by rfl, ?_⟩) ?_ ?_
    rotate_left
    · intro w'
      go_simp
      with_reducible rfl
    rotate_left
    · simp only [Act.put, List.setIfInBounds_toArray, List.set_cons_zero, List.set_cons_succ, Go.Proofs.YtpbampnbgebpjaaW.PrintLast.i64_w, Go.Proofs.YtpbampnbgebpjaaW.PrintLast.i32_w]
      rfl
    refine Go.Proofs.YtpbampnbgebpjaaW.PrintLast.pure_ (i := 6) (N := some 21) (v := ?_) (a' := ?_) #[true, true, true, true, true, true, true, false, false, false, false, false, false, false, false, false, false, false, false] rfl rfl (by kernel_rfl) (fun _ _ _ h => h) (Or.inl ⟨by rfl, ?_⟩) ?_ ?_
    rotate_left
    · intro w'
      go_simp
      with_reducible rfl
    rotate_left
    · simp only [Act.put, List.setIfInBounds_toArray, List.set_cons_zero, List.set_cons_succ, Go.Proofs.YtpbampnbgebpjaaW.PrintLast.i64_w, Go.Proofs.YtpbampnbgebpjaaW.PrintLast.i32_w]
      rfl
    refine Go.Proofs.YtpbampnbgebpjaaW.PrintLast.pure_ (i := 7) (N := some 22) (v := ?_) (a' := ?_) #[true, true, true, true, true, true, true, true, false, false, false, false, false, false, false, false, false, false, false] rfl rfl (by kernel_rfl) (fun _ _ _ h => h) (Or.inl ⟨by rfl, ?_⟩) ?_ ?_
    rotate_left
    · intro w'
      go_simp
      with_reducible rfl
    rotate_left
    · simp only [Act.put, List.setIfInBounds_toArray, List.set_cons_zero, List.set_cons_succ, Go.Proofs.YtpbampnbgebpjaaW.PrintLast.i64_w, Go.Proofs.YtpbampnbgebpjaaW.PrintLast.i32_w]
      rfl
    refine Go.Proofs.YtpbampnbgebpjaaW.PrintLast.take_ (i := 8) (N := some 23) (v := ?_) (a' := ?_) #[true, true, true, true, true, true, true, true, true, false, false, false, false, false, false, false, false, false, false] rfl rfl (by kernel_rfl) (fun _ _ _ h => h) (Or.inl ⟨by rfl, ?_⟩) hHeld ?_ ?_
    rotate_left
    · rintro w' ⟨s0, s1, s2⟩
      go_simp
      with_reducible rfl
    rotate_left
    · simp only [Act.put, List.setIfInBounds_toArray, List.set_cons_zero, List.set_cons_succ, Go.Proofs.YtpbampnbgebpjaaW.PrintLast.i64_w, Go.Proofs.YtpbampnbgebpjaaW.PrintLast.i32_w]
      rfl
    refine Go.Proofs.YtpbampnbgebpjaaW.PrintLast.pure_ (i := 9) (N := some 24) (v := ?_) (a' := ?_) #[true, true, true, true, true, true, true, true, true, true, false, false, false, false, false, false, false, false, false] rfl rfl (by kernel_rfl) (fun _ _ _ h => h) (Or.inl ⟨by rfl, ?_⟩) ?_ ?_
    rotate_left
    · intro w'
      go_simp
      with_reducible rfl
    rotate_left
    · simp only [Act.put, List.setIfInBounds_toArray, List.set_cons_zero, List.set_cons_succ, Go.Proofs.YtpbampnbgebpjaaW.PrintLast.i64_w, Go.Proofs.YtpbampnbgebpjaaW.PrintLast.i32_w]
      rfl
    refine Go.Proofs.YtpbampnbgebpjaaW.PrintLast.pure_ (i := 10) (N := some 25) (v := ?_) (a' := ?_) #[true, true, true, true, true, true, true, true, true, true, true, false, false, false, false, false, false, false, false] rfl rfl (by kernel_rfl) (fun _ _ _ h => h) (Or.inl ⟨by rfl, ?_⟩) ?_ ?_
    rotate_left
    · intro w'
      go_simp
      with_reducible rfl
    rotate_left
    · simp only [Act.put, List.setIfInBounds_toArray, List.set_cons_zero, List.set_cons_succ, Go.Proofs.YtpbampnbgebpjaaW.PrintLast.i64_w, Go.Proofs.YtpbampnbgebpjaaW.PrintLast.i32_w]
      rfl
    refine Go.Proofs.YtpbampnbgebpjaaW.PrintLast.pure_ (i := 11) (N := some 26) (v := ?_) (a' := ?_) #[true, true, true, true, true, true, true, true, true, true, true, true, false, false, false, false, false, false, false] rfl rfl (by kernel_rfl) (fun _ _ _ h => h) (Or.inl ⟨by rfl, ?_⟩) ?_ ?_
    rotate_left
    · intro w'
      go_simp
      with_reducible rfl
    rotate_left
    · simp only [Act.put, List.setIfInBounds_toArray, List.set_cons_zero, List.set_cons_succ, Go.Proofs.YtpbampnbgebpjaaW.PrintLast.i64_w, Go.Proofs.YtpbampnbgebpjaaW.PrintLast.i32_w]
      rfl
    refine Go.Proofs.YtpbampnbgebpjaaW.PrintLast.take_ (i := 12) (N := some 27) (v := ?_) (a' := ?_) #[true, true, true, true, true, true, true, true, true, true, true, true, true, false, false, false, false, false, false] rfl rfl (by kernel_rfl) (fun _ _ _ h => h) (Or.inl ⟨by rfl, ?_⟩) hHeld ?_ ?_
    rotate_left
    · rintro w' ⟨s0, s1, s2⟩
      go_simp
      with_reducible rfl
    rotate_left
    · simp only [Act.put, List.setIfInBounds_toArray, List.set_cons_zero, List.set_cons_succ, Go.Proofs.YtpbampnbgebpjaaW.PrintLast.i64_w, Go.Proofs.YtpbampnbgebpjaaW.PrintLast.i32_w]
      rfl
    refine Go.Proofs.YtpbampnbgebpjaaW.PrintLast.take_ (i := 13) (N := some 28) (v := ?_) (a' := ?_) #[true, true, true, true, true, true, true, true, true, true, true, true, true, true, false, false, false, false, false] rfl rfl (by kernel_rfl) (fun _ _ _ h => h) (Or.inl ⟨by rfl, ?_⟩) hHeld ?_ ?_
    rotate_left
    · rintro w' ⟨s0, s1, s2⟩
      go_simp
      with_reducible rfl
    rotate_left
    · simp only [Act.put, List.setIfInBounds_toArray, List.set_cons_zero, List.set_cons_succ, Go.Proofs.YtpbampnbgebpjaaW.PrintLast.i64_w, Go.Proofs.YtpbampnbgebpjaaW.PrintLast.i32_w]
      rfl
    refine Go.Proofs.YtpbampnbgebpjaaW.PrintLast.pure_ (i := 14) (N := some 29) (v := ?_) (a' := ?_) #[true, true, true, true, true, true, true, true, true, true, true, true, true, true, true, false, false, false, false] rfl rfl (by kernel_rfl) (fun _ _ _ h => h) (Or.inl ⟨by rfl, ?_⟩) ?_ ?_
    rotate_left
    · intro w'
      go_simp
      with_reducible rfl
    rotate_left
    · simp only [Act.put, List.setIfInBounds_toArray, List.set_cons_zero, List.set_cons_succ, Go.Proofs.YtpbampnbgebpjaaW.PrintLast.i64_w, Go.Proofs.YtpbampnbgebpjaaW.PrintLast.i32_w]
      rfl
    refine Go.Proofs.YtpbampnbgebpjaaW.PrintLast.pure_ (i := 15) (N := some 30) (v := ?_) (a' := ?_) #[true, true, true, true, true, true, true, true, true, true, true, true, true, true, true, true, false, false, false] rfl rfl (by kernel_rfl) (fun _ _ _ h => h) (Or.inl ⟨by rfl, ?_⟩) ?_ ?_
    rotate_left
    · intro w'
      go_simp
      with_reducible rfl
    rotate_left
    · simp only [Act.put, List.setIfInBounds_toArray, List.set_cons_zero, List.set_cons_succ, Go.Proofs.YtpbampnbgebpjaaW.PrintLast.i64_w, Go.Proofs.YtpbampnbgebpjaaW.PrintLast.i32_w]
      rfl
    refine Go.Proofs.YtpbampnbgebpjaaW.PrintLast.take_ (i := 16) (N := some 31) (v := ?_) (a' := ?_) #[true, true, true, true, true, true, true, true, true, true, true, true, true, true, true, true, true, false, false] rfl rfl (by kernel_rfl) (fun _ _ _ h => h) (Or.inl ⟨by rfl, ?_⟩) hHeld ?_ ?_
    rotate_left
    · rintro w' ⟨s0, s1, s2⟩
      go_simp
      with_reducible rfl
    rotate_left
    · simp only [Act.put, List.setIfInBounds_toArray, List.set_cons_zero, List.set_cons_succ, Go.Proofs.YtpbampnbgebpjaaW.PrintLast.i64_w, Go.Proofs.YtpbampnbgebpjaaW.PrintLast.i32_w]
      rfl
    refine Go.Proofs.YtpbampnbgebpjaaW.PrintLast.pure_ (i := 17) (N := some 32) (v := ?_) (a' := ?_) #[true, true, true, true, true, true, true, true, true, true, true, true, true, true, true, true, true, true, false] rfl rfl (by kernel_rfl) (fun _ _ _ h => h) (Or.inl ⟨by rfl, ?_⟩) ?_ ?_
    rotate_left
    · intro w'
      go_simp
      with_reducible rfl
    rotate_left
    · simp only [Act.put, List.setIfInBounds_toArray, List.set_cons_zero, List.set_cons_succ, Go.Proofs.YtpbampnbgebpjaaW.PrintLast.i64_w, Go.Proofs.YtpbampnbgebpjaaW.PrintLast.i32_w]
      rfl
    refine Go.Proofs.YtpbampnbgebpjaaW.PrintLast.pure_ (i := 18) (N := some 2) (v := ?_) (a' := ?_) #[true, true, true, true, true, true, true, true, true, true, true, true, true, true, true, true, true, true, true] rfl rfl (by kernel_rfl) (fun _ _ _ h => h) (Or.inl ⟨by rfl, ?_⟩) ?_ ?_
    rotate_left
    · intro w'
      go_simp
      with_reducible rfl
    rotate_left
    · simp only [Act.put, List.setIfInBounds_toArray, List.set_cons_zero, List.set_cons_succ, Go.Proofs.YtpbampnbgebpjaaW.PrintLast.i64_w, Go.Proofs.YtpbampnbgebpjaaW.PrintLast.i32_w]
      rfl
    refine Go.Proofs.YtpbampnbgebpjaaW.PrintLast.done_ (by kernel_rfl) ?_
    go_wp2
    go_ret
    exact ⟨rfl, 1, rfl⟩
end Dk
end Go.Proofs.Ytpbampnbgebpjaa

namespace Go.Proofs.Ytpbampnbgebpjaa
open Go.RowKit
set_option linter.unusedVariables false
set_option linter.unusedSimpArgs false
namespace Dk

def upd (m : Int → List Int) (k : Int) (l : List Int) : Int → List Int := fun q => if q = k then l else m q
def kept (safe : Nat) (keep : List Bool) (i : Nat) : Bool := decide (i < safe) || (decide (i - safe < keep.length) && keep.getD (i - safe) false)
/-- what the first k writes leave -/
def leftM (first : Int → List Int) (log : List (Int × List Int)) (safe : Nat) (keep : List Bool) : Nat → Int → List Int
  | 0 => first
  | k + 1 => if kept safe keep k then upd (leftM first log safe keep k) (log.getD k (0, [])).1 (log.getD k (0, [])).2 else leftM first log safe keep k
def leftD (d : Dsk) (safe n : Nat) (keep : List Bool) : Dsk := ⟨d.N, leftM d.first d.log safe keep n, leftM d.first d.log safe keep n, [], []⟩
theorem rowOf_at : ∀ (log : List (Int × List Int)) (vs : List Value), vs.length = log.length → ∀ k (hk : k < log.length), (rowOf log vs)[k * 2]? = some (.int .i64 log[k].1) ∧ ∃ v, vs[k]? = some v ∧ (rowOf log vs)[k * 2 + 1]? = some v
  | [], _, _, k, hk => by simp at hk
  | x :: log, [], h, k, hk => by simp at h
  | x :: log, v :: vs, h, k, hk => by
    have e : rowOf (x :: log) (v :: vs) = .int .i64 x.1 :: v :: rowOf log vs := rfl
    rw [e]
    cases k with
    | zero => exact ⟨rfl, v, rfl, rfl⟩
    | succ k =>
      obtain ⟨h1, u, h2, h3⟩ := rowOf_at log vs (by simpa using h) k (by simpa using hk)
      have e2 : (k + 1) * 2 = k * 2 + 1 + 1 := by omega
      rw [e2]
      exact ⟨h1, u, h2, h3⟩
theorem log_cell {base : Nat} {w : World} {lv : Value} {log : List (Int × List Int)} (h : LogAt base w lv log) (hl : 0 < log.length) : ∃ g c, lv = .slice (some ⟨g, 0, none⟩) log.length c ∧ log.length ≤ c ∧ g < w.heap.size ∧ ∀ k (hk : k < log.length), ∃ v, Byts w v log[k].2 ∧ w.cell? ⟨g, k * 2, none⟩ = some (.int .i64 log[k].1) ∧ w.cell? ⟨g, k * 2 + 1, none⟩ = some v := by
  obtain ⟨vs, h1, h2, h3⟩ := h
  rcases h3.2 with ⟨_, q⟩ | ⟨g, cap, cur, q, q2, q3, q4, q5⟩
  · omega
  · refine ⟨g, cap, q, q4, lt_of_heap q3, fun k hk => ?_⟩
    obtain ⟨e1, v, e2, e3⟩ := rowOf_at log vs h1 k hk
    have hc := World.ownsRow.cells h3 (g := g) (by rw [q]; rfl)
    have ad : ∀ i, (⟨g, 0, none⟩ : Addr).add i = ⟨g, i, none⟩ := fun i => by unfold Addr.add; split <;> simp_all
    refine ⟨v, ?_, by rw [← ad]; exact hc _ _ e1, by rw [← ad]; exact hc _ _ e3⟩
    refine h2 (log[k], v) (List.mem_iff_getElem?.2 ⟨k, ?_⟩)
    rw [List.getElem?_zip_eq_some]
    exact ⟨List.getElem?_eq_getElem hk, e2⟩
theorem three (w : World) (a b c : Obj) : (((w.alloc a).alloc b).alloc c).heap[w.heap.size]? = some a ∧ (((w.alloc a).alloc b).alloc c).heap[w.heap.size + 1]? = some b ∧ (((w.alloc a).alloc b).alloc c).heap[w.heap.size + 2]? = some c := by
  have e1 : (w.alloc a).heap.size = w.heap.size + 1 := by simp
  have e2 : ((w.alloc a).alloc b).heap.size = w.heap.size + 2 := by simp
  refine ⟨?_, ?_, ?_⟩
  · exact ((World.grownBy_alloc ((w.alloc a).alloc b) c none).block _ (by omega) (by simp)).trans (((World.grownBy_alloc (w.alloc a) b none).block _ (by omega) (by simp)).trans (World.alloc_heap_new w a))
  · rw [← e1]; exact ((World.grownBy_alloc ((w.alloc a).alloc b) c none).block _ (by omega) (by simp)).trans (World.alloc_heap_new _ b)
  · rw [← e2]; exact World.alloc_heap_new _ c
theorem new_abs (n : Int) (w : World) (h0 : 1 ≤ n) (h1 : n ≤ 4096) : Calls Try.prog 7 #[.int .i64 n] w fun e w' => e = .returned (.tuple #[.pointer (some ⟨w.heap.size + 2, 0, none⟩), .int .i64 0]) ∧ Below w.heap.size w w' ∧ w'.heap.size = w.heap.size + 3 ∧ w'.heap[w.heap.size]? = some (.map #[] 0) ∧ w'.heap[w.heap.size + 1]? = some (.map #[] 0) ∧ w'.heap[w.heap.size + 2]? = some (.cells #[.int .i64 n, .map (some w.heap.size), .map (some (w.heap.size + 1)), .slice none 0 0, .slice none 0 0] 58 (0, 0)) := by
  refine (new_yes n w h0 h1).mono fun e w' ⟨he, hw⟩ => ⟨he, ?_⟩
  subst hw
  obtain ⟨h1, h2, h3⟩ := three w (.map #[] 0) (.map #[] 0) (.cells #[.int .i64 n, .map (some w.heap.size), .map (some (w.heap.size + 1)), .slice none 0 0, .slice none 0 0] 58)
  exact ⟨(((Below.refl _ _).alloc (Nat.le_refl _) _).alloc (by simp) _).alloc (by simp <;> omega) _, by simp, h1, h2, h3⟩
theorem clone_abs (M : Nat) (es : Array MapEntry) (c : Nat) (w : World) (hb : w.heap[M]? = some (.map es c)) : Calls Try.prog 32 #[.map (some M)] w fun e w' => e = .returned (.map (some w.heap.size)) ∧ Below w.heap.size w w' ∧ w'.heap.size = w.heap.size + 1 ∧ w'.heap[w.heap.size]? = some (.map es c) := by
  refine (clone_map M es c w hb).mono fun e w' ⟨he, hw⟩ => ⟨he, ?_⟩
  subst hw
  exact ⟨(Below.refl _ _).alloc (Nat.le_refl _) _, by simp, World.alloc_heap_new _ _⟩
/-- what stands when k writes have been looked at -/
structure Lr (w : World) (d : Dsk) (safe : Nat) (keep : List Bool) (n k : Nat) (wr : World) : Prop where
  kn : k ≤ n
  hC : wr.heap[w.heap.size + 2]? = some (.cells #[.int .i64 d.N, .map (some (w.heap.size + 3)), .map (some (w.heap.size + 1)), .slice none 0 0, .slice none 0 0] 58 (0, 0))
  hF : MapB wr (w.heap.size + 3) (leftM d.first d.log safe keep k)
  hb : Below w.heap.size w wr
  hz : w.heap.size + 4 ≤ wr.heap.size
def LrR (w : World) (d : Dsk) (safe : Nat) (keep : List Bool) (n : Nat) (i : Value) (wr : World) : Prop := ∃ k : Nat, i = .int .i64 k ∧ Lr w d safe keep n k wr
theorem Chg.drew {B : Nat} {K : Obj → Bool} {w w1 : World} (h : Chg B K w w1) : Chg B K w w1.drew := ⟨h.os, h.tape, h.output, h.size, h.old, h.keep⟩
theorem Lr.take {w wr : World} {d : Dsk} {safe n k : Nat} {keep : List Bool} {ls : Int} {lb : List Int} {bv : Value} {es es' : Array MapEntry} {c c' : Nat} (h : Lr w d safe keep n k wr) (hk : k < n) (hkp : kept safe keep k = true) (hlk : d.log.getD k (0, []) = (ls, lb)) (hbv : Byts w bv lb)
    (hF : wr.heap[w.heap.size + 3]? = some (.map es c)) (hFv : ∀ q, Byts wr ((mget es.toList q).getD (.slice none 0 0)) (leftM d.first d.log safe keep k q)) (hk' : KeysInt es'.toList) (hm' : ∀ k2, mget es'.toList k2 = if k2 = ls then some bv else mget es.toList k2) :
    Lr w d safe keep n (k + 1) (setMap (wr.alloc (.cells #[.int .i64 ls, bv] 61)).drew (w.heap.size + 3) (.map es' c')) := by
  have hz := h.hz
  have hF1 : (wr.alloc (.cells #[.int .i64 ls, bv] 61)).drew.heap[w.heap.size + 3]? = some (.map es c) := ((World.grownBy_alloc wr _ none).block _ (lt_of_heap hF) (by simp)).trans hF
  have cA : Chg w.heap.size DK wr (wr.alloc (.cells #[.int .i64 ls, bv] 61)).drew := (Chg.of_below ((Below.refl _ _).alloc (Nat.le_refl _) _) (by omega)).drew
  have cC : Chg w.heap.size DK wr _ := cA.trans (Chg.setMap (o := .map es' c') (by omega) hF1)
  have c0 : Chg w.heap.size DK w wr := Chg.of_below h.hb (Nat.le_refl _)
  refine ⟨hk, ?_, ⟨es', c', setMap_at (lt_of_heap hF1), hk', fun q => ?_⟩, (c0.trans cC).below, by rw [setMap_size]; simp; omega⟩
  · rw [setMap_ne (by omega)]
    exact ((World.grownBy_alloc wr _ none).block _ (lt_of_heap h.hC) (by simp)).trans h.hC
  · rw [hm' q]
    simp only [leftM, hkp, if_true, hlk, upd]
    by_cases hq : q = ls
    · rw [if_pos hq, if_pos hq]
      exact hbv.keep (c0.trans cC)
    · rw [if_neg hq, if_neg hq]
      exact (hFv q).keep cC
theorem Lr.skip {w wr : World} {d : Dsk} {safe n k : Nat} {keep : List Bool} (h : Lr w d safe keep n k wr) (hk : k < n) (hkp : kept safe keep k = false) (o : Obj) : Lr w d safe keep n (k + 1) (wr.alloc o) := by
  have hz := h.hz
  have cA : Below wr.heap.size wr (wr.alloc o) := (Below.refl _ _).alloc (Nat.le_refl _) _
  refine ⟨hk, ((World.grownBy_alloc wr _ none).block _ (lt_of_heap h.hC) (by simp)).trans h.hC, ?_, h.hb.trans (cA.mono (by omega)), by simp; omega⟩
  have := h.hF.below cA
  simpa [leftM, hkp] using this
theorem Chg.cell {base : Nat} {w : World} {D : Nat} {cs : Array Value} (hb : base ≤ D) (hD : w.heap[D]? = some (.cells cs 58 (0, 0))) (i : Nat) (v : Value) : Chg base DK w (w.setCell ⟨D, i, none⟩ v) := by
  have ho : ∀ k, k ≠ D → (w.setCell ⟨D, i, none⟩ v).heap[k]? = w.heap[k]? := fun k hk => by simp [World.setCell, Array.getElem?_modify, Ne.symm hk]
  refine ⟨rfl, rfl, rfl, by simp [World.setCell], fun k hk => ho k (by omega), fun k o hk hK => ?_⟩
  have h1 : k ≠ D := by rintro rfl; rw [hD] at hk; cases hk; cases hK
  rw [ho k h1, hk]
theorem Lr.done {base : Nat} {w wr w3 : World} {d : Dsk} {safe n : Nat} {keep : List Bool} {es : Array MapEntry} {c : Nat} (hbw : base ≤ w.heap.size) (h : Lr w d safe keep n n wr) (hki : KeysInt es.toList ∧ ∀ q, Byts wr ((mget es.toList q).getD (.slice none 0 0)) (leftM d.first d.log safe keep n q)) (hb3 : Below wr.heap.size wr w3) (hm3 : w3.heap[wr.heap.size]? = some (.map es c)) :
    IsDk base (w3.setCell ⟨w.heap.size + 2, 2, none⟩ (.map (some wr.heap.size))) (w.heap.size + 2) (leftD d safe n keep) ∧ Below w.heap.size w (w3.setCell ⟨w.heap.size + 2, 2, none⟩ (.map (some wr.heap.size))) := by
  have hz := h.hz
  have hC3 := (hb3.block _ (lt_of_heap h.hC)).trans h.hC
  have ho : ∀ k, k ≠ w.heap.size + 2 → (w3.setCell ⟨w.heap.size + 2, 2, none⟩ (.map (some wr.heap.size))).heap[k]? = w3.heap[k]? := fun k hk => by simp [World.setCell, Array.getElem?_modify, Ne.symm hk]
  have cA : Chg w.heap.size DK wr w3 := Chg.of_below hb3 (by omega)
  have cB := Chg.cell (base := w.heap.size) (by omega) hC3 2 (.map (some wr.heap.size))
  have c0 : Chg w.heap.size DK w wr := Chg.of_below h.hb (Nat.le_refl _)
  obtain ⟨es0, c0', hF0, _⟩ := h.hF
  refine ⟨⟨w.heap.size + 3, wr.heap.size, .slice none 0 0, .slice none 0 0, ⟨by omega, by omega, by omega, by omega, ?_, ?_, ⟨es, c, ?_, hki.1, fun q => (hki.2 q).keep (cA.trans cB)⟩, ⟨[], rfl, by intro p hp; simp [leftD] at hp, World.ownsRow_nil _ _ _ _⟩, World.ownsRow_nil _ _ _ _⟩⟩, ((c0.trans cA).trans cB).below⟩
  · simp [World.setCell, Array.getElem?_modify, hC3, leftD]
  · exact h.hF.move ((ho _ (by omega)).trans (hb3.block _ (lt_of_heap hF0))) (cA.trans cB)
  · rw [ho _ (by omega), hm3]
set_option maxHeartbeats 2000000 in
set_option maxRecDepth 100000 in
theorem left_some (base : Nat) (w : World) (D : Nat) (d : Dsk) (safe n : Nat) (KA : Option Addr) (kc : Nat) (keep : List Bool) (h : IsDk base w D d) (hf : d.Fit) (hbw : base ≤ w.heap.size) (hN : 1 ≤ d.N ∧ d.N ≤ 4096) (hs : safe ≤ n) (hn : n ≤ d.log.length) (hpos : 0 < d.log.length)
    (hkl : keep.length ≤ 9223372036854775807) (hk : ∀ j, j < keep.length → ∃ a, KA = some a ∧ w.cell? (a.add j) = some (.bool (keep.getD j false))) :
    Calls Try.prog 27 #[.pointer (some ⟨D, 0, none⟩), .int .i64 safe, .int .i64 n, .slice KA keep.length kc] w fun e w' => ∃ C, e = .returned (.pointer (some ⟨C, 0, none⟩)) ∧ IsDk base w' C (leftD d safe n keep) ∧ Below w.heap.size w w' := by
  obtain ⟨F, M, lv, sv, hd⟩ := h
  obtain ⟨c0, c1, _, c3, _⟩ := hd.cells
  obtain ⟨esF, cF, hF, hFk, hFb⟩ := hd.hF
  have HD := Lib.hid hd
  have HF := Lib.hid hF
  have HFB := Lib.hid (And.intro hFk hFb)
  have HN := Lib.hid hN
  have HS := Lib.hid hs
  have HNL := Lib.hid hn
  have HFit := Lib.hid hf
  have HBW := Lib.hid hbw
  have HK := Lib.hid hk
  have HKL := Lib.hid hkl
  have hDl := lt_of_heap hd.hD
  have hFl := lt_of_heap hF
  obtain ⟨g, lc, rfl, hcap, hgl, hlog⟩ := log_cell hd.hL hpos
  have HLOG := Lib.hid hlog
  clear hlog
  have hn1 : n ≤ 1000000 := by have := hf.1; omega
  have q1 : n ≤ lc := by omega
  have q2 : (0 : Int) ≤ (n : Int) := by omega
  have q3 : (n : Int) ≤ (lc : Int) := by omega
  clear hd hF hFk hFb hN hs hn hf hbw hk hkl hcap
  go_enter Try.func27, Try.ntmps27
  go_wp2_with fail
  refine (new_abs d.N _ HN.out.1 HN.out.2).mono ?_
  rintro e w1 ⟨rfl, hb1, hz1, hm0, hm1, hC⟩
  have c1' : w1.cell? ⟨D, 1, none⟩ = some (.map (some F)) := (hb1.cell (p := ⟨D, 1, none⟩) hDl).trans c1
  have hF1 := (hb1.block F hFl).trans HF.out
  have c3' : w1.cell? ⟨D, 3, none⟩ = some (.slice (some ⟨g, 0, none⟩) d.log.length lc) := (hb1.cell (p := ⟨D, 3, none⟩) hDl).trans c3
  have HC1 := Lib.hid hC
  have HB1 := Lib.hid hb1
  have HM1 := Lib.hid hm1
  have HZ1 := Lib.hid hz1
  clear hC hb1 hm0 hm1 hz1 c0 c1 c3
  go_wp2_with fail
  refine (clone_abs F esF cF _ hF1).mono ?_
  rintro e w2 ⟨rfl, hb2, hz2, hm2⟩
  have hs2 : w1.heap.size = w.heap.size + 3 := HZ1.out
  have hC2 := (hb2.block (w.heap.size + 2) (by omega)).trans HC1.out
  have c5 := cell_of (i := 1) hC2 rfl
  have f5 := free_of (i := 1) hC2
  have c6 : w2.cell? ⟨D, 3, none⟩ = some (.slice (some ⟨g, 0, none⟩) d.log.length lc) := (hb2.cell (p := ⟨D, 3, none⟩) (show D < w1.heap.size by omega)).trans c3'
  have n1 : ¬ D = w.heap.size + 2 := by omega
  have n2 : ¬ w.heap.size + 2 = D := by omega
  have n3 : w.heap.size + 2 < w2.heap.size := by omega
  have HC2 := Lib.hid hC2
  have HM2 := Lib.hid hm2
  have HB2 := Lib.hid hb2
  have HZ2 := Lib.hid hz2
  have HS2 := Lib.hid hs2
  clear hC2 hm2 hb2 hz2 hs2 c1' c3'
  go_wp2_with fail
  go_loopw [36] (fun i wr => LrR w d safe keep n i wr) (fun i _ => n - (intOf i).toNat)
  case atStart =>
    have e := HS2.out
    refine ⟨0, rfl, ⟨Nat.zero_le _, ?_, ?_, ?_, ?_⟩⟩
    · simp [World.setCell, Array.getElem?_modify, HC2.out, e]
    · refine ⟨esF, cF, ?_, HFB.out.1, fun k => ?_⟩
      · have h := HM2.out
        rw [e] at h
        simp [World.setCell, Array.getElem?_modify, h]
      · exact (HFB.out.2 k).below (((HB1.out.trans (HB2.out.mono (by omega))).setCell (by simp) _))
    · exact ((HB1.out.trans (HB2.out.mono (by omega))).setCell (by simp) _)
    · have h2 := HZ2.out
      have : (w2.setCell ⟨w.heap.size + 2, 1, none⟩ (.map (some w1.heap.size))).heap.size = w2.heap.size := by simp [World.setCell]
      omega
  case round =>
    obtain ⟨k, rfl, hL⟩ := hrel
    have hkn := hL.kn
    have LL := Lib.hid hL
    clear hL
    by_cases hlt : k < n
    · have hkl : k < d.log.length := by have := HNL.out; omega
      obtain ⟨v, hbv, hk0, hk1⟩ := HLOG.out k hkl
      have hB := LL.out.hb
      have k0 : wr.cell? ⟨g, k * 2, none⟩ = some (.int .i64 d.log[k].1) := (hB.cell (p := ⟨g, k * 2, none⟩) hgl).trans hk0
      have k1 : wr.cell? ⟨g, k * 2 + 1, none⟩ = some v := (hB.cell (p := ⟨g, k * 2 + 1, none⟩) hgl).trans hk1
      obtain ⟨va, vc, rfl⟩ := own_slice hbv.2
      have HBV := Lib.hid hbv
      have HLK := Lib.hid (show d.log.getD k (0, []) = (d.log[k].1, d.log[k].2) from by simp [List.getD_eq_getElem?_getD, hkl])
      generalize d.log[k].2 = lb at *
      generalize d.log[k].1 = ls at *
      clear hbv hk0 hk1 hB
      have hz := LL.out.hz
      have q4 : (k : Int) < (n : Int) := by omega
      have q5 : decide (k < n) = true := decide_eq_true hlt
      have hC3 := LL.out.hC
      have d1 := cell_al (.cells #[.int .i64 ls, .slice va lb.length vc] 61) (cell_of (i := 1) hC3 rfl)
      have b0 : (wr.alloc (.cells #[.int .i64 ls, .slice va lb.length vc] 61)).cell? ⟨wr.heap.size, 0, none⟩ = some (.int .i64 ls) := by simp
      have b1 : (wr.alloc (.cells #[.int .i64 ls, .slice va lb.length vc] 61)).cell? ⟨wr.heap.size, 1, none⟩ = some (.slice va lb.length vc) := by simp
      obtain ⟨es, c, hFc, hki, hFv⟩ := LL.out.hF
      have dm : (wr.alloc (.cells #[.int .i64 ls, .slice va lb.length vc] 61)).heap[w.heap.size + 3]? = some (.map es c) := ((World.grownBy_alloc wr _ none).block _ (lt_of_heap hFc) (by simp)).trans hFc
      have HKI := Lib.hid hki
      have HFC := Lib.hid hFc
      have HFV := Lib.hid hFv
      have HC3 := Lib.hid hC3
      have n4 : w.heap.size + 3 < wr.heap.size := by omega
      have n5 : w.heap.size + 2 < wr.heap.size := by omega
      clear hC3 hFc hki hFv
      by_cases h1 : k < safe
      · have t1 : decide (k < safe) = true := decide_eq_true h1
        have t2 : decide ((k : Int) < (safe : Int)) = true := decide_eq_true (by omega)
        have HKP := Lib.hid (show kept safe keep k = true by simp [kept, h1])
        go_wp2_with fail
        refine Go.Proofs.YtpbampnbgebpjaaW.PrintLast.start_ (n := 9) (S := fun v => v.cell? ⟨w.heap.size + 2, 1, none⟩ = some (.map (some (w.heap.size + 3))) ∧ v.cell? ⟨wr.heap.size, 0, none⟩ = some (.int .i64 ls) ∧ v.cell? ⟨wr.heap.size, 1, none⟩ = some (.slice va lb.length vc) ∧ v.heap[w.heap.size + 3]? = some (.map es c)) (ds := [8]) #[false, false, false, false, false, false, false, false, false] (by kernel_rfl) rfl rfl ⟨d1, b0, b1, dm⟩ (fun hHeld => ?_)
        refine Go.Proofs.YtpbampnbgebpjaaW.PrintLast.pure_ (i := 0) (N := some 60) (v := ?_) (a' := ?_) #[true, false, false, false, false, false, false, false, false] rfl rfl (by kernel_rfl) (fun _ _ _ h => h) (Or.inl ⟨by rfl, ?_⟩) ?_ ?_
        rotate_left
        · intro w'
          go_simp
          with_reducible rfl
        rotate_left
        · simp only [Act.put, List.setIfInBounds_toArray, List.set_cons_zero, List.set_cons_succ, Go.Proofs.YtpbampnbgebpjaaW.PrintLast.i64_w, Go.Proofs.YtpbampnbgebpjaaW.PrintLast.i32_w]
          rfl
        refine Go.Proofs.YtpbampnbgebpjaaW.PrintLast.pure_ (i := 1) (N := some 61) (v := ?_) (a' := ?_) #[true, true, false, false, false, false, false, false, false] rfl rfl (by kernel_rfl) (fun _ _ _ h => h) (Or.inl ⟨by rfl, ?_⟩) ?_ ?_
        rotate_left
        · intro w'
          go_simp
          with_reducible rfl
        rotate_left
        · simp only [Act.put, List.setIfInBounds_toArray, List.set_cons_zero, List.set_cons_succ, Go.Proofs.YtpbampnbgebpjaaW.PrintLast.i64_w, Go.Proofs.YtpbampnbgebpjaaW.PrintLast.i32_w]
          rfl
        refine Go.Proofs.YtpbampnbgebpjaaW.PrintLast.pure_ (i := 2) (N := some 62) (v := ?_) (a' := ?_) #[true, true, true, false, false, false, false, false, false] rfl rfl (by kernel_rfl) (fun _ _ _ h => h) (Or.inl ⟨by rfl, ?_⟩) ?_ ?_
        rotate_left
        · intro w'
          go_simp
          with_reducible rfl
        rotate_left
        · simp only [Act.put, List.setIfInBounds_toArray, List.set_cons_zero, List.set_cons_succ, Go.Proofs.YtpbampnbgebpjaaW.PrintLast.i64_w, Go.Proofs.YtpbampnbgebpjaaW.PrintLast.i32_w]
          rfl
        refine Go.Proofs.YtpbampnbgebpjaaW.PrintLast.take_ (i := 3) (N := some 63) (v := ?_) (a' := ?_) #[true, true, true, true, false, false, false, false, false] rfl rfl (by kernel_rfl) (fun _ _ _ h => h) (Or.inl ⟨by rfl, ?_⟩) hHeld ?_ ?_
        rotate_left
        · rintro w' ⟨s0, s1, s2, s3⟩
          go_simp
          with_reducible rfl
        rotate_left
        · simp only [Act.put, List.setIfInBounds_toArray, List.set_cons_zero, List.set_cons_succ, Go.Proofs.YtpbampnbgebpjaaW.PrintLast.i64_w, Go.Proofs.YtpbampnbgebpjaaW.PrintLast.i32_w]
          rfl
        refine Go.Proofs.YtpbampnbgebpjaaW.PrintLast.pure_ (i := 4) (N := some 64) (v := ?_) (a' := ?_) #[true, true, true, true, true, false, false, false, false] rfl rfl (by kernel_rfl) (fun _ _ _ h => h) (Or.inl ⟨by rfl, ?_⟩) ?_ ?_
        rotate_left
        · intro w'
          go_simp
          with_reducible rfl
        rotate_left
        · simp only [Act.put, List.setIfInBounds_toArray, List.set_cons_zero, List.set_cons_succ, Go.Proofs.YtpbampnbgebpjaaW.PrintLast.i64_w, Go.Proofs.YtpbampnbgebpjaaW.PrintLast.i32_w]
          rfl
        refine Go.Proofs.YtpbampnbgebpjaaW.PrintLast.take_ (i := 5) (N := some 65) (v := ?_) (a' := ?_) #[true, true, true, true, true, true, false, false, false] rfl rfl (by kernel_rfl) (fun _ _ _ h => h) (Or.inl ⟨by rfl, ?_⟩) hHeld ?_ ?_
        rotate_left
        · rintro w' ⟨s0, s1, s2, s3⟩
          go_simp
          with_reducible rfl
        rotate_left
        · simp only [Act.put, List.setIfInBounds_toArray, List.set_cons_zero, List.set_cons_succ, Go.Proofs.YtpbampnbgebpjaaW.PrintLast.i64_w, Go.Proofs.YtpbampnbgebpjaaW.PrintLast.i32_w]
          rfl
        refine Go.Proofs.YtpbampnbgebpjaaW.PrintLast.pure_ (i := 6) (N := some 66) (v := ?_) (a' := ?_) #[true, true, true, true, true, true, true, false, false] rfl rfl (by kernel_rfl) (fun _ _ _ h => h) (Or.inl ⟨by rfl, ?_⟩) ?_ ?_
        rotate_left
        · intro w'
          go_simp
          with_reducible rfl
        rotate_left
        · simp only [Act.put, List.setIfInBounds_toArray, List.set_cons_zero, List.set_cons_succ, Go.Proofs.YtpbampnbgebpjaaW.PrintLast.i64_w, Go.Proofs.YtpbampnbgebpjaaW.PrintLast.i32_w]
          rfl
        refine Go.Proofs.YtpbampnbgebpjaaW.PrintLast.take_ (i := 7) (N := some 67) (v := ?_) (a' := ?_) #[true, true, true, true, true, true, true, true, false] rfl rfl (by kernel_rfl) (fun _ _ _ h => h) (Or.inl ⟨by rfl, ?_⟩) hHeld ?_ ?_
        rotate_left
        · rintro w' ⟨s0, s1, s2, s3⟩
          go_simp
          with_reducible rfl
        rotate_left
        · simp only [Act.put, List.setIfInBounds_toArray, List.set_cons_zero, List.set_cons_succ, Go.Proofs.YtpbampnbgebpjaaW.PrintLast.i64_w, Go.Proofs.YtpbampnbgebpjaaW.PrintLast.i32_w]
          rfl
        refine Go.Proofs.YtpbampnbgebpjaaW.PrintLast.last_ (i := 8) (N := none) #[true, true, true, true, true, true, true, true, true] rfl rfl (by kernel_rfl) (by decide) (fun K hK => ?_)
        obtain ⟨es', c', hrun, hk', hm'⟩ := run_mapUpdate (w := (wr.alloc (.cells #[.int .i64 ls, .slice va lb.length vc] 61)).drew) Try.underlying54 Try.underlying3 hHeld.2.2.2 HKI.out ls (.slice va lb.length vc)
        refine Go.Proofs.YtpbampnbgebpjaaW.PrintLast.skip_ (w1 := setMap (wr.alloc (.cells #[.int .i64 ls, .slice va lb.length vc] 61)).drew (w.heap.size + 3) (.map es' c')) (by rfl) rfl (by go_simp) ?_
        refine hK.out _ _ ?_
        clear hK K
        refine Go.Proofs.YtpbampnbgebpjaaW.PrintLast.done_ (by kernel_rfl) ?_
        go_wp2_with fail
        go_roundw
        case rel => exact ⟨k + 1, by go_num, LL.out.take hlt HKP.out HLK.out HBV.out HFC.out HFV.out hk' hm'⟩
        case measure => simp [intOf]; omega
      · have t1 : decide (k < safe) = false := decide_eq_false h1
        have t2 : decide ((k : Int) < (safe : Int)) = false := decide_eq_false (by omega)
        have ej : IntKind.i64.wrap ((k : Int) - (safe : Int)) = ((k - safe : Nat) : Int) := by
          have := HFit.out.1
          have := HNL.out
          rw [IntWalk.i64_in _ (by omega)]
          omega
        obtain ⟨j, hj⟩ : ∃ j, k - safe = j := ⟨_, rfl⟩
        rw [hj] at ej
        by_cases h2 : j < keep.length
        · have t3 : decide (j < keep.length) = true := decide_eq_true h2
          have t4 : decide ((j : Int) < (keep.length : Int)) = true := decide_eq_true (by omega)
          have t5 : (0 : Int) ≤ (j : Int) := by omega
          have t6 : (j : Int) < (keep.length : Int) := by omega
          obtain ⟨a, ha, hka⟩ := HK.out j h2
          subst ha
          have hka1 : wr.cell? (a.add j) = some (.bool (keep.getD j false)) := by
            have hb := LL.out.hb
            have hlt2 := World.block_lt_of_cell? w _ hka
            exact (hb.cell (p := a.add j) hlt2).trans hka
          have hka2 := cell_al (.cells #[.int .i64 ls, .slice va lb.length vc] 61) hka1
          clear hka hka1
          cases hkb : keep.getD j false with
          | true =>
            rw [hkb] at hka2
            have HKP := Lib.hid (show kept safe keep k = true by simp only [kept, hj, hkb, t3]; simp)
            go_wp2_with fail
            refine Go.Proofs.YtpbampnbgebpjaaW.PrintLast.start_ (n := 9) (S := fun v => v.cell? ⟨w.heap.size + 2, 1, none⟩ = some (.map (some (w.heap.size + 3))) ∧ v.cell? ⟨wr.heap.size, 0, none⟩ = some (.int .i64 ls) ∧ v.cell? ⟨wr.heap.size, 1, none⟩ = some (.slice va lb.length vc) ∧ v.heap[w.heap.size + 3]? = some (.map es c)) (ds := [8]) #[false, false, false, false, false, false, false, false, false] (by kernel_rfl) rfl rfl ⟨d1, b0, b1, dm⟩ (fun hHeld => ?_)
            refine Go.Proofs.YtpbampnbgebpjaaW.PrintLast.pure_ (i := 0) (N := some 60) (v := ?_) (a' := ?_) #[true, false, false, false, false, false, false, false, false] rfl rfl (by kernel_rfl) (fun _ _ _ h => h) (Or.inl ⟨by rfl, ?_⟩) ?_ ?_
            rotate_left
            · intro w'
              go_simp
              with_reducible rfl
            rotate_left
            · simp only [Act.put, List.setIfInBounds_toArray, List.set_cons_zero, List.set_cons_succ, Go.Proofs.YtpbampnbgebpjaaW.PrintLast.i64_w, Go.Proofs.YtpbampnbgebpjaaW.PrintLast.i32_w]
              rfl
            refine Go.Proofs.YtpbampnbgebpjaaW.PrintLast.pure_ (i := 1) (N := some 61) (v := ?_) (a' := ?_) #[true, true, false, false, false, false, false, false, false] rfl rfl (by kernel_rfl) (fun _ _ _ h => h) (Or.inl ⟨by rfl, ?_⟩) ?_ ?_
            rotate_left
            · intro w'
              go_simp
              with_reducible rfl
            rotate_left
            · simp only [Act.put, List.setIfInBounds_toArray, List.set_cons_zero, List.set_cons_succ, Go.Proofs.YtpbampnbgebpjaaW.PrintLast.i64_w, Go.Proofs.YtpbampnbgebpjaaW.PrintLast.i32_w]
              rfl
            refine Go.Proofs.YtpbampnbgebpjaaW.PrintLast.pure_ (i := 2) (N := some 62) (v := ?_) (a' := ?_) #[true, true, true, false, false, false, false, false, false] rfl rfl (by kernel_rfl) (fun _ _ _ h => h) (Or.inl ⟨by rfl, ?_⟩) ?_ ?_
            rotate_left
            · intro w'
              go_simp
              with_reducible rfl
            rotate_left
            · simp only [Act.put, List.setIfInBounds_toArray, List.set_cons_zero, List.set_cons_succ, Go.Proofs.YtpbampnbgebpjaaW.PrintLast.i64_w, Go.Proofs.YtpbampnbgebpjaaW.PrintLast.i32_w]
              rfl
            refine Go.Proofs.YtpbampnbgebpjaaW.PrintLast.take_ (i := 3) (N := some 63) (v := ?_) (a' := ?_) #[true, true, true, true, false, false, false, false, false] rfl rfl (by kernel_rfl) (fun _ _ _ h => h) (Or.inl ⟨by rfl, ?_⟩) hHeld ?_ ?_
            rotate_left
            · rintro w' ⟨s0, s1, s2, s3⟩
              go_simp
              with_reducible rfl
            rotate_left
            · simp only [Act.put, List.setIfInBounds_toArray, List.set_cons_zero, List.set_cons_succ, Go.Proofs.YtpbampnbgebpjaaW.PrintLast.i64_w, Go.Proofs.YtpbampnbgebpjaaW.PrintLast.i32_w]
              rfl
            refine Go.Proofs.YtpbampnbgebpjaaW.PrintLast.pure_ (i := 4) (N := some 64) (v := ?_) (a' := ?_) #[true, true, true, true, true, false, false, false, false] rfl rfl (by kernel_rfl) (fun _ _ _ h => h) (Or.inl ⟨by rfl, ?_⟩) ?_ ?_
            rotate_left
            · intro w'
              go_simp
              with_reducible rfl
            rotate_left
            · simp only [Act.put, List.setIfInBounds_toArray, List.set_cons_zero, List.set_cons_succ, Go.Proofs.YtpbampnbgebpjaaW.PrintLast.i64_w, Go.Proofs.YtpbampnbgebpjaaW.PrintLast.i32_w]
              rfl
            refine Go.Proofs.YtpbampnbgebpjaaW.PrintLast.take_ (i := 5) (N := some 65) (v := ?_) (a' := ?_) #[true, true, true, true, true, true, false, false, false] rfl rfl (by kernel_rfl) (fun _ _ _ h => h) (Or.inl ⟨by rfl, ?_⟩) hHeld ?_ ?_
            rotate_left
            · rintro w' ⟨s0, s1, s2, s3⟩
              go_simp
              with_reducible rfl
            rotate_left
            · simp only [Act.put, List.setIfInBounds_toArray, List.set_cons_zero, List.set_cons_succ, Go.Proofs.YtpbampnbgebpjaaW.PrintLast.i64_w, Go.Proofs.YtpbampnbgebpjaaW.PrintLast.i32_w]
              rfl
            refine Go.Proofs.YtpbampnbgebpjaaW.PrintLast.pure_ (i := 6) (N := some 66) (v := ?_) (a' := ?_) #[true, true, true, true, true, true, true, false, false] rfl rfl (by kernel_rfl) (fun _ _ _ h => h) (Or.inl ⟨by rfl, ?_⟩) ?_ ?_
            rotate_left
            · intro w'
              go_simp
              with_reducible rfl
            rotate_left
            · simp only [Act.put, List.setIfInBounds_toArray, List.set_cons_zero, List.set_cons_succ, Go.Proofs.YtpbampnbgebpjaaW.PrintLast.i64_w, Go.Proofs.YtpbampnbgebpjaaW.PrintLast.i32_w]
              rfl
            refine Go.Proofs.YtpbampnbgebpjaaW.PrintLast.take_ (i := 7) (N := some 67) (v := ?_) (a' := ?_) #[true, true, true, true, true, true, true, true, false] rfl rfl (by kernel_rfl) (fun _ _ _ h => h) (Or.inl ⟨by rfl, ?_⟩) hHeld ?_ ?_
            rotate_left
            · rintro w' ⟨s0, s1, s2, s3⟩
              go_simp
              with_reducible rfl
            rotate_left
            · simp only [Act.put, List.setIfInBounds_toArray, List.set_cons_zero, List.set_cons_succ, Go.Proofs.YtpbampnbgebpjaaW.PrintLast.i64_w, Go.Proofs.YtpbampnbgebpjaaW.PrintLast.i32_w]
              rfl
            refine Go.Proofs.YtpbampnbgebpjaaW.PrintLast.last_ (i := 8) (N := none) #[true, true, true, true, true, true, true, true, true] rfl rfl (by kernel_rfl) (by decide) (fun K hK => ?_)
            obtain ⟨es', c', hrun, hk', hm'⟩ := run_mapUpdate (w := (wr.alloc (.cells #[.int .i64 ls, .slice va lb.length vc] 61)).drew) Try.underlying54 Try.underlying3 hHeld.2.2.2 HKI.out ls (.slice va lb.length vc)
            refine Go.Proofs.YtpbampnbgebpjaaW.PrintLast.skip_ (w1 := setMap (wr.alloc (.cells #[.int .i64 ls, .slice va lb.length vc] 61)).drew (w.heap.size + 3) (.map es' c')) (by rfl) rfl (by go_simp) ?_
            refine hK.out _ _ ?_
            clear hK K
            refine Go.Proofs.YtpbampnbgebpjaaW.PrintLast.done_ (by kernel_rfl) ?_
            go_wp2_with fail
            go_roundw
            case rel => exact ⟨k + 1, by go_num, LL.out.take hlt HKP.out HLK.out HBV.out HFC.out HFV.out hk' hm'⟩
            case measure => simp [intOf]; omega
          | false =>
            rw [hkb] at hka2
            have HKP := Lib.hid (show kept safe keep k = false by simp only [kept, hj, hkb, t1]; simp)
            go_wp2_with fail
            go_roundw
            case rel => exact ⟨k + 1, by go_num, LL.out.skip hlt HKP.out _⟩
            case measure => simp [intOf]; omega
        · have t3 : decide (j < keep.length) = false := decide_eq_false h2
          have t4 : decide ((j : Int) < (keep.length : Int)) = false := decide_eq_false (by omega)
          have HKP := Lib.hid (show kept safe keep k = false by simp only [kept, hj, t1, t3]; rfl)
          go_wp2_with fail
          go_roundw
          case rel => exact ⟨k + 1, by go_num, LL.out.skip hlt HKP.out _⟩
          case measure => simp [intOf]; omega
    · have hC3 := LL.out.hC
      have e1 := cell_of (i := 1) hC3 rfl
      obtain ⟨es, c, hFc, hki, hFv⟩ := LL.out.hF
      have hz := LL.out.hz
      have HC3 := Lib.hid hC3
      have HKV := Lib.hid (And.intro hki hFv)
      have HFC := Lib.hid hFc
      have ek : k = n := by omega
      clear hC3 hki hFv
      go_wp2_with fail
      refine (clone_abs (w.heap.size + 3) es c _ hFc).mono ?_
      rintro e w3 ⟨rfl, hb3, hz3, hm3⟩
      have hC4 := (hb3.block (w.heap.size + 2) (by omega)).trans HC3.out
      have g2 := free_of (i := 2) hC4
      have g3 := cell_of (i := 2) hC4 rfl
      have HC4 := Lib.hid hC4
      have HB3 := Lib.hid hb3
      have HM3 := Lib.hid hm3
      clear hC4 hb3 hm3 hFc
      go_wp2_with fail
      go_ret
      subst ek
      obtain ⟨r1, r2⟩ := Lr.done HBW.out LL.out HKV.out HB3.out HM3.out
      exact ⟨_, rfl, r1, r2⟩
set_option maxHeartbeats 2000000 in
set_option maxRecDepth 100000 in
theorem left_none (base : Nat) (w : World) (D : Nat) (d : Dsk) (safe n : Nat) (KA : Option Addr) (kc : Nat) (keep : List Bool) (h : IsDk base w D d) (hf : d.Fit) (hbw : base ≤ w.heap.size) (hN : 1 ≤ d.N ∧ d.N ≤ 4096) (hs : safe ≤ n) (hn : n ≤ d.log.length) (hpos : d.log.length = 0)
    (hkl : keep.length ≤ 9223372036854775807) (hk : ∀ j, j < keep.length → ∃ a, KA = some a ∧ w.cell? (a.add j) = some (.bool (keep.getD j false))) :
    Calls Try.prog 27 #[.pointer (some ⟨D, 0, none⟩), .int .i64 safe, .int .i64 n, .slice KA keep.length kc] w fun e w' => ∃ C, e = .returned (.pointer (some ⟨C, 0, none⟩)) ∧ IsDk base w' C (leftD d safe n keep) ∧ Below w.heap.size w w' := by
  obtain ⟨F, M, lv, sv, hd⟩ := h
  obtain ⟨c0, c1, _, c3, _⟩ := hd.cells
  obtain ⟨esF, cF, hF, hFk, hFb⟩ := hd.hF
  have HD := Lib.hid hd
  have HF := Lib.hid hF
  have HFB := Lib.hid (And.intro hFk hFb)
  have HN := Lib.hid hN
  have HS := Lib.hid hs
  have HNL := Lib.hid hn
  have HFit := Lib.hid hf
  have HBW := Lib.hid hbw
  have HK := Lib.hid hk
  have HKL := Lib.hid hkl
  have hDl := lt_of_heap hd.hD
  have hFl := lt_of_heap hF
  obtain ⟨vs, l1, l2, l3⟩ := hd.hL
  obtain ⟨la, lc, rfl⟩ := own_slice l3
  have hcap : d.log.length ≤ lc := by omega
  clear l1 l2 l3
  have hn1 : n ≤ 1000000 := by have := hf.1; omega
  have q1 : n ≤ lc := by omega
  have q2 : (0 : Int) ≤ (n : Int) := by omega
  have q3 : (n : Int) ≤ (lc : Int) := by omega
  clear hd hF hFk hFb hN hs hn hf hbw hk hkl hcap
  go_enter Try.func27, Try.ntmps27
  go_wp2_with fail
  refine (new_abs d.N _ HN.out.1 HN.out.2).mono ?_
  rintro e w1 ⟨rfl, hb1, hz1, hm0, hm1, hC⟩
  have c1' : w1.cell? ⟨D, 1, none⟩ = some (.map (some F)) := (hb1.cell (p := ⟨D, 1, none⟩) hDl).trans c1
  have hF1 := (hb1.block F hFl).trans HF.out
  have c3' : w1.cell? ⟨D, 3, none⟩ = some (.slice la d.log.length lc) := (hb1.cell (p := ⟨D, 3, none⟩) hDl).trans c3
  have HC1 := Lib.hid hC
  have HB1 := Lib.hid hb1
  have HM1 := Lib.hid hm1
  have HZ1 := Lib.hid hz1
  clear hC hb1 hm0 hm1 hz1 c0 c1 c3
  go_wp2_with fail
  refine (clone_abs F esF cF _ hF1).mono ?_
  rintro e w2 ⟨rfl, hb2, hz2, hm2⟩
  have hs2 : w1.heap.size = w.heap.size + 3 := HZ1.out
  have hC2 := (hb2.block (w.heap.size + 2) (by omega)).trans HC1.out
  have c5 := cell_of (i := 1) hC2 rfl
  have f5 := free_of (i := 1) hC2
  have c6 : w2.cell? ⟨D, 3, none⟩ = some (.slice la d.log.length lc) := (hb2.cell (p := ⟨D, 3, none⟩) (show D < w1.heap.size by omega)).trans c3'
  have n1 : ¬ D = w.heap.size + 2 := by omega
  have n2 : ¬ w.heap.size + 2 = D := by omega
  have n3 : w.heap.size + 2 < w2.heap.size := by omega
  have HC2 := Lib.hid hC2
  have HM2 := Lib.hid hm2
  have HB2 := Lib.hid hb2
  have HZ2 := Lib.hid hz2
  have HS2 := Lib.hid hs2
  clear hC2 hm2 hb2 hz2 hs2 c1' c3'
  go_wp2_with fail
  go_loopw [36] (fun i wr => LrR w d safe keep n i wr) (fun i _ => n - (intOf i).toNat)
  case atStart =>
    have e := HS2.out
    refine ⟨0, rfl, ⟨Nat.zero_le _, ?_, ?_, ?_, ?_⟩⟩
    · simp [World.setCell, Array.getElem?_modify, HC2.out, e]
    · refine ⟨esF, cF, ?_, HFB.out.1, fun k => ?_⟩
      · have h := HM2.out
        rw [e] at h
        simp [World.setCell, Array.getElem?_modify, h]
      · exact (HFB.out.2 k).below (((HB1.out.trans (HB2.out.mono (by omega))).setCell (by simp) _))
    · exact ((HB1.out.trans (HB2.out.mono (by omega))).setCell (by simp) _)
    · have h2 := HZ2.out
      have : (w2.setCell ⟨w.heap.size + 2, 1, none⟩ (.map (some w1.heap.size))).heap.size = w2.heap.size := by simp [World.setCell]
      omega
  case round =>
    obtain ⟨k, rfl, hL⟩ := hrel
    have hkn := hL.kn
    have LL := Lib.hid hL
    clear hL
    by_cases hlt : k < n
    · exfalso; have := HNL.out; omega
    · have hC3 := LL.out.hC
      have e1 := cell_of (i := 1) hC3 rfl
      obtain ⟨es, c, hFc, hki, hFv⟩ := LL.out.hF
      have hz := LL.out.hz
      have HC3 := Lib.hid hC3
      have HKV := Lib.hid (And.intro hki hFv)
      have HFC := Lib.hid hFc
      have ek : k = n := by omega
      clear hC3 hki hFv
      go_wp2_with fail
      refine (clone_abs (w.heap.size + 3) es c _ hFc).mono ?_
      rintro e w3 ⟨rfl, hb3, hz3, hm3⟩
      have hC4 := (hb3.block (w.heap.size + 2) (by omega)).trans HC3.out
      have g2 := free_of (i := 2) hC4
      have g3 := cell_of (i := 2) hC4 rfl
      have HC4 := Lib.hid hC4
      have HB3 := Lib.hid hb3
      have HM3 := Lib.hid hm3
      clear hC4 hb3 hm3 hFc
      go_wp2_with fail
      go_ret
      subst ek
      obtain ⟨r1, r2⟩ := Lr.done HBW.out LL.out HKV.out HB3.out HM3.out
      exact ⟨_, rfl, r1, r2⟩
theorem left_any (base : Nat) (w : World) (D : Nat) (d : Dsk) (safe n : Nat) (KA : Option Addr) (kc : Nat) (keep : List Bool) (h : IsDk base w D d) (hf : d.Fit) (hbw : base ≤ w.heap.size) (hN : 1 ≤ d.N ∧ d.N ≤ 4096) (hs : safe ≤ n) (hn : n ≤ d.log.length)
    (hkl : keep.length ≤ 9223372036854775807) (hk : ∀ j, j < keep.length → ∃ a, KA = some a ∧ w.cell? (a.add j) = some (.bool (keep.getD j false))) :
    Calls Try.prog 27 #[.pointer (some ⟨D, 0, none⟩), .int .i64 safe, .int .i64 n, .slice KA keep.length kc] w fun e w' => ∃ C, e = .returned (.pointer (some ⟨C, 0, none⟩)) ∧ IsDk base w' C (leftD d safe n keep) ∧ Below w.heap.size w w' := by
  by_cases hp : 0 < d.log.length
  · exact left_some base w D d safe n KA kc keep h hf hbw hN hs hn hp hkl hk
  · exact left_none base w D d safe n KA kc keep h hf hbw hN hs hn (by omega) hkl hk
end Dk
end Go.Proofs.Ytpbampnbgebpjaa

namespace Go.Proofs.Ytpbampnbgebpjaa
open Go.RowKit Go.Proofs.YtpbampnbgebpjaaW.PrintWords Go.Proofs.YtpbampnbgebpjaaW.PrintLast
set_option linter.unusedVariables false
set_option linter.unusedSimpArgs false
namespace Dk

theorem below_drewN {B : Nat} {w w1 : World} (h : Below B w w1) (n : Nat) : Below B w (w1.drewN n) := ⟨h.os, h.tape, h.output, h.size, h.block⟩
/-- how many writes are safe -/
def safeOf (d : Dsk) : Nat := match d.syncs.getLast? with
  | none => 0
  | some s => s.toNat
theorem pend_safe (d : Dsk) (hf : d.Fit) : safeOf d ≤ d.log.length ∧ pend d = (d.log.length : Int) - safeOf d := by
  unfold pend safeOf
  cases h : d.syncs.getLast? with
  | none => simp
  | some s =>
    have := hf.2.2 s (List.mem_of_getLast? h)
    simp only
    omega
set_option maxHeartbeats 1000000 in
set_option maxRecDepth 100000 in
theorem cut_any (base : Nat) (w : World) (D : Nat) (d : Dsk) (KA : Option Addr) (kc : Nat) (keep : List Bool) (h : IsDk base w D d) (hf : d.Fit) (hbw : base ≤ w.heap.size) (hN : 1 ≤ d.N ∧ d.N ≤ 4096)
    (hkl : keep.length ≤ 9223372036854775807) (hk : ∀ j, j < keep.length → ∃ a, KA = some a ∧ w.cell? (a.add j) = some (.bool (keep.getD j false))) :
    Calls Try.prog 13 #[.pointer (some ⟨D, 0, none⟩), .slice KA keep.length kc] w fun e w' => ∃ C, e = .returned (.pointer (some ⟨C, 0, none⟩)) ∧ IsDk base w' C (leftD d (safeOf d) d.log.length keep) ∧ Below w.heap.size w w' := by
  obtain ⟨hs, hp⟩ := pend_safe d hf
  have HI := Lib.hid h
  have HFit := Lib.hid hf
  obtain ⟨F, M, lv, sv, hd⟩ := h
  obtain ⟨vs, l1, l2, l3⟩ := hd.hL
  obtain ⟨la, lc, rfl⟩ := own_slice l3
  obtain ⟨_, _, _, c3, _⟩ := hd.cells
  have HDL := Lib.hid (lt_of_heap hd.hD)
  have HLEFT := Lib.hid (show ∀ w2, Below w.heap.size w w2 → Calls Try.prog 27 #[.pointer (some ⟨D, 0, none⟩), .int .i64 (safeOf d), .int .i64 d.log.length, .slice KA keep.length kc] w2 fun e w' => ∃ C, e = .returned (.pointer (some ⟨C, 0, none⟩)) ∧ IsDk base w' C (leftD d (safeOf d) d.log.length keep) ∧ Below w.heap.size w w' from fun w2 hb =>
    (left_any base w2 D d (safeOf d) d.log.length KA kc keep (HI.out.below hb) hf (Nat.le_trans hbw hb.size) hN hs (Nat.le_refl _) hkl (fun j hj => by
      obtain ⟨a, e, hc⟩ := hk j hj
      exact ⟨a, e, (hb.cell (p := a.add j) (World.block_lt_of_cell? w _ hc)).trans hc⟩)).mono fun e w' ⟨C, q1, q2, q3⟩ => ⟨C, q1, q2, hb.trans (q3.mono hb.size)⟩)
  have hm := hf.1
  clear l1 l2 l3 hd hkl hk hbw hN hf
  have HPE := Lib.hid (show pend d = (d.log.length : Int) - safeOf d from hp)
  generalize hpd : (d.log.length : Int) - safeOf d = p at HPE
  generalize safeOf d = sf at *
  have e1 : IntKind.i64.wrap ((d.log.length : Int) - p) = (sf : Int) := by rw [IntWalk.i64_in _ (by omega)]; omega
  generalize d.log.length = m at *
  clear hs hp hpd hm
  go_enter Try.func13, Try.ntmps13
  go_wp2_with fail
  refine Go.Proofs.YtpbampnbgebpjaaW.PrintLast.start_ (n := 17) (S := fun v => v.cell? ⟨D, 3, none⟩ = some (.slice la m lc)) (ds := [16]) #[false, false, false, false, false, false, false, false, false, false, false, false, false, false, false, false, false] (by kernel_rfl) rfl rfl c3 (fun hHeld => ?_)
  refine Go.Proofs.YtpbampnbgebpjaaW.PrintLast.pure_ (i := 0) (N := some 7) (v := ?_) (a' := ?_) #[true, false, false, false, false, false, false, false, false, false, false, false, false, false, false, false, false] rfl rfl (by kernel_rfl) (fun _ _ _ h => h) (Or.inl ⟨by rfl, ?_⟩) ?_ ?_
  rotate_left
  · intro w'
    go_simp
    with_reducible rfl
  rotate_left
  · simp only [Act.put, List.setIfInBounds_toArray, List.set_cons_zero, List.set_cons_succ, Go.Proofs.YtpbampnbgebpjaaW.PrintLast.i64_w, Go.Proofs.YtpbampnbgebpjaaW.PrintLast.i32_w]
    rfl
  refine Go.Proofs.YtpbampnbgebpjaaW.PrintLast.pure_ (i := 1) (N := some 8) (v := ?_) (a' := ?_) #[true, true, false, false, false, false, false, false, false, false, false, false, false, false, false, false, false] rfl rfl (by kernel_rfl) (fun _ _ _ h => h) (Or.inl ⟨by rfl, ?_⟩) ?_ ?_
  rotate_left
  · intro w'
    go_simp
    with_reducible rfl
  rotate_left
  · simp only [Act.put, List.setIfInBounds_toArray, List.set_cons_zero, List.set_cons_succ, Go.Proofs.YtpbampnbgebpjaaW.PrintLast.i64_w, Go.Proofs.YtpbampnbgebpjaaW.PrintLast.i32_w]
    rfl
  refine Go.Proofs.YtpbampnbgebpjaaW.PrintLast.pure_ (i := 2) (N := some 9) (v := ?_) (a' := ?_) #[true, true, true, false, false, false, false, false, false, false, false, false, false, false, false, false, false] rfl rfl (by kernel_rfl) (fun _ _ _ h => h) (Or.inl ⟨by rfl, ?_⟩) ?_ ?_
  rotate_left
  · intro w'
    go_simp
    with_reducible rfl
  rotate_left
  · simp only [Act.put, List.setIfInBounds_toArray, List.set_cons_zero, List.set_cons_succ, Go.Proofs.YtpbampnbgebpjaaW.PrintLast.i64_w, Go.Proofs.YtpbampnbgebpjaaW.PrintLast.i32_w]
    rfl
  refine Go.Proofs.YtpbampnbgebpjaaW.PrintLast.pure_ (i := 3) (N := some 10) (v := ?_) (a' := ?_) #[true, true, true, true, false, false, false, false, false, false, false, false, false, false, false, false, false] rfl rfl (by kernel_rfl) (fun _ _ _ h => h) (Or.inl ⟨by rfl, ?_⟩) ?_ ?_
  rotate_left
  · intro w'
    go_simp
    with_reducible rfl
  rotate_left
  · simp only [Act.put, List.setIfInBounds_toArray, List.set_cons_zero, List.set_cons_succ, Go.Proofs.YtpbampnbgebpjaaW.PrintLast.i64_w, Go.Proofs.YtpbampnbgebpjaaW.PrintLast.i32_w]
    rfl
  refine Go.Proofs.YtpbampnbgebpjaaW.PrintLast.take_ (i := 4) (N := some 11) (v := ?_) (a' := ?_) #[true, true, true, true, true, false, false, false, false, false, false, false, false, false, false, false, false] rfl rfl (by kernel_rfl) (fun _ _ _ h => h) (Or.inl ⟨by rfl, ?_⟩) hHeld ?_ ?_
  rotate_left
  · rintro w' s0
    go_simp
    with_reducible rfl
  rotate_left
  · simp only [Act.put, List.setIfInBounds_toArray, List.set_cons_zero, List.set_cons_succ, Go.Proofs.YtpbampnbgebpjaaW.PrintLast.i64_w, Go.Proofs.YtpbampnbgebpjaaW.PrintLast.i32_w]
    rfl
  refine Go.Proofs.YtpbampnbgebpjaaW.PrintLast.take_ (i := 5) (N := some 12) (v := ?_) (a' := ?_) #[true, true, true, true, true, true, false, false, false, false, false, false, false, false, false, false, false] rfl rfl (by kernel_rfl) (fun _ _ _ h => h) (Or.inl ⟨by rfl, ?_⟩) hHeld ?_ ?_
  rotate_left
  · rintro w' s0
    go_simp
    with_reducible rfl
  rotate_left
  · simp only [Act.put, List.setIfInBounds_toArray, List.set_cons_zero, List.set_cons_succ, Go.Proofs.YtpbampnbgebpjaaW.PrintLast.i64_w, Go.Proofs.YtpbampnbgebpjaaW.PrintLast.i32_w]
    rfl
  refine Go.Proofs.YtpbampnbgebpjaaW.PrintLast.pure_ (i := 6) (N := some 13) (v := ?_) (a' := ?_) #[true, true, true, true, true, true, true, false, false, false, false, false, false, false, false, false, false] rfl rfl (by kernel_rfl) (fun _ _ _ h => h) (Or.inl ⟨by rfl, ?_⟩) ?_ ?_
  rotate_left
  · intro w'
    go_simp
    with_reducible rfl
  rotate_left
  · simp only [Act.put, List.setIfInBounds_toArray, List.set_cons_zero, List.set_cons_succ, Go.Proofs.YtpbampnbgebpjaaW.PrintLast.i64_w, Go.Proofs.YtpbampnbgebpjaaW.PrintLast.i32_w]
    rfl
  refine Go.Proofs.YtpbampnbgebpjaaW.PrintLast.pure_ (i := 9) (N := some 16) (v := ?_) (a' := ?_) #[true, true, true, true, true, true, true, false, false, true, false, false, false, false, false, false, false] rfl rfl (by kernel_rfl) (fun _ _ _ h => h) (Or.inl ⟨by rfl, ?_⟩) ?_ ?_
  rotate_left
  · intro w'
    go_simp
    with_reducible rfl
  rotate_left
  · simp only [Act.put, List.setIfInBounds_toArray, List.set_cons_zero, List.set_cons_succ, Go.Proofs.YtpbampnbgebpjaaW.PrintLast.i64_w, Go.Proofs.YtpbampnbgebpjaaW.PrintLast.i32_w]
    rfl
  refine Go.Proofs.YtpbampnbgebpjaaW.PrintLast.pure_ (i := 10) (N := some 17) (v := ?_) (a' := ?_) #[true, true, true, true, true, true, true, false, false, true, true, false, false, false, false, false, false] rfl rfl (by kernel_rfl) (fun _ _ _ h => h) (Or.inl ⟨by rfl, ?_⟩) ?_ ?_
  rotate_left
  · intro w'
    go_simp
    with_reducible rfl
  rotate_left
  · simp only [Act.put, List.setIfInBounds_toArray, List.set_cons_zero, List.set_cons_succ, Go.Proofs.YtpbampnbgebpjaaW.PrintLast.i64_w, Go.Proofs.YtpbampnbgebpjaaW.PrintLast.i32_w]
    rfl
  refine Go.Proofs.YtpbampnbgebpjaaW.PrintLast.pure_ (i := 11) (N := some 18) (v := ?_) (a' := ?_) #[true, true, true, true, true, true, true, false, false, true, true, true, false, false, false, false, false] rfl rfl (by kernel_rfl) (fun _ _ _ h => h) (Or.inl ⟨by rfl, ?_⟩) ?_ ?_
  rotate_left
  · intro w'
    go_simp
    with_reducible rfl
  rotate_left
  · simp only [Act.put, List.setIfInBounds_toArray, List.set_cons_zero, List.set_cons_succ, Go.Proofs.YtpbampnbgebpjaaW.PrintLast.i64_w, Go.Proofs.YtpbampnbgebpjaaW.PrintLast.i32_w]
    rfl
  refine Go.Proofs.YtpbampnbgebpjaaW.PrintLast.take_ (i := 12) (N := some 19) (v := ?_) (a' := ?_) #[true, true, true, true, true, true, true, false, false, true, true, true, true, false, false, false, false] rfl rfl (by kernel_rfl) (fun _ _ _ h => h) (Or.inl ⟨by rfl, ?_⟩) hHeld ?_ ?_
  rotate_left
  · rintro w' s0
    go_simp
    with_reducible rfl
  rotate_left
  · simp only [Act.put, List.setIfInBounds_toArray, List.set_cons_zero, List.set_cons_succ, Go.Proofs.YtpbampnbgebpjaaW.PrintLast.i64_w, Go.Proofs.YtpbampnbgebpjaaW.PrintLast.i32_w]
    rfl
  refine Go.Proofs.YtpbampnbgebpjaaW.PrintLast.take_ (i := 13) (N := some 20) (v := ?_) (a' := ?_) #[true, true, true, true, true, true, true, false, false, true, true, true, true, true, false, false, false] rfl rfl (by kernel_rfl) (fun _ _ _ h => h) (Or.inl ⟨by rfl, ?_⟩) hHeld ?_ ?_
  rotate_left
  · rintro w' s0
    go_simp
    with_reducible rfl
  rotate_left
  · simp only [Act.put, List.setIfInBounds_toArray, List.set_cons_zero, List.set_cons_succ, Go.Proofs.YtpbampnbgebpjaaW.PrintLast.i64_w, Go.Proofs.YtpbampnbgebpjaaW.PrintLast.i32_w]
    rfl
  refine Go.Proofs.YtpbampnbgebpjaaW.PrintLast.pure_ (i := 14) (N := some 21) (v := ?_) (a' := ?_) #[true, true, true, true, true, true, true, false, false, true, true, true, true, true, true, false, false] rfl rfl (by kernel_rfl) (fun _ _ _ h => h) (Or.inl ⟨by rfl, ?_⟩) ?_ ?_
  rotate_left
  · intro w'
    go_simp
    with_reducible rfl
  rotate_left
  · simp only [Act.put, List.setIfInBounds_toArray, List.set_cons_zero, List.set_cons_succ, Go.Proofs.YtpbampnbgebpjaaW.PrintLast.i64_w, Go.Proofs.YtpbampnbgebpjaaW.PrintLast.i32_w]
    rfl
  refine Go.Proofs.YtpbampnbgebpjaaW.PrintLast.one_ (i := 7) (N := some 14) #[true, true, true, true, true, true, true, true, false, true, true, true, true, true, true, false, false] rfl rfl (by kernel_rfl) (by decide) (fun K hK => ?_)
  refine Go.Proofs.YtpbampnbgebpjaaW.PrintLast.goes_ Try.func14 (by kernel_rfl) rfl #[.pointer (some ⟨D, 0, none⟩)] (by rfl) rfl rfl (by (try simp only [List.map_toArray, List.map_cons, List.map_nil]); first | done | rfl) ?_
  refine (pending_any base _ D d (HI.out.below (Below.refl _ _).drew) HFit.out).mono ?_
  rintro e w2 ⟨he, nq, rfl⟩
  rw [HPE.out] at he
  subst he
  refine ⟨_, rfl, ?_⟩
  refine hK.out _ _ (by go_simp) (fun hHeld => ?_)
  clear hK K
  refine Go.Proofs.YtpbampnbgebpjaaW.PrintLast.norm_ (a' := ?_) ?_ ?_
  rotate_left
  · show Act.put _ (some 14) _ = _
    simp only [Act.put, List.setIfInBounds_toArray, List.set_cons_zero, List.set_cons_succ, Go.Proofs.YtpbampnbgebpjaaW.PrintLast.i64_w, Go.Proofs.YtpbampnbgebpjaaW.PrintLast.i32_w]
    rfl
  refine Go.Proofs.YtpbampnbgebpjaaW.PrintLast.pure_ (i := 8) (N := some 15) (v := ?_) (a' := ?_) #[true, true, true, true, true, true, true, true, true, true, true, true, true, true, true, false, false] rfl rfl (by kernel_rfl) (fun _ _ _ h => h) (Or.inl ⟨by rfl, ?_⟩) ?_ ?_
  rotate_left
  · intro w'
    go_simp
    with_reducible rfl
  rotate_left
  · simp only [Act.put, List.setIfInBounds_toArray, List.set_cons_zero, List.set_cons_succ, Go.Proofs.YtpbampnbgebpjaaW.PrintLast.i64_w, Go.Proofs.YtpbampnbgebpjaaW.PrintLast.i32_w]
    rfl
  refine Go.Proofs.YtpbampnbgebpjaaW.PrintLast.one_ (i := 15) (N := some 22) #[true, true, true, true, true, true, true, true, true, true, true, true, true, true, true, true, false] rfl rfl (by kernel_rfl) (by decide) (fun K hK => ?_)
  refine Go.Proofs.YtpbampnbgebpjaaW.PrintLast.goes_ Try.func27 (by kernel_rfl) rfl #[.pointer (some ⟨D, 0, none⟩), .int .i64 sf, .int .i64 m, .slice KA keep.length kc] (by rfl) rfl rfl (by (try simp only [List.map_toArray, List.map_cons, List.map_nil]); first | done | rfl) ?_
  refine (HLEFT.out _ (below_drewN (Below.refl _ _).drew _)).mono ?_
  rintro e w3 ⟨C, rfl, hi3, hb3⟩
  refine ⟨_, rfl, ?_⟩
  have HI3 := Lib.hid hi3
  have HB3 := Lib.hid hb3
  clear hi3 hb3
  refine hK.out _ _ ((HB3.out.cell (p := ⟨D, 3, none⟩) HDL.out).trans c3) (fun hHeld => ?_)
  clear hK K
  refine Go.Proofs.YtpbampnbgebpjaaW.PrintLast.norm_ (a' := ?_) ?_ ?_
  rotate_left
  · show Act.put _ (some 22) _ = _
    simp only [Act.put, List.setIfInBounds_toArray, List.set_cons_zero, List.set_cons_succ, Go.Proofs.YtpbampnbgebpjaaW.PrintLast.i64_w, Go.Proofs.YtpbampnbgebpjaaW.PrintLast.i32_w]
    rfl
  refine Go.Proofs.YtpbampnbgebpjaaW.PrintLast.pure_ (i := 16) (N := some 4) (v := ?_) (a' := ?_) #[true, true, true, true, true, true, true, true, true, true, true, true, true, true, true, true, true] rfl rfl (by kernel_rfl) (fun _ _ _ h => h) (Or.inl ⟨by rfl, ?_⟩) ?_ ?_
  rotate_left
  · intro w'
    go_simp
    with_reducible rfl
  rotate_left
  · simp only [Act.put, List.setIfInBounds_toArray, List.set_cons_zero, List.set_cons_succ, Go.Proofs.YtpbampnbgebpjaaW.PrintLast.i64_w, Go.Proofs.YtpbampnbgebpjaaW.PrintLast.i32_w]
    rfl
  refine Go.Proofs.YtpbampnbgebpjaaW.PrintLast.done_ (by kernel_rfl) ?_
  go_wp2
  go_ret
  exact ⟨C, rfl, HI3.out, HB3.out⟩
end Dk
end Go.Proofs.Ytpbampnbgebpjaa

namespace Go.Proofs.Ytpbampnbgebpjaa
open Go.RowKit Go.Proofs.YtpbampnbgebpjaaW.PrintWords Go.Proofs.YtpbampnbgebpjaaW.PrintLast
set_option linter.unusedVariables false
set_option linter.unusedSimpArgs false
namespace Dk

/-- behind how many writes -/
def upTo (d : Dsk) (n : Int) : Nat := (min n (d.log.length : Int)).toNat
theorem upTo_le (d : Dsk) (n : Int) : upTo d n ≤ d.log.length := by unfold upTo; omega
theorem upTo_eq (d : Dsk) (n : Int) : (upTo d n : Int) = max 0 (min n (d.log.length : Int)) := by unfold upTo; omega
/-- how many were safe then: what the last sync ahead tells -/
def safeAt (syncs : List Int) (n : Nat) : Nat → Nat
  | 0 => 0
  | k + 1 => if syncs.getD k 0 < (n : Int) then (syncs.getD k 0).toNat else safeAt syncs n k
theorem safeAt_le (syncs : List Int) (n : Nat) (h : ∀ s ∈ syncs, 0 ≤ s) : ∀ k, safeAt syncs n k ≤ n
  | 0 => Nat.zero_le _
  | k + 1 => by
    have ih := safeAt_le syncs n h k
    unfold safeAt
    split
    · omega
    · exact ih
set_option maxHeartbeats 1000000 in
set_option maxRecDepth 100000 in
theorem cutat_some (base : Nat) (w : World) (D : Nat) (d : Dsk) (n : Int) (KA : Option Addr) (kc : Nat) (keep : List Bool) (h : IsDk base w D d) (hf : d.Fit) (hpos : 0 < d.syncs.length) (hbw : base ≤ w.heap.size) (hN : 1 ≤ d.N ∧ d.N ≤ 4096)
    (hkl : keep.length ≤ 9223372036854775807) (hk : ∀ j, j < keep.length → ∃ a, KA = some a ∧ w.cell? (a.add j) = some (.bool (keep.getD j false))) :
    Calls Try.prog 17 #[.pointer (some ⟨D, 0, none⟩), .int .i64 n, .slice KA keep.length kc] w fun e w' => ∃ C, e = .returned (.pointer (some ⟨C, 0, none⟩)) ∧ IsDk base w' C (leftD d (safeAt d.syncs (upTo d n) d.syncs.length) (upTo d n) keep) ∧ Below w.heap.size w w' := by
  have HI := Lib.hid h
  have HFit := Lib.hid hf
  obtain ⟨F, M, lv, sv, hd⟩ := h
  obtain ⟨vs, l1, l2, l3⟩ := hd.hL
  obtain ⟨la, lc, rfl⟩ := own_slice l3
  obtain ⟨_, _, _, c3, c4⟩ := hd.cells
  have hsa := safeAt_le d.syncs (upTo d n) (fun s hs => (hf.2.2 s hs).1) d.syncs.length
  have HLEFT := Lib.hid (show ∀ w2 (y x : Int), y = (safeAt d.syncs (upTo d n) d.syncs.length : Nat) → x = (upTo d n : Nat) → Below w.heap.size w w2 → Calls Try.prog 27 #[.pointer (some ⟨D, 0, none⟩), .int .i64 y, .int .i64 x, .slice KA keep.length kc] w2 fun e w' => ∃ C, e = .returned (.pointer (some ⟨C, 0, none⟩)) ∧ IsDk base w' C (leftD d (safeAt d.syncs (upTo d n) d.syncs.length) (upTo d n) keep) ∧ Below w.heap.size w w' from fun w2 y x hy hx hb => by
    subst hy hx
    exact (left_any base w2 D d _ _ KA kc keep (HI.out.below hb) hf (Nat.le_trans hbw hb.size) hN hsa (upTo_le d n) hkl (fun j hj => by
      obtain ⟨a, e, hc⟩ := hk j hj
      exact ⟨a, e, (hb.cell (p := a.add j) (World.block_lt_of_cell? w _ hc)).trans hc⟩)).mono fun e w' ⟨C, q1, q2, q3⟩ => ⟨C, q1, q2, hb.trans (q3.mono hb.size)⟩)
  have hm := hf.1
  have hsl := hf.2.1
  obtain ⟨g, sc, rfl, _, _⟩ := sync_cell hd 0 hpos
  have HSC := Lib.hid (show ∀ i (hi : i < d.syncs.length), w.cell? ⟨g, i, none⟩ = some (.int .i64 d.syncs[i]) from fun i hi => by
    obtain ⟨g', c', e, _, hc⟩ := sync_cell hd i hi
    cases e
    exact hc)
  have hu := upTo_eq d n
  have HP0 := Lib.hid (show ∀ i (hi : i < d.syncs.length), 0 ≤ d.syncs[i] from fun i hi => (hf.2.2 _ (List.getElem_mem hi)).1)
  generalize upTo d n = u at *
  clear l1 l2 l3 hd hkl hk hbw hN hf hsa
  generalize d.log.length = m at *
  rcases (by omega : ((m : Int) < n ∧ 0 < (m : Int) ∧ u = m) ∨ ((m : Int) < n ∧ (m : Int) ≤ 0 ∧ u = 0) ∨ (n ≤ (m : Int) ∧ 0 < n ∧ n = (u : Int)) ∨ (n ≤ (m : Int) ∧ n ≤ 0 ∧ u = 0)) with ⟨t1, t2, t3⟩ | ⟨t1, t2, t3⟩ | ⟨t1, t2, t3⟩ | ⟨t1, t2, t3⟩
  · clear hu
    subst t3
    have hum : u ≤ 1000000 := by omega
    go_enter Try.func17, Try.ntmps17
    go_wp2_with fail
    go_loop [7, 25] (fun sf i => ∃ k : Nat, k ≤ d.syncs.length ∧ i = .int .i64 k ∧ sf = .int .i64 (safeAt d.syncs u k : Nat)) (fun _ i => d.syncs.length - (intOf i).toNat)
    case atStart => exact ⟨0, Nat.zero_le _, rfl, rfl⟩
    case round =>
      obtain ⟨k, hk, rfl, rfl⟩ := hrel
      by_cases hlt : k < d.syncs.length
      · have hcell := HSC.out k hlt
        have hps := HP0.out k hlt
        have HREC := Lib.hid (show safeAt d.syncs u (k + 1) = if d.syncs[k] < ((u : Nat) : Int) then d.syncs[k].toNat else safeAt d.syncs u k by simp [safeAt, List.getD_eq_getElem?_getD, hlt])
        generalize d.syncs[k] = s at *
        have q5 : decide (k < d.syncs.length) = true := decide_eq_true hlt
        by_cases hs : s < (u : Int)
        · have t5 : decide (s < (u : Int)) = true := decide_eq_true hs
          go_wp2_with fail
          go_round
          case rel => exact ⟨k + 1, by omega, by go_num, by rw [HREC.out, if_pos (by omega), Int.toNat_of_nonneg hps]⟩
          case measure => simp [intOf]; omega
        · have t5 : decide (s < (u : Int)) = false := decide_eq_false hs
          go_wp2_with fail
          go_round
          case rel => exact ⟨k + 1, by omega, by go_num, by rw [HREC.out, if_neg (by omega)]⟩
          case measure => simp [intOf]; omega
      · have ek : k = d.syncs.length := by omega
        subst ek
        go_wp2_with fail
        refine (HLEFT.out _ _ _ rfl (by omega) (Below.refl _ _)).mono ?_
        rintro e w3 ⟨C, rfl, hi3, hb3⟩
        have HI3 := Lib.hid hi3
        have HB3 := Lib.hid hb3
        clear hi3 hb3
        go_wp2
        go_ret
        exact ⟨C, rfl, HI3.out, HB3.out⟩

  · clear hu
    subst t3
    have hum : (0 : Nat) ≤ 1000000 := by omega
    go_enter Try.func17, Try.ntmps17
    go_wp2_with fail
    go_loop [7, 25] (fun sf i => ∃ k : Nat, k ≤ d.syncs.length ∧ i = .int .i64 k ∧ sf = .int .i64 (safeAt d.syncs (0 : Nat) k : Nat)) (fun _ i => d.syncs.length - (intOf i).toNat)
    case atStart => exact ⟨0, Nat.zero_le _, rfl, rfl⟩
    case round =>
      obtain ⟨k, hk, rfl, rfl⟩ := hrel
      by_cases hlt : k < d.syncs.length
      · have hcell := HSC.out k hlt
        have hps := HP0.out k hlt
        have HREC := Lib.hid (show safeAt d.syncs (0 : Nat) (k + 1) = if d.syncs[k] < (((0 : Nat) : Nat) : Int) then d.syncs[k].toNat else safeAt d.syncs (0 : Nat) k by simp [safeAt, List.getD_eq_getElem?_getD, hlt])
        generalize d.syncs[k] = s at *
        have q5 : decide (k < d.syncs.length) = true := decide_eq_true hlt
        by_cases hs : s < (0 : Int)
        · have t5 : decide (s < (0 : Int)) = true := decide_eq_true hs
          go_wp2_with fail
          go_round
          case rel => exact ⟨k + 1, by omega, by go_num, by rw [HREC.out, if_pos (by omega), Int.toNat_of_nonneg hps]⟩
          case measure => simp [intOf]; omega
        · have t5 : decide (s < (0 : Int)) = false := decide_eq_false hs
          go_wp2_with fail
          go_round
          case rel => exact ⟨k + 1, by omega, by go_num, by rw [HREC.out, if_neg (by omega)]⟩
          case measure => simp [intOf]; omega
      · have ek : k = d.syncs.length := by omega
        subst ek
        go_wp2_with fail
        refine (HLEFT.out _ _ _ rfl (by omega) (Below.refl _ _)).mono ?_
        rintro e w3 ⟨C, rfl, hi3, hb3⟩
        have HI3 := Lib.hid hi3
        have HB3 := Lib.hid hb3
        clear hi3 hb3
        go_wp2
        go_ret
        exact ⟨C, rfl, HI3.out, HB3.out⟩

  · clear hu
    subst t3
    have hum : u ≤ 1000000 := by omega
    go_enter Try.func17, Try.ntmps17
    go_wp2_with fail
    go_loop [7, 25] (fun sf i => ∃ k : Nat, k ≤ d.syncs.length ∧ i = .int .i64 k ∧ sf = .int .i64 (safeAt d.syncs u k : Nat)) (fun _ i => d.syncs.length - (intOf i).toNat)
    case atStart => exact ⟨0, Nat.zero_le _, rfl, rfl⟩
    case round =>
      obtain ⟨k, hk, rfl, rfl⟩ := hrel
      by_cases hlt : k < d.syncs.length
      · have hcell := HSC.out k hlt
        have hps := HP0.out k hlt
        have HREC := Lib.hid (show safeAt d.syncs u (k + 1) = if d.syncs[k] < ((u : Nat) : Int) then d.syncs[k].toNat else safeAt d.syncs u k by simp [safeAt, List.getD_eq_getElem?_getD, hlt])
        generalize d.syncs[k] = s at *
        have q5 : decide (k < d.syncs.length) = true := decide_eq_true hlt
        by_cases hs : s < (u : Int)
        · have t5 : decide (s < (u : Int)) = true := decide_eq_true hs
          go_wp2_with fail
          go_round
          case rel => exact ⟨k + 1, by omega, by go_num, by rw [HREC.out, if_pos (by omega), Int.toNat_of_nonneg hps]⟩
          case measure => simp [intOf]; omega
        · have t5 : decide (s < (u : Int)) = false := decide_eq_false hs
          go_wp2_with fail
          go_round
          case rel => exact ⟨k + 1, by omega, by go_num, by rw [HREC.out, if_neg (by omega)]⟩
          case measure => simp [intOf]; omega
      · have ek : k = d.syncs.length := by omega
        subst ek
        go_wp2_with fail
        refine (HLEFT.out _ _ _ rfl (by omega) (Below.refl _ _)).mono ?_
        rintro e w3 ⟨C, rfl, hi3, hb3⟩
        have HI3 := Lib.hid hi3
        have HB3 := Lib.hid hb3
        clear hi3 hb3
        go_wp2
        go_ret
        exact ⟨C, rfl, HI3.out, HB3.out⟩

  · clear hu
    subst t3
    have hum : (0 : Nat) ≤ 1000000 := by omega
    go_enter Try.func17, Try.ntmps17
    go_wp2_with fail
    go_loop [7, 25] (fun sf i => ∃ k : Nat, k ≤ d.syncs.length ∧ i = .int .i64 k ∧ sf = .int .i64 (safeAt d.syncs (0 : Nat) k : Nat)) (fun _ i => d.syncs.length - (intOf i).toNat)
    case atStart => exact ⟨0, Nat.zero_le _, rfl, rfl⟩
    case round =>
      obtain ⟨k, hk, rfl, rfl⟩ := hrel
      by_cases hlt : k < d.syncs.length
      · have hcell := HSC.out k hlt
        have hps := HP0.out k hlt
        have HREC := Lib.hid (show safeAt d.syncs (0 : Nat) (k + 1) = if d.syncs[k] < (((0 : Nat) : Nat) : Int) then d.syncs[k].toNat else safeAt d.syncs (0 : Nat) k by simp [safeAt, List.getD_eq_getElem?_getD, hlt])
        generalize d.syncs[k] = s at *
        have q5 : decide (k < d.syncs.length) = true := decide_eq_true hlt
        by_cases hs : s < (0 : Int)
        · have t5 : decide (s < (0 : Int)) = true := decide_eq_true hs
          go_wp2_with fail
          go_round
          case rel => exact ⟨k + 1, by omega, by go_num, by rw [HREC.out, if_pos (by omega), Int.toNat_of_nonneg hps]⟩
          case measure => simp [intOf]; omega
        · have t5 : decide (s < (0 : Int)) = false := decide_eq_false hs
          go_wp2_with fail
          go_round
          case rel => exact ⟨k + 1, by omega, by go_num, by rw [HREC.out, if_neg (by omega)]⟩
          case measure => simp [intOf]; omega
      · have ek : k = d.syncs.length := by omega
        subst ek
        go_wp2_with fail
        refine (HLEFT.out _ _ _ rfl (by omega) (Below.refl _ _)).mono ?_
        rintro e w3 ⟨C, rfl, hi3, hb3⟩
        have HI3 := Lib.hid hi3
        have HB3 := Lib.hid hb3
        clear hi3 hb3
        go_wp2
        go_ret
        exact ⟨C, rfl, HI3.out, HB3.out⟩
set_option maxHeartbeats 1000000 in
set_option maxRecDepth 100000 in
theorem cutat_none (base : Nat) (w : World) (D : Nat) (d : Dsk) (n : Int) (KA : Option Addr) (kc : Nat) (keep : List Bool) (h : IsDk base w D d) (hf : d.Fit) (hpos : d.syncs.length = 0) (hbw : base ≤ w.heap.size) (hN : 1 ≤ d.N ∧ d.N ≤ 4096)
    (hkl : keep.length ≤ 9223372036854775807) (hk : ∀ j, j < keep.length → ∃ a, KA = some a ∧ w.cell? (a.add j) = some (.bool (keep.getD j false))) :
    Calls Try.prog 17 #[.pointer (some ⟨D, 0, none⟩), .int .i64 n, .slice KA keep.length kc] w fun e w' => ∃ C, e = .returned (.pointer (some ⟨C, 0, none⟩)) ∧ IsDk base w' C (leftD d (safeAt d.syncs (upTo d n) d.syncs.length) (upTo d n) keep) ∧ Below w.heap.size w w' := by
  have HI := Lib.hid h
  have HFit := Lib.hid hf
  obtain ⟨F, M, lv, sv, hd⟩ := h
  obtain ⟨vs, l1, l2, l3⟩ := hd.hL
  obtain ⟨la, lc, rfl⟩ := own_slice l3
  obtain ⟨_, _, _, c3, c4⟩ := hd.cells
  have hsa := safeAt_le d.syncs (upTo d n) (fun s hs => (hf.2.2 s hs).1) d.syncs.length
  have HLEFT := Lib.hid (show ∀ w2 (y x : Int), y = (safeAt d.syncs (upTo d n) d.syncs.length : Nat) → x = (upTo d n : Nat) → Below w.heap.size w w2 → Calls Try.prog 27 #[.pointer (some ⟨D, 0, none⟩), .int .i64 y, .int .i64 x, .slice KA keep.length kc] w2 fun e w' => ∃ C, e = .returned (.pointer (some ⟨C, 0, none⟩)) ∧ IsDk base w' C (leftD d (safeAt d.syncs (upTo d n) d.syncs.length) (upTo d n) keep) ∧ Below w.heap.size w w' from fun w2 y x hy hx hb => by
    subst hy hx
    exact (left_any base w2 D d _ _ KA kc keep (HI.out.below hb) hf (Nat.le_trans hbw hb.size) hN hsa (upTo_le d n) hkl (fun j hj => by
      obtain ⟨a, e, hc⟩ := hk j hj
      exact ⟨a, e, (hb.cell (p := a.add j) (World.block_lt_of_cell? w _ hc)).trans hc⟩)).mono fun e w' ⟨C, q1, q2, q3⟩ => ⟨C, q1, q2, hb.trans (q3.mono hb.size)⟩)
  have hm := hf.1
  have hsl := hf.2.1
  obtain ⟨sa, sc, rfl⟩ := own_slice hd.hS
  have HZ := Lib.hid hpos
  clear hpos
  have hu := upTo_eq d n
  have HP0 := Lib.hid (show ∀ i (hi : i < d.syncs.length), 0 ≤ d.syncs[i] from fun i hi => (hf.2.2 _ (List.getElem_mem hi)).1)
  generalize upTo d n = u at *
  clear l1 l2 l3 hd hkl hk hbw hN hf hsa
  generalize d.log.length = m at *
  rcases (by omega : ((m : Int) < n ∧ 0 < (m : Int) ∧ u = m) ∨ ((m : Int) < n ∧ (m : Int) ≤ 0 ∧ u = 0) ∨ (n ≤ (m : Int) ∧ 0 < n ∧ n = (u : Int)) ∨ (n ≤ (m : Int) ∧ n ≤ 0 ∧ u = 0)) with ⟨t1, t2, t3⟩ | ⟨t1, t2, t3⟩ | ⟨t1, t2, t3⟩ | ⟨t1, t2, t3⟩
  · clear hu
    subst t3
    have hum : u ≤ 1000000 := by omega
    go_enter Try.func17, Try.ntmps17
    go_wp2_with fail
    go_loop [7, 25] (fun sf i => ∃ k : Nat, k ≤ d.syncs.length ∧ i = .int .i64 k ∧ sf = .int .i64 (safeAt d.syncs u k : Nat)) (fun _ i => d.syncs.length - (intOf i).toNat)
    case atStart => exact ⟨0, Nat.zero_le _, rfl, rfl⟩
    case round =>
      obtain ⟨k, hk, rfl, rfl⟩ := hrel
      by_cases hlt : k < d.syncs.length
      · exact absurd hlt (by rw [HZ.out]; exact Nat.not_lt_zero _)
      · have ek : k = d.syncs.length := by omega
        subst ek
        go_wp2_with fail
        refine (HLEFT.out _ _ _ rfl (by omega) (Below.refl _ _)).mono ?_
        rintro e w3 ⟨C, rfl, hi3, hb3⟩
        have HI3 := Lib.hid hi3
        have HB3 := Lib.hid hb3
        clear hi3 hb3
        go_wp2
        go_ret
        exact ⟨C, rfl, HI3.out, HB3.out⟩

  · clear hu
    subst t3
    have hum : (0 : Nat) ≤ 1000000 := by omega
    go_enter Try.func17, Try.ntmps17
    go_wp2_with fail
    go_loop [7, 25] (fun sf i => ∃ k : Nat, k ≤ d.syncs.length ∧ i = .int .i64 k ∧ sf = .int .i64 (safeAt d.syncs (0 : Nat) k : Nat)) (fun _ i => d.syncs.length - (intOf i).toNat)
    case atStart => exact ⟨0, Nat.zero_le _, rfl, rfl⟩
    case round =>
      obtain ⟨k, hk, rfl, rfl⟩ := hrel
      by_cases hlt : k < d.syncs.length
      · exact absurd hlt (by rw [HZ.out]; exact Nat.not_lt_zero _)
      · have ek : k = d.syncs.length := by omega
        subst ek
        go_wp2_with fail
        refine (HLEFT.out _ _ _ rfl (by omega) (Below.refl _ _)).mono ?_
        rintro e w3 ⟨C, rfl, hi3, hb3⟩
        have HI3 := Lib.hid hi3
        have HB3 := Lib.hid hb3
        clear hi3 hb3
        go_wp2
        go_ret
        exact ⟨C, rfl, HI3.out, HB3.out⟩

  · clear hu
    subst t3
    have hum : u ≤ 1000000 := by omega
    go_enter Try.func17, Try.ntmps17
    go_wp2_with fail
    go_loop [7, 25] (fun sf i => ∃ k : Nat, k ≤ d.syncs.length ∧ i = .int .i64 k ∧ sf = .int .i64 (safeAt d.syncs u k : Nat)) (fun _ i => d.syncs.length - (intOf i).toNat)
    case atStart => exact ⟨0, Nat.zero_le _, rfl, rfl⟩
    case round =>
      obtain ⟨k, hk, rfl, rfl⟩ := hrel
      by_cases hlt : k < d.syncs.length
      · exact absurd hlt (by rw [HZ.out]; exact Nat.not_lt_zero _)
      · have ek : k = d.syncs.length := by omega
        subst ek
        go_wp2_with fail
        refine (HLEFT.out _ _ _ rfl (by omega) (Below.refl _ _)).mono ?_
        rintro e w3 ⟨C, rfl, hi3, hb3⟩
        have HI3 := Lib.hid hi3
        have HB3 := Lib.hid hb3
        clear hi3 hb3
        go_wp2
        go_ret
        exact ⟨C, rfl, HI3.out, HB3.out⟩

  · clear hu
    subst t3
    have hum : (0 : Nat) ≤ 1000000 := by omega
    go_enter Try.func17, Try.ntmps17
    go_wp2_with fail
    go_loop [7, 25] (fun sf i => ∃ k : Nat, k ≤ d.syncs.length ∧ i = .int .i64 k ∧ sf = .int .i64 (safeAt d.syncs (0 : Nat) k : Nat)) (fun _ i => d.syncs.length - (intOf i).toNat)
    case atStart => exact ⟨0, Nat.zero_le _, rfl, rfl⟩
    case round =>
      obtain ⟨k, hk, rfl, rfl⟩ := hrel
      by_cases hlt : k < d.syncs.length
      · exact absurd hlt (by rw [HZ.out]; exact Nat.not_lt_zero _)
      · have ek : k = d.syncs.length := by omega
        subst ek
        go_wp2_with fail
        refine (HLEFT.out _ _ _ rfl (by omega) (Below.refl _ _)).mono ?_
        rintro e w3 ⟨C, rfl, hi3, hb3⟩
        have HI3 := Lib.hid hi3
        have HB3 := Lib.hid hb3
        clear hi3 hb3
        go_wp2
        go_ret
        exact ⟨C, rfl, HI3.out, HB3.out⟩
theorem cutat_any (base : Nat) (w : World) (D : Nat) (d : Dsk) (n : Int) (KA : Option Addr) (kc : Nat) (keep : List Bool) (h : IsDk base w D d) (hf : d.Fit) (hbw : base ≤ w.heap.size) (hN : 1 ≤ d.N ∧ d.N ≤ 4096)
    (hkl : keep.length ≤ 9223372036854775807) (hk : ∀ j, j < keep.length → ∃ a, KA = some a ∧ w.cell? (a.add j) = some (.bool (keep.getD j false))) :
    Calls Try.prog 17 #[.pointer (some ⟨D, 0, none⟩), .int .i64 n, .slice KA keep.length kc] w fun e w' => ∃ C, e = .returned (.pointer (some ⟨C, 0, none⟩)) ∧ IsDk base w' C (leftD d (safeAt d.syncs (upTo d n) d.syncs.length) (upTo d n) keep) ∧ Below w.heap.size w w' := by
  by_cases hp : 0 < d.syncs.length
  · exact cutat_some base w D d n KA kc keep h hf hp hbw hN hkl hk
  · exact cutat_none base w D d n KA kc keep h hf (by omega) hbw hN hkl hk
end Dk
end Go.Proofs.Ytpbampnbgebpjaa

namespace Go.Proofs.Ytpbampnbgebpjaa
open Go.RowKit Go.Proofs.YtpbampnbgebpjaaW.PrintWords Go.Proofs.YtpbampnbgebpjaaW.PrintLast
set_option linter.unusedVariables false
set_option linter.unusedSimpArgs false
namespace Dk

theorem new_dk (base : Nat) (n : Int) (w : World) (hb : base ≤ w.heap.size) (h0 : 1 ≤ n) (h1 : n ≤ 4096) : Calls Try.prog 7 #[.int .i64 n] w fun e w' => ∃ D, e = .returned (.tuple #[.pointer (some ⟨D, 0, none⟩), .int .i64 0]) ∧ IsDk base w' D (Dsk.new n) ∧ Below w.heap.size w w' := by
  refine (new_abs n w h0 h1).mono fun e w' ⟨he, hbl, hz, m0, m1, hC⟩ => ⟨_, he, ?_, hbl⟩
  exact ⟨w.heap.size, w.heap.size + 1, .slice none 0 0, .slice none 0 0, ⟨by omega, hb, by omega, by omega, hC, ⟨#[], 0, m0, (by intro e he; simp at he), fun k => Byts.nil _⟩, ⟨#[], 0, m1, (by intro e he; simp at he), fun k => Byts.nil _⟩, ⟨[], rfl, (by intro p hp; simp [Dsk.new] at hp), World.ownsRow_nil _ _ _ _⟩, World.ownsRow_nil _ _ _ _⟩⟩
theorem row_open {w : World} {base : Nat} {v : Value} {l : List Int} (h : w.ownsRow base 5 1 v 128 (l.map (Value.int .u8))) : ∃ g c, v = .slice (some ⟨g, 0, none⟩) 128 c ∧ base ≤ g ∧ 128 ≤ c ∧ (∃ cur, w.heap[g]? = some (.cells cur 5 (0, 0))) ∧ ∀ i, i < 128 → w.cell? ⟨g, i, none⟩ = some (.int .u8 (l.getD i 0)) := by
  have hl : l.length = 128 := by have := h.1; rw [List.length_map] at this; omega
  rcases h.2 with ⟨_, q⟩ | ⟨g, cap, cur, q, q2, q3, q4, q5⟩
  · omega
  · refine ⟨g, cap, q, q2, q4, ⟨cur, q3⟩, fun i hi => ?_⟩
    have hc := World.ownsRow.cells h (g := g) (by rw [q]; rfl) i (.int .u8 (l.getD i 0)) (by rw [List.getElem?_map, List.getElem?_eq_getElem (by omega), List.getD_eq_getElem?_getD, List.getElem?_eq_getElem (by omega)]; rfl)
    rw [show (⟨g, 0, none⟩ : Addr).add i = ⟨g, i, none⟩ by unfold Addr.add; split <;> simp_all] at hc
    exact hc
def aD1 : Dsk := { Dsk.new 4 with now := fun k => if k = 1 then [97, 98] else (Dsk.new 4).now k, log := (Dsk.new 4).log ++ [(1, [97, 98])] }
def aD2 : Dsk := { aD1 with syncs := aD1.syncs ++ [(aD1.log.length : Int)] }
def aD3 : Dsk := { aD2 with now := fun k => if k = 1 then [99, 100] else aD2.now k, log := aD2.log ++ [(1, [99, 100])] }
theorem cell_fr {w : World} {D i : Nat} {cs : Array Value} {t : TypeId} {v : Value} {fr : Nat × Nat} (h : w.heap[D]? = some (.cells cs t fr)) (h4 : cs[i]? = some v) : w.cell? ⟨D, i, none⟩ = some v := by simp [World.cell?, h, h4]
theorem two_cells (w : World) (a b : Int) : ∀ i, i < 2 → ∃ ad, (some ⟨w.heap.size, 0, none⟩ : Option Addr) = some ad ∧ (w.alloc (.cells #[.int .u8 a, .int .u8 b] 5 (2, 3))).cell? (ad.add i) = some (.int .u8 ([a, b].getD i 0)) := by
  intro i hi
  refine ⟨_, rfl, ?_⟩
  rw [show (⟨w.heap.size, 0, none⟩ : Addr).add i = ⟨w.heap.size, i, none⟩ by unfold Addr.add; split <;> simp_all]
  rcases (by omega : i = 0 ∨ i = 1) with rfl | rfl
  · exact cell_fr (World.alloc_heap_new _ _) rfl
  · exact cell_fr (World.alloc_heap_new _ _) rfl
set_option maxHeartbeats 2000000 in
set_option maxRecDepth 100000 in
theorem alive_any (w : World) : Calls Try.prog 8 #[] w fun e w' => e = .returned (.bool true) ∧ Below w.heap.size w w' := by
  have hcv := fun (w : World) (C : Array Value) (n c : Nat) => Lib.run_convert_bytes_const (P := Try.prog) w 30 5 C n c Try.underlying30 Try.underlying5
  go_enter Try.func8, Try.ntmps8
  go_wp2_with fail
  refine (new_dk w.heap.size 4 _ (Nat.le_refl _) (by decide) (by decide)).mono ?_
  rintro e w1 ⟨D, rfl, hi1, hb1⟩
  have HI1 := Lib.hid hi1
  have HB1 := Lib.hid hb1
  clear hi1 hb1
  go_wp2_with fail
  refine (write_any w.heap.size _ D (Dsk.new 4) 1 _ 2 2 [97, 98] (HI1.out.below ((Below.refl _ _).alloc (Nat.le_refl _) _)) (by decide) (by have := HB1.out.size; simp; omega) (by decide) (by decide) rfl (by decide) (by intro c hc; simp at hc; omega) (two_cells _ _ _)).mono ?_
  rintro e w2 ⟨rfl, hi2, hc2⟩
  have HI2 := Lib.hid (show IsDk w.heap.size w2 D aD1 from hi2)
  have HC2 := Lib.hid (show Chg w.heap.size DK w w2 from ((Chg.of_below HB1.out (Nat.le_refl _)).trans (Chg.of_below ((Below.refl _ _).alloc (Nat.le_refl _) _) HB1.out.size)).trans hc2)
  clear hi2 hc2
  go_wp2_with fail
  refine (sync_any w.heap.size _ D aD1 HI2.out (by decide) HC2.out.size).mono ?_
  rintro e w3 ⟨rfl, hi3, hc3⟩
  have HI3 := Lib.hid (show IsDk w.heap.size w3 D aD2 from hi3)
  have HC3 := Lib.hid (show Chg w.heap.size DK w w3 from HC2.out.trans hc3)
  clear hi3 hc3
  go_wp2_with fail
  refine (write_any w.heap.size _ D aD2 1 _ 2 2 [99, 100] (HI3.out.below ((Below.refl _ _).alloc (Nat.le_refl _) _)) (by decide) (by have := HC3.out.size; simp; omega) (by decide) (by decide) rfl (by decide) (by intro c hc; simp at hc; omega) (two_cells _ _ _)).mono ?_
  rintro e w4 ⟨rfl, hi4, hc4⟩
  have HI4 := Lib.hid (show IsDk w.heap.size w4 D aD3 from hi4)
  have HC4 := Lib.hid (show Chg w.heap.size DK w w4 from (HC3.out.trans (Chg.of_below ((Below.refl _ _).alloc (Nat.le_refl _) _) HC3.out.size)).trans hc4)
  clear hi4 hc4
  have hfit : aD3.Fit := by refine ⟨by decide, by decide, ?_⟩; intro s hs; simp [aD3, aD2, aD1, Dsk.new] at hs ⊢; omega
  have HFit := Lib.hid hfit
  clear hfit
  go_wp2_with fail
  refine (cut_any w.heap.size _ D aD3 none 0 [] HI4.out HFit.out HC4.out.size (by decide) (by decide) (fun j hj => by simp at hj)).mono ?_
  rintro e w5 ⟨C, rfl, hi5, hb5⟩
  have HI5 := Lib.hid hi5
  have HB5 := Lib.hid hb5
  clear hi5 hb5
  go_wp2_with fail
  refine (read_yes w.heap.size _ C 1 _ HI5.out (by decide) (by decide) (by decide)).mono ?_
  rintro e w6 ⟨v, rfl, hv6, hb6⟩
  obtain ⟨g6, c6, rfl, _, _, _, hg6⟩ := row_open hv6
  have hg60 := hg6 0 (by decide)
  have e6 : (full ((leftD aD3 (safeOf aD3) aD3.log.length []).now 1)).getD 0 0 = 97 := by decide +kernel
  rw [e6] at hg60
  have HB6 := Lib.hid hb6
  clear hb6 hv6 hg6 e6
  have hI6 := HI4.out.below (HB5.out.trans (HB6.out.mono HB5.out.size))
  have HI6 := Lib.hid hI6
  clear hI6
  go_wp2_with fail
  refine (read_yes w.heap.size _ D 1 _ HI6.out (by decide) (by decide) (by decide)).mono ?_
  rintro e w7 ⟨v, rfl, hv7, hb7⟩
  obtain ⟨g7, c7, rfl, _, _, _, hg7⟩ := row_open hv7
  have hg70 := hg7 0 (by decide)
  have e7 : (full (aD3.now 1)).getD 0 0 = 99 := by decide +kernel
  rw [e7] at hg70
  have hg61 := (hb7.cell (p := ⟨g6, 0, none⟩) (World.block_lt_of_cell? w6 _ hg60)).trans hg60
  have HB7 := Lib.hid hb7
  have HI7 := Lib.hid (HI6.out.below hb7)
  clear hb7 hv7 hg7 e7 hg60
  have hpe : pend aD3 = 1 := by decide +kernel
  have HPE := Lib.hid hpe
  clear hpe
  go_wp2_with (go_at_call 14; refine (pending_any w.heap.size _ D aD3 HI7.out HFit.out).mono ?_; rintro e w8 ⟨he, n8, rfl⟩; rw [HPE.out] at he; subst he)
  go_ret
  refine ⟨rfl, ?_⟩
  have hb := ((HB5.out.trans (HB6.out.mono HB5.out.size)).trans (HB7.out.mono (HB5.out.trans (HB6.out.mono HB5.out.size)).size))
  exact below_drewN (HC4.out.below.trans (hb.mono HC4.out.size)) _
set_option maxHeartbeats 2000000 in
set_option maxRecDepth 100000 in
theorem diskNil_walk (i : Int) (v : Value) (w : World) : Calls Try.prog 6 #[.int .i64 i, v] w fun e w' => e = .returned (.bool true) ∧ Below w.heap.size w w' := by
  go_enter Try.func6, Try.ntmps6
  go_wp2_with (first | (go_at_call 10; refine (sync_nil _).mono ?_; rintro e w' ⟨rfl, rfl⟩) | (go_at_call 11; refine (read_nil _ _).mono ?_; rintro e w' ⟨rfl, rfl⟩))
  refine (alive_any _).mono ?_
  rintro e w1 ⟨rfl, hb1⟩
  have HB1 := Lib.hid hb1
  clear hb1
  go_wp2_with (first | (go_at_call 9; refine (write_nil _ _ _).mono ?_; rintro e w' ⟨rfl, rfl⟩) | (go_at_call 24; refine (size_nil _).mono ?_; rintro e w' ⟨rfl, rfl⟩) | (go_at_call 14; refine (pending_nil _).mono ?_; rintro e w' ⟨rfl, rfl⟩) | (go_at_call 16; refine (writes_nil _).mono ?_; rintro e w' ⟨rfl, rfl⟩) | (go_at_call 13; refine (cut_nil _ _).mono ?_; rintro e w' ⟨rfl, rfl⟩) | (go_at_call 17; refine (cutat_nil _ _ _).mono ?_; rintro e w' ⟨rfl, rfl⟩))
  go_ret
  exact ⟨rfl, HB1.out⟩
end Dk
end Go.Proofs.Ytpbampnbgebpjaa

namespace Go.Proofs.Ytpbampnbgebpjaa
open Go.RowKit Go.ChangeShapes Go.WideShapes Go.Deep Go.Proofs.YtpbampnbgebpjaaW.PrintWords
set_option linter.unusedVariables false
set_option linter.unusedSimpArgs false
namespace Dk
section
variable {H : Type} {enc : TypeId × Value → H} {P : Program} {w : World} {base : Nat} {spare : Nat → Bool} {held : Bool}
theorem open_slice_fields {t e : TypeId} {fs : Array Field} {fuel : Nat} {cs : List Value} {x : DataW H × List MemPlace} (ht : P.underlying t = some (.slice e)) (he : P.underlying e = some (.struct fs))
    (hone : oneCellFields P fs = true) (hC : P.cellsOf e = fs.size) (h : DataW.trod enc P w base spare held fuel t cs = some x) :
    (cs = [.slice none 0 0] ∧ x = (.nil, [])) ∨
    ∃ (a : Addr) (len cap m : Nat) (D : Nat → DataW H) (Pl : Nat → List MemPlace), cs = [.slice (some a) len cap] ∧ base ≤ a.block ∧ len ≤ cap ∧ cap ≤ maxLen ∧ m = (if spare a.block then cap else len) ∧
      x = (.slice ((List.range len).map D) ((List.range (m - len)).map fun j => D (len + j)), MemPlace.row a (m * fs.size) ++ (List.range m).flatMap Pl) ∧
      ∀ i, i < m → ∃ (ys : List (DataW H × List MemPlace)) (n : Nat), D i = .agg (ys.map (·.1)) ∧ Pl i = ys.flatMap (·.2) ∧ ys.length = fs.size ∧
        ∀ (j : Nat) (f : Field), fs[j]? = some f → ∃ (v : Value) (y : DataW H × List MemPlace), w.cell? (a.add (i * fs.size + j)) = some v ∧ ys[j]? = some y ∧ DataW.trod enc P w base spare held n f.type [v] = some y := by
  rcases open_slice ht h with h0 | ⟨a, len, cap, m, n, D, Pl, hcs, hb, hl, hm, hmm, hx, hi⟩
  · exact .inl h0
  · refine .inr ⟨a, len, cap, m, D, Pl, hcs, hb, hl, hm, hmm, by rw [hC] at hx; exact hx, fun i him => ?_⟩
    obtain ⟨cs', hc, ht'⟩ := hi i him
    rw [hC] at hc
    obtain ⟨ys, n', hn', hy, hlen, hyl, hf⟩ := DataW.trod_struct he ht'
    obtain ⟨_, hcl, hat⟩ := World.cells?_some hc
    simp only [Prod.mk.injEq] at hy
    refine ⟨ys, n', hy.1, hy.2, hyl, fun j f hj => ?_⟩
    obtain ⟨ho, hk⟩ := hone_of hone j f hj
    have hjl : j < fs.size := (Array.getElem?_eq_some_iff.1 hj).1
    have hcell := hat j hjl
    have hv : cs'[j]? = some (cs'[j]'(by omega)) := List.getElem?_eq_getElem (by omega)
    have h1 := hf j f hj
    rw [ho, hk] at h1
    have hone' : (cs'.drop j).take 1 = [cs'[j]'(by omega)] := by
      rw [List.drop_eq_getElem_cons (by omega)]
      rfl
    rw [hone'] at h1
    have hys : ys[j]? = some (ys[j]'(by omega)) := List.getElem?_eq_getElem (by omega)
    refine ⟨_, _, ?_, hys, h1.trans hys⟩
    rw [← Go.Deep.add_add, hcell, hv]
end

def BytesIn (w : World) (v : Value) (l : List Int) : Prop := ∃ (a : Option Addr) (c : Nat), v = .slice a l.length c ∧ IsBy l ∧ l.length ≤ 9223372036854775807 ∧ ∀ j, j < l.length → ∃ ad, a = some ad ∧ w.cell? (ad.add j) = some (.int .u8 (l.getD j 0))
def BoolsIn (w : World) (v : Value) (l : List Bool) : Prop := ∃ (a : Option Addr) (c : Nat), v = .slice a l.length c ∧ l.length ≤ 9223372036854775807 ∧ ∀ j, j < l.length → ∃ ad, a = some ad ∧ w.cell? (ad.add j) = some (.bool (l.getD j false))
theorem bytes_in {H : Type} {enc : TypeId × Value → H} {w : World} {base : Nat} {spare : Nat → Bool} {held : Bool} {v : Value} {x : DataW H × List MemPlace} {fuel : Nat} (hf : DataW.trod enc Try.prog w base spare held fuel 30 [v] = some x) : ∃ l, BytesIn w v l := by
  rcases open_ints Try.underlying30 Try.underlying5 (by kernel_rfl) hf with ⟨hcs, _⟩ | ⟨a, len, c, zs, hcs, _, hl, hm, hz, _, hcell, hwz⟩
  · cases hcs
    exact ⟨[], none, 0, rfl, (fun c hc => by simp at hc), by simp, fun j hj => by simp at hj⟩
  · cases hcs
    have hl2 : len ≤ zs.length := by
      rw [hz]
      split
      · exact hl
      · exact Nat.le_refl _
    have hlen : (zs.take len).length = len := by rw [List.length_take]; omega
    refine ⟨zs.take len, some a, c, by rw [hlen], ?_, by rw [hlen]; unfold maxLen at hm; omega, fun j hj => ⟨a, rfl, ?_⟩⟩
    · intro q hq
      have := hwz q (List.mem_of_mem_take hq)
      simp [Lit.wf, IntKind.min, IntKind.max, IntKind.bits, IntKind.signed] at this
      omega
    · rw [hlen] at hj
      have h1 := hcell j (by omega)
      simp only [List.getD_eq_getElem?_getD, List.getElem?_take, if_pos hj] at h1 ⊢
      exact h1
theorem bools_in {H : Type} {enc : TypeId × Value → H} {w : World} {base : Nat} {held : Bool} {v : Value} {x : DataW H × List MemPlace} {fuel : Nat} (hf : DataW.trod enc Try.prog w base (fun _ => true) held fuel 23 [v] = some x) : ∃ l, BoolsIn w v l := by
  rcases open_bools Try.underlying23 Try.underlying4 (by kernel_rfl) hf with ⟨hcs, _⟩ | ⟨a, len, c, B, hcs, _, hl, hm, _, hcell⟩
  · cases hcs
    exact ⟨[], none, 0, rfl, by simp, fun j hj => by simp at hj⟩
  · cases hcs
    have hlen : ((List.range len).map B).length = len := by simp
    refine ⟨(List.range len).map B, some a, c, by rw [hlen], by rw [hlen]; unfold maxLen at hm; omega, fun j hj => ⟨a, rfl, ?_⟩⟩
    rw [hlen] at hj
    have h1 := hcell j (by omega)
    rw [h1]
    simp [List.getD_eq_getElem?_getD, List.getElem?_range, hj]
structure Op5 where
  k : Int
  i : Int
  bv : Value
  b : List Int
  kv : Value
  keep : List Bool
/-- an act of a script lies at an address -/
def OpAt (w : World) (ad : Addr) (x : Op5) : Prop := w.cell? ad = some (.int .i64 x.k) ∧ w.cell? ⟨ad.block, ad.off + 1, none⟩ = some (.int .i64 x.i) ∧ w.cell? ⟨ad.block, ad.off + 2, none⟩ = some x.bv ∧ w.cell? ⟨ad.block, ad.off + 3, none⟩ = some x.kv ∧ BytesIn w x.bv x.b ∧ BoolsIn w x.kv x.keep
def OpsIn (w : World) (v : Value) (l : List Op5) : Prop := ∃ (a : Option Addr) (c : Nat), v = .slice a l.length c ∧ l.length ≤ 9223372036854775807 ∧ ∀ j (hj : j < l.length), ∃ ad, a = some ad ∧ OpAt w (ad.add (j * 4)) l[j]
theorem add_fld (a : Addr) (n j : Nat) (h : 0 < j) : a.add (n + j) = ⟨(a.add n).block, (a.add n).off + j, none⟩ := by
  unfold Addr.add
  by_cases hn : n = 0
  · subst hn
    simp [show ¬ j = 0 by omega]
  · simp [hn, show ¬ n + j = 0 by omega]
    omega
theorem ops_in {H : Type} {enc : TypeId × Value → H} {w : World} {base : Nat} {held : Bool} {v : Value} {x : DataW H × List MemPlace} {fuel : Nat} (hf : DataW.trod enc Try.prog w base (fun _ => true) held fuel 22 [v] = some x) : ∃ l, OpsIn w v l := by
  rcases open_slice_fields Try.underlying22 Try.underlying32 (by kernel_rfl) (by kernel_rfl) hf with ⟨hc, hx⟩ | ⟨a, len, cap, m, D, Pl, hc, hb, hl, hm, hmm, hx, hi⟩
  · cases hc
    exact ⟨[], none, 0, rfl, by simp, fun j hj => by simp at hj⟩
  · cases hc
    have hex : ∀ i, i < len → ∃ x : Op5, OpAt w (a.add (i * 4)) x := by
      intro i hil
      obtain ⟨ys, n, hD, hP, hyl, hfl⟩ := hi i (by rw [hmm]; simp; omega)
      obtain ⟨v0, y0, c0, g0, t0⟩ := hfl 0 _ rfl
      obtain ⟨v1, y1, c1, g1, t1⟩ := hfl 1 _ rfl
      obtain ⟨v2, y2, c2, g2, t2⟩ := hfl 2 _ rfl
      obtain ⟨v3, y3, c3, g3, t3⟩ := hfl 3 _ rfl
      obtain ⟨s0, e0, z0, b0⟩ := DataW.trod_int Try.underlying3 t0
      obtain ⟨s1, e1, z1, b1⟩ := DataW.trod_int Try.underlying3 t1
      simp only [List.cons.injEq, and_true] at e0 e1
      subst e0 e1
      obtain ⟨b, hb2⟩ := bytes_in t2
      obtain ⟨k, hk⟩ := bools_in t3
      refine ⟨⟨s0, s1, v2, b, v3, k⟩, c0, ?_, ?_, ?_, hb2, hk⟩
      · rw [← add_fld _ _ 1 (by omega)]; exact c1
      · rw [← add_fld _ _ 2 (by omega)]; exact c2
      · rw [← add_fld _ _ 3 (by omega)]; exact c3
    let g : Nat → Op5 := fun i => if q : i < len then (hex i q).choose else ⟨0, 0, .nilIface, [], .nilIface, []⟩
    have hg : ∀ i, i < len → OpAt w (a.add (i * 4)) (g i) := by
      intro i q
      simp only [g, dif_pos q]
      exact (hex i q).choose_spec
    have hlen : ((List.range len).map g).length = len := by simp
    refine ⟨(List.range len).map g, some a, cap, by rw [hlen], by rw [hlen]; unfold maxLen at hm; omega, fun j hj => ⟨a, rfl, ?_⟩⟩
    rw [hlen] at hj
    simp only [List.getElem_map, List.getElem_range]
    exact hg j hj
theorem same_any (w : World) (v1 v2 : Value) (n1 n2 b1 b2 : Nat) (l1 l2 : List Int) (h1 : w.ownsRow b1 5 1 v1 n1 (l1.map (Value.int .u8))) (h2 : w.ownsRow b2 5 1 v2 n2 (l2.map (Value.int .u8))) : Calls Try.prog 15 #[v1, v2] w fun e w' => e = .returned (.bool ((strOfNums l1).toList == (strOfNums l2).toList)) ∧ w = w' := by
  have k1 := own_string (P := Try.prog) (src := 30) (dst := 9) Try.underlying30 Try.underlying5 Try.underlying9 h1
  have k2 := own_string (P := Try.prog) (src := 30) (dst := 9) Try.underlying30 Try.underlying5 Try.underlying9 h2
  clear h1 h2
  go_enter Try.func15, Try.ntmps15
  go_wp2
  go_ret
  exact ⟨rfl, rfl⟩
end Dk
end Go.Proofs.Ytpbampnbgebpjaa

namespace Go.Proofs.Ytpbampnbgebpjaa
open Go.RowKit
set_option linter.unusedVariables false
set_option linter.unusedSimpArgs false
namespace Dk

/-- all writes, played -/
def allM (first : Int → List Int) (log : List (Int × List Int)) : Nat → Int → List Int
  | 0 => first
  | k + 1 => upd (allM first log k) (log.getD k (0, [])).1 (log.getD k (0, [])).2
theorem leftM_all (first : Int → List Int) (log : List (Int × List Int)) (safe : Nat) (keep : List Bool) : ∀ n, (∀ i, i < n → kept safe keep i = true) → leftM first log safe keep n = allM first log n
  | 0, _ => rfl
  | n + 1, h => by
    simp only [leftM, allM, h n (by omega), if_true, leftM_all first log safe keep n (fun i hi => h i (by omega))]
theorem allM_app (first : Int → List Int) (log : List (Int × List Int)) (x : Int × List Int) : ∀ n, n ≤ log.length → allM first (log ++ [x]) n = allM first log n
  | 0, _ => rfl
  | n + 1, h => by
    have e : (log ++ [x]).getD n (0, []) = log.getD n (0, []) := by
      simp only [List.getD_eq_getElem?_getD]
      rw [List.getElem?_append_left (by omega)]
    simp only [allM, allM_app first log x n (by omega), e]
theorem leftM_len (first : Int → List Int) (log : List (Int × List Int)) (safe : Nat) (keep : List Bool) (h0 : ∀ q, (first q).length ≤ 128) (h1 : ∀ p ∈ log, p.2.length ≤ 128) : ∀ n, n ≤ log.length → ∀ q, (leftM first log safe keep n q).length ≤ 128
  | 0, _, q => h0 q
  | n + 1, h, q => by
    have ih := leftM_len first log safe keep h0 h1 n (by omega)
    have hm : log.getD n (0, []) ∈ log := by
      rw [List.getD_eq_getElem?_getD, List.getElem?_eq_getElem (by omega)]
      exact List.getElem_mem _
    simp only [leftM]
    split
    · simp only [upd]
      split
      · exact h1 _ hm
      · exact ih q
    · exact ih q
/-- a disk that a script of so many acts has made -/
structure Sc (n : Int) (d : Dsk) (c : Nat) : Prop where
  N : d.N = n
  first : d.first = fun _ => []
  now : d.now = allM (fun _ => []) d.log d.log.length
  log : d.log.length ≤ c
  syncs : d.syncs.length ≤ c
  safe : ∀ s ∈ d.syncs, 0 ≤ s ∧ s ≤ d.log.length
  len : ∀ p ∈ d.log, p.2.length ≤ 128
theorem Sc.new (n : Int) : Sc n (Dsk.new n) 0 := ⟨rfl, rfl, rfl, Nat.le_refl _, Nat.le_refl _, (fun s hs => by simp [Dsk.new] at hs), (fun s hs => by simp [Dsk.new] at hs)⟩
theorem Sc.up {n : Int} {d : Dsk} {c c' : Nat} (h : Sc n d c) (hc : c ≤ c') : Sc n d c' := ⟨h.N, h.first, h.now, Nat.le_trans h.log hc, Nat.le_trans h.syncs hc, h.safe, h.len⟩
theorem Sc.sync {n : Int} {d : Dsk} {c : Nat} (h : Sc n d c) : Sc n { d with syncs := d.syncs ++ [(d.log.length : Int)] } (c + 1) := by
  refine ⟨h.N, h.first, h.now, Nat.le_succ_of_le h.log, by have := h.syncs; simp; omega, fun s hs => ?_, h.len⟩
  rcases List.mem_append.1 hs with hs | hs
  · exact h.safe s hs
  · rw [List.mem_singleton.1 hs]
    show (0 : Int) ≤ d.log.length ∧ (d.log.length : Int) ≤ d.log.length
    omega
theorem Sc.write {n : Int} {d : Dsk} {c : Nat} (h : Sc n d c) (i : Int) (l : List Int) (hl : l.length ≤ 128) : Sc n { d with now := fun k => if k = i then l else d.now k, log := d.log ++ [(i, l)] } (c + 1) := by
  refine ⟨h.N, h.first, ?_, by have := h.log; simp; omega, Nat.le_succ_of_le h.syncs, fun s hs => ?_, fun p hp => ?_⟩
  · show (fun k => if k = i then l else d.now k) = allM (fun _ => []) (d.log ++ [(i, l)]) (d.log ++ [(i, l)]).length
    rw [List.length_append, List.length_singleton]
    simp only [allM]
    rw [allM_app _ _ _ _ (Nat.le_refl _), ← h.now]
    have e : (d.log ++ [(i, l)]).getD d.log.length (0, []) = (i, l) := by simp [List.getD_eq_getElem?_getD]
    rw [e]
    rfl
  · have := h.safe s hs
    show 0 ≤ s ∧ s ≤ ((d.log ++ [(i, l)]).length : Int)
    rw [List.length_append]
    simp
    omega
  · rcases List.mem_append.1 hp with hp | hp
    · exact h.len p hp
    · rw [List.mem_singleton.1 hp]; exact hl
theorem Sc.fit {n : Int} {d : Dsk} {c : Nat} (h : Sc n d c) (hc : c ≤ 1000000) : d.Fit := ⟨Nat.le_trans h.log hc, Nat.le_trans h.syncs hc, h.safe⟩
theorem left_fit (d : Dsk) (safe n : Nat) (keep : List Bool) : (leftD d safe n keep).Fit := ⟨by simp [leftD], by simp [leftD], (fun s hs => by simp [leftD] at hs)⟩
theorem Sc.left_len {n : Int} {d : Dsk} {c : Nat} (h : Sc n d c) (safe m : Nat) (keep : List Bool) (hm : m ≤ d.log.length) (q : Int) : ((leftD d safe m keep).now q).length ≤ 128 := by
  refine leftM_len d.first d.log safe keep (fun q => by rw [h.first]; simp) h.len m hm q
theorem Sc.now_len {n : Int} {d : Dsk} {c : Nat} (h : Sc n d c) (q : Int) : (d.now q).length ≤ 128 := by
  have e := leftM_all (fun _ => []) d.log d.log.length [] d.log.length (fun i hi => by simp [kept, hi])
  rw [h.now, ← e]
  exact leftM_len _ _ _ _ (fun q => by simp) h.len _ (Nat.le_refl _) q
theorem kept_full (safe n m : Nat) (hm : n ≤ m) : ∀ i, i < n → kept safe (List.replicate m true) i = true := by
  intro i hi
  by_cases h : i < safe
  · simp [kept, h]
  · have e : (List.replicate m true).getD (i - safe) false = true := by
      rw [List.getD_eq_getElem?_getD, List.getElem?_replicate, if_pos (by omega)]; rfl
    simp only [kept, e, List.length_replicate]
    simp
    omega
/-- what keeps all writes is the disk as it is -/
theorem Sc.whole {n : Int} {d : Dsk} {c : Nat} (h : Sc n d c) (safe : Nat) : (leftD d safe d.log.length (List.replicate d.log.length true)).now = d.now := by
  show leftM d.first d.log safe _ d.log.length = d.now
  rw [leftM_all _ _ _ _ _ (kept_full _ _ _ (Nat.le_refl _)), h.first, h.now]
theorem upTo_all (d : Dsk) : upTo d d.log.length = d.log.length := by unfold upTo; omega
/-- what is left is settled -/
theorem left_again (d : Dsk) (safe m : Nat) (keep again : List Bool) : (leftD (leftD d safe m keep) (safeOf (leftD d safe m keep)) (leftD d safe m keep).log.length again).now = (leftD d safe m keep).now := rfl
end Dk
end Go.Proofs.Ytpbampnbgebpjaa

namespace Go.Proofs.Ytpbampnbgebpjaa
open Go.RowKit Go.Proofs.YtpbampnbgebpjaaW.PrintWords Go.Proofs.YtpbampnbgebpjaaW.PrintLast
set_option linter.unusedVariables false
set_option linter.unusedSimpArgs false
namespace Dk

/-- a write, whatever is handed in -/
theorem write_op (base : Nat) (w : World) (D : Nat) (d : Dsk) (n : Int) (c : Nat) (i : Int) (v : Value) (l : List Int) (hn : 1 ≤ n) (h : IsDk base w D d) (hs : Sc n d c) (hc : c ≤ 100000) (hbw : base ≤ w.heap.size) (hv : BytesIn w v l) :
    Calls Try.prog 9 #[.pointer (some ⟨D, 0, none⟩), .int .i64 i, v] w fun e w' => ∃ (m : Int) (d' : Dsk), e = .returned (.int .i64 m) ∧ IsDk base w' D d' ∧ Sc n d' (c + 1) ∧ Chg base DK w w' := by
  obtain ⟨a, cap, rfl, hby, _, hcell⟩ := hv
  have hN := hs.N
  by_cases h0 : i < 0 ∨ d.N ≤ i
  · exact (write_no base w D d i _ h h0).mono fun e w' ⟨he, hw⟩ => ⟨51, d, he, hw ▸ h, hs.up (Nat.le_succ c), hw ▸ Chg.refl _ _ _⟩
  by_cases hl : l.length ≤ 128
  · exact (write_any base w D d i a l.length cap l h (by have := hs.log; omega) hbw (by omega) (by omega) rfl hl hby hcell).mono fun e w' ⟨he, hi, hc⟩ => ⟨0, _, he, hi, hs.write i l hl, hc⟩
  · exact (write_long base w D d i a l.length cap h (by omega) (by omega) (by omega)).mono fun e w' ⟨he, hw⟩ => ⟨1, d, he, hw ▸ h, hs.up (Nat.le_succ c), hw ▸ Chg.refl _ _ _⟩
theorem BytesIn.chg {w w' : World} {v : Value} {l : List Int} (h : BytesIn w v l) (hc : Below w.heap.size w w') : BytesIn w' v l := by
  obtain ⟨a, c, e, h1, h2, h3⟩ := h
  exact ⟨a, c, e, h1, h2, fun j hj => by
    obtain ⟨ad, e, hcell⟩ := h3 j hj
    exact ⟨ad, e, (hc.cell (p := ad.add j) (World.block_lt_of_cell? w _ hcell)).trans hcell⟩⟩
theorem BoolsIn.chg {w w' : World} {v : Value} {l : List Bool} (h : BoolsIn w v l) (hc : Below w.heap.size w w') : BoolsIn w' v l := by
  obtain ⟨a, c, e, h1, h3⟩ := h
  exact ⟨a, c, e, h1, fun j hj => by
    obtain ⟨ad, e, hcell⟩ := h3 j hj
    exact ⟨ad, e, (hc.cell (p := ad.add j) (World.block_lt_of_cell? w _ hcell)).trans hcell⟩⟩
theorem cell_up {w w' : World} {a : Addr} {v : Value} (h : w.cell? a = some v) (hc : Below w.heap.size w w') : w'.cell? a = some v := (hc.cell (p := a) (World.block_lt_of_cell? w _ h)).trans h
def L1 (w : World) (D len : Nat) (i : Value) (wr : World) : Prop := ∃ (k : Nat) (d : Dsk), i = .int .i64 k ∧ k ≤ len ∧ k ≤ 100 ∧ IsDk w.heap.size wr D d ∧ Sc 8 d k ∧ Chg w.heap.size DK w wr
theorem info_bool : (Try.prog.info? 4).map (fun i => (i.zero, i.size, i.bytes)) = some (some (.bool false), 1, 1) := by kernel_rfl
theorem one_new (w : World) (x : Value) (t : TypeId) : ∀ j u, [x][j]? = some u → (w.alloc (.cells #[x] t)).cell? ((⟨w.heap.size, 0, none⟩ : Addr).add j) = some u := by
  intro j u hu
  cases j with
  | zero =>
    have e : (⟨w.heap.size, 0, none⟩ : Addr).add 0 = ⟨w.heap.size, 0, none⟩ := rfl
    rw [e]
    exact cell_of (World.alloc_heap_new _ _) hu
  | succ j => simp at hu
/-- the objects that disks consist of -/
def RK : Obj → Bool
  | .cells _ t _ => t == 58 || t == 61 || t == 3 || t == 5
  | .map _ _ => true
  | _ => false
theorem IsDk.keepR {base : Nat} {w w' : World} {D : Nat} {d : Dsk} (h : IsDk base w D d) (hk : ∀ (k : Nat) (o : Obj), w.heap[k]? = some o → RK o = true → w'.heap[k]? = some o) : IsDk base w' D d := by
  have byt : ∀ v l, Byts w v l → Byts w' v l := fun v l h => ⟨h.1, own_move h.2 fun g cur _ hh => hk g _ hh rfl⟩
  have mp : ∀ M m, MapB w M m → MapB w' M m := fun M m ⟨es, c, h1, h2, h3⟩ => ⟨es, c, hk M _ h1 rfl, h2, fun q => byt _ _ (h3 q)⟩
  obtain ⟨F, M, lv, sv, hd⟩ := h
  obtain ⟨vs, l1, l2, l3⟩ := hd.hL
  exact ⟨F, M, lv, sv, hd.bD, hd.bF, hd.bM, hd.ne, hk D _ hd.hD rfl, mp _ _ hd.hF, mp _ _ hd.hM, ⟨vs, l1, fun p hp => byt _ _ (l2 p hp), own_move l3 fun g cur _ hh => hk g _ hh rfl⟩, own_move hd.hS fun g cur _ hh => hk g _ hh rfl⟩
theorem IsDk.grown {base b : Nat} {w w' : World} {D : Nat} {d : Dsk} {e : TypeId} {size n : Nat} {v : Value} {xs : List Value} (h : IsDk base w D d) (hv : w.ownsRow b e size v n xs) (he : ∀ cur, RK (.cells cur e (0, 0)) = false) (hg : w.grownBy w' v.ownBlock) : IsDk base w' D d := by
  refine h.keepR fun k o hk hr => (hg.block k (lt_of_heap hk) fun q => ?_).trans hk
  obtain ⟨cur, hc⟩ := (own_kind hv q.symm).2
  rw [hc] at hk
  cases hk
  rw [he cur] at hr
  cases hr
def L2 (w : World) (D : Nat) (d : Dsk) (v i : Value) (wr : World) : Prop := ∃ j : Nat, i = .int .i64 j ∧ j ≤ d.log.length ∧ wr.ownsRow w.heap.size 4 1 v j (List.replicate j (.bool true)) ∧ IsDk w.heap.size wr D d ∧ Below w.heap.size w wr
theorem full_in {w : World} {base n : Nat} {v : Value} (h : w.ownsRow base 4 1 v n (List.replicate n (.bool true))) (hn : n ≤ 1000000 := by omega) : BoolsIn w v (List.replicate n true) := by
  obtain ⟨a, c, rfl⟩ := own_slice h
  refine ⟨a, c, by rw [List.length_replicate], by rw [List.length_replicate]; omega, fun j hj => ?_⟩
  rw [List.length_replicate] at hj
  rcases h.2 with ⟨_, q⟩ | ⟨g, cap, cur, q, q2, q3, q4, q5⟩
  · omega
  · cases q
    refine ⟨_, rfl, World.ownsRow.cells h (g := g) rfl j _ ?_⟩
    rw [List.getElem?_replicate, if_pos hj, List.getD_eq_getElem?_getD, List.getElem?_replicate, if_pos hj]
    rfl
theorem log_len {base : Nat} {w : World} {D : Nat} {d : Dsk} (h : IsDk base w D d) : ∃ la lc, w.cell? ⟨D, 3, none⟩ = some (.slice la d.log.length lc) := by
  obtain ⟨F, M, lv, sv, hd⟩ := h
  obtain ⟨vs, l1, l2, l3⟩ := hd.hL
  obtain ⟨la, lc, rfl⟩ := own_slice l3
  exact ⟨la, lc, hd.cells.2.2.2.1⟩
theorem cut_in (base : Nat) (w : World) (D : Nat) (d : Dsk) (v : Value) (l : List Bool) (h : IsDk base w D d) (hf : d.Fit) (hbw : base ≤ w.heap.size) (hN : d.N = 8) (hv : BoolsIn w v l) :
    Calls Try.prog 13 #[.pointer (some ⟨D, 0, none⟩), v] w fun e w' => ∃ C, e = .returned (.pointer (some ⟨C, 0, none⟩)) ∧ IsDk base w' C (leftD d (safeOf d) d.log.length l) ∧ Below w.heap.size w w' := by
  obtain ⟨a, c, rfl, hl, hc⟩ := hv
  exact cut_any base w D d a c l h hf hbw (by rw [hN]; decide) hl hc
theorem cutat_in (base : Nat) (w : World) (D : Nat) (d : Dsk) (n : Nat) (v : Value) (l : List Bool) (hn : n = d.log.length) (h : IsDk base w D d) (hf : d.Fit) (hbw : base ≤ w.heap.size) (hN : d.N = 8) (hv : BoolsIn w v l) :
    Calls Try.prog 17 #[.pointer (some ⟨D, 0, none⟩), .int .i64 n, v] w fun e w' => ∃ C, e = .returned (.pointer (some ⟨C, 0, none⟩)) ∧ (∃ s, IsDk base w' C (leftD d s d.log.length l)) ∧ Below w.heap.size w w' := by
  obtain ⟨a, c, rfl, hl, hc⟩ := hv
  subst hn
  refine (cutat_any base w D d d.log.length a c l h hf hbw (by rw [hN]; decide) hl hc).mono ?_
  rintro e w' ⟨C, e1, e2, e3⟩
  rw [upTo_all] at e2
  exact ⟨C, e1, ⟨_, e2⟩, e3⟩
/-- a disk of eight sectors that holds this -/
def Has8 (base : Nat) (w : World) (D : Nat) (now : Int → List Int) : Prop := ∃ d, IsDk base w D d ∧ d.N = 8 ∧ d.now = now ∧ ∀ q, (now q).length ≤ 128
theorem Has8.below {base : Nat} {w w' : World} {D : Nat} {now : Int → List Int} (h : Has8 base w D now) (hc : Below w.heap.size w w') : Has8 base w' D now := by
  obtain ⟨d, h1, h2⟩ := h
  exact ⟨d, h1.below hc, h2⟩
theorem read_has (base : Nat) (w : World) (D : Nat) (j : Nat) (now : Int → List Int) (h : Has8 base w D now) (hj : j < 8) :
    Calls Try.prog 11 #[.pointer (some ⟨D, 0, none⟩), .int .i64 j] w fun e w' => ∃ v, e = .returned (.tuple #[v, .int .i64 0]) ∧ w'.ownsRow w.heap.size 5 1 v 128 ((full (now j)).map (Value.int .u8)) ∧ Below w.heap.size w w' := by
  obtain ⟨d, h1, h2, rfl, h3⟩ := h
  exact read_yes base w D j d h1 (by omega) (by omega) (h3 _)
theorem own_up {w w' : World} {base : Nat} {e : TypeId} {size n : Nat} {v : Value} {xs : List Value} (h : w.ownsRow base e size v n xs) (hc : Below w.heap.size w w') : w'.ownsRow base e size v n xs :=
  own_move h fun g cur _ hh => (hc.block g (lt_of_heap hh)).trans hh
theorem same_true (w : World) (v1 v2 : Value) (n1 n2 b1 b2 : Nat) (l : List Int) (h1 : w.ownsRow b1 5 1 v1 n1 (l.map (Value.int .u8))) (h2 : w.ownsRow b2 5 1 v2 n2 (l.map (Value.int .u8))) : Calls Try.prog 15 #[v1, v2] w fun e w' => e = .returned (.bool true) ∧ w = w' :=
  (same_any w v1 v2 n1 n2 b1 b2 l l h1 h2).mono fun e w' ⟨h, q⟩ => ⟨by rw [h, beq_self_eq_true], q⟩
theorem bel {w w1 w2 : World} (h : Below w.heap.size w w1) (g : Below w1.heap.size w1 w2) : Below w.heap.size w w2 := h.trans (g.mono h.size)
def L3 (w : World) (D C1 C2 C3 C4 : Nat) (n1 n : Int → List Int) (i : Value) (wr : World) : Prop := ∃ j : Nat, i = .int .i64 j ∧ j ≤ 8 ∧ Has8 w.heap.size wr D n ∧ Has8 w.heap.size wr C1 n1 ∧ Has8 w.heap.size wr C2 n1 ∧ Has8 w.heap.size wr C3 n ∧ Has8 w.heap.size wr C4 n ∧ Below w.heap.size w wr
set_option maxHeartbeats 4000000 in
set_option maxRecDepth 100000 in
theorem settled_walk (v0 v1 v2 : Value) (w : World) (script : List Op5) (keep again : List Bool) (h0 : OpsIn w v0 script) (h1 : BoolsIn w v1 keep) (h2 : BoolsIn w v2 again) :
    Calls Try.prog 4 #[v0, v1, v2] w fun e w' => e = .returned (.bool true) ∧ Below w.heap.size w w' := by
  obtain ⟨sa, sc, rfl, hsl, hops⟩ := h0
  have HOPS := Lib.hid hops
  have HK1 := Lib.hid h1
  have HK2 := Lib.hid h2
  clear hops h1 h2
  go_enter Try.func4, Try.ntmps4
  go_wp2_with fail
  refine (new_dk w.heap.size 8 _ (Nat.le_refl _) (by decide) (by decide)).mono ?_
  rintro e w1 ⟨D, rfl, hi1, hb1⟩
  have HI1 := Lib.hid hi1
  have HB1 := Lib.hid hb1
  clear hi1 hb1
  go_wp2_with fail
  refine (alive_any _).mono ?_
  rintro e w2 ⟨rfl, hb2⟩
  have HI2 := Lib.hid (HI1.out.below hb2)
  have HB2 := Lib.hid (HB1.out.trans (hb2.mono HB1.out.size))
  clear hb2
  go_wp2_with fail
  go_loopw [9] (fun i wr => L1 w D script.length i wr) (fun i _ => 100 - (intOf i).toNat)
  case atStart => exact ⟨0, _, rfl, Nat.zero_le _, Nat.zero_le _, HI2.out, Sc.new 8, Chg.of_below HB2.out (Nat.le_refl _)⟩
  case round =>
    obtain ⟨k, d, rfl, hk1, hk2, hi, hs, hc⟩ := hrel
    have HI := Lib.hid hi
    have HS := Lib.hid hs
    have HC := Lib.hid hc
    clear hi hs hc
    by_cases hlt : k < script.length ∧ k < 100
    · obtain ⟨g1, g2⟩ := hlt
      have t1 : decide (k < script.length) = true := decide_eq_true g1
      have t2 : decide ((k : Int) < 100) = true := decide_eq_true (by omega)
      have t3 : (k : Int) < 100 := by omega
      obtain ⟨ad, rfl, hop⟩ := HOPS.out k g1
      generalize hx : script[k] = x at hop
      clear hx
      have hb := HC.out.below
      obtain ⟨q0, q1, q2, q3, q4, q5⟩ := hop
      have o0 := cell_up q0 hb
      have o1 := cell_up q1 hb
      have o2 := cell_up q2 hb
      have HBY := Lib.hid (q4.chg hb)
      clear q0 q1 q2 q3 q4 q5 hb
      by_cases hkd : x.k = 2
      · have t4 : (x.k == 2) = true := by rw [hkd]; rfl
        go_wp2_with fail
        refine (sync_any w.heap.size _ D d HI.out (by have := HS.out.syncs; omega) HC.out.size).mono ?_
        rintro e w3 ⟨rfl, hi3, hc3⟩
        have HI3 := Lib.hid hi3
        have HC3 := Lib.hid hc3
        clear hi3 hc3
        go_wp2_with fail
        go_roundw
        case rel => exact ⟨k + 1, _, by go_num, by omega, by omega, HI3.out, HS.out.sync, HC.out.trans HC3.out⟩
        case measure => simp [intOf]; omega
      · have t4 : (x.k == 2) = false := beq_false_of_ne hkd
        have HWR := Lib.hid (show ∀ W, Below wr.heap.size wr W → Calls Try.prog 9 #[.pointer (some ⟨D, 0, none⟩), .int .i64 x.i, x.bv] W fun e w' => ∃ (m : Int) (d' : Dsk), e = .returned (.int .i64 m) ∧ IsDk w.heap.size w' D d' ∧ Sc 8 d' (k + 1) ∧ Chg w.heap.size DK wr w' from fun W hW =>
          (write_op w.heap.size W D d 8 k x.i x.bv x.b (by decide) (HI.out.below hW) HS.out (by omega) (Nat.le_trans HC.out.size hW.size) (HBY.out.chg hW)).mono fun e w' ⟨m, d', e1, e2, e3, e4⟩ => ⟨m, d', e1, e2, e3, (Chg.of_below hW HC.out.size).trans e4⟩)
        go_wp2_with fail
        refine Go.Proofs.YtpbampnbgebpjaaW.PrintLast.start_ (n := 12) (S := fun v => v.cell? ⟨(ad.add (k * 4)).block, (ad.add (k * 4)).off + 1, none⟩ = some (.int .i64 x.i) ∧ v.cell? ⟨(ad.add (k * 4)).block, (ad.add (k * 4)).off + 2, none⟩ = some x.bv) (ds := [11]) #[false, false, false, false, false, false, false, false, false, false, false, false] (by kernel_rfl) rfl rfl ⟨o1, o2⟩ (fun hHeld => ?_)
        refine Go.Proofs.YtpbampnbgebpjaaW.PrintLast.pure_ (i := 0) (N := some 62) (v := ?_) (a' := ?_) #[true, false, false, false, false, false, false, false, false, false, false, false] rfl rfl (by kernel_rfl) (fun _ _ _ h => h) (Or.inl ⟨by rfl, ?_⟩) ?_ ?_
        rotate_left
        · intro w'
          go_simp
          with_reducible rfl
        rotate_left
        · simp only [Act.put, List.setIfInBounds_toArray, List.set_cons_zero, List.set_cons_succ, Go.Proofs.YtpbampnbgebpjaaW.PrintLast.i64_w, Go.Proofs.YtpbampnbgebpjaaW.PrintLast.i32_w]
          rfl
        refine Go.Proofs.YtpbampnbgebpjaaW.PrintLast.pure_ (i := 1) (N := some 63) (v := ?_) (a' := ?_) #[true, true, false, false, false, false, false, false, false, false, false, false] rfl rfl (by kernel_rfl) (fun _ _ _ h => h) (Or.inl ⟨by rfl, ?_⟩) ?_ ?_
        rotate_left
        · intro w'
          go_simp
          with_reducible rfl
        rotate_left
        · simp only [Act.put, List.setIfInBounds_toArray, List.set_cons_zero, List.set_cons_succ, Go.Proofs.YtpbampnbgebpjaaW.PrintLast.i64_w, Go.Proofs.YtpbampnbgebpjaaW.PrintLast.i32_w]
          rfl
        refine Go.Proofs.YtpbampnbgebpjaaW.PrintLast.pure_ (i := 2) (N := some 64) (v := ?_) (a' := ?_) #[true, true, true, false, false, false, false, false, false, false, false, false] rfl rfl (by kernel_rfl) (fun _ _ _ h => h) (Or.inl ⟨by rfl, ?_⟩) ?_ ?_
        rotate_left
        · intro w'
          go_simp
          with_reducible rfl
        rotate_left
        · simp only [Act.put, List.setIfInBounds_toArray, List.set_cons_zero, List.set_cons_succ, Go.Proofs.YtpbampnbgebpjaaW.PrintLast.i64_w, Go.Proofs.YtpbampnbgebpjaaW.PrintLast.i32_w]
          rfl
        refine Go.Proofs.YtpbampnbgebpjaaW.PrintLast.pure_ (i := 3) (N := some 65) (v := ?_) (a' := ?_) #[true, true, true, true, false, false, false, false, false, false, false, false] rfl rfl (by kernel_rfl) (fun _ _ _ h => h) (Or.inl ⟨by rfl, ?_⟩) ?_ ?_
        rotate_left
        · intro w'
          go_simp
          with_reducible rfl
        rotate_left
        · simp only [Act.put, List.setIfInBounds_toArray, List.set_cons_zero, List.set_cons_succ, Go.Proofs.YtpbampnbgebpjaaW.PrintLast.i64_w, Go.Proofs.YtpbampnbgebpjaaW.PrintLast.i32_w]
          rfl
        refine Go.Proofs.YtpbampnbgebpjaaW.PrintLast.pure_ (i := 4) (N := some 66) (v := ?_) (a' := ?_) #[true, true, true, true, true, false, false, false, false, false, false, false] rfl rfl (by kernel_rfl) (fun _ _ _ h => h) (Or.inl ⟨by rfl, ?_⟩) ?_ ?_
        rotate_left
        · intro w'
          go_simp
          with_reducible rfl
        rotate_left
        · simp only [Act.put, List.setIfInBounds_toArray, List.set_cons_zero, List.set_cons_succ, Go.Proofs.YtpbampnbgebpjaaW.PrintLast.i64_w, Go.Proofs.YtpbampnbgebpjaaW.PrintLast.i32_w]
          rfl
        refine Go.Proofs.YtpbampnbgebpjaaW.PrintLast.take_ (i := 5) (N := some 67) (v := ?_) (a' := ?_) #[true, true, true, true, true, true, false, false, false, false, false, false] rfl rfl (by kernel_rfl) (fun _ _ _ h => h) (Or.inl ⟨by rfl, ?_⟩) hHeld ?_ ?_
        rotate_left
        · rintro w' ⟨s0, s1⟩
          go_simp
          with_reducible rfl
        rotate_left
        · simp only [Act.put, List.setIfInBounds_toArray, List.set_cons_zero, List.set_cons_succ, Go.Proofs.YtpbampnbgebpjaaW.PrintLast.i64_w, Go.Proofs.YtpbampnbgebpjaaW.PrintLast.i32_w]
          rfl
        refine Go.Proofs.YtpbampnbgebpjaaW.PrintLast.pure_ (i := 6) (N := some 68) (v := ?_) (a' := ?_) #[true, true, true, true, true, true, true, false, false, false, false, false] rfl rfl (by kernel_rfl) (fun _ _ _ h => h) (Or.inl ⟨by rfl, ?_⟩) ?_ ?_
        rotate_left
        · intro w'
          go_simp
          with_reducible rfl
        rotate_left
        · simp only [Act.put, List.setIfInBounds_toArray, List.set_cons_zero, List.set_cons_succ, Go.Proofs.YtpbampnbgebpjaaW.PrintLast.i64_w, Go.Proofs.YtpbampnbgebpjaaW.PrintLast.i32_w]
          rfl
        refine Go.Proofs.YtpbampnbgebpjaaW.PrintLast.pure_ (i := 7) (N := some 69) (v := ?_) (a' := ?_) #[true, true, true, true, true, true, true, true, false, false, false, false] rfl rfl (by kernel_rfl) (fun _ _ _ h => h) (Or.inl ⟨by rfl, ?_⟩) ?_ ?_
        rotate_left
        · intro w'
          go_simp
          with_reducible rfl
        rotate_left
        · simp only [Act.put, List.setIfInBounds_toArray, List.set_cons_zero, List.set_cons_succ, Go.Proofs.YtpbampnbgebpjaaW.PrintLast.i64_w, Go.Proofs.YtpbampnbgebpjaaW.PrintLast.i32_w]
          rfl
        refine Go.Proofs.YtpbampnbgebpjaaW.PrintLast.pure_ (i := 8) (N := some 70) (v := ?_) (a' := ?_) #[true, true, true, true, true, true, true, true, true, false, false, false] rfl rfl (by kernel_rfl) (fun _ _ _ h => h) (Or.inl ⟨by rfl, ?_⟩) ?_ ?_
        rotate_left
        · intro w'
          go_simp
          with_reducible rfl
        rotate_left
        · simp only [Act.put, List.setIfInBounds_toArray, List.set_cons_zero, List.set_cons_succ, Go.Proofs.YtpbampnbgebpjaaW.PrintLast.i64_w, Go.Proofs.YtpbampnbgebpjaaW.PrintLast.i32_w]
          rfl
        refine Go.Proofs.YtpbampnbgebpjaaW.PrintLast.pure_ (i := 9) (N := some 71) (v := ?_) (a' := ?_) #[true, true, true, true, true, true, true, true, true, true, false, false] rfl rfl (by kernel_rfl) (fun _ _ _ h => h) (Or.inl ⟨by rfl, ?_⟩) ?_ ?_
        rotate_left
        · intro w'
          go_simp
          with_reducible rfl
        rotate_left
        · simp only [Act.put, List.setIfInBounds_toArray, List.set_cons_zero, List.set_cons_succ, Go.Proofs.YtpbampnbgebpjaaW.PrintLast.i64_w, Go.Proofs.YtpbampnbgebpjaaW.PrintLast.i32_w]
          rfl
        refine Go.Proofs.YtpbampnbgebpjaaW.PrintLast.take_ (i := 10) (N := some 72) (v := ?_) (a' := ?_) #[true, true, true, true, true, true, true, true, true, true, true, false] rfl rfl (by kernel_rfl) (fun _ _ _ h => h) (Or.inl ⟨by rfl, ?_⟩) hHeld ?_ ?_
        rotate_left
        · rintro w' ⟨s0, s1⟩
          go_simp
          with_reducible rfl
        rotate_left
        · simp only [Act.put, List.setIfInBounds_toArray, List.set_cons_zero, List.set_cons_succ, Go.Proofs.YtpbampnbgebpjaaW.PrintLast.i64_w, Go.Proofs.YtpbampnbgebpjaaW.PrintLast.i32_w]
          rfl
        refine Go.Proofs.YtpbampnbgebpjaaW.PrintLast.last_ (i := 11) (N := some 73) #[true, true, true, true, true, true, true, true, true, true, true, true] rfl rfl (by kernel_rfl) (by decide) (fun K hK => ?_)
        refine Go.Proofs.YtpbampnbgebpjaaW.PrintLast.goes_ Try.func9 (by kernel_rfl) rfl #[.pointer (some ⟨D, 0, none⟩), .int .i64 x.i, x.bv] (by rfl) rfl rfl (by (try simp only [List.map_toArray, List.map_cons, List.map_nil]); first | done | rfl) ?_
        refine (HWR.out _ (Below.refl _ _).drew).mono ?_
        rintro e w2 ⟨m, d2, rfl, hi2, hs2, hc2⟩
        have HI2 := Lib.hid hi2
        have HS2 := Lib.hid hs2
        have HC2 := Lib.hid hc2
        clear hi2 hs2 hc2
        refine ⟨_, rfl, ?_⟩
        refine hK.out _ _ ?_
        clear hK K
        refine Go.Proofs.YtpbampnbgebpjaaW.PrintLast.norm_ (a' := ?_) ?_ ?_
        rotate_left
        · show Act.put _ (some 73) _ = _
          simp only [Act.put, List.setIfInBounds_toArray, List.set_cons_zero, List.set_cons_succ, Go.Proofs.YtpbampnbgebpjaaW.PrintLast.i64_w, Go.Proofs.YtpbampnbgebpjaaW.PrintLast.i32_w]
          rfl
        refine Go.Proofs.YtpbampnbgebpjaaW.PrintLast.done_ (by kernel_rfl) ?_
        go_wp2_with fail
        go_roundw
        case rel => exact ⟨k + 1, d2, by go_num, by omega, by omega, HI2.out, HS2.out, HC.out.trans HC2.out⟩
        case measure => simp [intOf]; omega
    · have hx : (decide (k < script.length) = false) ∨ (decide (k < script.length) = true ∧ decide ((k : Int) < 100) = false) := by
        by_cases g1 : k < script.length
        · exact .inr ⟨decide_eq_true g1, decide_eq_false (by omega)⟩
        · exact .inl (decide_eq_false g1)
      have hk100 : k ≤ 100 := hk2
      clear hlt hk1 hk2 HOPS hsl
      rcases hx with t1 | ⟨t1, t2⟩
      all_goals
        go_wp2_with fail
        clear t1
        have HN0 := Lib.hid (show wr.ownsRow w.heap.size 4 1 (.slice none 0 0) 0 [] from World.ownsRow_nil _ _ _ _)
        go_loopw [10, 11] (fun v i wr => L2 w D d v i wr) (fun _ i _ => 101 - (intOf i).toNat)
        case atStart => exact ⟨0, rfl, Nat.zero_le _, World.ownsRow_nil _ _ _ _, HI.out, HC.out.below⟩
        case round =>
          obtain ⟨j, rfl, hj, hown, hi, hc⟩ := hrel
          have hlog := HS.out.log
          obtain ⟨la, lc, c3⟩ := log_len hi
          have HI2 := Lib.hid hi
          have HC2 := Lib.hid hc
          clear hi hc
          by_cases hjl : j < d.log.length
          · have u1 : decide (j < d.log.length) = true := decide_eq_true hjl
            obtain ⟨i0, hi0, hz0, hz1, hz2⟩ := info_parts info_bool
            have E2 : ∀ u ∈ [Value.bool true], u.oneCell' = true := fun u hu => by rw [List.mem_singleton.1 hu]; rfl
            have E3 : j + 1 ≤ maxLen := by simp only [maxLen]; omega
            have E4 : (j + 1) * 1 ≤ 140737488355328 := by omega
            have E5 : w.heap.size ≤ (wr.alloc (.cells #[.bool true] 4)).heap.size := by have := HC2.out.size; simp; omega
            go_wp2_with (first | (go_at_call 16; refine (writes_any D d.log.length lc la _ c3).mono ?_; rintro e w' ⟨rfl, rfl⟩) | (at_builtin; refine wpList_append_own _ rfl _ _ 23 rfl w.heap.size 4 i0 (.bool false) 1 1 Try.underlying23 hi0 hz0 hz1 hz2 rfl (by decide) _ _ _ rfl (hown.alloc _) ⟨wr.heap.size, 0, none⟩ 1 1 [.bool true] rfl rfl (one_new _ _ _) E2 E3 E4 E5 ?_))
            intro v' w3 hown' hg _
            have HO := Lib.hid (show w3.ownsRow w.heap.size 4 1 v' (j + 1) (List.replicate (j + 1) (.bool true)) by rw [List.replicate_succ']; exact hown')
            have HI3 := Lib.hid ((HI2.out.below ((Below.refl _ _).alloc (Nat.le_refl _) _)).grown (hown.alloc _) (fun _ => rfl) hg)
            have HB3 := Lib.hid ((HC2.out.trans (((Below.refl _ _).alloc (Nat.le_refl _) _).mono HC2.out.size)).grown hg (by have := HC2.out.size; simp; omega) (fun g q => (own_kind hown q).1))
            clear hown' hg E2 E3 E4 E5
            go_wp2_with fail
            go_roundw
            case rel => exact ⟨j + 1, by go_num, by omega, HO.out, HI3.out, HB3.out⟩
            case measure => simp [intOf]; omega
          · have ej : j = d.log.length := by omega
            subst ej
            have u1 : decide (d.log.length < d.log.length) = false := decide_eq_false (by omega)
            have HOWN := Lib.hid hown
            obtain ⟨fa, fc, rfl⟩ := own_slice hown
            have hfull := full_in hown
            have HFULL := Lib.hid hfull
            clear hown hfull
            go_wp2_with (go_at_call 16; refine (writes_any D d.log.length lc la _ c3).mono ?_; rintro e w' ⟨rfl, rfl⟩)
            clear u1 hjl hj hlog c3
            refine (cut_in w.heap.size _ D d v1 keep HI2.out (HS.out.fit (by omega)) HC2.out.size HS.out.N (HK1.out.chg HC2.out)).mono ?_
            rintro e w3 ⟨C1, rfl, hi3, hb3⟩
            have HA3 := Lib.hid hi3
            have HB3 := Lib.hid (bel HC2.out hb3)
            have HI3 := Lib.hid (HI2.out.below hb3)
            have HF3 := Lib.hid (HFULL.out.chg hb3)
            clear hi3 hb3 HI2 HFULL
            go_wp2_with fail
            refine (cut_in w.heap.size _ C1 _ v2 again HA3.out (left_fit _ _ _ _) HB3.out.size HS.out.N (HK2.out.chg HB3.out)).mono ?_
            rintro e w4 ⟨C2, rfl, hi4, hb4⟩
            have HA4 := Lib.hid (HA3.out.below hb4)
            have HT4 := Lib.hid hi4
            have HB4 := Lib.hid (bel HB3.out hb4)
            have HI4 := Lib.hid (HI3.out.below hb4)
            have HF4 := Lib.hid (HF3.out.chg hb4)
            clear hi4 hb4 HI3 HF3 HA3
            go_wp2_with fail
            refine (cut_in w.heap.size _ D d _ _ HI4.out (HS.out.fit (by omega)) HB4.out.size HS.out.N HF4.out).mono ?_
            rintro e w5 ⟨C3, rfl, hi5, hb5⟩
            have HA5 := Lib.hid (HA4.out.below hb5)
            have HT5 := Lib.hid (HT4.out.below hb5)
            have HL5 := Lib.hid hi5
            have HB5 := Lib.hid (bel HB4.out hb5)
            have HI5 := Lib.hid (HI4.out.below hb5)
            have HF5 := Lib.hid (HF4.out.chg hb5)
            clear hi5 hb5 HI4 HF4 HA4 HT4
            obtain ⟨la5, lc5, c5⟩ := log_len HI5.out
            go_wp2_with (go_at_call 16; refine (writes_any D d.log.length lc5 la5 _ c5).mono ?_; rintro e w' ⟨rfl, rfl⟩)
            refine (cutat_in w.heap.size _ D d _ _ _ rfl HI5.out (HS.out.fit (by omega)) HB5.out.size HS.out.N HF5.out).mono ?_
            rintro e w6 ⟨C4, rfl, ⟨s4, hi6⟩, hb6⟩
            have HA6 := Lib.hid (HA5.out.below hb6)
            have HT6 := Lib.hid (HT5.out.below hb6)
            have HL6 := Lib.hid (HL5.out.below hb6)
            have HM6 := Lib.hid hi6
            have HB6 := Lib.hid (bel HB5.out hb6)
            have HI6 := Lib.hid (HI5.out.below hb6)
            clear hi6 hb6 HI5 HF5 HA5 HT5 HL5 c5
            obtain ⟨la6, lc6, c6⟩ := log_len HA6.out
            have H1 := Lib.hid (show Has8 w.heap.size w6 C1 (leftD d (safeOf d) d.log.length keep).now from ⟨_, HA6.out, HS.out.N, rfl, HS.out.left_len _ _ _ (Nat.le_refl _)⟩)
            have H2 := Lib.hid (show Has8 w.heap.size w6 C2 (leftD d (safeOf d) d.log.length keep).now from ⟨_, HT6.out, HS.out.N, left_again _ _ _ _ _, HS.out.left_len _ _ _ (Nat.le_refl _)⟩)
            have H3 := Lib.hid (show Has8 w.heap.size w6 C3 d.now from ⟨_, HL6.out, HS.out.N, HS.out.whole _, HS.out.now_len⟩)
            have H4 := Lib.hid (show Has8 w.heap.size w6 C4 d.now from ⟨_, HM6.out, HS.out.N, HS.out.whole _, HS.out.now_len⟩)
            have H5 := Lib.hid (show Has8 w.heap.size w6 D d.now from ⟨_, HI6.out, HS.out.N, rfl, HS.out.now_len⟩)
            clear HA6 HT6 HL6 HM6 HI6
            generalize (leftD d (safeOf d) d.log.length keep).now = n1 at H1 H2
            generalize d.now = n0 at H3 H4 H5
            go_wp2_with (go_at_call 16; refine (writes_any C1 0 lc6 la6 _ c6).mono ?_; rintro e w' ⟨rfl, rfl⟩)
            clear c6
            go_loopw [16] (fun i wr => L3 w D C1 C2 C3 C4 n1 n0 i wr) (fun i _ => 9 - (intOf i).toNat)
            case atStart => exact ⟨0, rfl, Nat.zero_le _, H5.out, H1.out, H2.out, H3.out, H4.out, HB6.out⟩
            case round =>
              obtain ⟨j, rfl, hj, hh5, hh1, hh2, hh3, hh4, hbb⟩ := hrel
              have G1 := Lib.hid hh1
              have G2 := Lib.hid hh2
              have G3 := Lib.hid hh3
              have G4 := Lib.hid hh4
              have G5 := Lib.hid hh5
              have GB := Lib.hid hbb
              clear hh1 hh2 hh3 hh4 hh5 hbb H1 H2 H3 H4 H5
              by_cases hjl : j < 8
              · have t1 : decide ((j : Int) < 8) = true := decide_eq_true (by omega)
                go_wp2_with fail
                refine (read_has w.heap.size _ C1 j n1 G1.out hjl).mono ?_
                rintro e r1 ⟨b1, rfl, ho1, hb1⟩
                have O1 := Lib.hid ho1
                have B1 := Lib.hid hb1
                clear ho1 hb1
                go_wp2_with fail
                refine (read_has w.heap.size _ C2 j n1 (G2.out.below B1.out) hjl).mono ?_
                rintro e r2 ⟨b2, rfl, ho2, hb2⟩
                have O2 := Lib.hid ho2
                have B2 := Lib.hid (bel B1.out hb2)
                have Q2 := Lib.hid hb2
                clear ho2 hb2
                go_wp2_with fail
                refine (read_has w.heap.size _ C3 j n0 (G3.out.below B2.out) hjl).mono ?_
                rintro e r3 ⟨b3, rfl, ho3, hb3⟩
                have O3 := Lib.hid ho3
                have B3 := Lib.hid (bel B2.out hb3)
                have Q3 := Lib.hid hb3
                clear ho3 hb3
                go_wp2_with fail
                refine (read_has w.heap.size _ C4 j n0 (G4.out.below B3.out) hjl).mono ?_
                rintro e r4 ⟨b4, rfl, ho4, hb4⟩
                have O4 := Lib.hid ho4
                have B4 := Lib.hid (bel B3.out hb4)
                have Q4 := Lib.hid hb4
                clear ho4 hb4
                go_wp2_with fail
                refine (read_has w.heap.size _ D j n0 (G5.out.below B4.out) hjl).mono ?_
                rintro e r5 ⟨b5, rfl, ho5, hb5⟩
                have O5 := Lib.hid ho5
                have B5 := Lib.hid (bel B4.out hb5)
                have P1 := Lib.hid (own_up (own_up (own_up (own_up O1.out Q2.out) Q3.out) Q4.out) hb5)
                have P2 := Lib.hid (own_up (own_up (own_up O2.out Q3.out) Q4.out) hb5)
                have P3 := Lib.hid (own_up (own_up O3.out Q4.out) hb5)
                have P4 := Lib.hid (own_up O4.out hb5)
                clear ho5 hb5 O1 O2 O3 O4 Q2 Q3 Q4
                go_wp2_with fail
                refine (same_true _ _ _ _ _ _ _ _ P1.out P2.out).mono ?_
                rintro e w' ⟨rfl, rfl⟩
                go_wp2_with fail
                refine (same_true _ _ _ _ _ _ _ _ P3.out O5.out).mono ?_
                rintro e w' ⟨rfl, rfl⟩
                go_wp2_with fail
                refine (same_true _ _ _ _ _ _ _ _ P4.out O5.out).mono ?_
                rintro e w' ⟨rfl, rfl⟩
                go_wp2_with fail
                go_roundw
                case rel => exact ⟨j + 1, by go_num, by omega, G5.out.below B5.out, G1.out.below B5.out, G2.out.below B5.out, G3.out.below B5.out, G4.out.below B5.out, bel GB.out B5.out⟩
                case measure => simp [intOf]; omega
              · have t1 : decide ((j : Int) < 8) = false := decide_eq_false (by omega)
                go_wp2_with fail
                go_ret
                exact ⟨rfl, GB.out⟩
end Dk
end Go.Proofs.Ytpbampnbgebpjaa

namespace Go.Proofs.Ytpbampnbgebpjaa
open Go.RowKit Go.Proofs.YtpbampnbgebpjaaW.PrintWords Go.Proofs.YtpbampnbgebpjaaW.PrintLast
set_option linter.unusedVariables false
set_option linter.unusedSimpArgs false
namespace Dk

set_option maxHeartbeats 1000000 in
set_option maxRecDepth 100000 in
theorem full_any (w : World) (v : Value) (l : List Int) (h : BytesIn w v l) (hl : l.length ≤ 128) : Calls Try.prog 12 #[v] w fun e w' => ∃ u, e = .returned u ∧ w'.ownsRow w.heap.size 5 1 u 128 ((full l).map (Value.int .u8)) ∧ Below w.heap.size w w' := by
  obtain ⟨A0, cap, rfl, hby, _, hcell⟩ := h
  have HC := Lib.hid hcell
  have HL := Lib.hid hl
  clear hcell hl hby
  have hmk := make128
  go_enter Try.func12, Try.ntmps12
  go_wp2_with (with_reducible refine wpList_copy_splice rfl (.tmp 5) (.tmp 6) 30 30 rfl 5 Try.underlying30 (by kernel_rfl) (some ⟨w.heap.size, 0, none⟩) A0 128 128 l.length cap rfl rfl w.heap.size 0 (zs 128) 5 ?g1 (l.map (Value.int .u8)) ?g2 ?g3 ?g4 ?g5 w.heap.size w ?g6 (Nat.le_refl _) ?_)
  case g1 => exact World.alloc_heap_new _ _
  case g2 => have := HL.out; rw [List.length_map]; exact (Nat.min_eq_left this).symm
  case g3 =>
    intro hp
    obtain ⟨ad, e, _⟩ := HC.out 0 (by simpa using hp)
    refine ⟨ad, e, fun j x hj => (World.grownBy_alloc w _ none).cell ?_ (by simp)⟩
    have hc := hj
    obtain ⟨ad', e', hh⟩ := HC.out j (List.getElem?_eq_some_iff.1 hc).1
    rw [e] at e'
    cases e'
    rw [hh, List.getD_eq_getElem?_getD, hc]
    rfl
  case g4 => have := HL.out; rw [List.length_map, zs_len]; omega
  case g5 => intro v hv; obtain ⟨x, _, rfl⟩ := List.mem_map.1 hv; rfl
  case g6 => exact (Below.refl _ _).alloc (Nat.le_refl _) _
  intro w1 hw1 hb1
  have HW := Lib.hid hw1.out
  have HB1 := Lib.hid hb1
  clear hw1 hb1
  go_wp2
  go_ret
  refine ⟨_, rfl, ⟨?_, .inr ⟨w.heap.size, 128, _, rfl, Nat.le_refl _, HW.out, Nat.le_refl _, by decide, ?_, ?_⟩⟩, HB1.out⟩
  · rw [List.length_map, full_len _ HL.out]
  · have := HL.out
    simp only [splice, List.size_toArray, List.length_append, List.length_take, List.length_drop, List.length_map, zs_len]
    omega
  · have := HL.out
    have e : (splice (zs 128) 0 (l.map (Value.int .u8))) = (full l).map (Value.int .u8) := splice_zs _ 128
    show List.take _ (splice (zs 128) 0 (l.map (Value.int .u8))) = _
    rw [e, List.take_of_length_le (by rw [List.length_map, full_len _ this]; omega)]
/-- what a law's own objects are -/
def MK : Obj → Bool
  | .cells _ t _ => t == 5 || t == 33 || t == 37 || t == 30
  | _ => false
def Kps (w w' : World) : Prop := ∀ (g : Nat) (o : Obj), w.heap[g]? = some o → MK o = true → w'.heap[g]? = some o
theorem Kps.trans {w w1 w2 : World} (h : Kps w w1) (g : Kps w1 w2) : Kps w w2 := fun k o hk hm => g k o (h k o hk hm) hm
theorem Kps.below {w w1 : World} (h : Below w.heap.size w w1) : Kps w w1 := fun k o hk _ => (h.block k (lt_of_heap hk)).trans hk
theorem mk_dk : ∀ o : Obj, MK o = true → DK o = false := by
  intro o h
  cases o with
  | cells c t f =>
    simp only [MK, Bool.or_eq_true, beq_iff_eq] at h
    rcases h with ((h | h) | h) | h <;> subst h <;> rfl
  | _ => simp_all [MK]
theorem Kps.chg {B : Nat} {w w1 : World} (h : Chg B DK w w1) : Kps w w1 := fun k o hk hm => h.keep k o hk (mk_dk o hm)
/-- a sector's bytes in a row -/
def Own8 (w : World) (v : Value) (l : List Int) : Prop := ∃ b, w.ownsRow b 5 1 v 128 ((full l).map (Value.int .u8))
theorem Own8.move {w w' : World} {v : Value} {l : List Int} (h : Own8 w v l) (hk : ∀ (g : Nat) (cur : Array Value), w.heap[g]? = some (.cells cur 5 (0, 0)) → w'.heap[g]? = some (.cells cur 5 (0, 0))) : Own8 w' v l := by
  obtain ⟨b, h⟩ := h
  exact ⟨b, own_move h fun g cur _ hh => hk g cur hh⟩
theorem Own8.keep {w w' : World} {v : Value} {l : List Int} (h : Own8 w v l) (hk : Kps w w') : Own8 w' v l := h.move fun g cur hh => hk g _ hh rfl
theorem set_at {w : World} {W j : Nat} {v : Value} {cs : Array Value} {t : TypeId} (h : w.heap[W]? = some (.cells cs t (0, 0))) : (w.setCell ⟨W, j, none⟩ v).heap[W]? = some (.cells (cs.setIfInBounds j v) t (0, 0)) := by simp [World.setCell, Array.getElem?_modify, h]
theorem set_ne {w : World} {W j k : Nat} {v : Value} (h : k ≠ W) : (w.setCell ⟨W, j, none⟩ v).heap[k]? = w.heap[k]? := by simp [World.setCell, Array.getElem?_modify, Ne.symm h]
theorem set_size (w : World) (a : Addr) (v : Value) : (w.setCell a v).heap.size = w.heap.size := by simp [World.setCell]
def WasAt (w : World) (W j : Nat) (now : Int → List Int) : Prop := ∃ cs : Array Value, w.heap[W]? = some (.cells cs 33 (0, 0)) ∧ cs.size = 8 ∧ ∀ q : Nat, q < j → ∃ v, cs[q]? = some v ∧ Own8 w v (now q)
theorem WasAt.keep {w w' : World} {W j : Nat} {now : Int → List Int} (h : WasAt w W j now) (hk : Kps w w') : WasAt w' W j now := by
  obtain ⟨cs, h1, h2, h3⟩ := h
  exact ⟨cs, hk _ _ h1 rfl, h2, fun q hq => by obtain ⟨v, e1, e2⟩ := h3 q hq; exact ⟨v, e1, e2.keep hk⟩⟩
theorem WasAt.set {w : World} {W j : Nat} {v : Value} {now : Int → List Int} (h : WasAt w W j now) (hj : j < 8) (hv : Own8 w v (now j)) : WasAt (w.setCell ⟨W, j, none⟩ v) W (j + 1) now := by
  obtain ⟨cs, h1, h2, h3⟩ := h
  have mv : ∀ u l, Own8 w u l → Own8 (w.setCell ⟨W, j, none⟩ v) u l := fun u l hu => hu.move fun g cur hh => (set_ne (by rintro rfl; rw [h1] at hh; cases hh)).trans hh
  refine ⟨_, set_at h1, by simp [h2], fun q hq => ?_⟩
  by_cases e : q = j
  · subst e
    exact ⟨v, by simp [h2, hj], mv _ _ hv⟩
  · obtain ⟨u, e1, e2⟩ := h3 q (by omega)
    exact ⟨u, by rw [Array.getElem?_setIfInBounds_ne (Ne.symm e)]; exact e1, mv _ _ e2⟩
theorem WasAt.cell {w : World} {W q : Nat} {now : Int → List Int} (h : WasAt w W 8 now) (hq : q < 8) : ∃ v, w.cell? ⟨W, q, none⟩ = some v ∧ Own8 w v (now q) := by
  obtain ⟨cs, h1, h2, h3⟩ := h
  obtain ⟨v, e1, e2⟩ := h3 q hq
  exact ⟨v, cell_of h1 e1, e2⟩
def MayAt (base : Nat) (w : World) (B : Nat) (ex : List (Int × List Int)) : Prop := ∃ (cs : Array Value) (vs : Nat → List Value), w.heap[B]? = some (.cells cs 37 (0, 0)) ∧ cs.size = 8 ∧
  (∀ q, q < 8 → ∃ v, cs[q]? = some v ∧ (vs q).length ≤ ex.length ∧ w.ownsRow base 30 1 v (vs q).length (vs q) ∧ (∀ u ∈ vs q, ∃ l, Own8 w u l) ∧ (∀ p ∈ ex, p.1 = (q : Int) → ∃ u ∈ vs q, Own8 w u p.2)) ∧
  (∀ (q q' : Nat) (v v' : Value) (g : Nat), q ≠ q' → cs[q]? = some v → cs[q']? = some v' → v.ownBlock = some g → v'.ownBlock ≠ some g)
theorem MayAt.keep {base : Nat} {w w' : World} {B : Nat} {ex : List (Int × List Int)} (h : MayAt base w B ex) (hk : Kps w w') : MayAt base w' B ex := by
  obtain ⟨cs, vs, h1, h2, h3, h4⟩ := h
  refine ⟨cs, vs, hk _ _ h1 rfl, h2, fun q hq => ?_, h4⟩
  obtain ⟨v, e1, e2, e3, e4, e5⟩ := h3 q hq
  exact ⟨v, e1, e2, own_move e3 (fun g cur _ hh => hk g _ hh rfl), fun u hu => by obtain ⟨l, hl⟩ := e4 u hu; exact ⟨l, hl.keep hk⟩, fun p hp hpq => by obtain ⟨u, hu, ho⟩ := e5 p hp hpq; exact ⟨u, hu, ho.keep hk⟩⟩
theorem MayAt.push {base : Nat} {w w3 : World} {B q0 : Nat} {ex : List (Int × List Int)} {u v1 : Value} {l : List Int} (h : MayAt base w B ex) (hq : q0 < 8) (hu : Own8 w u l) (v : Value) (vs0 : List Value)
    (hv : w.cell? ⟨B, q0, none⟩ = some v) (hown : w.ownsRow base 30 1 v vs0.length vs0) (h3 : w3.ownsRow base 30 1 v1 (vs0.length + 1) (vs0 ++ [u])) (hg : w.grownBy w3 v.ownBlock) (hat : v1.ownBlock = v.ownBlock ∨ ∃ b, v1.ownBlock = some b ∧ w.heap.size ≤ b)
    (hvs : vs0.length ≤ ex.length) (h5 : ∀ u ∈ vs0, ∃ l, Own8 w u l) (h6 : ∀ p ∈ ex, p.1 = (q0 : Int) → ∃ u ∈ vs0, Own8 w u p.2) : MayAt base (w3.setCell ⟨B, q0, none⟩ v1) B (ex ++ [((q0 : Int), l)]) := by
  obtain ⟨cs, vs, c1, c2, c3, c4⟩ := h
  have hcq : cs[q0]? = some v := by
    have e : w.cell? ⟨B, q0, none⟩ = cs[q0]? := by simp [World.cell?, c1]
    rw [← e, hv]
  have hBg : w3.heap[B]? = some (.cells cs 37 (0, 0)) := (hg.block B (lt_of_heap c1) (fun q => by obtain ⟨cur, hc⟩ := (own_kind hown q.symm).2; rw [c1] at hc; cases hc)).trans c1
  have mv : ∀ x l, Own8 w x l → Own8 (w3.setCell ⟨B, q0, none⟩ v1) x l := fun x l hx => hx.move fun g cur hh => by
    rw [set_ne (by rintro rfl; rw [c1] at hh; cases hh)]
    exact (hg.block g (lt_of_heap hh) (fun q => by obtain ⟨cur', hc⟩ := (own_kind hown q.symm).2; rw [hh] at hc; cases hc)).trans hh
  refine ⟨_, fun q => if q = q0 then vs0 ++ [u] else vs q, set_at hBg, by simp [c2], fun q hq8 => ?_, fun q q' a a' g hne ha ha' hb => ?_⟩
  · by_cases e : q = q0
    · subst e
      refine ⟨v1, by simp [c2, hq8], by simp; omega, ?_, ?_, ?_⟩
      · dsimp only
        rw [if_pos rfl, List.length_append]
        exact own_move h3 fun g cur _ hh => (set_ne (by rintro rfl; rw [hBg] at hh; cases hh)).trans hh
      · dsimp only
        rw [if_pos rfl]
        intro x hx
        rcases List.mem_append.1 hx with hx | hx
        · obtain ⟨l', hl'⟩ := h5 x hx
          exact ⟨l', mv _ _ hl'⟩
        · rw [List.mem_singleton.1 hx]
          exact ⟨l, mv _ _ hu⟩
      · dsimp only
        rw [if_pos rfl]
        intro p hp hpq
        rcases List.mem_append.1 hp with hp | hp
        · obtain ⟨x, hx, ho⟩ := h6 p hp hpq
          exact ⟨x, List.mem_append_left _ hx, mv _ _ ho⟩
        · rw [List.mem_singleton.1 hp]
          exact ⟨u, List.mem_append_right _ (List.mem_singleton.2 rfl), mv _ _ hu⟩
    · obtain ⟨a, e1, e2, e3, e4, e5⟩ := c3 q hq8
      refine ⟨a, by rw [Array.getElem?_setIfInBounds_ne (Ne.symm e)]; exact e1, by dsimp only; rw [if_neg e, List.length_append]; omega, ?_, ?_, ?_⟩
      · dsimp only
        rw [if_neg e]
        refine own_move e3 fun g cur hg2 hh => ?_
        rw [set_ne (by rintro rfl; rw [c1] at hh; cases hh)]
        exact (hg.block g (lt_of_heap hh) (fun q2 => c4 q q0 a v g e e1 hcq hg2 q2.symm)).trans hh
      · dsimp only
        rw [if_neg e]
        intro x hx
        obtain ⟨l', hl'⟩ := e4 x hx
        exact ⟨l', mv _ _ hl'⟩
      · dsimp only
        rw [if_neg e]
        intro p hp hpq
        rcases List.mem_append.1 hp with hp | hp
        · obtain ⟨x, hx, ho⟩ := e5 p hp hpq
          exact ⟨x, hx, mv _ _ ho⟩
        · rw [List.mem_singleton.1 hp] at hpq
          have hpq' : (q0 : Int) = (q : Int) := hpq
          exact absurd (by omega) e
  · have old : ∀ (q : Nat) (a : Value), q ≠ q0 → (cs.setIfInBounds q0 v1)[q]? = some a → cs[q]? = some a := fun q a hq ha => by rwa [Array.getElem?_setIfInBounds_ne (Ne.symm hq)] at ha
    have new : ∀ a : Value, (cs.setIfInBounds q0 v1)[q0]? = some a → a = v1 := fun a ha => by simp [c2, hq] at ha; exact ha.symm
    have lt : ∀ (q : Nat) (a : Value) (g : Nat), cs[q]? = some a → a.ownBlock = some g → g < w.heap.size := fun q a g ha hb => by
      have hq8 : q < 8 := by have := (Array.getElem?_eq_some_iff.1 ha).1; omega
      obtain ⟨a', e1, e2, e3, _⟩ := c3 q hq8
      rw [ha] at e1
      cases e1
      obtain ⟨_, cur, hc⟩ := own_kind e3 hb
      exact lt_of_heap hc
    by_cases e : q = q0
    · subst e
      have ha1 := new a ha
      subst ha1
      have h' := old q' a' (Ne.symm hne) ha'
      intro hb'
      rcases hat with h1 | ⟨b, h1, h2⟩
      · exact c4 q q' v a' g hne hcq h' (h1 ▸ hb) hb'
      · rw [h1] at hb
        cases hb
        have := lt q' a' _ h' hb'
        omega
    · have h' := old q a e ha
      by_cases e' : q' = q0
      · subst e'
        have ha1 := new a' ha'
        subst ha1
        intro hb'
        rcases hat with h1 | ⟨b, h1, h2⟩
        · exact c4 q q' a v g hne h' hcq hb (h1 ▸ hb')
        · rw [h1] at hb'
          cases hb'
          have := lt q a _ h' hb
          omega
      · exact c4 q q' a a' g hne h' (old q' a' e' ha') hb
theorem MayAt.get {base : Nat} {w : World} {B q : Nat} {ex : List (Int × List Int)} (h : MayAt base w B ex) (hq : q < 8) : ∃ v vs, w.cell? ⟨B, q, none⟩ = some v ∧ vs.length ≤ ex.length ∧ w.ownsRow base 30 1 v vs.length vs ∧ (∀ u ∈ vs, ∃ l, Own8 w u l) ∧ (∀ p ∈ ex, p.1 = (q : Int) → ∃ u ∈ vs, Own8 w u p.2) := by
  obtain ⟨cs, vs, h1, h2, h3, h4⟩ := h
  obtain ⟨v, e1, e2, e3, e4, e5⟩ := h3 q hq
  exact ⟨v, vs q, cell_of h1 e1, e2, e3, e4, e5⟩
theorem same_own (w : World) (v1 v2 : Value) (l1 l2 : List Int) (h1 : Own8 w v1 l1) (h2 : Own8 w v2 l2) : Calls Try.prog 15 #[v1, v2] w fun e w' => ∃ y : Bool, e = .returned (.bool y) ∧ w = w' ∧ (l1 = l2 → y = true) := by
  obtain ⟨b1, h1⟩ := h1
  obtain ⟨b2, h2⟩ := h2
  exact (same_any w v1 v2 _ _ b1 b2 _ _ h1 h2).mono fun e w' ⟨h, q⟩ => ⟨_, h, q, fun e => by rw [e, beq_self_eq_true]⟩
/-- a write, and what it answers -/
theorem write_op2 (base : Nat) (w : World) (D : Nat) (d : Dsk) (n : Int) (c : Nat) (i : Int) (v : Value) (l : List Int) (hn : 1 ≤ n) (h : IsDk base w D d) (hs : Sc n d c) (hc : c ≤ 100000) (hbw : base ≤ w.heap.size) (hv : BytesIn w v l) :
    Calls Try.prog 9 #[.pointer (some ⟨D, 0, none⟩), .int .i64 i, v] w fun e w' => ∃ (m : Int) (d' : Dsk), e = .returned (.int .i64 m) ∧ IsDk base w' D d' ∧ Sc n d' (c + 1) ∧ Chg base DK w w' ∧ d'.syncs = d.syncs ∧ ((m = 0 ∧ d'.log = d.log ++ [(i, l)] ∧ 0 ≤ i ∧ i < n ∧ l.length ≤ 128) ∨ (m ≠ 0 ∧ d'.log = d.log)) := by
  obtain ⟨a, cap, rfl, hby, _, hcell⟩ := hv
  have hN := hs.N
  by_cases h0 : i < 0 ∨ d.N ≤ i
  · exact (write_no base w D d i _ h h0).mono fun e w' ⟨he, hw⟩ => ⟨51, d, he, hw ▸ h, hs.up (Nat.le_succ c), hw ▸ Chg.refl _ _ _, rfl, .inr ⟨by decide, rfl⟩⟩
  by_cases hl : l.length ≤ 128
  · exact (write_any base w D d i a l.length cap l h (by have := hs.log; omega) hbw (by omega) (by omega) rfl hl hby hcell).mono fun e w' ⟨he, hi, hc⟩ => ⟨0, _, he, hi, hs.write i l hl, hc, rfl, .inl ⟨rfl, rfl, by omega, by omega, hl⟩⟩
  · exact (write_long base w D d i a l.length cap h (by omega) (by omega) (by omega)).mono fun e w' ⟨he, hw⟩ => ⟨1, d, he, hw ▸ h, hs.up (Nat.le_succ c), hw ▸ Chg.refl _ _ _, rfl, .inr ⟨by decide, rfl⟩⟩
theorem leftM_app (first : Int → List Int) (log ex : List (Int × List Int)) (safe : Nat) (keep : List Bool) : ∀ n, n ≤ log.length → leftM first (log ++ ex) safe keep n = leftM first log safe keep n
  | 0, _ => rfl
  | n + 1, h => by
    have e : (log ++ ex).getD n (0, []) = log.getD n (0, []) := by
      simp only [List.getD_eq_getElem?_getD]
      rw [List.getElem?_append_left (by omega)]
    simp only [leftM, leftM_app first log ex safe keep n (by omega), e]
theorem leftM_ex (first : Int → List Int) (log ex : List (Int × List Int)) (keep : List Bool) (q : Int) : ∀ t, t ≤ ex.length → leftM first (log ++ ex) log.length keep (log.length + t) q = allM first log log.length q ∨ ∃ p ∈ ex, p.1 = q ∧ leftM first (log ++ ex) log.length keep (log.length + t) q = p.2
  | 0, _ => by
    left
    rw [Nat.add_zero, leftM_app _ _ _ _ _ _ (Nat.le_refl _), leftM_all _ _ _ _ _ (fun i hi => by simp [kept, hi])]
  | t + 1, h => by
    have ih := leftM_ex first log ex keep q t (by omega)
    have e : (log ++ ex).getD (log.length + t) (0, []) = ex.getD t (0, []) := by
      simp only [List.getD_eq_getElem?_getD]
      rw [List.getElem?_append_right (by omega)]
      simp
    have hm : ex.getD t (0, []) ∈ ex := by
      rw [List.getD_eq_getElem?_getD, List.getElem?_eq_getElem (by omega)]
      exact List.getElem_mem _
    rw [← Nat.add_assoc]
    simp only [leftM, e]
    split
    · by_cases hq : q = (ex.getD t (0, [])).1
      · exact .inr ⟨_, hm, hq.symm, by simp only [upd]; rw [if_pos hq]⟩
      · simp only [upd]
        rw [if_neg hq]
        exact ih
    · exact ih
/-- what is left of a disk behind a sync: what was, or what was written since -/
theorem left_sync (d d0 : Dsk) (ex : List (Int × List Int)) (keep : List Bool) (n : Int) (c c0 : Nat) (h : Sc n d c) (h0 : Sc n d0 c0) (hl : d.log = d0.log ++ ex) (hs : d.syncs = d0.syncs ++ [(d0.log.length : Int)]) (q : Int) :
    (leftD d (safeOf d) d.log.length keep).now q = d0.now q ∨ ∃ p ∈ ex, p.1 = q ∧ (leftD d (safeOf d) d.log.length keep).now q = p.2 := by
  have e : safeOf d = d0.log.length := by unfold safeOf; rw [hs]; simp
  have := leftM_ex (fun _ => []) d0.log ex keep q ex.length (Nat.le_refl _)
  simp only [leftD, e, hl, h.first, h0.now, List.length_append]
  exact this
end Dk
end Go.Proofs.Ytpbampnbgebpjaa

namespace Go.Proofs.Ytpbampnbgebpjaa
open Go.RowKit Go.Proofs.YtpbampnbgebpjaaW.PrintWords Go.Proofs.YtpbampnbgebpjaaW.PrintLast
set_option linter.unusedVariables false
set_option linter.unusedSimpArgs false
namespace Dk

structure Ent where
  i : Int
  b : List Int
  s : Bool
def EntAt (w : World) (ad : Addr) (x : Ent) : Prop := ∃ u, w.cell? ad = some (.int .i64 x.i) ∧ w.cell? ⟨ad.block, ad.off + 1, none⟩ = some u ∧ w.cell? ⟨ad.block, ad.off + 2, none⟩ = some (.bool x.s) ∧ (x.s = false → Own8 w u x.b)
/-- a row of entries that is read -/
def EntIn (w : World) (v : Value) (l : List Ent) : Prop := ∃ (a : Option Addr) (c : Nat), v = .slice a l.length c ∧ ∀ j (hj : j < l.length), ∃ ad, a = some ad ∧ EntAt w (ad.add (j * 3)) l[j]
def nW (l : List Ent) : Nat := (l.filter fun e => !e.s).length
theorem nW_take (l : List Ent) (k : Nat) (h : k < l.length) : nW (l.take (k + 1)) = nW (l.take k) + if l[k].s then 0 else 1 := by
  unfold nW
  rw [List.take_add_one, List.getElem?_eq_getElem h, List.filter_append, List.length_append]
  cases hs : l[k].s <;> simp [hs]
theorem nW_le (l : List Ent) : nW l ≤ l.length := List.length_filter_le _ _
def LW (w : World) (l : List Ent) (n i : Value) (wr : World) : Prop := ∃ k : Nat, i = .int .i64 k ∧ n = .int .i64 (nW (l.take k)) ∧ k ≤ l.length ∧ w = wr
set_option maxHeartbeats 1000000 in
theorem writes_ref (w : World) (v : Value) (l : List Ent) (h : EntIn w v l) (hl : l.length ≤ 1000000) : Calls Try.prog 30 #[v] w fun e w' => e = .returned (.int .i64 (nW l)) ∧ w = w' := by
  obtain ⟨a, c, rfl, hc⟩ := h
  have HC := Lib.hid hc
  clear hc
  go_enter Try.func30, Try.ntmps30
  go_wp2_with fail
  go_loopw [3, 4] (fun n i wr => LW w l n i wr) (fun _ i _ => 1000001 - (intOf i).toNat)
  case atStart => exact ⟨0, rfl, rfl, Nat.zero_le _, rfl⟩
  case round =>
    obtain ⟨k, rfl, rfl, hk, rfl⟩ := hrel
    by_cases hkl : k < l.length
    · have t1 : decide (k < l.length) = true := decide_eq_true hkl
      obtain ⟨ad, rfl, u, c0, c1, c2, _⟩ := HC.out k hkl
      have hs := nW_take l k hkl
      have hle := nW_le (l.take k)
      have hle2 : (l.take k).length ≤ k := by rw [List.length_take]; omega
      generalize l[k].s = s at c2 hs
      generalize nW (l.take k) = m at hs hle
      cases s
      · go_wp2_with fail
        go_roundw
        case rel => exact ⟨k + 1, by go_num, by rw [hs]; simp only [Bool.false_eq_true, if_false]; go_num, by omega, rfl⟩
        case measure => simp [intOf]; omega
      · go_wp2_with fail
        go_roundw
        case rel => exact ⟨k + 1, by go_num, by rw [hs]; simp, by omega, rfl⟩
        case measure => simp [intOf]; omega
    · have t1 : decide (k < l.length) = false := decide_eq_false (by omega)
      have ek : k = l.length := by omega
      subst ek
      rw [List.take_length] at *
      go_wp2_with fail
      go_ret
      exact ⟨rfl, rfl⟩
end Dk
end Go.Proofs.Ytpbampnbgebpjaa

namespace Go.Proofs.Ytpbampnbgebpjaa
open Go.RowKit Go.Proofs.YtpbampnbgebpjaaW.PrintWords Go.Proofs.YtpbampnbgebpjaaW.PrintLast
set_option linter.unusedVariables false
set_option linter.unusedSimpArgs false
namespace Dk

structure RfD where
  N : Int
  first : List Ent
  l : List Ent
def entRow (es : List Ent) (vs : List Value) : List Value := (es.zip vs).flatMap fun p => [.int .i64 p.1.i, p.2, .bool p.1.s]
theorem entRow_snoc {es : List Ent} {vs : List Value} (h : vs.length = es.length) (x : Ent) (v : Value) : entRow (es ++ [x]) (vs ++ [v]) = entRow es vs ++ [.int .i64 x.i, v, .bool x.s] := by
  unfold entRow
  rw [List.zip_append h.symm]
  simp
theorem entRow_at : ∀ (es : List Ent) (vs : List Value), vs.length = es.length → ∀ k (hk : k < es.length), ∃ v, vs[k]? = some v ∧ (entRow es vs)[k * 3]? = some (.int .i64 es[k].i) ∧ (entRow es vs)[k * 3 + 1]? = some v ∧ (entRow es vs)[k * 3 + 2]? = some (.bool es[k].s)
  | [], _, _, k, hk => by simp at hk
  | x :: es, [], h, k, hk => by simp at h
  | x :: es, v :: vs, h, k, hk => by
    have e : entRow (x :: es) (v :: vs) = .int .i64 x.i :: v :: .bool x.s :: entRow es vs := rfl
    rw [e]
    cases k with
    | zero => exact ⟨v, rfl, rfl, rfl, rfl⟩
    | succ k =>
      obtain ⟨u, h1, h2, h3, h4⟩ := entRow_at es vs (by simpa using h) k (by simpa using hk)
      have e2 : (k + 1) * 3 = k * 3 + 1 + 1 + 1 := by omega
      rw [e2]
      exact ⟨u, h1, h2, h3, h4⟩
/-- a row of entries of its own -/
def RowE (base : Nat) (w : World) (v : Value) (es : List Ent) : Prop := ∃ vs : List Value, vs.length = es.length ∧ (∀ p ∈ es.zip vs, p.1.s = false → Own8 w p.2 p.1.b) ∧ w.ownsRow base 64 3 v es.length (entRow es vs)
theorem RowE.ent {base : Nat} {w : World} {v : Value} {es : List Ent} (h : RowE base w v es) : EntIn w v es := by
  obtain ⟨vs, h1, h2, h3⟩ := h
  obtain ⟨a, c, rfl⟩ := own_slice h3
  refine ⟨a, c, rfl, fun k hk => ?_⟩
  rcases h3.2 with ⟨_, q⟩ | ⟨g, cap, cur, q, _⟩
  · omega
  · cases q
    obtain ⟨v, e1, e2, e3, e4⟩ := entRow_at es vs h1 k hk
    have hc := World.ownsRow.cells h3 (g := g) rfl
    refine ⟨_, rfl, v, hc _ _ e2, ?_, ?_, fun hs => h2 (es[k], v) (List.mem_iff_getElem?.2 ⟨k, ?_⟩) hs⟩
    · rw [← add_fld _ _ _ (by omega)]; exact hc _ _ e3
    · rw [← add_fld _ _ _ (by omega)]; exact hc _ _ e4
    · rw [List.getElem?_zip_eq_some]
      exact ⟨List.getElem?_eq_getElem hk, e1⟩
theorem RowE.move {base : Nat} {w w' : World} {v : Value} {es : List Ent} (h : RowE base w v es) (h8 : ∀ (g : Nat) (cur : Array Value), w.heap[g]? = some (.cells cur 5 (0, 0)) → w'.heap[g]? = some (.cells cur 5 (0, 0)))
    (hm : ∀ (g : Nat) (cur : Array Value), v.ownBlock = some g → w.heap[g]? = some (.cells cur 64 (0, 0)) → w'.heap[g]? = some (.cells cur 64 (0, 0))) : RowE base w' v es := by
  obtain ⟨vs, h1, h2, h3⟩ := h
  exact ⟨vs, h1, fun p hp hs => (h2 p hp hs).move h8, own_move h3 hm⟩
structure RfAt (base : Nat) (w : World) (R : Nat) (fv lv : Value) (d : RfD) : Prop where
  bR : base ≤ R
  hR : w.heap[R]? = some (.cells #[.int .i64 d.N, fv, lv] 48 (0, 0))
  hF : RowE base w fv d.first
  hL : RowE base w lv d.l
  ne : ∀ g, lv.ownBlock = some g → fv.ownBlock ≠ some g
def IsRf (base : Nat) (w : World) (R : Nat) (d : RfD) : Prop := ∃ fv lv, RfAt base w R fv lv d
/-- the objects of the document's disks -/
def EK : Obj → Bool
  | .cells _ t _ => t == 48 || t == 64
  | _ => false
theorem RowE.below {base : Nat} {w w' : World} {v : Value} {es : List Ent} (h : RowE base w v es) (hc : Below w.heap.size w w') : RowE base w' v es :=
  h.move (fun g cur hh => (hc.block g (lt_of_heap hh)).trans hh) (fun g cur _ hh => (hc.block g (lt_of_heap hh)).trans hh)
theorem IsRf.below {base : Nat} {w w' : World} {R : Nat} {d : RfD} (h : IsRf base w R d) (hc : Below w.heap.size w w') : IsRf base w' R d := by
  obtain ⟨fv, lv, h⟩ := h
  exact ⟨fv, lv, h.bR, (hc.block R (lt_of_heap h.hR)).trans h.hR, h.hF.below hc, h.hL.below hc, h.ne⟩
/-- an entry is put behind the others -/
theorem RfAt.put {base : Nat} {w w3 : World} {R : Nat} {fv lv v1 u : Value} {d : RfD} {x : Ent} (hbw : base ≤ w.heap.size) (h : RfAt base w R fv lv d) (vs : List Value) (hvl : vs.length = d.l.length) (hvs : ∀ p ∈ d.l.zip vs, p.1.s = false → Own8 w p.2 p.1.b) (hown : w.ownsRow base 64 3 lv d.l.length (entRow d.l vs))
    (h3 : w3.ownsRow base 64 3 v1 (d.l.length + 1) (entRow d.l vs ++ [.int .i64 x.i, u, .bool x.s])) (hg : w.grownBy w3 lv.ownBlock) (hat : v1.ownBlock = lv.ownBlock ∨ ∃ b, v1.ownBlock = some b ∧ w.heap.size ≤ b) (hu : x.s = false → Own8 w u x.b) :
    IsRf base (w3.setCell ⟨R, 2, none⟩ v1) R { d with l := d.l ++ [x] } ∧ Chg base EK w (w3.setCell ⟨R, 2, none⟩ v1) := by
  have hRg : w3.heap[R]? = some (.cells #[.int .i64 d.N, fv, lv] 48 (0, 0)) := (hg.block R (lt_of_heap h.hR) (fun q => by obtain ⟨cur, hc⟩ := (own_kind hown q.symm).2; rw [h.hR] at hc; cases hc)).trans h.hR
  have h8 : ∀ (g : Nat) (cur : Array Value), w.heap[g]? = some (.cells cur 5 (0, 0)) → (w3.setCell ⟨R, 2, none⟩ v1).heap[g]? = some (.cells cur 5 (0, 0)) := fun g cur hh => by
    rw [set_ne (by rintro rfl; rw [h.hR] at hh; cases hh)]
    exact (hg.block g (lt_of_heap hh) (fun q => by obtain ⟨cur', hc⟩ := (own_kind hown q.symm).2; rw [hh] at hc; cases hc)).trans hh
  refine ⟨⟨fv, v1, h.bR, by rw [set_at hRg]; rfl, h.hF.move h8 (fun g cur hgf hh => ?_), ⟨vs ++ [u], by simp [hvl], fun p hp hs => ?_, ?_⟩, fun g hgl hgf => ?_⟩, ?_⟩
  · rw [set_ne (by rintro rfl; rw [h.hR] at hh; cases hh)]
    exact (hg.block g (lt_of_heap hh) (fun q => h.ne g q.symm hgf)).trans hh
  · rw [List.zip_append hvl.symm] at hp
    rcases List.mem_append.1 hp with hp | hp
    · exact (hvs p hp hs).move h8
    · rw [List.zip_cons_cons, List.zip_nil_left, List.mem_singleton] at hp
      subst hp
      exact (hu hs).move h8
  · show World.ownsRow _ base 64 3 v1 (d.l ++ [x]).length _
    rw [entRow_snoc hvl, List.length_append, List.length_singleton]
    exact own_move h3 fun g cur _ hh => (set_ne (by rintro rfl; rw [hRg] at hh; cases hh)).trans hh
  · rcases hat with e | ⟨b, e, e2⟩
    · exact h.ne g (e ▸ hgl) hgf
    · rw [e] at hgl
      cases hgl
      obtain ⟨vs', _, _, ho⟩ := h.hF
      obtain ⟨_, cur, hc⟩ := own_kind ho hgf
      have := lt_of_heap hc
      omega
  · refine ⟨hg.os, hg.tape, hg.output, by rw [set_size]; exact hg.size, fun k hk => ?_, fun k o hk hK => ?_⟩
    · rw [set_ne (by have := h.bR; omega), hg.block k (by omega) (fun q => by have := (own_kind hown q.symm).1; omega)]
    · rw [set_ne (by rintro rfl; rw [h.hR] at hk; cases hk; cases hK), hg.block k (lt_of_heap hk) (fun q => by obtain ⟨cur, hc⟩ := (own_kind hown q.symm).2; rw [hc] at hk; cases hk; cases hK), hk]
end Dk
end Go.Proofs.Ytpbampnbgebpjaa

namespace Go.Proofs.Ytpbampnbgebpjaa
open Go.RowKit Go.Proofs.YtpbampnbgebpjaaW.PrintWords Go.Proofs.YtpbampnbgebpjaaW.PrintLast
set_option linter.unusedVariables false
set_option linter.unusedSimpArgs false
namespace Dk

theorem info_ent : (Try.prog.info? 64).map (fun i => (i.zero, i.size, i.bytes)) = some (some (.agg #[.int .i64 0, .slice none 0 0, .bool false]), 3, 40) := by kernel_rfl
theorem RfAt.cells {base : Nat} {w : World} {R : Nat} {fv lv : Value} {d : RfD} (h : RfAt base w R fv lv d) : w.cell? ⟨R, 0, none⟩ = some (.int .i64 d.N) ∧ w.cell? ⟨R, 1, none⟩ = some fv ∧ w.cell? ⟨R, 2, none⟩ = some lv := ⟨cell_of h.hR rfl, cell_of h.hR rfl, cell_of h.hR rfl⟩
theorem wn_ref (base : Nat) (w : World) (R : Nat) (d : RfD) (h : IsRf base w R d) (hn : d.l.length ≤ 1000000) : Calls Try.prog 29 #[.pointer (some ⟨R, 0, none⟩)] w fun e w' => e = .returned (.int .i64 (nW d.l)) ∧ w = w' := by
  obtain ⟨fv, lv, h⟩ := h
  obtain ⟨la, lc, rfl⟩ : ∃ a c, lv = .slice a d.l.length c := by obtain ⟨vs, _, _, ho⟩ := h.hL; exact own_slice ho
  obtain ⟨_, _, c2⟩ := h.cells
  have HE := Lib.hid h.hL.ent
  clear h
  go_enter Try.func29, Try.ntmps29
  go_wp2_with fail
  refine (writes_ref _ _ _ HE.out hn).mono ?_
  rintro e w' ⟨rfl, rfl⟩
  go_wp2_with fail
  go_ret
  exact ⟨rfl, rfl⟩
set_option maxHeartbeats 1000000 in
theorem sync_ref (base : Nat) (w : World) (R : Nat) (d : RfD) (h : IsRf base w R d) (hn : d.l.length ≤ 1000000) (hbw : base ≤ w.heap.size) : Calls Try.prog 19 #[.pointer (some ⟨R, 0, none⟩)] w fun e w' => e = .returned (.tuple #[]) ∧ IsRf base w' R { d with l := d.l ++ [⟨0, [], true⟩] } ∧ Chg base EK w w' := by
  obtain ⟨fv, lv, h⟩ := h
  obtain ⟨vs, hvl, hvs, hown⟩ := h.hL
  obtain ⟨la, lc, rfl⟩ := own_slice hown
  obtain ⟨_, _, c2⟩ := h.cells
  have HA := Lib.hid h
  have HR := Lib.hid h.hR
  have HVL := Lib.hid hvl
  have HVS := Lib.hid hvs
  have HO := Lib.hid hown
  clear h hvl hvs hown
  go_enter Try.func19, Try.ntmps19
  go_wp2_with (at_builtin; refine print_append_cells (w0 := w) (W := w) base rfl _ _ 46 64 (.agg #[.int .i64 0, .slice none 0 0, .bool false]) 3 40 rfl Try.underlying46 info_ent rfl (by decide) (by decide) (.slice la d.l.length lc) d.l.length (entRow d.l vs) [.int .i64 0, .slice none 0 0, .bool true] rfl rfl rfl (by intro u hu; simp only [List.mem_cons, List.not_mem_nil, or_false] at hu; rcases hu with rfl | rfl | rfl <;> rfl) HO.out (Below.refl _ _) hbw (by omega) ?_)
  intro v1 w3 h3 _ hg hat
  obtain ⟨na, nc, rfl⟩ := own_slice h3
  have hRg : w3.heap[R]? = some (.cells #[.int .i64 d.N, fv, .slice la d.l.length lc] 48 (0, 0)) := (hg.block R (lt_of_heap HR.out) (fun q => by obtain ⟨cur, hc⟩ := (own_kind HO.out q.symm).2; rw [HR.out] at hc; cases hc)).trans HR.out
  have hf3 : w3.frozen? ⟨R, 2, none⟩ = false := free_of hRg
  have hc3 : w3.cell? ⟨R, 2, none⟩ = some (.slice la d.l.length lc) := cell_of hRg rfl
  have HP := Lib.hid (RfAt.put (x := ⟨0, [], true⟩) hbw HA.out vs HVL.out HVS.out HO.out h3 hg hat (fun q => by cases q))
  clear h3 hg hat hRg
  go_wp2_with fail
  go_end0
  exact ⟨rfl, HP.out.1, HP.out.2⟩
theorem RfAt.below {base : Nat} {w w' : World} {R : Nat} {fv lv : Value} {d : RfD} (h : RfAt base w R fv lv d) (hc : Below w.heap.size w w') : RfAt base w' R fv lv d := ⟨h.bR, (hc.block R (lt_of_heap h.hR)).trans h.hR, h.hF.below hc, h.hL.below hc, h.ne⟩
theorem write_ref_no (base : Nat) (w : World) (R : Nat) (d : RfD) (i : Int) (v : Value) (h : IsRf base w R d) (hi : i < 0 ∨ d.N ≤ i) : Calls Try.prog 18 #[.pointer (some ⟨R, 0, none⟩), .int .i64 i, v] w fun e w' => e = .returned (.int .i64 51) ∧ w = w' := by
  obtain ⟨fv, lv, h⟩ := h
  obtain ⟨c0, _⟩ := h.cells
  clear h
  by_cases hi0 : i < 0
  · have t1 : decide (i < 0) = true := decide_eq_true hi0
    go_enter Try.func18, Try.ntmps18
    go_wp2_with fail
    go_ret
    exact ⟨rfl, rfl⟩
  · have t1 : decide (i < 0) = false := decide_eq_false hi0
    have t2 : decide (d.N ≤ i) = true := decide_eq_true (by omega)
    go_enter Try.func18, Try.ntmps18
    go_wp2_with fail
    go_ret
    exact ⟨rfl, rfl⟩
theorem write_ref_long (base : Nat) (w : World) (R : Nat) (d : RfD) (i : Int) (a : Option Addr) (n c : Nat) (h : IsRf base w R d) (h0 : 0 ≤ i) (h1 : i < d.N) (hn : 128 < n) : Calls Try.prog 18 #[.pointer (some ⟨R, 0, none⟩), .int .i64 i, .slice a n c] w fun e w' => e = .returned (.int .i64 1) ∧ w = w' := by
  obtain ⟨fv, lv, h⟩ := h
  obtain ⟨c0, _⟩ := h.cells
  clear h
  have t1 : decide (i < 0) = false := decide_eq_false (by omega)
  have t2 : decide (d.N ≤ i) = false := decide_eq_false (by omega)
  have t3 : decide ((128 : Int) < (n : Int)) = true := decide_eq_true (by omega)
  go_enter Try.func18, Try.ntmps18
  go_wp2_with fail
  go_ret
  exact ⟨rfl, rfl⟩
set_option maxHeartbeats 1000000 in
set_option maxRecDepth 100000 in
theorem write_ref (base : Nat) (w : World) (R : Nat) (d : RfD) (i : Int) (v : Value) (l : List Int) (h : IsRf base w R d) (hn : d.l.length ≤ 1000000) (hbw : base ≤ w.heap.size) (h0 : 0 ≤ i) (h1 : i < d.N) (hl : l.length ≤ 128) (hv : BytesIn w v l) : Calls Try.prog 18 #[.pointer (some ⟨R, 0, none⟩), .int .i64 i, v] w fun e w' => e = .returned (.int .i64 0) ∧ IsRf base w' R { d with l := d.l ++ [⟨i, l, false⟩] } ∧ Chg base EK w w' := by
  obtain ⟨fv, lv, h⟩ := h
  obtain ⟨vs, hvl, hvs, hown⟩ := h.hL
  obtain ⟨la, lc, rfl⟩ := own_slice hown
  obtain ⟨c0, _, c2⟩ := h.cells
  obtain ⟨ba, bc, e, hv'⟩ := hv
  subst e
  have HBY := Lib.hid (show BytesIn w (.slice ba l.length bc) l from ⟨ba, bc, rfl, hv'⟩)
  have HA := Lib.hid h
  have HVL := Lib.hid hvl
  have HL := Lib.hid hl
  have HN := Lib.hid hn
  have HBW := Lib.hid hbw
  have t1 : decide (i < 0) = false := decide_eq_false (by omega)
  have t2 : decide (d.N ≤ i) = false := decide_eq_false (by omega)
  have t3 : decide ((128 : Int) < (l.length : Int)) = false := decide_eq_false (by omega)
  clear h hvl hvs hown hv' hn hl h0 h1
  go_enter Try.func18, Try.ntmps18
  go_wp2_with fail
  refine Go.Proofs.YtpbampnbgebpjaaW.PrintLast.start_ (n := 14) (S := fun v => v.cell? ⟨R, 2, none⟩ = some (.slice la d.l.length lc)) (ds := [13]) #[false, false, false, false, false, false, false, false, false, false, false, false, false, false] (by kernel_rfl) rfl rfl c2 (fun hHeld => ?_)
  refine Go.Proofs.YtpbampnbgebpjaaW.PrintLast.pure_ (i := 0) (N := some 20) (v := ?_) (a' := ?_) #[true, false, false, false, false, false, false, false, false, false, false, false, false, false] rfl rfl (by kernel_rfl) (fun _ _ _ h => h) (Or.inl ⟨by rfl, ?_⟩) ?_ ?_
  rotate_left
  · intro w'
    go_simp
    with_reducible rfl
  rotate_left
  · simp only [Act.put, List.setIfInBounds_toArray, List.set_cons_zero, List.set_cons_succ, Go.Proofs.YtpbampnbgebpjaaW.PrintLast.i64_w, Go.Proofs.YtpbampnbgebpjaaW.PrintLast.i32_w]
    rfl
  refine Go.Proofs.YtpbampnbgebpjaaW.PrintLast.pure_ (i := 1) (N := some 21) (v := ?_) (a' := ?_) #[true, true, false, false, false, false, false, false, false, false, false, false, false, false] rfl rfl (by kernel_rfl) (fun _ _ _ h => h) (Or.inl ⟨by rfl, ?_⟩) ?_ ?_
  rotate_left
  · intro w'
    go_simp
    with_reducible rfl
  rotate_left
  · simp only [Act.put, List.setIfInBounds_toArray, List.set_cons_zero, List.set_cons_succ, Go.Proofs.YtpbampnbgebpjaaW.PrintLast.i64_w, Go.Proofs.YtpbampnbgebpjaaW.PrintLast.i32_w]
    rfl
  refine Go.Proofs.YtpbampnbgebpjaaW.PrintLast.pure_ (i := 2) (N := some 22) (v := ?_) (a' := ?_) #[true, true, true, false, false, false, false, false, false, false, false, false, false, false] rfl rfl (by kernel_rfl) (fun _ _ _ h => h) (Or.inl ⟨by rfl, ?_⟩) ?_ ?_
  rotate_left
  · intro w'
    go_simp
    with_reducible rfl
  rotate_left
  · simp only [Act.put, List.setIfInBounds_toArray, List.set_cons_zero, List.set_cons_succ, Go.Proofs.YtpbampnbgebpjaaW.PrintLast.i64_w, Go.Proofs.YtpbampnbgebpjaaW.PrintLast.i32_w]
    rfl
  refine Go.Proofs.YtpbampnbgebpjaaW.PrintLast.pure_ (i := 3) (N := some 23) (v := ?_) (a' := ?_) #[true, true, true, true, false, false, false, false, false, false, false, false, false, false] rfl rfl (by kernel_rfl) (fun _ _ _ h => h) (Or.inl ⟨by rfl, ?_⟩) ?_ ?_
  rotate_left
  · intro w'
    go_simp
    with_reducible rfl
  rotate_left
  · simp only [Act.put, List.setIfInBounds_toArray, List.set_cons_zero, List.set_cons_succ, Go.Proofs.YtpbampnbgebpjaaW.PrintLast.i64_w, Go.Proofs.YtpbampnbgebpjaaW.PrintLast.i32_w]
    rfl
  refine Go.Proofs.YtpbampnbgebpjaaW.PrintLast.take_ (i := 4) (N := some 24) (v := ?_) (a' := ?_) #[true, true, true, true, true, false, false, false, false, false, false, false, false, false] rfl rfl (by kernel_rfl) (fun _ _ _ h => h) (Or.inl ⟨by rfl, ?_⟩) hHeld ?_ ?_
  rotate_left
  · rintro w' s0
    go_simp
    with_reducible rfl
  rotate_left
  · simp only [Act.put, List.setIfInBounds_toArray, List.set_cons_zero, List.set_cons_succ, Go.Proofs.YtpbampnbgebpjaaW.PrintLast.i64_w, Go.Proofs.YtpbampnbgebpjaaW.PrintLast.i32_w]
    rfl
  refine Go.Proofs.YtpbampnbgebpjaaW.PrintLast.pure_ (i := 5) (N := some 25) (v := ?_) (a' := ?_) #[true, true, true, true, true, true, false, false, false, false, false, false, false, false] rfl rfl (by kernel_rfl) (fun _ _ _ h => h) (Or.inl ⟨by rfl, ?_⟩) ?_ ?_
  rotate_left
  · intro w'
    go_simp
    with_reducible rfl
  rotate_left
  · simp only [Act.put, List.setIfInBounds_toArray, List.set_cons_zero, List.set_cons_succ, Go.Proofs.YtpbampnbgebpjaaW.PrintLast.i64_w, Go.Proofs.YtpbampnbgebpjaaW.PrintLast.i32_w]
    rfl
  refine Go.Proofs.YtpbampnbgebpjaaW.PrintLast.pure_ (i := 6) (N := some 26) (v := ?_) (a' := ?_) #[true, true, true, true, true, true, true, false, false, false, false, false, false, false] rfl rfl (by kernel_rfl) (fun _ _ _ h => h) (Or.inl ⟨by rfl, ?_⟩) ?_ ?_
  rotate_left
  · intro w'
    go_simp
    with_reducible rfl
  rotate_left
  · simp only [Act.put, List.setIfInBounds_toArray, List.set_cons_zero, List.set_cons_succ, Go.Proofs.YtpbampnbgebpjaaW.PrintLast.i64_w, Go.Proofs.YtpbampnbgebpjaaW.PrintLast.i32_w]
    rfl
  refine Go.Proofs.YtpbampnbgebpjaaW.PrintLast.one_ (i := 7) (N := some 27) #[true, true, true, true, true, true, true, true, false, false, false, false, false, false] rfl rfl (by kernel_rfl) (by decide) (fun K hK => ?_)
  refine Go.Proofs.YtpbampnbgebpjaaW.PrintLast.goes_ Try.func12 (by kernel_rfl) rfl #[.slice ba l.length bc] (by rfl) rfl rfl (by (try simp only [List.map_toArray, List.map_cons, List.map_nil]); first | done | rfl) ?_
  refine (full_any _ _ l (HBY.out.chg (Below.refl _ _).drew) HL.out).mono ?_
  rintro e w4 ⟨fu, rfl, hfu, hb4⟩
  obtain ⟨fa, fc, rfl⟩ := own_slice hfu
  have O4 := Lib.hid (show Own8 w4 _ l from ⟨_, hfu⟩)
  have HB4 := Lib.hid (show Below w.heap.size w w4 from (Below.refl _ w).drew.trans hb4)
  have HA4 := Lib.hid (HA.out.below HB4.out)
  have HR := Lib.hid HA4.out.hR
  obtain ⟨vs, hvl, hvs, hown⟩ := HA4.out.hL
  have HVL := Lib.hid hvl
  have HVS := Lib.hid hvs
  have HO := Lib.hid hown
  have HBW4 := Lib.hid (Nat.le_trans HBW.out HB4.out.size)
  clear hvl hvs hown hfu hb4
  refine ⟨_, rfl, ?_⟩
  refine hK.out _ _ (cell_up c2 HB4.out) (fun hHeld => ?_)
  clear hK K
  refine Go.Proofs.YtpbampnbgebpjaaW.PrintLast.norm_ (a' := ?_) ?_ ?_
  rotate_left
  · show Act.put _ (some 27) _ = _
    simp only [Act.put, List.setIfInBounds_toArray, List.set_cons_zero, List.set_cons_succ, Go.Proofs.YtpbampnbgebpjaaW.PrintLast.i64_w, Go.Proofs.YtpbampnbgebpjaaW.PrintLast.i32_w]
    rfl
  refine Go.Proofs.YtpbampnbgebpjaaW.PrintLast.pure_ (i := 8) (N := some 28) (v := ?_) (a' := ?_) #[true, true, true, true, true, true, true, true, true, false, false, false, false, false] rfl rfl (by kernel_rfl) (fun _ _ _ h => h) (Or.inl ⟨by rfl, ?_⟩) ?_ ?_
  rotate_left
  · intro w'
    go_simp
    with_reducible rfl
  rotate_left
  · simp only [Act.put, List.setIfInBounds_toArray, List.set_cons_zero, List.set_cons_succ, Go.Proofs.YtpbampnbgebpjaaW.PrintLast.i64_w, Go.Proofs.YtpbampnbgebpjaaW.PrintLast.i32_w]
    rfl
  refine Go.Proofs.YtpbampnbgebpjaaW.PrintLast.one_ (i := 9) (N := some 29) #[true, true, true, true, true, true, true, true, true, true, false, false, false, false] rfl rfl (by kernel_rfl) (by decide) (fun K hK => ?_)
  refine Go.Proofs.YtpbampnbgebpjaaW.PrintLast.value_ (w1 := w4.alloc (.cells #[.int .i64 i, .slice fa 128 fc, .bool false] 64)) (v := .slice (some ⟨w4.heap.size, 0, none⟩) 1 1) (by rfl) rfl (by go_simp) ?_
  refine hK.out _ _ (cell_al _ hHeld) (fun hHeld => ?_)
  clear hK K
  refine Go.Proofs.YtpbampnbgebpjaaW.PrintLast.norm_ (a' := ?_) ?_ ?_
  rotate_left
  · show Act.put _ (some 29) _ = _
    simp only [Act.put, List.setIfInBounds_toArray, List.set_cons_zero, List.set_cons_succ, Go.Proofs.YtpbampnbgebpjaaW.PrintLast.i64_w, Go.Proofs.YtpbampnbgebpjaaW.PrintLast.i32_w]
    rfl
  refine Go.Proofs.YtpbampnbgebpjaaW.PrintLast.one_ (i := 10) (N := some 30) #[true, true, true, true, true, true, true, true, true, true, true, false, false, false] rfl rfl (by kernel_rfl) (by decide) (fun K hK => ?_)
  refine step_append_cells (w0 := w4) (W := w4) base (by rfl) (.tmp 24) (.tmp 29) 46 64 (.agg #[.int .i64 0, .slice none 0 0, .bool false]) 3 40 rfl Try.underlying46 info_ent (by rfl) (by decide) (by decide) (.slice la d.l.length lc) d.l.length (entRow d.l vs) [.int .i64 i, .slice fa 128 fc, .bool false] (by rfl) (by rfl) (by rfl) (by intro u hu; simp only [List.mem_cons, List.not_mem_nil, or_false] at hu; rcases hu with rfl | rfl | rfl <;> rfl) HO.out (Below.refl _ _) HBW4.out (by have := HN.out; omega) (fun v1 w3 h3 _ hg hat => ?_)
  obtain ⟨na, nc, rfl⟩ := own_slice h3
  have hRg : w3.heap[R]? = some (.cells #[.int .i64 d.N, fv, .slice la d.l.length lc] 48 (0, 0)) := (hg.block R (lt_of_heap HR.out) (fun q => by obtain ⟨cur, hc⟩ := (own_kind HO.out q.symm).2; rw [HR.out] at hc; cases hc)).trans HR.out
  have hf3 : w3.frozen? ⟨R, 2, none⟩ = false := free_of hRg
  have hc3 : w3.cell? ⟨R, 2, none⟩ = some (.slice la d.l.length lc) := cell_of hRg rfl
  have HP4 := RfAt.put (x := ⟨i, l, false⟩) HBW4.out HA4.out vs HVL.out HVS.out HO.out h3 hg hat (fun _ => O4.out)
  have HP := Lib.hid (And.intro HP4.1 ((Chg.of_below HB4.out HBW.out).trans HP4.2))
  clear HP4 h3 hg hat hRg
  refine hK.out _ _ hc3 (fun hHeld => ?_)
  clear hK K
  refine Go.Proofs.YtpbampnbgebpjaaW.PrintLast.norm_ (a' := ?_) ?_ ?_
  rotate_left
  · show Act.put _ (some 30) _ = _
    simp only [Act.put, List.setIfInBounds_toArray, List.set_cons_zero, List.set_cons_succ, Go.Proofs.YtpbampnbgebpjaaW.PrintLast.i64_w, Go.Proofs.YtpbampnbgebpjaaW.PrintLast.i32_w]
    rfl
  refine Go.Proofs.YtpbampnbgebpjaaW.PrintLast.pure_ (i := 11) (N := some 31) (v := ?_) (a' := ?_) #[true, true, true, true, true, true, true, true, true, true, true, true, false, false] rfl rfl (by kernel_rfl) (fun _ _ _ h => h) (Or.inl ⟨by rfl, ?_⟩) ?_ ?_
  rotate_left
  · intro w'
    go_simp
    with_reducible rfl
  rotate_left
  · simp only [Act.put, List.setIfInBounds_toArray, List.set_cons_zero, List.set_cons_succ, Go.Proofs.YtpbampnbgebpjaaW.PrintLast.i64_w, Go.Proofs.YtpbampnbgebpjaaW.PrintLast.i32_w]
    rfl
  refine Go.Proofs.YtpbampnbgebpjaaW.PrintLast.pure_ (i := 12) (N := some 32) (v := ?_) (a' := ?_) #[true, true, true, true, true, true, true, true, true, true, true, true, true, false] rfl rfl (by kernel_rfl) (fun _ _ _ h => h) (Or.inl ⟨by rfl, ?_⟩) ?_ ?_
  rotate_left
  · intro w'
    go_simp
    with_reducible rfl
  rotate_left
  · simp only [Act.put, List.setIfInBounds_toArray, List.set_cons_zero, List.set_cons_succ, Go.Proofs.YtpbampnbgebpjaaW.PrintLast.i64_w, Go.Proofs.YtpbampnbgebpjaaW.PrintLast.i32_w]
    rfl
  refine Go.Proofs.YtpbampnbgebpjaaW.PrintLast.last_ (i := 13) (N := none) #[true, true, true, true, true, true, true, true, true, true, true, true, true, true] rfl rfl (by kernel_rfl) (by decide) (fun K hK => ?_)
  refine Go.Proofs.YtpbampnbgebpjaaW.PrintLast.skip_ (w1 := w3.setCell ⟨R, 2, none⟩ (.slice na (d.l.length + 1) nc)) (by rfl) rfl (by go_simp) ?_
  refine hK.out _ _ ?_
  clear hK K
  refine Go.Proofs.YtpbampnbgebpjaaW.PrintLast.done_ (by kernel_rfl) ?_
  go_wp2_with fail
  go_ret
  exact ⟨rfl, HP.out.1, HP.out.2⟩
end Dk
end Go.Proofs.Ytpbampnbgebpjaa

namespace Go.Proofs.Ytpbampnbgebpjaa
open Go.RowKit Go.Proofs.YtpbampnbgebpjaaW.PrintWords Go.Proofs.YtpbampnbgebpjaaW.PrintLast
set_option linter.unusedVariables false
set_option linter.unusedSimpArgs false
namespace Dk

theorem full_full (b : List Int) (h : b.length ≤ 128) : full (full b) = full b := by
  have h1 := full_len b h
  show full b ++ List.replicate (128 - (full b).length) 0 = full b
  rw [h1]
  simp
/-- bytes that lie somewhere are of a whole sector -/
theorem full_own (w : World) (v : Value) (b : List Int) (h : Own8 w v b) (hb : b.length ≤ 128) (hby : IsBy b) : Calls Try.prog 12 #[v] w fun e w' => ∃ u, e = .returned u ∧ Own8 w' u b ∧ Below w.heap.size w w' := by
  obtain ⟨b0, h⟩ := h
  obtain ⟨g, c, rfl, _, hc, _, hcell⟩ := row_open h
  have hl := full_len b hb
  refine (full_any w _ (full b) ⟨some ⟨g, 0, none⟩, c, by rw [hl], full_by hby, by omega, fun j hj => ⟨_, rfl, ?_⟩⟩ (by omega)).mono ?_
  · have e : (⟨g, 0, none⟩ : Addr).add j = ⟨g, j, none⟩ := by unfold Addr.add; split <;> simp_all
    rw [e]
    exact hcell j (by omega)
  · rintro e w' ⟨u, he, ho, hbl⟩
    rw [full_full b hb] at ho
    exact ⟨u, he, ⟨_, ho⟩, hbl⟩
def lastB (es : List Ent) (i : Int) (b0 : List Int) : List Int := es.foldl (fun acc e => if e.i = i ∧ e.s = false then e.b else acc) b0
theorem lastB_take (es : List Ent) (i : Int) (b0 : List Int) (k : Nat) (h : k < es.length) : lastB (es.take (k + 1)) i b0 = if es[k].i = i ∧ es[k].s = false then es[k].b else lastB (es.take k) i b0 := by
  unfold lastB
  rw [List.take_add_one, List.getElem?_eq_getElem h, List.foldl_append]
  rfl
/-- what holds of entries: bytes of a sector at most -/
def EOk (es : List Ent) : Prop := ∀ e ∈ es, e.b.length ≤ 128 ∧ IsBy e.b
def LR (base : Nat) (w : World) (R : Nat) (d : RfD) (es : List Ent) (i : Int) (b0 : List Int) (v j : Value) (wr : World) : Prop := ∃ k : Nat, j = .int .i64 k ∧ k ≤ es.length ∧ Own8 wr v (lastB (es.take k) i b0) ∧ IsRf base wr R d ∧ Below w.heap.size w wr
theorem IsRf.parts {base : Nat} {w : World} {R : Nat} {d : RfD} (h : IsRf base w R d) : ∃ fa fc la lc, w.cell? ⟨R, 0, none⟩ = some (.int .i64 d.N) ∧ w.cell? ⟨R, 1, none⟩ = some (.slice fa d.first.length fc) ∧ w.cell? ⟨R, 2, none⟩ = some (.slice la d.l.length lc) ∧
    (∀ j (hj : j < d.first.length), ∃ ad, fa = some ad ∧ EntAt w (ad.add (j * 3)) d.first[j]) ∧ (∀ j (hj : j < d.l.length), ∃ ad, la = some ad ∧ EntAt w (ad.add (j * 3)) d.l[j]) := by
  obtain ⟨fv, lv, h⟩ := h
  obtain ⟨fa, fc, rfl, hf⟩ := h.hF.ent
  obtain ⟨la, lc, rfl, hl⟩ := h.hL.ent
  obtain ⟨c0, c1, c2⟩ := h.cells
  exact ⟨fa, fc, la, lc, c0, c1, c2, hf, hl⟩
set_option maxHeartbeats 2000000 in
set_option maxRecDepth 100000 in
theorem read_ref (base : Nat) (w : World) (R : Nat) (d : RfD) (i : Int) (h : IsRf base w R d) (h0 : 0 ≤ i) (h1 : i < d.N) (hf : EOk d.first) (hl : EOk d.l) (hfs : ∀ e ∈ d.first, e.s = false) (hn : d.first.length ≤ 1000000 ∧ d.l.length ≤ 1000000) :
    Calls Try.prog 20 #[.pointer (some ⟨R, 0, none⟩), .int .i64 i] w fun e w' => ∃ v, e = .returned (.tuple #[v, .int .i64 0]) ∧ Own8 w' v (lastB d.l i (lastB d.first i [])) ∧ Below w.heap.size w w' := by
  have t1 : decide (i < 0) = false := decide_eq_false (by omega)
  have t2 : decide (d.N ≤ i) = false := decide_eq_false (by omega)
  obtain ⟨_, _, _, _, c0, _⟩ := h.parts
  have HI := Lib.hid h
  have HF := Lib.hid hf
  have HL := Lib.hid hl
  have HFS := Lib.hid hfs
  have hn1 := hn.1
  have hn2 := hn.2
  clear h hf hl hfs h0 h1 hn
  go_enter Try.func20, Try.ntmps20
  go_wp2_with fail
  refine (full_any _ (.slice none 0 0) [] ⟨none, 0, rfl, (fun c hc => by simp at hc), by simp, fun j hj => by simp at hj⟩ (by simp)).mono ?_
  rintro e w1 ⟨u, rfl, ho, hb⟩
  obtain ⟨ua, uc, rfl⟩ := own_slice ho
  have HO := Lib.hid (show Own8 w1 _ [] from ⟨_, ho⟩)
  have HI1 := Lib.hid (HI.out.below hb)
  have HB := Lib.hid hb
  clear ho hb c0 HI
  go_wp2_with fail
  go_loopw [6, 7] (fun v j wr => LR base w R d d.first i [] v j wr) (fun _ j _ => 1000001 - (intOf j).toNat)
  case atStart => exact ⟨0, rfl, Nat.zero_le _, HO.out, HI1.out, HB.out⟩
  case round =>
    obtain ⟨k, rfl, hk, hv, hi, hbb⟩ := hrel
    obtain ⟨fa, fc, la, lc, c0, c1, c2, hef, hel⟩ := hi.parts
    obtain ⟨bz, hv'⟩ := hv
    obtain ⟨va, vc, rfl⟩ := own_slice hv'
    have HV := Lib.hid (show Own8 wr _ (lastB (d.first.take k) i []) from ⟨_, hv'⟩)
    have HI := Lib.hid hi
    have HBB := Lib.hid hbb
    have HEF := Lib.hid hef
    clear hv' hi hbb hef hel HO HI1 HB
    by_cases hkl : k < d.first.length
    · have t3 : decide (k < d.first.length) = true := decide_eq_true hkl
      obtain ⟨ad, rfl, eu, e0, e1, _, e3⟩ := HEF.out k hkl
      have hm : d.first[k] ∈ d.first := List.getElem_mem hkl
      have hok := HF.out _ hm
      have hs := HFS.out _ hm
      have hlt := lastB_take d.first i [] k hkl
      obtain ⟨bu, hou⟩ := e3 hs
      obtain ⟨ea, ec, rfl⟩ := own_slice hou
      have HOU := Lib.hid (show Own8 wr _ d.first[k].b from ⟨_, hou⟩)
      have HOK := Lib.hid hok
      have HLT := Lib.hid hlt
      clear hou hok hlt e3 hm
      by_cases hi : d.first[k].i = i
      · have t4 : (d.first[k].i == i) = true := by rw [hi]; exact beq_self_eq_true i
        have HIE := Lib.hid hi
        clear hi
        go_wp2_with fail
        refine (full_own _ _ _ HOU.out HOK.out.1 HOK.out.2).mono ?_
        rintro e w2 ⟨x, rfl, ho2, hb2⟩
        obtain ⟨bx, ho2'⟩ := ho2
        obtain ⟨xa, xc, rfl⟩ := own_slice ho2'
        have HO2 := Lib.hid (show Own8 w2 _ d.first[k].b from ⟨_, ho2'⟩)
        have HB2 := Lib.hid hb2
        clear ho2' hb2
        go_wp2_with fail
        go_roundw
        case rel => exact ⟨k + 1, by go_num, by omega, by rw [HLT.out, if_pos ⟨HIE.out, hs⟩]; exact HO2.out, HI.out.below HB2.out, bel HBB.out HB2.out⟩
        case measure => simp [intOf]; omega
      · have t4 : (d.first[k].i == i) = false := beq_false_of_ne hi
        have HIE := Lib.hid hi
        clear hi
        go_wp2_with fail
        go_roundw
        case rel => exact ⟨k + 1, by go_num, by omega, by rw [HLT.out, if_neg (fun q => HIE.out q.1)]; exact HV.out, HI.out, HBB.out⟩
        case measure => simp [intOf]; omega
    · have t3 : decide (k < d.first.length) = false := decide_eq_false (by omega)
      have ek : k = d.first.length := by omega
      subst ek
      have HV2 := Lib.hid (show Own8 wr _ (lastB d.first i []) by have := HV.out; rwa [List.take_length] at this)
      clear HV HEF
      go_wp2_with fail
      go_loopw [6, 8] (fun v j wr => LR base w R d d.l i (lastB d.first i []) v j wr) (fun _ j _ => 1000001 - (intOf j).toNat)
      case atStart => exact ⟨0, rfl, Nat.zero_le _, HV2.out, HI.out, HBB.out⟩
      case round =>
        clear c0 c1 c2 HBB HI HV2
        obtain ⟨k, rfl, hk, hv, hi, hbb⟩ := hrel
        obtain ⟨fa, fc, la, lc, c0, c1, c2, hef, hel⟩ := hi.parts
        obtain ⟨bz, hv'⟩ := hv
        obtain ⟨va, vc, rfl⟩ := own_slice hv'
        have HV := Lib.hid (show Own8 wr _ (lastB (d.l.take k) i (lastB d.first i [])) from ⟨_, hv'⟩)
        have HI := Lib.hid hi
        have HBB := Lib.hid hbb
        have HEL := Lib.hid hel
        clear hv' hi hbb hef hel
        by_cases hkl : k < d.l.length
        · have t3 : decide (k < d.l.length) = true := decide_eq_true hkl
          obtain ⟨ad, rfl, eu, e0, e1, e2, e3⟩ := HEL.out k hkl
          have HOK := Lib.hid (HL.out _ (List.getElem_mem hkl))
          have HLT := Lib.hid (lastB_take d.l i (lastB d.first i []) k hkl)
          have HE3 := Lib.hid e3
          clear e3
          by_cases hi : d.l[k].i = i
          · have t4 : (d.l[k].i == i) = true := by rw [hi]; exact beq_self_eq_true i
            have HIE := Lib.hid hi
            clear hi
            cases hs : d.l[k].s
            · obtain ⟨bu, hou⟩ := HE3.out hs
              obtain ⟨ea, ec, rfl⟩ := own_slice hou
              have HOU := Lib.hid (show Own8 wr _ d.l[k].b from ⟨_, hou⟩)
              have HSS := Lib.hid hs
              rw [hs] at e2
              clear hou hs
              go_wp2_with fail
              refine (full_own _ _ _ HOU.out HOK.out.1 HOK.out.2).mono ?_
              rintro e w2 ⟨x, rfl, ho2, hb2⟩
              obtain ⟨bx, ho2'⟩ := ho2
              obtain ⟨xa, xc, rfl⟩ := own_slice ho2'
              have HO2 := Lib.hid (show Own8 w2 _ d.l[k].b from ⟨_, ho2'⟩)
              have HB2 := Lib.hid hb2
              clear ho2' hb2
              go_wp2_with fail
              go_roundw
              case rel => exact ⟨k + 1, by go_num, by omega, by rw [HLT.out, if_pos ⟨HIE.out, HSS.out⟩]; exact HO2.out, HI.out.below HB2.out, bel HBB.out HB2.out⟩
              case measure => simp [intOf]; omega
            · have HSS := Lib.hid hs
              rw [hs] at e2
              clear hs
              go_wp2_with fail
              go_roundw
              case rel => exact ⟨k + 1, by go_num, by omega, by rw [HLT.out, if_neg (fun q => by rw [HSS.out] at q; cases q.2)]; exact HV.out, HI.out, HBB.out⟩
              case measure => simp [intOf]; omega
          · have t4 : (d.l[k].i == i) = false := beq_false_of_ne hi
            have HIE := Lib.hid hi
            clear hi
            go_wp2_with fail
            go_roundw
            case rel => exact ⟨k + 1, by go_num, by omega, by rw [HLT.out, if_neg (fun q => HIE.out q.1)]; exact HV.out, HI.out, HBB.out⟩
            case measure => simp [intOf]; omega
        · have t3 : decide (k < d.l.length) = false := decide_eq_false (by omega)
          have ek : k = d.l.length := by omega
          subst ek
          have HV3 := Lib.hid (show Own8 wr _ (lastB d.l i (lastB d.first i [])) by have := HV.out; rwa [List.take_length] at this)
          clear HV HEL
          go_wp2_with fail
          go_ret2
          exact ⟨_, rfl, HV3.out, HBB.out⟩
end Dk
end Go.Proofs.Ytpbampnbgebpjaa

namespace Go.Proofs.Ytpbampnbgebpjaa
open Go.RowKit Go.Proofs.YtpbampnbgebpjaaW.PrintWords Go.Proofs.YtpbampnbgebpjaaW.PrintLast
set_option linter.unusedVariables false
set_option linter.unusedSimpArgs false
namespace Dk

/-- the last sync's place among the first k -/
def syncAt (es : List Ent) : Nat → Nat
  | 0 => 0
  | k + 1 => if (es.getD k ⟨0, [], false⟩).s then k else syncAt es k
theorem syncAt_le (es : List Ent) : ∀ k, syncAt es k ≤ k
  | 0 => Nat.le_refl _
  | k + 1 => by simp only [syncAt]; split <;> have := syncAt_le es k <;> omega
theorem add_add (a : Addr) (n m : Nat) : (a.add n).add m = a.add (n + m) := by
  unfold Addr.add
  by_cases hn : n = 0
  · subst hn; simp
  · by_cases hm : m = 0
    · subst hm; simp [hn]
    · simp [hn, hm, Nat.add_assoc]
theorem drop_in {w : World} {la : Option Addr} {l : List Ent} {c : Nat} (h : ∀ j (hj : j < l.length), ∃ ad, la = some ad ∧ EntAt w (ad.add (j * 3)) l[j]) (m : Nat) : EntIn w (.slice (Option.map (fun x => x.add (m * 3)) la) (l.length - m) c) (l.drop m) := by
  refine ⟨_, c, by rw [List.length_drop], fun j hj => ?_⟩
  rw [List.length_drop] at hj
  obtain ⟨ad, e, he⟩ := h (m + j) (by omega)
  subst e
  refine ⟨_, rfl, ?_⟩
  rw [add_add, ← Nat.add_mul, List.getElem_drop]
  exact he
end Dk
end Go.Proofs.Ytpbampnbgebpjaa

namespace Go.Proofs.Ytpbampnbgebpjaa
open Go.RowKit Go.Proofs.YtpbampnbgebpjaaW.PrintWords Go.Proofs.YtpbampnbgebpjaaW.PrintLast
set_option linter.unusedVariables false
set_option linter.unusedSimpArgs false
namespace Dk

def LP (w : World) (l : List Ent) (n i : Value) (wr : World) : Prop := ∃ k : Nat, i = .int .i64 k ∧ n = .int .i64 (syncAt l k) ∧ k ≤ l.length ∧ w = wr
set_option maxHeartbeats 1000000 in
theorem pend_ref (base : Nat) (w : World) (R : Nat) (d : RfD) (h : IsRf base w R d) (hn : d.l.length ≤ 1000000) : Calls Try.prog 31 #[.pointer (some ⟨R, 0, none⟩)] w fun e w' => e = .returned (.int .i64 (nW (d.l.drop (syncAt d.l d.l.length)))) ∧ w = w' := by
  have HI := Lib.hid h
  obtain ⟨fa, fc, la, lc, c0, c1, c2, hef, hel⟩ := h.parts
  have HEL := Lib.hid hel
  clear hel hef c0 c1 h
  go_enter Try.func31, Try.ntmps31
  go_wp2_with fail
  go_loopw [3, 4] (fun n i wr => LP w d.l n i wr) (fun _ i _ => 1000001 - (intOf i).toNat)
  case atStart => exact ⟨0, rfl, rfl, Nat.zero_le _, rfl⟩
  case round =>
    obtain ⟨k, rfl, rfl, hk, rfl⟩ := hrel
    have hsl := syncAt_le d.l k
    by_cases hkl : k < d.l.length
    · have t1 : decide (k < d.l.length) = true := decide_eq_true hkl
      obtain ⟨ad, rfl, u, e0, e1, e2, _⟩ := HEL.out k hkl
      have hsy : syncAt d.l (k + 1) = if d.l[k].s then k else syncAt d.l k := by
        simp only [syncAt, List.getD_eq_getElem?_getD, List.getElem?_eq_getElem hkl, Option.getD_some]
      generalize d.l[k].s = s at e2 hsy
      generalize syncAt d.l k = m at hsy hsl ⊢
      cases s
      · go_wp2_with fail
        go_roundw
        case rel => exact ⟨k + 1, by go_num, by rw [hsy]; rfl, by omega, rfl⟩
        case measure => simp [intOf]; omega
      · go_wp2_with fail
        go_roundw
        case rel => exact ⟨k + 1, by go_num, by rw [hsy]; rfl, by omega, rfl⟩
        case measure => simp [intOf]; omega
    · have t1 : decide (k < d.l.length) = false := decide_eq_false (by omega)
      have ek : k = d.l.length := by omega
      subst ek
      have hcap : d.l.length ≤ lc := by
        obtain ⟨fv, lv, h⟩ := HI.out
        have c2' := h.cells.2.2
        rw [c2] at c2'
        cases c2'
        obtain ⟨vs, _, _, ho⟩ := h.hL
        rcases ho.2 with ⟨q, h0⟩ | ⟨g, cap, cur, q, q2, q3, q4, q5⟩
        · omega
        · cases q; omega
      generalize hm : syncAt d.l d.l.length = m at hsl ⊢
      have HDR := Lib.hid (drop_in (c := lc - m) HEL.out m)
      have HDL := Lib.hid (show (d.l.drop m).length ≤ 1000000 by rewrite [List.length_drop]; omega)
      go_wp2_with fail
      · refine (writes_ref w (.slice la (d.l.length - m) 0) (d.l.drop m) ⟨la, 0, by rewrite [List.length_drop]; rfl, fun j hj => by rewrite [List.length_drop] at hj; omega⟩ HDL.out).mono ?_
        rintro e w' ⟨rfl, rfl⟩
        go_wp2_with fail
        go_ret
        exact ⟨by subst hm; rfl, rfl⟩
      · refine (writes_ref w (.slice (Option.map (fun x => x.add (m * 3)) la) (d.l.length - m) (lc - m)) (d.l.drop m) HDR.out HDL.out).mono ?_
        rintro e w' ⟨rfl, rfl⟩
        go_wp2_with fail
        go_ret
        exact ⟨by subst hm; rfl, rfl⟩
end Dk
end Go.Proofs.Ytpbampnbgebpjaa
