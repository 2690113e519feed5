/- Texts of this claim, set one behind the other by a program: part 1. -/
import Derived.Test.YtcjhligknhpadaaDoorProg
import Derived.WalkKit
import Derived.Lib.Hide
import Derived.Laws.AppendOwn
import Derived.Below
import Derived.Outline
import Derived.MapKept
import Derived.WalkSpells
import Derived.Shelf.SlMaps.Clone
import Derived.Maps.AppendAt
import Derived.Deep.DeepFit
import Derived.Laws.CopyOwn
import Derived.RangeFuncRecord
import Derived.Test.YtcjhligknhpadaaDoorWWords
import Derived.Test.YtcjhligknhpadaaDoorWLast
import Derived.Deep.QuietTactic
import Derived.BigQuiet
import Derived.IntWalk
import Derived.WalkLawsBesides
import Derived.Lib.SlBytesConst
import Derived.Deep.Slices
import Derived.Deep.Fields
import Derived.Deep.Grids
import Derived.ChangeSame
import Derived.SizedLaws
import Derived.WideShapes
import Derived.OpenShut
import Derived.ChangeSlices
import Derived.Lib.SliceRun
import Derived.Lib.VarintMem
namespace Go.Proofs.YtcjhligknhpadaaDoor
open Go.RowKit
set_option linter.unusedVariables false
set_option linter.unusedSimpArgs false
namespace Dk
/-- blocks of bytes that disks' rows stand apart from -/
class Av where
  bad : Nat → Prop

/-- what may change: nothing below B, and of what lies above only objects of kind K; new objects may come -/
structure Chg (B : Nat) (K : Obj → Bool) (w w' : World) : Prop where
  os : w'.os = w.os
  tape : w'.tape = w.tape
  output : w'.output = w.output
  size : w.heap.size ≤ w'.heap.size
  old : ∀ i, i < B → w'.heap[i]? = w.heap[i]?
  keep : ∀ (i : Nat) (o : Obj), w.heap[i]? = some o → K o = false → w'.heap[i]? = some o
theorem Chg.refl (B : Nat) (K : Obj → Bool) (w : World) : Chg B K w w := ⟨rfl, rfl, rfl, Nat.le_refl _, fun _ _ => rfl, fun _ _ h _ => h⟩
theorem Chg.trans {B : Nat} {K : Obj → Bool} {w w1 w2 : World} (h : Chg B K w w1) (g : Chg B K w1 w2) : Chg B K w w2 :=
  ⟨g.os.trans h.os, g.tape.trans h.tape, g.output.trans h.output, Nat.le_trans h.size g.size, fun i hi => (g.old i hi).trans (h.old i hi), fun i o ho hk => g.keep i o (h.keep i o ho hk) hk⟩
theorem Chg.of_below {B : Nat} {K : Obj → Bool} {w w1 : World} (h : Below w.heap.size w w1) (hB : B ≤ w.heap.size) : Chg B K w w1 :=
  ⟨h.os, h.tape, h.output, h.size, fun i hi => h.block i (by omega), fun i o ho _ => (h.block i (Array.getElem?_eq_some_iff.1 ho).1).trans ho⟩
theorem Chg.below {B : Nat} {K : Obj → Bool} {w w1 : World} (h : Chg B K w w1) : Below B w w1 := ⟨h.os, h.tape, h.output, h.size, h.old⟩
def ikey : Value → Option Int
  | .int .i64 k => some k
  | _ => none
/-- the first entry of a key -/
def mget : List MapEntry → Int → Option Value
  | [], _ => none
  | e :: es, k => if ikey e.key = some k then some e.val else mget es k
def KeysInt (es : List MapEntry) : Prop := ∀ e ∈ es, ∃ k : Int, e.key = .int .i64 k
def fidx : List MapEntry → Int → Nat → Option (Nat × Value)
  | [], _, _ => none
  | e :: es, k, i => if ikey e.key = some k then some (i, e.val) else fidx es k (i + 1)
theorem findNow_int (k : Int) : ∀ (es : List MapEntry) (i : Nat), KeysInt es → Instr.findNow (.int .i64) (.int .i64 k) es i = some (fidx es k i)
  | [], i, _ => rfl
  | e :: es, i, h => by
    obtain ⟨k', hk⟩ := h e (by simp)
    have ih := findNow_int k es (i + 1) (fun d hd => h d (by simp [hd]))
    unfold Instr.findNow fidx
    rw [hk]
    by_cases e1 : k = k'
    · subst e1
      have e3 : ikey (Value.int .i64 k) = some k := rfl
      simp [Instr.sameNow, e3]
    · have e2 : ¬ ikey (Value.int .i64 k') = some k := fun q => e1 (Option.some.inj q).symm
      rw [if_neg e2, ← ih]
      simp [Instr.sameNow, beq_false_of_ne e1]
theorem fidx_get (k : Int) : ∀ (es : List MapEntry) (i : Nat), (fidx es k i).map Prod.snd = mget es k
  | [], _ => rfl
  | e :: es, i => by
    unfold fidx mget
    split
    · rfl
    · exact fidx_get k es (i + 1)
theorem fidx_at (k : Int) : ∀ (es : List MapEntry) (i j : Nat) (v : Value), fidx es k i = some (j, v) → i ≤ j ∧ ∃ h : j - i < es.length, ikey es[j - i].key = some k ∧ ∀ q, (h2 : q < j - i) → ¬ ikey (es[q]'(by omega)).key = some k
  | [], i, j, v, h => by simp [fidx] at h
  | e :: es, i, j, v, h => by
    unfold fidx at h
    split at h
    · rename_i he
      cases h
      exact ⟨Nat.le_refl _, by simp, by simpa using he, fun q hq => by omega⟩
    · rename_i he
      obtain ⟨h1, h2, h3, h4⟩ := fidx_at k es (i + 1) j v h
      refine ⟨by omega, by simp; omega, ?_, fun q hq => ?_⟩
      · have e1 : j - i = (j - (i + 1)) + 1 := by omega
        simp only [e1, List.getElem_cons_succ]
        exact h3
      · cases q with
        | zero => simpa using he
        | succ q =>
          simp only [List.getElem_cons_succ]
          exact h4 q (by omega)
theorem mget_mod (k : Int) (v : Value) : ∀ (es : List MapEntry) (j : Nat) (hj : j < es.length), ikey es[j].key = some k → (∀ q, (h2 : q < j) → ¬ ikey (es[q]'(by omega)).key = some k) → ∀ k2, mget (es.modify j fun e => { e with key := .int .i64 k, val := v }) k2 = if k2 = k then some v else mget es k2
  | [], j, hj, _, _, _ => by simp at hj
  | e :: es, 0, hj, h, _, k2 => by
    simp only [List.getElem_cons_zero] at h
    simp only [List.modify_zero_cons, mget]
    by_cases e1 : k2 = k
    · subst e1; simp [ikey]
    · have e2 : ¬ ikey (Value.int .i64 k) = some k2 := fun q => e1 (Option.some.inj q).symm
      rw [if_neg e2, if_neg e1, if_neg (fun q => e1 (Option.some.inj (q.symm.trans h)))]
  | e :: es, j + 1, hj, h, hq, k2 => by
    have h0 := hq 0 (by omega)
    simp only [List.getElem_cons_zero] at h0
    simp only [List.getElem_cons_succ] at h
    have ih := mget_mod k v es j (by simpa using hj) h (fun q hq2 => by have := hq (q + 1) (by omega); simpa using this) k2
    simp only [List.modify_succ_cons, mget, ih]
    by_cases e1 : k2 = k
    · subst e1
      rw [if_neg h0, if_pos rfl, if_pos rfl]
    · rw [if_neg e1, if_neg e1]
theorem mget_push (k : Int) (v : Value) (b : Nat) : ∀ (es : List MapEntry), mget es k = none → ∀ k2, mget (es ++ [⟨.int .i64 k, v, b⟩]) k2 = if k2 = k then some v else mget es k2
  | [], _, k2 => by
    simp only [List.nil_append, mget]
    by_cases e1 : k2 = k
    · subst e1; simp [ikey]
    · have e2 : ¬ ikey (Value.int .i64 k) = some k2 := fun q => e1 (Option.some.inj q).symm
      rw [if_neg e2, if_neg e1]
  | e :: es, h, k2 => by
    unfold mget at h
    split at h
    · cases h
    · rename_i he
      have ih := mget_push k v b es h k2
      simp only [List.cons_append, mget, ih]
      by_cases e1 : k2 = k
      · subst e1
        rw [if_neg he, if_pos rfl, if_pos rfl]
      · rw [if_neg e1, if_neg e1]
theorem KeysInt.mod {es : List MapEntry} (h : KeysInt es) (j : Nat) (k : Int) (v : Value) : KeysInt (es.modify j fun e => { e with key := .int .i64 k, val := v }) := by
  intro e he
  obtain ⟨i, hi, rfl⟩ := List.mem_iff_getElem.1 he
  rw [List.getElem_modify]
  split
  · exact ⟨k, rfl⟩
  · exact h _ (List.getElem_mem _)
theorem key_of {e : MapEntry} {k : Int} (h : ∃ k', e.key = .int .i64 k') (hk : ikey e.key = some k) : e.key = .int .i64 k := by
  obtain ⟨k', h⟩ := h
  rw [h] at hk ⊢
  rw [Option.some.inj hk]
theorem fidx_none (k : Int) (es : List MapEntry) (h : fidx es k 0 = none) : mget es k = none := by rw [← fidx_get k es 0, h]; rfl
def setMap (w : World) (M : Nat) (o : Obj) : World := { w with heap := w.heap.setIfInBounds M o }
theorem setMap_at {w : World} {M : Nat} {o : Obj} (h : M < w.heap.size) : (setMap w M o).heap[M]? = some o := by simp [setMap, h]
theorem setMap_ne {w : World} {M k : Nat} {o : Obj} (h : k ≠ M) : (setMap w M o).heap[k]? = w.heap[k]? := by simp [setMap, Array.getElem?_setIfInBounds_ne (Ne.symm h)]
theorem setMap_size (w : World) (M : Nat) (o : Obj) : (setMap w M o).heap.size = w.heap.size := by simp [setMap]
theorem setMap_cell {w : World} {M : Nat} {o : Obj} {a : Addr} (h : a.block ≠ M) : (setMap w M o).cell? a = w.cell? a := by
  simp only [World.cell?, setMap_ne h]
/-- a map of whole numbers is written -/
theorem run_mapUpdate {P : Program} {w : World} {t kt et : TypeId} {r : Nat} {es : Array MapEntry} {c : Nat} (ht : P.underlying t = some (.map kt et)) (hk : P.underlying kt = some (.int .i64)) (hb : w.heap[r]? = some (.map es c)) (hi : KeysInt es.toList) (k : Int) (v : Value) :
    ∃ es' c', (Instr.mapUpdate t (.map (some r)) (.int .i64 k) v).run P w = .ok () (setMap w r (.map es' c')) ∧ KeysInt es'.toList ∧ ∀ k2, mget es'.toList k2 = if k2 = k then some v else mget es.toList k2 := by
  have hf := findNow_int k es.toList 0 hi
  cases hx : fidx es.toList k 0 with
  | none =>
    rw [hx] at hf
    refine ⟨es.push ⟨.int .i64 k, v, c⟩, c + 1, ?_, ?_, ?_⟩
    · simp [setMap, Instr.mapUpdate, run_underlying ht, MapKept.run_getObj_map hb, MapKept.run_checkKey (P := P) (w := w) (k := .int .i64 k) hk rfl false 9999, MapKept.run_findKey (w := w) hk hf, MapKept.run_setObj_map _ hb, Result.andThen]
    · intro e he
      rw [Array.toList_push] at he
      rcases List.mem_append.1 he with he | he
      · exact hi e he
      · rw [List.mem_singleton.1 he]; exact ⟨k, rfl⟩
    · intro k2
      rw [Array.toList_push]
      exact mget_push k v c es.toList (fidx_none k _ hx) k2
  | some p =>
    obtain ⟨j, u⟩ := p
    rw [hx] at hf
    obtain ⟨_, h2, h3, h4⟩ := fidx_at k es.toList 0 j u hx
    simp only [Nat.sub_zero] at h2 h3 h4
    have hkey := key_of (hi _ (List.getElem_mem h2)) h3
    have hlt : j < es.size := by simpa using h2
    have hkey' : es[j].key = .int .i64 k := by simpa using hkey
    refine ⟨es.modify j fun e => { e with key := .int .i64 k, val := v }, c, ?_, ?_, ?_⟩
    · simp [setMap, Instr.mapUpdate, run_underlying ht, MapKept.run_getObj_map hb, MapKept.run_checkKey (P := P) (w := w) (k := .int .i64 k) hk rfl false 9999, MapKept.run_findKey (w := w) hk hf, MapKept.run_setObj_map _ hb, Result.andThen, hlt, hkey', Instr.keyThatStays, Instr.sameBits]
    · rw [Array.toList_modify]
      exact hi.mod j k v
    · intro k2
      rw [Array.toList_modify]
      exact mget_mod k v es.toList j h2 h3 h4 k2
theorem run_lookup {P : Program} {w : World} {t kt et : TypeId} {r : Nat} {es : Array MapEntry} {c : Nat} {z : Value} (ht : P.underlying t = some (.map kt et)) (hk : P.underlying kt = some (.int .i64)) (hz : (zeroValue et).run P w = .ok z w) (hb : w.heap[r]? = some (.map es c)) (hi : KeysInt es.toList) (k : Int) :
    (Instr.lookup t (.map (some r)) (.int .i64 k) false).run P w = .ok ((mget es.toList k).getD z) w := by
  have hf := findNow_int k es.toList 0 hi
  have hg := fidx_get k es.toList 0
  cases hx : fidx es.toList k 0 with
  | none =>
    rw [hx] at hf hg
    rw [← hg]
    simp [Instr.lookup, run_underlying ht, MapKept.run_getObj_map hb, MapKept.run_checkKey (P := P) (w := w) (k := .int .i64 k) hk rfl _ 9999, MapKept.run_findKey (w := w) hk hf, Result.andThen, hz]
  | some p =>
    rw [hx] at hf hg
    rw [← hg]
    simp [Instr.lookup, run_underlying ht, MapKept.run_getObj_map hb, MapKept.run_checkKey (P := P) (w := w) (k := .int .i64 k) hk rfl _ 9999, MapKept.run_findKey (w := w) hk hf, Result.andThen]
theorem own_move {w w' : World} {base : Nat} {e : TypeId} {size n : Nat} {v : Value} {xs : List Value} (h : w.ownsRow base e size v n xs) (hm : ∀ (g : Nat) (cur : Array Value), v.ownBlock = some g → w.heap[g]? = some (.cells cur e (0, 0)) → w'.heap[g]? = some (.cells cur e (0, 0))) : w'.ownsRow base e size v n xs := by
  refine ⟨h.1, ?_⟩
  rcases h.2 with q | ⟨g, cap, cur, q1, q2, q3, q4⟩
  · exact .inl q
  · exact .inr ⟨g, cap, cur, q1, q2, hm g cur (by rw [q1]; rfl) q3, q4⟩
theorem own_base {w : World} {base base' : Nat} {e : TypeId} {size n : Nat} {v : Value} {xs : List Value} (h : w.ownsRow base e size v n xs) (hb : base' ≤ base) : w.ownsRow base' e size v n xs := by
  refine ⟨h.1, ?_⟩
  rcases h.2 with q | ⟨g, cap, cur, q1, q2, q3, q4⟩
  · exact .inl q
  · exact .inr ⟨g, cap, cur, q1, by omega, q3, q4⟩
theorem cell_of {w : World} {D i : Nat} {cs : Array Value} {t : TypeId} {v : Value} (h : w.heap[D]? = some (.cells cs t (0, 0))) (h4 : cs[i]? = some v) : w.cell? ⟨D, i, none⟩ = some v := by simp [World.cell?, h, h4]
theorem free_of {w : World} {D i : Nat} {cs : Array Value} {t : TypeId} (h : w.heap[D]? = some (.cells cs t (0, 0))) : w.frozen? ⟨D, i, none⟩ = false := by simp [World.frozen?, h]
theorem cell_al {w : World} {a : Addr} {v : Value} (o : Obj) (h : w.cell? a = some v) : (w.alloc o).cell? a = some v := (World.grownBy_alloc w o none).cell h (by simp)
theorem own_slice {w : World} {base : Nat} {e : TypeId} {size n : Nat} {v : Value} {xs : List Value} (h : w.ownsRow base e size v n xs) : ∃ a c, v = .slice a n c := by
  rcases h.2 with ⟨q, h0⟩ | ⟨g, cap, cur, q, _⟩
  · exact ⟨_, _, by rw [q, h0]⟩
  · exact ⟨_, _, q⟩
/-- the objects of disks -/
def DK : Obj → Bool
  | .cells _ t _ => t == 82 || t == 97 || t == 3
  | .map _ _ => true
  | _ => false
def IsBy (l : List Int) : Prop := ∀ c ∈ l, 0 ≤ c ∧ c ≤ 255
/-- bytes, in a row that nobody writes -/
def Byts [av : Av] (w : World) (v : Value) (l : List Int) : Prop := (IsBy l ∧ ∀ g, v.ownBlock = some g → ¬ av.bad g) ∧ w.ownsRow 0 5 1 v l.length (l.map (Value.int .u8))
theorem Byts.nil [av : Av] (w : World) : Byts w (.slice none 0 0) [] := ⟨⟨fun c hc => by simp at hc, fun g hg => by cases hg⟩, World.ownsRow_nil w 0 5 1⟩
theorem Byts.keep [av : Av] {B : Nat} {w w' : World} {v : Value} {l : List Int} (h : Byts w v l) (hc : Chg B DK w w') : Byts w' v l :=
  ⟨h.1, own_move h.2 fun g cur _ hg => hc.keep g _ hg rfl⟩
theorem Byts.below [av : Av] {w w' : World} {v : Value} {l : List Int} (h : Byts w v l) (hc : Below w.heap.size w w') : Byts w' v l :=
  ⟨h.1, own_move h.2 fun g cur _ hg => (hc.block g (Array.getElem?_eq_some_iff.1 hg).1).trans hg⟩
/-- a map from numbers to bytes; none are no bytes -/
def MapB [av : Av] (w : World) (M : Nat) (m : Int → List Int) : Prop := ∃ es c, w.heap[M]? = some (.map es c) ∧ KeysInt es.toList ∧ ∀ k, Byts w ((mget es.toList k).getD (.slice none 0 0)) (m k)
theorem MapB.below [av : Av] {w w' : World} {M : Nat} {m : Int → List Int} (h : MapB w M m) (hc : Below w.heap.size w w') : MapB w' M m := by
  obtain ⟨es, c, h1, h2, h3⟩ := h
  exact ⟨es, c, (hc.block M (Array.getElem?_eq_some_iff.1 h1).1).trans h1, h2, fun k => (h3 k).below hc⟩
def rowOf (log : List (Int × List Int)) (vs : List Value) : List Value := (log.zip vs).flatMap fun p => [.int .i64 p.1.1, p.2]
theorem rowOf_snoc {log : List (Int × List Int)} {vs : List Value} (h : vs.length = log.length) (x : Int × List Int) (v : Value) : rowOf (log ++ [x]) (vs ++ [v]) = rowOf log vs ++ [.int .i64 x.1, v] := by
  unfold rowOf
  rw [List.zip_append h.symm]
  simp
def LogAt [av : Av] (base : Nat) (w : World) (lv : Value) (log : List (Int × List Int)) : Prop :=
  ∃ vs : List Value, vs.length = log.length ∧ (∀ p ∈ log.zip vs, Byts w p.2 p.1.2) ∧ w.ownsRow base 97 2 lv log.length (rowOf log vs)
theorem LogAt.below [av : Av] {base : Nat} {w w' : World} {lv : Value} {log : List (Int × List Int)} (h : LogAt base w lv log) (hc : Below w.heap.size w w') : LogAt base w' lv log := by
  obtain ⟨vs, h1, h2, h3⟩ := h
  exact ⟨vs, h1, fun p hp => (h2 p hp).below hc, own_move h3 fun g cur _ hg => (hc.block g (Array.getElem?_eq_some_iff.1 hg).1).trans hg⟩
structure Dsk where
  N : Int
  first : Int → List Int
  now : Int → List Int
  log : List (Int × List Int)
  syncs : List Int
/-- a disk lies at a block -/
structure DkAt [av : Av] (base : Nat) (w : World) (D F M : Nat) (lv sv : Value) (d : Dsk) : Prop where
  bD : base ≤ D
  bF : base ≤ F
  bM : base ≤ M
  ne : F ≠ M
  hD : w.heap[D]? = some (.cells #[.int .i64 d.N, .map (some F), .map (some M), lv, sv] 82 (0, 0))
  hF : MapB w F d.first
  hM : MapB w M d.now
  hL : LogAt base w lv d.log
  hS : w.ownsRow base 3 1 sv d.syncs.length (d.syncs.map (Value.int .i64))
def IsDk [av : Av] (base : Nat) (w : World) (D : Nat) (d : Dsk) : Prop := ∃ F M lv sv, DkAt base w D F M lv sv d
theorem DkAt.below [av : Av] {base : Nat} {w w' : World} {D F M : Nat} {lv sv : Value} {d : Dsk} (h : DkAt base w D F M lv sv d) (hc : Below w.heap.size w w') : DkAt base w' D F M lv sv d :=
  ⟨h.bD, h.bF, h.bM, h.ne, (hc.block D (Array.getElem?_eq_some_iff.1 h.hD).1).trans h.hD, h.hF.below hc, h.hM.below hc, h.hL.below hc, own_move h.hS fun g cur _ hg => (hc.block g (Array.getElem?_eq_some_iff.1 hg).1).trans hg⟩
theorem IsDk.below [av : Av] {base : Nat} {w w' : World} {D : Nat} {d : Dsk} (h : IsDk base w D d) (hc : Below w.heap.size w w') : IsDk base w' D d := by
  obtain ⟨F, M, lv, sv, h⟩ := h
  exact ⟨F, M, lv, sv, h.below hc⟩
theorem DkAt.cells [av : Av] {base : Nat} {w : World} {D F M : Nat} {lv sv : Value} {d : Dsk} (h : DkAt base w D F M lv sv d) :
    w.cell? ⟨D, 0, none⟩ = some (.int .i64 d.N) ∧ w.cell? ⟨D, 1, none⟩ = some (.map (some F)) ∧ w.cell? ⟨D, 2, none⟩ = some (.map (some M)) ∧ w.cell? ⟨D, 3, none⟩ = some lv ∧ w.cell? ⟨D, 4, none⟩ = some sv := by
  refine ⟨?_, ?_, ?_, ?_, ?_⟩ <;> simp [World.cell?, h.hD]
theorem DkAt.free [av : Av] {base : Nat} {w : World} {D F M : Nat} {lv sv : Value} {d : Dsk} (h : DkAt base w D F M lv sv d) :
    w.frozen? ⟨D, 1, none⟩ = false ∧ w.frozen? ⟨D, 2, none⟩ = false ∧ w.frozen? ⟨D, 3, none⟩ = false ∧ w.frozen? ⟨D, 4, none⟩ = false := by
  refine ⟨?_, ?_, ?_, ?_⟩ <;> simp [World.frozen?, h.hD]
/-- the empty disk -/
def Dsk.new (n : Int) : Dsk := ⟨n, fun _ => [], fun _ => [], [], []⟩
end Dk
end Go.Proofs.YtcjhligknhpadaaDoor

namespace Go.Proofs.YtcjhligknhpadaaDoor
open Go.RowKit
set_option linter.unusedVariables false
set_option linter.unusedSimpArgs false
namespace Dk

theorem has_yes (D : Nat) (n i : Int) (w : World) (hc : w.cell? ⟨D, 0, none⟩ = some (.int .i64 n)) (h0 : 0 ≤ i) (h1 : i < n) : Calls Tryd.prog 45 #[.pointer (some ⟨D, 0, none⟩), .int .i64 i] w fun e w' => e = .returned (.bool true) ∧ w = w' := by
  have h0' : decide (0 ≤ i) = true := decide_eq_true h0
  have h1' : decide (i < n) = true := decide_eq_true h1
  go_enter Tryd.func45, Tryd.ntmps45
  go_wp2
  go_ret
  exact ⟨rfl, rfl⟩
theorem has_no (D : Nat) (n i : Int) (w : World) (hc : w.cell? ⟨D, 0, none⟩ = some (.int .i64 n)) (h : i < 0 ∨ n ≤ i) : Calls Tryd.prog 45 #[.pointer (some ⟨D, 0, none⟩), .int .i64 i] w fun e w' => e = .returned (.bool false) ∧ w = w' := by
  by_cases h0 : 0 ≤ i
  · have h0' : decide (0 ≤ i) = true := decide_eq_true h0
    have h1' : decide (i < n) = false := decide_eq_false (by omega)
    clear h
    go_enter Tryd.func45, Tryd.ntmps45
    go_wp2
    go_ret
    exact ⟨rfl, rfl⟩
  · have h0' : decide (0 ≤ i) = false := decide_eq_false h0
    clear h
    go_enter Tryd.func45, Tryd.ntmps45
    go_wp2
    go_ret
    exact ⟨rfl, rfl⟩
theorem size_any (D : Nat) (n : Int) (w : World) (hc : w.cell? ⟨D, 0, none⟩ = some (.int .i64 n)) : Calls Tryd.prog 18 #[.pointer (some ⟨D, 0, none⟩)] w fun e w' => e = .returned (.int .i64 n) ∧ w = w' := by
  go_enter Tryd.func18, Tryd.ntmps18
  go_wp2
  go_ret
  exact ⟨rfl, rfl⟩
theorem size_nil (w : World) : Calls Tryd.prog 18 #[.pointer none] w fun e w' => e = .returned (.int .i64 0) ∧ w = w' := by
  go_enter Tryd.func18, Tryd.ntmps18
  go_wp2
  go_ret
  exact ⟨rfl, rfl⟩
theorem writes_any (D n c : Nat) (a : Option Addr) (w : World) (hc : w.cell? ⟨D, 3, none⟩ = some (.slice a n c)) : Calls Tryd.prog 27 #[.pointer (some ⟨D, 0, none⟩)] w fun e w' => e = .returned (.int .i64 n) ∧ w = w' := by
  go_enter Tryd.func27, Tryd.ntmps27
  go_wp2
  go_ret
  exact ⟨rfl, rfl⟩
theorem writes_nil (w : World) : Calls Tryd.prog 27 #[.pointer none] w fun e w' => e = .returned (.int .i64 0) ∧ w = w' := by
  go_enter Tryd.func27, Tryd.ntmps27
  go_wp2
  go_ret
  exact ⟨rfl, rfl⟩
theorem read_nil (i : Int) (w : World) : Calls Tryd.prog 30 #[.pointer none, .int .i64 i] w fun e w' => e = .returned (.tuple #[.slice none 0 0, .int .i64 1]) ∧ w = w' := by
  go_enter Tryd.func30, Tryd.ntmps30
  go_wp2
  go_ret2
  exact ⟨rfl, rfl⟩
theorem write_nil (i : Int) (v : Value) (w : World) : Calls Tryd.prog 53 #[.pointer none, .int .i64 i, v] w fun e w' => e = .returned (.int .i64 1) ∧ w = w' := by
  go_enter Tryd.func53, Tryd.ntmps53
  go_wp2
  go_ret
  exact ⟨rfl, rfl⟩
theorem sync_nil (w : World) : Calls Tryd.prog 54 #[.pointer none] w fun e w' => e = .returned (.tuple #[]) ∧ w = w' := by
  go_enter Tryd.func54, Tryd.ntmps54
  go_wp2
  go_end0
  exact ⟨rfl, rfl⟩
theorem pending_nil (w : World) : Calls Tryd.prog 20 #[.pointer none] w fun e w' => e = .returned (.int .i64 0) ∧ w = w' := by
  go_enter Tryd.func20, Tryd.ntmps20
  go_wp2_with (go_at_call 27; refine (writes_nil _).mono ?_; rintro e w' ⟨rfl, rfl⟩)
  go_ret
  exact ⟨rfl, rfl⟩
theorem cut_nil (v : Value) (w : World) : Calls Tryd.prog 25 #[.pointer none, v] w fun e w' => e = .returned (.pointer none) ∧ w = w' := by
  go_enter Tryd.func25, Tryd.ntmps25
  go_wp2
  go_ret
  exact ⟨rfl, rfl⟩
theorem cutat_nil (n : Int) (v : Value) (w : World) : Calls Tryd.prog 26 #[.pointer none, .int .i64 n, v] w fun e w' => e = .returned (.pointer none) ∧ w = w' := by
  go_enter Tryd.func26, Tryd.ntmps26
  go_wp2
  go_ret
  exact ⟨rfl, rfl⟩
end Dk
end Go.Proofs.YtcjhligknhpadaaDoor

namespace Go.Proofs.YtcjhligknhpadaaDoor
open Go.RowKit
set_option linter.unusedVariables false
set_option linter.unusedSimpArgs false
namespace Dk

set_option maxRecDepth 100000 in
theorem new_no (n : Int) (w : World) (h : n < 1 ∨ 4096 < n) : Calls Tryd.prog 16 #[.int .i64 n] w fun e w' => e = .returned (.tuple #[.pointer none, .int .i64 1]) ∧ w = w' := by
  by_cases h0 : n < 1
  · have h0' : decide (n < 1) = true := decide_eq_true h0
    clear h
    go_enter Tryd.func16, Tryd.ntmps16
    go_wp2
    go_ret2
    exact ⟨rfl, rfl⟩
  · have h0' : decide (n < 1) = false := decide_eq_false h0
    have h1' : decide (4096 < n) = true := decide_eq_true (by omega)
    clear h
    go_enter Tryd.func16, Tryd.ntmps16
    go_wp2
    go_ret2
    exact ⟨rfl, rfl⟩
set_option maxRecDepth 100000 in
theorem new_yes (n : Int) (w : World) (h0 : 1 ≤ n) (h1 : n ≤ 4096) : Calls Tryd.prog 16 #[.int .i64 n] w fun e w' => e = .returned (.tuple #[.pointer (some ⟨w.heap.size + 2, 0, none⟩), .int .i64 0]) ∧ w' = ((w.alloc (.map #[] 0)).alloc (.map #[] 0)).alloc (.cells #[.int .i64 n, .map (some w.heap.size), .map (some (w.heap.size + 1)), .slice none 0 0, .slice none 0 0] 82) := by
  have h0' : decide (n < 1) = false := decide_eq_false (by omega)
  have h1' : decide (4096 < n) = false := decide_eq_false (by omega)
  have hmm := @run_makeMap Tryd.prog
  go_enter Tryd.func16, Tryd.ntmps16
  go_wp2
  go_ret2
  exact ⟨rfl, rfl⟩
set_option maxRecDepth 100000 in
theorem clone_map (M : Nat) (es : Array MapEntry) (c : Nat) (w : World) (hb : w.heap[M]? = some (.map es c)) : Calls Tryd.prog 55 #[.map (some M)] w fun e w' => e = .returned (.map (some w.heap.size)) ∧ w' = w.alloc (.map es c) := by
  have hq := fun w => run_eql_map_nil_sl (P := Tryd.prog) w 78 _ _ (some M) Tryd.underlying78
  go_enter Tryd.func55, Tryd.ntmps55
  go_wp2
  rw [run_callFunc_extern Tryd.func60 (by kernel_rfl) (by kernel_rfl) (by kernel_rfl) (e := Extern.MapsClone.clone) (by kernel_rfl), run_maps_clone_sl w 78 hb]
  simp only [Result.andThen]
  rw [Oper.upon_value]
  go_wp2
  rw [run_typeAssert_map_sl _ 78 _ _ _ _ Tryd.underlying78]
  simp only [Result.andThen]
  rw [Oper.upon_value]
  go_wp2
  go_ret
  exact ⟨rfl, rfl⟩
set_option maxRecDepth 100000 in
theorem info_u8 : (Tryd.prog.info? 5).map (fun i => (i.zero, i.size, i.bytes)) = some (some (.int .u8 0), 1, 1) := by kernel_rfl
set_option maxRecDepth 100000 in
theorem bytes_at (a : Addr) (l : List Int) (w : World) (o : Obj) (h : ∀ i, i < l.length → w.cell? (a.add i) = some (.int .u8 (l.getD i 0))) : ∀ j u, (l.map (Value.int .u8))[j]? = some u → (w.alloc o).cell? (a.add j) = some u := by
  intro j u hu
  rw [List.getElem?_map] at hu
  cases hj : l[j]? with
  | none => rw [hj] at hu; cases hu
  | some x =>
    rw [hj] at hu
    obtain ⟨h1, h2⟩ := List.getElem?_eq_some_iff.1 hj
    have h3 := h j h1
    rw [List.getD_eq_getElem?_getD, hj] at h3
    cases hu
    exact (World.grownBy_alloc w o none).cell h3 (by simp)
set_option maxRecDepth 100000 in
theorem clone_bytes [av : Av] (A0 : Option Addr) (n c : Nat) (l : List Int) (w : World) (hl : l.length = n) (hn : n ≤ 1000000) (hav : ∀ g, w.heap.size ≤ g → ¬ av.bad g) (hb : IsBy l) (hc : ∀ i, i < n → ∃ a, A0 = some a ∧ w.cell? (a.add i) = some (.int .u8 (l.getD i 0))) : Calls Tryd.prog 37 #[.slice A0 n c] w fun e w' => ∃ v, e = .returned v ∧ Byts w' v l ∧ Below w.heap.size w w' := by
  cases A0 with
  | none =>
    have hn0 : n = 0 := by
      cases n with
      | zero => rfl
      | succ n => obtain ⟨a, h, _⟩ := hc 0 (by omega); cases h
    subst hn0
    obtain rfl : l = [] := List.eq_nil_of_length_eq_zero hl
    have hq := fun w => Lib.run_eql_slice_nil (P := Tryd.prog) w 22 5 none 0 c 0 0 Tryd.underlying22
    go_enter Tryd.func37, Tryd.ntmps37
    go_wp2
    go_ret
    exact ⟨_, rfl, Byts.nil _, Below.refl _ _⟩
  | some a =>
    have hq := fun w => Lib.run_eql_slice_nil (P := Tryd.prog) w 22 5 (some a) n c 0 0 Tryd.underlying22
    obtain ⟨i0, hi, hz0, hz1, hz2⟩ := info_parts info_u8
    have hown : (w.alloc (.cells #[] 5)).ownsRow w.heap.size 5 1 (.slice (some ⟨w.heap.size, 0, none⟩) 0 0) 0 [] := World.ownsRow_made w #[] 0 (Nat.le_refl _) (by decide) rfl
    have HC := Lib.hid hc
    have HAV := Lib.hid hav
    clear hav
    have HL := Lib.hid hl
    have HN := Lib.hid hn
    clear hc hl hn
    go_enter Tryd.func37, Tryd.ntmps37
    go_wp2_with (at_builtin; refine wpList_append_own _ rfl _ _ 22 rfl w.heap.size 5 i0 (.int .u8 0) 1 1 Tryd.underlying22 hi hz0 hz1 hz2 rfl (by decide) _ _ _ rfl hown a n c (l.map (Value.int .u8)) rfl ?c1 ?c2 ?c3 ?c4 ?c5 ?c6 ?_; (case c1 => rw [List.length_map, HL.out, Nat.mul_one]); (case c2 => exact bytes_at a l w _ (fun i hi => by obtain ⟨a2, e, h⟩ := HC.out i (by rw [← HL.out]; exact hi); cases e; exact h)); (case c3 => intro u hu; obtain ⟨x, _, rfl⟩ := List.mem_map.1 hu; rfl); (case c4 => have := HN.out; simp only [maxLen]; omega); (case c5 => have := HN.out; omega); (case c6 => simp))
    intro v' w1 hown' hg _
    have hown2 : w1.ownsRow w.heap.size 5 1 v' n (l.map (Value.int .u8)) := by simpa using hown'
    have HO := Lib.hid hown2
    clear hown2
    have HG := Lib.hid hg
    clear hown' hg
    go_wp2
    go_ret
    refine ⟨v', rfl, ⟨⟨hb, fun g hg => HAV.out g (by rcases HO.out.2 with ⟨q, _⟩ | ⟨g', _, _, q, q2, _⟩ <;> (rw [q] at hg; cases hg); exact q2)⟩, by rw [HL.out]; exact own_base HO.out (Nat.zero_le _)⟩, ?_⟩
    exact ((Below.refl _ _).alloc (Nat.le_refl _) _).grown HG.out (by simp) (fun k hk => by cases hk; exact Nat.le_refl _)
end Dk
end Go.Proofs.YtcjhligknhpadaaDoor

namespace Go.Proofs.YtcjhligknhpadaaDoor
open Go.RowKit
set_option linter.unusedVariables false
set_option linter.unusedSimpArgs false
namespace Dk

/-- bytes, and noughts behind them, a sector -/
def full (l : List Int) : List Int := l ++ List.replicate (128 - l.length) 0
theorem full_len (l : List Int) (h : l.length ≤ 128) : (full l).length = 128 := by simp [full]; omega
theorem full_by {l : List Int} (h : IsBy l) : IsBy (full l) := by
  intro c hc
  rcases List.mem_append.1 hc with hc | hc
  · exact h c hc
  · rw [(List.mem_replicate.1 hc).2]; omega
theorem bytes_cells [av : Av] {w : World} {A0 : Option Addr} {cap : Nat} {l : List Int} (h : Byts w (.slice A0 l.length cap) l) (hp : 0 < l.length) : ∃ ad, A0 = some ad ∧ ∀ j v, (l.map (Value.int .u8))[j]? = some v → w.cell? (ad.add j) = some v := by
  obtain ⟨hl, h2⟩ := h.2
  rcases h2 with ⟨q, h0⟩ | ⟨g, cap2, cur, q, q2, q3, q4⟩
  · omega
  · cases q
    exact ⟨_, rfl, fun j v hj => World.ownsRow.cells (w := w) (base := 0) (e := 5) (size := 1) h.2 (g := g) rfl j v hj⟩
/-- noughts in memory -/
def zs (n : Nat) : List Value := List.replicate n (.int .u8 0)
theorem zs_len (n : Nat) : (zs n).length = n := List.length_replicate
theorem splice_zs (l : List Int) (n : Nat) : splice (zs n) 0 (l.map (Value.int .u8)) = (l ++ List.replicate (n - l.length) 0).map (Value.int .u8) := by
  simp only [splice, zs, List.take_zero, List.nil_append, Nat.zero_add, List.length_map, List.map_append, List.map_replicate, List.drop_replicate]
theorem make128 (W : World) : (Instr.makeSlice 22 (.int .i64 128) (.int .i64 128)).run Tryd.prog W = .ok (.slice (some ⟨W.heap.size, 0, none⟩) 128 128) (W.alloc (.cells (zs 128).toArray 5)) := by kernel_rfl
theorem read_no [av : Av] (base : Nat) (w : World) (D : Nat) (i : Int) (d : Dsk) (h : IsDk base w D d) (hi : i < 0 ∨ d.N ≤ i) : Calls Tryd.prog 30 #[.pointer (some ⟨D, 0, none⟩), .int .i64 i] w fun e w' => e = .returned (.tuple #[.slice none 0 0, .int .i64 51]) ∧ w = w' := by
  obtain ⟨F, M, lv, sv, hd⟩ := h
  obtain ⟨c0, _⟩ := hd.cells
  have hH := fun W => has_no D d.N i W
  clear hd
  go_enter Tryd.func30, Tryd.ntmps30
  go_wp2_with (go_at_call 45; refine (has_no D d.N i _ c0 hi).mono ?_; rintro e w' ⟨rfl, rfl⟩)
  go_ret2
  exact ⟨rfl, rfl⟩
theorem read_yes [av : Av] (base : Nat) (w : World) (D : Nat) (i : Int) (d : Dsk) (h : IsDk base w D d) (h0 : 0 ≤ i) (h1 : i < d.N) (hl : (d.now i).length ≤ 128) : Calls Tryd.prog 30 #[.pointer (some ⟨D, 0, none⟩), .int .i64 i] w fun e w' => ∃ v, e = .returned (.tuple #[v, .int .i64 0]) ∧ w'.ownsRow w.heap.size 5 1 v 128 ((full (d.now i)).map (Value.int .u8)) ∧ Below w.heap.size w w' := by
  obtain ⟨F, M, lv, sv, hd⟩ := h
  obtain ⟨c0, _, c2, _⟩ := hd.cells
  obtain ⟨es, c, hm, hk, hv⟩ := hd.hM
  have hlk : ∀ o : Obj, (Instr.lookup 78 (.map (some M)) (.int .i64 i) false).run Tryd.prog (w.alloc o) = .ok ((mget es.toList i).getD (.slice none 0 0)) (w.alloc o) := fun o =>
    run_lookup Tryd.underlying78 Tryd.underlying3 (by kernel_rfl) (((World.grownBy_alloc w o none).block M (Array.getElem?_eq_some_iff.1 hm).1 (by simp)).trans hm) hk i
  have hb := hv i
  generalize (mget es.toList i).getD (.slice none 0 0) = u at hlk hb
  obtain ⟨A0, cap, rfl⟩ : ∃ A0 cap, u = .slice A0 (d.now i).length cap := by
    rcases hb.2.2 with ⟨q, h0⟩ | ⟨g, cap, cur, q, _⟩
    · rw [q, h0]; exact ⟨_, _, rfl⟩
    · exact ⟨_, _, q⟩
  have hDlt := (Array.getElem?_eq_some_iff.1 hd.hD).1
  have HB := Lib.hid hb
  clear hd hv hb hm hk
  have hmk := make128
  have HH0 := Lib.hid h0
  have HH1 := Lib.hid h1
  have HL := Lib.hid hl
  clear h0 h1 hl
  go_enter Tryd.func30, Tryd.ntmps30
  go_wp2_with (first | (go_at_call 45; refine (has_yes D d.N i _ c0 HH0.out HH1.out).mono ?_; rintro e w' ⟨rfl, rfl⟩) | (with_reducible refine wpList_copy_splice rfl (.tmp 16) (.tmp 22) 22 22 rfl 5 Tryd.underlying22 (by kernel_rfl) (some ⟨w.heap.size, 0, none⟩) A0 128 128 (d.now i).length cap rfl rfl w.heap.size 0 (zs 128) 5 ?g1 ((d.now i).map (Value.int .u8)) ?g2 ?g3 ?g4 ?g5 w.heap.size w ?g6 (Nat.le_refl _) ?_))
  case g1 => exact World.alloc_heap_new _ _
  case g2 => have := HL.out; rw [List.length_map]; exact (Nat.min_eq_left this).symm
  case g3 =>
    intro hp
    obtain ⟨ad, e, h⟩ := bytes_cells HB.out (by simpa using hp)
    exact ⟨ad, e, fun j x hj => (World.grownBy_alloc w _ none).cell (h j _ (by rw [List.getElem?_map, hj]; rfl)) (by simp)⟩
  case g4 => have := HL.out; rw [List.length_map, zs_len]; omega
  case g5 => intro v hv; obtain ⟨x, _, rfl⟩ := List.mem_map.1 hv; rfl
  case g6 => exact (Below.refl _ _).alloc (Nat.le_refl _) _
  intro w1 hw1 hb1
  have HW := Lib.hid hw1.out
  have HB1 := Lib.hid hb1
  clear hw1 hb1
  go_wp2
  go_ret2
  refine ⟨_, rfl, ⟨?_, .inr ⟨w.heap.size, 128, _, rfl, Nat.le_refl _, HW.out, Nat.le_refl _, by decide, ?_, ?_⟩⟩, HB1.out⟩
  · rw [List.length_map, full_len _ HL.out]
  · have := HL.out
    simp only [splice, List.size_toArray, List.length_append, List.length_take, List.length_drop, List.length_map, zs_len]
    omega
  · have := HL.out
    have e : (splice (zs 128) 0 ((d.now i).map (Value.int .u8))) = (full (d.now i)).map (Value.int .u8) := splice_zs _ 128
    show List.take _ (splice (zs 128) 0 ((d.now i).map (Value.int .u8))) = _
    rw [e, List.take_of_length_le (by rw [List.length_map, full_len _ this]; omega)]
end Dk
end Go.Proofs.YtcjhligknhpadaaDoor

namespace Go.Proofs.YtcjhligknhpadaaDoor
open Go.RowKit Go.Proofs.YtcjhligknhpadaaDoorW.PrintWords Go.Proofs.YtcjhligknhpadaaDoorW.PrintLast
set_option linter.unusedVariables false
set_option linter.unusedSimpArgs false
namespace Dk

theorem info_int : (Tryd.prog.info? 3).map (fun i => (i.zero, i.size, i.bytes)) = some (some (.int .i64 0), 1, 8) := by kernel_rfl
set_option maxHeartbeats 1000000 in
set_option maxRecDepth 100000 in
theorem sync_raw (base D n lc ns : Nat) (la : Option Addr) (sv : Value) (ss : List Value) (cs : Array Value) (w : World) (hD : w.heap[D]? = some (.cells cs 82 (0, 0))) (h3 : cs[3]? = some (.slice la n lc)) (h4 : cs[4]? = some sv)
    (hS : w.ownsRow base 3 1 sv ns ss) (hns : ns ≤ 1000000) (hb : base ≤ w.heap.size) (hne : sv.ownBlock ≠ some D) :
    Calls Tryd.prog 54 #[.pointer (some ⟨D, 0, none⟩)] w fun e w' => e = .returned (.tuple #[]) ∧ ∃ sv1 w3, w3.ownsRow base 3 1 sv1 (ns + 1) (ss ++ [.int .i64 n]) ∧ w.grownBy w3 sv.ownBlock ∧ (sv1.ownBlock = sv.ownBlock ∨ ∃ b, sv1.ownBlock = some b ∧ w.heap.size ≤ b) ∧ w' = w3.setCell ⟨D, 4, none⟩ sv1 := by
  have c3 : w.cell? ⟨D, 3, none⟩ = some (.slice la n lc) := by exact cell_of hD h3
  have c4 : w.cell? ⟨D, 4, none⟩ = some sv := by exact cell_of hD h4
  have HD := Lib.hid (show w.heap[D]? = some (.cells cs 82 (0, 0)) from hD)
  have H3 := Lib.hid h3
  have H4 := Lib.hid h4
  have HS := Lib.hid hS
  have HNS := Lib.hid hns
  have HBS := Lib.hid hb
  have HDL := Lib.hid (Array.getElem?_eq_some_iff.1 hD).1
  have HNE := Lib.hid hne
  clear hD h3 h4 hS hns hb hne
  go_enter Tryd.func54, Tryd.ntmps54
  go_wp2
  refine Go.Proofs.YtcjhligknhpadaaDoorW.PrintLast.start_ (n := 15) (S := fun v => v.cell? ⟨D, 3, none⟩ = some (.slice la n lc) ∧ v.cell? ⟨D, 4, none⟩ = some sv) (ds := [14]) #[false, false, false, false, false, false, false, false, false, false, false, false, false, false, false] (by kernel_rfl) rfl rfl ⟨c3, c4⟩ (fun hHeld => ?_)
  refine Go.Proofs.YtcjhligknhpadaaDoorW.PrintLast.pure_ (i := 0) (N := some 4) (v := ?_) (a' := ?_) #[true, false, false, false, false, false, false, false, false, false, false, false, false, false, false] rfl rfl (by kernel_rfl) (fun _ _ _ h => h) (Or.inl ⟨by rfl, ?_⟩) ?_ ?_
  rotate_left
  · intro w'
    go_simp
    with_reducible rfl
  rotate_left
  · simp only [Act.put, List.setIfInBounds_toArray, List.set_cons_zero, List.set_cons_succ, Go.Proofs.YtcjhligknhpadaaDoorW.PrintLast.i64_w, Go.Proofs.YtcjhligknhpadaaDoorW.PrintLast.i32_w]
    rfl
  refine Go.Proofs.YtcjhligknhpadaaDoorW.PrintLast.pure_ (i := 1) (N := some 5) (v := ?_) (a' := ?_) #[true, true, false, false, false, false, false, false, false, false, false, false, false, false, false] rfl rfl (by kernel_rfl) (fun _ _ _ h => h) (Or.inl ⟨by rfl, ?_⟩) ?_ ?_
  rotate_left
  · intro w'
    go_simp
    with_reducible rfl
  rotate_left
  · simp only [Act.put, List.setIfInBounds_toArray, List.set_cons_zero, List.set_cons_succ, Go.Proofs.YtcjhligknhpadaaDoorW.PrintLast.i64_w, Go.Proofs.YtcjhligknhpadaaDoorW.PrintLast.i32_w]
    rfl
  refine Go.Proofs.YtcjhligknhpadaaDoorW.PrintLast.pure_ (i := 2) (N := some 6) (v := ?_) (a' := ?_) #[true, true, true, false, false, false, false, false, false, false, false, false, false, false, false] rfl rfl (by kernel_rfl) (fun _ _ _ h => h) (Or.inl ⟨by rfl, ?_⟩) ?_ ?_
  rotate_left
  · intro w'
    go_simp
    with_reducible rfl
  rotate_left
  · simp only [Act.put, List.setIfInBounds_toArray, List.set_cons_zero, List.set_cons_succ, Go.Proofs.YtcjhligknhpadaaDoorW.PrintLast.i64_w, Go.Proofs.YtcjhligknhpadaaDoorW.PrintLast.i32_w]
    rfl
  refine Go.Proofs.YtcjhligknhpadaaDoorW.PrintLast.pure_ (i := 3) (N := some 7) (v := ?_) (a' := ?_) #[true, true, true, true, false, false, false, false, false, false, false, false, false, false, false] rfl rfl (by kernel_rfl) (fun _ _ _ h => h) (Or.inl ⟨by rfl, ?_⟩) ?_ ?_
  rotate_left
  · intro w'
    go_simp
    with_reducible rfl
  rotate_left
  · simp only [Act.put, List.setIfInBounds_toArray, List.set_cons_zero, List.set_cons_succ, Go.Proofs.YtcjhligknhpadaaDoorW.PrintLast.i64_w, Go.Proofs.YtcjhligknhpadaaDoorW.PrintLast.i32_w]
    rfl
  refine Go.Proofs.YtcjhligknhpadaaDoorW.PrintLast.take_ (i := 4) (N := some 8) (v := ?_) (a' := ?_) #[true, true, true, true, true, false, false, false, false, false, false, false, false, false, false] rfl rfl (by kernel_rfl) (fun _ _ _ h => h) (Or.inl ⟨by rfl, ?_⟩) hHeld ?_ ?_
  rotate_left
  · rintro w' ⟨s0, s1⟩
    go_simp
    with_reducible rfl
  rotate_left
  · simp only [Act.put, List.setIfInBounds_toArray, List.set_cons_zero, List.set_cons_succ, Go.Proofs.YtcjhligknhpadaaDoorW.PrintLast.i64_w, Go.Proofs.YtcjhligknhpadaaDoorW.PrintLast.i32_w]
    rfl
  refine Go.Proofs.YtcjhligknhpadaaDoorW.PrintLast.pure_ (i := 5) (N := some 9) (v := ?_) (a' := ?_) #[true, true, true, true, true, true, false, false, false, false, false, false, false, false, false] rfl rfl (by kernel_rfl) (fun _ _ _ h => h) (Or.inl ⟨by rfl, ?_⟩) ?_ ?_
  rotate_left
  · intro w'
    go_simp
    with_reducible rfl
  rotate_left
  · simp only [Act.put, List.setIfInBounds_toArray, List.set_cons_zero, List.set_cons_succ, Go.Proofs.YtcjhligknhpadaaDoorW.PrintLast.i64_w, Go.Proofs.YtcjhligknhpadaaDoorW.PrintLast.i32_w]
    rfl
  refine Go.Proofs.YtcjhligknhpadaaDoorW.PrintLast.pure_ (i := 6) (N := some 10) (v := ?_) (a' := ?_) #[true, true, true, true, true, true, true, false, false, false, false, false, false, false, false] rfl rfl (by kernel_rfl) (fun _ _ _ h => h) (Or.inl ⟨by rfl, ?_⟩) ?_ ?_
  rotate_left
  · intro w'
    go_simp
    with_reducible rfl
  rotate_left
  · simp only [Act.put, List.setIfInBounds_toArray, List.set_cons_zero, List.set_cons_succ, Go.Proofs.YtcjhligknhpadaaDoorW.PrintLast.i64_w, Go.Proofs.YtcjhligknhpadaaDoorW.PrintLast.i32_w]
    rfl
  refine Go.Proofs.YtcjhligknhpadaaDoorW.PrintLast.pure_ (i := 7) (N := some 11) (v := ?_) (a' := ?_) #[true, true, true, true, true, true, true, true, false, false, false, false, false, false, false] rfl rfl (by kernel_rfl) (fun _ _ _ h => h) (Or.inl ⟨by rfl, ?_⟩) ?_ ?_
  rotate_left
  · intro w'
    go_simp
    with_reducible rfl
  rotate_left
  · simp only [Act.put, List.setIfInBounds_toArray, List.set_cons_zero, List.set_cons_succ, Go.Proofs.YtcjhligknhpadaaDoorW.PrintLast.i64_w, Go.Proofs.YtcjhligknhpadaaDoorW.PrintLast.i32_w]
    rfl
  refine Go.Proofs.YtcjhligknhpadaaDoorW.PrintLast.take_ (i := 8) (N := some 12) (v := ?_) (a' := ?_) #[true, true, true, true, true, true, true, true, true, false, false, false, false, false, false] rfl rfl (by kernel_rfl) (fun _ _ _ h => h) (Or.inl ⟨by rfl, ?_⟩) hHeld ?_ ?_
  rotate_left
  · rintro w' ⟨s0, s1⟩
    go_simp
    with_reducible rfl
  rotate_left
  · simp only [Act.put, List.setIfInBounds_toArray, List.set_cons_zero, List.set_cons_succ, Go.Proofs.YtcjhligknhpadaaDoorW.PrintLast.i64_w, Go.Proofs.YtcjhligknhpadaaDoorW.PrintLast.i32_w]
    rfl
  refine Go.Proofs.YtcjhligknhpadaaDoorW.PrintLast.take_ (i := 9) (N := some 13) (v := ?_) (a' := ?_) #[true, true, true, true, true, true, true, true, true, true, false, false, false, false, false] rfl rfl (by kernel_rfl) (fun _ _ _ h => h) (Or.inl ⟨by rfl, ?_⟩) hHeld ?_ ?_
  rotate_left
  · rintro w' ⟨s0, s1⟩
    go_simp
    with_reducible rfl
  rotate_left
  · simp only [Act.put, List.setIfInBounds_toArray, List.set_cons_zero, List.set_cons_succ, Go.Proofs.YtcjhligknhpadaaDoorW.PrintLast.i64_w, Go.Proofs.YtcjhligknhpadaaDoorW.PrintLast.i32_w]
    rfl
  refine Go.Proofs.YtcjhligknhpadaaDoorW.PrintLast.one_ (i := 10) (N := some 14) #[true, true, true, true, true, true, true, true, true, true, true, false, false, false, false] rfl rfl (by kernel_rfl) (by decide) (fun K hK => ?_)
  refine Go.Proofs.YtcjhligknhpadaaDoorW.PrintLast.value_ (w1 := w.drew.alloc (.cells #[.int .i64 n] 3)) (v := .slice (some ⟨w.heap.size, 0, none⟩) 1 1) (by rfl) rfl (by go_simp) ?_
  refine hK.out _ _ ⟨cell_al _ hHeld.1, cell_al _ hHeld.2⟩ (fun hHeld => ?_)
  clear hK K
  refine Go.Proofs.YtcjhligknhpadaaDoorW.PrintLast.norm_ (a' := ?_) ?_ ?_
  rotate_left
  · show Act.put _ (some 14) _ = _
    simp only [Act.put, List.setIfInBounds_toArray, List.set_cons_zero, List.set_cons_succ, Go.Proofs.YtcjhligknhpadaaDoorW.PrintLast.i64_w, Go.Proofs.YtcjhligknhpadaaDoorW.PrintLast.i32_w]
    rfl
  refine Go.Proofs.YtcjhligknhpadaaDoorW.PrintLast.one_ (i := 11) (N := some 15) #[true, true, true, true, true, true, true, true, true, true, true, true, false, false, false] rfl rfl (by kernel_rfl) (by decide) (fun K hK => ?_)
  refine step_append_cells (w0 := w.drew) (W := w.drew) base (by rfl) (.tmp 8) (.tmp 14) 80 3 (.int .i64 0) 1 8 rfl Tryd.underlying80 info_int (by rfl) (by decide) (by decide) sv ns ss [.int .i64 n] (by rfl) (by rfl) (by rfl) (by simp [Value.oneCell']) (own_move HS.out (fun g cur _ hg => hg)) (Below.refl _ _) HBS.out (by have := HNS.out; omega) (fun sv1 w3 hown3 hB3 hg3 hv3 => ?_)
  have hD3 : w3.heap[D]? = w.heap[D]? := hg3.block D HDL.out (fun q => HNE.out q.symm)
  obtain ⟨av1, cv1, rfl⟩ := own_slice hown3
  have hD4 := hD3.trans HD.out
  have hf3 : w3.frozen? ⟨D, 4, none⟩ = false := free_of hD4
  have hc3 : w3.cell? ⟨D, 4, none⟩ = some sv := cell_of hD4 H4.out
  have hc4 : w3.cell? ⟨D, 3, none⟩ = some (.slice la n lc) := cell_of hD4 H3.out
  refine hK.out _ _ ⟨hc4, hc3⟩ (fun hHeld => ?_)
  clear hK K
  refine Go.Proofs.YtcjhligknhpadaaDoorW.PrintLast.norm_ (a' := ?_) ?_ ?_
  rotate_left
  · show Act.put _ (some 15) _ = _
    simp only [Act.put, List.setIfInBounds_toArray, List.set_cons_zero, List.set_cons_succ, Go.Proofs.YtcjhligknhpadaaDoorW.PrintLast.i64_w, Go.Proofs.YtcjhligknhpadaaDoorW.PrintLast.i32_w]
    rfl
  refine Go.Proofs.YtcjhligknhpadaaDoorW.PrintLast.pure_ (i := 12) (N := some 16) (v := ?_) (a' := ?_) #[true, true, true, true, true, true, true, true, true, true, true, true, true, false, false] rfl rfl (by kernel_rfl) (fun _ _ _ h => h) (Or.inl ⟨by rfl, ?_⟩) ?_ ?_
  rotate_left
  · intro w'
    go_simp
    with_reducible rfl
  rotate_left
  · simp only [Act.put, List.setIfInBounds_toArray, List.set_cons_zero, List.set_cons_succ, Go.Proofs.YtcjhligknhpadaaDoorW.PrintLast.i64_w, Go.Proofs.YtcjhligknhpadaaDoorW.PrintLast.i32_w]
    rfl
  refine Go.Proofs.YtcjhligknhpadaaDoorW.PrintLast.pure_ (i := 13) (N := some 17) (v := ?_) (a' := ?_) #[true, true, true, true, true, true, true, true, true, true, true, true, true, true, false] rfl rfl (by kernel_rfl) (fun _ _ _ h => h) (Or.inl ⟨by rfl, ?_⟩) ?_ ?_
  rotate_left
  · intro w'
    go_simp
    with_reducible rfl
  rotate_left
  · simp only [Act.put, List.setIfInBounds_toArray, List.set_cons_zero, List.set_cons_succ, Go.Proofs.YtcjhligknhpadaaDoorW.PrintLast.i64_w, Go.Proofs.YtcjhligknhpadaaDoorW.PrintLast.i32_w]
    rfl
  refine Go.Proofs.YtcjhligknhpadaaDoorW.PrintLast.last_ (i := 14) (N := none) #[true, true, true, true, true, true, true, true, true, true, true, true, true, true, true] rfl rfl (by kernel_rfl) (by decide) (fun K hK => ?_)
  refine Go.Proofs.YtcjhligknhpadaaDoorW.PrintLast.skip_ (w1 := w3.setCell ⟨D, 4, none⟩ (.slice av1 (ns + 1) cv1)) (by rfl) rfl (by go_simp) ?_
  refine hK.out _ _ ?_
  clear hK K
  refine Go.Proofs.YtcjhligknhpadaaDoorW.PrintLast.done_ (by kernel_rfl) ?_
  go_wp2
  go_end0
  exact ⟨rfl, _, w3, hown3, ⟨hg3.os, hg3.tape, hg3.output, hg3.size, hg3.block⟩, hv3, rfl⟩
end Dk
end Go.Proofs.YtcjhligknhpadaaDoor

namespace Go.Proofs.YtcjhligknhpadaaDoor
open Go.RowKit
set_option linter.unusedVariables false
set_option linter.unusedSimpArgs false
namespace Dk

theorem own_kind {w : World} {base : Nat} {e : TypeId} {size n : Nat} {v : Value} {xs : List Value} (h : w.ownsRow base e size v n xs) {g : Nat} (hg : v.ownBlock = some g) : base ≤ g ∧ ∃ cur, w.heap[g]? = some (.cells cur e (0, 0)) := by
  rcases h.2 with ⟨q, _⟩ | ⟨g', cap, cur, q, q2, q3, _⟩
  · rw [q] at hg; cases hg
  · rw [q] at hg; cases hg; exact ⟨q2, cur, q3⟩
theorem lt_of_heap {w : World} {k : Nat} {o : Obj} (h : w.heap[k]? = some o) : k < w.heap.size := (Array.getElem?_eq_some_iff.1 h).1
theorem MapB.move [av : Av] {B : Nat} {w w' : World} {M : Nat} {m : Int → List Int} (h : MapB w M m) (e : w'.heap[M]? = w.heap[M]?) (hc : Chg B DK w w') : MapB w' M m := by
  obtain ⟨es, c, h1, h2, h3⟩ := h
  exact ⟨es, c, e.trans h1, h2, fun k => (h3 k).keep hc⟩
theorem LogAt.move [av : Av] {B base : Nat} {w w' : World} {lv : Value} {log : List (Int × List Int)} (h : LogAt base w lv log) (e : ∀ g, lv.ownBlock = some g → w'.heap[g]? = w.heap[g]?) (hc : Chg B DK w w') : LogAt base w' lv log := by
  obtain ⟨vs, h1, h2, h3⟩ := h
  exact ⟨vs, h1, fun p hp => (h2 p hp).keep hc, own_move h3 fun g cur hg hh => (e g hg).trans hh⟩
/-- what an append to a row and a store into the disk leave -/
theorem chg_of {base D i : Nat} {w w3 : World} {v v1 : Value} {e : TypeId} {size n : Nat} {xs : List Value} {cs : Array Value} (hb : base ≤ D) (hbw : base ≤ w.heap.size) (hD : w.heap[D]? = some (.cells cs 82 (0, 0))) (hv : w.ownsRow base e size v n xs) (he : ∀ cur, DK (.cells cur e (0, 0)) = true) (hg : w.grownBy w3 v.ownBlock) : Chg base DK w (w3.setCell ⟨D, i, none⟩ v1) := by
  have hs : (w3.setCell ⟨D, i, none⟩ v1).heap.size = w3.heap.size := by simp [World.setCell]
  have ho : ∀ k, k ≠ D → (w3.setCell ⟨D, i, none⟩ v1).heap[k]? = w3.heap[k]? := fun k hk => by simp [World.setCell, Array.getElem?_modify, Ne.symm hk]
  refine ⟨hg.os, hg.tape, hg.output, by rw [hs]; exact hg.size, fun k hk => ?_, fun k o hk hK => ?_⟩
  · rw [ho k (by omega), hg.block k (by omega) (fun q => by have := (own_kind hv q.symm).1; omega)]
  · have h1 : k ≠ D := by rintro rfl; rw [hD] at hk; cases hk; cases hK
    have h2 : some k ≠ v.ownBlock := by
      intro q
      obtain ⟨cur, hc⟩ := (own_kind hv q.symm).2
      rw [hc] at hk
      cases hk
      rw [he cur] at hK
      cases hK
    rw [ho k h1, hg.block k (lt_of_heap hk) h2, hk]
theorem sync_any [av : Av] (base : Nat) (w : World) (D : Nat) (d : Dsk) (h : IsDk base w D d) (hn : d.syncs.length ≤ 1000000) (hbw : base ≤ w.heap.size) : Calls Tryd.prog 54 #[.pointer (some ⟨D, 0, none⟩)] w fun e w' => e = .returned (.tuple #[]) ∧ IsDk base w' D { d with syncs := d.syncs ++ [(d.log.length : Int)] } ∧ Chg base DK w w' := by
  obtain ⟨F, M, lv, sv, hd⟩ := h
  obtain ⟨vs, l1, l2, l3⟩ := hd.hL
  obtain ⟨la, lc, rfl⟩ := own_slice l3
  have hne : sv.ownBlock ≠ some D := fun q => by
    obtain ⟨cur, hc⟩ := (own_kind hd.hS q).2
    rw [hd.hD] at hc
    cases hc
  refine (sync_raw base D d.log.length lc d.syncs.length la sv (d.syncs.map (Value.int .i64)) _ w hd.hD rfl rfl hd.hS hn hbw hne).mono fun e w' ⟨he, sv1, w3, h1, h2, h3, hw⟩ => ⟨he, ?_, ?_⟩
  · subst hw
    have hc : Chg base DK w (w3.setCell ⟨D, 4, none⟩ sv1) := chg_of hd.bD hbw hd.hD hd.hS (fun _ => rfl) h2
    have ho : ∀ k, k ≠ D → (w3.setCell ⟨D, 4, none⟩ sv1).heap[k]? = w3.heap[k]? := fun k hk => by simp [World.setCell, Array.getElem?_modify, Ne.symm hk]
    have hD3 : w3.heap[D]? = _ := (h2.block D (lt_of_heap hd.hD) (fun q => hne q.symm)).trans hd.hD
    have same : ∀ k o, w.heap[k]? = some o → k ≠ D → some k ≠ sv.ownBlock → (w3.setCell ⟨D, 4, none⟩ sv1).heap[k]? = w.heap[k]? := fun k o hk h4 h5 => (ho k h4).trans (h2.block k (lt_of_heap hk) h5)
    have mapNe : ∀ k es c, w.heap[k]? = some (.map es c) → k ≠ D ∧ some k ≠ sv.ownBlock := fun k es c hk =>
      ⟨(by rintro rfl; rw [hd.hD] at hk; cases hk), fun q => (by obtain ⟨cur, hc⟩ := (own_kind hd.hS q.symm).2; rw [hc] at hk; cases hk)⟩
    obtain ⟨esF, cF, hF, _⟩ := hd.hF
    obtain ⟨esM, cM, hM, _⟩ := hd.hM
    refine ⟨F, M, .slice la d.log.length lc, sv1, hd.bD, hd.bF, hd.bM, hd.ne, ?_, hd.hF.move (same F _ hF (mapNe F _ _ hF).1 (mapNe F _ _ hF).2) hc, hd.hM.move (same M _ hM (mapNe M _ _ hM).1 (mapNe M _ _ hM).2) hc, hd.hL.move (fun g hg => ?_) hc, ?_⟩
    · simp [World.setCell, Array.getElem?_modify, hD3]
    · obtain ⟨cur, hcur⟩ := (own_kind l3 hg).2
      refine same g _ hcur (by rintro rfl; rw [hd.hD] at hcur; cases hcur) (fun q => ?_)
      obtain ⟨cur2, hc2⟩ := (own_kind hd.hS q.symm).2
      rw [hc2] at hcur
      cases hcur
    · have e1 : (d.syncs ++ [(d.log.length : Int)]).length = d.syncs.length + 1 := List.length_append
      have e2 : (d.syncs ++ [(d.log.length : Int)]).map (Value.int .i64) = d.syncs.map (Value.int .i64) ++ [.int .i64 d.log.length] := by simp
      show World.ownsRow _ base 3 1 sv1 (d.syncs ++ [(d.log.length : Int)]).length ((d.syncs ++ [(d.log.length : Int)]).map (Value.int .i64))
      rw [e1, e2]
      refine own_move h1 fun g cur hg hh => (ho g ?_).trans hh
      rintro rfl
      rw [hD3] at hh
      cases hh
  · subst hw
    exact chg_of hd.bD hbw hd.hD hd.hS (fun _ => rfl) h2
end Dk
end Go.Proofs.YtcjhligknhpadaaDoor

namespace Go.Proofs.YtcjhligknhpadaaDoor
open Go.RowKit Go.Proofs.YtcjhligknhpadaaDoorW.PrintWords Go.Proofs.YtcjhligknhpadaaDoorW.PrintLast
set_option linter.unusedVariables false
set_option linter.unusedSimpArgs false
namespace Dk

theorem info_wr : (Tryd.prog.info? 97).map (fun i => (i.zero, i.size, i.bytes)) = some (some (.agg #[.int .i64 0, .slice none 0 0]), 2, 32) := by kernel_rfl
set_option maxHeartbeats 1000000 in
set_option maxRecDepth 100000 in
theorem write_raw [av : Av] (base D F M n : Nat) (N : Int) (lv sv : Value) (ls : List Value) (es : Array MapEntry) (c : Nat) (i : Int) (A0 : Option Addr) (bn bc : Nat) (l : List Int) (w : World)
    (hD : w.heap[D]? = some (.cells #[.int .i64 N, .map (some F), .map (some M), lv, sv] 82 (0, 0))) (hM : w.heap[M]? = some (.map es c)) (hki : KeysInt es.toList) (hL : w.ownsRow base 97 2 lv n ls) (hn : n ≤ 1000000) (hb : base ≤ w.heap.size) (hav : ∀ g, w.heap.size ≤ g → ¬ av.bad g) 
    (h0 : 0 ≤ i) (h1 : i < N) (hl : l.length = bn) (hbn : bn ≤ 128) (hby : IsBy l) (hc : ∀ i, i < bn → ∃ a, A0 = some a ∧ w.cell? (a.add i) = some (.int .u8 (l.getD i 0))) :
    Calls Tryd.prog 53 #[.pointer (some ⟨D, 0, none⟩), .int .i64 i, .slice A0 bn bc] w fun e w' => e = .returned (.int .i64 0) ∧ ∃ w1 bv es' c' lv1 w3, Byts w1 bv l ∧ Below w.heap.size w w1 ∧ KeysInt es'.toList ∧ (∀ k2, mget es'.toList k2 = if k2 = i then some bv else mget es.toList k2) ∧
      w3.ownsRow base 97 2 lv1 (n + 1) (ls ++ [.int .i64 i, bv]) ∧ (setMap (w1.alloc (.cells #[.int .i64 i, bv] 97)) M (.map es' c')).grownBy w3 lv.ownBlock ∧ w' = w3.setCell ⟨D, 3, none⟩ lv1 := by
  have c0 : w.cell? ⟨D, 0, none⟩ = some (.int .i64 N) := cell_of hD rfl
  have HD := Lib.hid hD
  have HAV := Lib.hid hav
  clear hav
  have HM := Lib.hid hM
  have HKI := Lib.hid hki
  have HL := Lib.hid hL
  have HN := Lib.hid hn
  have HBS := Lib.hid hb
  have H0 := Lib.hid h0
  have H1 := Lib.hid h1
  have HBL := Lib.hid hl
  have HBY := Lib.hid hby
  have HC := Lib.hid hc
  have HDM : Hid (D ≠ M) := Lib.hid (by rintro rfl; rw [hD] at hM; cases hM)
  clear hD hM hki hL hn hb h0 h1 hl hby hc
  go_enter Tryd.func53, Tryd.ntmps53
  go_wp2_with (first | (go_at_call 45; refine (has_yes D N i _ c0 H0.out H1.out).mono ?_; rintro e w' ⟨rfl, rfl⟩) | (go_at_call 37; refine (clone_bytes A0 bn bc l _ HBL.out (by omega) HAV.out HBY.out HC.out).mono ?_; rintro e w1 ⟨bv, rfl, hbv, hb1⟩; have HBV := Lib.hid hbv; have HB1 := Lib.hid hb1; obtain ⟨bva, bvc, hbve⟩ := own_slice hbv.2; subst hbve; clear hbv hb1))
  generalize hbvE : (Value.slice bva l.length bvc) = bv at HBV ⊢
  have HBVE := Lib.hid hbvE
  clear hbvE
  have hsz : w.heap.size ≤ w1.heap.size := HB1.out.size
  have d1 : w1.heap[D]? = _ := (HB1.out.block D (lt_of_heap HD.out)).trans HD.out
  have m1 : w1.heap[M]? = _ := (HB1.out.block M (lt_of_heap HM.out)).trans HM.out
  have d2 := cell_al (.cells #[.int .i64 i, bv] 97) (cell_of (i := 2) d1 rfl)
  have b1 : (w1.alloc (.cells #[.int .i64 i, bv] 97)).cell? ⟨w1.heap.size, 1, none⟩ = some bv := by simp
  have dm : (w1.alloc (.cells #[.int .i64 i, bv] 97)).heap[M]? = some (.map es c) := ((World.grownBy_alloc w1 _ none).block M (lt_of_heap m1) (by simp)).trans m1
  have HD1 := Lib.hid d1
  have HM1 := Lib.hid m1
  clear d1 m1
  have hml := lt_of_heap HM1.out
  refine Go.Proofs.YtcjhligknhpadaaDoorW.PrintLast.start_ (n := 8) (S := fun v => v.cell? ⟨D, 2, none⟩ = some (.map (some M)) ∧ v.cell? ⟨w1.heap.size, 1, none⟩ = some bv ∧ v.heap[M]? = some (.map es c)) (ds := [7]) #[false, false, false, false, false, false, false, false] (by kernel_rfl) rfl rfl ⟨d2, b1, dm⟩ (fun hHeld => ?_)
  refine Go.Proofs.YtcjhligknhpadaaDoorW.PrintLast.pure_ (i := 0) (N := some 24) (v := ?_) (a' := ?_) #[true, false, false, false, false, false, false, false] rfl rfl (by kernel_rfl) (fun _ _ _ h => h) (Or.inl ⟨by rfl, ?_⟩) ?_ ?_
  rotate_left
  · intro w'
    go_simp
    with_reducible rfl
  rotate_left
  · simp only [Act.put, List.setIfInBounds_toArray, List.set_cons_zero, List.set_cons_succ, Go.Proofs.YtcjhligknhpadaaDoorW.PrintLast.i64_w, Go.Proofs.YtcjhligknhpadaaDoorW.PrintLast.i32_w]
    rfl
  refine Go.Proofs.YtcjhligknhpadaaDoorW.PrintLast.pure_ (i := 1) (N := some 25) (v := ?_) (a' := ?_) #[true, true, false, false, false, false, false, false] rfl rfl (by kernel_rfl) (fun _ _ _ h => h) (Or.inl ⟨by rfl, ?_⟩) ?_ ?_
  rotate_left
  · intro w'
    go_simp
    with_reducible rfl
  rotate_left
  · simp only [Act.put, List.setIfInBounds_toArray, List.set_cons_zero, List.set_cons_succ, Go.Proofs.YtcjhligknhpadaaDoorW.PrintLast.i64_w, Go.Proofs.YtcjhligknhpadaaDoorW.PrintLast.i32_w]
    rfl
  refine Go.Proofs.YtcjhligknhpadaaDoorW.PrintLast.pure_ (i := 2) (N := some 26) (v := ?_) (a' := ?_) #[true, true, true, false, false, false, false, false] rfl rfl (by kernel_rfl) (fun _ _ _ h => h) (Or.inl ⟨by rfl, ?_⟩) ?_ ?_
  rotate_left
  · intro w'
    go_simp
    with_reducible rfl
  rotate_left
  · simp only [Act.put, List.setIfInBounds_toArray, List.set_cons_zero, List.set_cons_succ, Go.Proofs.YtcjhligknhpadaaDoorW.PrintLast.i64_w, Go.Proofs.YtcjhligknhpadaaDoorW.PrintLast.i32_w]
    rfl
  refine Go.Proofs.YtcjhligknhpadaaDoorW.PrintLast.take_ (i := 3) (N := some 27) (v := ?_) (a' := ?_) #[true, true, true, true, false, false, false, false] rfl rfl (by kernel_rfl) (fun _ _ _ h => h) (Or.inl ⟨by rfl, ?_⟩) hHeld ?_ ?_
  rotate_left
  · rintro w' ⟨s0, s1, s2⟩
    go_simp
    with_reducible rfl
  rotate_left
  · simp only [Act.put, List.setIfInBounds_toArray, List.set_cons_zero, List.set_cons_succ, Go.Proofs.YtcjhligknhpadaaDoorW.PrintLast.i64_w, Go.Proofs.YtcjhligknhpadaaDoorW.PrintLast.i32_w]
    rfl
  refine Go.Proofs.YtcjhligknhpadaaDoorW.PrintLast.pure_ (i := 4) (N := some 28) (v := ?_) (a' := ?_) #[true, true, true, true, true, false, false, false] rfl rfl (by kernel_rfl) (fun _ _ _ h => h) (Or.inl ⟨by rfl, ?_⟩) ?_ ?_
  rotate_left
  · intro w'
    go_simp
    with_reducible rfl
  rotate_left
  · simp only [Act.put, List.setIfInBounds_toArray, List.set_cons_zero, List.set_cons_succ, Go.Proofs.YtcjhligknhpadaaDoorW.PrintLast.i64_w, Go.Proofs.YtcjhligknhpadaaDoorW.PrintLast.i32_w]
    rfl
  refine Go.Proofs.YtcjhligknhpadaaDoorW.PrintLast.pure_ (i := 5) (N := some 29) (v := ?_) (a' := ?_) #[true, true, true, true, true, true, false, false] rfl rfl (by kernel_rfl) (fun _ _ _ h => h) (Or.inl ⟨by rfl, ?_⟩) ?_ ?_
  rotate_left
  · intro w'
    go_simp
    with_reducible rfl
  rotate_left
  · simp only [Act.put, List.setIfInBounds_toArray, List.set_cons_zero, List.set_cons_succ, Go.Proofs.YtcjhligknhpadaaDoorW.PrintLast.i64_w, Go.Proofs.YtcjhligknhpadaaDoorW.PrintLast.i32_w]
    rfl
  refine Go.Proofs.YtcjhligknhpadaaDoorW.PrintLast.take_ (i := 6) (N := some 30) (v := ?_) (a' := ?_) #[true, true, true, true, true, true, true, false] rfl rfl (by kernel_rfl) (fun _ _ _ h => h) (Or.inl ⟨by rfl, ?_⟩) hHeld ?_ ?_
  rotate_left
  · rintro w' ⟨s0, s1, s2⟩
    go_simp
    with_reducible rfl
  rotate_left
  · simp only [Act.put, List.setIfInBounds_toArray, List.set_cons_zero, List.set_cons_succ, Go.Proofs.YtcjhligknhpadaaDoorW.PrintLast.i64_w, Go.Proofs.YtcjhligknhpadaaDoorW.PrintLast.i32_w]
    rfl
  refine Go.Proofs.YtcjhligknhpadaaDoorW.PrintLast.last_ (i := 7) (N := none) #[true, true, true, true, true, true, true, true] rfl rfl (by kernel_rfl) (by decide) (fun K hK => ?_)
  obtain ⟨es', c', hrun, hk', hm'⟩ := run_mapUpdate (w := (w1.alloc (.cells #[.int .i64 i, bv] 97)).drew) Tryd.underlying78 Tryd.underlying3 hHeld.2.2 HKI.out i bv
  refine Go.Proofs.YtcjhligknhpadaaDoorW.PrintLast.skip_ (w1 := setMap (w1.alloc (.cells #[.int .i64 i, bv] 97)).drew M (.map es' c')) (by rfl) rfl (by go_simp) ?_
  refine hK.out _ _ ?_
  clear hK K
  refine Go.Proofs.YtcjhligknhpadaaDoorW.PrintLast.done_ (by kernel_rfl) ?_
  go_wp2_with fail
  have hml2 : M < (w1.alloc (.cells #[.int .i64 i, bv] 97)).drew.heap.size := by simp; omega
  have hD2 : (setMap (w1.alloc (.cells #[.int .i64 i, bv] 97)).drew M (.map es' c')).heap[D]? = some (.cells #[.int .i64 N, .map (some F), .map (some M), lv, sv] 82 (0, 0)) := (setMap_ne HDM.out).trans (((World.grownBy_alloc w1 _ none).block D (lt_of_heap HD1.out) (by simp)).trans HD1.out)
  have HD2L := Lib.hid (lt_of_heap hD2)
  have e3 : (setMap (w1.alloc (.cells #[.int .i64 i, bv] 97)).drew M (.map es' c')).cell? ⟨D, 3, none⟩ = some lv := cell_of hD2 rfl
  have f0 : (setMap (w1.alloc (.cells #[.int .i64 i, bv] 97)).drew M (.map es' c')).cell? ⟨w1.heap.size, 0, none⟩ = some (.int .i64 i) := (setMap_cell (show w1.heap.size ≠ M by omega)).trans (by simp)
  have f1 : (setMap (w1.alloc (.cells #[.int .i64 i, bv] 97)).drew M (.map es' c')).cell? ⟨w1.heap.size, 1, none⟩ = some bv := (setMap_cell (show w1.heap.size ≠ M by omega)).trans (by simp)
  have HW2 := Lib.hid (show (setMap (w1.alloc (.cells #[.int .i64 i, bv] 97)).drew M (.map es' c')).ownsRow base 97 2 lv n ls from own_move HL.out (fun g cur hg hh => by
    have hne : g ≠ M := by rintro rfl; rw [HM.out] at hh; cases hh
    have h1 := (HB1.out.block g (lt_of_heap hh)).trans hh
    exact (setMap_ne hne).trans (((World.grownBy_alloc w1 _ none).block g (lt_of_heap h1) (by simp)).trans h1)))
  have H1C := Lib.hid (show bv.oneCell' = true by rw [← HBVE.out]; rfl)
  have HBS2 := Lib.hid (show base ≤ (setMap (w1.alloc (.cells #[.int .i64 i, bv] 97)).drew M (.map es' c')).drew.heap.size by have h2 := HBS.out; have h3 := setMap_size (w1.alloc (.cells #[.int .i64 i, bv] 97)).drew M (.map es' c'); show base ≤ (setMap (w1.alloc (.cells #[.int .i64 i, bv] 97)).drew M (.map es' c')).heap.size; rw [h3]; simp; omega)
  have HNE := Lib.hid (show some D ≠ lv.ownBlock from fun q => by obtain ⟨cur, hc⟩ := (own_kind HL.out q.symm).2; rw [HD.out] at hc; cases hc)
  have HNB := Lib.hid (show some w1.heap.size ≠ lv.ownBlock from fun q => by obtain ⟨cur, hc⟩ := (own_kind HL.out q.symm).2; have := lt_of_heap hc; omega)
  have HD2 := Lib.hid hD2
  have HK2 := Lib.hid hk'
  have HM2 := Lib.hid hm'
  clear hD2 hk' hm' hrun
  refine Go.Proofs.YtcjhligknhpadaaDoorW.PrintLast.start_ (n := 11) (S := fun v => v.cell? ⟨D, 3, none⟩ = some lv ∧ v.cell? ⟨w1.heap.size, 0, none⟩ = some (.int .i64 i) ∧ v.cell? ⟨w1.heap.size, 1, none⟩ = some bv) (ds := [10]) #[false, false, false, false, false, false, false, false, false, false, false] (by kernel_rfl) rfl rfl ⟨e3, f0, f1⟩ (fun hHeld => ?_)
  refine Go.Proofs.YtcjhligknhpadaaDoorW.PrintLast.pure_ (i := 0) (N := some 31) (v := ?_) (a' := ?_) #[true, false, false, false, false, false, false, false, false, false, false] rfl rfl (by kernel_rfl) (fun _ _ _ h => h) (Or.inl ⟨by rfl, ?_⟩) ?_ ?_
  rotate_left
  · intro w'
    go_simp
    with_reducible rfl
  rotate_left
  · simp only [Act.put, List.setIfInBounds_toArray, List.set_cons_zero, List.set_cons_succ, Go.Proofs.YtcjhligknhpadaaDoorW.PrintLast.i64_w, Go.Proofs.YtcjhligknhpadaaDoorW.PrintLast.i32_w]
    rfl
  refine Go.Proofs.YtcjhligknhpadaaDoorW.PrintLast.pure_ (i := 1) (N := some 32) (v := ?_) (a' := ?_) #[true, true, false, false, false, false, false, false, false, false, false] rfl rfl (by kernel_rfl) (fun _ _ _ h => h) (Or.inl ⟨by rfl, ?_⟩) ?_ ?_
  rotate_left
  · intro w'
    go_simp
    with_reducible rfl
  rotate_left
  · simp only [Act.put, List.setIfInBounds_toArray, List.set_cons_zero, List.set_cons_succ, Go.Proofs.YtcjhligknhpadaaDoorW.PrintLast.i64_w, Go.Proofs.YtcjhligknhpadaaDoorW.PrintLast.i32_w]
    rfl
  refine Go.Proofs.YtcjhligknhpadaaDoorW.PrintLast.pure_ (i := 2) (N := some 33) (v := ?_) (a' := ?_) #[true, true, true, false, false, false, false, false, false, false, false] rfl rfl (by kernel_rfl) (fun _ _ _ h => h) (Or.inl ⟨by rfl, ?_⟩) ?_ ?_
  rotate_left
  · intro w'
    go_simp
    with_reducible rfl
  rotate_left
  · simp only [Act.put, List.setIfInBounds_toArray, List.set_cons_zero, List.set_cons_succ, Go.Proofs.YtcjhligknhpadaaDoorW.PrintLast.i64_w, Go.Proofs.YtcjhligknhpadaaDoorW.PrintLast.i32_w]
    rfl
  refine Go.Proofs.YtcjhligknhpadaaDoorW.PrintLast.pure_ (i := 3) (N := some 34) (v := ?_) (a' := ?_) #[true, true, true, true, false, false, false, false, false, false, false] rfl rfl (by kernel_rfl) (fun _ _ _ h => h) (Or.inl ⟨by rfl, ?_⟩) ?_ ?_
  rotate_left
  · intro w'
    go_simp
    with_reducible rfl
  rotate_left
  · simp only [Act.put, List.setIfInBounds_toArray, List.set_cons_zero, List.set_cons_succ, Go.Proofs.YtcjhligknhpadaaDoorW.PrintLast.i64_w, Go.Proofs.YtcjhligknhpadaaDoorW.PrintLast.i32_w]
    rfl
  refine Go.Proofs.YtcjhligknhpadaaDoorW.PrintLast.take_ (i := 4) (N := some 35) (v := ?_) (a' := ?_) #[true, true, true, true, true, false, false, false, false, false, false] rfl rfl (by kernel_rfl) (fun _ _ _ h => h) (Or.inl ⟨by rfl, ?_⟩) hHeld ?_ ?_
  rotate_left
  · rintro w' ⟨s0, s1, s2⟩
    go_simp
    with_reducible rfl
  rotate_left
  · simp only [Act.put, List.setIfInBounds_toArray, List.set_cons_zero, List.set_cons_succ, Go.Proofs.YtcjhligknhpadaaDoorW.PrintLast.i64_w, Go.Proofs.YtcjhligknhpadaaDoorW.PrintLast.i32_w]
    rfl
  refine Go.Proofs.YtcjhligknhpadaaDoorW.PrintLast.take_ (i := 5) (N := some 36) (v := ?_) (a' := ?_) #[true, true, true, true, true, true, false, false, false, false, false] rfl rfl (by kernel_rfl) (fun _ _ _ h => h) (Or.inl ⟨by rfl, ?_⟩) hHeld ?_ ?_
  rotate_left
  · rintro w' ⟨s0, s1, s2⟩
    go_simp
    with_reducible rfl
  rotate_left
  · simp only [Act.put, List.setIfInBounds_toArray, List.set_cons_zero, List.set_cons_succ, Go.Proofs.YtcjhligknhpadaaDoorW.PrintLast.i64_w, Go.Proofs.YtcjhligknhpadaaDoorW.PrintLast.i32_w]
    rfl
  refine Go.Proofs.YtcjhligknhpadaaDoorW.PrintLast.one_ (i := 6) (N := some 37) #[true, true, true, true, true, true, true, false, false, false, false] rfl rfl (by kernel_rfl) (by decide) (fun K hK => ?_)
  refine Go.Proofs.YtcjhligknhpadaaDoorW.PrintLast.value_ (w1 := (setMap (w1.alloc (.cells #[.int .i64 i, bv] 97)).drew M (.map es' c')).drew.alloc (.cells #[.int .i64 i, bv] 97)) (v := .slice (some ⟨(setMap (w1.alloc (.cells #[.int .i64 i, bv] 97)).drew M (.map es' c')).heap.size, 0, none⟩) 1 1) (by rfl) rfl (by go_simp) ?_
  have hHeld7 := hHeld
  refine hK.out _ _ ⟨cell_al _ hHeld.1, cell_al _ hHeld.2.1, cell_al _ hHeld.2.2⟩ (fun hHeld => ?_)
  clear hK K
  refine Go.Proofs.YtcjhligknhpadaaDoorW.PrintLast.norm_ (a' := ?_) ?_ ?_
  rotate_left
  · show Act.put _ (some 37) _ = _
    simp only [Act.put, List.setIfInBounds_toArray, List.set_cons_zero, List.set_cons_succ, Go.Proofs.YtcjhligknhpadaaDoorW.PrintLast.i64_w, Go.Proofs.YtcjhligknhpadaaDoorW.PrintLast.i32_w]
    rfl
  refine Go.Proofs.YtcjhligknhpadaaDoorW.PrintLast.one_ (i := 7) (N := some 38) #[true, true, true, true, true, true, true, true, false, false, false] rfl rfl (by kernel_rfl) (by decide) (fun K hK => ?_)
  refine step_append_cells (w0 := (setMap (w1.alloc (.cells #[.int .i64 i, bv] 97)).drew M (.map es' c')).drew) (W := (setMap (w1.alloc (.cells #[.int .i64 i, bv] 97)).drew M (.map es' c')).drew) base (by rfl) (.tmp 35) (.tmp 37) 79 97 (.agg #[.int .i64 0, .slice none 0 0]) 2 32 rfl Tryd.underlying79 info_wr (by rfl) (by decide) (by decide) lv n ls [.int .i64 i, bv] (by rfl) (by rfl) (by rfl) (by intro u hu; rcases List.mem_cons.1 hu with rfl | hu; rfl; rw [List.mem_singleton.1 hu]; exact H1C.out) (own_move HW2.out (fun g cur _ hg => hg)) (Below.refl _ _) HBS2.out (by have := HN.out; omega) (fun lv1 w3 hown3 hB3 hg3 hv3 => ?_)
  obtain ⟨lva, lvc, rfl⟩ := own_slice hown3
  have hD4 := (hg3.block D HD2L.out HNE.out).trans HD2.out
  have hf3 : w3.frozen? ⟨D, 3, none⟩ = false := free_of hD4
  have hc3 : w3.cell? ⟨D, 3, none⟩ = some lv := cell_of hD4 rfl
  have hk0 : w3.cell? ⟨w1.heap.size, 0, none⟩ = some (.int .i64 i) := hg3.cell hHeld7.2.1 HNB.out
  have hk1 : w3.cell? ⟨w1.heap.size, 1, none⟩ = some bv := hg3.cell hHeld7.2.2 HNB.out
  refine hK.out _ _ ⟨hc3, hk0, hk1⟩ (fun hHeld => ?_)
  clear hK K
  refine Go.Proofs.YtcjhligknhpadaaDoorW.PrintLast.norm_ (a' := ?_) ?_ ?_
  rotate_left
  · show Act.put _ (some 38) _ = _
    simp only [Act.put, List.setIfInBounds_toArray, List.set_cons_zero, List.set_cons_succ, Go.Proofs.YtcjhligknhpadaaDoorW.PrintLast.i64_w, Go.Proofs.YtcjhligknhpadaaDoorW.PrintLast.i32_w]
    rfl
  refine Go.Proofs.YtcjhligknhpadaaDoorW.PrintLast.pure_ (i := 8) (N := some 39) (v := ?_) (a' := ?_) #[true, true, true, true, true, true, true, true, true, false, false] rfl rfl (by kernel_rfl) (fun _ _ _ h => h) (Or.inl ⟨by rfl, ?_⟩) ?_ ?_
  rotate_left
  · intro w'
    go_simp
    with_reducible rfl
  rotate_left
  · simp only [Act.put, List.setIfInBounds_toArray, List.set_cons_zero, List.set_cons_succ, Go.Proofs.YtcjhligknhpadaaDoorW.PrintLast.i64_w, Go.Proofs.YtcjhligknhpadaaDoorW.PrintLast.i32_w]
    rfl
  refine Go.Proofs.YtcjhligknhpadaaDoorW.PrintLast.pure_ (i := 9) (N := some 40) (v := ?_) (a' := ?_) #[true, true, true, true, true, true, true, true, true, true, false] rfl rfl (by kernel_rfl) (fun _ _ _ h => h) (Or.inl ⟨by rfl, ?_⟩) ?_ ?_
  rotate_left
  · intro w'
    go_simp
    with_reducible rfl
  rotate_left
  · simp only [Act.put, List.setIfInBounds_toArray, List.set_cons_zero, List.set_cons_succ, Go.Proofs.YtcjhligknhpadaaDoorW.PrintLast.i64_w, Go.Proofs.YtcjhligknhpadaaDoorW.PrintLast.i32_w]
    rfl
  refine Go.Proofs.YtcjhligknhpadaaDoorW.PrintLast.last_ (i := 10) (N := none) #[true, true, true, true, true, true, true, true, true, true, true] rfl rfl (by kernel_rfl) (by decide) (fun K hK => ?_)
  refine Go.Proofs.YtcjhligknhpadaaDoorW.PrintLast.skip_ (w1 := w3.setCell ⟨D, 3, none⟩ (.slice lva (n + 1) lvc)) (by rfl) rfl (by go_simp) ?_
  refine hK.out _ _ ?_
  clear hK K
  refine Go.Proofs.YtcjhligknhpadaaDoorW.PrintLast.done_ (by kernel_rfl) ?_
  go_wp2
  go_ret
  exact ⟨rfl, w1, bv, es', c', _, w3, HBV.out, HB1.out, HK2.out, HM2.out, hown3, ⟨hg3.os, hg3.tape, hg3.output, hg3.size, hg3.block⟩, rfl⟩
end Dk
end Go.Proofs.YtcjhligknhpadaaDoor

namespace Go.Proofs.YtcjhligknhpadaaDoor
open Go.RowKit
set_option linter.unusedVariables false
set_option linter.unusedSimpArgs false
namespace Dk

theorem Chg.setMap {base : Nat} {w : World} {M : Nat} {es : Array MapEntry} {c : Nat} (hb : base ≤ M) (hM : w.heap[M]? = some (.map es c)) (o : Obj) : Chg base DK w (setMap w M o) := by
  refine ⟨rfl, rfl, rfl, by rw [setMap_size]; exact Nat.le_refl _, fun i hi => setMap_ne (by omega), fun i p hp hk => ?_⟩
  have hne : i ≠ M := by rintro rfl; rw [hM] at hp; cases hp; cases hk
  exact (setMap_ne hne).trans hp
theorem write_any [av : Av] (base : Nat) (w : World) (D : Nat) (d : Dsk) (i : Int) (A0 : Option Addr) (bn bc : Nat) (l : List Int) (h : IsDk base w D d) (hn : d.log.length ≤ 1000000) (hbw : base ≤ w.heap.size) (hav : ∀ g, w.heap.size ≤ g → ¬ av.bad g) (h0 : 0 ≤ i) (h1 : i < d.N) (hl : l.length = bn) (hbn : bn ≤ 128) (hby : IsBy l) (hc : ∀ i, i < bn → ∃ a, A0 = some a ∧ w.cell? (a.add i) = some (.int .u8 (l.getD i 0))) :
    Calls Tryd.prog 53 #[.pointer (some ⟨D, 0, none⟩), .int .i64 i, .slice A0 bn bc] w fun e w' => e = .returned (.int .i64 0) ∧ IsDk base w' D { d with now := fun k => if k = i then l else d.now k, log := d.log ++ [(i, l)] } ∧ Chg base DK w w' := by
  obtain ⟨F, M, lv, sv, hd⟩ := h
  obtain ⟨vs, l1, l2, l3⟩ := hd.hL
  obtain ⟨es, c, hM, hki, hmb⟩ := hd.hM
  refine (write_raw base D F M d.log.length d.N lv sv (rowOf d.log vs) es c i A0 bn bc l w hd.hD hM hki l3 hn hbw hav h0 h1 hl hbn hby hc).mono fun e w' ⟨he, w1, bv, es', c', lv1, w3, q1, q2, q3, q4, q5, q6, hw⟩ => ⟨he, ?_⟩
  have hs1 := q2.size
  have box : ∀ k o, w1.heap[k]? = some o → (w1.alloc (.cells #[.int .i64 i, bv] 97)).heap[k]? = some o := fun k o hk => ((World.grownBy_alloc w1 _ none).block k (lt_of_heap hk) (by simp)).trans hk
  have hM1 := (q2.block M (lt_of_heap hM)).trans hM
  have hM2 := box M _ hM1
  have hDM : D ≠ M := by rintro rfl; rw [hd.hD] at hM; cases hM
  have hD2 := (setMap_ne (o := .map es' c') hDM).trans (box D _ ((q2.block D (lt_of_heap hd.hD)).trans hd.hD))
  have up : ∀ k o, w.heap[k]? = some o → k ≠ M → (setMap (w1.alloc (.cells #[.int .i64 i, bv] 97)) M (.map es' c')).heap[k]? = some o := fun k o hk hne => (setMap_ne hne).trans (box k o ((q2.block k (lt_of_heap hk)).trans hk))
  have hL2 : (setMap (w1.alloc (.cells #[.int .i64 i, bv] 97)) M (.map es' c')).ownsRow base 97 2 lv d.log.length (rowOf d.log vs) := own_move l3 fun g cur hg hh => up g _ hh (by rintro rfl; rw [hM] at hh; cases hh)
  have cA : Chg base DK w w1 := Chg.of_below q2 hbw
  have cB : Chg base DK w1 (w1.alloc (.cells #[.int .i64 i, bv] 97)) := Chg.of_below ((Below.refl _ _).alloc (Nat.le_refl _) _) (by omega)
  have cC := Chg.setMap (o := .map es' c') hd.bM hM2
  have cD : Chg base DK _ (w3.setCell ⟨D, 3, none⟩ lv1) := chg_of hd.bD (by rw [setMap_size]; simp; omega) hD2 hL2 (fun _ => rfl) q6
  have c1 := (cB.trans cC).trans cD
  have call := cA.trans c1
  subst hw
  refine ⟨?_, call⟩
  have ho : ∀ k, k ≠ D → (w3.setCell ⟨D, 3, none⟩ lv1).heap[k]? = w3.heap[k]? := fun k hk => by simp [World.setCell, Array.getElem?_modify, Ne.symm hk]
  have hne : lv.ownBlock ≠ some D := fun q => by
    obtain ⟨cur, hc⟩ := (own_kind l3 q).2
    rw [hd.hD] at hc
    cases hc
  have hD3 : w3.heap[D]? = _ := (q6.block D (lt_of_heap hD2) (fun q => hne q.symm)).trans hD2
  have same : ∀ k o, w.heap[k]? = some o → k ≠ M → k ≠ D → some k ≠ lv.ownBlock → (w3.setCell ⟨D, 3, none⟩ lv1).heap[k]? = some o := fun k o hk h3 h4 h5 =>
    (ho k h4).trans ((q6.block k (lt_of_heap (up k o hk h3)) h5).trans (up k o hk h3))
  have rowNe : ∀ k o, w.heap[k]? = some o → (∀ cur, o ≠ .cells cur 97 (0, 0)) → some k ≠ lv.ownBlock := fun k o hk hn q => by
    obtain ⟨cur, hc⟩ := (own_kind l3 q.symm).2
    rw [hc] at hk
    cases hk
    exact hn cur rfl
  have hMf : (w3.setCell ⟨D, 3, none⟩ lv1).heap[M]? = some (.map es' c') := by
    rw [ho M (Ne.symm hDM), q6.block M (by rw [setMap_size]; exact lt_of_heap hM2) (rowNe M _ hM (fun cur q => by cases q))]
    exact setMap_at (lt_of_heap hM2)
  obtain ⟨esF, cF, hF, _⟩ := hd.hF
  refine ⟨F, M, lv1, sv, hd.bD, hd.bF, hd.bM, hd.ne, ?_, hd.hF.move ((same F _ hF hd.ne (by rintro rfl; rw [hd.hD] at hF; cases hF) (rowNe F _ hF (fun cur q => by cases q))).trans hF.symm) call, ⟨es', c', hMf, q3, fun k => ?_⟩, ⟨vs ++ [bv], by simp [l1], ?_, ?_⟩, own_move hd.hS fun g cur hg hh => same g _ hh (by rintro rfl; rw [hM] at hh; cases hh) (by rintro rfl; rw [hd.hD] at hh; cases hh) (rowNe g _ hh (fun cur q => by cases q))⟩
  · simp [World.setCell, Array.getElem?_modify, hD3]
  · rw [q4 k]
    by_cases hk : k = i
    · rw [if_pos hk]
      show Byts _ bv (if k = i then l else d.now k)
      rw [if_pos hk]
      exact q1.keep c1
    · rw [if_neg hk]
      show Byts _ _ (if k = i then l else d.now k)
      rw [if_neg hk]
      exact (hmb k).keep call
  · intro p hp
    rw [List.zip_append l1.symm] at hp
    rcases List.mem_append.1 hp with hp | hp
    · exact (l2 p hp).keep call
    · simp only [List.zip_cons_cons, List.zip_nil_right, List.mem_singleton] at hp
      subst hp
      exact q1.keep c1
  · show World.ownsRow _ base 97 2 lv1 (d.log ++ [(i, l)]).length (rowOf (d.log ++ [(i, l)]) (vs ++ [bv]))
    rw [rowOf_snoc l1, List.length_append]
    refine own_move q5 fun g cur hg hh => (ho g ?_).trans hh
    rintro rfl
    rw [hD3] at hh
    cases hh
theorem write_no [av : Av] (base : Nat) (w : World) (D : Nat) (d : Dsk) (i : Int) (v : Value) (h : IsDk base w D d) (hi : i < 0 ∨ d.N ≤ i) : Calls Tryd.prog 53 #[.pointer (some ⟨D, 0, none⟩), .int .i64 i, v] w fun e w' => e = .returned (.int .i64 51) ∧ w = w' := by
  obtain ⟨F, M, lv, sv, hd⟩ := h
  obtain ⟨c0, _⟩ := hd.cells
  clear hd
  go_enter Tryd.func53, Tryd.ntmps53
  go_wp2_with (go_at_call 45; refine (has_no D d.N i _ c0 hi).mono ?_; rintro e w' ⟨rfl, rfl⟩)
  go_ret
  exact ⟨rfl, rfl⟩
theorem write_long [av : Av] (base : Nat) (w : World) (D : Nat) (d : Dsk) (i : Int) (a : Option Addr) (n c : Nat) (h : IsDk base w D d) (h0 : 0 ≤ i) (h1 : i < d.N) (hn : 128 < n) : Calls Tryd.prog 53 #[.pointer (some ⟨D, 0, none⟩), .int .i64 i, .slice a n c] w fun e w' => e = .returned (.int .i64 1) ∧ w = w' := by
  obtain ⟨F, M, lv, sv, hd⟩ := h
  obtain ⟨c0, _⟩ := hd.cells
  have hn' : decide (128 < (n : Int)) = true := decide_eq_true (by omega)
  have H0 := Lib.hid h0
  have H1 := Lib.hid h1
  clear hd h0 h1
  go_enter Tryd.func53, Tryd.ntmps53
  go_wp2_with (go_at_call 45; refine (has_yes D d.N i _ c0 H0.out H1.out).mono ?_; rintro e w' ⟨rfl, rfl⟩)
  go_ret
  exact ⟨rfl, rfl⟩
end Dk
end Go.Proofs.YtcjhligknhpadaaDoor

namespace Go.Proofs.YtcjhligknhpadaaDoor
open Go.RowKit
set_option linter.unusedVariables false
set_option linter.unusedSimpArgs false
namespace Dk

/-- how many writes are not safe -/
def pend (d : Dsk) : Int := match d.syncs.getLast? with
  | none => d.log.length
  | some s => d.log.length - s
def Dsk.Fit (d : Dsk) : Prop := d.log.length ≤ 1000000 ∧ d.syncs.length ≤ 1000000 ∧ (∀ s ∈ d.syncs, 0 ≤ s ∧ s ≤ d.log.length)
theorem sync_cell [av : Av] {base : Nat} {w : World} {D F M : Nat} {lv sv : Value} {d : Dsk} (h : DkAt base w D F M lv sv d) (i : Nat) (hi : i < d.syncs.length) : ∃ g c, sv = .slice (some ⟨g, 0, none⟩) d.syncs.length c ∧ d.syncs.length ≤ c ∧ w.cell? ⟨g, i, none⟩ = some (.int .i64 d.syncs[i]) := by
  rcases h.hS.2 with ⟨_, q⟩ | ⟨g, cap, cur, q, q2, q3, q4, q5⟩
  · omega
  · refine ⟨g, cap, q, q4, ?_⟩
    have := World.ownsRow.cells h.hS (g := g) (by rw [q]; rfl) i (.int .i64 d.syncs[i]) (by rw [List.getElem?_map, List.getElem?_eq_getElem hi]; rfl)
    rw [show (⟨g, 0, none⟩ : Addr).add i = ⟨g, i, none⟩ by unfold Addr.add; split <;> simp_all] at this
    exact this
set_option maxHeartbeats 1000000 in
theorem pending_any [av : Av] (base : Nat) (w : World) (D : Nat) (d : Dsk) (h : IsDk base w D d) (hf : d.Fit) : Calls Tryd.prog 20 #[.pointer (some ⟨D, 0, none⟩)] w fun e w' => e = .returned (.int .i64 (pend d)) ∧ ∃ n, w' = w.drewN n := by
  obtain ⟨F, M, lv, sv, hd⟩ := h
  obtain ⟨vs, l1, l2, l3⟩ := hd.hL
  obtain ⟨la, lc, rfl⟩ := own_slice l3
  obtain ⟨_, _, _, c3, c4⟩ := hd.cells
  obtain ⟨f1, f2, f3⟩ := hf
  by_cases hs : d.syncs = []
  · have hp : pend d = d.log.length := by simp [pend, hs]
    obtain ⟨sa, sc, rfl⟩ := own_slice hd.hS
    have hl : d.syncs.length = 0 := by rw [hs]; rfl
    rw [hl] at c4
    have h0' : ((0 : Nat) : Int) == 0 := rfl
    clear l3 hd f1 f2 f3 hs
    rw [hp]
    go_enter Tryd.func20, Tryd.ntmps20
    go_wp2_with (go_at_call 27; refine (writes_any D d.log.length lc la _ c3).mono ?_; rintro e w' ⟨rfl, rfl⟩)
    go_ret
    exact ⟨rfl, 0, rfl⟩
  · have hpos : 0 < d.syncs.length := List.length_pos_iff.2 hs
    obtain ⟨g, c, rfl, hcap, hcell⟩ := sync_cell hd (d.syncs.length - 1) (by omega)
    have hp : pend d = d.log.length - d.syncs[d.syncs.length - 1] := by
      unfold pend
      rw [List.getLast?_eq_getElem?, List.getElem?_eq_getElem (by omega)]
    have hb := f3 _ (List.getElem_mem (show d.syncs.length - 1 < d.syncs.length by omega))
    rw [hp]
    clear hp hd l3 l2 l1 f3 hs
    generalize d.syncs[d.syncs.length - 1] = s at hcell hb ⊢
    generalize d.syncs.length = n at f2 c4 hpos hcap hcell ⊢
    generalize d.log.length = m at f1 c3 hb ⊢
    obtain ⟨k, hk⟩ : ∃ k, n - 1 = k := ⟨_, rfl⟩
    rw [hk] at hcell
    have e1 : IntKind.i64.wrap ((n : Int) - 1) = (k : Int) := by rw [IntWalk.i64_in _ (by omega)]; omega
    have e2 : IntKind.i64.wrap ((m : Int) - s) = (m : Int) - s := IntWalk.i64_in _ (by omega)
    have e3 : ((n : Int) == 0) = false := by simp; omega
    have e4 : (0 : Int) ≤ (k : Int) := by omega
    have e5 : (k : Int) < (n : Int) := by omega
    have e6 : k < n := by omega
    clear f1 f2 hb hpos hcap hk
    go_enter Tryd.func20, Tryd.ntmps20
    go_wp2
    refine Go.Proofs.YtcjhligknhpadaaDoorW.PrintLast.start_ (n := 19) (S := fun v => v.cell? ⟨D, 3, none⟩ = some (.slice la m lc) ∧ v.cell? ⟨D, 4, none⟩ = some (.slice (some ⟨g, 0, none⟩) n c) ∧ v.cell? ⟨g, k, none⟩ = some (.int .i64 s)) (ds := [18]) #[false, false, false, false, false, false, false, false, false, false, false, false, false, false, false, false, false, false, false] (by kernel_rfl) rfl rfl ⟨c3, c4, hcell⟩ (fun hHeld => ?_)
    refine Go.Proofs.YtcjhligknhpadaaDoorW.PrintLast.pure_ (i := 0) (N := some 15) (v := ?_) (a' := ?_) #[true, false, false, false, false, false, false, false, false, false, false, false, false, false, false, false, false, false, false] rfl rfl (by kernel_rfl) (fun _ _ _ h => h) (Or.inl ⟨by rfl, ?_⟩) ?_ ?_
    rotate_left
    · intro w'
      go_simp
      with_reducible rfl
    rotate_left
    · simp only [Act.put, List.setIfInBounds_toArray, List.set_cons_zero, List.set_cons_succ, Go.Proofs.YtcjhligknhpadaaDoorW.PrintLast.i64_w, Go.Proofs.YtcjhligknhpadaaDoorW.PrintLast.i32_w]
      rfl
    refine Go.Proofs.YtcjhligknhpadaaDoorW.PrintLast.pure_ (i := 1) (N := some 16) (v := ?_) (a' := ?_) #[true, true, false, false, false, false, false, false, false, false, false, false, false, false, false, false, false, false, false] rfl rfl (by kernel_rfl) (fun _ _ _ h => h) (Or.inl ⟨by rfl, ?_⟩) ?_ ?_
    rotate_left
    · intro w'
      go_simp
      with_reducible rfl
    rotate_left
    · simp only [Act.put, List.setIfInBounds_toArray, List.set_cons_zero, List.set_cons_succ, Go.Proofs.YtcjhligknhpadaaDoorW.PrintLast.i64_w, Go.Proofs.YtcjhligknhpadaaDoorW.PrintLast.i32_w]
      rfl
    refine Go.Proofs.YtcjhligknhpadaaDoorW.PrintLast.pure_ (i := 2) (N := some 17) (v := ?_) (a' := ?_) #[true, true, true, false, false, false, false, false, false, false, false, false, false, false, false, false, false, false, false] rfl rfl (by kernel_rfl) (fun _ _ _ h => h) (Or.inl ⟨by rfl, ?_⟩) ?_ ?_
    rotate_left
    · intro w'
      go_simp
      with_reducible rfl
    rotate_left
    · simp only [Act.put, List.setIfInBounds_toArray, List.set_cons_zero, List.set_cons_succ, Go.Proofs.YtcjhligknhpadaaDoorW.PrintLast.i64_w, Go.Proofs.YtcjhligknhpadaaDoorW.PrintLast.i32_w]
      rfl
    refine Go.Proofs.YtcjhligknhpadaaDoorW.PrintLast.take_ (i := 3) (N := some 18) (v := ?_) (a' := ?_) #[true, true, true, true, false, false, false, false, false, false, false, false, false, false, false, false, false, false, false] rfl rfl (by kernel_rfl) (fun _ _ _ h => h) (Or.inl ⟨by rfl, ?_⟩) hHeld ?_ ?_
    rotate_left
    · rintro w' ⟨s0, s1, s2⟩
      go_simp
      with_reducible rfl
    rotate_left
    · simp only [Act.put, List.setIfInBounds_toArray, List.set_cons_zero, List.set_cons_succ, Go.Proofs.YtcjhligknhpadaaDoorW.PrintLast.i64_w, Go.Proofs.YtcjhligknhpadaaDoorW.PrintLast.i32_w]
      rfl
    refine Go.Proofs.YtcjhligknhpadaaDoorW.PrintLast.take_ (i := 4) (N := some 19) (v := ?_) (a' := ?_) #[true, true, true, true, true, false, false, false, false, false, false, false, false, false, false, false, false, false, false] rfl rfl (by kernel_rfl) (fun _ _ _ h => h) (Or.inl ⟨by rfl, ?_⟩) hHeld ?_ ?_
    rotate_left
    · rintro w' ⟨s0, s1, s2⟩
      go_simp
      with_reducible rfl
    rotate_left
    · simp only [Act.put, List.setIfInBounds_toArray, List.set_cons_zero, List.set_cons_succ, Go.Proofs.YtcjhligknhpadaaDoorW.PrintLast.i64_w, Go.Proofs.YtcjhligknhpadaaDoorW.PrintLast.i32_w]
      rfl
    refine Go.Proofs.YtcjhligknhpadaaDoorW.PrintLast.pure_ (i := 5) (N := some 20) (v := ?_) (a' := ?_) #[true, true, true, true, true, true, false, false, false, false, false, false, false, false, false, false, false, false, false] rfl rfl (by kernel_rfl) (fun _ _ _ h => h) (Or.inl ⟨by rfl, ?_⟩) ?_ ?_
    rotate_left
    · intro w'
      go_simp
      with_reducible rfl
    rotate_left
    · simp only [Act.put, List.setIfInBounds_toArray, List.set_cons_zero, List.set_cons_succ, Go.Proofs.YtcjhligknhpadaaDoorW.PrintLast.i64_w, Go.Proofs.YtcjhligknhpadaaDoorW.PrintLast.i32_w]
      rfl
    refine Go.Proofs.YtcjhligknhpadaaDoorW.PrintLast.pure_ (i := 6) (N := some 21) (v := ?_) (a' := ?_) #[true, true, true, true, true, true, true, false, false, false, false, false, false, false, false, false, false, false, false] rfl rfl (by kernel_rfl) (fun _ _ _ h => h) (Or.inl ⟨by rfl, ?_⟩) ?_ ?_
    rotate_left
    · intro w'
      go_simp
      with_reducible rfl
    rotate_left
    · simp only [Act.put, List.setIfInBounds_toArray, List.set_cons_zero, List.set_cons_succ, Go.Proofs.YtcjhligknhpadaaDoorW.PrintLast.i64_w, Go.Proofs.YtcjhligknhpadaaDoorW.PrintLast.i32_w]
      rfl
    refine Go.Proofs.YtcjhligknhpadaaDoorW.PrintLast.pure_ (i := 7) (N := some 22) (v := ?_) (a' := ?_) #[true, true, true, true, true, true, true, true, false, false, false, false, false, false, false, false, false, false, false] rfl rfl (by kernel_rfl) (fun _ _ _ h => h) (Or.inl ⟨by rfl, ?_⟩) ?_ ?_
    rotate_left
    · intro w'
      go_simp
      with_reducible rfl
    rotate_left
    · simp only [Act.put, List.setIfInBounds_toArray, List.set_cons_zero, List.set_cons_succ, Go.Proofs.YtcjhligknhpadaaDoorW.PrintLast.i64_w, Go.Proofs.YtcjhligknhpadaaDoorW.PrintLast.i32_w]
      rfl
    refine Go.Proofs.YtcjhligknhpadaaDoorW.PrintLast.take_ (i := 8) (N := some 23) (v := ?_) (a' := ?_) #[true, true, true, true, true, true, true, true, true, false, false, false, false, false, false, false, false, false, false] rfl rfl (by kernel_rfl) (fun _ _ _ h => h) (Or.inl ⟨by rfl, ?_⟩) hHeld ?_ ?_
    rotate_left
    · rintro w' ⟨s0, s1, s2⟩
      go_simp
      with_reducible rfl
    rotate_left
    · simp only [Act.put, List.setIfInBounds_toArray, List.set_cons_zero, List.set_cons_succ, Go.Proofs.YtcjhligknhpadaaDoorW.PrintLast.i64_w, Go.Proofs.YtcjhligknhpadaaDoorW.PrintLast.i32_w]
      rfl
    refine Go.Proofs.YtcjhligknhpadaaDoorW.PrintLast.pure_ (i := 9) (N := some 24) (v := ?_) (a' := ?_) #[true, true, true, true, true, true, true, true, true, true, false, false, false, false, false, false, false, false, false] rfl rfl (by kernel_rfl) (fun _ _ _ h => h) (Or.inl ⟨by rfl, ?_⟩) ?_ ?_
    rotate_left
    · intro w'
      go_simp
      with_reducible rfl
    rotate_left
    · simp only [Act.put, List.setIfInBounds_toArray, List.set_cons_zero, List.set_cons_succ, Go.Proofs.YtcjhligknhpadaaDoorW.PrintLast.i64_w, Go.Proofs.YtcjhligknhpadaaDoorW.PrintLast.i32_w]
      rfl
    refine Go.Proofs.YtcjhligknhpadaaDoorW.PrintLast.pure_ (i := 10) (N := some 25) (v := ?_) (a' := ?_) #[true, true, true, true, true, true, true, true, true, true, true, false, false, false, false, false, false, false, false] rfl rfl (by kernel_rfl) (fun _ _ _ h => h) (Or.inl ⟨by rfl, ?_⟩) ?_ ?_
    rotate_left
    · intro w'
      go_simp
      with_reducible rfl
    rotate_left
    · simp only [Act.put, List.setIfInBounds_toArray, List.set_cons_zero, List.set_cons_succ, Go.Proofs.YtcjhligknhpadaaDoorW.PrintLast.i64_w, Go.Proofs.YtcjhligknhpadaaDoorW.PrintLast.i32_w]
      rfl
    refine Go.Proofs.YtcjhligknhpadaaDoorW.PrintLast.pure_ (i := 11) (N := some 26) (v := ?_) (a' := ?_) #[true, true, true, true, true, true, true, true, true, true, true, true, false, false, false, false, false, false, false] rfl rfl (by kernel_rfl) (fun _ _ _ h => h) (Or.inl ⟨by rfl, ?_⟩) ?_ ?_
    rotate_left
    · intro w'
      go_simp
      with_reducible rfl
    rotate_left
    · simp only [Act.put, List.setIfInBounds_toArray, List.set_cons_zero, List.set_cons_succ, Go.Proofs.YtcjhligknhpadaaDoorW.PrintLast.i64_w, Go.Proofs.YtcjhligknhpadaaDoorW.PrintLast.i32_w]
      rfl
    refine Go.Proofs.YtcjhligknhpadaaDoorW.PrintLast.take_ (i := 12) (N := some 27) (v := ?_) (a' := ?_) #[true, true, true, true, true, true, true, true, true, true, true, true, true, false, false, false, false, false, false] rfl rfl (by kernel_rfl) (fun _ _ _ h => h) (Or.inl ⟨by rfl, ?_⟩) hHeld ?_ ?_
    rotate_left
    · rintro w' ⟨s0, s1, s2⟩
      go_simp
      with_reducible rfl
    rotate_left
    · simp only [Act.put, List.setIfInBounds_toArray, List.set_cons_zero, List.set_cons_succ, Go.Proofs.YtcjhligknhpadaaDoorW.PrintLast.i64_w, Go.Proofs.YtcjhligknhpadaaDoorW.PrintLast.i32_w]
      rfl
    refine Go.Proofs.YtcjhligknhpadaaDoorW.PrintLast.take_ (i := 13) (N := some 28) (v := ?_) (a' := ?_) #[true, true, true, true, true, true, true, true, true, true, true, true, true, true, false, false, false, false, false] rfl rfl (by kernel_rfl) (fun _ _ _ h => h) (Or.inl ⟨by rfl, ?_⟩) hHeld ?_ ?_
    rotate_left
    · rintro w' ⟨s0, s1, s2⟩
      go_simp
      with_reducible rfl
    rotate_left
    · simp only [Act.put, List.setIfInBounds_toArray, List.set_cons_zero, List.set_cons_succ, Go.Proofs.YtcjhligknhpadaaDoorW.PrintLast.i64_w, Go.Proofs.YtcjhligknhpadaaDoorW.PrintLast.i32_w]
      rfl
    refine Go.Proofs.YtcjhligknhpadaaDoorW.PrintLast.pure_ (i := 14) (N := some 29) (v := ?_) (a' := ?_) #[true, true, true, true, true, true, true, true, true, true, true, true, true, true, true, false, false, false, false] rfl rfl (by kernel_rfl) (fun _ _ _ h => h) (Or.inl ⟨by rfl, ?_⟩) ?_ ?_
    rotate_left
    · intro w'
      go_simp
      with_reducible rfl
    rotate_left
    · simp only [Act.put, List.setIfInBounds_toArray, List.set_cons_zero, List.set_cons_succ, Go.Proofs.YtcjhligknhpadaaDoorW.PrintLast.i64_w, Go.Proofs.YtcjhligknhpadaaDoorW.PrintLast.i32_w]
      rfl
    refine Go.Proofs.YtcjhligknhpadaaDoorW.PrintLast.pure_ (i := 15) (N := some 30) (v := ?_) (a' := ?_) #[true, true, true, true, true, true, true, true, true, true, true, true, true, true, true, true, false, false, false] rfl rfl (by kernel_rfl) (fun _ _ _ h => h) (Or.inl ⟨by rfl, ?_⟩) ?_ ?_
    rotate_left
    · intro w'
      go_simp
      with_reducible rfl
    rotate_left
    · simp only [Act.put, List.setIfInBounds_toArray, List.set_cons_zero, List.set_cons_succ, Go.Proofs.YtcjhligknhpadaaDoorW.PrintLast.i64_w, Go.Proofs.YtcjhligknhpadaaDoorW.PrintLast.i32_w]
      rfl
    refine Go.Proofs.YtcjhligknhpadaaDoorW.PrintLast.take_ (i := 16) (N := some 31) (v := ?_) (a' := ?_) #[true, true, true, true, true, true, true, true, true, true, true, true, true, true, true, true, true, false, false] rfl rfl (by kernel_rfl) (fun _ _ _ h => h) (Or.inl ⟨by rfl, ?_⟩) hHeld ?_ ?_
    rotate_left
    · rintro w' ⟨s0, s1, s2⟩
      go_simp
      with_reducible rfl
    rotate_left
    · simp only [Act.put, List.setIfInBounds_toArray, List.set_cons_zero, List.set_cons_succ, Go.Proofs.YtcjhligknhpadaaDoorW.PrintLast.i64_w, Go.Proofs.YtcjhligknhpadaaDoorW.PrintLast.i32_w]
      rfl
    refine Go.Proofs.YtcjhligknhpadaaDoorW.PrintLast.pure_ (i := 17) (N := some 32) (v := ?_) (a' := ?_) #[true, true, true, true, true, true, true, true, true, true, true, true, true, true, true, true, true, true, false] rfl rfl (by kernel_rfl) (fun _ _ _ h => h) (Or.inl ⟨by rfl, ?_⟩) ?_ ?_
    rotate_left
    · intro w'
      go_simp
      with_reducible rfl
    rotate_left
    · simp only [Act.put, List.setIfInBounds_toArray, List.set_cons_zero, List.set_cons_succ, Go.Proofs.YtcjhligknhpadaaDoorW.PrintLast.i64_w, Go.Proofs.YtcjhligknhpadaaDoorW.PrintLast.i32_w]
      rfl
    refine Go.Proofs.YtcjhligknhpadaaDoorW.PrintLast.pure_ (i := 18) (N := some 2) (v := ?_) (a' := ?_) #[true, true, true, true, true, true, true, true, true, true, true, true, true, true, true, true, true, true, true] rfl rfl (by kernel_rfl) (fun _ _ _ h => h) (Or.inl ⟨by rfl, ?_⟩) ?_ ?_
    rotate_left
    · intro w'
      go_simp
      with_reducible rfl
    rotate_left
    · simp only [Act.put, List.setIfInBounds_toArray, List.set_cons_zero, List.set_cons_succ, Go.Proofs.YtcjhligknhpadaaDoorW.PrintLast.i64_w, Go.Proofs.YtcjhligknhpadaaDoorW.PrintLast.i32_w]
      rfl
    refine Go.Proofs.YtcjhligknhpadaaDoorW.PrintLast.done_ (by kernel_rfl) ?_
    go_wp2
    go_ret
    exact ⟨rfl, 1, rfl⟩
end Dk
end Go.Proofs.YtcjhligknhpadaaDoor

namespace Go.Proofs.YtcjhligknhpadaaDoor
open Go.RowKit
set_option linter.unusedVariables false
set_option linter.unusedSimpArgs false
namespace Dk

def upd (m : Int → List Int) (k : Int) (l : List Int) : Int → List Int := fun q => if q = k then l else m q
def kept (safe : Nat) (keep : List Bool) (i : Nat) : Bool := decide (i < safe) || (decide (i - safe < keep.length) && keep.getD (i - safe) false)
/-- what the first k writes leave -/
def leftM (first : Int → List Int) (log : List (Int × List Int)) (safe : Nat) (keep : List Bool) : Nat → Int → List Int
  | 0 => first
  | k + 1 => if kept safe keep k then upd (leftM first log safe keep k) (log.getD k (0, [])).1 (log.getD k (0, [])).2 else leftM first log safe keep k
def leftD (d : Dsk) (safe n : Nat) (keep : List Bool) : Dsk := ⟨d.N, leftM d.first d.log safe keep n, leftM d.first d.log safe keep n, [], []⟩
theorem rowOf_at : ∀ (log : List (Int × List Int)) (vs : List Value), vs.length = log.length → ∀ k (hk : k < log.length), (rowOf log vs)[k * 2]? = some (.int .i64 log[k].1) ∧ ∃ v, vs[k]? = some v ∧ (rowOf log vs)[k * 2 + 1]? = some v
  | [], _, _, k, hk => by simp at hk
  | x :: log, [], h, k, hk => by simp at h
  | x :: log, v :: vs, h, k, hk => by
    have e : rowOf (x :: log) (v :: vs) = .int .i64 x.1 :: v :: rowOf log vs := rfl
    rw [e]
    cases k with
    | zero => exact ⟨rfl, v, rfl, rfl⟩
    | succ k =>
      obtain ⟨h1, u, h2, h3⟩ := rowOf_at log vs (by simpa using h) k (by simpa using hk)
      have e2 : (k + 1) * 2 = k * 2 + 1 + 1 := by omega
      rw [e2]
      exact ⟨h1, u, h2, h3⟩
theorem log_cell [av : Av] {base : Nat} {w : World} {lv : Value} {log : List (Int × List Int)} (h : LogAt base w lv log) (hl : 0 < log.length) : ∃ g c, lv = .slice (some ⟨g, 0, none⟩) log.length c ∧ log.length ≤ c ∧ g < w.heap.size ∧ ∀ k (hk : k < log.length), ∃ v, Byts w v log[k].2 ∧ w.cell? ⟨g, k * 2, none⟩ = some (.int .i64 log[k].1) ∧ w.cell? ⟨g, k * 2 + 1, none⟩ = some v := by
  obtain ⟨vs, h1, h2, h3⟩ := h
  rcases h3.2 with ⟨_, q⟩ | ⟨g, cap, cur, q, q2, q3, q4, q5⟩
  · omega
  · refine ⟨g, cap, q, q4, lt_of_heap q3, fun k hk => ?_⟩
    obtain ⟨e1, v, e2, e3⟩ := rowOf_at log vs h1 k hk
    have hc := World.ownsRow.cells h3 (g := g) (by rw [q]; rfl)
    have ad : ∀ i, (⟨g, 0, none⟩ : Addr).add i = ⟨g, i, none⟩ := fun i => by unfold Addr.add; split <;> simp_all
    refine ⟨v, ?_, by rw [← ad]; exact hc _ _ e1, by rw [← ad]; exact hc _ _ e3⟩
    refine h2 (log[k], v) (List.mem_iff_getElem?.2 ⟨k, ?_⟩)
    rw [List.getElem?_zip_eq_some]
    exact ⟨List.getElem?_eq_getElem hk, e2⟩
theorem three (w : World) (a b c : Obj) : (((w.alloc a).alloc b).alloc c).heap[w.heap.size]? = some a ∧ (((w.alloc a).alloc b).alloc c).heap[w.heap.size + 1]? = some b ∧ (((w.alloc a).alloc b).alloc c).heap[w.heap.size + 2]? = some c := by
  have e1 : (w.alloc a).heap.size = w.heap.size + 1 := by simp
  have e2 : ((w.alloc a).alloc b).heap.size = w.heap.size + 2 := by simp
  refine ⟨?_, ?_, ?_⟩
  · exact ((World.grownBy_alloc ((w.alloc a).alloc b) c none).block _ (by omega) (by simp)).trans (((World.grownBy_alloc (w.alloc a) b none).block _ (by omega) (by simp)).trans (World.alloc_heap_new w a))
  · rw [← e1]; exact ((World.grownBy_alloc ((w.alloc a).alloc b) c none).block _ (by omega) (by simp)).trans (World.alloc_heap_new _ b)
  · rw [← e2]; exact World.alloc_heap_new _ c
theorem new_abs (n : Int) (w : World) (h0 : 1 ≤ n) (h1 : n ≤ 4096) : Calls Tryd.prog 16 #[.int .i64 n] w fun e w' => e = .returned (.tuple #[.pointer (some ⟨w.heap.size + 2, 0, none⟩), .int .i64 0]) ∧ Below w.heap.size w w' ∧ w'.heap.size = w.heap.size + 3 ∧ w'.heap[w.heap.size]? = some (.map #[] 0) ∧ w'.heap[w.heap.size + 1]? = some (.map #[] 0) ∧ w'.heap[w.heap.size + 2]? = some (.cells #[.int .i64 n, .map (some w.heap.size), .map (some (w.heap.size + 1)), .slice none 0 0, .slice none 0 0] 82 (0, 0)) := by
  refine (new_yes n w h0 h1).mono fun e w' ⟨he, hw⟩ => ⟨he, ?_⟩
  subst hw
  obtain ⟨h1, h2, h3⟩ := three w (.map #[] 0) (.map #[] 0) (.cells #[.int .i64 n, .map (some w.heap.size), .map (some (w.heap.size + 1)), .slice none 0 0, .slice none 0 0] 82)
  exact ⟨(((Below.refl _ _).alloc (Nat.le_refl _) _).alloc (by simp) _).alloc (by simp <;> omega) _, by simp, h1, h2, h3⟩
theorem clone_abs (M : Nat) (es : Array MapEntry) (c : Nat) (w : World) (hb : w.heap[M]? = some (.map es c)) : Calls Tryd.prog 55 #[.map (some M)] w fun e w' => e = .returned (.map (some w.heap.size)) ∧ Below w.heap.size w w' ∧ w'.heap.size = w.heap.size + 1 ∧ w'.heap[w.heap.size]? = some (.map es c) := by
  refine (clone_map M es c w hb).mono fun e w' ⟨he, hw⟩ => ⟨he, ?_⟩
  subst hw
  exact ⟨(Below.refl _ _).alloc (Nat.le_refl _) _, by simp, World.alloc_heap_new _ _⟩
/-- what stands when k writes have been looked at -/
structure Lr [av : Av] (w : World) (d : Dsk) (safe : Nat) (keep : List Bool) (n k : Nat) (wr : World) : Prop where
  kn : k ≤ n
  hC : wr.heap[w.heap.size + 2]? = some (.cells #[.int .i64 d.N, .map (some (w.heap.size + 3)), .map (some (w.heap.size + 1)), .slice none 0 0, .slice none 0 0] 82 (0, 0))
  hF : MapB wr (w.heap.size + 3) (leftM d.first d.log safe keep k)
  hb : Below w.heap.size w wr
  hz : w.heap.size + 4 ≤ wr.heap.size
def LrR [av : Av] (w : World) (d : Dsk) (safe : Nat) (keep : List Bool) (n : Nat) (i : Value) (wr : World) : Prop := ∃ k : Nat, i = .int .i64 k ∧ Lr w d safe keep n k wr
theorem Chg.drew {B : Nat} {K : Obj → Bool} {w w1 : World} (h : Chg B K w w1) : Chg B K w w1.drew := ⟨h.os, h.tape, h.output, h.size, h.old, h.keep⟩
theorem Lr.take [av : Av] {w wr : World} {d : Dsk} {safe n k : Nat} {keep : List Bool} {ls : Int} {lb : List Int} {bv : Value} {es es' : Array MapEntry} {c c' : Nat} (h : Lr w d safe keep n k wr) (hk : k < n) (hkp : kept safe keep k = true) (hlk : d.log.getD k (0, []) = (ls, lb)) (hbv : Byts w bv lb)
    (hF : wr.heap[w.heap.size + 3]? = some (.map es c)) (hFv : ∀ q, Byts wr ((mget es.toList q).getD (.slice none 0 0)) (leftM d.first d.log safe keep k q)) (hk' : KeysInt es'.toList) (hm' : ∀ k2, mget es'.toList k2 = if k2 = ls then some bv else mget es.toList k2) :
    Lr w d safe keep n (k + 1) (setMap (wr.alloc (.cells #[.int .i64 ls, bv] 97)).drew (w.heap.size + 3) (.map es' c')) := by
  have hz := h.hz
  have hF1 : (wr.alloc (.cells #[.int .i64 ls, bv] 97)).drew.heap[w.heap.size + 3]? = some (.map es c) := ((World.grownBy_alloc wr _ none).block _ (lt_of_heap hF) (by simp)).trans hF
  have cA : Chg w.heap.size DK wr (wr.alloc (.cells #[.int .i64 ls, bv] 97)).drew := (Chg.of_below ((Below.refl _ _).alloc (Nat.le_refl _) _) (by omega)).drew
  have cC : Chg w.heap.size DK wr _ := cA.trans (Chg.setMap (o := .map es' c') (by omega) hF1)
  have c0 : Chg w.heap.size DK w wr := Chg.of_below h.hb (Nat.le_refl _)
  refine ⟨hk, ?_, ⟨es', c', setMap_at (lt_of_heap hF1), hk', fun q => ?_⟩, (c0.trans cC).below, by rw [setMap_size]; simp; omega⟩
  · rw [setMap_ne (by omega)]
    exact ((World.grownBy_alloc wr _ none).block _ (lt_of_heap h.hC) (by simp)).trans h.hC
  · rw [hm' q]
    simp only [leftM, hkp, if_true, hlk, upd]
    by_cases hq : q = ls
    · rw [if_pos hq, if_pos hq]
      exact hbv.keep (c0.trans cC)
    · rw [if_neg hq, if_neg hq]
      exact (hFv q).keep cC
theorem Lr.skip [av : Av] {w wr : World} {d : Dsk} {safe n k : Nat} {keep : List Bool} (h : Lr w d safe keep n k wr) (hk : k < n) (hkp : kept safe keep k = false) (o : Obj) : Lr w d safe keep n (k + 1) (wr.alloc o) := by
  have hz := h.hz
  have cA : Below wr.heap.size wr (wr.alloc o) := (Below.refl _ _).alloc (Nat.le_refl _) _
  refine ⟨hk, ((World.grownBy_alloc wr _ none).block _ (lt_of_heap h.hC) (by simp)).trans h.hC, ?_, h.hb.trans (cA.mono (by omega)), by simp; omega⟩
  have := h.hF.below cA
  simpa [leftM, hkp] using this
theorem Chg.cell {base : Nat} {w : World} {D : Nat} {cs : Array Value} (hb : base ≤ D) (hD : w.heap[D]? = some (.cells cs 82 (0, 0))) (i : Nat) (v : Value) : Chg base DK w (w.setCell ⟨D, i, none⟩ v) := by
  have ho : ∀ k, k ≠ D → (w.setCell ⟨D, i, none⟩ v).heap[k]? = w.heap[k]? := fun k hk => by simp [World.setCell, Array.getElem?_modify, Ne.symm hk]
  refine ⟨rfl, rfl, rfl, by simp [World.setCell], fun k hk => ho k (by omega), fun k o hk hK => ?_⟩
  have h1 : k ≠ D := by rintro rfl; rw [hD] at hk; cases hk; cases hK
  rw [ho k h1, hk]
theorem Lr.done [av : Av] {base : Nat} {w wr w3 : World} {d : Dsk} {safe n : Nat} {keep : List Bool} {es : Array MapEntry} {c : Nat} (hbw : base ≤ w.heap.size) (h : Lr w d safe keep n n wr) (hki : KeysInt es.toList ∧ ∀ q, Byts wr ((mget es.toList q).getD (.slice none 0 0)) (leftM d.first d.log safe keep n q)) (hb3 : Below wr.heap.size wr w3) (hm3 : w3.heap[wr.heap.size]? = some (.map es c)) :
    IsDk base (w3.setCell ⟨w.heap.size + 2, 2, none⟩ (.map (some wr.heap.size))) (w.heap.size + 2) (leftD d safe n keep) ∧ Below w.heap.size w (w3.setCell ⟨w.heap.size + 2, 2, none⟩ (.map (some wr.heap.size))) := by
  have hz := h.hz
  have hC3 := (hb3.block _ (lt_of_heap h.hC)).trans h.hC
  have ho : ∀ k, k ≠ w.heap.size + 2 → (w3.setCell ⟨w.heap.size + 2, 2, none⟩ (.map (some wr.heap.size))).heap[k]? = w3.heap[k]? := fun k hk => by simp [World.setCell, Array.getElem?_modify, Ne.symm hk]
  have cA : Chg w.heap.size DK wr w3 := Chg.of_below hb3 (by omega)
  have cB := Chg.cell (base := w.heap.size) (by omega) hC3 2 (.map (some wr.heap.size))
  have c0 : Chg w.heap.size DK w wr := Chg.of_below h.hb (Nat.le_refl _)
  obtain ⟨es0, c0', hF0, _⟩ := h.hF
  refine ⟨⟨w.heap.size + 3, wr.heap.size, .slice none 0 0, .slice none 0 0, ⟨by omega, by omega, by omega, by omega, ?_, ?_, ⟨es, c, ?_, hki.1, fun q => (hki.2 q).keep (cA.trans cB)⟩, ⟨[], rfl, by intro p hp; simp [leftD] at hp, World.ownsRow_nil _ _ _ _⟩, World.ownsRow_nil _ _ _ _⟩⟩, ((c0.trans cA).trans cB).below⟩
  · simp [World.setCell, Array.getElem?_modify, hC3, leftD]
  · exact h.hF.move ((ho _ (by omega)).trans (hb3.block _ (lt_of_heap hF0))) (cA.trans cB)
  · rw [ho _ (by omega), hm3]
set_option maxHeartbeats 2000000 in
set_option maxRecDepth 100000 in
theorem left_some [av : Av] (base : Nat) (w : World) (D : Nat) (d : Dsk) (safe n : Nat) (KA : Option Addr) (kc : Nat) (keep : List Bool) (h : IsDk base w D d) (hf : d.Fit) (hbw : base ≤ w.heap.size) (hN : 1 ≤ d.N ∧ d.N ≤ 4096) (hs : safe ≤ n) (hn : n ≤ d.log.length) (hpos : 0 < d.log.length)
    (hkl : keep.length ≤ 9223372036854775807) (hk : ∀ j, j < keep.length → ∃ a, KA = some a ∧ w.cell? (a.add j) = some (.bool (keep.getD j false))) :
    Calls Tryd.prog 44 #[.pointer (some ⟨D, 0, none⟩), .int .i64 safe, .int .i64 n, .slice KA keep.length kc] w fun e w' => ∃ C, e = .returned (.pointer (some ⟨C, 0, none⟩)) ∧ IsDk base w' C (leftD d safe n keep) ∧ Below w.heap.size w w' := by
  obtain ⟨F, M, lv, sv, hd⟩ := h
  obtain ⟨c0, c1, _, c3, _⟩ := hd.cells
  obtain ⟨esF, cF, hF, hFk, hFb⟩ := hd.hF
  have HD := Lib.hid hd
  have HF := Lib.hid hF
  have HFB := Lib.hid (And.intro hFk hFb)
  have HN := Lib.hid hN
  have HS := Lib.hid hs
  have HNL := Lib.hid hn
  have HFit := Lib.hid hf
  have HBW := Lib.hid hbw
  have HK := Lib.hid hk
  have HKL := Lib.hid hkl
  have hDl := lt_of_heap hd.hD
  have hFl := lt_of_heap hF
  obtain ⟨g, lc, rfl, hcap, hgl, hlog⟩ := log_cell hd.hL hpos
  have HLOG := Lib.hid hlog
  clear hlog
  have hn1 : n ≤ 1000000 := by have := hf.1; omega
  have q1 : n ≤ lc := by omega
  have q2 : (0 : Int) ≤ (n : Int) := by omega
  have q3 : (n : Int) ≤ (lc : Int) := by omega
  clear hd hF hFk hFb hN hs hn hf hbw hk hkl hcap
  go_enter Tryd.func44, Tryd.ntmps44
  go_wp2_with fail
  refine (new_abs d.N _ HN.out.1 HN.out.2).mono ?_
  rintro e w1 ⟨rfl, hb1, hz1, hm0, hm1, hC⟩
  have c1' : w1.cell? ⟨D, 1, none⟩ = some (.map (some F)) := (hb1.cell (p := ⟨D, 1, none⟩) hDl).trans c1
  have hF1 := (hb1.block F hFl).trans HF.out
  have c3' : w1.cell? ⟨D, 3, none⟩ = some (.slice (some ⟨g, 0, none⟩) d.log.length lc) := (hb1.cell (p := ⟨D, 3, none⟩) hDl).trans c3
  have HC1 := Lib.hid hC
  have HB1 := Lib.hid hb1
  have HM1 := Lib.hid hm1
  have HZ1 := Lib.hid hz1
  clear hC hb1 hm0 hm1 hz1 c0 c1 c3
  go_wp2_with fail
  refine (clone_abs F esF cF _ hF1).mono ?_
  rintro e w2 ⟨rfl, hb2, hz2, hm2⟩
  have hs2 : w1.heap.size = w.heap.size + 3 := HZ1.out
  have hC2 := (hb2.block (w.heap.size + 2) (by omega)).trans HC1.out
  have c5 := cell_of (i := 1) hC2 rfl
  have f5 := free_of (i := 1) hC2
  have c6 : w2.cell? ⟨D, 3, none⟩ = some (.slice (some ⟨g, 0, none⟩) d.log.length lc) := (hb2.cell (p := ⟨D, 3, none⟩) (show D < w1.heap.size by omega)).trans c3'
  have n1 : ¬ D = w.heap.size + 2 := by omega
  have n2 : ¬ w.heap.size + 2 = D := by omega
  have n3 : w.heap.size + 2 < w2.heap.size := by omega
  have HC2 := Lib.hid hC2
  have HM2 := Lib.hid hm2
  have HB2 := Lib.hid hb2
  have HZ2 := Lib.hid hz2
  have HS2 := Lib.hid hs2
  clear hC2 hm2 hb2 hz2 hs2 c1' c3'
  go_wp2_with fail
  go_loopw [36] (fun i wr => LrR w d safe keep n i wr) (fun i _ => n - (intOf i).toNat)
  case atStart =>
    have e := HS2.out
    refine ⟨0, rfl, ⟨Nat.zero_le _, ?_, ?_, ?_, ?_⟩⟩
    · simp [World.setCell, Array.getElem?_modify, HC2.out, e]
    · refine ⟨esF, cF, ?_, HFB.out.1, fun k => ?_⟩
      · have h := HM2.out
        rw [e] at h
        simp [World.setCell, Array.getElem?_modify, h]
      · exact (HFB.out.2 k).below (((HB1.out.trans (HB2.out.mono (by omega))).setCell (by simp) _))
    · exact ((HB1.out.trans (HB2.out.mono (by omega))).setCell (by simp) _)
    · have h2 := HZ2.out
      have : (w2.setCell ⟨w.heap.size + 2, 1, none⟩ (.map (some w1.heap.size))).heap.size = w2.heap.size := by simp [World.setCell]
      omega
  case round =>
    obtain ⟨k, rfl, hL⟩ := hrel
    have hkn := hL.kn
    have LL := Lib.hid hL
    clear hL
    by_cases hlt : k < n
    · have hkl : k < d.log.length := by have := HNL.out; omega
      obtain ⟨v, hbv, hk0, hk1⟩ := HLOG.out k hkl
      have hB := LL.out.hb
      have k0 : wr.cell? ⟨g, k * 2, none⟩ = some (.int .i64 d.log[k].1) := (hB.cell (p := ⟨g, k * 2, none⟩) hgl).trans hk0
      have k1 : wr.cell? ⟨g, k * 2 + 1, none⟩ = some v := (hB.cell (p := ⟨g, k * 2 + 1, none⟩) hgl).trans hk1
      obtain ⟨va, vc, rfl⟩ := own_slice hbv.2
      have HBV := Lib.hid hbv
      have HLK := Lib.hid (show d.log.getD k (0, []) = (d.log[k].1, d.log[k].2) from by simp [List.getD_eq_getElem?_getD, hkl])
      generalize d.log[k].2 = lb at *
      generalize d.log[k].1 = ls at *
      clear hbv hk0 hk1 hB
      have hz := LL.out.hz
      have q4 : (k : Int) < (n : Int) := by omega
      have q5 : decide (k < n) = true := decide_eq_true hlt
      have hC3 := LL.out.hC
      have d1 := cell_al (.cells #[.int .i64 ls, .slice va lb.length vc] 97) (cell_of (i := 1) hC3 rfl)
      have b0 : (wr.alloc (.cells #[.int .i64 ls, .slice va lb.length vc] 97)).cell? ⟨wr.heap.size, 0, none⟩ = some (.int .i64 ls) := by simp
      have b1 : (wr.alloc (.cells #[.int .i64 ls, .slice va lb.length vc] 97)).cell? ⟨wr.heap.size, 1, none⟩ = some (.slice va lb.length vc) := by simp
      obtain ⟨es, c, hFc, hki, hFv⟩ := LL.out.hF
      have dm : (wr.alloc (.cells #[.int .i64 ls, .slice va lb.length vc] 97)).heap[w.heap.size + 3]? = some (.map es c) := ((World.grownBy_alloc wr _ none).block _ (lt_of_heap hFc) (by simp)).trans hFc
      have HKI := Lib.hid hki
      have HFC := Lib.hid hFc
      have HFV := Lib.hid hFv
      have HC3 := Lib.hid hC3
      have n4 : w.heap.size + 3 < wr.heap.size := by omega
      have n5 : w.heap.size + 2 < wr.heap.size := by omega
      clear hC3 hFc hki hFv
      by_cases h1 : k < safe
      · have t1 : decide (k < safe) = true := decide_eq_true h1
        have t2 : decide ((k : Int) < (safe : Int)) = true := decide_eq_true (by omega)
        have HKP := Lib.hid (show kept safe keep k = true by simp [kept, h1])
        go_wp2_with fail
        refine Go.Proofs.YtcjhligknhpadaaDoorW.PrintLast.start_ (n := 9) (S := fun v => v.cell? ⟨w.heap.size + 2, 1, none⟩ = some (.map (some (w.heap.size + 3))) ∧ v.cell? ⟨wr.heap.size, 0, none⟩ = some (.int .i64 ls) ∧ v.cell? ⟨wr.heap.size, 1, none⟩ = some (.slice va lb.length vc) ∧ v.heap[w.heap.size + 3]? = some (.map es c)) (ds := [8]) #[false, false, false, false, false, false, false, false, false] (by kernel_rfl) rfl rfl ⟨d1, b0, b1, dm⟩ (fun hHeld => ?_)
        refine Go.Proofs.YtcjhligknhpadaaDoorW.PrintLast.pure_ (i := 0) (N := some 60) (v := ?_) (a' := ?_) #[true, false, false, false, false, false, false, false, false] rfl rfl (by kernel_rfl) (fun _ _ _ h => h) (Or.inl ⟨by rfl, ?_⟩) ?_ ?_
        rotate_left
        · intro w'
          go_simp
          with_reducible rfl
        rotate_left
        · simp only [Act.put, List.setIfInBounds_toArray, List.set_cons_zero, List.set_cons_succ, Go.Proofs.YtcjhligknhpadaaDoorW.PrintLast.i64_w, Go.Proofs.YtcjhligknhpadaaDoorW.PrintLast.i32_w]
          rfl
        refine Go.Proofs.YtcjhligknhpadaaDoorW.PrintLast.pure_ (i := 1) (N := some 61) (v := ?_) (a' := ?_) #[true, true, false, false, false, false, false, false, false] rfl rfl (by kernel_rfl) (fun _ _ _ h => h) (Or.inl ⟨by rfl, ?_⟩) ?_ ?_
        rotate_left
        · intro w'
          go_simp
          with_reducible rfl
        rotate_left
        · simp only [Act.put, List.setIfInBounds_toArray, List.set_cons_zero, List.set_cons_succ, Go.Proofs.YtcjhligknhpadaaDoorW.PrintLast.i64_w, Go.Proofs.YtcjhligknhpadaaDoorW.PrintLast.i32_w]
          rfl
        refine Go.Proofs.YtcjhligknhpadaaDoorW.PrintLast.pure_ (i := 2) (N := some 62) (v := ?_) (a' := ?_) #[true, true, true, false, false, false, false, false, false] rfl rfl (by kernel_rfl) (fun _ _ _ h => h) (Or.inl ⟨by rfl, ?_⟩) ?_ ?_
        rotate_left
        · intro w'
          go_simp
          with_reducible rfl
        rotate_left
        · simp only [Act.put, List.setIfInBounds_toArray, List.set_cons_zero, List.set_cons_succ, Go.Proofs.YtcjhligknhpadaaDoorW.PrintLast.i64_w, Go.Proofs.YtcjhligknhpadaaDoorW.PrintLast.i32_w]
          rfl
        refine Go.Proofs.YtcjhligknhpadaaDoorW.PrintLast.take_ (i := 3) (N := some 63) (v := ?_) (a' := ?_) #[true, true, true, true, false, false, false, false, false] rfl rfl (by kernel_rfl) (fun _ _ _ h => h) (Or.inl ⟨by rfl, ?_⟩) hHeld ?_ ?_
        rotate_left
        · rintro w' ⟨s0, s1, s2, s3⟩
          go_simp
          with_reducible rfl
        rotate_left
        · simp only [Act.put, List.setIfInBounds_toArray, List.set_cons_zero, List.set_cons_succ, Go.Proofs.YtcjhligknhpadaaDoorW.PrintLast.i64_w, Go.Proofs.YtcjhligknhpadaaDoorW.PrintLast.i32_w]
          rfl
        refine Go.Proofs.YtcjhligknhpadaaDoorW.PrintLast.pure_ (i := 4) (N := some 64) (v := ?_) (a' := ?_) #[true, true, true, true, true, false, false, false, false] rfl rfl (by kernel_rfl) (fun _ _ _ h => h) (Or.inl ⟨by rfl, ?_⟩) ?_ ?_
        rotate_left
        · intro w'
          go_simp
          with_reducible rfl
        rotate_left
        · simp only [Act.put, List.setIfInBounds_toArray, List.set_cons_zero, List.set_cons_succ, Go.Proofs.YtcjhligknhpadaaDoorW.PrintLast.i64_w, Go.Proofs.YtcjhligknhpadaaDoorW.PrintLast.i32_w]
          rfl
        refine Go.Proofs.YtcjhligknhpadaaDoorW.PrintLast.take_ (i := 5) (N := some 65) (v := ?_) (a' := ?_) #[true, true, true, true, true, true, false, false, false] rfl rfl (by kernel_rfl) (fun _ _ _ h => h) (Or.inl ⟨by rfl, ?_⟩) hHeld ?_ ?_
        rotate_left
        · rintro w' ⟨s0, s1, s2, s3⟩
          go_simp
          with_reducible rfl
        rotate_left
        · simp only [Act.put, List.setIfInBounds_toArray, List.set_cons_zero, List.set_cons_succ, Go.Proofs.YtcjhligknhpadaaDoorW.PrintLast.i64_w, Go.Proofs.YtcjhligknhpadaaDoorW.PrintLast.i32_w]
          rfl
        refine Go.Proofs.YtcjhligknhpadaaDoorW.PrintLast.pure_ (i := 6) (N := some 66) (v := ?_) (a' := ?_) #[true, true, true, true, true, true, true, false, false] rfl rfl (by kernel_rfl) (fun _ _ _ h => h) (Or.inl ⟨by rfl, ?_⟩) ?_ ?_
        rotate_left
        · intro w'
          go_simp
          with_reducible rfl
        rotate_left
        · simp only [Act.put, List.setIfInBounds_toArray, List.set_cons_zero, List.set_cons_succ, Go.Proofs.YtcjhligknhpadaaDoorW.PrintLast.i64_w, Go.Proofs.YtcjhligknhpadaaDoorW.PrintLast.i32_w]
          rfl
        refine Go.Proofs.YtcjhligknhpadaaDoorW.PrintLast.take_ (i := 7) (N := some 67) (v := ?_) (a' := ?_) #[true, true, true, true, true, true, true, true, false] rfl rfl (by kernel_rfl) (fun _ _ _ h => h) (Or.inl ⟨by rfl, ?_⟩) hHeld ?_ ?_
        rotate_left
        · rintro w' ⟨s0, s1, s2, s3⟩
          go_simp
          with_reducible rfl
        rotate_left
        · simp only [Act.put, List.setIfInBounds_toArray, List.set_cons_zero, List.set_cons_succ, Go.Proofs.YtcjhligknhpadaaDoorW.PrintLast.i64_w, Go.Proofs.YtcjhligknhpadaaDoorW.PrintLast.i32_w]
          rfl
        refine Go.Proofs.YtcjhligknhpadaaDoorW.PrintLast.last_ (i := 8) (N := none) #[true, true, true, true, true, true, true, true, true] rfl rfl (by kernel_rfl) (by decide) (fun K hK => ?_)
        obtain ⟨es', c', hrun, hk', hm'⟩ := run_mapUpdate (w := (wr.alloc (.cells #[.int .i64 ls, .slice va lb.length vc] 97)).drew) Tryd.underlying78 Tryd.underlying3 hHeld.2.2.2 HKI.out ls (.slice va lb.length vc)
        refine Go.Proofs.YtcjhligknhpadaaDoorW.PrintLast.skip_ (w1 := setMap (wr.alloc (.cells #[.int .i64 ls, .slice va lb.length vc] 97)).drew (w.heap.size + 3) (.map es' c')) (by rfl) rfl (by go_simp) ?_
        refine hK.out _ _ ?_
        clear hK K
        refine Go.Proofs.YtcjhligknhpadaaDoorW.PrintLast.done_ (by kernel_rfl) ?_
        go_wp2_with fail
        go_roundw
        case rel => exact ⟨k + 1, by go_num, LL.out.take hlt HKP.out HLK.out HBV.out HFC.out HFV.out hk' hm'⟩
        case measure => simp [intOf]; omega
      · have t1 : decide (k < safe) = false := decide_eq_false h1
        have t2 : decide ((k : Int) < (safe : Int)) = false := decide_eq_false (by omega)
        have ej : IntKind.i64.wrap ((k : Int) - (safe : Int)) = ((k - safe : Nat) : Int) := by
          have := HFit.out.1
          have := HNL.out
          rw [IntWalk.i64_in _ (by omega)]
          omega
        obtain ⟨j, hj⟩ : ∃ j, k - safe = j := ⟨_, rfl⟩
        rw [hj] at ej
        by_cases h2 : j < keep.length
        · have t3 : decide (j < keep.length) = true := decide_eq_true h2
          have t4 : decide ((j : Int) < (keep.length : Int)) = true := decide_eq_true (by omega)
          have t5 : (0 : Int) ≤ (j : Int) := by omega
          have t6 : (j : Int) < (keep.length : Int) := by omega
          obtain ⟨a, ha, hka⟩ := HK.out j h2
          subst ha
          have hka1 : wr.cell? (a.add j) = some (.bool (keep.getD j false)) := by
            have hb := LL.out.hb
            have hlt2 := World.block_lt_of_cell? w _ hka
            exact (hb.cell (p := a.add j) hlt2).trans hka
          have hka2 := cell_al (.cells #[.int .i64 ls, .slice va lb.length vc] 97) hka1
          clear hka hka1
          cases hkb : keep.getD j false with
          | true =>
            rw [hkb] at hka2
            have HKP := Lib.hid (show kept safe keep k = true by simp only [kept, hj, hkb, t3]; simp)
            go_wp2_with fail
            refine Go.Proofs.YtcjhligknhpadaaDoorW.PrintLast.start_ (n := 9) (S := fun v => v.cell? ⟨w.heap.size + 2, 1, none⟩ = some (.map (some (w.heap.size + 3))) ∧ v.cell? ⟨wr.heap.size, 0, none⟩ = some (.int .i64 ls) ∧ v.cell? ⟨wr.heap.size, 1, none⟩ = some (.slice va lb.length vc) ∧ v.heap[w.heap.size + 3]? = some (.map es c)) (ds := [8]) #[false, false, false, false, false, false, false, false, false] (by kernel_rfl) rfl rfl ⟨d1, b0, b1, dm⟩ (fun hHeld => ?_)
            refine Go.Proofs.YtcjhligknhpadaaDoorW.PrintLast.pure_ (i := 0) (N := some 60) (v := ?_) (a' := ?_) #[true, false, false, false, false, false, false, false, false] rfl rfl (by kernel_rfl) (fun _ _ _ h => h) (Or.inl ⟨by rfl, ?_⟩) ?_ ?_
            rotate_left
            · intro w'
              go_simp
              with_reducible rfl
            rotate_left
            · simp only [Act.put, List.setIfInBounds_toArray, List.set_cons_zero, List.set_cons_succ, Go.Proofs.YtcjhligknhpadaaDoorW.PrintLast.i64_w, Go.Proofs.YtcjhligknhpadaaDoorW.PrintLast.i32_w]
              rfl
            refine Go.Proofs.YtcjhligknhpadaaDoorW.PrintLast.pure_ (i := 1) (N := some 61) (v := ?_) (a' := ?_) #[true, true, false, false, false, false, false, false, false] rfl rfl (by kernel_rfl) (fun _ _ _ h => h) (Or.inl ⟨by rfl, ?_⟩) ?_ ?_
            rotate_left
            · intro w'
              go_simp
              with_reducible rfl
            rotate_left
            · simp only [Act.put, List.setIfInBounds_toArray, List.set_cons_zero, List.set_cons_succ, Go.Proofs.YtcjhligknhpadaaDoorW.PrintLast.i64_w, Go.Proofs.YtcjhligknhpadaaDoorW.PrintLast.i32_w]
              rfl
            refine Go.Proofs.YtcjhligknhpadaaDoorW.PrintLast.pure_ (i := 2) (N := some 62) (v := ?_) (a' := ?_) #[true, true, true, false, false, false, false, false, false] rfl rfl (by kernel_rfl) (fun _ _ _ h => h) (Or.inl ⟨by rfl, ?_⟩) ?_ ?_
            rotate_left
            · intro w'
              go_simp
              with_reducible rfl
            rotate_left
            · simp only [Act.put, List.setIfInBounds_toArray, List.set_cons_zero, List.set_cons_succ, Go.Proofs.YtcjhligknhpadaaDoorW.PrintLast.i64_w, Go.Proofs.YtcjhligknhpadaaDoorW.PrintLast.i32_w]
              rfl
            refine Go.Proofs.YtcjhligknhpadaaDoorW.PrintLast.take_ (i := 3) (N := some 63) (v := ?_) (a' := ?_) #[true, true, true, true, false, false, false, false, false] rfl rfl (by kernel_rfl) (fun _ _ _ h => h) (Or.inl ⟨by rfl, ?_⟩) hHeld ?_ ?_
            rotate_left
            · rintro w' ⟨s0, s1, s2, s3⟩
              go_simp
              with_reducible rfl
            rotate_left
            · simp only [Act.put, List.setIfInBounds_toArray, List.set_cons_zero, List.set_cons_succ, Go.Proofs.YtcjhligknhpadaaDoorW.PrintLast.i64_w, Go.Proofs.YtcjhligknhpadaaDoorW.PrintLast.i32_w]
              rfl
            refine Go.Proofs.YtcjhligknhpadaaDoorW.PrintLast.pure_ (i := 4) (N := some 64) (v := ?_) (a' := ?_) #[true, true, true, true, true, false, false, false, false] rfl rfl (by kernel_rfl) (fun _ _ _ h => h) (Or.inl ⟨by rfl, ?_⟩) ?_ ?_
            rotate_left
            · intro w'
              go_simp
              with_reducible rfl
            rotate_left
            · simp only [Act.put, List.setIfInBounds_toArray, List.set_cons_zero, List.set_cons_succ, Go.Proofs.YtcjhligknhpadaaDoorW.PrintLast.i64_w, Go.Proofs.YtcjhligknhpadaaDoorW.PrintLast.i32_w]
              rfl
            refine Go.Proofs.YtcjhligknhpadaaDoorW.PrintLast.take_ (i := 5) (N := some 65) (v := ?_) (a' := ?_) #[true, true, true, true, true, true, false, false, false] rfl rfl (by kernel_rfl) (fun _ _ _ h => h) (Or.inl ⟨by rfl, ?_⟩) hHeld ?_ ?_
            rotate_left
            · rintro w' ⟨s0, s1, s2, s3⟩
              go_simp
              with_reducible rfl
            rotate_left
            · simp only [Act.put, List.setIfInBounds_toArray, List.set_cons_zero, List.set_cons_succ, Go.Proofs.YtcjhligknhpadaaDoorW.PrintLast.i64_w, Go.Proofs.YtcjhligknhpadaaDoorW.PrintLast.i32_w]
              rfl
            refine Go.Proofs.YtcjhligknhpadaaDoorW.PrintLast.pure_ (i := 6) (N := some 66) (v := ?_) (a' := ?_) #[true, true, true, true, true, true, true, false, false] rfl rfl (by kernel_rfl) (fun _ _ _ h => h) (Or.inl ⟨by rfl, ?_⟩) ?_ ?_
            rotate_left
            · intro w'
              go_simp
              with_reducible rfl
            rotate_left
            · simp only [Act.put, List.setIfInBounds_toArray, List.set_cons_zero, List.set_cons_succ, Go.Proofs.YtcjhligknhpadaaDoorW.PrintLast.i64_w, Go.Proofs.YtcjhligknhpadaaDoorW.PrintLast.i32_w]
              rfl
            refine Go.Proofs.YtcjhligknhpadaaDoorW.PrintLast.take_ (i := 7) (N := some 67) (v := ?_) (a' := ?_) #[true, true, true, true, true, true, true, true, false] rfl rfl (by kernel_rfl) (fun _ _ _ h => h) (Or.inl ⟨by rfl, ?_⟩) hHeld ?_ ?_
            rotate_left
            · rintro w' ⟨s0, s1, s2, s3⟩
              go_simp
              with_reducible rfl
            rotate_left
            · simp only [Act.put, List.setIfInBounds_toArray, List.set_cons_zero, List.set_cons_succ, Go.Proofs.YtcjhligknhpadaaDoorW.PrintLast.i64_w, Go.Proofs.YtcjhligknhpadaaDoorW.PrintLast.i32_w]
              rfl
            refine Go.Proofs.YtcjhligknhpadaaDoorW.PrintLast.last_ (i := 8) (N := none) #[true, true, true, true, true, true, true, true, true] rfl rfl (by kernel_rfl) (by decide) (fun K hK => ?_)
            obtain ⟨es', c', hrun, hk', hm'⟩ := run_mapUpdate (w := (wr.alloc (.cells #[.int .i64 ls, .slice va lb.length vc] 97)).drew) Tryd.underlying78 Tryd.underlying3 hHeld.2.2.2 HKI.out ls (.slice va lb.length vc)
            refine Go.Proofs.YtcjhligknhpadaaDoorW.PrintLast.skip_ (w1 := setMap (wr.alloc (.cells #[.int .i64 ls, .slice va lb.length vc] 97)).drew (w.heap.size + 3) (.map es' c')) (by rfl) rfl (by go_simp) ?_
            refine hK.out _ _ ?_
            clear hK K
            refine Go.Proofs.YtcjhligknhpadaaDoorW.PrintLast.done_ (by kernel_rfl) ?_
            go_wp2_with fail
            go_roundw
            case rel => exact ⟨k + 1, by go_num, LL.out.take hlt HKP.out HLK.out HBV.out HFC.out HFV.out hk' hm'⟩
            case measure => simp [intOf]; omega
          | false =>
            rw [hkb] at hka2
            have HKP := Lib.hid (show kept safe keep k = false by simp only [kept, hj, hkb, t1]; simp)
            go_wp2_with fail
            go_roundw
            case rel => exact ⟨k + 1, by go_num, LL.out.skip hlt HKP.out _⟩
            case measure => simp [intOf]; omega
        · have t3 : decide (j < keep.length) = false := decide_eq_false h2
          have t4 : decide ((j : Int) < (keep.length : Int)) = false := decide_eq_false (by omega)
          have HKP := Lib.hid (show kept safe keep k = false by simp only [kept, hj, t1, t3]; rfl)
          go_wp2_with fail
          go_roundw
          case rel => exact ⟨k + 1, by go_num, LL.out.skip hlt HKP.out _⟩
          case measure => simp [intOf]; omega
    · have hC3 := LL.out.hC
      have e1 := cell_of (i := 1) hC3 rfl
      obtain ⟨es, c, hFc, hki, hFv⟩ := LL.out.hF
      have hz := LL.out.hz
      have HC3 := Lib.hid hC3
      have HKV := Lib.hid (And.intro hki hFv)
      have HFC := Lib.hid hFc
      have ek : k = n := by omega
      clear hC3 hki hFv
      go_wp2_with fail
      refine (clone_abs (w.heap.size + 3) es c _ hFc).mono ?_
      rintro e w3 ⟨rfl, hb3, hz3, hm3⟩
      have hC4 := (hb3.block (w.heap.size + 2) (by omega)).trans HC3.out
      have g2 := free_of (i := 2) hC4
      have g3 := cell_of (i := 2) hC4 rfl
      have HC4 := Lib.hid hC4
      have HB3 := Lib.hid hb3
      have HM3 := Lib.hid hm3
      clear hC4 hb3 hm3 hFc
      go_wp2_with fail
      go_ret
      subst ek
      obtain ⟨r1, r2⟩ := Lr.done HBW.out LL.out HKV.out HB3.out HM3.out
      exact ⟨_, rfl, r1, r2⟩
set_option maxHeartbeats 2000000 in
set_option maxRecDepth 100000 in
theorem left_none [av : Av] (base : Nat) (w : World) (D : Nat) (d : Dsk) (safe n : Nat) (KA : Option Addr) (kc : Nat) (keep : List Bool) (h : IsDk base w D d) (hf : d.Fit) (hbw : base ≤ w.heap.size) (hN : 1 ≤ d.N ∧ d.N ≤ 4096) (hs : safe ≤ n) (hn : n ≤ d.log.length) (hpos : d.log.length = 0)
    (hkl : keep.length ≤ 9223372036854775807) (hk : ∀ j, j < keep.length → ∃ a, KA = some a ∧ w.cell? (a.add j) = some (.bool (keep.getD j false))) :
    Calls Tryd.prog 44 #[.pointer (some ⟨D, 0, none⟩), .int .i64 safe, .int .i64 n, .slice KA keep.length kc] w fun e w' => ∃ C, e = .returned (.pointer (some ⟨C, 0, none⟩)) ∧ IsDk base w' C (leftD d safe n keep) ∧ Below w.heap.size w w' := by
  obtain ⟨F, M, lv, sv, hd⟩ := h
  obtain ⟨c0, c1, _, c3, _⟩ := hd.cells
  obtain ⟨esF, cF, hF, hFk, hFb⟩ := hd.hF
  have HD := Lib.hid hd
  have HF := Lib.hid hF
  have HFB := Lib.hid (And.intro hFk hFb)
  have HN := Lib.hid hN
  have HS := Lib.hid hs
  have HNL := Lib.hid hn
  have HFit := Lib.hid hf
  have HBW := Lib.hid hbw
  have HK := Lib.hid hk
  have HKL := Lib.hid hkl
  have hDl := lt_of_heap hd.hD
  have hFl := lt_of_heap hF
  obtain ⟨vs, l1, l2, l3⟩ := hd.hL
  obtain ⟨la, lc, rfl⟩ := own_slice l3
  have hcap : d.log.length ≤ lc := by omega
  clear l1 l2 l3
  have hn1 : n ≤ 1000000 := by have := hf.1; omega
  have q1 : n ≤ lc := by omega
  have q2 : (0 : Int) ≤ (n : Int) := by omega
  have q3 : (n : Int) ≤ (lc : Int) := by omega
  clear hd hF hFk hFb hN hs hn hf hbw hk hkl hcap
  go_enter Tryd.func44, Tryd.ntmps44
  go_wp2_with fail
  refine (new_abs d.N _ HN.out.1 HN.out.2).mono ?_
  rintro e w1 ⟨rfl, hb1, hz1, hm0, hm1, hC⟩
  have c1' : w1.cell? ⟨D, 1, none⟩ = some (.map (some F)) := (hb1.cell (p := ⟨D, 1, none⟩) hDl).trans c1
  have hF1 := (hb1.block F hFl).trans HF.out
  have c3' : w1.cell? ⟨D, 3, none⟩ = some (.slice la d.log.length lc) := (hb1.cell (p := ⟨D, 3, none⟩) hDl).trans c3
  have HC1 := Lib.hid hC
  have HB1 := Lib.hid hb1
  have HM1 := Lib.hid hm1
  have HZ1 := Lib.hid hz1
  clear hC hb1 hm0 hm1 hz1 c0 c1 c3
  go_wp2_with fail
  refine (clone_abs F esF cF _ hF1).mono ?_
  rintro e w2 ⟨rfl, hb2, hz2, hm2⟩
  have hs2 : w1.heap.size = w.heap.size + 3 := HZ1.out
  have hC2 := (hb2.block (w.heap.size + 2) (by omega)).trans HC1.out
  have c5 := cell_of (i := 1) hC2 rfl
  have f5 := free_of (i := 1) hC2
  have c6 : w2.cell? ⟨D, 3, none⟩ = some (.slice la d.log.length lc) := (hb2.cell (p := ⟨D, 3, none⟩) (show D < w1.heap.size by omega)).trans c3'
  have n1 : ¬ D = w.heap.size + 2 := by omega
  have n2 : ¬ w.heap.size + 2 = D := by omega
  have n3 : w.heap.size + 2 < w2.heap.size := by omega
  have HC2 := Lib.hid hC2
  have HM2 := Lib.hid hm2
  have HB2 := Lib.hid hb2
  have HZ2 := Lib.hid hz2
  have HS2 := Lib.hid hs2
  clear hC2 hm2 hb2 hz2 hs2 c1' c3'
  go_wp2_with fail
  go_loopw [36] (fun i wr => LrR w d safe keep n i wr) (fun i _ => n - (intOf i).toNat)
  case atStart =>
    have e := HS2.out
    refine ⟨0, rfl, ⟨Nat.zero_le _, ?_, ?_, ?_, ?_⟩⟩
    · simp [World.setCell, Array.getElem?_modify, HC2.out, e]
    · refine ⟨esF, cF, ?_, HFB.out.1, fun k => ?_⟩
      · have h := HM2.out
        rw [e] at h
        simp [World.setCell, Array.getElem?_modify, h]
      · exact (HFB.out.2 k).below (((HB1.out.trans (HB2.out.mono (by omega))).setCell (by simp) _))
    · exact ((HB1.out.trans (HB2.out.mono (by omega))).setCell (by simp) _)
    · have h2 := HZ2.out
      have : (w2.setCell ⟨w.heap.size + 2, 1, none⟩ (.map (some w1.heap.size))).heap.size = w2.heap.size := by simp [World.setCell]
      omega
  case round =>
    obtain ⟨k, rfl, hL⟩ := hrel
    have hkn := hL.kn
    have LL := Lib.hid hL
    clear hL
    by_cases hlt : k < n
    · exfalso; have := HNL.out; omega
    · have hC3 := LL.out.hC
      have e1 := cell_of (i := 1) hC3 rfl
      obtain ⟨es, c, hFc, hki, hFv⟩ := LL.out.hF
      have hz := LL.out.hz
      have HC3 := Lib.hid hC3
      have HKV := Lib.hid (And.intro hki hFv)
      have HFC := Lib.hid hFc
      have ek : k = n := by omega
      clear hC3 hki hFv
      go_wp2_with fail
      refine (clone_abs (w.heap.size + 3) es c _ hFc).mono ?_
      rintro e w3 ⟨rfl, hb3, hz3, hm3⟩
      have hC4 := (hb3.block (w.heap.size + 2) (by omega)).trans HC3.out
      have g2 := free_of (i := 2) hC4
      have g3 := cell_of (i := 2) hC4 rfl
      have HC4 := Lib.hid hC4
      have HB3 := Lib.hid hb3
      have HM3 := Lib.hid hm3
      clear hC4 hb3 hm3 hFc
      go_wp2_with fail
      go_ret
      subst ek
      obtain ⟨r1, r2⟩ := Lr.done HBW.out LL.out HKV.out HB3.out HM3.out
      exact ⟨_, rfl, r1, r2⟩
theorem left_any [av : Av] (base : Nat) (w : World) (D : Nat) (d : Dsk) (safe n : Nat) (KA : Option Addr) (kc : Nat) (keep : List Bool) (h : IsDk base w D d) (hf : d.Fit) (hbw : base ≤ w.heap.size) (hN : 1 ≤ d.N ∧ d.N ≤ 4096) (hs : safe ≤ n) (hn : n ≤ d.log.length)
    (hkl : keep.length ≤ 9223372036854775807) (hk : ∀ j, j < keep.length → ∃ a, KA = some a ∧ w.cell? (a.add j) = some (.bool (keep.getD j false))) :
    Calls Tryd.prog 44 #[.pointer (some ⟨D, 0, none⟩), .int .i64 safe, .int .i64 n, .slice KA keep.length kc] w fun e w' => ∃ C, e = .returned (.pointer (some ⟨C, 0, none⟩)) ∧ IsDk base w' C (leftD d safe n keep) ∧ Below w.heap.size w w' := by
  by_cases hp : 0 < d.log.length
  · exact left_some base w D d safe n KA kc keep h hf hbw hN hs hn hp hkl hk
  · exact left_none base w D d safe n KA kc keep h hf hbw hN hs hn (by omega) hkl hk
end Dk
end Go.Proofs.YtcjhligknhpadaaDoor

namespace Go.Proofs.YtcjhligknhpadaaDoor
open Go.RowKit Go.Proofs.YtcjhligknhpadaaDoorW.PrintWords Go.Proofs.YtcjhligknhpadaaDoorW.PrintLast
set_option linter.unusedVariables false
set_option linter.unusedSimpArgs false
namespace Dk

theorem below_drewN {B : Nat} {w w1 : World} (h : Below B w w1) (n : Nat) : Below B w (w1.drewN n) := ⟨h.os, h.tape, h.output, h.size, h.block⟩
/-- how many writes are safe -/
def safeOf (d : Dsk) : Nat := match d.syncs.getLast? with
  | none => 0
  | some s => s.toNat
theorem pend_safe (d : Dsk) (hf : d.Fit) : safeOf d ≤ d.log.length ∧ pend d = (d.log.length : Int) - safeOf d := by
  unfold pend safeOf
  cases h : d.syncs.getLast? with
  | none => simp
  | some s =>
    have := hf.2.2 s (List.mem_of_getLast? h)
    simp only
    omega
set_option maxHeartbeats 1000000 in
set_option maxRecDepth 100000 in
theorem cut_any [av : Av] (base : Nat) (w : World) (D : Nat) (d : Dsk) (KA : Option Addr) (kc : Nat) (keep : List Bool) (h : IsDk base w D d) (hf : d.Fit) (hbw : base ≤ w.heap.size) (hN : 1 ≤ d.N ∧ d.N ≤ 4096)
    (hkl : keep.length ≤ 9223372036854775807) (hk : ∀ j, j < keep.length → ∃ a, KA = some a ∧ w.cell? (a.add j) = some (.bool (keep.getD j false))) :
    Calls Tryd.prog 25 #[.pointer (some ⟨D, 0, none⟩), .slice KA keep.length kc] w fun e w' => ∃ C, e = .returned (.pointer (some ⟨C, 0, none⟩)) ∧ IsDk base w' C (leftD d (safeOf d) d.log.length keep) ∧ Below w.heap.size w w' := by
  obtain ⟨hs, hp⟩ := pend_safe d hf
  have HI := Lib.hid h
  have HFit := Lib.hid hf
  obtain ⟨F, M, lv, sv, hd⟩ := h
  obtain ⟨vs, l1, l2, l3⟩ := hd.hL
  obtain ⟨la, lc, rfl⟩ := own_slice l3
  obtain ⟨_, _, _, c3, _⟩ := hd.cells
  have HDL := Lib.hid (lt_of_heap hd.hD)
  have HLEFT := Lib.hid (show ∀ w2, Below w.heap.size w w2 → Calls Tryd.prog 44 #[.pointer (some ⟨D, 0, none⟩), .int .i64 (safeOf d), .int .i64 d.log.length, .slice KA keep.length kc] w2 fun e w' => ∃ C, e = .returned (.pointer (some ⟨C, 0, none⟩)) ∧ IsDk base w' C (leftD d (safeOf d) d.log.length keep) ∧ Below w.heap.size w w' from fun w2 hb =>
    (left_any base w2 D d (safeOf d) d.log.length KA kc keep (HI.out.below hb) hf (Nat.le_trans hbw hb.size) hN hs (Nat.le_refl _) hkl (fun j hj => by
      obtain ⟨a, e, hc⟩ := hk j hj
      exact ⟨a, e, (hb.cell (p := a.add j) (World.block_lt_of_cell? w _ hc)).trans hc⟩)).mono fun e w' ⟨C, q1, q2, q3⟩ => ⟨C, q1, q2, hb.trans (q3.mono hb.size)⟩)
  have hm := hf.1
  clear l1 l2 l3 hd hkl hk hbw hN hf
  have HPE := Lib.hid (show pend d = (d.log.length : Int) - safeOf d from hp)
  generalize hpd : (d.log.length : Int) - safeOf d = p at HPE
  generalize safeOf d = sf at *
  have e1 : IntKind.i64.wrap ((d.log.length : Int) - p) = (sf : Int) := by rw [IntWalk.i64_in _ (by omega)]; omega
  generalize d.log.length = m at *
  clear hs hp hpd hm
  go_enter Tryd.func25, Tryd.ntmps25
  go_wp2_with fail
  refine Go.Proofs.YtcjhligknhpadaaDoorW.PrintLast.start_ (n := 17) (S := fun v => v.cell? ⟨D, 3, none⟩ = some (.slice la m lc)) (ds := [16]) #[false, false, false, false, false, false, false, false, false, false, false, false, false, false, false, false, false] (by kernel_rfl) rfl rfl c3 (fun hHeld => ?_)
  refine Go.Proofs.YtcjhligknhpadaaDoorW.PrintLast.pure_ (i := 0) (N := some 7) (v := ?_) (a' := ?_) #[true, false, false, false, false, false, false, false, false, false, false, false, false, false, false, false, false] rfl rfl (by kernel_rfl) (fun _ _ _ h => h) (Or.inl ⟨by rfl, ?_⟩) ?_ ?_
  rotate_left
  · intro w'
    go_simp
    with_reducible rfl
  rotate_left
  · simp only [Act.put, List.setIfInBounds_toArray, List.set_cons_zero, List.set_cons_succ, Go.Proofs.YtcjhligknhpadaaDoorW.PrintLast.i64_w, Go.Proofs.YtcjhligknhpadaaDoorW.PrintLast.i32_w]
    rfl
  refine Go.Proofs.YtcjhligknhpadaaDoorW.PrintLast.pure_ (i := 1) (N := some 8) (v := ?_) (a' := ?_) #[true, true, false, false, false, false, false, false, false, false, false, false, false, false, false, false, false] rfl rfl (by kernel_rfl) (fun _ _ _ h => h) (Or.inl ⟨by rfl, ?_⟩) ?_ ?_
  rotate_left
  · intro w'
    go_simp
    with_reducible rfl
  rotate_left
  · simp only [Act.put, List.setIfInBounds_toArray, List.set_cons_zero, List.set_cons_succ, Go.Proofs.YtcjhligknhpadaaDoorW.PrintLast.i64_w, Go.Proofs.YtcjhligknhpadaaDoorW.PrintLast.i32_w]
    rfl
  refine Go.Proofs.YtcjhligknhpadaaDoorW.PrintLast.pure_ (i := 2) (N := some 9) (v := ?_) (a' := ?_) #[true, true, true, false, false, false, false, false, false, false, false, false, false, false, false, false, false] rfl rfl (by kernel_rfl) (fun _ _ _ h => h) (Or.inl ⟨by rfl, ?_⟩) ?_ ?_
  rotate_left
  · intro w'
    go_simp
    with_reducible rfl
  rotate_left
  · simp only [Act.put, List.setIfInBounds_toArray, List.set_cons_zero, List.set_cons_succ, Go.Proofs.YtcjhligknhpadaaDoorW.PrintLast.i64_w, Go.Proofs.YtcjhligknhpadaaDoorW.PrintLast.i32_w]
    rfl
  refine Go.Proofs.YtcjhligknhpadaaDoorW.PrintLast.pure_ (i := 3) (N := some 10) (v := ?_) (a' := ?_) #[true, true, true, true, false, false, false, false, false, false, false, false, false, false, false, false, false] rfl rfl (by kernel_rfl) (fun _ _ _ h => h) (Or.inl ⟨by rfl, ?_⟩) ?_ ?_
  rotate_left
  · intro w'
    go_simp
    with_reducible rfl
  rotate_left
  · simp only [Act.put, List.setIfInBounds_toArray, List.set_cons_zero, List.set_cons_succ, Go.Proofs.YtcjhligknhpadaaDoorW.PrintLast.i64_w, Go.Proofs.YtcjhligknhpadaaDoorW.PrintLast.i32_w]
    rfl
  refine Go.Proofs.YtcjhligknhpadaaDoorW.PrintLast.take_ (i := 4) (N := some 11) (v := ?_) (a' := ?_) #[true, true, true, true, true, false, false, false, false, false, false, false, false, false, false, false, false] rfl rfl (by kernel_rfl) (fun _ _ _ h => h) (Or.inl ⟨by rfl, ?_⟩) hHeld ?_ ?_
  rotate_left
  · rintro w' s0
    go_simp
    with_reducible rfl
  rotate_left
  · simp only [Act.put, List.setIfInBounds_toArray, List.set_cons_zero, List.set_cons_succ, Go.Proofs.YtcjhligknhpadaaDoorW.PrintLast.i64_w, Go.Proofs.YtcjhligknhpadaaDoorW.PrintLast.i32_w]
    rfl
  refine Go.Proofs.YtcjhligknhpadaaDoorW.PrintLast.take_ (i := 5) (N := some 12) (v := ?_) (a' := ?_) #[true, true, true, true, true, true, false, false, false, false, false, false, false, false, false, false, false] rfl rfl (by kernel_rfl) (fun _ _ _ h => h) (Or.inl ⟨by rfl, ?_⟩) hHeld ?_ ?_
  rotate_left
  · rintro w' s0
    go_simp
    with_reducible rfl
  rotate_left
  · simp only [Act.put, List.setIfInBounds_toArray, List.set_cons_zero, List.set_cons_succ, Go.Proofs.YtcjhligknhpadaaDoorW.PrintLast.i64_w, Go.Proofs.YtcjhligknhpadaaDoorW.PrintLast.i32_w]
    rfl
  refine Go.Proofs.YtcjhligknhpadaaDoorW.PrintLast.pure_ (i := 6) (N := some 13) (v := ?_) (a' := ?_) #[true, true, true, true, true, true, true, false, false, false, false, false, false, false, false, false, false] rfl rfl (by kernel_rfl) (fun _ _ _ h => h) (Or.inl ⟨by rfl, ?_⟩) ?_ ?_
  rotate_left
  · intro w'
    go_simp
    with_reducible rfl
  rotate_left
  · simp only [Act.put, List.setIfInBounds_toArray, List.set_cons_zero, List.set_cons_succ, Go.Proofs.YtcjhligknhpadaaDoorW.PrintLast.i64_w, Go.Proofs.YtcjhligknhpadaaDoorW.PrintLast.i32_w]
    rfl
  refine Go.Proofs.YtcjhligknhpadaaDoorW.PrintLast.pure_ (i := 9) (N := some 16) (v := ?_) (a' := ?_) #[true, true, true, true, true, true, true, false, false, true, false, false, false, false, false, false, false] rfl rfl (by kernel_rfl) (fun _ _ _ h => h) (Or.inl ⟨by rfl, ?_⟩) ?_ ?_
  rotate_left
  · intro w'
    go_simp
    with_reducible rfl
  rotate_left
  · simp only [Act.put, List.setIfInBounds_toArray, List.set_cons_zero, List.set_cons_succ, Go.Proofs.YtcjhligknhpadaaDoorW.PrintLast.i64_w, Go.Proofs.YtcjhligknhpadaaDoorW.PrintLast.i32_w]
    rfl
  refine Go.Proofs.YtcjhligknhpadaaDoorW.PrintLast.pure_ (i := 10) (N := some 17) (v := ?_) (a' := ?_) #[true, true, true, true, true, true, true, false, false, true, true, false, false, false, false, false, false] rfl rfl (by kernel_rfl) (fun _ _ _ h => h) (Or.inl ⟨by rfl, ?_⟩) ?_ ?_
  rotate_left
  · intro w'
    go_simp
    with_reducible rfl
  rotate_left
  · simp only [Act.put, List.setIfInBounds_toArray, List.set_cons_zero, List.set_cons_succ, Go.Proofs.YtcjhligknhpadaaDoorW.PrintLast.i64_w, Go.Proofs.YtcjhligknhpadaaDoorW.PrintLast.i32_w]
    rfl
  refine Go.Proofs.YtcjhligknhpadaaDoorW.PrintLast.pure_ (i := 11) (N := some 18) (v := ?_) (a' := ?_) #[true, true, true, true, true, true, true, false, false, true, true, true, false, false, false, false, false] rfl rfl (by kernel_rfl) (fun _ _ _ h => h) (Or.inl ⟨by rfl, ?_⟩) ?_ ?_
  rotate_left
  · intro w'
    go_simp
    with_reducible rfl
  rotate_left
  · simp only [Act.put, List.setIfInBounds_toArray, List.set_cons_zero, List.set_cons_succ, Go.Proofs.YtcjhligknhpadaaDoorW.PrintLast.i64_w, Go.Proofs.YtcjhligknhpadaaDoorW.PrintLast.i32_w]
    rfl
  refine Go.Proofs.YtcjhligknhpadaaDoorW.PrintLast.take_ (i := 12) (N := some 19) (v := ?_) (a' := ?_) #[true, true, true, true, true, true, true, false, false, true, true, true, true, false, false, false, false] rfl rfl (by kernel_rfl) (fun _ _ _ h => h) (Or.inl ⟨by rfl, ?_⟩) hHeld ?_ ?_
  rotate_left
  · rintro w' s0
    go_simp
    with_reducible rfl
  rotate_left
  · simp only [Act.put, List.setIfInBounds_toArray, List.set_cons_zero, List.set_cons_succ, Go.Proofs.YtcjhligknhpadaaDoorW.PrintLast.i64_w, Go.Proofs.YtcjhligknhpadaaDoorW.PrintLast.i32_w]
    rfl
  refine Go.Proofs.YtcjhligknhpadaaDoorW.PrintLast.take_ (i := 13) (N := some 20) (v := ?_) (a' := ?_) #[true, true, true, true, true, true, true, false, false, true, true, true, true, true, false, false, false] rfl rfl (by kernel_rfl) (fun _ _ _ h => h) (Or.inl ⟨by rfl, ?_⟩) hHeld ?_ ?_
  rotate_left
  · rintro w' s0
    go_simp
    with_reducible rfl
  rotate_left
  · simp only [Act.put, List.setIfInBounds_toArray, List.set_cons_zero, List.set_cons_succ, Go.Proofs.YtcjhligknhpadaaDoorW.PrintLast.i64_w, Go.Proofs.YtcjhligknhpadaaDoorW.PrintLast.i32_w]
    rfl
  refine Go.Proofs.YtcjhligknhpadaaDoorW.PrintLast.pure_ (i := 14) (N := some 21) (v := ?_) (a' := ?_) #[true, true, true, true, true, true, true, false, false, true, true, true, true, true, true, false, false] rfl rfl (by kernel_rfl) (fun _ _ _ h => h) (Or.inl ⟨by rfl, ?_⟩) ?_ ?_
  rotate_left
  · intro w'
    go_simp
    with_reducible rfl
  rotate_left
  · simp only [Act.put, List.setIfInBounds_toArray, List.set_cons_zero, List.set_cons_succ, Go.Proofs.YtcjhligknhpadaaDoorW.PrintLast.i64_w, Go.Proofs.YtcjhligknhpadaaDoorW.PrintLast.i32_w]
    rfl
  refine Go.Proofs.YtcjhligknhpadaaDoorW.PrintLast.one_ (i := 7) (N := some 14) #[true, true, true, true, true, true, true, true, false, true, true, true, true, true, true, false, false] rfl rfl (by kernel_rfl) (by decide) (fun K hK => ?_)
  refine Go.Proofs.YtcjhligknhpadaaDoorW.PrintLast.goes_ Tryd.func20 (by kernel_rfl) rfl #[.pointer (some ⟨D, 0, none⟩)] (by rfl) rfl rfl (by (try simp only [List.map_toArray, List.map_cons, List.map_nil]); first | done | rfl) ?_
  refine (pending_any base _ D d (HI.out.below (Below.refl _ _).drew) HFit.out).mono ?_
  rintro e w2 ⟨he, nq, rfl⟩
  rw [HPE.out] at he
  subst he
  refine ⟨_, rfl, ?_⟩
  refine hK.out _ _ (by go_simp) (fun hHeld => ?_)
  clear hK K
  refine Go.Proofs.YtcjhligknhpadaaDoorW.PrintLast.norm_ (a' := ?_) ?_ ?_
  rotate_left
  · show Act.put _ (some 14) _ = _
    simp only [Act.put, List.setIfInBounds_toArray, List.set_cons_zero, List.set_cons_succ, Go.Proofs.YtcjhligknhpadaaDoorW.PrintLast.i64_w, Go.Proofs.YtcjhligknhpadaaDoorW.PrintLast.i32_w]
    rfl
  refine Go.Proofs.YtcjhligknhpadaaDoorW.PrintLast.pure_ (i := 8) (N := some 15) (v := ?_) (a' := ?_) #[true, true, true, true, true, true, true, true, true, true, true, true, true, true, true, false, false] rfl rfl (by kernel_rfl) (fun _ _ _ h => h) (Or.inl ⟨by rfl, ?_⟩) ?_ ?_
  rotate_left
  · intro w'
    go_simp
    with_reducible rfl
  rotate_left
  · simp only [Act.put, List.setIfInBounds_toArray, List.set_cons_zero, List.set_cons_succ, Go.Proofs.YtcjhligknhpadaaDoorW.PrintLast.i64_w, Go.Proofs.YtcjhligknhpadaaDoorW.PrintLast.i32_w]
    rfl
  refine Go.Proofs.YtcjhligknhpadaaDoorW.PrintLast.one_ (i := 15) (N := some 22) #[true, true, true, true, true, true, true, true, true, true, true, true, true, true, true, true, false] rfl rfl (by kernel_rfl) (by decide) (fun K hK => ?_)
  refine Go.Proofs.YtcjhligknhpadaaDoorW.PrintLast.goes_ Tryd.func44 (by kernel_rfl) rfl #[.pointer (some ⟨D, 0, none⟩), .int .i64 sf, .int .i64 m, .slice KA keep.length kc] (by rfl) rfl rfl (by (try simp only [List.map_toArray, List.map_cons, List.map_nil]); first | done | rfl) ?_
  refine (HLEFT.out _ (below_drewN (Below.refl _ _).drew _)).mono ?_
  rintro e w3 ⟨C, rfl, hi3, hb3⟩
  refine ⟨_, rfl, ?_⟩
  have HI3 := Lib.hid hi3
  have HB3 := Lib.hid hb3
  clear hi3 hb3
  refine hK.out _ _ ((HB3.out.cell (p := ⟨D, 3, none⟩) HDL.out).trans c3) (fun hHeld => ?_)
  clear hK K
  refine Go.Proofs.YtcjhligknhpadaaDoorW.PrintLast.norm_ (a' := ?_) ?_ ?_
  rotate_left
  · show Act.put _ (some 22) _ = _
    simp only [Act.put, List.setIfInBounds_toArray, List.set_cons_zero, List.set_cons_succ, Go.Proofs.YtcjhligknhpadaaDoorW.PrintLast.i64_w, Go.Proofs.YtcjhligknhpadaaDoorW.PrintLast.i32_w]
    rfl
  refine Go.Proofs.YtcjhligknhpadaaDoorW.PrintLast.pure_ (i := 16) (N := some 4) (v := ?_) (a' := ?_) #[true, true, true, true, true, true, true, true, true, true, true, true, true, true, true, true, true] rfl rfl (by kernel_rfl) (fun _ _ _ h => h) (Or.inl ⟨by rfl, ?_⟩) ?_ ?_
  rotate_left
  · intro w'
    go_simp
    with_reducible rfl
  rotate_left
  · simp only [Act.put, List.setIfInBounds_toArray, List.set_cons_zero, List.set_cons_succ, Go.Proofs.YtcjhligknhpadaaDoorW.PrintLast.i64_w, Go.Proofs.YtcjhligknhpadaaDoorW.PrintLast.i32_w]
    rfl
  refine Go.Proofs.YtcjhligknhpadaaDoorW.PrintLast.done_ (by kernel_rfl) ?_
  go_wp2
  go_ret
  exact ⟨C, rfl, HI3.out, HB3.out⟩
end Dk
end Go.Proofs.YtcjhligknhpadaaDoor

namespace Go.Proofs.YtcjhligknhpadaaDoor
open Go.RowKit Go.Proofs.YtcjhligknhpadaaDoorW.PrintWords Go.Proofs.YtcjhligknhpadaaDoorW.PrintLast
set_option linter.unusedVariables false
set_option linter.unusedSimpArgs false
namespace Dk

/-- behind how many writes -/
def upTo (d : Dsk) (n : Int) : Nat := (min n (d.log.length : Int)).toNat
theorem upTo_le (d : Dsk) (n : Int) : upTo d n ≤ d.log.length := by unfold upTo; omega
theorem upTo_eq (d : Dsk) (n : Int) : (upTo d n : Int) = max 0 (min n (d.log.length : Int)) := by unfold upTo; omega
/-- how many were safe then: what the last sync ahead tells -/
def safeAt (syncs : List Int) (n : Nat) : Nat → Nat
  | 0 => 0
  | k + 1 => if syncs.getD k 0 < (n : Int) then (syncs.getD k 0).toNat else safeAt syncs n k
theorem safeAt_le (syncs : List Int) (n : Nat) (h : ∀ s ∈ syncs, 0 ≤ s) : ∀ k, safeAt syncs n k ≤ n
  | 0 => Nat.zero_le _
  | k + 1 => by
    have ih := safeAt_le syncs n h k
    unfold safeAt
    split
    · omega
    · exact ih
set_option maxHeartbeats 1000000 in
set_option maxRecDepth 100000 in
theorem cutat_some [av : Av] (base : Nat) (w : World) (D : Nat) (d : Dsk) (n : Int) (KA : Option Addr) (kc : Nat) (keep : List Bool) (h : IsDk base w D d) (hf : d.Fit) (hpos : 0 < d.syncs.length) (hbw : base ≤ w.heap.size) (hN : 1 ≤ d.N ∧ d.N ≤ 4096)
    (hkl : keep.length ≤ 9223372036854775807) (hk : ∀ j, j < keep.length → ∃ a, KA = some a ∧ w.cell? (a.add j) = some (.bool (keep.getD j false))) :
    Calls Tryd.prog 26 #[.pointer (some ⟨D, 0, none⟩), .int .i64 n, .slice KA keep.length kc] w fun e w' => ∃ C, e = .returned (.pointer (some ⟨C, 0, none⟩)) ∧ IsDk base w' C (leftD d (safeAt d.syncs (upTo d n) d.syncs.length) (upTo d n) keep) ∧ Below w.heap.size w w' := by
  have HI := Lib.hid h
  have HFit := Lib.hid hf
  obtain ⟨F, M, lv, sv, hd⟩ := h
  obtain ⟨vs, l1, l2, l3⟩ := hd.hL
  obtain ⟨la, lc, rfl⟩ := own_slice l3
  obtain ⟨_, _, _, c3, c4⟩ := hd.cells
  have hsa := safeAt_le d.syncs (upTo d n) (fun s hs => (hf.2.2 s hs).1) d.syncs.length
  have HLEFT := Lib.hid (show ∀ w2 (y x : Int), y = (safeAt d.syncs (upTo d n) d.syncs.length : Nat) → x = (upTo d n : Nat) → Below w.heap.size w w2 → Calls Tryd.prog 44 #[.pointer (some ⟨D, 0, none⟩), .int .i64 y, .int .i64 x, .slice KA keep.length kc] w2 fun e w' => ∃ C, e = .returned (.pointer (some ⟨C, 0, none⟩)) ∧ IsDk base w' C (leftD d (safeAt d.syncs (upTo d n) d.syncs.length) (upTo d n) keep) ∧ Below w.heap.size w w' from fun w2 y x hy hx hb => by
    subst hy hx
    exact (left_any base w2 D d _ _ KA kc keep (HI.out.below hb) hf (Nat.le_trans hbw hb.size) hN hsa (upTo_le d n) hkl (fun j hj => by
      obtain ⟨a, e, hc⟩ := hk j hj
      exact ⟨a, e, (hb.cell (p := a.add j) (World.block_lt_of_cell? w _ hc)).trans hc⟩)).mono fun e w' ⟨C, q1, q2, q3⟩ => ⟨C, q1, q2, hb.trans (q3.mono hb.size)⟩)
  have hm := hf.1
  have hsl := hf.2.1
  obtain ⟨g, sc, rfl, _, _⟩ := sync_cell hd 0 hpos
  have HSC := Lib.hid (show ∀ i (hi : i < d.syncs.length), w.cell? ⟨g, i, none⟩ = some (.int .i64 d.syncs[i]) from fun i hi => by
    obtain ⟨g', c', e, _, hc⟩ := sync_cell hd i hi
    cases e
    exact hc)
  have hu := upTo_eq d n
  have HP0 := Lib.hid (show ∀ i (hi : i < d.syncs.length), 0 ≤ d.syncs[i] from fun i hi => (hf.2.2 _ (List.getElem_mem hi)).1)
  generalize upTo d n = u at *
  clear l1 l2 l3 hd hkl hk hbw hN hf hsa
  generalize d.log.length = m at *
  rcases (by omega : ((m : Int) < n ∧ 0 < (m : Int) ∧ u = m) ∨ ((m : Int) < n ∧ (m : Int) ≤ 0 ∧ u = 0) ∨ (n ≤ (m : Int) ∧ 0 < n ∧ n = (u : Int)) ∨ (n ≤ (m : Int) ∧ n ≤ 0 ∧ u = 0)) with ⟨t1, t2, t3⟩ | ⟨t1, t2, t3⟩ | ⟨t1, t2, t3⟩ | ⟨t1, t2, t3⟩
  · clear hu
    subst t3
    have hum : u ≤ 1000000 := by omega
    go_enter Tryd.func26, Tryd.ntmps26
    go_wp2_with fail
    go_loop [7, 25] (fun sf i => ∃ k : Nat, k ≤ d.syncs.length ∧ i = .int .i64 k ∧ sf = .int .i64 (safeAt d.syncs u k : Nat)) (fun _ i => d.syncs.length - (intOf i).toNat)
    case atStart => exact ⟨0, Nat.zero_le _, rfl, rfl⟩
    case round =>
      obtain ⟨k, hk, rfl, rfl⟩ := hrel
      by_cases hlt : k < d.syncs.length
      · have hcell := HSC.out k hlt
        have hps := HP0.out k hlt
        have HREC := Lib.hid (show safeAt d.syncs u (k + 1) = if d.syncs[k] < ((u : Nat) : Int) then d.syncs[k].toNat else safeAt d.syncs u k by simp [safeAt, List.getD_eq_getElem?_getD, hlt])
        generalize d.syncs[k] = s at *
        have q5 : decide (k < d.syncs.length) = true := decide_eq_true hlt
        by_cases hs : s < (u : Int)
        · have t5 : decide (s < (u : Int)) = true := decide_eq_true hs
          go_wp2_with fail
          go_round
          case rel => exact ⟨k + 1, by omega, by go_num, by rw [HREC.out, if_pos (by omega), Int.toNat_of_nonneg hps]⟩
          case measure => simp [intOf]; omega
        · have t5 : decide (s < (u : Int)) = false := decide_eq_false hs
          go_wp2_with fail
          go_round
          case rel => exact ⟨k + 1, by omega, by go_num, by rw [HREC.out, if_neg (by omega)]⟩
          case measure => simp [intOf]; omega
      · have ek : k = d.syncs.length := by omega
        subst ek
        go_wp2_with fail
        refine (HLEFT.out _ _ _ rfl (by omega) (Below.refl _ _)).mono ?_
        rintro e w3 ⟨C, rfl, hi3, hb3⟩
        have HI3 := Lib.hid hi3
        have HB3 := Lib.hid hb3
        clear hi3 hb3
        go_wp2
        go_ret
        exact ⟨C, rfl, HI3.out, HB3.out⟩

  · clear hu
    subst t3
    have hum : (0 : Nat) ≤ 1000000 := by omega
    go_enter Tryd.func26, Tryd.ntmps26
    go_wp2_with fail
    go_loop [7, 25] (fun sf i => ∃ k : Nat, k ≤ d.syncs.length ∧ i = .int .i64 k ∧ sf = .int .i64 (safeAt d.syncs (0 : Nat) k : Nat)) (fun _ i => d.syncs.length - (intOf i).toNat)
    case atStart => exact ⟨0, Nat.zero_le _, rfl, rfl⟩
    case round =>
      obtain ⟨k, hk, rfl, rfl⟩ := hrel
      by_cases hlt : k < d.syncs.length
      · have hcell := HSC.out k hlt
        have hps := HP0.out k hlt
        have HREC := Lib.hid (show safeAt d.syncs (0 : Nat) (k + 1) = if d.syncs[k] < (((0 : Nat) : Nat) : Int) then d.syncs[k].toNat else safeAt d.syncs (0 : Nat) k by simp [safeAt, List.getD_eq_getElem?_getD, hlt])
        generalize d.syncs[k] = s at *
        have q5 : decide (k < d.syncs.length) = true := decide_eq_true hlt
        by_cases hs : s < (0 : Int)
        · have t5 : decide (s < (0 : Int)) = true := decide_eq_true hs
          go_wp2_with fail
          go_round
          case rel => exact ⟨k + 1, by omega, by go_num, by rw [HREC.out, if_pos (by omega), Int.toNat_of_nonneg hps]⟩
          case measure => simp [intOf]; omega
        · have t5 : decide (s < (0 : Int)) = false := decide_eq_false hs
          go_wp2_with fail
          go_round
          case rel => exact ⟨k + 1, by omega, by go_num, by rw [HREC.out, if_neg (by omega)]⟩
          case measure => simp [intOf]; omega
      · have ek : k = d.syncs.length := by omega
        subst ek
        go_wp2_with fail
        refine (HLEFT.out _ _ _ rfl (by omega) (Below.refl _ _)).mono ?_
        rintro e w3 ⟨C, rfl, hi3, hb3⟩
        have HI3 := Lib.hid hi3
        have HB3 := Lib.hid hb3
        clear hi3 hb3
        go_wp2
        go_ret
        exact ⟨C, rfl, HI3.out, HB3.out⟩

  · clear hu
    subst t3
    have hum : u ≤ 1000000 := by omega
    go_enter Tryd.func26, Tryd.ntmps26
    go_wp2_with fail
    go_loop [7, 25] (fun sf i => ∃ k : Nat, k ≤ d.syncs.length ∧ i = .int .i64 k ∧ sf = .int .i64 (safeAt d.syncs u k : Nat)) (fun _ i => d.syncs.length - (intOf i).toNat)
    case atStart => exact ⟨0, Nat.zero_le _, rfl, rfl⟩
    case round =>
      obtain ⟨k, hk, rfl, rfl⟩ := hrel
      by_cases hlt : k < d.syncs.length
      · have hcell := HSC.out k hlt
        have hps := HP0.out k hlt
        have HREC := Lib.hid (show safeAt d.syncs u (k + 1) = if d.syncs[k] < ((u : Nat) : Int) then d.syncs[k].toNat else safeAt d.syncs u k by simp [safeAt, List.getD_eq_getElem?_getD, hlt])
        generalize d.syncs[k] = s at *
        have q5 : decide (k < d.syncs.length) = true := decide_eq_true hlt
        by_cases hs : s < (u : Int)
        · have t5 : decide (s < (u : Int)) = true := decide_eq_true hs
          go_wp2_with fail
          go_round
          case rel => exact ⟨k + 1, by omega, by go_num, by rw [HREC.out, if_pos (by omega), Int.toNat_of_nonneg hps]⟩
          case measure => simp [intOf]; omega
        · have t5 : decide (s < (u : Int)) = false := decide_eq_false hs
          go_wp2_with fail
          go_round
          case rel => exact ⟨k + 1, by omega, by go_num, by rw [HREC.out, if_neg (by omega)]⟩
          case measure => simp [intOf]; omega
      · have ek : k = d.syncs.length := by omega
        subst ek
        go_wp2_with fail
        refine (HLEFT.out _ _ _ rfl (by omega) (Below.refl _ _)).mono ?_
        rintro e w3 ⟨C, rfl, hi3, hb3⟩
        have HI3 := Lib.hid hi3
        have HB3 := Lib.hid hb3
        clear hi3 hb3
        go_wp2
        go_ret
        exact ⟨C, rfl, HI3.out, HB3.out⟩

  · clear hu
    subst t3
    have hum : (0 : Nat) ≤ 1000000 := by omega
    go_enter Tryd.func26, Tryd.ntmps26
    go_wp2_with fail
    go_loop [7, 25] (fun sf i => ∃ k : Nat, k ≤ d.syncs.length ∧ i = .int .i64 k ∧ sf = .int .i64 (safeAt d.syncs (0 : Nat) k : Nat)) (fun _ i => d.syncs.length - (intOf i).toNat)
    case atStart => exact ⟨0, Nat.zero_le _, rfl, rfl⟩
    case round =>
      obtain ⟨k, hk, rfl, rfl⟩ := hrel
      by_cases hlt : k < d.syncs.length
      · have hcell := HSC.out k hlt
        have hps := HP0.out k hlt
        have HREC := Lib.hid (show safeAt d.syncs (0 : Nat) (k + 1) = if d.syncs[k] < (((0 : Nat) : Nat) : Int) then d.syncs[k].toNat else safeAt d.syncs (0 : Nat) k by simp [safeAt, List.getD_eq_getElem?_getD, hlt])
        generalize d.syncs[k] = s at *
        have q5 : decide (k < d.syncs.length) = true := decide_eq_true hlt
        by_cases hs : s < (0 : Int)
        · have t5 : decide (s < (0 : Int)) = true := decide_eq_true hs
          go_wp2_with fail
          go_round
          case rel => exact ⟨k + 1, by omega, by go_num, by rw [HREC.out, if_pos (by omega), Int.toNat_of_nonneg hps]⟩
          case measure => simp [intOf]; omega
        · have t5 : decide (s < (0 : Int)) = false := decide_eq_false hs
          go_wp2_with fail
          go_round
          case rel => exact ⟨k + 1, by omega, by go_num, by rw [HREC.out, if_neg (by omega)]⟩
          case measure => simp [intOf]; omega
      · have ek : k = d.syncs.length := by omega
        subst ek
        go_wp2_with fail
        refine (HLEFT.out _ _ _ rfl (by omega) (Below.refl _ _)).mono ?_
        rintro e w3 ⟨C, rfl, hi3, hb3⟩
        have HI3 := Lib.hid hi3
        have HB3 := Lib.hid hb3
        clear hi3 hb3
        go_wp2
        go_ret
        exact ⟨C, rfl, HI3.out, HB3.out⟩
set_option maxHeartbeats 1000000 in
set_option maxRecDepth 100000 in
theorem cutat_none [av : Av] (base : Nat) (w : World) (D : Nat) (d : Dsk) (n : Int) (KA : Option Addr) (kc : Nat) (keep : List Bool) (h : IsDk base w D d) (hf : d.Fit) (hpos : d.syncs.length = 0) (hbw : base ≤ w.heap.size) (hN : 1 ≤ d.N ∧ d.N ≤ 4096)
    (hkl : keep.length ≤ 9223372036854775807) (hk : ∀ j, j < keep.length → ∃ a, KA = some a ∧ w.cell? (a.add j) = some (.bool (keep.getD j false))) :
    Calls Tryd.prog 26 #[.pointer (some ⟨D, 0, none⟩), .int .i64 n, .slice KA keep.length kc] w fun e w' => ∃ C, e = .returned (.pointer (some ⟨C, 0, none⟩)) ∧ IsDk base w' C (leftD d (safeAt d.syncs (upTo d n) d.syncs.length) (upTo d n) keep) ∧ Below w.heap.size w w' := by
  have HI := Lib.hid h
  have HFit := Lib.hid hf
  obtain ⟨F, M, lv, sv, hd⟩ := h
  obtain ⟨vs, l1, l2, l3⟩ := hd.hL
  obtain ⟨la, lc, rfl⟩ := own_slice l3
  obtain ⟨_, _, _, c3, c4⟩ := hd.cells
  have hsa := safeAt_le d.syncs (upTo d n) (fun s hs => (hf.2.2 s hs).1) d.syncs.length
  have HLEFT := Lib.hid (show ∀ w2 (y x : Int), y = (safeAt d.syncs (upTo d n) d.syncs.length : Nat) → x = (upTo d n : Nat) → Below w.heap.size w w2 → Calls Tryd.prog 44 #[.pointer (some ⟨D, 0, none⟩), .int .i64 y, .int .i64 x, .slice KA keep.length kc] w2 fun e w' => ∃ C, e = .returned (.pointer (some ⟨C, 0, none⟩)) ∧ IsDk base w' C (leftD d (safeAt d.syncs (upTo d n) d.syncs.length) (upTo d n) keep) ∧ Below w.heap.size w w' from fun w2 y x hy hx hb => by
    subst hy hx
    exact (left_any base w2 D d _ _ KA kc keep (HI.out.below hb) hf (Nat.le_trans hbw hb.size) hN hsa (upTo_le d n) hkl (fun j hj => by
      obtain ⟨a, e, hc⟩ := hk j hj
      exact ⟨a, e, (hb.cell (p := a.add j) (World.block_lt_of_cell? w _ hc)).trans hc⟩)).mono fun e w' ⟨C, q1, q2, q3⟩ => ⟨C, q1, q2, hb.trans (q3.mono hb.size)⟩)
  have hm := hf.1
  have hsl := hf.2.1
  obtain ⟨sa, sc, rfl⟩ := own_slice hd.hS
  have HZ := Lib.hid hpos
  clear hpos
  have hu := upTo_eq d n
  have HP0 := Lib.hid (show ∀ i (hi : i < d.syncs.length), 0 ≤ d.syncs[i] from fun i hi => (hf.2.2 _ (List.getElem_mem hi)).1)
  generalize upTo d n = u at *
  clear l1 l2 l3 hd hkl hk hbw hN hf hsa
  generalize d.log.length = m at *
  rcases (by omega : ((m : Int) < n ∧ 0 < (m : Int) ∧ u = m) ∨ ((m : Int) < n ∧ (m : Int) ≤ 0 ∧ u = 0) ∨ (n ≤ (m : Int) ∧ 0 < n ∧ n = (u : Int)) ∨ (n ≤ (m : Int) ∧ n ≤ 0 ∧ u = 0)) with ⟨t1, t2, t3⟩ | ⟨t1, t2, t3⟩ | ⟨t1, t2, t3⟩ | ⟨t1, t2, t3⟩
  · clear hu
    subst t3
    have hum : u ≤ 1000000 := by omega
    go_enter Tryd.func26, Tryd.ntmps26
    go_wp2_with fail
    go_loop [7, 25] (fun sf i => ∃ k : Nat, k ≤ d.syncs.length ∧ i = .int .i64 k ∧ sf = .int .i64 (safeAt d.syncs u k : Nat)) (fun _ i => d.syncs.length - (intOf i).toNat)
    case atStart => exact ⟨0, Nat.zero_le _, rfl, rfl⟩
    case round =>
      obtain ⟨k, hk, rfl, rfl⟩ := hrel
      by_cases hlt : k < d.syncs.length
      · exact absurd hlt (by rw [HZ.out]; exact Nat.not_lt_zero _)
      · have ek : k = d.syncs.length := by omega
        subst ek
        go_wp2_with fail
        refine (HLEFT.out _ _ _ rfl (by omega) (Below.refl _ _)).mono ?_
        rintro e w3 ⟨C, rfl, hi3, hb3⟩
        have HI3 := Lib.hid hi3
        have HB3 := Lib.hid hb3
        clear hi3 hb3
        go_wp2
        go_ret
        exact ⟨C, rfl, HI3.out, HB3.out⟩

  · clear hu
    subst t3
    have hum : (0 : Nat) ≤ 1000000 := by omega
    go_enter Tryd.func26, Tryd.ntmps26
    go_wp2_with fail
    go_loop [7, 25] (fun sf i => ∃ k : Nat, k ≤ d.syncs.length ∧ i = .int .i64 k ∧ sf = .int .i64 (safeAt d.syncs (0 : Nat) k : Nat)) (fun _ i => d.syncs.length - (intOf i).toNat)
    case atStart => exact ⟨0, Nat.zero_le _, rfl, rfl⟩
    case round =>
      obtain ⟨k, hk, rfl, rfl⟩ := hrel
      by_cases hlt : k < d.syncs.length
      · exact absurd hlt (by rw [HZ.out]; exact Nat.not_lt_zero _)
      · have ek : k = d.syncs.length := by omega
        subst ek
        go_wp2_with fail
        refine (HLEFT.out _ _ _ rfl (by omega) (Below.refl _ _)).mono ?_
        rintro e w3 ⟨C, rfl, hi3, hb3⟩
        have HI3 := Lib.hid hi3
        have HB3 := Lib.hid hb3
        clear hi3 hb3
        go_wp2
        go_ret
        exact ⟨C, rfl, HI3.out, HB3.out⟩

  · clear hu
    subst t3
    have hum : u ≤ 1000000 := by omega
    go_enter Tryd.func26, Tryd.ntmps26
    go_wp2_with fail
    go_loop [7, 25] (fun sf i => ∃ k : Nat, k ≤ d.syncs.length ∧ i = .int .i64 k ∧ sf = .int .i64 (safeAt d.syncs u k : Nat)) (fun _ i => d.syncs.length - (intOf i).toNat)
    case atStart => exact ⟨0, Nat.zero_le _, rfl, rfl⟩
    case round =>
      obtain ⟨k, hk, rfl, rfl⟩ := hrel
      by_cases hlt : k < d.syncs.length
      · exact absurd hlt (by rw [HZ.out]; exact Nat.not_lt_zero _)
      · have ek : k = d.syncs.length := by omega
        subst ek
        go_wp2_with fail
        refine (HLEFT.out _ _ _ rfl (by omega) (Below.refl _ _)).mono ?_
        rintro e w3 ⟨C, rfl, hi3, hb3⟩
        have HI3 := Lib.hid hi3
        have HB3 := Lib.hid hb3
        clear hi3 hb3
        go_wp2
        go_ret
        exact ⟨C, rfl, HI3.out, HB3.out⟩

  · clear hu
    subst t3
    have hum : (0 : Nat) ≤ 1000000 := by omega
    go_enter Tryd.func26, Tryd.ntmps26
    go_wp2_with fail
    go_loop [7, 25] (fun sf i => ∃ k : Nat, k ≤ d.syncs.length ∧ i = .int .i64 k ∧ sf = .int .i64 (safeAt d.syncs (0 : Nat) k : Nat)) (fun _ i => d.syncs.length - (intOf i).toNat)
    case atStart => exact ⟨0, Nat.zero_le _, rfl, rfl⟩
    case round =>
      obtain ⟨k, hk, rfl, rfl⟩ := hrel
      by_cases hlt : k < d.syncs.length
      · exact absurd hlt (by rw [HZ.out]; exact Nat.not_lt_zero _)
      · have ek : k = d.syncs.length := by omega
        subst ek
        go_wp2_with fail
        refine (HLEFT.out _ _ _ rfl (by omega) (Below.refl _ _)).mono ?_
        rintro e w3 ⟨C, rfl, hi3, hb3⟩
        have HI3 := Lib.hid hi3
        have HB3 := Lib.hid hb3
        clear hi3 hb3
        go_wp2
        go_ret
        exact ⟨C, rfl, HI3.out, HB3.out⟩
theorem cutat_any [av : Av] (base : Nat) (w : World) (D : Nat) (d : Dsk) (n : Int) (KA : Option Addr) (kc : Nat) (keep : List Bool) (h : IsDk base w D d) (hf : d.Fit) (hbw : base ≤ w.heap.size) (hN : 1 ≤ d.N ∧ d.N ≤ 4096)
    (hkl : keep.length ≤ 9223372036854775807) (hk : ∀ j, j < keep.length → ∃ a, KA = some a ∧ w.cell? (a.add j) = some (.bool (keep.getD j false))) :
    Calls Tryd.prog 26 #[.pointer (some ⟨D, 0, none⟩), .int .i64 n, .slice KA keep.length kc] w fun e w' => ∃ C, e = .returned (.pointer (some ⟨C, 0, none⟩)) ∧ IsDk base w' C (leftD d (safeAt d.syncs (upTo d n) d.syncs.length) (upTo d n) keep) ∧ Below w.heap.size w w' := by
  by_cases hp : 0 < d.syncs.length
  · exact cutat_some base w D d n KA kc keep h hf hp hbw hN hkl hk
  · exact cutat_none base w D d n KA kc keep h hf (by omega) hbw hN hkl hk
end Dk
end Go.Proofs.YtcjhligknhpadaaDoor

namespace Go.Proofs.YtcjhligknhpadaaDoor
open Go.RowKit Go.ChangeShapes Go.WideShapes Go.Deep Go.Proofs.YtcjhligknhpadaaDoorW.PrintWords Go.Proofs.YtcjhligknhpadaaDoorW.PrintLast
set_option linter.unusedVariables false
set_option linter.unusedSimpArgs false
namespace Dk
theorem new_dk [av : Av] (base : Nat) (n : Int) (w : World) (hb : base ≤ w.heap.size) (h0 : 1 ≤ n) (h1 : n ≤ 4096) : Calls Tryd.prog 16 #[.int .i64 n] w fun e w' => ∃ D, e = .returned (.tuple #[.pointer (some ⟨D, 0, none⟩), .int .i64 0]) ∧ IsDk base w' D (Dsk.new n) ∧ Below w.heap.size w w' := by
  refine (new_abs n w h0 h1).mono fun e w' ⟨he, hbl, hz, m0, m1, hC⟩ => ⟨_, he, ?_, hbl⟩
  exact ⟨w.heap.size, w.heap.size + 1, .slice none 0 0, .slice none 0 0, ⟨by omega, hb, by omega, by omega, hC, ⟨#[], 0, m0, (by intro e he; simp at he), fun k => Byts.nil _⟩, ⟨#[], 0, m1, (by intro e he; simp at he), fun k => Byts.nil _⟩, ⟨[], rfl, (by intro p hp; simp [Dsk.new] at hp), World.ownsRow_nil _ _ _ _⟩, World.ownsRow_nil _ _ _ _⟩⟩
theorem row_open {w : World} {base : Nat} {v : Value} {l : List Int} (h : w.ownsRow base 5 1 v 128 (l.map (Value.int .u8))) : ∃ g c, v = .slice (some ⟨g, 0, none⟩) 128 c ∧ base ≤ g ∧ 128 ≤ c ∧ (∃ cur, w.heap[g]? = some (.cells cur 5 (0, 0))) ∧ ∀ i, i < 128 → w.cell? ⟨g, i, none⟩ = some (.int .u8 (l.getD i 0)) := by
  have hl : l.length = 128 := by have := h.1; rw [List.length_map] at this; omega
  rcases h.2 with ⟨_, q⟩ | ⟨g, cap, cur, q, q2, q3, q4, q5⟩
  · omega
  · refine ⟨g, cap, q, q2, q4, ⟨cur, q3⟩, fun i hi => ?_⟩
    have hc := World.ownsRow.cells h (g := g) (by rw [q]; rfl) i (.int .u8 (l.getD i 0)) (by rw [List.getElem?_map, List.getElem?_eq_getElem (by omega), List.getD_eq_getElem?_getD, List.getElem?_eq_getElem (by omega)]; rfl)
    rw [show (⟨g, 0, none⟩ : Addr).add i = ⟨g, i, none⟩ by unfold Addr.add; split <;> simp_all] at hc
    exact hc
theorem cell_fr {w : World} {D i : Nat} {cs : Array Value} {t : TypeId} {v : Value} {fr : Nat × Nat} (h : w.heap[D]? = some (.cells cs t fr)) (h4 : cs[i]? = some v) : w.cell? ⟨D, i, none⟩ = some v := by simp [World.cell?, h, h4]
def BytesIn (w : World) (v : Value) (l : List Int) : Prop := ∃ (a : Option Addr) (c : Nat), v = .slice a l.length c ∧ IsBy l ∧ l.length ≤ 9223372036854775807 ∧ ∀ j, j < l.length → ∃ ad, a = some ad ∧ w.cell? (ad.add j) = some (.int .u8 (l.getD j 0))
def BoolsIn (w : World) (v : Value) (l : List Bool) : Prop := ∃ (a : Option Addr) (c : Nat), v = .slice a l.length c ∧ l.length ≤ 9223372036854775807 ∧ ∀ j, j < l.length → ∃ ad, a = some ad ∧ w.cell? (ad.add j) = some (.bool (l.getD j false))
theorem bytes_in {H : Type} {enc : TypeId × Value → H} {w : World} {base : Nat} {spare : Nat → Bool} {held : Bool} {v : Value} {x : DataW H × List MemPlace} {fuel : Nat} (hf : DataW.trod enc Tryd.prog w base spare held fuel 22 [v] = some x) : ∃ l, BytesIn w v l := by
  rcases open_ints Tryd.underlying22 Tryd.underlying5 (by kernel_rfl) hf with ⟨hcs, _⟩ | ⟨a, len, c, zs, hcs, _, hl, hm, hz, _, hcell, hwz⟩
  · cases hcs
    exact ⟨[], none, 0, rfl, (fun c hc => by simp at hc), by simp, fun j hj => by simp at hj⟩
  · cases hcs
    have hl2 : len ≤ zs.length := by
      rw [hz]
      split
      · exact hl
      · exact Nat.le_refl _
    have hlen : (zs.take len).length = len := by rw [List.length_take]; omega
    refine ⟨zs.take len, some a, c, by rw [hlen], ?_, by rw [hlen]; unfold maxLen at hm; omega, fun j hj => ⟨a, rfl, ?_⟩⟩
    · intro q hq
      have := hwz q (List.mem_of_mem_take hq)
      simp [Lit.wf, IntKind.min, IntKind.max, IntKind.bits, IntKind.signed] at this
      omega
    · rw [hlen] at hj
      have h1 := hcell j (by omega)
      simp only [List.getD_eq_getElem?_getD, List.getElem?_take, if_pos hj] at h1 ⊢
      exact h1
theorem bools_in {H : Type} {enc : TypeId × Value → H} {w : World} {base : Nat} {held : Bool} {v : Value} {x : DataW H × List MemPlace} {fuel : Nat} (hf : DataW.trod enc Tryd.prog w base (fun _ => true) held fuel 41 [v] = some x) : ∃ l, BoolsIn w v l := by
  rcases open_bools Tryd.underlying41 Tryd.underlying4 (by kernel_rfl) hf with ⟨hcs, _⟩ | ⟨a, len, c, B, hcs, _, hl, hm, _, hcell⟩
  · cases hcs
    exact ⟨[], none, 0, rfl, by simp, fun j hj => by simp at hj⟩
  · cases hcs
    have hlen : ((List.range len).map B).length = len := by simp
    refine ⟨(List.range len).map B, some a, c, by rw [hlen], by rw [hlen]; unfold maxLen at hm; omega, fun j hj => ⟨a, rfl, ?_⟩⟩
    rw [hlen] at hj
    have h1 := hcell j (by omega)
    rw [h1]
    simp [List.getD_eq_getElem?_getD, List.getElem?_range, hj]
theorem add_fld (a : Addr) (n j : Nat) (h : 0 < j) : a.add (n + j) = ⟨(a.add n).block, (a.add n).off + j, none⟩ := by
  unfold Addr.add
  by_cases hn : n = 0
  · subst hn
    simp [show ¬ j = 0 by omega]
  · simp [hn, show ¬ n + j = 0 by omega]
    omega
/-- all writes, played -/
def allM (first : Int → List Int) (log : List (Int × List Int)) : Nat → Int → List Int
  | 0 => first
  | k + 1 => upd (allM first log k) (log.getD k (0, [])).1 (log.getD k (0, [])).2
theorem leftM_all (first : Int → List Int) (log : List (Int × List Int)) (safe : Nat) (keep : List Bool) : ∀ n, (∀ i, i < n → kept safe keep i = true) → leftM first log safe keep n = allM first log n
  | 0, _ => rfl
  | n + 1, h => by
    simp only [leftM, allM, h n (by omega), if_true, leftM_all first log safe keep n (fun i hi => h i (by omega))]
theorem allM_app (first : Int → List Int) (log : List (Int × List Int)) (x : Int × List Int) : ∀ n, n ≤ log.length → allM first (log ++ [x]) n = allM first log n
  | 0, _ => rfl
  | n + 1, h => by
    have e : (log ++ [x]).getD n (0, []) = log.getD n (0, []) := by
      simp only [List.getD_eq_getElem?_getD]
      rw [List.getElem?_append_left (by omega)]
    simp only [allM, allM_app first log x n (by omega), e]
theorem leftM_len (first : Int → List Int) (log : List (Int × List Int)) (safe : Nat) (keep : List Bool) (h0 : ∀ q, (first q).length ≤ 128) (h1 : ∀ p ∈ log, p.2.length ≤ 128) : ∀ n, n ≤ log.length → ∀ q, (leftM first log safe keep n q).length ≤ 128
  | 0, _, q => h0 q
  | n + 1, h, q => by
    have ih := leftM_len first log safe keep h0 h1 n (by omega)
    have hm : log.getD n (0, []) ∈ log := by
      rw [List.getD_eq_getElem?_getD, List.getElem?_eq_getElem (by omega)]
      exact List.getElem_mem _
    simp only [leftM]
    split
    · simp only [upd]
      split
      · exact h1 _ hm
      · exact ih q
    · exact ih q
theorem BytesIn.chg {w w' : World} {v : Value} {l : List Int} (h : BytesIn w v l) (hc : Below w.heap.size w w') : BytesIn w' v l := by
  obtain ⟨a, c, e, h1, h2, h3⟩ := h
  exact ⟨a, c, e, h1, h2, fun j hj => by
    obtain ⟨ad, e, hcell⟩ := h3 j hj
    exact ⟨ad, e, (hc.cell (p := ad.add j) (World.block_lt_of_cell? w _ hcell)).trans hcell⟩⟩
theorem BoolsIn.chg {w w' : World} {v : Value} {l : List Bool} (h : BoolsIn w v l) (hc : Below w.heap.size w w') : BoolsIn w' v l := by
  obtain ⟨a, c, e, h1, h3⟩ := h
  exact ⟨a, c, e, h1, fun j hj => by
    obtain ⟨ad, e, hcell⟩ := h3 j hj
    exact ⟨ad, e, (hc.cell (p := ad.add j) (World.block_lt_of_cell? w _ hcell)).trans hcell⟩⟩
theorem cell_up {w w' : World} {a : Addr} {v : Value} (h : w.cell? a = some v) (hc : Below w.heap.size w w') : w'.cell? a = some v := (hc.cell (p := a) (World.block_lt_of_cell? w _ h)).trans h
theorem own_up {w w' : World} {base : Nat} {e : TypeId} {size n : Nat} {v : Value} {xs : List Value} (h : w.ownsRow base e size v n xs) (hc : Below w.heap.size w w') : w'.ownsRow base e size v n xs :=
  own_move h fun g cur _ hh => (hc.block g (lt_of_heap hh)).trans hh
theorem bel {w w1 w2 : World} (h : Below w.heap.size w w1) (g : Below w1.heap.size w1 w2) : Below w.heap.size w w2 := h.trans (g.mono h.size)
theorem set_at {w : World} {W j : Nat} {v : Value} {cs : Array Value} {t : TypeId} (h : w.heap[W]? = some (.cells cs t (0, 0))) : (w.setCell ⟨W, j, none⟩ v).heap[W]? = some (.cells (cs.setIfInBounds j v) t (0, 0)) := by simp [World.setCell, Array.getElem?_modify, h]
theorem set_ne {w : World} {W j k : Nat} {v : Value} (h : k ≠ W) : (w.setCell ⟨W, j, none⟩ v).heap[k]? = w.heap[k]? := by simp [World.setCell, Array.getElem?_modify, Ne.symm h]
theorem set_size (w : World) (a : Addr) (v : Value) : (w.setCell a v).heap.size = w.heap.size := by simp [World.setCell]
/-- what stands apart of its own: all may turn but for that, in the blocks that are bad -/
theorem IsDk.apart [av : Av] {base : Nat} {w w' : World} {D : Nat} {d : Dsk} (h : IsDk base w D d) (hp : ∀ (k : Nat) (o : Obj), w.heap[k]? = some o → (∀ cur, o = .cells cur 5 (0, 0) → ¬ av.bad k) → w'.heap[k]? = some o) : IsDk base w' D d := by
  have byt : ∀ v l, Byts w v l → Byts w' v l := fun v l h => ⟨h.1, own_move h.2 fun g cur hg hh => hp g _ hh fun c q => h.1.2 g hg⟩
  have oth : ∀ (k : Nat) (o : Obj), w.heap[k]? = some o → (∀ cur, o ≠ .cells cur 5 (0, 0)) → w'.heap[k]? = some o := fun k o hk ho => hp k o hk fun cur q => absurd q (ho cur)
  have mp : ∀ M m, MapB w M m → MapB w' M m := fun M m ⟨es, c, h1, h2, h3⟩ => ⟨es, c, oth M _ h1 (fun cur q => by cases q), h2, fun q => byt _ _ (h3 q)⟩
  obtain ⟨F, M, lv, sv, hd⟩ := h
  obtain ⟨vs, l1, l2, l3⟩ := hd.hL
  exact ⟨F, M, lv, sv, hd.bD, hd.bF, hd.bM, hd.ne, oth D _ hd.hD (fun cur q => by cases q), mp _ _ hd.hF, mp _ _ hd.hM, ⟨vs, l1, fun p hp => byt _ _ (l2 p hp), own_move l3 fun g cur _ hh => oth g _ hh (fun cur q => by cases q)⟩, own_move hd.hS fun g cur _ hh => oth g _ hh (fun cur q => by cases q)⟩
end Dk
end Go.Proofs.YtcjhligknhpadaaDoor

namespace Go.Proofs.YtcjhligknhpadaaDoor
set_option linter.unusedVariables false
set_option linter.unusedSimpArgs false
namespace Wp
def IsB (l : List Int) : Prop := ∀ c ∈ l, 0 ≤ c ∧ c ≤ 255
def zer (n : Nat) : List Int := List.replicate n 0
theorem zer_len (n : Nat) : (zer n).length = n := List.length_replicate
/-- a number's bytes, the lowest first -/
def putF : Nat → Int → List Int
  | 0, _ => []
  | k + 1, n => n % 256 :: putF k (n / 256)
def getF : List Int → Int
  | [] => 0
  | b :: l => b + 256 * getF l
theorem putF_len : ∀ k n, (putF k n).length = k
  | 0, _ => rfl
  | k + 1, n => by simp [putF, putF_len k]
theorem putF_by : ∀ k n, IsB (putF k n)
  | 0, _, c, h => by simp [putF] at h
  | k + 1, n, c, h => by
    rcases List.mem_cons.1 h with rfl | h
    · omega
    · exact putF_by k _ c h
theorem get_put4 (n : Int) (h0 : 0 ≤ n) (h1 : n < 4294967296) : getF (putF 4 n) = n := by
  simp only [putF, getF]
  omega
theorem getF_zer : ∀ n, getF (zer n) = 0
  | 0 => rfl
  | n + 1 => by
    show 0 + 256 * getF (zer n) = 0
    rw [getF_zer n]
    rfl
def pad (n : Nat) : Nat := (n + 7) / 8 * 8
theorem pad_le (n : Nat) : n ≤ pad n ∧ pad n ≤ n + 7 ∧ pad n % 8 = 0 := by unfold pad; omega
section
variable (crc : List Int → Int)
def frame (r : List Int) : List Int := putF 4 r.length ++ (putF 4 (crc r) ++ (r ++ zer (pad r.length - r.length)))
theorem frame_len (r : List Int) : (frame crc r).length = 8 + pad r.length := by
  have := pad_le r.length
  simp only [frame, List.length_append, putF_len, zer_len]
  omega
def isZ (l : List Int) : Bool := l.all fun c => c == 0
theorem isZ_zer (n : Nat) : isZ (zer n) = true := by simp [isZ, zer]
theorem isZ_eq {l : List Int} (h : isZ l = true) : l = zer l.length := by
  unfold isZ at h
  unfold zer
  rw [List.eq_replicate_iff]
  refine ⟨rfl, fun b hb => ?_⟩
  have := List.all_eq_true.1 h b hb
  simpa using this
/-- the record at the front -/
def frameAt (l : List Int) : Option (List Int) :=
  if l.length < 8 then none
  else if getF (l.take 4) < 1 ∨ 8192 < getF (l.take 4) ∨ l.length - 8 < pad (getF (l.take 4)).toNat then none
  else if crc ((l.drop 8).take (getF (l.take 4)).toNat) = getF ((l.drop 4).take 4) ∧ isZ (((l.drop 8).drop (getF (l.take 4)).toNat).take (pad (getF (l.take 4)).toNat - (getF (l.take 4)).toNat)) = true then some ((l.drop 8).take (getF (l.take 4)).toNat)
  else none
theorem frameAt_len {l r : List Int} (h : frameAt crc l = some r) : 1 ≤ r.length ∧ r.length ≤ 8192 ∧ 8 + pad r.length ≤ l.length := by
  unfold frameAt at h
  split at h
  · cases h
  split at h
  · cases h
  split at h
  · rename_i h1 h2 h3
    cases h
    have := pad_le (getF (l.take 4)).toNat
    have e : ((l.drop 8).take (getF (l.take 4)).toNat).length = (getF (l.take 4)).toNat := by rw [List.length_take, List.length_drop]; omega
    rw [e]
    omega
  · cases h
theorem frameAt_zero (l : List Int) (h : isZ (l.take 4) = true) : frameAt crc l = none := by
  unfold frameAt
  have e := isZ_eq h
  rw [e, getF_zer]
  split
  · rfl
  · rw [if_pos (by omega)]
theorem frameAt_frame (r rest : List Int) (h0 : 1 ≤ r.length) (h1 : r.length ≤ 8192) (hc : 0 ≤ crc r ∧ crc r < 4294967296) : frameAt crc (frame crc r ++ rest) = some r := by
  have hp := pad_le r.length
  have hl := frame_len crc r
  have e4 : (frame crc r ++ rest).take 4 = putF 4 r.length := by
    unfold frame
    rw [List.append_assoc, List.take_append_of_le_length (by rw [putF_len]; exact Nat.le_refl _), List.take_of_length_le (by rw [putF_len]; exact Nat.le_refl _)]
  have e8 : (frame crc r ++ rest).drop 4 = putF 4 (crc r) ++ (r ++ zer (pad r.length - r.length) ++ rest) := by
    unfold frame
    rw [List.append_assoc, List.drop_append_of_le_length (by rw [putF_len]; exact Nat.le_refl _), List.drop_of_length_le (by rw [putF_len]; exact Nat.le_refl _), List.nil_append, List.append_assoc]
  have e9 : (frame crc r ++ rest).drop 8 = r ++ zer (pad r.length - r.length) ++ rest := by
    have : (frame crc r ++ rest).drop 8 = ((frame crc r ++ rest).drop 4).drop 4 := by rw [List.drop_drop]
    rw [this, e8, List.drop_append_of_le_length (by rw [putF_len]; exact Nat.le_refl _), List.drop_of_length_le (by rw [putF_len]; exact Nat.le_refl _), List.nil_append]
  have eg : getF (putF 4 (r.length : Int)) = r.length := get_put4 _ (by omega) (by omega)
  have ll : (frame crc r ++ rest).length = 8 + pad r.length + rest.length := by rw [List.length_append, hl]
  unfold frameAt
  rw [e4, eg, e8, e9, ll]
  simp only [Int.toNat_natCast]
  rw [if_neg (by omega), if_neg (by omega)]
  have t1 : (r ++ zer (pad r.length - r.length) ++ rest).take r.length = r := by rw [List.append_assoc, List.take_append_of_le_length (Nat.le_refl _), List.take_length]
  have t2 : (putF 4 (crc r) ++ (r ++ zer (pad r.length - r.length) ++ rest)).take 4 = putF 4 (crc r) := by rw [List.take_append_of_le_length (by rw [putF_len]; exact Nat.le_refl _), List.take_of_length_le (by rw [putF_len]; exact Nat.le_refl _)]
  have t3 : ((r ++ zer (pad r.length - r.length) ++ rest).drop r.length).take (pad r.length - r.length) = zer (pad r.length - r.length) := by
    rw [List.append_assoc, List.drop_append_of_le_length (Nat.le_refl _), List.drop_length, List.nil_append, List.take_append_of_le_length (by rw [zer_len]; exact Nat.le_refl _), List.take_of_length_le (by rw [zer_len]; exact Nat.le_refl _)]
  rw [t1, t2, t3, get_put4 _ hc.1 hc.2, if_pos ⟨rfl, isZ_zer _⟩]
/-- the records that stand in bytes -/
def readF : Nat → List Int → List (List Int)
  | 0, _ => []
  | k + 1, l => match frameAt crc l with
    | none => []
    | some r => r :: readF k (l.drop (8 + pad r.length))
def sizeF (rs : List (List Int)) : Nat := (rs.map fun r => 8 + pad r.length).sum
def framesF (rs : List (List Int)) : List Int := (rs.map (frame crc)).flatten
theorem framesF_len (rs : List (List Int)) : (framesF crc rs).length = sizeF rs := by
  induction rs with
  | nil => rfl
  | cons r rs ih =>
    have e : framesF crc (r :: rs) = frame crc r ++ framesF crc rs := by simp [framesF]
    rw [e, List.length_append, frame_len, ih]
    simp [sizeF]
def RecOk (rs : List (List Int)) : Prop := ∀ r ∈ rs, 1 ≤ r.length ∧ r.length ≤ 8192
variable {crc}
theorem frameAt_take {l l' r : List Int} (h : frameAt crc l = some r) (he : l'.take (8 + pad r.length) = l.take (8 + pad r.length)) (hl : 8 + pad r.length ≤ l'.length) : frameAt crc l' = some r := by
  obtain ⟨h1, h2, h3⟩ := frameAt_len crc h
  have hp := pad_le r.length
  have tk : ∀ n, n ≤ 8 + pad r.length → l'.take n = l.take n := fun n hn => by
    have := congrArg (List.take n) he
    rwa [List.take_take, List.take_take, Nat.min_eq_left hn] at this
  have dk : ∀ m n, m + n ≤ 8 + pad r.length → (l'.drop m).take n = (l.drop m).take n := fun m n hn => by
    rw [List.take_drop, List.take_drop, tk _ hn]
  have e4 := tk 4 (by omega)
  have hr : (getF (l.take 4)).toNat = r.length := by
    unfold frameAt at h
    split at h
    · cases h
    split at h
    · cases h
    split at h
    · rename_i q1 q2 q3
      cases h
      have := pad_le (getF (l.take 4)).toNat
      rw [List.length_take, List.length_drop]
      omega
    · cases h
  unfold frameAt at h ⊢
  rw [e4]
  rw [hr] at h ⊢
  split at h
  · cases h
  split at h
  · cases h
  rename_i q1 q2
  rw [if_neg (by omega), if_neg (by omega)]
  rw [dk 8 r.length (by omega), dk 4 4 (by omega)]
  have e5 : ((l'.drop 8).drop r.length).take (pad r.length - r.length) = ((l.drop 8).drop r.length).take (pad r.length - r.length) := by
    rw [List.drop_drop, List.drop_drop]
    exact dk _ _ (by omega)
  rw [e5]
  exact h
/-- what is read up to a place is read of all bytes that are the same up to there; and behind it stands what is read from there on -/
theorem readF_prefix : ∀ (k : Nat) (l l' : List Int), l'.take (sizeF (readF crc k l)) = l.take (sizeF (readF crc k l)) → sizeF (readF crc k l) ≤ l'.length → frameAt crc (l'.drop (sizeF (readF crc k l))) = none → ∀ m, (readF crc k l).length < m → readF crc m l' = readF crc k l
  | 0, l, l', _, _, h3, m, hm => by
    obtain ⟨m, rfl⟩ : ∃ j, m = j + 1 := ⟨m - 1, by omega⟩
    have h3' : frameAt crc l' = none := h3
    simp only [readF, h3']
  | k + 1, l, l', h1, h2, h3, m, hm => by
    obtain ⟨m, rfl⟩ : ∃ j, m = j + 1 := ⟨m - 1, by omega⟩
    cases hf : frameAt crc l with
    | none =>
      have e : readF crc (k + 1) l = [] := by simp only [readF, hf]
      rw [e] at h3 ⊢
      have h3' : frameAt crc l' = none := h3
      simp only [readF, h3']
    | some r =>
      have e : readF crc (k + 1) l = r :: readF crc k (l.drop (8 + pad r.length)) := by simp only [readF, hf]
      rw [e] at h1 h2 h3 hm ⊢
      have es : sizeF (r :: readF crc k (l.drop (8 + pad r.length))) = 8 + pad r.length + sizeF (readF crc k (l.drop (8 + pad r.length))) := by simp [sizeF]
      rw [es] at h1 h2 h3
      have hf' : frameAt crc l' = some r := frameAt_take hf (by
        have := congrArg (List.take (8 + pad r.length)) h1
        rwa [List.take_take, List.take_take, Nat.min_eq_left (Nat.le_add_right _ _)] at this) (by omega)
      simp only [readF, hf']
      have ih := readF_prefix k (l.drop (8 + pad r.length)) (l'.drop (8 + pad r.length)) (by rw [List.take_drop, List.take_drop, h1]) (by rw [List.length_drop]; omega) (by rw [List.drop_drop]; exact h3) m (by simp at hm; omega)
      rw [ih]
theorem readF_frames (rs : List (List Int)) (rest : List Int) (ho : RecOk rs) (hc : ∀ r, 0 ≤ crc r ∧ crc r < 4294967296) (hz : frameAt crc rest = none) : ∀ m, rs.length < m → readF crc m (framesF crc rs ++ rest) = rs := by
  induction rs with
  | nil =>
    intro m hm
    obtain ⟨m, rfl⟩ : ∃ j, m = j + 1 := ⟨m - 1, by omega⟩
    have e : framesF crc [] ++ rest = rest := rfl
    rw [e]
    simp only [readF, hz]
  | cons r rs ih =>
    intro m hm
    obtain ⟨m, rfl⟩ : ∃ j, m = j + 1 := ⟨m - 1, by omega⟩
    have e : framesF crc (r :: rs) ++ rest = frame crc r ++ (framesF crc rs ++ rest) := by simp [framesF]
    have hr := ho r List.mem_cons_self
    rw [e]
    simp only [readF, frameAt_frame crc r _ hr.1 hr.2 (hc r)]
    rw [show (frame crc r ++ (framesF crc rs ++ rest)).drop (8 + pad r.length) = framesF crc rs ++ rest by rw [← frame_len crc r, List.drop_append_of_le_length (Nat.le_refl _), List.drop_length, List.nil_append]]
    rw [ih (fun x hx => ho x (List.mem_cons_of_mem _ hx)) m (by simp at hm; omega)]
theorem readF_ok : ∀ (k : Nat) (l : List Int), RecOk (readF crc k l) ∧ sizeF (readF crc k l) ≤ l.length
  | 0, l => ⟨fun r hr => by simp [readF] at hr, by simp [readF, sizeF]⟩
  | k + 1, l => by
    cases hf : frameAt crc l with
    | none =>
      have e : readF crc (k + 1) l = [] := by simp only [readF, hf]
      rw [e]
      exact ⟨fun r hr => by simp at hr, by simp [sizeF]⟩
    | some r =>
      have e : readF crc (k + 1) l = r :: readF crc k (l.drop (8 + pad r.length)) := by simp only [readF, hf]
      obtain ⟨i1, i2⟩ := readF_ok k (l.drop (8 + pad r.length))
      obtain ⟨l1, l2, l3⟩ := frameAt_len crc hf
      rw [e]
      rw [List.length_drop] at i2
      refine ⟨fun x hx => ?_, by simp only [sizeF, List.map_cons, List.sum_cons] at i2 ⊢; omega⟩
      rcases List.mem_cons.1 hx with rfl | hx
      · exact ⟨l1, l2⟩
      · exact i1 x hx
/-- read as long as there is room -/
theorem readF_len : ∀ (k : Nat) (l : List Int), 8 * (readF crc k l).length ≤ sizeF (readF crc k l)
  | 0, l => by simp [readF, sizeF]
  | k + 1, l => by
    cases hf : frameAt crc l with
    | none =>
      have e : readF crc (k + 1) l = [] := by simp only [readF, hf]
      rw [e]; simp [sizeF]
    | some r =>
      have e : readF crc (k + 1) l = r :: readF crc k (l.drop (8 + pad r.length)) := by simp only [readF, hf]
      have ih := readF_len k (l.drop (8 + pad r.length))
      rw [e]
      simp only [sizeF, List.map_cons, List.sum_cons, List.length_cons] at ih ⊢
      omega
end
end Wp
end Go.Proofs.YtcjhligknhpadaaDoor

namespace Go.Proofs.YtcjhligknhpadaaDoor
open Go.RowKit Go.Proofs.YtcjhligknhpadaaDoor.Wp
set_option linter.unusedVariables false
set_option linter.unusedSimpArgs false
namespace Dk

/-- the i-th sector of bytes -/
def secF (l : List Int) (i : Nat) : List Int := (l.drop (i * 128)).take 128
/-- a region's bytes -/
def reg (now : Int → List Int) (first : Int) : Nat → List Int
  | 0 => []
  | s + 1 => reg now first s ++ full (now (first + s))
theorem reg_len (now : Int → List Int) (first : Int) (h : ∀ q, (now q).length ≤ 128) : ∀ s, (reg now first s).length = s * 128
  | 0 => rfl
  | s + 1 => by
    rw [reg, List.length_append, reg_len now first h s, full_len _ (h _)]
    omega
theorem reg_sec (now : Int → List Int) (first : Int) (h : ∀ q, (now q).length ≤ 128) : ∀ s i, i < s → secF (reg now first s) i = full (now (first + i))
  | 0, i, hi => by omega
  | s + 1, i, hi => by
    have hl := reg_len now first h s
    unfold secF
    rw [reg]
    by_cases hs : i < s
    · have ih := reg_sec now first h s i hs
      unfold secF at ih
      rw [List.drop_append_of_le_length (by omega), List.take_append_of_le_length (by rw [List.length_drop]; omega)]
      exact ih
    · have e : i = s := by omega
      subst e
      rw [List.drop_append, List.drop_of_length_le (by omega), List.nil_append, hl, Nat.sub_self, List.drop_zero, List.take_of_length_le (by rw [full_len _ (h _)]; exact Nat.le_refl _)]
theorem sec_at (l : List Int) (p : Nat) : l[p]? = (secF l (p / 128))[p % 128]? := by
  unfold secF
  rw [List.getElem?_take, if_pos (Nat.mod_lt _ (by decide)), List.getElem?_drop]
  congr 1
  omega
theorem sec_len {l : List Int} {s i : Nat} (h : l.length = s * 128) (hi : i < s) : (secF l i).length = 128 := by
  unfold secF
  rw [List.length_take, List.length_drop]
  omega
theorem ext_sec {a b : List Int} {s : Nat} (ha : a.length = s * 128) (hb : b.length = s * 128) (h : ∀ i, i < s → secF a i = secF b i) : a = b := by
  apply List.ext_getElem?
  intro p
  by_cases hp : p < s * 128
  · rw [sec_at a, sec_at b, h (p / 128) (by omega)]
  · rw [List.getElem?_eq_none (by omega), List.getElem?_eq_none (by omega)]
theorem full_self {l : List Int} (h : l.length = 128) : full l = l := by simp [full, h]
/-- n sectors of bytes are written, from the a-th on -/
def wrD (first : Int) (img : List Int) (a : Nat) (d : Dsk) : Nat → Dsk
  | 0 => d
  | n + 1 => { wrD first img a d n with now := fun k => if k = first + (a + n : Nat) then secF img (a + n) else (wrD first img a d n).now k, log := (wrD first img a d n).log ++ [(first + (a + n : Nat), secF img (a + n))] }
def syncD (d : Dsk) : Dsk := { d with syncs := d.syncs ++ [(d.log.length : Int)] }
theorem wrD_fields (first : Int) (img : List Int) (a : Nat) (d : Dsk) : ∀ n, (wrD first img a d n).N = d.N ∧ (wrD first img a d n).first = d.first ∧ (wrD first img a d n).syncs = d.syncs ∧ (wrD first img a d n).log = d.log ++ (List.range n).map (fun i => (first + (a + i : Nat), secF img (a + i)))
  | 0 => ⟨rfl, rfl, rfl, by simp [wrD]⟩
  | n + 1 => by
    obtain ⟨h1, h2, h3, h4⟩ := wrD_fields first img a d n
    refine ⟨h1, h2, h3, ?_⟩
    show (wrD first img a d n).log ++ [(first + (a + n : Nat), secF img (a + n))] = _
    rw [h4, List.range_succ, List.map_append, ← List.append_assoc]
    rfl
theorem wrD_now (first : Int) (img : List Int) (a : Nat) (d : Dsk) : ∀ n (j : Nat), (wrD first img a d n).now (first + j) = if a ≤ j ∧ j < a + n then secF img j else d.now (first + j)
  | 0, j => by rw [if_neg (by omega)]; rfl
  | n + 1, j => by
    have ih := wrD_now first img a d n j
    show (if first + (j : Int) = first + ((a + n : Nat) : Int) then secF img (a + n) else (wrD first img a d n).now (first + j)) = _
    by_cases h : j = a + n
    · subst h
      rw [if_pos rfl, if_pos (by omega)]
    · rw [if_neg (by omega), ih]
      by_cases h2 : a ≤ j ∧ j < a + n
      · rw [if_pos h2, if_pos (by omega)]
      · rw [if_neg h2, if_neg (by omega)]
/-- a list whose every byte is one list's or the other's -/
def Mix (l a b : List Int) : Prop := l.length = a.length ∧ ∀ p : Nat, l[p]? = a[p]? ∨ l[p]? = b[p]?
theorem Mix.take {l a b : List Int} (h : Mix l a b) (n : Nat) (he : a.take n = b.take n) : l.take n = a.take n := by
  apply List.ext_getElem?
  intro p
  rw [List.getElem?_take, List.getElem?_take]
  split
  · rename_i hp
    have e := congrArg (fun x => x[p]?) he
    simp only [List.getElem?_take, if_pos hp] at e
    rcases h.2 p with h | h
    · exact h
    · rw [h, e]
  · rfl
/-- sectors that are old or new make bytes that are old or new -/
theorem mix_of {l a b : List Int} {s : Nat} (hl : l.length = s * 128) (ha : a.length = s * 128) (h : ∀ i, i < s → secF l i = secF a i ∨ secF l i = secF b i) : Mix l a b := by
  refine ⟨by rw [hl, ha], fun p => ?_⟩
  by_cases hp : p < s * 128
  · rw [sec_at l, sec_at a, sec_at b]
    rcases h (p / 128) (by omega) with h | h
    · left; rw [h]
    · right; rw [h]
  · left
    rw [List.getElem?_eq_none (by omega), List.getElem?_eq_none (by omega)]
/-- what is left of a log of writes, a sector at a time: what was safe, or what one of the others wrote -/
theorem leftM_some (first : Int → List Int) (log : List (Int × List Int)) (safe : Nat) (keep : List Bool) (q : Int) : ∀ n, safe ≤ n → n ≤ log.length → leftM first log safe keep n q = allM first log safe q ∨ ∃ t, safe ≤ t ∧ t < n ∧ (log.getD t (0, [])).1 = q ∧ leftM first log safe keep n q = (log.getD t (0, [])).2
  | 0, h0, _ => by
    obtain rfl : safe = 0 := by omega
    exact .inl rfl
  | n + 1, h0, h1 => by
    by_cases hs : safe = n + 1
    · subst hs
      left
      rw [leftM_all first log (n + 1) keep (n + 1) (fun i hi => by simp [kept, hi])]
    · have ih := leftM_some first log safe keep q n (by omega) (by omega)
      simp only [leftM]
      split
      · by_cases hq : q = (log.getD n (0, [])).1
        · exact .inr ⟨n, by omega, by omega, hq.symm, by simp only [upd]; rw [if_pos hq]⟩
        · simp only [upd]
          rw [if_neg hq]
          rcases ih with h | ⟨t, t1, t2, t3, t4⟩
          · exact .inl h
          · exact .inr ⟨t, t1, by omega, t3, t4⟩
      · rcases ih with h | ⟨t, t1, t2, t3, t4⟩
        · exact .inl h
        · exact .inr ⟨t, t1, by omega, t3, t4⟩
end Dk
end Go.Proofs.YtcjhligknhpadaaDoor

namespace Go.Proofs.YtcjhligknhpadaaDoor
open Go.RowKit Go.Proofs.YtcjhligknhpadaaDoor.Wp
set_option linter.unusedVariables false
set_option linter.unusedSimpArgs false
namespace Dk

theorem safeAt_app (s ex : List Int) (n : Nat) : ∀ k, k ≤ s.length → safeAt (s ++ ex) n k = safeAt s n k
  | 0, _ => rfl
  | k + 1, h => by
    have e : (s ++ ex).getD k 0 = s.getD k 0 := by
      simp only [List.getD_eq_getElem?_getD]
      rw [List.getElem?_append_left (by omega)]
    simp only [safeAt, safeAt_app s ex n k (by omega), e]
theorem safeAt_snoc (s : List Int) (x : Int) (n : Nat) : safeAt (s ++ [x]) n (s ++ [x]).length = if x < (n : Int) then x.toNat else safeAt s n s.length := by
  rw [List.length_append, List.length_singleton]
  have e : (s ++ [x]).getD s.length 0 = x := by simp [List.getD_eq_getElem?_getD]
  simp only [safeAt, e, safeAt_app s [x] n s.length (Nat.le_refl _)]
/-- a disk as acts make it -/
structure Wf (d : Dsk) : Prop where
  now : d.now = allM d.first d.log d.log.length
  first : ∀ q, (d.first q).length ≤ 128
  log : ∀ p ∈ d.log, p.2.length ≤ 128
  syncs : ∀ s ∈ d.syncs, 0 ≤ s ∧ s ≤ d.log.length
theorem Wf.now_len {d : Dsk} (h : Wf d) (q : Int) : (d.now q).length ≤ 128 := by
  have e := leftM_all d.first d.log d.log.length [] d.log.length (fun i hi => by simp [kept, hi])
  rw [h.now, ← e]
  exact leftM_len _ _ _ _ h.first h.log _ (Nat.le_refl _) q
theorem Wf.write {d : Dsk} (h : Wf d) (i : Int) (l : List Int) (hl : l.length ≤ 128) : Wf { d with now := fun k => if k = i then l else d.now k, log := d.log ++ [(i, l)] } := by
  refine ⟨?_, h.first, fun p hp => ?_, fun s hs => ?_⟩
  · show (fun k => if k = i then l else d.now k) = allM d.first (d.log ++ [(i, l)]) (d.log ++ [(i, l)]).length
    rw [List.length_append, List.length_singleton]
    simp only [allM]
    rw [allM_app _ _ _ _ (Nat.le_refl _), ← h.now]
    have e : (d.log ++ [(i, l)]).getD d.log.length (0, []) = (i, l) := by simp [List.getD_eq_getElem?_getD]
    rw [e]
    rfl
  · rcases List.mem_append.1 hp with hp | hp
    · exact h.log p hp
    · rw [List.mem_singleton.1 hp]; exact hl
  · have := h.syncs s hs
    show 0 ≤ s ∧ s ≤ ((d.log ++ [(i, l)]).length : Int)
    rw [List.length_append]
    simp
    omega
theorem Wf.sync {d : Dsk} (h : Wf d) : Wf (syncD d) := by
  refine ⟨h.now, h.first, h.log, fun s hs => ?_⟩
  rcases List.mem_append.1 hs with hs | hs
  · exact h.syncs s hs
  · rw [List.mem_singleton.1 hs]
    show (0 : Int) ≤ d.log.length ∧ (d.log.length : Int) ≤ d.log.length
    omega
theorem Wf.left {d : Dsk} (h : Wf d) (safe n : Nat) (keep : List Bool) (hn : n ≤ d.log.length) : Wf (leftD d safe n keep) :=
  ⟨rfl, fun q => leftM_len _ _ _ _ h.first h.log n hn q, fun p hp => by simp [leftD] at hp, fun s hs => by simp [leftD] at hs⟩
theorem Wf.new (n : Int) : Wf (Dsk.new n) := ⟨rfl, fun q => by simp [Dsk.new], fun p hp => by simp [Dsk.new] at hp, fun s hs => by simp [Dsk.new] at hs⟩
theorem Wf.wr {d : Dsk} (h : Wf d) (first : Int) (img : List Int) (a : Nat) : ∀ n, Wf (wrD first img a d n)
  | 0 => h
  | n + 1 => (Wf.wr h first img a n).write _ _ (by unfold secF; rw [List.length_take]; omega)
theorem allM_app' (first : Int → List Int) (log ex : List (Int × List Int)) : ∀ n, n ≤ log.length → allM first (log ++ ex) n = allM first log n
  | 0, _ => rfl
  | n + 1, h => by
    have e : (log ++ ex).getD n (0, []) = log.getD n (0, []) := by
      simp only [List.getD_eq_getElem?_getD]
      rw [List.getElem?_append_left (by omega)]
    simp only [allM, allM_app' first log ex n (by omega), e]
theorem batch_mix {d dd : Dsk} (h : Wf d) (hdd : Wf dd) (first : Int) (img : List Int) (a n1 s n : Nat) (keep : List Bool) (hi : img.length = s * 128) (ha : a + n1 ≤ s) (ex : List (Int × List Int)) (hf : dd.first = d.first) (hl : dd.log = (wrD first img a d n1).log ++ ex) (hn0 : d.log.length ≤ n) (hn1 : n ≤ d.log.length + n1) :
    Mix (reg (leftD dd d.log.length n keep).now first s) (reg d.now first s) img := by
  obtain ⟨_, _, _, w4⟩ := wrD_fields first img a d n1
  have hlen : dd.log.length = d.log.length + n1 + ex.length := by rw [hl, w4]; simp; omega
  have wl := hdd.left d.log.length n keep (by omega)
  refine mix_of (reg_len _ _ wl.now_len s) (reg_len _ _ h.now_len s) fun j hj => ?_
  rw [reg_sec _ _ wl.now_len s j hj, reg_sec _ _ h.now_len s j hj]
  rcases leftM_some dd.first dd.log d.log.length keep (first + j) n hn0 (by omega) with e | ⟨t, t1, t2, t3, t4⟩
  · left
    show full (leftM dd.first dd.log d.log.length keep n (first + j)) = _
    rw [e, hf, hl, w4, List.append_assoc, allM_app' d.first d.log _ _ (Nat.le_refl _), ← h.now]
  · right
    show full (leftM dd.first dd.log d.log.length keep n (first + j)) = _
    have e : dd.log.getD t (0, []) = (first + ((a + (t - d.log.length) : Nat) : Int), secF img (a + (t - d.log.length))) := by
      rw [hl, w4, List.getD_eq_getElem?_getD, List.append_assoc, List.getElem?_append_right t1, List.getElem?_append_left (by simp; omega), List.getElem?_map, List.getElem?_range (by omega)]
      rfl
    rw [e] at t3 t4
    have ej : a + (t - d.log.length) = j := by simp only at t3; omega
    rw [t4]
    simp only
    rw [ej, full_self (sec_len hi hj)]
/-- what is read of bytes that are the same up to a place where noughts stand -/
theorem read_same {crc : List Int → Int} {k : Nat} {l l' : List Int} (hl : l'.length = l.length) (he : l'.take (sizeF (readF crc k l) + 4) = l.take (sizeF (readF crc k l) + 4)) (hz : isZ ((l.drop (sizeF (readF crc k l))).take 4) = true) : ∀ m, (readF crc k l).length < m → readF crc m l' = readF crc k l := by
  obtain ⟨_, h2⟩ := readF_ok k l (crc := crc)
  refine readF_prefix k l l' ?_ (by omega) ?_
  · have := congrArg (List.take (sizeF (readF crc k l))) he
    rwa [List.take_take, List.take_take, Nat.min_eq_left (by omega)] at this
  · apply frameAt_zero
    have e : (l'.drop (sizeF (readF crc k l))).take 4 = (l.drop (sizeF (readF crc k l))).take 4 := by rw [List.take_drop, List.take_drop, he]
    rw [e]
    exact hz
end Dk
end Go.Proofs.YtcjhligknhpadaaDoor

namespace Go.Proofs.YtcjhligknhpadaaDoor
open Go.RowKit Go.Proofs.YtcjhligknhpadaaDoor.Wp
set_option linter.unusedVariables false
set_option linter.unusedSimpArgs false
namespace Dk

/-- all sectors from a byte's up to another's are written, and made safe -/
def batchD (first : Int) (img : List Int) (a b : Nat) (d : Dsk) : Dsk := syncD (wrD first img (a / 128) d ((b + 127) / 128 - a / 128))
def oneD (first : Int) (img : List Int) (a : Nat) (d : Dsk) : Dsk := if a < img.length then batchD first img a (a + 1) d else d
def zfrom (img : List Int) (a : Nat) : List Int := img.take a ++ zer (img.length - a)
/-- noughts from a place on: that place's sector first -/
def blankD (first : Int) (img : List Int) (a : Nat) (d : Dsk) : Dsk := batchD first (zfrom img a) a img.length (oneD first (zfrom img a) a d)
theorem zfrom_len (img : List Int) (a : Nat) (h : a ≤ img.length) : (zfrom img a).length = img.length := by
  unfold zfrom
  rw [List.length_append, List.length_take, zer_len]
  omega
theorem one_batch (a : Nat) : (a + 1 + 127) / 128 - a / 128 = 1 := by omega
theorem reg_batch {d : Dsk} (h : Wf d) (first : Int) (img : List Int) (a b s : Nat) (hi : img.length = s * 128) (hb : b ≤ s * 128) : ∀ j, j < s → secF (reg (batchD first img a b d).now first s) j = if a / 128 ≤ j ∧ j * 128 < b then secF img j else secF (reg d.now first s) j := by
  intro j hj
  have hw := h.wr first img (a / 128) ((b + 127) / 128 - a / 128)
  have e := wrD_now first img (a / 128) d ((b + 127) / 128 - a / 128) j
  show secF (reg (wrD first img (a / 128) d ((b + 127) / 128 - a / 128)).now first s) j = _
  rw [reg_sec _ _ hw.now_len s j hj, reg_sec _ _ h.now_len s j hj, e]
  by_cases hc : a / 128 ≤ j ∧ j * 128 < b
  · rw [if_pos (by omega), if_pos hc, full_self (sec_len hi hj)]
  · rw [if_neg (by omega), if_neg hc]
theorem reg_one {d : Dsk} (h : Wf d) (first : Int) (img : List Int) (a s : Nat) (hi : img.length = s * 128) : ∀ j, j < s → secF (reg (oneD first img a d).now first s) j = if a / 128 = j then secF img j else secF (reg d.now first s) j := by
  intro j hj
  unfold oneD
  by_cases ha : a < img.length
  · rw [if_pos ha, reg_batch h first img a (a + 1) s hi (by omega) j hj]
    by_cases hc : a / 128 = j
    · rw [if_pos (by omega), if_pos hc]
    · rw [if_neg (by omega), if_neg hc]
  · rw [if_neg ha, if_neg (by omega)]
theorem Wf.batch {d : Dsk} (h : Wf d) (first : Int) (img : List Int) (a b : Nat) : Wf (batchD first img a b d) := (h.wr _ _ _ _).sync
theorem Wf.one {d : Dsk} (h : Wf d) (first : Int) (img : List Int) (a : Nat) : Wf (oneD first img a d) := by
  unfold oneD
  split
  · exact h.batch _ _ _ _
  · exact h
theorem Wf.blank {d : Dsk} (h : Wf d) (first : Int) (img : List Int) (a : Nat) : Wf (blankD first img a d) := (h.one _ _ _).batch _ _ _ _
/-- sectors ahead of a place are not touched by noughts from there on -/
theorem zfrom_sec (img : List Int) (a j : Nat) (h : (j + 1) * 128 ≤ a) (ha : a ≤ img.length) : secF (zfrom img a) j = secF img j := by
  unfold secF zfrom
  rw [List.drop_append_of_le_length (by rw [List.length_take]; omega), List.take_append_of_le_length (by rw [List.length_drop, List.length_take]; omega), List.take_drop, List.take_take, Nat.min_eq_left (by omega), ← List.take_drop]
/-- behind blanking, a region that was the image is the image with noughts -/
theorem reg_blank {d : Dsk} (h : Wf d) (first : Int) (img : List Int) (a s : Nat) (hi : img.length = s * 128) (ha : a ≤ img.length) (hr : reg d.now first s = img ∨ a = 0) : reg (blankD first img a d).now first s = zfrom img a := by
  have hz := zfrom_len img a ha
  have w1 := h.one first (zfrom img a) a
  have w2 := h.blank first img a
  refine ext_sec (reg_len _ _ w2.now_len s) (by omega) fun j hj => ?_
  unfold blankD
  rw [reg_batch w1 first (zfrom img a) a img.length s (by omega) (by omega) j hj]
  by_cases hc : a / 128 ≤ j ∧ j * 128 < img.length
  · rw [if_pos hc]
  · rw [if_neg hc, reg_one h first (zfrom img a) a s (by omega) j hj, if_neg (by omega)]
    rcases hr with hr | hr
    · rw [hr, zfrom_sec img a j (by omega) ha]
    · omega
def zcut (img : List Int) (a : Nat) : List Int := img.take a ++ (zer 8 ++ img.drop (a + 8))
theorem zcut_len (img : List Int) (a : Nat) (h : a + 8 ≤ img.length) : (zcut img a).length = img.length := by
  unfold zcut
  rw [List.length_append, List.length_append, List.length_take, zer_len, List.length_drop]
  omega
theorem zcut_get (img : List Int) (a p : Nat) (h : a + 8 ≤ img.length) : (zcut img a)[p]? = if a ≤ p ∧ p < a + 8 then some 0 else img[p]? := by
  unfold zcut
  by_cases h1 : p < a
  · rw [List.getElem?_append_left (by rw [List.length_take]; omega), List.getElem?_take, if_pos h1, if_neg (by omega)]
  · rw [List.getElem?_append_right (by rw [List.length_take]; omega), List.length_take, Nat.min_eq_left (by omega)]
    by_cases h2 : p < a + 8
    · rw [if_pos (by omega), List.getElem?_append_left (by rw [zer_len]; omega)]
      unfold zer
      rw [List.getElem?_replicate, if_pos (by omega)]
    · rw [if_neg (by omega), List.getElem?_append_right (by rw [zer_len]; omega), zer_len, List.getElem?_drop]
      congr 1
      omega
/-- what a flush leaves on the disk: the frames without the first one's head, safe, then the head -/
def flushD (first : Int) (img : List Int) (a b : Nat) (d : Dsk) : Dsk := if a < b then oneD first img a (batchD first (zcut img a) a b d) else d
theorem sec_of_get {a b : List Int} {j : Nat} (h : ∀ p, j * 128 ≤ p → p < j * 128 + 128 → a[p]? = b[p]?) : secF a j = secF b j := by
  unfold secF
  apply List.ext_getElem?
  intro i
  rw [List.getElem?_take, List.getElem?_take]
  split
  · rw [List.getElem?_drop, List.getElem?_drop]
    exact h _ (by omega) (by omega)
  · rfl
theorem get_of_sec {a b : List Int} {j p : Nat} (h : secF a j = secF b j) (h0 : j * 128 ≤ p) (h1 : p < j * 128 + 128) : a[p]? = b[p]? := by
  have e : p / 128 = j := by omega
  rw [sec_at a, sec_at b, e, h]
/-- behind a flush the region is the image, if it was so but from a place on, where it was noughts, and the image is noughts behind another -/
theorem reg_flush {d : Dsk} (h : Wf d) (first : Int) (img : List Int) (a b s : Nat) (hi : img.length = s * 128) (hab : a < b) (hb : b ≤ img.length) (h8 : a % 8 = 0) (h88 : a + 8 ≤ b) (hr : reg d.now first s = zfrom img a) (hz : zfrom img b = img) : reg (flushD first img a b d).now first s = img := by
  have hc := zcut_len img a (by omega)
  have w1 := h.batch first (zcut img a) a b
  have w2 := w1.one first img a
  unfold flushD
  rw [if_pos hab]
  refine ext_sec (reg_len _ _ w2.now_len s) hi fun j hj => ?_
  rw [reg_one w1 first img a s hi j hj]
  by_cases h1 : a / 128 = j
  · rw [if_pos h1]
  rw [if_neg h1, reg_batch h first (zcut img a) a b s (by omega) (by omega) j hj]
  by_cases h2 : a / 128 ≤ j ∧ j * 128 < b
  · rw [if_pos h2]
    exact sec_of_get fun p q1 q2 => by rw [zcut_get img a p (by omega), if_neg (by omega)]
  · rw [if_neg h2, hr]
    by_cases h3 : (j + 1) * 128 ≤ a
    · exact zfrom_sec img a j h3 (by omega)
    · have e : zfrom img a = zfrom (zfrom img b) a := by rw [hz]
      refine sec_of_get fun p q1 q2 => ?_
      have hpb : b ≤ p := by omega
      have g : ∀ x, x ≤ img.length → x ≤ p → (zfrom img x)[p]? = if p < img.length then some 0 else none := fun x hx hxp => by
        unfold zfrom
        rw [List.getElem?_append_right (by rw [List.length_take]; omega), List.length_take, Nat.min_eq_left hx]
        unfold zer
        rw [List.getElem?_replicate]
        by_cases hp : p < img.length
        · rw [if_pos (by omega), if_pos hp]
        · rw [if_neg (by omega), if_neg hp]
      rw [g a (by omega) (by omega)]
      have := g b hb hpb
      rw [hz] at this
      rw [this]
end Dk
end Go.Proofs.YtcjhligknhpadaaDoor

namespace Go.Proofs.YtcjhligknhpadaaDoor
open Go.RowKit Go.Proofs.YtcjhligknhpadaaDoor.Wp
set_option linter.unusedVariables false
set_option linter.unusedSimpArgs false
namespace Dk

theorem sizeF_mod : ∀ rs : List (List Int), sizeF rs % 8 = 0
  | [] => rfl
  | r :: rs => by
    have ih := sizeF_mod rs
    have := (pad_le r.length).2.2
    have e : sizeF (r :: rs) = 8 + pad r.length + sizeF rs := by simp [sizeF]
    rw [e]
    omega
def Synced (d : Dsk) : Prop := d.syncs.getLast? = some (d.log.length : Int)
theorem safeAt_last (s : List Int) (x : Int) (n : Nat) (h : s.getLast? = some x) (hx : x < (n : Int)) : safeAt s n s.length = x.toNat := by
  have e : s = s.dropLast ++ [x] := by
    have hn : s ≠ [] := by rintro rfl; simp at h
    rw [List.getLast?_eq_some_getLast hn] at h
    cases h
    exact (List.dropLast_concat_getLast hn).symm
  rw [e, safeAt_snoc, if_pos hx]
/-- one write that is not safe: it is kept, or not -/
theorem one_left {d : Dsk} (h : Wf d) (first : Int) (img : List Int) (a : Nat) (ex : List (Int × List Int)) (dd : Dsk) (hf : dd.first = d.first) (hl : dd.log = (wrD first img a d 1).log ++ ex) (keep : List Bool) : (leftD dd d.log.length (d.log.length + 1) keep).now = d.now ∨ (leftD dd d.log.length (d.log.length + 1) keep).now = (wrD first img a d 1).now := by
  obtain ⟨_, _, _, w4⟩ := wrD_fields first img a d 1
  have hw := h.wr first img a 1
  have e0 : leftM d.first dd.log d.log.length keep d.log.length = d.now := by
    rw [leftM_all _ _ _ _ _ (fun i hi => by simp [kept, hi]), hl, w4, List.append_assoc, allM_app' _ _ _ _ (Nat.le_refl _), ← h.now]
  have e1 : dd.log.getD d.log.length (0, []) = (first + ((a : Nat) : Int), secF img a) := by
    rw [hl, w4, List.getD_eq_getElem?_getD, List.append_assoc, List.getElem?_append_right (Nat.le_refl _), Nat.sub_self]
    rfl
  show leftM dd.first dd.log d.log.length keep (d.log.length + 1) = d.now ∨ leftM dd.first dd.log d.log.length keep (d.log.length + 1) = (wrD first img a d 1).now
  rw [hf]
  simp only [leftM]
  split
  · right
    rw [e0, e1]
    rfl
  · left
    exact e0
theorem mix_sec {d : Dsk} (h : Wf d) {now : Int → List Int} (hn : ∀ q, (now q).length ≤ 128) (first : Int) (img : List Int) (s : Nat) (hi : img.length = s * 128) (hs : ∀ j, j < s → secF (reg now first s) j = secF (reg d.now first s) j ∨ secF (reg now first s) j = secF img j) : Mix (reg now first s) (reg d.now first s) img :=
  mix_of (reg_len _ _ hn s) (reg_len _ _ h.now_len s) hs
section
variable {crc : List Int → Int}
/-- what is read of bytes that are a list's or another's, where both are the same up to behind the last record -/
theorem read_mix {k : Nat} {l a b : List Int} (hm : Mix l a b) (he : a.take (sizeF (readF crc k a) + 4) = b.take (sizeF (readF crc k a) + 4)) (hz : isZ ((a.drop (sizeF (readF crc k a))).take 4) = true) : ∀ m, (readF crc k a).length < m → readF crc m l = readF crc k a :=
  read_same hm.1 (hm.take _ he) hz
theorem isZ_drop_zfrom (img : List Int) (a : Nat) (ha : a ≤ img.length) : isZ (((zfrom img a).drop a).take 4) = true := by
  unfold zfrom
  rw [List.drop_append, List.drop_of_length_le (by rw [List.length_take]; omega), List.nil_append, List.length_take, Nat.min_eq_left ha, Nat.sub_self, List.drop_zero]
  unfold zer
  rw [List.take_replicate]
  exact isZ_zer _
theorem zfrom_take (img : List Int) (a n : Nat) (h : n ≤ a) (ha : a ≤ img.length) : (zfrom img a).take n = img.take n := by
  unfold zfrom
  rw [List.take_append_of_le_length (by rw [List.length_take]; omega), List.take_take, Nat.min_eq_left h]
/-- noughts behind the records change nothing of what is read -/
theorem read_zfrom {k : Nat} {l : List Int} : ∀ m, (readF crc k l).length < m → readF crc m (zfrom l (sizeF (readF crc k l))) = readF crc k l := by
  obtain ⟨_, h2⟩ := readF_ok k l (crc := crc)
  refine readF_prefix k l _ (zfrom_take _ _ _ (Nat.le_refl _) h2) (by rw [zfrom_len _ _ h2]; exact h2) ?_
  exact frameAt_zero crc _ (isZ_drop_zfrom _ _ h2)
theorem read_head {k : Nat} {l l' : List Int} (hl : l'.length = l.length) (h1 : l'.take (sizeF (readF crc k l)) = l.take (sizeF (readF crc k l))) (hz : isZ ((l'.drop (sizeF (readF crc k l))).take 4) = true) : ∀ m, (readF crc k l).length < m → readF crc m l' = readF crc k l :=
  readF_prefix k l l' h1 (by have := (readF_ok k l (crc := crc)).2; omega) (frameAt_zero crc _ hz)
/-- power goes within an opening: the same is read -/
theorem open_cut {d : Dsk} (h : Wf d) (h0 : d.log = []) (hs0 : d.syncs = []) (first : Int) (s k n : Nat) (keep : List Bool) (hk : s * 128 ≤ k) (hn : n ≤ (blankD first (reg d.now first s) (sizeF (readF crc k (reg d.now first s))) d).log.length) :
    readF crc k (reg (leftD (blankD first (reg d.now first s) (sizeF (readF crc k (reg d.now first s))) d) (safeAt (blankD first (reg d.now first s) (sizeF (readF crc k (reg d.now first s))) d).syncs n (blankD first (reg d.now first s) (sizeF (readF crc k (reg d.now first s))) d).syncs.length) n keep).now first s) = readF crc k (reg d.now first s) := by
  have hT := reg_len _ first h.now_len s
  generalize hTe : reg d.now first s = T at hn hT ⊢
  generalize hrs : readF crc k T = rs at hn ⊢
  have hok := readF_ok k T (crc := crc)
  have hrl := readF_len k T (crc := crc)
  rw [hrs] at hok hrl
  obtain ⟨_, he⟩ := hok
  have hlt : rs.length < k ∨ rs.length = 0 := by omega
  generalize hee : sizeF rs = e at hn he hrl ⊢
  have hz := zfrom_len T e he
  have hm8 : e % 8 = 0 := hee ▸ sizeF_mod rs
  generalize hB : blankD first T e d = B at hn ⊢
  have hBw : Wf B := hB ▸ h.blank first T e
  have fin : ∀ l : List Int, l.length = T.length → l.take e = T.take e → (isZ ((l.drop e).take 4) = true ∨ l = T) → readF crc k l = rs := by
    intro l h1 h2 h3
    rcases h3 with h3 | h3
    · rcases hlt with hlt | hlt
      · rw [← hrs]
        exact read_head h1 (by rw [hrs, hee]; exact h2) (by rw [hrs, hee]; exact h3) k (by rw [hrs]; exact hlt)
      · have hr0 : rs = [] := List.eq_nil_of_length_eq_zero hlt
        subst hr0
        have e0 : e = 0 := by rw [← hee]; rfl
        subst e0
        cases k with
        | zero => rfl
        | succ k => simp only [readF, frameAt_zero crc l h3]
    · rw [h3, hrs]
  have zt : (zfrom T e).take e = T.take e := zfrom_take T e e (Nat.le_refl _) he
  have zz := isZ_drop_zfrom T e he
  by_cases hel : e < T.length
  · have hT8 : e + 8 ≤ T.length := by omega
    have h1 : oneD first (zfrom T e) e d = batchD first (zfrom T e) e (e + 1) d := by unfold oneD; rw [if_pos (by omega)]
    obtain ⟨_, a2, a3, a4⟩ := wrD_fields first (zfrom T e) (e / 128) d 1
    have wOne := h.one first (zfrom T e) e
    have lOne : (oneD first (zfrom T e) e d).log = (wrD first (zfrom T e) (e / 128) d 1).log := by rw [h1]; unfold batchD; rw [one_batch]; rfl
    have nOne : (oneD first (zfrom T e) e d).now = (wrD first (zfrom T e) (e / 128) d 1).now := by rw [h1]; unfold batchD; rw [one_batch]; rfl
    have fOne : (oneD first (zfrom T e) e d).first = d.first := by rw [h1]; unfold batchD; rw [one_batch]; exact a2
    have sOne : (oneD first (zfrom T e) e d).syncs = [1] := by
      rw [h1]; unfold batchD; rw [one_batch]
      show (wrD first (zfrom T e) (e / 128) d 1).syncs ++ [((wrD first (zfrom T e) (e / 128) d 1).log.length : Int)] = [1]
      rw [a3, a4, hs0, h0]; rfl
    have l1 : (oneD first (zfrom T e) e d).log.length = 1 := by rw [lOne, a4, h0]; rfl
    obtain ⟨_, b2, b3, b4⟩ := wrD_fields first (zfrom T e) (e / 128) (oneD first (zfrom T e) e d) ((T.length + 127) / 128 - e / 128)
    have Bl : B.log = (oneD first (zfrom T e) e d).log ++ (List.range ((T.length + 127) / 128 - e / 128)).map (fun i => (first + ((e / 128 + i : Nat) : Int), secF (zfrom T e) (e / 128 + i))) := by rw [← hB]; exact b4
    have Bf : B.first = d.first := by rw [← hB]; exact b2.trans fOne
    have Bs : B.syncs = [1] ++ [(B.log.length : Int)] := by
      rw [← hB]
      show (wrD first (zfrom T e) (e / 128) (oneD first (zfrom T e) e d) _).syncs ++ [_] = _
      rw [b3, sOne]
      rfl
    have BL : B.log.length = 1 + ((T.length + 127) / 128 - e / 128) := by rw [Bl, List.length_append, l1]; simp
    have regOne : ∀ j, j < s → secF (reg (oneD first (zfrom T e) e d).now first s) j = if e / 128 = j then secF (zfrom T e) j else secF T j := fun j hj => by
      rw [reg_one h first (zfrom T e) e s (by omega) j hj, hTe]
    have oneL := reg_len _ first wOne.now_len s
    have oneGet : ∀ p : Nat, p < e + 8 → (reg (oneD first (zfrom T e) e d).now first s)[p]? = (zfrom T e)[p]? := fun p hp => by
      rw [sec_at, sec_at (zfrom T e), regOne (p / 128) (by omega)]
      by_cases q : e / 128 = p / 128
      · rw [if_pos q]
      · rw [if_neg q, zfrom_sec T e (p / 128) (by omega) he]
    have oneT : (reg (oneD first (zfrom T e) e d).now first s).take (e + 4) = (zfrom T e).take (e + 4) := by
      apply List.ext_getElem?
      intro p
      rw [List.getElem?_take, List.getElem?_take]
      split
      · exact oneGet p (by omega)
      · rfl
    have tkE : ∀ l : List Int, l.length = T.length → l.take (e + 4) = (zfrom T e).take (e + 4) → readF crc k l = rs := by
      intro l hl hl4
      refine fin l hl ?_ (.inl ?_)
      · have := congrArg (List.take e) hl4
        rw [List.take_take, List.take_take, Nat.min_eq_left (by omega)] at this
        rw [this, zt]
      · rw [List.take_drop, hl4, ← List.take_drop]
        exact zz
    rcases (by omega : n = 0 ∨ n = 1 ∨ 2 ≤ n) with rfl | rfl | h2
    · have e0 : (leftD B (safeAt B.syncs 0 B.syncs.length) 0 keep).now = d.now := by
        show leftM B.first B.log (safeAt B.syncs 0 B.syncs.length) keep 0 = d.now
        rw [h.now, h0, Bf]
        rfl
      rw [e0, hTe]
      exact fin T rfl rfl (.inr rfl)
    · have es : safeAt B.syncs 1 B.syncs.length = 0 := by
        rw [Bs, safeAt_snoc, if_neg (by rw [BL]; omega)]
        rfl
      rw [es]
      have := one_left h first (zfrom T e) (e / 128) ((List.range ((T.length + 127) / 128 - e / 128)).map (fun i => (first + ((e / 128 + i : Nat) : Int), secF (zfrom T e) (e / 128 + i)))) B Bf (by rw [Bl, lOne]) keep
      rw [h0] at this
      rcases this with q | q
      · rw [show (leftD B 0 1 keep).now = d.now from q, hTe]
        exact fin T rfl rfl (.inr rfl)
      · rw [show (leftD B 0 1 keep).now = _ from q, ← nOne]
        exact tkE _ (by rw [oneL, hT]) oneT
    · have es : safeAt B.syncs n B.syncs.length = 1 := by
        rw [Bs, safeAt_snoc, if_neg (by rw [BL]; omega)]
        show (if (1 : Int) < (n : Int) then _ else _) = 1
        rw [if_pos (by omega)]
        rfl
      rw [es]
      have hm := batch_mix wOne hBw first (zfrom T e) (e / 128) ((T.length + 127) / 128 - e / 128) s n keep (by omega) (by omega) [] (Bf.trans fOne.symm) (by rw [List.append_nil, b4]; exact Bl) (by rw [l1]; omega) (by rw [l1]; omega)
      rw [l1] at hm
      exact tkE _ (by rw [hm.1, oneL, hT]) ((hm.take _ oneT).trans oneT)
  · have eE : e = T.length := by omega
    have Bl : B.log = [] := by
      rw [← hB]
      obtain ⟨_, _, _, b4⟩ := wrD_fields first (zfrom T e) (e / 128) (oneD first (zfrom T e) e d) ((T.length + 127) / 128 - e / 128)
      show (wrD first (zfrom T e) (e / 128) (oneD first (zfrom T e) e d) ((T.length + 127) / 128 - e / 128)).log = []
      rw [b4, show (T.length + 127) / 128 - e / 128 = 0 by omega]
      unfold oneD
      rw [if_neg (by omega), h0]
      rfl
    have Bf : B.first = d.first := by
      rw [← hB]
      obtain ⟨_, b2, _, _⟩ := wrD_fields first (zfrom T e) (e / 128) (oneD first (zfrom T e) e d) ((T.length + 127) / 128 - e / 128)
      refine b2.trans ?_
      unfold oneD
      rw [if_neg (by omega)]
    rw [Bl] at hn
    obtain rfl : n = 0 := by simpa using hn
    have e0 : (leftD B (safeAt B.syncs 0 B.syncs.length) 0 keep).now = d.now := by
      show leftM B.first B.log (safeAt B.syncs 0 B.syncs.length) keep 0 = d.now
      rw [h.now, h0, Bf]
      rfl
    rw [e0, hTe]
    exact fin T rfl rfl (.inr rfl)
end
end Dk
end Go.Proofs.YtcjhligknhpadaaDoor

namespace Go.Proofs.YtcjhligknhpadaaDoor
open Go.RowKit Go.Proofs.YtcjhligknhpadaaDoor.Wp
set_option linter.unusedVariables false
set_option linter.unusedSimpArgs false
namespace Dk

theorem zcut_take (img : List Int) (a n : Nat) (h : n ≤ a + 8) (ha : a + 8 ≤ img.length) : (zcut img a).take n = (zfrom img a).take n := by
  apply List.ext_getElem?
  intro p
  rw [List.getElem?_take, List.getElem?_take]
  split
  · rename_i hp
    rw [zcut_get img a p ha]
    unfold zfrom
    by_cases h1 : p < a
    · rw [if_neg (by omega), List.getElem?_append_left (by rw [List.length_take]; omega), List.getElem?_take, if_pos h1]
    · rw [if_pos (by omega), List.getElem?_append_right (by rw [List.length_take]; omega), List.length_take, Nat.min_eq_left (by omega)]
      unfold zer
      rw [List.getElem?_replicate, if_pos (by omega)]
  · rfl
/-- power goes within a flush: what was flushed stands there, and noughts behind it, or all -/
theorem flush_cut {d : Dsk} (h : Wf d) (hy : Synced d) (first : Int) (img : List Int) (a b s n : Nat) (keep : List Bool) (hi : img.length = s * 128) (hab : a < b) (hb : b ≤ img.length) (h8 : a % 8 = 0) (h88 : a + 8 ≤ b) (hr : reg d.now first s = zfrom img a) (hz : zfrom img b = img)
    (hn0 : d.log.length < n) (hn : n ≤ (flushD first img a b d).log.length) (l : List Int) (hl : l = reg (leftD (flushD first img a b d) (safeAt (flushD first img a b d).syncs n (flushD first img a b d).syncs.length) n keep).now first s) :
    l.length = s * 128 ∧ ((l.take (a + 4) = (zfrom img a).take (a + 4)) ∨ l = img) := by
  subst hl
  have hfl := reg_flush h first img a b s hi hab hb h8 h88 hr hz
  have hc := zcut_len img a (by omega)
  have w1 := h.batch first (zcut img a) a b
  have w2 := w1.one first img a
  have eF : flushD first img a b d = oneD first img a (batchD first (zcut img a) a b d) := by unfold flushD; rw [if_pos hab]
  have eO : oneD first img a (batchD first (zcut img a) a b d) = batchD first img a (a + 1) (batchD first (zcut img a) a b d) := by unfold oneD; rw [if_pos (by omega)]
  obtain ⟨_, c2, c3, c4⟩ := wrD_fields first (zcut img a) (a / 128) d ((b + 127) / 128 - a / 128)
  obtain ⟨_, a2, a3, a4⟩ := wrD_fields first img (a / 128) (batchD first (zcut img a) a b d) 1
  have l1 : (batchD first (zcut img a) a b d).log = d.log ++ (List.range ((b + 127) / 128 - a / 128)).map (fun i => (first + ((a / 128 + i : Nat) : Int), secF (zcut img a) (a / 128 + i))) := c4
  have L1 : (batchD first (zcut img a) a b d).log.length = d.log.length + ((b + 127) / 128 - a / 128) := by rw [l1, List.length_append]; simp
  have s1 : (batchD first (zcut img a) a b d).syncs = d.syncs ++ [((batchD first (zcut img a) a b d).log.length : Int)] := by
    show (wrD first (zcut img a) (a / 128) d _).syncs ++ [_] = _
    rw [c3]; rfl
  have f1 : (batchD first (zcut img a) a b d).first = d.first := c2
  generalize hd1 : batchD first (zcut img a) a b d = d1 at *
  generalize hB : flushD first img a b d = B at *
  have Bl : B.log = (wrD first img (a / 128) d1 1).log := by rw [eF, eO]; unfold batchD; rw [one_batch]; rfl
  have Bn : B.now = (wrD first img (a / 128) d1 1).now := by rw [eF, eO]; unfold batchD; rw [one_batch]; rfl
  have BL : B.log.length = d1.log.length + 1 := by rw [Bl, a4, List.length_append]; simp
  have Bs : B.syncs = d1.syncs ++ [(B.log.length : Int)] := by
    rw [Bl, eF, eO]; unfold batchD; rw [one_batch]
    show (wrD first img (a / 128) d1 1).syncs ++ [_] = _
    rw [a3]
  have Bf : B.first = d1.first := by rw [eF, eO]; unfold batchD; rw [one_batch]; exact a2
  have Bw : Wf B := by rw [eF]; exact w2
  have tz : (zcut img a).take (a + 4) = (zfrom img a).take (a + 4) := zcut_take img a (a + 4) (by omega) (by omega)
  by_cases hnn : n ≤ d1.log.length
  · have es : safeAt B.syncs n B.syncs.length = d.log.length := by
      rw [Bs, safeAt_snoc, if_neg (by rw [BL]; omega), s1, safeAt_snoc, if_neg (by omega), safeAt_last _ _ _ hy (by omega)]
      rfl
    rw [es]
    have hm := batch_mix h Bw first (zcut img a) (a / 128) ((b + 127) / 128 - a / 128) s n keep (by omega) (by omega) [(first + ((a / 128 + 0 : Nat) : Int), secF img (a / 128 + 0))] (Bf.trans f1) (by rw [c4, Bl, a4, l1]; rfl) (by omega) (by omega)
    rw [hr] at hm
    refine ⟨by rw [hm.1, zfrom_len _ _ (by omega), hi], .inl ?_⟩
    exact hm.take (a + 4) tz.symm
  · obtain rfl : n = d1.log.length + 1 := by omega
    have es : safeAt B.syncs (d1.log.length + 1) B.syncs.length = d1.log.length := by
      rw [Bs, safeAt_snoc, if_neg (by rw [BL]; omega), s1, safeAt_snoc, if_pos (by omega)]
      rfl
    rw [es]
    have lw := Bw.left d1.log.length (d1.log.length + 1) keep (by omega)
    refine ⟨reg_len _ _ lw.now_len s, ?_⟩
    rcases one_left w1 first img (a / 128) [] B Bf (by rw [List.append_nil]; exact Bl) keep with q | q
    · left
      rw [show (leftD B d1.log.length (d1.log.length + 1) keep).now = d1.now from q]
      apply List.ext_getElem?
      intro p
      rw [List.getElem?_take, List.getElem?_take]
      split
      · rename_i hp
        have hrb := reg_batch h first (zcut img a) a b s (by omega) (by omega) (p / 128) (by omega)
        rw [hd1] at hrb
        rw [sec_at, hrb]
        have hg : (zcut img a)[p]? = (zfrom img a)[p]? := by
          have := congrArg (fun x : List Int => x[p]?) tz
          simpa only [List.getElem?_take, if_pos hp] using this
        split
        · rw [← sec_at, hg]
        · rw [hr, ← sec_at]
      · rfl
    · right
      rw [show (leftD B d1.log.length (d1.log.length + 1) keep).now = _ from q, ← Bn]
      exact hfl
/-- power goes within a format: what stood there, or nothing -/
theorem format_cut {d : Dsk} (h : Wf d) (hy : Synced d) (first : Int) (s n : Nat) (keep : List Bool) (hs : 0 < s) (hn0 : d.log.length < n) (hn : n ≤ (blankD first (zer (s * 128)) 0 d).log.length) (l : List Int) (hl : l = reg (leftD (blankD first (zer (s * 128)) 0 d) (safeAt (blankD first (zer (s * 128)) 0 d).syncs n (blankD first (zer (s * 128)) 0 d).syncs.length) n keep).now first s) :
    l.length = s * 128 ∧ (l = reg d.now first s ∨ isZ (l.take 4) = true) := by
  subst hl
  have hzz : zfrom (zer (s * 128)) 0 = zer (s * 128) := by unfold zfrom; simp [zer]
  have hzl := zer_len (s * 128)
  have w1 := h.one first (zer (s * 128)) 0
  have w2 := h.blank first (zer (s * 128)) 0
  have eO : oneD first (zer (s * 128)) 0 d = batchD first (zer (s * 128)) 0 (0 + 1) d := by unfold oneD; rw [if_pos (by omega)]
  have eB : blankD first (zer (s * 128)) 0 d = batchD first (zer (s * 128)) 0 (s * 128) (oneD first (zer (s * 128)) 0 d) := by unfold blankD; rw [hzz, hzl]
  obtain ⟨_, a2, a3, a4⟩ := wrD_fields first (zer (s * 128)) 0 d 1
  have ob : oneD first (zer (s * 128)) 0 d = syncD (wrD first (zer (s * 128)) 0 d 1) := eO
  have l1 : (oneD first (zer (s * 128)) 0 d).log = (wrD first (zer (s * 128)) 0 d 1).log := by rw [ob]; rfl
  have n1 : (oneD first (zer (s * 128)) 0 d).now = (wrD first (zer (s * 128)) 0 d 1).now := by rw [ob]; rfl
  have f1 : (oneD first (zer (s * 128)) 0 d).first = d.first := by rw [ob]; exact a2
  have L1 : (oneD first (zer (s * 128)) 0 d).log.length = d.log.length + 1 := by rw [l1, a4, List.length_append]; simp
  have s1 : (oneD first (zer (s * 128)) 0 d).syncs = d.syncs ++ [((oneD first (zer (s * 128)) 0 d).log.length : Int)] := by
    rw [L1, ob]
    show (wrD first (zer (s * 128)) 0 d 1).syncs ++ [_] = _
    rw [a3, a4, List.length_append]; simp
  have r1 := fun j hj => reg_one h first (zer (s * 128)) 0 s hzl j hj
  generalize hd1 : oneD first (zer (s * 128)) 0 d = d1 at *
  obtain ⟨_, b2, b3, b4⟩ := wrD_fields first (zer (s * 128)) (0 / 128) d1 ((s * 128 + 127) / 128 - 0 / 128)
  generalize hB : blankD first (zer (s * 128)) 0 d = B at *
  have Bl : B.log = (wrD first (zer (s * 128)) (0 / 128) d1 ((s * 128 + 127) / 128 - 0 / 128)).log := by rw [eB]; rfl
  have Bs : B.syncs = d1.syncs ++ [(B.log.length : Int)] := by
    rw [Bl, eB]
    show (wrD first (zer (s * 128)) (0 / 128) d1 _).syncs ++ [_] = _
    rw [b3]
  have Bf : B.first = d1.first := by rw [eB]; exact b2
  have BL : B.log.length = d1.log.length + ((s * 128 + 127) / 128 - 0 / 128) := by rw [Bl, b4, List.length_append]; simp
  have z1 : secF (reg d1.now first s) 0 = secF (zer (s * 128)) 0 := by rw [r1 0 hs, if_pos rfl]
  have zt : (reg d1.now first s).take 4 = (zer (s * 128)).take 4 := by
    have e : ∀ x : List Int, x.take 4 = (secF x 0).take 4 := fun x => by unfold secF; simp [List.take_take]
    rw [e, z1, ← e]
  have zz : isZ ((zer (s * 128)).take 4) = true := by unfold zer; rw [List.take_replicate]; exact isZ_zer _
  have hy1 : d1.syncs.getLast? = some ((d1.log.length : Int)) := by rw [s1]; simp
  by_cases hnn : n = d1.log.length
  · subst hnn
    have es : safeAt B.syncs d1.log.length B.syncs.length = d.log.length := by
      rw [Bs, safeAt_snoc, if_neg (by rw [BL]; omega), s1, safeAt_snoc, if_neg (by omega), safeAt_last _ _ _ hy (by omega)]
      rfl
    rw [es]
    have lw := w2.left d.log.length d1.log.length keep hn
    refine ⟨reg_len _ _ lw.now_len s, ?_⟩
    rw [L1]
    rcases one_left h first (zer (s * 128)) 0 ((List.range ((s * 128 + 127) / 128 - 0 / 128)).map (fun i => (first + ((0 / 128 + i : Nat) : Int), secF (zer (s * 128)) (0 / 128 + i)))) B (Bf.trans f1) (by rw [Bl, b4, l1]) keep with q | q
    · left; rw [show (leftD B d.log.length (d.log.length + 1) keep).now = d.now from q]
    · right
      rw [show (leftD B d.log.length (d.log.length + 1) keep).now = _ from q, ← n1, zt]
      exact zz
  · have es : safeAt B.syncs n B.syncs.length = d1.log.length := by
      rw [Bs, safeAt_snoc, if_neg (by omega), safeAt_last _ _ _ hy1 (by omega)]
      rfl
    rw [es]
    have hm := batch_mix w1 w2 first (zer (s * 128)) (0 / 128) ((s * 128 + 127) / 128 - 0 / 128) s n keep hzl (by omega) [] Bf (by rw [List.append_nil]; exact Bl) (by omega) (by omega)
    refine ⟨by rw [hm.1]; exact reg_len _ _ w1.now_len s, .inr ?_⟩
    rw [hm.take 4 zt, zt]
    exact zz
end Dk
end Go.Proofs.YtcjhligknhpadaaDoor

namespace Go.Proofs.YtcjhligknhpadaaDoor
open Go.RowKit Go.Proofs.YtcjhligknhpadaaDoor.Wp Go.Proofs.YtcjhligknhpadaaDoorW.PrintWords Go.Proofs.YtcjhligknhpadaaDoorW.PrintLast
set_option linter.unusedVariables false
set_option linter.unusedSimpArgs false
namespace Dk

/-- one more block of bytes that disks' rows stand apart from -/
@[instance_reducible]
def Av.with (av : Av) (I : Nat) : Av := ⟨fun g => av.bad g ∨ g = I⟩
structure Lg where
  first : Nat
  S : Nat
  recs : List (List Int)
  flushed : Nat
  fin : Nat
  img : List Int
  dirty : Nat
/-- rows of bytes -/
def RowsAt [av : Av] (base : Nat) (w : World) (rv : Value) (rs : List (List Int)) : Prop :=
  ∃ vs : List Value, vs.length = rs.length ∧ (∀ p ∈ rs.zip vs, Byts w p.2 p.1) ∧ w.ownsRow base 22 1 rv rs.length vs
def lgCells (D I : Nat) (rv : Value) (l : Lg) : Array Value := #[.pointer (some ⟨D, 0, none⟩), .int .i64 l.first, .int .i64 l.S, rv, .int .i64 l.flushed, .int .i64 l.fin, .slice (some ⟨I, 0, none⟩) (l.S * 128) (l.S * 128), .int .i64 l.dirty]
structure LgAt [av : Av] (base : Nat) (w : World) (P D I : Nat) (rv : Value) (l : Lg) : Prop where
  bP : base ≤ P
  bI : base ≤ I
  bad : av.bad I
  hP : w.heap[P]? = some (.cells (lgCells D I rv l) 66 (0, 0))
  hI : w.heap[I]? = some (.cells (l.img.map (Value.int .u8)).toArray 5 (0, 0))
  by_ : IsBy l.img
  len : l.img.length = l.S * 128
  s1 : 1 ≤ l.S
  s2 : l.S ≤ 1024
  hR : RowsAt base w rv l.recs
def IsLg [av : Av] (base : Nat) (w : World) (P D : Nat) (l : Lg) : Prop := ∃ I rv, LgAt base w P D I rv l
theorem RowsAt.move [av : Av] {base : Nat} {w w' : World} {rv : Value} {rs : List (List Int)} (h : RowsAt base w rv rs) (hp : ∀ (k : Nat) (cur : Array Value), (w.heap[k]? = some (.cells cur 22 (0, 0)) → w'.heap[k]? = some (.cells cur 22 (0, 0))) ∧ (¬ av.bad k → w.heap[k]? = some (.cells cur 5 (0, 0)) → w'.heap[k]? = some (.cells cur 5 (0, 0)))) : RowsAt base w' rv rs := by
  obtain ⟨vs, h1, h2, h3⟩ := h
  exact ⟨vs, h1, fun p hp2 => ⟨(h2 p hp2).1, own_move (h2 p hp2).2 fun g cur hg hh => (hp g cur).2 ((h2 p hp2).1.2 g hg) hh⟩, own_move h3 fun g cur _ hh => (hp g cur).1 hh⟩
theorem LgAt.chg [av : Av] {base B : Nat} {w w' : World} {P D I : Nat} {rv : Value} {l : Lg} (h : LgAt base w P D I rv l) (hc : Chg B DK w w') : LgAt base w' P D I rv l :=
  ⟨h.bP, h.bI, h.bad, hc.keep P _ h.hP rfl, hc.keep I _ h.hI rfl, h.by_, h.len, h.s1, h.s2, h.hR.move fun k cur => ⟨fun hh => hc.keep k _ hh rfl, fun _ hh => hc.keep k _ hh rfl⟩⟩
theorem LgAt.below [av : Av] {base : Nat} {w w' : World} {P D I : Nat} {rv : Value} {l : Lg} (h : LgAt base w P D I rv l) (hc : Below w.heap.size w w') : LgAt base w' P D I rv l :=
  ⟨h.bP, h.bI, h.bad, (hc.block P (lt_of_heap h.hP)).trans h.hP, (hc.block I (lt_of_heap h.hI)).trans h.hI, h.by_, h.len, h.s1, h.s2, h.hR.move fun k cur => ⟨fun hh => (hc.block k (lt_of_heap hh)).trans hh, fun _ hh => (hc.block k (lt_of_heap hh)).trans hh⟩⟩
theorem IsLg.below [av : Av] {base : Nat} {w w' : World} {P D : Nat} {l : Lg} (h : IsLg base w P D l) (hc : Below w.heap.size w w') : IsLg base w' P D l := by
  obtain ⟨I, rv, h⟩ := h
  exact ⟨I, rv, h.below hc⟩
theorem LgAt.cells [av : Av] {base : Nat} {w : World} {P D I : Nat} {rv : Value} {l : Lg} (h : LgAt base w P D I rv l) :
    w.cell? ⟨P, 0, none⟩ = some (.pointer (some ⟨D, 0, none⟩)) ∧ w.cell? ⟨P, 1, none⟩ = some (.int .i64 l.first) ∧ w.cell? ⟨P, 2, none⟩ = some (.int .i64 l.S) ∧ w.cell? ⟨P, 3, none⟩ = some rv ∧ w.cell? ⟨P, 4, none⟩ = some (.int .i64 l.flushed) ∧ w.cell? ⟨P, 5, none⟩ = some (.int .i64 l.fin) ∧ w.cell? ⟨P, 6, none⟩ = some (.slice (some ⟨I, 0, none⟩) (l.S * 128) (l.S * 128)) ∧ w.cell? ⟨P, 7, none⟩ = some (.int .i64 l.dirty) := by
  refine ⟨?_, ?_, ?_, ?_, ?_, ?_, ?_, ?_⟩ <;> exact cell_of h.hP rfl
theorem LgAt.byte [av : Av] {base : Nat} {w : World} {P D I : Nat} {rv : Value} {l : Lg} (h : LgAt base w P D I rv l) {i : Nat} (hi : i < l.S * 128) : w.cell? ⟨I, i, none⟩ = some (.int .u8 (l.img.getD i 0)) := by
  refine cell_of h.hI ?_
  have hl := h.len
  simp [List.getD_eq_getElem?_getD, List.getElem?_eq_getElem (show i < l.img.length by omega)]
theorem add_in {I p k : Nat} (h : k ≠ 0 ∨ p = p) : (⟨I, p, none⟩ : Addr).add k = ⟨I, p + k, none⟩ := by
  unfold Addr.add
  split <;> simp_all
theorem add_00 (I k : Nat) : (⟨I, 0, none⟩ : Addr).add k = ⟨I, k, none⟩ := by rw [add_in (.inr rfl), Nat.zero_add]
theorem padded_any (n : Nat) (w : World) (hn : n ≤ 1000000) : Calls Tryd.prog 34 #[.int .i64 n] w fun e w' => e = .returned (.int .i64 (pad n)) ∧ w = w' := by
  go_enter Tryd.func34, Tryd.ntmps34
  go_wp2
  go_ret
  refine ⟨?_, rfl⟩
  have e : ((n : Int) + 8 - 1) / 8 * 8 = (pad n : Nat) := by unfold pad; omega
  rw [e]
  rfl
theorem sector_any [av : Av] (base : Nat) (w : World) (P D I : Nat) (rv : Value) (l : Lg) (i : Nat) (h : LgAt base w P D I rv l) (hi : i < l.S) : Calls Tryd.prog 31 #[.pointer (some ⟨P, 0, none⟩), .int .i64 i] w fun e w' => e = .returned (.slice (some ⟨I, i * 128, none⟩) 128 (l.S * 128 - i * 128)) ∧ w = w' := by
  obtain ⟨_, _, _, _, _, _, c6, _⟩ := h.cells
  have hS := h.s2
  clear h
  generalize l.S = S at *
  go_enter Tryd.func31, Tryd.ntmps31
  go_wp2
  go_ret
  refine ⟨?_, rfl⟩
  have e : (i + 1) * 128 - i * 128 = 128 := by omega
  rw [e]
  rfl
/-- the empty log of a disk -/
def Lg.new (first S : Nat) : Lg := ⟨first, S, [], 0, 0, zer (S * 128), 0⟩
theorem begin_nil (x y : Int) (w : World) : Calls Tryd.prog 28 #[.pointer none, .int .i64 x, .int .i64 y] w fun e w' => e = .returned (.tuple #[.pointer none, .int .i64 1]) ∧ w = w' := by
  go_enter Tryd.func28, Tryd.ntmps28
  go_wp2_with fail
  go_ret2
  exact ⟨rfl, rfl⟩
theorem begin_arg (D : Nat) (x y : Int) (w : World) (h : x < 0 ∨ y < 1 ∨ 1024 < y) : Calls Tryd.prog 28 #[.pointer (some ⟨D, 0, none⟩), .int .i64 x, .int .i64 y] w fun e w' => e = .returned (.tuple #[.pointer none, .int .i64 1]) ∧ w = w' := by
  rcases (by omega : (x < 0 ∧ (y < 1 ∨ ¬ y < 1)) ∨ (¬ x < 0 ∧ y < 1) ∨ (¬ x < 0 ∧ ¬ y < 1 ∧ 1024 < y)) with ⟨h0, h1⟩ | ⟨h0, h1⟩ | ⟨h0, h1, h2⟩
  · have t0 : decide (x < 0) = true := decide_eq_true h0
    clear h h1
    go_enter Tryd.func28, Tryd.ntmps28
    go_wp2_with fail
    go_ret2
    exact ⟨rfl, rfl⟩
  · have t0 : decide (x < 0) = false := decide_eq_false h0
    have t1 : decide (y < 1) = true := decide_eq_true h1
    clear h
    go_enter Tryd.func28, Tryd.ntmps28
    go_wp2_with fail
    go_ret2
    exact ⟨rfl, rfl⟩
  · have t0 : decide (x < 0) = false := decide_eq_false h0
    have t1 : decide (y < 1) = false := decide_eq_false h1
    have t2 : decide (1024 < y) = true := decide_eq_true h2
    clear h
    go_enter Tryd.func28, Tryd.ntmps28
    go_wp2_with fail
    go_ret2
    exact ⟨rfl, rfl⟩
theorem begin_disk [av : Av] (base D : Nat) (d : Dsk) (x y : Int) (w : World) (h : IsDk base w D d) (hN : 1 ≤ d.N ∧ d.N ≤ 4096) (h0 : 0 ≤ x) (h1 : 1 ≤ y) (h2 : y ≤ 1024) (h3 : d.N - y < x) : Calls Tryd.prog 28 #[.pointer (some ⟨D, 0, none⟩), .int .i64 x, .int .i64 y] w fun e w' => e = .returned (.tuple #[.pointer none, .int .i64 64]) ∧ w = w' := by
  have HS := Lib.hid (show Calls Tryd.prog 18 #[.pointer (some ⟨D, 0, none⟩)] w fun e w' => e = .returned (.int .i64 d.N) ∧ w = w' from by
    obtain ⟨F, M, lv, sv, hd⟩ := h
    exact size_any D d.N w hd.cells.1)
  have t0 : decide (x < 0) = false := decide_eq_false (by omega)
  have t1 : decide (y < 1) = false := decide_eq_false (by omega)
  have t2 : decide (1024 < y) = false := decide_eq_false (by omega)
  have t3 : decide (d.N - y < x) = true := decide_eq_true h3
  clear h
  generalize d.N = Nd at *
  go_enter Tryd.func28, Tryd.ntmps28
  go_wp2_with (go_at_call 18; refine HS.out.mono ?_; rintro e w' ⟨rfl, rfl⟩)
  go_ret2
  exact ⟨rfl, rfl⟩
theorem zer_map (m : Nat) : (zer m).map (Value.int .u8) = List.replicate m (Value.int .u8 0) := by
  unfold zer
  rw [List.map_replicate]
theorem make_n (m : Nat) (hm : m ≤ 1000000) (W : World) : (Instr.makeSlice 22 (.int .i64 m) (.int .i64 m)).run Tryd.prog W = .ok (.slice (some ⟨W.heap.size, 0, none⟩) m m) (W.alloc (.cells ((zer m).map (Value.int .u8)).toArray 5)) := by
  obtain ⟨i, hi, hz, hs, hb⟩ : ∃ i, Tryd.prog.info? 5 = some i ∧ i.zero = some (.int .u8 0) ∧ i.size = 1 ∧ i.bytes = 1 := by
    have q := info_u8
    cases hi : Tryd.prog.info? 5 with
    | none => rw [hi] at q; cases q
    | some i =>
      rw [hi] at q
      simp only [Option.map_some, Option.some.injEq, Prod.mk.injEq] at q
      exact ⟨i, rfl, q.1, q.2.1, q.2.2⟩
  have h := run_make (P := Tryd.prog) W 22 5 i (.int .u8 0) Tryd.underlying22 hi hz .i64 .i64 m m (by omega) (by omega) (by rw [hb]; omega) (by omega)
  rw [h, hs]
  have e : madeCells (Value.int .u8 0).cells ((m : Int).toNat * 1) = ((zer m).map (Value.int .u8)).toArray := by
    rw [zer_map]
    apply Array.ext
    · simp [size_madeCells]
    · intro k h1 h2
      simp [madeCells, Value.cells, Nat.mod_one]
  rw [e]
  rfl
set_option maxRecDepth 100000 in
theorem begin_raw (D : Nat) (Nd : Int) (x y : Nat) (w : World) (hc : w.cell? ⟨D, 0, none⟩ = some (.int .i64 Nd)) (hN : 1 ≤ Nd ∧ Nd ≤ 4096) (h1 : 1 ≤ y) (h2 : y ≤ 1024) (h3 : (x : Int) ≤ Nd - y) : Calls Tryd.prog 28 #[.pointer (some ⟨D, 0, none⟩), .int .i64 x, .int .i64 y] w fun e w' => e = .returned (.tuple #[.pointer (some ⟨w.heap.size + 1, 0, none⟩), .int .i64 0]) ∧ w' = (w.alloc (.cells ((zer (y * 128)).map (Value.int .u8)).toArray 5)).alloc (.cells #[.pointer (some ⟨D, 0, none⟩), .int .i64 x, .int .i64 y, .slice none 0 0, .int .i64 0, .int .i64 0, .slice (some ⟨w.heap.size, 0, none⟩) (y * 128) (y * 128), .int .i64 0] 66) := by
  have HS := Lib.hid (size_any D Nd w hc)
  have t0 : decide (0 ≤ (x : Int)) = true := decide_eq_true (by omega)
  have t1 : decide ((y : Int) < 1) = false := decide_eq_false (by omega)
  have t2 : decide (1024 < (y : Int)) = false := decide_eq_false (by omega)
  have t3 : decide (Nd - y < (x : Int)) = false := decide_eq_false (by omega)
  have hmk : ∀ W, (Instr.makeSlice 22 (.int .i64 ((y : Int) * 128)) (.int .i64 ((y : Int) * 128))).run Tryd.prog W = .ok (.slice (some ⟨W.heap.size, 0, none⟩) (y * 128) (y * 128)) (W.alloc (.cells ((zer (y * 128)).map (Value.int .u8)).toArray 5)) := fun W => make_n (y * 128) (by omega) W
  go_enter Tryd.func28, Tryd.ntmps28
  go_wp2_with (go_at_call 18; refine HS.out.mono ?_; rintro e w' ⟨rfl, rfl⟩)
  go_ret2
  exact ⟨rfl, rfl⟩
theorem IsDk.with [av : Av] {base : Nat} {w : World} {D : Nat} {d : Dsk} (h : IsDk base w D d) (I : Nat) (hI : w.heap.size ≤ I) : IsDk (av := av.with I) base w D d := by
  have byt : ∀ v l, Byts w v l → Byts (av := av.with I) w v l := fun v l h => ⟨⟨h.1.1, fun g hg => by
    rintro (q | rfl)
    · exact h.1.2 g hg q
    · obtain ⟨cur, hc⟩ := (own_kind h.2 hg).2
      have := lt_of_heap hc
      omega⟩, h.2⟩
  obtain ⟨F, M, lv, sv, hd⟩ := h
  obtain ⟨vs, l1, l2, l3⟩ := hd.hL
  have mp : ∀ M m, MapB w M m → MapB (av := av.with I) w M m := fun M m ⟨es, c, h1, h2, h3⟩ => ⟨es, c, h1, h2, fun q => byt _ _ (h3 q)⟩
  exact ⟨F, M, lv, sv, @DkAt.mk (av.with I) _ _ _ _ _ _ _ _ hd.bD hd.bF hd.bM hd.ne hd.hD (mp _ _ hd.hF) (mp _ _ hd.hM) ⟨vs, l1, fun p hp => byt _ _ (l2 p hp), l3⟩ hd.hS⟩
theorem begin_any [av : Av] (base D : Nat) (d : Dsk) (x y : Nat) (w : World) (h : IsDk base w D d) (hb : base ≤ w.heap.size) (hN : 1 ≤ d.N ∧ d.N ≤ 4096) (h1 : 1 ≤ y) (h2 : y ≤ 1024) (h3 : (x : Int) ≤ d.N - y) : Calls Tryd.prog 28 #[.pointer (some ⟨D, 0, none⟩), .int .i64 x, .int .i64 y] w fun e w' => e = .returned (.tuple #[.pointer (some ⟨w.heap.size + 1, 0, none⟩), .int .i64 0]) ∧ LgAt (av := av.with w.heap.size) base w' (w.heap.size + 1) D w.heap.size (.slice none 0 0) (Lg.new x y) ∧ IsDk (av := av.with w.heap.size) base w' D d ∧ Below w.heap.size w w' ∧ w'.heap.size = w.heap.size + 2 := by
  have hw := h.with w.heap.size (Nat.le_refl _)
  obtain ⟨F, M, lv, sv, hd⟩ := h
  refine (begin_raw D d.N x y w hd.cells.1 hN h1 h2 h3).mono ?_
  rintro e w' ⟨rfl, rfl⟩
  have hbl : Below w.heap.size w _ := ((Below.refl w.heap.size w).alloc (Nat.le_refl _) (.cells ((zer (y * 128)).map (Value.int .u8)).toArray 5)).alloc (by simp) (.cells #[.pointer (some ⟨D, 0, none⟩), .int .i64 x, .int .i64 y, .slice none 0 0, .int .i64 0, .int .i64 0, .slice (some ⟨w.heap.size, 0, none⟩) (y * 128) (y * 128), .int .i64 0] 66)
  refine ⟨rfl, @LgAt.mk (av.with w.heap.size) _ _ _ _ _ _ _ (by omega) hb (Or.inr rfl) ?_ ?_ ?_ (zer_len _) h1 h2 ⟨[], rfl, (by intro p hp; simp [Lg.new] at hp), World.ownsRow_nil _ _ _ _⟩, IsDk.below (av := av.with w.heap.size) hw hbl, hbl, by simp⟩
  · have q := World.alloc_heap_new (w.alloc (.cells ((zer (y * 128)).map (Value.int .u8)).toArray 5)) (.cells #[.pointer (some ⟨D, 0, none⟩), .int .i64 x, .int .i64 y, .slice none 0 0, .int .i64 0, .int .i64 0, .slice (some ⟨w.heap.size, 0, none⟩) (y * 128) (y * 128), .int .i64 0] 66)
    rw [show (w.alloc (.cells ((zer (y * 128)).map (Value.int .u8)).toArray 5)).heap.size = w.heap.size + 1 from Array.size_push _] at q
    exact q
  · have q := World.alloc_heap_new w (.cells ((zer (y * 128)).map (Value.int .u8)).toArray 5)
    exact ((World.grownBy_alloc _ _ none).block w.heap.size (by rw [show (w.alloc (.cells ((zer (y * 128)).map (Value.int .u8)).toArray 5)).heap.size = w.heap.size + 1 from Array.size_push _]; omega) (by simp)).trans q
  · intro c hc
    rw [(List.mem_replicate.1 hc).2]
    omega
end Dk
end Go.Proofs.YtcjhligknhpadaaDoor

namespace Go.Proofs.YtcjhligknhpadaaDoor
open Go.RowKit Go.Proofs.YtcjhligknhpadaaDoor.Wp Go.Proofs.YtcjhligknhpadaaDoorW.PrintWords Go.Proofs.YtcjhligknhpadaaDoorW.PrintLast
set_option linter.unusedVariables false
set_option linter.unusedSimpArgs false
namespace Dk

theorem sec_get (l : List Int) (i j : Nat) (hj : j < 128) : (secF l i).getD j 0 = l.getD (i * 128 + j) 0 := by
  unfold secF
  rw [List.getD_eq_getElem?_getD, List.getElem?_take, if_pos hj, List.getElem?_drop, List.getD_eq_getElem?_getD]
theorem sec_by {l : List Int} (h : IsBy l) (i : Nat) : IsBy (secF l i) := fun c hc => h c (List.mem_of_mem_drop (List.mem_of_mem_take hc))
theorem LgAt.sec [av : Av] {base : Nat} {w : World} {P D I : Nat} {rv : Value} {l : Lg} (h : LgAt base w P D I rv l) {i : Nat} (hi : i < l.S) : ∀ j, j < 128 → ∃ a, some (⟨I, i * 128, none⟩ : Addr) = some a ∧ w.cell? (a.add j) = some (.int .u8 ((secF l.img i).getD j 0)) := fun j hj =>
  ⟨_, rfl, by rw [add_in (.inr rfl), sec_get _ _ _ hj]; exact h.byte (by omega)⟩
def LWr [av : Av] (base : Nat) (w : World) (D : Nat) (l : Lg) (d : Dsk) (a n : Nat) (i : Value) (wr : World) : Prop :=
  ∃ q k : Nat, q = a / 128 + k ∧ k ≤ n ∧ i = .int .i64 q ∧ IsDk base wr D (wrD l.first l.img (a / 128) d k) ∧ Chg base DK w wr
set_option maxHeartbeats 1000000 in
set_option maxRecDepth 100000 in
theorem write_log [av : Av] (base : Nat) (w : World) (P D I : Nat) (rv : Value) (l : Lg) (d : Dsk) (a b : Nat) (hl : LgAt base w P D I rv l) (hd : IsDk base w D d) (hav : ∀ g, w.heap.size ≤ g → ¬ av.bad g) (hb : b ≤ l.S * 128) (ha : a ≤ 1000000) (hfit : (l.first : Int) + l.S ≤ d.N) (hN : d.N ≤ 4096) (hbw : base ≤ w.heap.size)
    (hn : d.log.length + ((b + 127) / 128 - a / 128) ≤ 1000000) (hs : d.syncs.length ≤ 1000000) :
    Calls Tryd.prog 39 #[.pointer (some ⟨P, 0, none⟩), .int .i64 a, .int .i64 b] w fun e w' => e = .returned (.tuple #[]) ∧ IsDk base w' D (batchD l.first l.img a b d) ∧ Chg base DK w w' := by
  generalize hnn : (b + 127) / 128 - a / 128 = n at hn
  have HNN := Lib.hid hnn
  have HL := Lib.hid hl
  have HD := Lib.hid hd
  have HAV := Lib.hid hav
  have HFIT := Lib.hid hfit
  have HBW := Lib.hid hbw
  have HN := Lib.hid hn
  have HS := Lib.hid hs
  have hs2 := hl.s2
  clear hl hd hav hfit hbw hn hs hnn
  go_enter Tryd.func39, Tryd.ntmps39
  go_wp2_with fail
  go_loopw [6] (fun i wr => LWr base w D l d a n i wr) (fun i _ => 1000001 - (intOf i).toNat)
  case atStart => exact ⟨a / 128, 0, rfl, Nat.zero_le _, rfl, HD.out, Chg.refl _ _ _⟩
  case round =>
    obtain ⟨q, k, hqk, hk, rfl, hdk, hch⟩ := hrel
    have HQ := Lib.hid hqk
    have HDK := Lib.hid hdk
    have HCH := Lib.hid hch
    clear hdk hch
    have hlw := HL.out.chg HCH.out
    obtain ⟨c0, c1, _⟩ := hlw.cells
    have HLW := Lib.hid hlw
    clear hlw
    by_cases hkn : k < n
    · have hq : q * 128 < b := by have := HNN.out; omega
      have t1 : decide ((q : Int) * 128 < (b : Int)) = true := decide_eq_true (by omega)
      have hqS : q < l.S := by omega
      have HSEC := Lib.hid (show ∀ w2, Below wr.heap.size wr w2 → Calls Tryd.prog 31 #[.pointer (some ⟨P, 0, none⟩), .int .i64 q] w2 fun e w' => e = .returned (.slice (some ⟨I, q * 128, none⟩) 128 (l.S * 128 - q * 128)) ∧ w2 = w' from fun w2 hb => sector_any base w2 P D I rv l q (HLW.out.below hb) hqS)
      have HWRI := Lib.hid (show ∀ w2, Below wr.heap.size wr w2 → Calls Tryd.prog 53 #[.pointer (some ⟨D, 0, none⟩), .int .i64 (l.first + q : Int), .slice (some ⟨I, q * 128, none⟩) 128 (l.S * 128 - q * 128)] w2 fun e w' => e = .returned (.int .i64 0) ∧ IsDk base w' D (wrD l.first l.img (a / 128) d (k + 1)) ∧ Chg base DK wr w' from fun w2 hb => by
        have hf := wrD_fields l.first l.img (a / 128) d k
        have h1 := HFIT.out
        have h2 := HN.out
        have h3 := HBW.out
        have h4 := HCH.out.size
        have h5 := hb.size
        have hll : (wrD l.first l.img (a / 128) d k).log.length = d.log.length + k := by rw [hf.2.2.2]; simp
        refine (write_any base w2 D (wrD l.first l.img (a / 128) d k) (l.first + q : Int) _ 128 _ (secF l.img q) (HDK.out.below hb) (by omega) (by omega) (fun g hg => HAV.out g (by omega)) (by omega) (by rw [hf.1]; omega) (sec_len HLW.out.len hqS) (by omega) (sec_by HLW.out.by_ _) ((HLW.out.below hb).sec hqS)).mono ?_
        rintro e w' ⟨q1, q2, q3⟩
        rw [HQ.out] at q2
        exact ⟨q1, q2, (Chg.of_below hb (by omega)).trans q3⟩)
      have e1 : IntKind.i64.wrap ((l.first : Int) + q) = l.first + q := IntWalk.i64_in _ (by have := HFIT.out; omega)
      clear hqk
      go_wp2_with fail
      refine Go.Proofs.YtcjhligknhpadaaDoorW.PrintLast.start_ (n := 14) (S := fun v => v.cell? ⟨P, 0, none⟩ = some (.pointer (some ⟨D, 0, none⟩)) ∧ v.cell? ⟨P, 1, none⟩ = some (.int .i64 l.first)) (ds := [13]) #[false, false, false, false, false, false, false, false, false, false, false, false, false, false] (by kernel_rfl) rfl rfl ⟨c0, c1⟩ (fun hHeld => ?_)
      refine Go.Proofs.YtcjhligknhpadaaDoorW.PrintLast.pure_ (i := 0) (N := some 15) (v := ?_) (a' := ?_) #[true, false, false, false, false, false, false, false, false, false, false, false, false, false] rfl rfl (by kernel_rfl) (fun _ _ _ h => h) (Or.inl ⟨by rfl, ?_⟩) ?_ ?_
      rotate_left
      · intro w'
        go_simp
        with_reducible rfl
      rotate_left
      · simp only [Act.put, List.setIfInBounds_toArray, List.set_cons_zero, List.set_cons_succ, Go.Proofs.YtcjhligknhpadaaDoorW.PrintLast.i64_w, Go.Proofs.YtcjhligknhpadaaDoorW.PrintLast.i32_w]
        rfl
      refine Go.Proofs.YtcjhligknhpadaaDoorW.PrintLast.pure_ (i := 1) (N := some 16) (v := ?_) (a' := ?_) #[true, true, false, false, false, false, false, false, false, false, false, false, false, false] rfl rfl (by kernel_rfl) (fun _ _ _ h => h) (Or.inl ⟨by rfl, ?_⟩) ?_ ?_
      rotate_left
      · intro w'
        go_simp
        with_reducible rfl
      rotate_left
      · simp only [Act.put, List.setIfInBounds_toArray, List.set_cons_zero, List.set_cons_succ, Go.Proofs.YtcjhligknhpadaaDoorW.PrintLast.i64_w, Go.Proofs.YtcjhligknhpadaaDoorW.PrintLast.i32_w]
        rfl
      refine Go.Proofs.YtcjhligknhpadaaDoorW.PrintLast.pure_ (i := 2) (N := some 17) (v := ?_) (a' := ?_) #[true, true, true, false, false, false, false, false, false, false, false, false, false, false] rfl rfl (by kernel_rfl) (fun _ _ _ h => h) (Or.inl ⟨by rfl, ?_⟩) ?_ ?_
      rotate_left
      · intro w'
        go_simp
        with_reducible rfl
      rotate_left
      · simp only [Act.put, List.setIfInBounds_toArray, List.set_cons_zero, List.set_cons_succ, Go.Proofs.YtcjhligknhpadaaDoorW.PrintLast.i64_w, Go.Proofs.YtcjhligknhpadaaDoorW.PrintLast.i32_w]
        rfl
      refine Go.Proofs.YtcjhligknhpadaaDoorW.PrintLast.take_ (i := 3) (N := some 18) (v := ?_) (a' := ?_) #[true, true, true, true, false, false, false, false, false, false, false, false, false, false] rfl rfl (by kernel_rfl) (fun _ _ _ h => h) (Or.inl ⟨by rfl, ?_⟩) hHeld ?_ ?_
      rotate_left
      · rintro w' ⟨s0, s1⟩
        go_simp
        with_reducible rfl
      rotate_left
      · simp only [Act.put, List.setIfInBounds_toArray, List.set_cons_zero, List.set_cons_succ, Go.Proofs.YtcjhligknhpadaaDoorW.PrintLast.i64_w, Go.Proofs.YtcjhligknhpadaaDoorW.PrintLast.i32_w]
        rfl
      refine Go.Proofs.YtcjhligknhpadaaDoorW.PrintLast.pure_ (i := 4) (N := some 19) (v := ?_) (a' := ?_) #[true, true, true, true, true, false, false, false, false, false, false, false, false, false] rfl rfl (by kernel_rfl) (fun _ _ _ h => h) (Or.inl ⟨by rfl, ?_⟩) ?_ ?_
      rotate_left
      · intro w'
        go_simp
        with_reducible rfl
      rotate_left
      · simp only [Act.put, List.setIfInBounds_toArray, List.set_cons_zero, List.set_cons_succ, Go.Proofs.YtcjhligknhpadaaDoorW.PrintLast.i64_w, Go.Proofs.YtcjhligknhpadaaDoorW.PrintLast.i32_w]
        rfl
      refine Go.Proofs.YtcjhligknhpadaaDoorW.PrintLast.pure_ (i := 5) (N := some 20) (v := ?_) (a' := ?_) #[true, true, true, true, true, true, false, false, false, false, false, false, false, false] rfl rfl (by kernel_rfl) (fun _ _ _ h => h) (Or.inl ⟨by rfl, ?_⟩) ?_ ?_
      rotate_left
      · intro w'
        go_simp
        with_reducible rfl
      rotate_left
      · simp only [Act.put, List.setIfInBounds_toArray, List.set_cons_zero, List.set_cons_succ, Go.Proofs.YtcjhligknhpadaaDoorW.PrintLast.i64_w, Go.Proofs.YtcjhligknhpadaaDoorW.PrintLast.i32_w]
        rfl
      refine Go.Proofs.YtcjhligknhpadaaDoorW.PrintLast.pure_ (i := 6) (N := some 21) (v := ?_) (a' := ?_) #[true, true, true, true, true, true, true, false, false, false, false, false, false, false] rfl rfl (by kernel_rfl) (fun _ _ _ h => h) (Or.inl ⟨by rfl, ?_⟩) ?_ ?_
      rotate_left
      · intro w'
        go_simp
        with_reducible rfl
      rotate_left
      · simp only [Act.put, List.setIfInBounds_toArray, List.set_cons_zero, List.set_cons_succ, Go.Proofs.YtcjhligknhpadaaDoorW.PrintLast.i64_w, Go.Proofs.YtcjhligknhpadaaDoorW.PrintLast.i32_w]
        rfl
      refine Go.Proofs.YtcjhligknhpadaaDoorW.PrintLast.take_ (i := 7) (N := some 22) (v := ?_) (a' := ?_) #[true, true, true, true, true, true, true, true, false, false, false, false, false, false] rfl rfl (by kernel_rfl) (fun _ _ _ h => h) (Or.inl ⟨by rfl, ?_⟩) hHeld ?_ ?_
      rotate_left
      · rintro w' ⟨s0, s1⟩
        go_simp
        with_reducible rfl
      rotate_left
      · simp only [Act.put, List.setIfInBounds_toArray, List.set_cons_zero, List.set_cons_succ, Go.Proofs.YtcjhligknhpadaaDoorW.PrintLast.i64_w, Go.Proofs.YtcjhligknhpadaaDoorW.PrintLast.i32_w]
        rfl
      refine Go.Proofs.YtcjhligknhpadaaDoorW.PrintLast.pure_ (i := 8) (N := some 23) (v := ?_) (a' := ?_) #[true, true, true, true, true, true, true, true, true, false, false, false, false, false] rfl rfl (by kernel_rfl) (fun _ _ _ h => h) (Or.inl ⟨by rfl, ?_⟩) ?_ ?_
      rotate_left
      · intro w'
        go_simp
        with_reducible rfl
      rotate_left
      · simp only [Act.put, List.setIfInBounds_toArray, List.set_cons_zero, List.set_cons_succ, Go.Proofs.YtcjhligknhpadaaDoorW.PrintLast.i64_w, Go.Proofs.YtcjhligknhpadaaDoorW.PrintLast.i32_w]
        rfl
      refine Go.Proofs.YtcjhligknhpadaaDoorW.PrintLast.pure_ (i := 9) (N := some 24) (v := ?_) (a' := ?_) #[true, true, true, true, true, true, true, true, true, true, false, false, false, false] rfl rfl (by kernel_rfl) (fun _ _ _ h => h) (Or.inl ⟨by rfl, ?_⟩) ?_ ?_
      rotate_left
      · intro w'
        go_simp
        with_reducible rfl
      rotate_left
      · simp only [Act.put, List.setIfInBounds_toArray, List.set_cons_zero, List.set_cons_succ, Go.Proofs.YtcjhligknhpadaaDoorW.PrintLast.i64_w, Go.Proofs.YtcjhligknhpadaaDoorW.PrintLast.i32_w]
        rfl
      refine Go.Proofs.YtcjhligknhpadaaDoorW.PrintLast.pure_ (i := 10) (N := some 25) (v := ?_) (a' := ?_) #[true, true, true, true, true, true, true, true, true, true, true, false, false, false] rfl rfl (by kernel_rfl) (fun _ _ _ h => h) (Or.inl ⟨by rfl, ?_⟩) ?_ ?_
      rotate_left
      · intro w'
        go_simp
        with_reducible rfl
      rotate_left
      · simp only [Act.put, List.setIfInBounds_toArray, List.set_cons_zero, List.set_cons_succ, Go.Proofs.YtcjhligknhpadaaDoorW.PrintLast.i64_w, Go.Proofs.YtcjhligknhpadaaDoorW.PrintLast.i32_w]
        rfl
      refine Go.Proofs.YtcjhligknhpadaaDoorW.PrintLast.pure_ (i := 11) (N := some 26) (v := ?_) (a' := ?_) #[true, true, true, true, true, true, true, true, true, true, true, true, false, false] rfl rfl (by kernel_rfl) (fun _ _ _ h => h) (Or.inl ⟨by rfl, ?_⟩) ?_ ?_
      rotate_left
      · intro w'
        go_simp
        with_reducible rfl
      rotate_left
      · simp only [Act.put, List.setIfInBounds_toArray, List.set_cons_zero, List.set_cons_succ, Go.Proofs.YtcjhligknhpadaaDoorW.PrintLast.i64_w, Go.Proofs.YtcjhligknhpadaaDoorW.PrintLast.i32_w]
        rfl
      refine Go.Proofs.YtcjhligknhpadaaDoorW.PrintLast.one_ (i := 12) (N := some 27) #[true, true, true, true, true, true, true, true, true, true, true, true, true, false] rfl rfl (by kernel_rfl) (by decide) (fun K hK => ?_)
      refine Go.Proofs.YtcjhligknhpadaaDoorW.PrintLast.goes_ Tryd.func31 (by kernel_rfl) rfl #[.pointer (some ⟨P, 0, none⟩), .int .i64 q] (by rfl) rfl rfl (by (try simp only [List.map_toArray, List.map_cons, List.map_nil]); first | done | rfl) ?_
      refine (HSEC.out _ (below_drewN (Below.refl _ _) _)).mono ?_
      rintro e w2 ⟨rfl, rfl⟩
      refine ⟨_, rfl, ?_⟩
      refine hK.out _ _ hHeld (fun hHeld => ?_)
      clear hK K
      refine Go.Proofs.YtcjhligknhpadaaDoorW.PrintLast.norm_ (a' := ?_) ?_ ?_
      rotate_left
      · show Act.put _ (some 27) _ = _
        simp only [Act.put, List.setIfInBounds_toArray, List.set_cons_zero, List.set_cons_succ, Go.Proofs.YtcjhligknhpadaaDoorW.PrintLast.i64_w, Go.Proofs.YtcjhligknhpadaaDoorW.PrintLast.i32_w]
        rfl
      refine Go.Proofs.YtcjhligknhpadaaDoorW.PrintLast.last_ (i := 13) (N := some 28) #[true, true, true, true, true, true, true, true, true, true, true, true, true, true] rfl rfl (by kernel_rfl) (by decide) (fun K hK => ?_)
      refine Go.Proofs.YtcjhligknhpadaaDoorW.PrintLast.goes_ Tryd.func53 (by kernel_rfl) rfl #[.pointer (some ⟨D, 0, none⟩), .int .i64 (l.first + q : Int), .slice (some ⟨I, q * 128, none⟩) 128 (l.S * 128 - q * 128)] (by rfl) rfl rfl (by (try simp only [List.map_toArray, List.map_cons, List.map_nil]); first | done | rfl) ?_
      refine (HWRI.out _ (below_drewN (Below.refl _ _) _)).mono ?_
      rintro e w3 ⟨rfl, hi3, hb3⟩
      refine ⟨_, rfl, ?_⟩
      have HI3 := Lib.hid hi3
      have HB3 := Lib.hid hb3
      clear hi3 hb3
      refine hK.out _ _ ?_
      clear hK K
      refine Go.Proofs.YtcjhligknhpadaaDoorW.PrintLast.norm_ (a' := ?_) ?_ ?_
      rotate_left
      · show Act.put _ (some 28) _ = _
        simp only [Act.put, List.setIfInBounds_toArray, List.set_cons_zero, List.set_cons_succ, Go.Proofs.YtcjhligknhpadaaDoorW.PrintLast.i64_w, Go.Proofs.YtcjhligknhpadaaDoorW.PrintLast.i32_w]
        rfl
      refine Go.Proofs.YtcjhligknhpadaaDoorW.PrintLast.done_ (by kernel_rfl) ?_
      go_wp2_with fail
      go_roundw
      case rel => exact ⟨q + 1, k + 1, by have := HQ.out; omega, by omega, by go_num, HI3.out, HCH.out.trans HB3.out⟩
      case measure => simp [intOf]; omega
    · have ek : k = n := by omega
      subst ek
      have hq2 : q ≤ 10000 := by have := HNN.out; omega
      have t1 : decide ((q : Int) * 128 < (b : Int)) = false := decide_eq_false (by have := HNN.out; omega)
      have HSY := Lib.hid (show ∀ w2, Below wr.heap.size wr w2 → Calls Tryd.prog 54 #[.pointer (some ⟨D, 0, none⟩)] w2 fun e w' => e = .returned (.tuple #[]) ∧ IsDk base w' D (batchD l.first l.img a b d) ∧ Chg base DK wr w' from fun w2 hb => by
        have hf := wrD_fields l.first l.img (a / 128) d k
        have h3 := HBW.out
        have h4 := HCH.out.size
        have h5 := hb.size
        refine (sync_any base w2 D (wrD l.first l.img (a / 128) d k) (HDK.out.below hb) (by rw [hf.2.2.1]; exact HS.out) (by omega)).mono ?_
        rintro e w' ⟨q1, q2, q3⟩
        refine ⟨q1, ?_, (Chg.of_below hb (by omega)).trans q3⟩
        unfold batchD
        rw [HNN.out]
        exact q2)
      clear hqk
      go_wp2_with (go_at_call 54; refine (HSY.out _ (by first | exact Below.refl _ _ | exact below_drewN (Below.refl _ _) _)).mono ?_; rintro e w' ⟨rfl, hi3, hb3⟩; have HI3 := Lib.hid hi3; have HB3 := Lib.hid hb3; clear hi3 hb3)
      go_end0
      exact ⟨rfl, HI3.out, HCH.out.trans HB3.out⟩
set_option maxRecDepth 100000 in
theorem one_log [av : Av] (base : Nat) (w : World) (P D I : Nat) (rv : Value) (l : Lg) (d : Dsk) (a : Nat) (hl : LgAt base w P D I rv l) (hd : IsDk base w D d) (hav : ∀ g, w.heap.size ≤ g → ¬ av.bad g) (ha : a ≤ 1000000) (hfit : (l.first : Int) + l.S ≤ d.N) (hN : d.N ≤ 4096) (hbw : base ≤ w.heap.size)
    (hn : d.log.length + 1 ≤ 1000000) (hs : d.syncs.length ≤ 1000000) :
    Calls Tryd.prog 40 #[.pointer (some ⟨P, 0, none⟩), .int .i64 a] w fun e w' => e = .returned (.tuple #[]) ∧ IsDk base w' D (oneD l.first l.img a d) ∧ Chg base DK w w' := by
  obtain ⟨_, _, _, _, _, _, c6, _⟩ := hl.cells
  have hlen := hl.len
  have hs2 := hl.s2
  by_cases h : a < l.img.length
  · have t1 : decide ((a : Int) < (l.S : Int) * 128) = true := decide_eq_true (by omega)
    have HWR := Lib.hid (show Calls Tryd.prog 39 #[.pointer (some ⟨P, 0, none⟩), .int .i64 a, .int .i64 (a + 1 : Int)] w fun e w' => e = .returned (.tuple #[]) ∧ IsDk base w' D (oneD l.first l.img a d) ∧ Chg base DK w w' from by
      unfold oneD
      rw [if_pos h]
      exact write_log base w P D I rv l d a (a + 1) hl hd hav (by omega) ha hfit hN hbw (by rw [one_batch]; exact hn) hs)
    clear hl hd hav
    go_enter Tryd.func40, Tryd.ntmps40
    go_wp2_with (go_at_call 39; refine HWR.out.mono ?_; rintro e w' ⟨rfl, hi3, hb3⟩; have HI3 := Lib.hid hi3; have HB3 := Lib.hid hb3; clear hi3 hb3)
    go_end0
    exact ⟨rfl, HI3.out, HB3.out⟩
  · have t1 : decide ((a : Int) < (l.S : Int) * 128) = false := decide_eq_false (by omega)
    have HI3 := Lib.hid (show IsDk base w D (oneD l.first l.img a d) by unfold oneD; rw [if_neg h]; exact hd)
    clear hl hd hav
    go_enter Tryd.func40, Tryd.ntmps40
    go_wp2_with fail
    go_end0
    exact ⟨rfl, HI3.out, Chg.refl _ _ _⟩
end Dk
end Go.Proofs.YtcjhligknhpadaaDoor

namespace Go.Proofs.YtcjhligknhpadaaDoor
open Go.RowKit Go.Proofs.YtcjhligknhpadaaDoor.Wp Go.Proofs.YtcjhligknhpadaaDoorW.PrintWords Go.Proofs.YtcjhligknhpadaaDoorW.PrintLast
set_option linter.unusedVariables false
set_option linter.unusedSimpArgs false
namespace Dk

/-- one block turned, and nothing else -/
structure Only (g : Nat) (w w' : World) : Prop where
  os : w'.os = w.os
  tape : w'.tape = w.tape
  output : w'.output = w.output
  size : w'.heap.size = w.heap.size
  same : ∀ k, k ≠ g → w'.heap[k]? = w.heap[k]?
theorem Only.refl (g : Nat) (w : World) : Only g w w := ⟨rfl, rfl, rfl, rfl, fun _ _ => rfl⟩
theorem Only.trans {g : Nat} {w w1 w2 : World} (h : Only g w w1) (k : Only g w1 w2) : Only g w w2 :=
  ⟨k.os.trans h.os, k.tape.trans h.tape, k.output.trans h.output, k.size.trans h.size, fun i hi => (k.same i hi).trans (h.same i hi)⟩
theorem Only.set (w : World) (g o : Nat) (v : Value) : Only g w (w.setCell ⟨g, o, none⟩ v) := ⟨rfl, rfl, rfl, set_size _ _ _, fun k hk => set_ne hk⟩
theorem Only.sets (g : Nat) : ∀ (vs : List Value) (o : Nat) (w : World), Only g w (w.setCells g o vs)
  | [], _, w => Only.refl g w
  | v :: r, o, w => (Only.set w g o v).trans (Only.sets g r (o + 1) _)
theorem Only.row (w : World) (g : Nat) (cs : Array Value) : Only g w (w.setRow g cs) := ⟨rfl, rfl, rfl, by simp [World.setRow], fun k hk => setRow_other w g k cs hk⟩
theorem sets_at (g : Nat) (t : TypeId) : ∀ (vs : List Value) (o : Nat) (w : World) (cur : List Value), w.heap[g]? = some (.cells cur.toArray t (0, 0)) → o + vs.length ≤ cur.length → (w.setCells g o vs).heap[g]? = some (.cells (splice cur o vs).toArray t (0, 0))
  | [], o, w, cur, h, _ => by simpa [World.setCells, splice] using h
  | v :: r, o, w, cur, h, hl => by
    simp only [List.length_cons] at hl
    have h1 : (w.setCell ⟨g, o, none⟩ v).heap[g]? = some (.cells (cur.set o v).toArray t (0, 0)) := by rw [set_at h]; simp
    have ih := sets_at g t r (o + 1) (w.setCell ⟨g, o, none⟩ v) (cur.set o v) h1 (by rw [List.length_set]; omega)
    show ((w.setCell ⟨g, o, none⟩ v).setCells g (o + 1) r).heap[g]? = _
    rw [ih]
    have e : splice (cur.set o v) (o + 1) r = splice cur o (v :: r) := by
      unfold splice
      rw [List.length_cons, List.drop_set_of_lt (by omega), List.take_succ_eq_append_getElem (by rw [List.length_set]; omega), List.getElem_set_self, List.take_set_of_le (by omega), List.append_assoc, show o + 1 + r.length = o + (r.length + 1) by omega]
      rfl
    rw [e]
/-- the blocks of a log -/
def LgOwn (P I : Nat) (rv : Value) (i : Nat) : Prop := i = P ∨ i = I ∨ rv.ownBlock = some i
/-- what a log's doings may change: nothing below a block, the objects of disks, and its own blocks -/
structure LChg (B : Nat) (S : Nat → Prop) (w w' : World) : Prop where
  os : w'.os = w.os
  tape : w'.tape = w.tape
  output : w'.output = w.output
  size : w.heap.size ≤ w'.heap.size
  old : ∀ i, i < B → w'.heap[i]? = w.heap[i]?
  keep : ∀ (i : Nat) (o : Obj), w.heap[i]? = some o → DK o = false → ¬ S i → w'.heap[i]? = some o
theorem LChg.refl (B : Nat) (S : Nat → Prop) (w : World) : LChg B S w w := ⟨rfl, rfl, rfl, Nat.le_refl _, fun _ _ => rfl, fun _ _ h _ _ => h⟩
theorem LChg.of {B : Nat} {S : Nat → Prop} {w w' : World} (h : Chg B DK w w') : LChg B S w w' := ⟨h.os, h.tape, h.output, h.size, h.old, fun i o h1 h2 _ => h.keep i o h1 h2⟩
theorem LChg.only {B g : Nat} {S : Nat → Prop} {w w' : World} (h : Only g w w') (hB : B ≤ g) (hS : S g) : LChg B S w w' :=
  ⟨h.os, h.tape, h.output, by rw [h.size]; exact Nat.le_refl _, fun i hi => h.same i (by omega), fun i o h1 _ h3 => (h.same i (by rintro rfl; exact h3 hS)).trans h1⟩
theorem LChg.trans {B : Nat} {S S' : Nat → Prop} {w w1 w2 : World} (h : LChg B S w w1) (g : LChg B S' w1 w2) (hs : ∀ i, i < w.heap.size → S' i → S i) : LChg B S w w2 :=
  ⟨g.os.trans h.os, g.tape.trans h.tape, g.output.trans h.output, Nat.le_trans h.size g.size, fun i hi => (g.old i hi).trans (h.old i hi), fun i o h1 h2 h3 => g.keep i o (h.keep i o h1 h2 h3) h2 (fun q => h3 (hs i (lt_of_heap h1) q))⟩
theorem LChg.below {B : Nat} {S : Nat → Prop} {w w' : World} (h : LChg B S w w') : Below B w w' := ⟨h.os, h.tape, h.output, h.size, h.old⟩
theorem LgAt.turn [av : Av] {base : Nat} {w w' : World} {P D I : Nat} {rv : Value} {l : Lg} {img : List Int} (h : LgAt base w P D I rv l) (ho : Only I w w') (hI : w'.heap[I]? = some (.cells (img.map (Value.int .u8)).toArray 5 (0, 0))) (hb : IsBy img) (hl : img.length = l.S * 128) : LgAt base w' P D I rv { l with img := img } := by
  have hPI : P ≠ I := by rintro rfl; have q := h.hI; rw [h.hP] at q; exact absurd (Obj.cells.inj (Option.some.inj q)).2.1 (by decide)
  refine ⟨h.bP, h.bI, h.bad, (ho.same P hPI).trans h.hP, hI, hb, hl, h.s1, h.s2, h.hR.move fun k cur => ⟨fun hh => (ho.same k ?_).trans hh, fun hn hh => (ho.same k ?_).trans hh⟩⟩
  · rintro rfl; have q := h.hI; rw [hh] at q; cases q
  · rintro rfl; exact hn h.bad
theorem IsDk.turn [av : Av] {base : Nat} {w w' : World} {D I : Nat} {d : Dsk} {cs : Array Value} (h : IsDk base w D d) (hI : w.heap[I]? = some (.cells cs 5 (0, 0))) (hb : av.bad I) (ho : Only I w w') : IsDk base w' D d :=
  h.apart fun k o hk hn => (ho.same k (by rintro rfl; rw [hI] at hk; cases hk; exact hn _ rfl hb)).trans hk
theorem zfrom_splice (img : List Int) (a : Nat) (h : a ≤ img.length) : splice (img.map (Value.int .u8)) a (List.replicate (img.length - a) (Value.int .u8 0)) = (zfrom img a).map (Value.int .u8) := by
  unfold splice zfrom
  rw [List.length_replicate, List.drop_of_length_le (by rw [List.length_map]; omega), List.append_nil, List.map_append, List.map_take, zer_map]
theorem zfrom_by {img : List Int} (h : IsBy img) (a : Nat) : IsBy (zfrom img a) := by
  intro c hc
  rcases List.mem_append.1 hc with hc | hc
  · exact h c (List.mem_of_mem_take hc)
  · rw [(List.mem_replicate.1 hc).2]; omega
theorem zfrom_all (img : List Int) : zfrom img img.length = img := by simp [zfrom, zer]
set_option maxHeartbeats 1000000 in
set_option maxRecDepth 100000 in
theorem blank_log [av : Av] (base : Nat) (w : World) (P D I : Nat) (rv : Value) (l : Lg) (d : Dsk) (a : Nat) (hl : LgAt base w P D I rv l) (hd : IsDk base w D d) (hav : ∀ g, w.heap.size ≤ g → ¬ av.bad g) (ha : a ≤ l.S * 128) (hfit : (l.first : Int) + l.S ≤ d.N) (hN : d.N ≤ 4096) (hbw : base ≤ w.heap.size)
    (hn : d.log.length + l.S + 1 ≤ 1000000) (hs : d.syncs.length + 1 ≤ 1000000) :
    Calls Tryd.prog 29 #[.pointer (some ⟨P, 0, none⟩), .int .i64 a] w fun e w' => e = .returned (.tuple #[]) ∧ LgAt base w' P D I rv { l with img := zfrom l.img a } ∧ IsDk base w' D (blankD l.first l.img a d) ∧ LChg base (LgOwn P I rv) w w' := by
  obtain ⟨_, _, _, _, _, _, c6, _⟩ := hl.cells
  have hlen := hl.len
  have hs2 := hl.s2
  have hS0 := hl.s1
  have HWR := Lib.hid (show ∀ w1, Only I w w1 → w1.heap[I]? = some (.cells ((zfrom l.img a).map (Value.int .u8)).toArray 5 (0, 0)) → Calls Tryd.prog 40 #[.pointer (some ⟨P, 0, none⟩), .int .i64 a] w1 fun e w2 => e = .returned (.tuple #[]) ∧ w2.cell? ⟨P, 6, none⟩ = some (.slice (some ⟨I, 0, none⟩) (l.S * 128) (l.S * 128)) ∧
      Calls Tryd.prog 39 #[.pointer (some ⟨P, 0, none⟩), .int .i64 a, .int .i64 ((l.S : Int) * 128)] w2 fun e w' => e = .returned (.tuple #[]) ∧ LgAt base w' P D I rv { l with img := zfrom l.img a } ∧ IsDk base w' D (blankD l.first l.img a d) ∧ LChg base (LgOwn P I rv) w w' from fun w1 ho hI => by
    have hz := zfrom_len l.img a (by omega)
    have hl1 := hl.turn ho hI (zfrom_by hl.by_ a) (by omega)
    have hd1 := hd.turn hl.hI hl.bad ho
    have hc1 : LChg base (LgOwn P I rv) w w1 := LChg.only ho hl.bI (.inr (.inl rfl))
    refine (one_log base w1 P D I rv _ d a hl1 hd1 (fun g hg => hav g (by have := ho.size; omega)) (by omega) hfit hN (by have := ho.size; omega) (by omega) (by omega)).mono ?_
    rintro e w2 ⟨q1, q2, q3⟩
    have hl2 := hl1.chg q3
    have hsz := ho.size
    have hsz2 := q3.size
    have hlog : (oneD l.first (zfrom l.img a) a d).log.length ≤ d.log.length + 1 ∧ (oneD l.first (zfrom l.img a) a d).syncs.length ≤ d.syncs.length + 1 ∧ (oneD l.first (zfrom l.img a) a d).N = d.N := by
      unfold oneD batchD syncD
      split
      · have hf := wrD_fields l.first (zfrom l.img a) (a / 128) d ((a + 1 + 127) / 128 - a / 128)
        rw [one_batch] at hf ⊢
        refine ⟨?_, ?_, hf.1⟩
        · show (wrD _ _ _ d 1).log.length ≤ _
          rw [hf.2.2.2]; simp
        · show ((wrD _ _ _ d 1).syncs ++ [_]).length ≤ _
          rw [hf.2.2.1]; simp
      · exact ⟨by omega, by omega, rfl⟩
    obtain ⟨g1, g2, g3⟩ := hlog
    refine ⟨q1, hl2.cells.2.2.2.2.2.2.1, ?_⟩
    have hw := write_log base w2 P D I rv _ _ a (l.S * 128) hl2 q2 (fun g hg => hav g (by omega)) (Nat.le_refl _) (by omega) (by rw [g3]; exact hfit) (by rw [g3]; exact hN) (by omega) (by show (oneD l.first (zfrom l.img a) a d).log.length + _ ≤ _; omega) (by show (oneD l.first (zfrom l.img a) a d).syncs.length ≤ _; omega)
    refine hw.mono ?_
    rintro e w3 ⟨r1, r2, r3⟩
    refine ⟨r1, hl2.chg r3, ?_, (hc1.trans (LChg.of q3 (S := LgOwn P I rv)) (fun i _ h => h)).trans (LChg.of r3 (S := LgOwn P I rv)) (fun i _ h => h)⟩
    unfold blankD
    rw [show l.img.length = l.S * 128 from hlen]
    exact r2)
  by_cases hlt : a < l.S * 128
  · have hcl : ∀ ty, (Builtin.clear_ #[22] ty #[.slice (some ⟨I, a, none⟩) (l.S * 128 - a) (l.S * 128 - a)]).run Tryd.prog w = .ok (.tuple #[]) (w.setCells I a (List.replicate (l.S * 128 - a) (.int .u8 0))) := fun ty => Lib.run_clear_slice w 22 5 ty (.int .u8 0) Tryd.underlying22 (fun w => by kernel_rfl) rfl rfl I a _ _ (by omega) (fun j hj => by rw [hl.byte (by omega)]; rfl) (fun j hj => free_of hl.hI)
    have hIz := sets_at I 5 (List.replicate (l.S * 128 - a) (.int .u8 0)) a w _ hl.hI (by rw [List.length_replicate, List.length_map]; omega)
    have e := zfrom_splice l.img a (by omega)
    rw [hlen] at e
    rw [e] at hIz
    have HW1 := Lib.hid (HWR.out _ (Only.sets I _ a w) hIz)
    clear hIz e HWR hl hd hav hbw hn hs
    go_enter Tryd.func29, Tryd.ntmps29
    go_wp2_with (first | (go_at_call 40; refine HW1.out.mono ?_; rintro e w2 ⟨rfl, c6', hw⟩; have HW := Lib.hid hw; clear hw) | (go_at_call 39; refine HW.out.mono ?_; rintro e w3 ⟨rfl, r1, r2, r3⟩; have R1 := Lib.hid r1; have R2 := Lib.hid r2; have R3 := Lib.hid r3; clear r1 r2 r3))
    go_end0
    exact ⟨rfl, R1.out, R2.out, R3.out⟩
  · have ea : a = l.S * 128 := by omega
    have HW1 := Lib.hid (HWR.out w (Only.refl I w) (by rw [ea, ← hlen, zfrom_all]; exact hl.hI))
    clear HWR hl hd hav hbw hn hs
    subst ea
    have hcl : ∀ ty a c w, (Builtin.clear_ #[22] ty #[.slice a 0 c]).run Tryd.prog w = .ok (.tuple #[]) w := fun ty a c w => by cases a <;> simp [Builtin.clear_, run_underlying Tryd.underlying22]
    go_enter Tryd.func29, Tryd.ntmps29
    go_wp2_with (first | (go_at_call 40; refine HW1.out.mono ?_; rintro e w2 ⟨rfl, c6', hw⟩; have HW := Lib.hid hw; clear hw) | (go_at_call 39; refine HW.out.mono ?_; rintro e w3 ⟨rfl, r1, r2, r3⟩; have R1 := Lib.hid r1; have R2 := Lib.hid r2; have R3 := Lib.hid r3; clear r1 r2 r3))
    go_end0
    exact ⟨rfl, R1.out, R2.out, R3.out⟩
end Dk
end Go.Proofs.YtcjhligknhpadaaDoor

namespace Go.Proofs.YtcjhligknhpadaaDoor
open Go.RowKit Go.Proofs.YtcjhligknhpadaaDoor.Wp Go.Proofs.YtcjhligknhpadaaDoorW.PrintWords Go.Proofs.YtcjhligknhpadaaDoorW.PrintLast
set_option linter.unusedVariables false
set_option linter.unusedSimpArgs false
namespace Dk

theorem wraps64 (n : Int) (h0 : 0 ≤ n) (h1 : n < 2 ^ 32) : IntKind.u64.wrap n = n := by
  simp only [IntKind.wrap, IntKind.bits, IntKind.signed]
  simp
  omega
theorem or_low (i : Nat) (y x : Int) (hx0 : 0 ≤ x) (hx : x % 2 ^ i = 0) (hx1 : x < 2 ^ 32) (hy0 : 0 ≤ y) (hy : y < 2 ^ i) (hy1 : y < 2 ^ 32) : bits .or .u64 y x = y + x := by
  have h := bits_join .u64 32 (by decide) wraps64 i x y hx0 hx hx1 hy0 hy hy1
  obtain ⟨a, rfl⟩ := Int.eq_ofNat_of_zero_le hx0
  obtain ⟨b, rfl⟩ := Int.eq_ofNat_of_zero_le hy0
  have ha : a < 2 ^ 32 := by exact_mod_cast hx1
  have hb : b < 2 ^ 32 := by exact_mod_cast hy1
  rw [(bits_nat .u64 32 (by decide) wraps64 b a hb ha).2, Nat.or_comm, ← (bits_nat .u64 32 (by decide) wraps64 a b ha hb).2, h]
  omega
set_option maxRecDepth 100000 in
theorem get_four (g o c : Nat) (b0 b1 b2 b3 : Int) (w : World) (h0 : w.cell? ⟨g, o, none⟩ = some (.int .u8 b0)) (h1 : w.cell? ⟨g, o + 1, none⟩ = some (.int .u8 b1)) (h2 : w.cell? ⟨g, o + 2, none⟩ = some (.int .u8 b2)) (h3 : w.cell? ⟨g, o + 3, none⟩ = some (.int .u8 b3))
    (q0 : 0 ≤ b0 ∧ b0 ≤ 255) (q1 : 0 ≤ b1 ∧ b1 ≤ 255) (q2 : 0 ≤ b2 ∧ b2 ≤ 255) (q3 : 0 ≤ b3 ∧ b3 ≤ 255) :
    Calls Tryd.prog 33 #[.slice (some ⟨g, o, none⟩) 4 c] w fun e w' => e = .returned (.int .u64 (getF [b0, b1, b2, b3])) ∧ w = w' := by
  go_enter Tryd.func33, Tryd.ntmps33
  go_wp2_with fail
  go_loop [3, 7] (fun n i => ∃ k : Nat, k ≤ 4 ∧ i = .int .i64 k ∧ n = .int .u64 (getF ([b0, b1, b2, b3].take k))) (fun _ i => 4 - (intOf i).toNat)
  case atStart => exact ⟨0, by omega, rfl, rfl⟩
  case round =>
    obtain ⟨k, hk, rfl, rfl⟩ := hrel
    rcases (by omega : k = 0 ∨ k = 1 ∨ k = 2 ∨ k = 3 ∨ k = 4) with rfl | rfl | rfl | rfl | rfl
    · have HE := Lib.hid (or_low 0 0 b0 q0.1 (by omega) (by omega) (by omega) (by omega) (by omega))
      simp only [List.take, getF]
      go_wp2_with fail
      go_round
      case rel => exact ⟨1, by omega, rfl, by rw [HE.out]; simp only [List.take, getF]; congr 1; omega⟩
      case measure => simp [intOf]
    · have HE := Lib.hid (or_low 8 b0 (b1 * 256) (by omega) (by omega) (by omega) (by omega) (by omega) (by omega))
      have e1 : b0 + 256 * 0 = b0 := by omega
      simp only [List.take, getF, e1]
      go_wp2_with fail
      go_round
      case rel => exact ⟨2, by omega, rfl, by rw [HE.out]; simp only [List.take, getF]; congr 1; omega⟩
      case measure => simp [intOf]
    · have HE := Lib.hid (or_low 16 (b0 + 256 * b1) (b2 * 65536) (by omega) (by omega) (by omega) (by omega) (by omega) (by omega))
      have e1 : b0 + 256 * (b1 + 256 * 0) = b0 + 256 * b1 := by omega
      simp only [List.take, getF, e1]
      go_wp2_with fail
      go_round
      case rel => exact ⟨3, by omega, rfl, by rw [HE.out]; simp only [List.take, getF]; congr 1; omega⟩
      case measure => simp [intOf]
    · have HE := Lib.hid (or_low 24 (b0 + 256 * b1 + 65536 * b2) (b3 * 16777216) (by omega) (by omega) (by omega) (by omega) (by omega) (by omega))
      have e1 : b0 + 256 * (b1 + 256 * (b2 + 256 * 0)) = b0 + 256 * b1 + 65536 * b2 := by omega
      simp only [List.take, getF, e1]
      go_wp2_with fail
      go_round
      case rel => exact ⟨4, by omega, rfl, by rw [HE.out]; simp only [List.take, getF]; congr 1; omega⟩
      case measure => simp [intOf]
    · go_wp2_with fail
      go_ret
      exact ⟨rfl, rfl⟩
theorem put_step (w : World) (g o : Nat) (n x : Int) (k : Nat) (hk : k < 4) (hx : (putF 4 n)[k]? = some x) : (w.setCells g o (((putF 4 n).take k).map (Value.int .u8))).setCell ⟨g, o + k, none⟩ (.int .u8 x) = w.setCells g o (((putF 4 n).take (k + 1)).map (Value.int .u8)) := by
  have hl : (((putF 4 n).take k).map (Value.int .u8)).length = k := by rw [List.length_map, List.length_take, putF_len]; omega
  have q := Lib.setCells_snoc_w g (Value.int .u8 x) (((putF 4 n).take k).map (Value.int .u8)) o w
  rw [hl] at q
  rw [q, List.take_add_one, hx]
  simp
set_option maxRecDepth 100000 in
theorem put_four (g o c : Nat) (n : Int) (cur : List Value) (w : World) (h : w.heap[g]? = some (.cells cur.toArray 5 (0, 0))) (ho : o + 4 ≤ cur.length) (h0 : 0 ≤ n) (h1 : n < 4294967296) :
    Calls Tryd.prog 38 #[.slice (some ⟨g, o, none⟩) 4 c, .int .u64 n] w fun e w' => e = .returned (.tuple #[]) ∧ w' = w.setCells g o ((putF 4 n).map (Value.int .u8)) := by
  have H := Lib.hid h
  clear h
  go_enter Tryd.func38, Tryd.ntmps38
  go_wp2_with fail
  go_loopw [7] (fun i wr => ∃ k : Nat, k ≤ 4 ∧ i = .int .i64 k ∧ wr = w.setCells g o (((putF 4 n).take k).map (Value.int .u8))) (fun i _ => 4 - (intOf i).toNat)
  case atStart => exact ⟨0, by omega, rfl, rfl⟩
  case round =>
    obtain ⟨k, hk, rfl, hwr⟩ := hrel
    have hcell : ∀ j, j < 4 → (∃ v, wr.cell? ⟨g, o + j, none⟩ = some v) ∧ wr.frozen? ⟨g, o + j, none⟩ = false := fun j hj => by
      have hl : (((putF 4 n).take k).map (Value.int .u8)).length ≤ 4 := by rw [List.length_map, List.length_take, putF_len]; omega
      have q := sets_at g 5 (((putF 4 n).take k).map (Value.int .u8)) o w cur H.out (by omega)
      rw [← hwr] at q
      have hs : o + j < (splice cur o (((putF 4 n).take k).map (Value.int .u8))).length := by rw [length_splice _ _ _ (by omega)]; omega
      exact ⟨⟨_, cell_of q (by rw [List.getElem?_toArray, List.getElem?_eq_getElem hs])⟩, free_of q⟩
    have HW := Lib.hid hwr
    clear hwr
    rcases (by omega : k = 0 ∨ k = 1 ∨ k = 2 ∨ k = 3 ∨ k = 4) with rfl | rfl | rfl | rfl | rfl
    · obtain ⟨⟨v, hv⟩, hf⟩ := hcell 0 (by omega)
      simp only [Nat.add_zero] at hv hf
      go_wp2_with fail
      go_roundw
      case rel => exact ⟨1, by omega, rfl, by rw [HW.out]; exact put_step w g o n (n % 256) 0 (by omega) rfl⟩
      case measure => simp [intOf]
    · obtain ⟨⟨v, hv⟩, hf⟩ := hcell 1 (by omega)
      go_wp2_with fail
      go_roundw
      case rel => exact ⟨2, by omega, rfl, by rw [HW.out]; exact put_step w g o n (n / 256 % 256) 1 (by omega) rfl⟩
      case measure => simp [intOf]
    · obtain ⟨⟨v, hv⟩, hf⟩ := hcell 2 (by omega)
      go_wp2_with fail
      go_roundw
      case rel => exact ⟨3, by omega, rfl, by rw [HW.out]; exact put_step w g o n (n / 65536 % 256) 2 (by omega) (by simp only [putF, List.getElem?_cons_zero, List.getElem?_cons_succ]; congr 1; omega)⟩
      case measure => simp [intOf]
    · obtain ⟨⟨v, hv⟩, hf⟩ := hcell 3 (by omega)
      go_wp2_with fail
      go_roundw
      case rel => exact ⟨4, by omega, rfl, by rw [HW.out]; exact put_step w g o n (n / 16777216) 3 (by omega) (by simp only [putF, List.getElem?_cons_zero, List.getElem?_cons_succ]; congr 1; omega)⟩
      case measure => simp [intOf]
    · go_wp2_with fail
      go_end0
      exact ⟨rfl, HW.out⟩
end Dk
end Go.Proofs.YtcjhligknhpadaaDoor
