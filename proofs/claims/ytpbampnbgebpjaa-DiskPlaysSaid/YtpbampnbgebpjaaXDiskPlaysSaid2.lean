/- Any script of writes, reads, syncs and losses of power does what the document says; it is proved for every input. -/
import Derived.Below
import Derived.Laws.OwnMore
import Derived.Deep.AppendLies
import Derived.Deep.Draws
import Derived.Maps.AppendAt
import Derived.RegionTactic
import Derived.OwnWalk
import Derived.Test.YtpbampnbgebpjaaXDiskPlaysSaid1
import Derived.Deep.QuietTactic
import Derived.BigQuiet
import Derived.WalkLawsBesides
import Derived.Test.YtpbampnbgebpjaaRows
import Derived.WalkKit
import Derived.ProofKit
import Derived.OpenShut
import Derived.ShutString
import Derived.ChangeOld
import Derived.SizedLaws
import Derived.ChangeSlices
namespace Go.Proofs.Ytpbampnbgebpjaa
open Go.RowKit
set_option linter.unusedVariables false
set_option linter.unusedSimpArgs false
namespace Dk
theorem block_of_add (a : Addr) (n : Nat) : (a.add n).block = a.block := by unfold Addr.add; split <;> rfl
theorem add_of_add (a : Addr) (i j : Nat) : (a.add i).add j = a.add (i + j) := by
  unfold Addr.add
  by_cases hi : i = 0 <;> by_cases hj : j = 0 <;> simp [hi, hj, Nat.add_assoc]

def Reads (w : World) (B size : Nat) (A : Option Addr) (n : Nat) (xs : List Value) : Prop :=
  xs.length = n * size ∧ (0 < n → ∃ ad, A = some ad ∧ ad.block < B ∧ ∀ j u, xs[j]? = some u → w.cell? (ad.add j) = some u)

section
variable {w w' : World} {B B' size n : Nat} {A : Option Addr} {xs : List Value}
theorem Reads.none_ : Reads w B size A 0 [] := ⟨by simp, fun h => absurd h (by omega)⟩
theorem Reads.at_ {k : Nat} (h : Reads w B 1 A n xs) (hk : k < n) : ∃ ad u, A = some ad ∧ ad.block < B ∧ xs[k]? = some u ∧ w.cell? (ad.add k) = some u := by
  obtain ⟨ad, e, hb, hc⟩ := h.2 (by omega)
  have hl : k < xs.length := by have := h.1; omega
  exact ⟨ad, xs[k], e, hb, List.getElem?_eq_getElem hl, hc k _ (List.getElem?_eq_getElem hl)⟩
theorem Reads.keep (h : Reads w B size A n xs) (hk : ∀ p : Addr, p.block < B → w'.cell? p = w.cell? p) : Reads w' B size A n xs :=
  ⟨h.1, fun hn => by
    obtain ⟨ad, e, hb, hc⟩ := h.2 hn
    exact ⟨ad, e, hb, fun j u hu => (hk _ (by rw [block_of_add]; exact hb)).trans (hc j u hu)⟩⟩
theorem Reads.more (h : Reads w B size A n xs) (hB : B ≤ B') : Reads w B' size A n xs :=
  ⟨h.1, fun hn => by
    obtain ⟨ad, e, hb, hc⟩ := h.2 hn
    exact ⟨ad, e, by omega, hc⟩⟩
theorem Reads.below (h : Reads w B size A n xs) (hb : Below B w w') : Reads w' B size A n xs := h.keep fun _ hp => hb.cell hp
theorem Reads.drew (h : Reads w B size A n xs) : Reads w.drew B size A n xs := h
theorem Reads.drewN (h : Reads w B size A n xs) (k : Nat) : Reads (w.drewN k) B size A n xs := h
theorem Reads.alloc (h : Reads w B size A n xs) (hB : B ≤ w.heap.size) (o : Obj) : Reads (w.alloc o) B size A n xs := h.keep fun p hp => World.cell?_alloc_lt w o p (by omega)
theorem Reads.setCell (h : Reads w B size A n xs) {p : Addr} (hB : B ≤ p.block) (u : Value) : Reads (w.setCell p u) B size A n xs :=
  h.keep fun q hq => World.cell?_setCell_other w p q u (fun e => by subst e; omega)
theorem Reads.grown (h : Reads w B size A n xs) {row : Option Nat} (hg : w.grownBy w' row) (hB : B ≤ w.heap.size) (hr : ∀ g, row = some g → B ≤ g) : Reads w' B size A n xs :=
  h.keep fun p hp => World.cell?_of_block (hg.block p.block (by omega) (fun e => by have := hr _ e.symm; omega))
theorem Reads.cut (h : Reads w B size A n xs) {k cap : Nat} (hk : k ≤ n) (hc : n ≤ cap) :
    Reads w B size (if cap = k then A else A.map (·.add (k * size))) (n - k) (xs.drop (k * size)) := by
  refine ⟨by rw [List.length_drop, h.1, Nat.sub_mul], fun hn => ?_⟩
  obtain ⟨ad, rfl, hb, hcell⟩ := h.2 (by omega)
  rw [if_neg (by omega)]
  refine ⟨ad.add (k * size), rfl, by rw [block_of_add]; exact hb, fun j u hu => ?_⟩
  rw [add_of_add]
  exact hcell _ u (by rw [← hu, List.getElem?_drop])
theorem Reads.of_own {base : Nat} {e : TypeId} {c : Nat} (h : w.ownsRow base e size (.slice A n c) n xs) : Reads w w.heap.size size A n xs := by
  refine ⟨h.1, fun hn => ?_⟩
  obtain ⟨g, cap, hv, _, hlt⟩ := h.form hn
  have hA : A = some ⟨g, 0, none⟩ := by injection hv
  subst hA
  exact ⟨_, rfl, hlt, h.cells (g := g) rfl⟩
end
section
variable {P : Program} (w : World)

theorem run_append_of_nil (base : Nat) (t ty e : TypeId) (i : TypeInfo) (size : Nat) (ht : P.underlying t = some (.slice e)) (hi : P.info? e = some i)
    (v : Value) (n : Nat) (xs : List Value) (hown : w.ownsRow base e size v n xs) (c : Nat) : (Builtin.append_ #[t, t] ty #[v, .slice none 0 c]).run P w = .ok v w := by
  rcases hown.2 with ⟨rfl, rfl⟩ | ⟨g, cap, cur, rfl, _, _, hnc, _⟩
  · simp [Builtin.append_, run_underlying ht, sizeOf, typeInfo, hi, Builtin.lenOf, Builtin.firstCells]
  · simp [Builtin.append_, run_underlying ht, sizeOf, typeInfo, hi, Builtin.lenOf, Builtin.firstCells, hnc, storeCells]

theorem run_append_any (base : Nat) (t ty e : TypeId) (i : TypeInfo) (z : Value) (size bytes : Nat) (ht : P.underlying t = some (.slice e)) (hi : P.info? e = some i) (hz : i.zero = some z)
    (hsize : i.size = size) (hby : i.bytes = bytes) (hzs : z.cells.size = size) (hsz : 0 < size)
    (v : Value) (n : Nat) (xs : List Value) (hown : w.ownsRow base e size v n xs)
    (B : Nat) (A : Option Addr) (m c : Nat) (news : List Value) (hr : Reads w B size A m news) (h1 : ∀ u ∈ news, u.oneCell' = true)
    (h63 : n + m ≤ maxLen) (hbytes : (n + m) * bytes ≤ 140737488355328) (hbase : base ≤ w.heap.size) :
    ∃ v' w', (Builtin.append_ #[t, t] ty #[v, .slice A m c]).run P w = .ok v' w' ∧ w'.ownsRow base e size v' (n + m) (xs ++ news) ∧ w.grownBy w' v.ownBlock ∧
      (v'.ownBlock = v.ownBlock ∨ v'.ownBlock = some w.heap.size) := by
  rcases A with _ | ad
  · have hm : m = 0 := by
      rcases Nat.eq_zero_or_pos m with h0 | h0
      · exact h0
      · obtain ⟨ad, h, _⟩ := hr.2 h0
        cases h
    subst hm
    have hn : news = [] := List.eq_nil_of_length_eq_zero (by simpa using hr.1)
    subst hn
    exact ⟨v, w, run_append_of_nil w base t ty e i size ht hi v n xs hown c, by simpa using hown, World.grownBy.refl w _, .inl rfl⟩
  · have hcells : ∀ j u, news[j]? = some u → w.cell? (ad.add j) = some u := by
      intro j u hu
      rcases Nat.eq_zero_or_pos m with h0 | h0
      · subst h0
        have hn : news = [] := List.eq_nil_of_length_eq_zero (by simpa using hr.1)
        subst hn
        simp at hu
      · obtain ⟨ad', h, _, hc⟩ := hr.2 h0
        injection h with h
        subst h
        exact hc j u hu
    obtain ⟨v', w', hrun, h2, h3, _, h5⟩ := run_append_own_at (P := P) w base t ty e i z size bytes ht hi hz hsize hby hzs hsz v n xs hown ad m c news hr.1 hcells h1 h63 hbytes hbase
    exact ⟨v', w', hrun, h2, h3, h5⟩

theorem wp_append_any {o : Oper} {a : Act} {K : Act → World → Prop} {Q : Exit → Act → World → Prop} (s x : Operand) (t : TypeId)
    (ho : o.op = .call { callee := .builtin .append, args := #[s, x], argTypes := #[t, t] })
    (base : Nat) (e : TypeId) (i : TypeInfo) (z : Value) (size bytes : Nat) (ht : P.underlying t = some (.slice e)) (hi : P.info? e = some i) (hz : i.zero = some z)
    (hsize : i.size = size) (hby : i.bytes = bytes) (hzs : z.cells.size = size) (hsz : 0 < size)
    (v : Value) (n : Nat) (xs : List Value) (hs : a.eval s = v) (hown : w.ownsRow base e size v n xs)
    (B : Nat) (A : Option Addr) (m c : Nat) (news : List Value) (hx : a.eval x = .slice A m c) (hr : Reads w B size A m news) (h1 : ∀ u ∈ news, u.oneCell' = true)
    (h63 : n + m ≤ maxLen) (hbytes : (n + m) * bytes ≤ 140737488355328) (hbase : base ≤ w.heap.size)
    (h : ∀ v' w', w'.ownsRow base e size v' (n + m) (xs ++ news) → w.grownBy w' v.ownBlock → (v'.ownBlock = v.ownBlock ∨ v'.ownBlock = some w.heap.size) → K (a.put o.dst v') w') : o.wp P a w K Q := by
  obtain ⟨v', w', hrun, h2, h3, h4⟩ := run_append_any (P := P) w base t o.type e i z size bytes ht hi hz hsize hby hzs hsz v n xs hown B A m c news hr h1 h63 hbytes hbase
  unfold Oper.wp execOp
  simp only [ho, resolve, invoke, builtin, Sem.run_bind, Sem.run_pure, Result.andThen_ok, List.map_toArray, List.map_cons, List.map_nil, hs, hx, hrun]
  exact h v' w' h2 h3 h4

theorem wpList_append_any {ops : Array Oper} {rest : List Oper} {o : Oper} {a : Act} {Q : Exit → Act → World → Prop} (hgd : o.guard = none) (s x : Operand) (t : TypeId)
    (ho : o.op = .call { callee := .builtin .append, args := #[s, x], argTypes := #[t, t] })
    (base : Nat) (e : TypeId) (i : TypeInfo) (z : Value) (size bytes : Nat) (ht : P.underlying t = some (.slice e)) (hi : P.info? e = some i) (hz : i.zero = some z)
    (hsize : i.size = size) (hby : i.bytes = bytes) (hzs : z.cells.size = size) (hsz : 0 < size)
    (v : Value) (n : Nat) (xs : List Value) (hs : a.eval s = v) (hown : w.ownsRow base e size v n xs)
    (B : Nat) (A : Option Addr) (m c : Nat) (news : List Value) (hx : a.eval x = .slice A m c) (hr : Reads w B size A m news) (h1 : ∀ u ∈ news, u.oneCell' = true)
    (h63 : n + m ≤ maxLen) (hbytes : (n + m) * bytes ≤ 140737488355328) (hbase : base ≤ w.heap.size)
    (h : ∀ v' w', w'.ownsRow base e size v' (n + m) (xs ++ news) → w.grownBy w' v.ownBlock → (v'.ownBlock = v.ownBlock ∨ v'.ownBlock = some w.heap.size) → wpList P ops Q rest (a.put o.dst v') w') : wpList P ops Q (o :: rest) a w :=
  wpList_plain hgd fun _ hK => wp_append_any w s x t ho base e i z size bytes ht hi hz hsize hby hzs hsz v n xs hs hown B A m c news hx hr h1 h63 hbytes hbase fun v' w' h2 h3 h4 => hK _ _ (h v' w' h2 h3 h4)

theorem step_append_any {ops : Array Oper} {o : Oper} {a : Act} {K : Act → World → Prop} {Q : Exit → Act → World → Prop} {E : Prop} (hgd : o.guard = none) (s x : Operand) (t : TypeId)
    (ho : o.op = .call { callee := .builtin .append, args := #[s, x], argTypes := #[t, t] })
    (base : Nat) (e : TypeId) (i : TypeInfo) (z : Value) (size bytes : Nat) (ht : P.underlying t = some (.slice e)) (hi : P.info? e = some i) (hz : i.zero = some z)
    (hsize : i.size = size) (hby : i.bytes = bytes) (hzs : z.cells.size = size) (hsz : 0 < size)
    (v : Value) (n : Nat) (xs : List Value) (hs : a.eval s = v) (hown : w.ownsRow base e size v n xs)
    (B : Nat) (A : Option Addr) (m c : Nat) (news : List Value) (hx : a.eval x = .slice A m c) (hr : Reads w B size A m news) (h1 : ∀ u ∈ news, u.oneCell' = true)
    (h63 : n + m ≤ maxLen) (hbytes : (n + m) * bytes ≤ 140737488355328) (hbase : base ≤ w.heap.size)
    (h : ∀ v' w', w'.ownsRow base e size v' (n + m) (xs ++ news) → w.grownBy w' v.ownBlock → (v'.ownBlock = v.ownBlock ∨ v'.ownBlock = some w.heap.size) → K (a.put o.dst v') w') :
    if Region.wanted o (yielded ops a.tmps) = true then Oper.wp P o a w K Q else E := by
  have hw : Region.wanted o (yielded ops a.tmps) = true := by simp [Region.wanted, hgd]
  rw [if_pos hw]
  exact wp_append_any w s x t ho base e i z size bytes ht hi hz hsize hby hzs hsz v n xs hs hown B A m c news hx hr h1 h63 hbytes hbase h
end
end Dk
end Go.Proofs.Ytpbampnbgebpjaa

namespace Go.Proofs.Ytpbampnbgebpjaa
open Go.RowKit
set_option linter.unusedVariables false
set_option linter.unusedSimpArgs false
namespace Dk

def eZ : Ent := ⟨0, [], false⟩
/-- the writes among what came -/
def logOf (es : List Ent) : List (Int × List Int) := (es.filter fun e => !e.s).map fun e => (e.i, e.b)
theorem logOf_len (es : List Ent) : (logOf es).length = nW es := by simp [logOf, nW]
theorem logOf_app (a b : List Ent) : logOf (a ++ b) = logOf a ++ logOf b := by simp [logOf]
theorem nW_app (a b : List Ent) : nW (a ++ b) = nW a + nW b := by simp [nW]
theorem nW_split (l : List Ent) (m : Nat) : nW l = nW (l.take m) + nW (l.drop m) := by rw [← nW_app, List.take_append_drop]
theorem take_getD (l : List Ent) (n k : Nat) (h : n < k) : (l.take k).getD n eZ = l.getD n eZ := by
  simp only [List.getD_eq_getElem?_getD, List.getElem?_take, if_pos h]
theorem nW_take' (l : List Ent) (k : Nat) (h : k < l.length) : nW (l.take (k + 1)) = nW (l.take k) + if (l.getD k eZ).s then 0 else 1 := by
  rw [nW_take l k h, List.getD_eq_getElem?_getD, List.getElem?_eq_getElem h]
  rfl
theorem nW_mono (l : List Ent) (a b : Nat) (h : a ≤ b) : nW (l.take a) ≤ nW (l.take b) := by
  obtain ⟨c, rfl⟩ := Nat.le.dest h
  rw [List.take_add, nW_app]
  omega
theorem logOf_at (l : List Ent) (k : Nat) (h : k < l.length) (hs : (l.getD k eZ).s = false) : (logOf l).getD (nW (l.take k)) (0, []) = ((l.getD k eZ).i, (l.getD k eZ).b) := by
  have e : l = l.take k ++ l.getD k eZ :: l.drop (k + 1) := by
    rw [List.getD_eq_getElem?_getD, List.getElem?_eq_getElem h, Option.getD_some, ← List.drop_eq_getElem_cons h, List.take_append_drop]
  have e2 : logOf l = logOf (l.take k) ++ ((l.getD k eZ).i, (l.getD k eZ).b) :: logOf (l.drop (k + 1)) := by
    conv => lhs; rw [e]
    rw [logOf_app]
    congr 1
    generalize l.getD k eZ = y at hs ⊢
    simp [logOf, hs]
  rw [e2, List.getD_eq_getElem?_getD, List.getElem?_append_right (by rw [logOf_len]; exact Nat.le_refl _), logOf_len, Nat.sub_self]
  rfl
/-- how many writes there had been at each sync -/
def syncsOf (es : List Ent) : Nat → List Int
  | 0 => []
  | k + 1 => if (es.getD k eZ).s then syncsOf es k ++ [(nW (es.take k) : Int)] else syncsOf es k
theorem syncsOf_app (a b : List Ent) : ∀ k, k ≤ a.length → syncsOf (a ++ b) k = syncsOf a k
  | 0, _ => rfl
  | k + 1, h => by
    have e : (a ++ b).getD k eZ = a.getD k eZ := by
      simp only [List.getD_eq_getElem?_getD]
      rw [List.getElem?_append_left (by omega)]
    simp only [syncsOf, syncsOf_app a b k (by omega), e]
    rw [List.take_append_of_le_length (by omega)]
theorem syncAt_take (l : List Ent) (m : Nat) : ∀ k, k ≤ m → syncAt (l.take m) k = syncAt l k
  | 0, _ => rfl
  | k + 1, h => by
    have e : (l.take m).getD k ⟨0, [], false⟩ = l.getD k ⟨0, [], false⟩ := take_getD l k m h
    simp only [syncAt, syncAt_take l m k (by omega), e]
theorem last_sync (es : List Ent) : ∀ k, ((syncsOf es k).getLast? = none ∧ syncAt es k = 0) ∨ (syncsOf es k).getLast? = some (nW (es.take (syncAt es k)) : Int)
  | 0 => .inl ⟨rfl, rfl⟩
  | k + 1 => by
    have ih := last_sync es k
    show ((if (es.getD k eZ).s then syncsOf es k ++ [(nW (es.take k) : Int)] else syncsOf es k).getLast? = none ∧ (if (es.getD k eZ).s then k else syncAt es k) = 0) ∨ (if (es.getD k eZ).s then syncsOf es k ++ [(nW (es.take k) : Int)] else syncsOf es k).getLast? = some (nW (es.take (if (es.getD k eZ).s then k else syncAt es k)) : Int)
    cases (es.getD k eZ).s
    · simp only [Bool.false_eq_true, if_false]
      exact ih
    · right
      simp
structure Rel (d : Dsk) (r : RfD) : Prop where
  N : r.N = d.N
  log : d.log = logOf r.l
  syncs : d.syncs = syncsOf r.l r.l.length
  first : ∀ i, lastB r.first i [] = d.first i
  now : d.now = allM d.first d.log d.log.length
  fs : ∀ e ∈ r.first, e.s = false
  fo : EOk r.first
  lo : EOk r.l
theorem Rel.pend {d : Dsk} {r : RfD} (h : Rel d r) : pend d = (nW (r.l.drop (syncAt r.l r.l.length)) : Int) := by
  have hs := nW_split r.l (syncAt r.l r.l.length)
  unfold Dk.pend
  rw [h.syncs, h.log, logOf_len]
  rcases last_sync r.l r.l.length with ⟨e1, e2⟩ | e1
  · rw [e1, e2]
    rfl
  · rw [e1]
    simp only
    omega
theorem Rel.safe {d : Dsk} {r : RfD} (h : Rel d r) : safeOf d = nW (r.l.take (syncAt r.l r.l.length)) := by
  unfold safeOf
  rw [h.syncs]
  rcases last_sync r.l r.l.length with ⟨e1, e2⟩ | e1
  · rw [e1, e2]
    rfl
  · rw [e1]
    simp
theorem syncsOf_le (es : List Ent) : ∀ k, k ≤ es.length → ∀ s ∈ syncsOf es k, 0 ≤ s ∧ s ≤ (nW es : Int)
  | 0, _, s, hs => by simp [syncsOf] at hs
  | k + 1, h, s, hs => by
    simp only [syncsOf] at hs
    split at hs
    · rcases List.mem_append.1 hs with hs | hs
      · exact syncsOf_le es k (by omega) s hs
      · rw [List.mem_singleton.1 hs]
        have := nW_split es k
        omega
    · exact syncsOf_le es k (by omega) s hs
theorem syncsOf_len (es : List Ent) : ∀ k, (syncsOf es k).length ≤ k
  | 0 => Nat.le_refl _
  | k + 1 => by
    have := syncsOf_len es k
    simp only [syncsOf]
    split
    · simp; omega
    · omega
theorem Rel.fit {d : Dsk} {r : RfD} (h : Rel d r) (hl : r.l.length ≤ 1000000) : d.Fit := by
  refine ⟨?_, ?_, ?_⟩
  · rw [h.log, logOf_len]; exact Nat.le_trans (nW_le _) hl
  · rw [h.syncs]; exact Nat.le_trans (syncsOf_len _ _) hl
  · rw [h.syncs, h.log, logOf_len]; exact syncsOf_le _ _ (Nat.le_refl _)
def lastL (l : List (Int × List Int)) (i : Int) (b0 : List Int) : List Int := l.foldl (fun acc p => if p.1 = i then p.2 else acc) b0
theorem lastB_log (i : Int) : ∀ (es : List Ent) (b0 : List Int), lastB es i b0 = lastL (logOf es) i b0
  | [], _ => rfl
  | e :: es, b0 => by
    have ih := lastB_log i es
    unfold lastB lastL logOf at *
    cases hs : e.s
    · simp only [List.foldl_cons, List.filter_cons, hs, and_true, Bool.not_false, if_true, List.map_cons]
      exact ih _
    · simp only [List.foldl_cons, List.filter_cons, hs, Bool.not_true, Bool.false_eq_true, if_false, Bool.true_eq_false, and_false]
      exact ih _
theorem allM_last (first : Int → List Int) (log : List (Int × List Int)) (i : Int) : ∀ n, n ≤ log.length → allM first log n i = lastL (log.take n) i (first i)
  | 0, _ => rfl
  | n + 1, h => by
    have ih := allM_last first log i n (by omega)
    simp only [allM, upd]
    rw [List.take_add_one, List.getElem?_eq_getElem (show n < log.length by omega)]
    unfold lastL at *
    rw [List.foldl_append, ih, List.getD_eq_getElem?_getD, List.getElem?_eq_getElem (show n < log.length by omega)]
    simp only [Option.getD_some, Option.toList_some, List.foldl_cons, List.foldl_nil]
    by_cases hi : i = log[n].1
    · rw [if_pos hi, if_pos hi.symm]
    · rw [if_neg hi, if_neg (fun q => hi q.symm)]
theorem Rel.read {d : Dsk} {r : RfD} (h : Rel d r) (i : Int) : lastB r.l i (lastB r.first i []) = d.now i := by
  rw [h.now, allM_last _ _ _ _ (Nat.le_refl _), List.take_length, h.first, lastB_log, h.log]
theorem Rel.now_ok {d : Dsk} {r : RfD} (h : Rel d r) (i : Int) : (d.now i).length ≤ 128 := by
  have hB : ∀ (es : List Ent) (b0 : List Int), EOk es → b0.length ≤ 128 → (lastB es i b0).length ≤ 128 := by
    intro es
    induction es with
    | nil => intro b0 _ h; exact h
    | cons e es ih =>
      intro b0 ho hb
      refine ih _ (fun x hx => ho x (List.mem_cons_of_mem _ hx)) ?_
      show (if e.i = i ∧ e.s = false then e.b else b0).length ≤ 128
      split
      · exact (ho e (List.mem_cons_self)).1
      · exact hb
  rw [← h.read]
  exact hB _ _ h.lo (hB _ _ h.fo (by simp))
theorem Rel.sync {d : Dsk} {r : RfD} (h : Rel d r) : Rel { d with syncs := d.syncs ++ [(d.log.length : Int)] } { r with l := r.l ++ [⟨0, [], true⟩] } := by
  refine ⟨h.N, ?_, ?_, h.first, h.now, h.fs, h.fo, ?_⟩
  · show d.log = logOf (r.l ++ [⟨0, [], true⟩])
    rw [logOf_app, h.log]
    simp [logOf]
  · show d.syncs ++ [(d.log.length : Int)] = syncsOf (r.l ++ [(⟨0, [], true⟩ : Ent)]) (r.l ++ [(⟨0, [], true⟩ : Ent)]).length
    rw [List.length_append, List.length_singleton]
    have e : (r.l ++ [(⟨0, [], true⟩ : Ent)]).getD r.l.length eZ = ⟨0, [], true⟩ := by simp [List.getD_eq_getElem?_getD]
    simp only [syncsOf, e, if_true, syncsOf_app _ _ _ (Nat.le_refl _), h.syncs, h.log, logOf_len]
    rw [List.take_append_of_le_length (Nat.le_refl _), List.take_length]
  · intro e he
    rcases List.mem_append.1 he with he | he
    · exact h.lo e he
    · rw [List.mem_singleton.1 he]; exact ⟨by simp, fun c hc => by simp at hc⟩
theorem Rel.write {d : Dsk} {r : RfD} (h : Rel d r) (i : Int) (l : List Int) (hl : l.length ≤ 128) (hb : IsBy l) : Rel { d with now := fun k => if k = i then l else d.now k, log := d.log ++ [(i, l)] } { r with l := r.l ++ [⟨i, l, false⟩] } := by
  refine ⟨h.N, ?_, ?_, h.first, ?_, h.fs, h.fo, ?_⟩
  · show d.log ++ [(i, l)] = logOf (r.l ++ [⟨i, l, false⟩])
    rw [logOf_app, h.log]
    simp [logOf]
  · show d.syncs = syncsOf (r.l ++ [(⟨i, l, false⟩ : Ent)]) (r.l ++ [(⟨i, l, false⟩ : Ent)]).length
    rw [List.length_append, List.length_singleton]
    have e : (r.l ++ [(⟨i, l, false⟩ : Ent)]).getD r.l.length eZ = ⟨i, l, false⟩ := by simp [List.getD_eq_getElem?_getD]
    simp only [syncsOf, e, Bool.false_eq_true, if_false, syncsOf_app _ _ _ (Nat.le_refl _), h.syncs]
  · show (fun k => if k = i then l else d.now k) = allM d.first (d.log ++ [(i, l)]) (d.log ++ [(i, l)]).length
    rw [List.length_append, List.length_singleton]
    simp only [allM]
    rw [allM_app _ _ _ _ (Nat.le_refl _), ← h.now]
    have e : (d.log ++ [(i, l)]).getD d.log.length (0, []) = (i, l) := by simp [List.getD_eq_getElem?_getD]
    rw [e]
    rfl
  · intro e he
    rcases List.mem_append.1 he with he | he
    · exact h.lo e he
    · rw [List.mem_singleton.1 he]; exact ⟨hl, hb⟩
/-- does what a loss of power leaves hold the i-th? -/
def keptB (l : List Ent) (sf : Nat) (keep : List Bool) (i : Nat) : Bool := decide (i < sf) || (decide (nW (l.take i) - nW (l.take sf) < keep.length) && keep.getD (nW (l.take i) - nW (l.take sf)) false)
def keptE (l : List Ent) (sf : Nat) (keep : List Bool) : Nat → List Ent
  | 0 => []
  | i + 1 => if (l.getD i eZ).s = false ∧ keptB l sf keep i = true then keptE l sf keep i ++ [l.getD i eZ] else keptE l sf keep i
theorem keptE_mem (l : List Ent) (sf : Nat) (keep : List Bool) : ∀ n, n ≤ l.length → ∀ e ∈ keptE l sf keep n, e ∈ l ∧ e.s = false
  | 0, _, e, he => by simp [keptE] at he
  | n + 1, h, e, he => by
    simp only [keptE] at he
    split at he
    · rename_i hc
      rcases List.mem_append.1 he with he | he
      · exact keptE_mem l sf keep n (by omega) e he
      · rw [List.mem_singleton.1 he]
        refine ⟨?_, hc.1⟩
        rw [List.getD_eq_getElem?_getD, List.getElem?_eq_getElem (show n < l.length by omega)]
        exact List.getElem_mem _
    · exact keptE_mem l sf keep n (by omega) e he
theorem keptE_len (l : List Ent) (sf : Nat) (keep : List Bool) : ∀ n, (keptE l sf keep n).length ≤ n
  | 0 => Nat.le_refl _
  | n + 1 => by
    have := keptE_len l sf keep n
    simp only [keptE]
    split
    · simp; omega
    · omega
theorem kept_eq (l : List Ent) (sf : Nat) (keep : List Bool) (i : Nat) (hi : i < l.length) (hs : (l.getD i eZ).s = false) : kept (nW (l.take sf)) keep (nW (l.take i)) = keptB l sf keep i := by
  unfold kept keptB
  have h1 := nW_take' l i hi
  rw [hs] at h1
  simp only [Bool.false_eq_true, if_false] at h1
  have e : decide (nW (l.take i) < nW (l.take sf)) = decide (i < sf) := by
    by_cases h : i < sf
    · have := nW_mono l (i + 1) sf h
      rw [decide_eq_true h, decide_eq_true (by omega)]
    · have := nW_mono l sf i (by omega)
      rw [decide_eq_false h, decide_eq_false (by omega)]
  rw [e]
theorem lastB_app (a b : List Ent) (i : Int) (b0 : List Int) : lastB (a ++ b) i b0 = lastB b i (lastB a i b0) := by unfold lastB; rw [List.foldl_append]
theorem left_eq (first : Int → List Int) (rf l : List Ent) (sf : Nat) (keep : List Bool) (hf : ∀ i, lastB rf i [] = first i) (i : Int) : ∀ n, n ≤ l.length → lastB (rf ++ keptE l sf keep n) i [] = leftM first (logOf l) (nW (l.take sf)) keep (nW (l.take n)) i
  | 0, _ => by
    simp only [keptE, List.append_nil]
    exact hf i
  | n + 1, h => by
    have ih := left_eq first rf l sf keep hf i n (by omega)
    rw [nW_take' l n (by omega)]
    cases hs : (l.getD n eZ).s
    · have ek := kept_eq l sf keep n (by omega) hs
      have el := logOf_at l n (by omega) hs
      simp only [keptE, hs, Bool.false_eq_true, if_false, leftM, ek, el, true_and]
      cases hk : keptB l sf keep n
      · simp only [Bool.false_eq_true, if_false]
        exact ih
      · simp only [if_true, upd]
        rw [← List.append_assoc, lastB_app]
        generalize l.getD n eZ = e at hs
        show (if e.i = i ∧ e.s = false then e.b else _) = _
        by_cases hi : i = e.i
        · rw [if_pos hi, if_pos ⟨hi.symm, hs⟩]
        · rw [if_neg hi, if_neg (fun q => hi q.1.symm)]
          exact ih
    · simp only [keptE, hs, Bool.true_eq_false, false_and, if_false, if_true, Nat.add_zero]
      exact ih
theorem Rel.left {d : Dsk} {r : RfD} (h : Rel d r) (up_ : Nat) (ht : up_ ≤ r.l.length) (keep : List Bool) (safe : Nat) (hs : safe = nW ((r.l.take up_).take (syncAt (r.l.take up_) up_))) :
    Rel (leftD d safe (nW (r.l.take up_)) keep) ⟨r.N, r.first ++ keptE (r.l.take up_) (syncAt (r.l.take up_) up_) keep up_, []⟩ := by
  have htl : (r.l.take up_).length = up_ := by rw [List.length_take]; omega
  refine ⟨h.N, rfl, rfl, fun i => ?_, rfl, fun e he => ?_, fun e he => ?_, fun e he => by simp at he⟩
  · have e1 := left_eq d.first r.first (r.l.take up_) (syncAt (r.l.take up_) up_) keep h.first i up_ (by omega)
    have e2 : d.log = logOf (r.l.take up_) ++ logOf (r.l.drop up_) := by rw [← logOf_app, List.take_append_drop, h.log]
    show _ = leftM d.first d.log safe keep (nW (r.l.take up_)) i
    rw [e1, e2, leftM_app _ _ _ _ _ _ (by rw [logOf_len]; exact Nat.le_refl _), hs, List.take_of_length_le (by omega : (r.l.take up_).length ≤ up_)]
  · rcases List.mem_append.1 he with he | he
    · exact h.fs e he
    · exact (keptE_mem _ _ _ _ (by omega) e he).2
  · rcases List.mem_append.1 he with he | he
    · exact h.fo e he
    · exact h.lo e (List.mem_of_mem_take (keptE_mem _ _ _ _ (by omega) e he).1)
theorem Rel.cut {d : Dsk} {r : RfD} (h : Rel d r) (keep : List Bool) : Rel (leftD d (safeOf d) d.log.length keep) ⟨r.N, r.first ++ keptE r.l (syncAt r.l r.l.length) keep r.l.length, []⟩ := by
  have e := h.left r.l.length (Nat.le_refl _) keep (safeOf d) (by rw [List.take_length, h.safe])
  rw [List.take_length] at e
  rw [h.log, logOf_len]
  exact e
theorem safeAt_app (s ex : List Int) (n : Nat) : ∀ k, k ≤ s.length → safeAt (s ++ ex) n k = safeAt s n k
  | 0, _ => rfl
  | k + 1, h => by
    have e : (s ++ ex).getD k 0 = s.getD k 0 := by
      simp only [List.getD_eq_getElem?_getD]
      rw [List.getElem?_append_left (by omega)]
    simp only [safeAt, safeAt_app s ex n k (by omega), e]
theorem safeAt_snoc (s : List Int) (x : Int) (n : Nat) : safeAt (s ++ [x]) n (s ++ [x]).length = if x < (n : Int) then x.toNat else safeAt s n s.length := by
  rw [List.length_append, List.length_singleton]
  have e : (s ++ [x]).getD s.length 0 = x := by simp [List.getD_eq_getElem?_getD]
  simp only [safeAt, e, safeAt_app s [x] n s.length (Nat.le_refl _)]
theorem safeAt_of (es : List Ent) (up_ n : Nat) (ht : up_ ≤ es.length) (hn : nW (es.take up_) = n) (hl : ∀ j, j < up_ → nW (es.take j) < n) : ∀ k, k ≤ es.length → safeAt (syncsOf es k) n (syncsOf es k).length = nW (es.take (syncAt es (min k up_)))
  | 0, _ => by
    rw [Nat.zero_min]
    rfl
  | k + 1, h => by
    have ih := safeAt_of es up_ n ht hn hl k (by omega)
    show safeAt (if (es.getD k eZ).s then syncsOf es k ++ [(nW (es.take k) : Int)] else syncsOf es k) n (if (es.getD k eZ).s then syncsOf es k ++ [(nW (es.take k) : Int)] else syncsOf es k).length = _
    by_cases hk : k < up_
    · have e1 : min (k + 1) up_ = k + 1 := by omega
      have e2 : min k up_ = k := by omega
      rw [e2] at ih
      rw [e1]
      show _ = nW (es.take (if (es.getD k eZ).s then k else syncAt es k))
      cases (es.getD k eZ).s
      · exact ih
      · have := hl k hk
        simp only [if_true]
        rw [safeAt_snoc, if_pos (by omega)]
        simp
    · have e1 : min (k + 1) up_ = up_ := by omega
      have e2 : min k up_ = up_ := by omega
      rw [e2] at ih
      rw [e1]
      cases (es.getD k eZ).s
      · exact ih
      · have := nW_mono es up_ k (by omega)
        simp only [if_true]
        rw [safeAt_snoc, if_neg (by omega)]
        exact ih
theorem Rel.cutat {d : Dsk} {r : RfD} (h : Rel d r) (n : Int) (keep : List Bool) (up_ : Nat) (ht : up_ ≤ r.l.length) (hn : nW (r.l.take up_) = upTo d n) (hl : ∀ j, j < up_ → nW (r.l.take j) < upTo d n) :
    Rel (leftD d (safeAt d.syncs (upTo d n) d.syncs.length) (upTo d n) keep) ⟨r.N, r.first ++ keptE (r.l.take up_) (syncAt (r.l.take up_) up_) keep up_, []⟩ := by
  have e := h.left up_ ht keep (safeAt d.syncs (upTo d n) d.syncs.length) (by
    rw [h.syncs, safeAt_of r.l up_ _ ht hn hl _ (Nat.le_refl _), Nat.min_eq_right ht, syncAt_take _ _ _ (Nat.le_refl _), List.take_take, Nat.min_eq_left (syncAt_le _ _)])
  rw [hn] at e
  exact e
theorem Rel.new (n : Int) : Rel (Dsk.new n) ⟨n, [], []⟩ := ⟨rfl, rfl, rfl, fun _ => rfl, rfl, fun e he => by simp at he, fun e he => by simp at he, fun e he => by simp at he⟩
end Dk
end Go.Proofs.Ytpbampnbgebpjaa

namespace Go.Proofs.Ytpbampnbgebpjaa
open Go.RowKit Go.Proofs.YtpbampnbgebpjaaW.PrintWords Go.Proofs.YtpbampnbgebpjaaW.PrintLast
set_option linter.unusedVariables false
set_option linter.unusedSimpArgs false
namespace Dk

theorem entRow_one {es : List Ent} {vs : List Value} (h : ∀ v ∈ vs, v.oneCell' = true) : ∀ u ∈ entRow es vs, u.oneCell' = true := by
  intro u hu
  unfold entRow at hu
  obtain ⟨p, hp, hu⟩ := List.mem_flatMap.1 hu
  simp only [List.mem_cons, List.not_mem_nil, or_false] at hu
  rcases hu with rfl | rfl | rfl
  · rfl
  · exact h _ (List.of_mem_zip hp).2
  · rfl
/-- a new disk of the document's, being filled -/
structure OutAt (B : Nat) (w : World) (N : Int) (es : List Ent) (fv : Value) (vs : List Value) : Prop where
  hR : w.heap[B]? = some (.cells #[.int .i64 N, fv, .slice none 0 0] 48 (0, 0))
  vl : vs.length = es.length
  vo : ∀ p ∈ es.zip vs, p.1.s = false → Own8 w p.2 p.1.b
  own : w.ownsRow B 64 3 fv es.length (entRow es vs)
def IsOut (B : Nat) (w : World) (N : Int) (es : List Ent) : Prop := ∃ fv vs, OutAt B w N es fv vs
theorem IsOut.rf {B base : Nat} {w : World} {N : Int} {es : List Ent} (h : IsOut B w N es) (hb : base ≤ B) : IsRf base w B ⟨N, es, []⟩ := by
  obtain ⟨fv, vs, h⟩ := h
  exact ⟨fv, _, hb, h.hR, ⟨vs, h.vl, h.vo, own_base h.own hb⟩, ⟨[], rfl, fun p hp => by simp at hp, World.ownsRow_nil _ _ _ _⟩, fun g hg => by cases hg⟩
theorem OutAt.put {B : Nat} {w w3 : World} {N : Int} {es : List Ent} {fv v1 u : Value} {vs : List Value} {x : Ent} (h : OutAt B w N es fv vs) (h3 : w3.ownsRow B 64 3 v1 (es.length + 1) (entRow es vs ++ [.int .i64 x.i, u, .bool x.s])) (hg : w.grownBy w3 fv.ownBlock) (hu : x.s = false → Own8 w u x.b)
    (hR : w3.heap[B]? = some (.cells #[.int .i64 N, fv, .slice none 0 0] 48 (0, 0))) : IsOut B (w3.setCell ⟨B, 1, none⟩ v1) N (es ++ [x]) := by
  have h8 : ∀ (g : Nat) (cur : Array Value), w.heap[g]? = some (.cells cur 5 (0, 0)) → (w3.setCell ⟨B, 1, none⟩ v1).heap[g]? = some (.cells cur 5 (0, 0)) := fun g cur hh => by
    rw [set_ne (by rintro rfl; rw [h.hR] at hh; cases hh)]
    exact (hg.block g (lt_of_heap hh) (fun q => by obtain ⟨cur', hc⟩ := (own_kind h.own q.symm).2; rw [hh] at hc; cases hc)).trans hh
  refine ⟨v1, vs ++ [u], by rw [set_at hR]; rfl, by simp [h.vl], fun p hp hs => ?_, ?_⟩
  · rw [List.zip_append h.vl.symm] at hp
    rcases List.mem_append.1 hp with hp | hp
    · exact (h.vo p hp hs).move h8
    · rw [List.zip_cons_cons, List.zip_nil_left, List.mem_singleton] at hp
      subst hp
      exact (hu hs).move h8
  · rw [entRow_snoc h.vl, List.length_append, List.length_singleton]
    exact own_move h3 fun g cur _ hh => (set_ne (by rintro rfl; rw [hR] at hh; cases hh)).trans hh
def L28a (w : World) (l : List Ent) (s i : Value) (wr : World) : Prop := ∃ k : Nat, i = .int .i64 k ∧ s = .int .i64 (syncAt l k) ∧ k ≤ l.length ∧ w = wr
def L28b (w : World) (N : Int) (rf l : List Ent) (sf : Nat) (keep : List Bool) (k i : Value) (wr : World) : Prop := ∃ j : Nat, i = .int .i64 j ∧ k = .int .i64 (nW (l.take j) - nW (l.take sf) : Nat) ∧ j ≤ l.length ∧ IsOut w.heap.size wr N (rf ++ keptE l sf keep j) ∧ Below w.heap.size w wr
theorem EntAt.up {w w' : World} {ad : Addr} {x : Ent} (h : EntAt w ad x) (hb : Below w.heap.size w w') : EntAt w' ad x := by
  obtain ⟨u, c0, c1, c2, h8⟩ := h
  exact ⟨u, cell_up c0 hb, cell_up c1 hb, cell_up c2 hb, fun hs => (h8 hs).move fun g cur hh => (hb.block g (lt_of_heap hh)).trans hh⟩
set_option maxHeartbeats 2000000 in
set_option maxRecDepth 100000 in
theorem left_ref (base : Nat) (w : World) (R : Nat) (d : RfD) (v kv : Value) (l : List Ent) (keep : List Bool) (h : IsRf base w R d) (hfs : ∀ e ∈ d.first, e.s = false) (hn : d.first.length ≤ 1000000) (hl : EntIn w v l) (hln : l.length ≤ 1000000) (hk : BoolsIn w kv keep) :
    Calls Try.prog 28 #[.pointer (some ⟨R, 0, none⟩), v, kv] w fun e w' => e = .returned (.pointer (some ⟨w.heap.size, 0, none⟩)) ∧ IsOut w.heap.size w' d.N (d.first ++ keptE l (syncAt l l.length) keep l.length) ∧ Below w.heap.size w w' := by
  obtain ⟨fv, lv, hr⟩ := h
  obtain ⟨c0, c1, _⟩ := hr.cells
  obtain ⟨vs, hvl, hvs, hown⟩ := hr.hF
  obtain ⟨fa, fc, rfl⟩ := own_slice hown
  obtain ⟨la, lc, rfl, hle⟩ := hl
  obtain ⟨ka, kc, rfl, hkl, hke⟩ := hk
  have HLE := Lib.hid hle
  have HKE := Lib.hid hke
  have HVL := Lib.hid hvl
  have HVS := Lib.hid hvs
  have HOWN := Lib.hid hown
  have HRD := Lib.hid (show Reads ((w.alloc (.cells #[.int .i64 d.N, .slice none 0 0, .slice none 0 0] 48)).drew) w.heap.size 3 fa d.first.length (entRow d.first vs) from ((Reads.of_own hown).alloc (Nat.le_refl _) _).drew)
  have HONE := Lib.hid (show ∀ u ∈ entRow d.first vs, u.oneCell' = true from entRow_one fun u hu => by
    obtain ⟨i, hi, rfl⟩ := List.mem_iff_getElem.1 hu
    have hi2 : i < d.first.length := by omega
    obtain ⟨b, hb⟩ := hvs (d.first[i], vs[i]) (List.mem_iff_getElem?.2 ⟨i, by rw [List.getElem?_zip_eq_some]; exact ⟨List.getElem?_eq_getElem hi2, List.getElem?_eq_getElem hi⟩⟩) (hfs _ (List.getElem_mem hi2))
    obtain ⟨a, c, e⟩ := own_slice hb
    show ((d.first[i], vs[i]) : Ent × Value).snd.oneCell' = true
    rw [e]
    rfl)
  have HN1 := Lib.hid hn
  obtain ⟨i0, hi0, hz0, hz1, hz2⟩ := info_parts info_ent
  have HRL := Lib.hid (lt_of_heap hr.hR)
  clear hle hke hvl hvs hown hfs hn hr
  go_enter Try.func28, Try.ntmps28
  go_wp2_with fail
  go_loopw [7, 8] (fun s i wr => L28a w l s i wr) (fun _ i _ => 1000001 - (intOf i).toNat)
  case atStart => exact ⟨0, rfl, rfl, Nat.zero_le _, rfl⟩
  case round =>
    obtain ⟨k, rfl, rfl, hk, rfl⟩ := hrel
    have hsl := syncAt_le l k
    by_cases hkl : k < l.length
    · have t1 : decide (k < l.length) = true := decide_eq_true hkl
      obtain ⟨ad, rfl, u, e0, e1, e2, _⟩ := HLE.out k hkl
      have hsy : syncAt l (k + 1) = if l[k].s then k else syncAt l k := by
        simp only [syncAt, List.getD_eq_getElem?_getD, List.getElem?_eq_getElem hkl, Option.getD_some]
      generalize l[k].s = s at e2 hsy
      generalize syncAt l k = m at hsy hsl ⊢
      have HSY := Lib.hid hsy
      clear hsy
      cases s
      · go_wp2_with fail
        go_roundw
        case rel => exact ⟨k + 1, by go_num, by rw [HSY.out]; rfl, by omega, rfl⟩
        case measure => simp [intOf]; omega
      · go_wp2_with fail
        go_roundw
        case rel => exact ⟨k + 1, by go_num, by rw [HSY.out]; rfl, by omega, rfl⟩
        case measure => simp [intOf]; omega
    · have t1 : decide (k < l.length) = false := decide_eq_false (by omega)
      have ek : k = l.length := by omega
      subst ek
      generalize hsf : syncAt l l.length = sf at hsl ⊢
      have HSF := Lib.hid hsf
      clear hsf
      have n1 : R < w.heap.size := HRL.out
      have c1' : ((w.alloc (.cells #[.int .i64 d.N, .slice none 0 0, .slice none 0 0] 48))).cell? ⟨R, 1, none⟩ = some (.slice fa d.first.length fc) := cell_al _ c1
      have c5 : ((w.alloc (.cells #[.int .i64 d.N, .slice none 0 0, .slice none 0 0] 48))).cell? ⟨w.heap.size, 1, none⟩ = some (.slice none 0 0) := by simp
      go_wp2_with fail
      refine Go.Proofs.YtpbampnbgebpjaaW.PrintLast.start_ (n := 13) (S := fun v => v.cell? ⟨w.heap.size, 1, none⟩ = some (.slice none 0 0) ∧ v.cell? ⟨R, 1, none⟩ = some (.slice fa d.first.length fc)) (ds := [12]) #[false, false, false, false, false, false, false, false, false, false, false, false, false] (by kernel_rfl) rfl rfl ⟨c5, c1'⟩ (fun hHeld => ?_)
      refine Go.Proofs.YtpbampnbgebpjaaW.PrintLast.pure_ (i := 0) (N := some 30) (v := ?_) (a' := ?_) #[true, false, false, false, false, false, false, false, false, false, false, false, false] rfl rfl (by kernel_rfl) (fun _ _ _ h => h) (Or.inl ⟨by rfl, ?_⟩) ?_ ?_
      rotate_left
      · intro w'
        go_simp
        with_reducible rfl
      rotate_left
      · simp only [Act.put, List.setIfInBounds_toArray, List.set_cons_zero, List.set_cons_succ, Go.Proofs.YtpbampnbgebpjaaW.PrintLast.i64_w, Go.Proofs.YtpbampnbgebpjaaW.PrintLast.i32_w]
        rfl
      refine Go.Proofs.YtpbampnbgebpjaaW.PrintLast.pure_ (i := 1) (N := some 31) (v := ?_) (a' := ?_) #[true, true, false, false, false, false, false, false, false, false, false, false, false] rfl rfl (by kernel_rfl) (fun _ _ _ h => h) (Or.inl ⟨by rfl, ?_⟩) ?_ ?_
      rotate_left
      · intro w'
        go_simp
        with_reducible rfl
      rotate_left
      · simp only [Act.put, List.setIfInBounds_toArray, List.set_cons_zero, List.set_cons_succ, Go.Proofs.YtpbampnbgebpjaaW.PrintLast.i64_w, Go.Proofs.YtpbampnbgebpjaaW.PrintLast.i32_w]
        rfl
      refine Go.Proofs.YtpbampnbgebpjaaW.PrintLast.pure_ (i := 2) (N := some 32) (v := ?_) (a' := ?_) #[true, true, true, false, false, false, false, false, false, false, false, false, false] rfl rfl (by kernel_rfl) (fun _ _ _ h => h) (Or.inl ⟨by rfl, ?_⟩) ?_ ?_
      rotate_left
      · intro w'
        go_simp
        with_reducible rfl
      rotate_left
      · simp only [Act.put, List.setIfInBounds_toArray, List.set_cons_zero, List.set_cons_succ, Go.Proofs.YtpbampnbgebpjaaW.PrintLast.i64_w, Go.Proofs.YtpbampnbgebpjaaW.PrintLast.i32_w]
        rfl
      refine Go.Proofs.YtpbampnbgebpjaaW.PrintLast.pure_ (i := 3) (N := some 33) (v := ?_) (a' := ?_) #[true, true, true, true, false, false, false, false, false, false, false, false, false] rfl rfl (by kernel_rfl) (fun _ _ _ h => h) (Or.inl ⟨by rfl, ?_⟩) ?_ ?_
      rotate_left
      · intro w'
        go_simp
        with_reducible rfl
      rotate_left
      · simp only [Act.put, List.setIfInBounds_toArray, List.set_cons_zero, List.set_cons_succ, Go.Proofs.YtpbampnbgebpjaaW.PrintLast.i64_w, Go.Proofs.YtpbampnbgebpjaaW.PrintLast.i32_w]
        rfl
      refine Go.Proofs.YtpbampnbgebpjaaW.PrintLast.take_ (i := 4) (N := some 34) (v := ?_) (a' := ?_) #[true, true, true, true, true, false, false, false, false, false, false, false, false] rfl rfl (by kernel_rfl) (fun _ _ _ h => h) (Or.inl ⟨by rfl, ?_⟩) hHeld ?_ ?_
      rotate_left
      · rintro w' ⟨s0, s1⟩
        go_simp
        with_reducible rfl
      rotate_left
      · simp only [Act.put, List.setIfInBounds_toArray, List.set_cons_zero, List.set_cons_succ, Go.Proofs.YtpbampnbgebpjaaW.PrintLast.i64_w, Go.Proofs.YtpbampnbgebpjaaW.PrintLast.i32_w]
        rfl
      refine Go.Proofs.YtpbampnbgebpjaaW.PrintLast.pure_ (i := 5) (N := some 35) (v := ?_) (a' := ?_) #[true, true, true, true, true, true, false, false, false, false, false, false, false] rfl rfl (by kernel_rfl) (fun _ _ _ h => h) (Or.inl ⟨by rfl, ?_⟩) ?_ ?_
      rotate_left
      · intro w'
        go_simp
        with_reducible rfl
      rotate_left
      · simp only [Act.put, List.setIfInBounds_toArray, List.set_cons_zero, List.set_cons_succ, Go.Proofs.YtpbampnbgebpjaaW.PrintLast.i64_w, Go.Proofs.YtpbampnbgebpjaaW.PrintLast.i32_w]
        rfl
      refine Go.Proofs.YtpbampnbgebpjaaW.PrintLast.pure_ (i := 6) (N := some 36) (v := ?_) (a' := ?_) #[true, true, true, true, true, true, true, false, false, false, false, false, false] rfl rfl (by kernel_rfl) (fun _ _ _ h => h) (Or.inl ⟨by rfl, ?_⟩) ?_ ?_
      rotate_left
      · intro w'
        go_simp
        with_reducible rfl
      rotate_left
      · simp only [Act.put, List.setIfInBounds_toArray, List.set_cons_zero, List.set_cons_succ, Go.Proofs.YtpbampnbgebpjaaW.PrintLast.i64_w, Go.Proofs.YtpbampnbgebpjaaW.PrintLast.i32_w]
        rfl
      refine Go.Proofs.YtpbampnbgebpjaaW.PrintLast.pure_ (i := 7) (N := some 37) (v := ?_) (a' := ?_) #[true, true, true, true, true, true, true, true, false, false, false, false, false] rfl rfl (by kernel_rfl) (fun _ _ _ h => h) (Or.inl ⟨by rfl, ?_⟩) ?_ ?_
      rotate_left
      · intro w'
        go_simp
        with_reducible rfl
      rotate_left
      · simp only [Act.put, List.setIfInBounds_toArray, List.set_cons_zero, List.set_cons_succ, Go.Proofs.YtpbampnbgebpjaaW.PrintLast.i64_w, Go.Proofs.YtpbampnbgebpjaaW.PrintLast.i32_w]
        rfl
      refine Go.Proofs.YtpbampnbgebpjaaW.PrintLast.take_ (i := 8) (N := some 38) (v := ?_) (a' := ?_) #[true, true, true, true, true, true, true, true, true, false, false, false, false] rfl rfl (by kernel_rfl) (fun _ _ _ h => h) (Or.inl ⟨by rfl, ?_⟩) hHeld ?_ ?_
      rotate_left
      · rintro w' ⟨s0, s1⟩
        go_simp
        with_reducible rfl
      rotate_left
      · simp only [Act.put, List.setIfInBounds_toArray, List.set_cons_zero, List.set_cons_succ, Go.Proofs.YtpbampnbgebpjaaW.PrintLast.i64_w, Go.Proofs.YtpbampnbgebpjaaW.PrintLast.i32_w]
        rfl
      refine Go.Proofs.YtpbampnbgebpjaaW.PrintLast.one_ (i := 9) (N := some 39) #[true, true, true, true, true, true, true, true, true, true, false, false, false] rfl rfl (by kernel_rfl) (by decide) (fun K hK => ?_)
      refine step_append_any (w := ((w.alloc (.cells #[.int .i64 d.N, .slice none 0 0, .slice none 0 0] 48)).drew)) rfl (.tmp 34) (.tmp 38) 46 rfl w.heap.size 64 i0 _ 3 40 Try.underlying46 hi0 hz0 hz1 hz2 rfl (by omega) (.slice none 0 0) 0 [] rfl (World.ownsRow_nil _ _ _ _) w.heap.size fa d.first.length fc (entRow d.first vs) rfl HRD.out HONE.out (by have := HN1.out; simp only [maxLen]; omega) (by have := HN1.out; omega) (by simp) ?_
      intro v1 w3 h3 hg hat
      rewrite [Nat.zero_add, List.nil_append] at h3
      obtain ⟨na, nc, rfl⟩ := own_slice h3
      have H3 := Lib.hid h3
      have HG := Lib.hid hg
      clear h3 hg
      have q1 : w3.heap[w.heap.size]? = some (.cells #[.int .i64 d.N, .slice none 0 0, .slice none 0 0] 48 (0, 0)) := (HG.out.block _ (by simp) (by simp [Value.ownBlock])).trans (World.alloc_heap_new w _)
      have q2 : w3.cell? ⟨R, 1, none⟩ = some (.slice fa d.first.length fc) := HG.out.cell hHeld.2 (by simp [Value.ownBlock])
      have hf3 : w3.frozen? ⟨w.heap.size, 1, none⟩ = false := free_of q1
      have hc3 : w3.cell? ⟨w.heap.size, 1, none⟩ = some (.slice none 0 0) := cell_of q1 rfl
      have HQ1 := Lib.hid q1
      clear q1
      refine hK.out _ _ ⟨hc3, q2⟩ (fun hHeld => ?_)
      clear hK K
      refine Go.Proofs.YtpbampnbgebpjaaW.PrintLast.norm_ (a' := ?_) ?_ ?_
      rotate_left
      · show Act.put _ (some 39) _ = _
        simp only [Act.put, List.setIfInBounds_toArray, List.set_cons_zero, List.set_cons_succ, Go.Proofs.YtpbampnbgebpjaaW.PrintLast.i64_w, Go.Proofs.YtpbampnbgebpjaaW.PrintLast.i32_w]
        rfl
      refine Go.Proofs.YtpbampnbgebpjaaW.PrintLast.pure_ (i := 10) (N := some 40) (v := ?_) (a' := ?_) #[true, true, true, true, true, true, true, true, true, true, true, false, false] rfl rfl (by kernel_rfl) (fun _ _ _ h => h) (Or.inl ⟨by rfl, ?_⟩) ?_ ?_
      rotate_left
      · intro w'
        go_simp
        with_reducible rfl
      rotate_left
      · simp only [Act.put, List.setIfInBounds_toArray, List.set_cons_zero, List.set_cons_succ, Go.Proofs.YtpbampnbgebpjaaW.PrintLast.i64_w, Go.Proofs.YtpbampnbgebpjaaW.PrintLast.i32_w]
        rfl
      refine Go.Proofs.YtpbampnbgebpjaaW.PrintLast.pure_ (i := 11) (N := some 41) (v := ?_) (a' := ?_) #[true, true, true, true, true, true, true, true, true, true, true, true, false] rfl rfl (by kernel_rfl) (fun _ _ _ h => h) (Or.inl ⟨by rfl, ?_⟩) ?_ ?_
      rotate_left
      · intro w'
        go_simp
        with_reducible rfl
      rotate_left
      · simp only [Act.put, List.setIfInBounds_toArray, List.set_cons_zero, List.set_cons_succ, Go.Proofs.YtpbampnbgebpjaaW.PrintLast.i64_w, Go.Proofs.YtpbampnbgebpjaaW.PrintLast.i32_w]
        rfl
      refine Go.Proofs.YtpbampnbgebpjaaW.PrintLast.last_ (i := 12) (N := none) #[true, true, true, true, true, true, true, true, true, true, true, true, true] rfl rfl (by kernel_rfl) (by decide) (fun K hK => ?_)
      refine Go.Proofs.YtpbampnbgebpjaaW.PrintLast.skip_ (w1 := w3.setCell ⟨w.heap.size, 1, none⟩ (.slice na d.first.length nc)) (by rfl) rfl (by go_simp) ?_
      refine hK.out _ _ ?_
      clear hK K
      refine Go.Proofs.YtpbampnbgebpjaaW.PrintLast.done_ (by kernel_rfl) ?_
      go_wp2_with fail
      have HOUT := Lib.hid (show IsOut w.heap.size (w3.setCell ⟨w.heap.size, 1, none⟩ (.slice na d.first.length nc)) d.N d.first from by
        have h3 := H3.out
        refine ⟨_, vs, ?_, HVL.out, fun p hp hs => (HVS.out p hp hs).move fun g cur hh => ?_, own_move h3 fun g cur _ hh => (set_ne (by rintro rfl; rw [HQ1.out] at hh; cases hh)).trans hh⟩
        · rw [set_at HQ1.out]; rfl
        · rw [set_ne (by have := lt_of_heap hh; omega)]
          exact (HG.out.block _ (by simp; exact Nat.lt_succ_of_lt (lt_of_heap hh)) (by simp [Value.ownBlock])).trans (((World.grownBy_alloc w _ none).block g (lt_of_heap hh) (by simp)).trans hh))
      have HBEL := Lib.hid (show Below w.heap.size w (w3.setCell ⟨w.heap.size, 1, none⟩ (.slice na d.first.length nc)) from by
        have hb := (((Below.refl w.heap.size w).alloc (Nat.le_refl _) (.cells #[.int .i64 d.N, .slice none 0 0, .slice none 0 0] 48)).drew).grown HG.out (by simp) (fun k hk => by cases hk)
        exact hb.setCell (p := ⟨w.heap.size, 1, none⟩) (Nat.le_refl _) _)
      clear HG H3 HQ1 HVS HVL HOWN HRD HONE q2 hf3 hc3 c5 c1' c0 c1
      go_loopw [10, 11] (fun k i wr => L28b w d.N d.first l sf keep k i wr) (fun _ i _ => 1000001 - (intOf i).toNat)
      case atStart => exact ⟨0, rfl, by simp [nW], Nat.zero_le _, by simpa [keptE] using HOUT.out, HBEL.out⟩
      case round =>
        obtain ⟨i, rfl, rfl, hi, ho, hbb⟩ := hrel
        have HO := Lib.hid ho
        have HBB := Lib.hid hbb
        clear ho hbb HOUT HBEL t1
        by_cases hil : i < l.length
        · have t1 : decide (i < l.length) = true := decide_eq_true hil
          obtain ⟨ad, rfl, he⟩ := HLE.out i hil
          have he' := he.up HBB.out
          have hblk : (ad.add (i * 3)).block < w.heap.size := by obtain ⟨_, q0, _⟩ := he; exact World.block_lt_of_cell? w _ q0
          have eg : l.getD i eZ = l[i] := by rw [List.getD_eq_getElem?_getD, List.getElem?_eq_getElem hil]; rfl
          have HEG := Lib.hid eg
          have HKP := Lib.hid (show keptE l sf keep (i + 1) = if l[i].s = false ∧ keptB l sf keep i = true then keptE l sf keep i ++ [l[i]] else keptE l sf keep i from by simp only [keptE]; rw [eg])
          have HNT := Lib.hid (show nW (l.take (i + 1)) = nW (l.take i) + if l[i].s then 0 else 1 from nW_take l i hil)
          have HMO := Lib.hid (show i < sf → nW (l.take i) + (if l[i].s then 0 else 1) ≤ nW (l.take sf) from fun q => by rw [← nW_take l i hil]; exact nW_mono l (i + 1) sf q)
          have HMO2 := Lib.hid (show sf ≤ i → nW (l.take sf) ≤ nW (l.take i) from fun q => nW_mono l sf i q)
          have HNL := Lib.hid (show nW (l.take i) ≤ 1000000 from Nat.le_trans (nW_le _) (by rw [List.length_take]; omega))
          have HKB := Lib.hid (show keptB l sf keep i = (decide (i < sf) || (decide (nW (l.take i) - nW (l.take sf) < keep.length) && keep.getD (nW (l.take i) - nW (l.take sf)) false)) from rfl)
          have HLEN := Lib.hid (show (d.first ++ keptE l sf keep i).length ≤ 2000000 by rw [List.length_append]; have := keptE_len l sf keep i; have := HN1.out; omega)
          clear he eg
          obtain ⟨eu, e0, e1, e2, h8⟩ := he'
          generalize l[i] = x at e0 e1 e2 h8 HKP HNT HMO
          obtain ⟨xi, xb, xs⟩ := x
          simp only at e0 e2
          have H8 := Lib.hid h8
          clear h8
          generalize hj : nW (l.take i) - nW (l.take sf) = j at HKB ⊢
          have HJ := Lib.hid hj
          clear hj
          cases xs
          · have H8b := Lib.hid (show Own8 wr eu xb from H8.out rfl)
            obtain ⟨b8, hb8⟩ := H8.out rfl
            obtain ⟨ua, uc, rfl⟩ := own_slice hb8
            clear hb8
            obtain ⟨ov, vs2, hO⟩ := HO.out
            obtain ⟨oa, oc, rfl⟩ := own_slice hO.own
            have o1 : wr.cell? ⟨w.heap.size, 1, none⟩ = some (.slice oa (d.first ++ keptE l sf keep i).length oc) := cell_of hO.hR rfl
            have HOA := Lib.hid hO
            have OWN := Lib.hid hO.own
            have HOB := Lib.hid hO.hR
            have HBS := Lib.hid (show w.heap.size ≤ wr.drew.heap.size from HBB.out.size)
            have HNB := Lib.hid (show some (ad.add (i * 3)).block ≠ (Value.slice oa (d.first ++ keptE l sf keep i).length oc).ownBlock from fun q => by
              have h1 := (own_kind OWN.out q.symm).1
              omega)
            clear hO
            generalize hes : d.first ++ keptE l sf keep i = es at o1 HLEN HOA OWN HNB HOB
            have HES := Lib.hid hes
            clear hes
            have n2 : w.heap.size < wr.heap.size := lt_of_heap HOB.out
            by_cases hs : i < sf
            · have t2 : decide (i < sf) = true := decide_eq_true hs
              have t3 : decide (sf ≤ i) = false := decide_eq_false (by omega)
              have HKT := Lib.hid (show keptB l sf keep i = true by rw [HKB.out, t2]; rfl)
              go_wp2_with fail
              refine Go.Proofs.YtpbampnbgebpjaaW.PrintLast.start_ (n := 14) (S := fun v => v.cell? ⟨w.heap.size, 1, none⟩ = some (.slice oa es.length oc) ∧ v.cell? (ad.add (i * 3)) = some (.int .i64 xi) ∧ v.cell? ⟨(ad.add (i * 3)).block, (ad.add (i * 3)).off + 1, none⟩ = some (.slice ua 128 uc) ∧ v.cell? ⟨(ad.add (i * 3)).block, (ad.add (i * 3)).off + 2, none⟩ = some (.bool false)) (ds := [13]) #[false, false, false, false, false, false, false, false, false, false, false, false, false, false] (by kernel_rfl) rfl rfl ⟨o1, e0, e1, e2⟩ (fun hHeld => ?_)
              refine Go.Proofs.YtpbampnbgebpjaaW.PrintLast.pure_ (i := 0) (N := some 68) (v := ?_) (a' := ?_) #[true, false, false, false, false, false, false, false, false, false, false, false, false, false] rfl rfl (by kernel_rfl) (fun _ _ _ h => h) (Or.inl ⟨by rfl, ?_⟩) ?_ ?_
              rotate_left
              · intro w'
                go_simp
                with_reducible rfl
              rotate_left
              · simp only [Act.put, List.setIfInBounds_toArray, List.set_cons_zero, List.set_cons_succ, Go.Proofs.YtpbampnbgebpjaaW.PrintLast.i64_w, Go.Proofs.YtpbampnbgebpjaaW.PrintLast.i32_w]
                rfl
              refine Go.Proofs.YtpbampnbgebpjaaW.PrintLast.pure_ (i := 1) (N := some 69) (v := ?_) (a' := ?_) #[true, true, false, false, false, false, false, false, false, false, false, false, false, false] rfl rfl (by kernel_rfl) (fun _ _ _ h => h) (Or.inl ⟨by rfl, ?_⟩) ?_ ?_
              rotate_left
              · intro w'
                go_simp
                with_reducible rfl
              rotate_left
              · simp only [Act.put, List.setIfInBounds_toArray, List.set_cons_zero, List.set_cons_succ, Go.Proofs.YtpbampnbgebpjaaW.PrintLast.i64_w, Go.Proofs.YtpbampnbgebpjaaW.PrintLast.i32_w]
                rfl
              refine Go.Proofs.YtpbampnbgebpjaaW.PrintLast.pure_ (i := 2) (N := some 70) (v := ?_) (a' := ?_) #[true, true, true, false, false, false, false, false, false, false, false, false, false, false] rfl rfl (by kernel_rfl) (fun _ _ _ h => h) (Or.inl ⟨by rfl, ?_⟩) ?_ ?_
              rotate_left
              · intro w'
                go_simp
                with_reducible rfl
              rotate_left
              · simp only [Act.put, List.setIfInBounds_toArray, List.set_cons_zero, List.set_cons_succ, Go.Proofs.YtpbampnbgebpjaaW.PrintLast.i64_w, Go.Proofs.YtpbampnbgebpjaaW.PrintLast.i32_w]
                rfl
              refine Go.Proofs.YtpbampnbgebpjaaW.PrintLast.pure_ (i := 3) (N := some 71) (v := ?_) (a' := ?_) #[true, true, true, true, false, false, false, false, false, false, false, false, false, false] rfl rfl (by kernel_rfl) (fun _ _ _ h => h) (Or.inl ⟨by rfl, ?_⟩) ?_ ?_
              rotate_left
              · intro w'
                go_simp
                with_reducible rfl
              rotate_left
              · simp only [Act.put, List.setIfInBounds_toArray, List.set_cons_zero, List.set_cons_succ, Go.Proofs.YtpbampnbgebpjaaW.PrintLast.i64_w, Go.Proofs.YtpbampnbgebpjaaW.PrintLast.i32_w]
                rfl
              refine Go.Proofs.YtpbampnbgebpjaaW.PrintLast.take_ (i := 4) (N := some 72) (v := ?_) (a' := ?_) #[true, true, true, true, true, false, false, false, false, false, false, false, false, false] rfl rfl (by kernel_rfl) (fun _ _ _ h => h) (Or.inl ⟨by rfl, ?_⟩) hHeld ?_ ?_
              rotate_left
              · rintro w' ⟨s0, s1, s2, s3⟩
                go_simp
                with_reducible rfl
              rotate_left
              · simp only [Act.put, List.setIfInBounds_toArray, List.set_cons_zero, List.set_cons_succ, Go.Proofs.YtpbampnbgebpjaaW.PrintLast.i64_w, Go.Proofs.YtpbampnbgebpjaaW.PrintLast.i32_w]
                rfl
              refine Go.Proofs.YtpbampnbgebpjaaW.PrintLast.pure_ (i := 5) (N := some 73) (v := ?_) (a' := ?_) #[true, true, true, true, true, true, false, false, false, false, false, false, false, false] rfl rfl (by kernel_rfl) (fun _ _ _ h => h) (Or.inl ⟨by rfl, ?_⟩) ?_ ?_
              rotate_left
              · intro w'
                go_simp
                with_reducible rfl
              rotate_left
              · simp only [Act.put, List.setIfInBounds_toArray, List.set_cons_zero, List.set_cons_succ, Go.Proofs.YtpbampnbgebpjaaW.PrintLast.i64_w, Go.Proofs.YtpbampnbgebpjaaW.PrintLast.i32_w]
                rfl
              refine Go.Proofs.YtpbampnbgebpjaaW.PrintLast.pure_ (i := 6) (N := some 74) (v := ?_) (a' := ?_) #[true, true, true, true, true, true, true, false, false, false, false, false, false, false] rfl rfl (by kernel_rfl) (fun _ _ _ h => h) (Or.inl ⟨by rfl, ?_⟩) ?_ ?_
              rotate_left
              · intro w'
                go_simp
                with_reducible rfl
              rotate_left
              · simp only [Act.put, List.setIfInBounds_toArray, List.set_cons_zero, List.set_cons_succ, Go.Proofs.YtpbampnbgebpjaaW.PrintLast.i64_w, Go.Proofs.YtpbampnbgebpjaaW.PrintLast.i32_w]
                rfl
              refine Go.Proofs.YtpbampnbgebpjaaW.PrintLast.pure_ (i := 7) (N := some 75) (v := ?_) (a' := ?_) #[true, true, true, true, true, true, true, true, false, false, false, false, false, false] rfl rfl (by kernel_rfl) (fun _ _ _ h => h) (Or.inl ⟨by rfl, ?_⟩) ?_ ?_
              rotate_left
              · intro w'
                go_simp
                with_reducible rfl
              rotate_left
              · simp only [Act.put, List.setIfInBounds_toArray, List.set_cons_zero, List.set_cons_succ, Go.Proofs.YtpbampnbgebpjaaW.PrintLast.i64_w, Go.Proofs.YtpbampnbgebpjaaW.PrintLast.i32_w]
                rfl
              refine Go.Proofs.YtpbampnbgebpjaaW.PrintLast.take_ (i := 8) (N := some 76) (v := ?_) (a' := ?_) #[true, true, true, true, true, true, true, true, true, false, false, false, false, false] rfl rfl (by kernel_rfl) (fun _ _ _ h => h) (Or.inl ⟨by rfl, ?_⟩) hHeld ?_ ?_
              rotate_left
              · rintro w' ⟨s0, s1, s2, s3⟩
                go_simp
                with_reducible rfl
              rotate_left
              · simp only [Act.put, List.setIfInBounds_toArray, List.set_cons_zero, List.set_cons_succ, Go.Proofs.YtpbampnbgebpjaaW.PrintLast.i64_w, Go.Proofs.YtpbampnbgebpjaaW.PrintLast.i32_w]
                rfl
              refine Go.Proofs.YtpbampnbgebpjaaW.PrintLast.one_ (i := 9) (N := some 77) #[true, true, true, true, true, true, true, true, true, true, false, false, false, false] rfl rfl (by kernel_rfl) (by decide) (fun K hK => ?_)
              refine Go.Proofs.YtpbampnbgebpjaaW.PrintLast.value_ (w1 := wr.drew.alloc (.cells #[.int .i64 xi, .slice ua 128 uc, .bool false] 64)) (v := .slice (some ⟨wr.heap.size, 0, none⟩) 1 1) (by rfl) rfl (by go_simp) ?_
              have hHeld9 := hHeld
              refine hK.out _ _ ⟨cell_al _ hHeld.1, cell_al _ hHeld.2.1, cell_al _ hHeld.2.2.1, cell_al _ hHeld.2.2.2⟩ (fun hHeld => ?_)
              clear hK K
              refine Go.Proofs.YtpbampnbgebpjaaW.PrintLast.norm_ (a' := ?_) ?_ ?_
              rotate_left
              · show Act.put _ (some 77) _ = _
                simp only [Act.put, List.setIfInBounds_toArray, List.set_cons_zero, List.set_cons_succ, Go.Proofs.YtpbampnbgebpjaaW.PrintLast.i64_w, Go.Proofs.YtpbampnbgebpjaaW.PrintLast.i32_w]
                rfl
              refine Go.Proofs.YtpbampnbgebpjaaW.PrintLast.one_ (i := 10) (N := some 78) #[true, true, true, true, true, true, true, true, true, true, true, false, false, false] rfl rfl (by kernel_rfl) (by decide) (fun K hK => ?_)
              refine step_append_cells (w0 := wr.drew) (W := wr.drew) w.heap.size (by rfl) (.tmp 72) (.tmp 77) 46 64 (.agg #[.int .i64 0, .slice none 0 0, .bool false]) 3 40 rfl Try.underlying46 info_ent (by rfl) (by decide) (by decide) (.slice oa es.length oc) es.length (entRow es vs2) [.int .i64 xi, .slice ua 128 uc, .bool false] (by rfl) (by rfl) (by rfl) (by intro u hu; simp only [List.mem_cons, List.not_mem_nil, or_false] at hu; rcases hu with rfl | rfl | rfl <;> rfl) (own_move OWN.out (fun g cur _ hg => hg)) (Below.refl _ _) HBS.out (by have := HLEN.out; omega) (fun v1 w3 h3 _ hg hat => ?_)
              obtain ⟨na, nc, rfl⟩ := own_slice h3
              have H3 := Lib.hid h3
              have HG := Lib.hid hg
              clear h3 hg hat
              have q1 : w3.heap[w.heap.size]? = some (.cells #[.int .i64 d.N, .slice oa es.length oc, .slice none 0 0] 48 (0, 0)) := (HG.out.block _ (lt_of_heap HOB.out) (fun q => by obtain ⟨cur, hc⟩ := (own_kind OWN.out q.symm).2; rw [HOB.out] at hc; cases hc)).trans HOB.out
              have hf3 : w3.frozen? ⟨w.heap.size, 1, none⟩ = false := free_of q1
              have hc3 : w3.cell? ⟨w.heap.size, 1, none⟩ = some (.slice oa es.length oc) := cell_of q1 rfl
              have HQ1 := Lib.hid q1
              clear q1
              have g1 := HG.out.cell hHeld9.2.1 HNB.out
              have g2 := HG.out.cell hHeld9.2.2.1 HNB.out
              have g3 := HG.out.cell hHeld9.2.2.2 HNB.out
              refine hK.out _ _ ⟨hc3, g1, g2, g3⟩ (fun hHeld => ?_)
              clear hK K
              refine Go.Proofs.YtpbampnbgebpjaaW.PrintLast.norm_ (a' := ?_) ?_ ?_
              rotate_left
              · show Act.put _ (some 78) _ = _
                simp only [Act.put, List.setIfInBounds_toArray, List.set_cons_zero, List.set_cons_succ, Go.Proofs.YtpbampnbgebpjaaW.PrintLast.i64_w, Go.Proofs.YtpbampnbgebpjaaW.PrintLast.i32_w]
                rfl
              refine Go.Proofs.YtpbampnbgebpjaaW.PrintLast.pure_ (i := 11) (N := some 79) (v := ?_) (a' := ?_) #[true, true, true, true, true, true, true, true, true, true, true, true, false, false] rfl rfl (by kernel_rfl) (fun _ _ _ h => h) (Or.inl ⟨by rfl, ?_⟩) ?_ ?_
              rotate_left
              · intro w'
                go_simp
                with_reducible rfl
              rotate_left
              · simp only [Act.put, List.setIfInBounds_toArray, List.set_cons_zero, List.set_cons_succ, Go.Proofs.YtpbampnbgebpjaaW.PrintLast.i64_w, Go.Proofs.YtpbampnbgebpjaaW.PrintLast.i32_w]
                rfl
              refine Go.Proofs.YtpbampnbgebpjaaW.PrintLast.pure_ (i := 12) (N := some 80) (v := ?_) (a' := ?_) #[true, true, true, true, true, true, true, true, true, true, true, true, true, false] rfl rfl (by kernel_rfl) (fun _ _ _ h => h) (Or.inl ⟨by rfl, ?_⟩) ?_ ?_
              rotate_left
              · intro w'
                go_simp
                with_reducible rfl
              rotate_left
              · simp only [Act.put, List.setIfInBounds_toArray, List.set_cons_zero, List.set_cons_succ, Go.Proofs.YtpbampnbgebpjaaW.PrintLast.i64_w, Go.Proofs.YtpbampnbgebpjaaW.PrintLast.i32_w]
                rfl
              refine Go.Proofs.YtpbampnbgebpjaaW.PrintLast.last_ (i := 13) (N := none) #[true, true, true, true, true, true, true, true, true, true, true, true, true, true] rfl rfl (by kernel_rfl) (by decide) (fun K hK => ?_)
              refine Go.Proofs.YtpbampnbgebpjaaW.PrintLast.skip_ (w1 := w3.setCell ⟨w.heap.size, 1, none⟩ (.slice na (es.length + 1) nc)) (by rfl) rfl (by go_simp) ?_
              refine hK.out _ _ ?_
              clear hK K
              refine Go.Proofs.YtpbampnbgebpjaaW.PrintLast.done_ (by kernel_rfl) ?_
              go_wp2_with fail
              have HPUT := Lib.hid (OutAt.put (x := ⟨xi, xb, false⟩) (w := wr) HOA.out H3.out ⟨HG.out.os, HG.out.tape, HG.out.output, HG.out.size, HG.out.block⟩ (fun _ => H8b.out) HQ1.out)
              have HB3 := Lib.hid (((HBB.out.drew).grown HG.out HBB.out.size (fun k hk => (own_kind OWN.out hk).1)).setCell (p := ⟨w.heap.size, 1, none⟩) (Nat.le_refl _) (.slice na (es.length + 1) nc))
              go_roundw
              case rel => exact ⟨i + 1, by go_num, by have a := HNT.out; have b := HMO.out hs; have c := HJ.out; simp only [Bool.false_eq_true, if_false] at a b; exact congrArg (Value.int .i64) (by omega), by omega, by rw [HKP.out, if_pos ⟨by first | rfl | trivial, HKT.out⟩, ← List.append_assoc, HES.out]; exact HPUT.out, HB3.out⟩
              case measure => simp [intOf]; omega
            · have t2 : decide (i < sf) = false := decide_eq_false hs
              have t3 : decide (sf ≤ i) = true := decide_eq_true (by omega)
              have hj2 : j ≤ 1000000 := by have a := HJ.out; have b := HNL.out; omega
              by_cases hjl : j < keep.length
              · have t4 : decide (j < keep.length) = true := decide_eq_true hjl
                obtain ⟨kad, rfl, hkc⟩ := HKE.out j hjl
                have k0 := cell_up hkc HBB.out
                clear hkc
                cases hkv : keep.getD j false
                · rw [hkv] at k0
                  have HKT := Lib.hid (show keptB l sf keep i = false by rw [HKB.out, t2, t4, hkv]; rfl)
                  clear hkv
                  go_wp2_with fail
                  go_roundw
                  case rel => exact ⟨i + 1, by go_num, by have a := HNT.out; have b := HMO2.out (Nat.le_of_not_lt hs); have c := HJ.out; simp only [Bool.false_eq_true, if_false] at a; exact congrArg (Value.int .i64) (by omega), by omega, by rw [HKP.out, if_neg (fun q => by rw [HKT.out] at q; cases q.2)]; exact HO.out, HBB.out⟩
                  case measure => simp [intOf]; omega
                · rw [hkv] at k0
                  have HKT := Lib.hid (show keptB l sf keep i = true by rw [HKB.out, t2, t4, hkv]; rfl)
                  clear hkv
                  go_wp2_with fail
                  refine Go.Proofs.YtpbampnbgebpjaaW.PrintLast.start_ (n := 14) (S := fun v => v.cell? ⟨w.heap.size, 1, none⟩ = some (.slice oa es.length oc) ∧ v.cell? (ad.add (i * 3)) = some (.int .i64 xi) ∧ v.cell? ⟨(ad.add (i * 3)).block, (ad.add (i * 3)).off + 1, none⟩ = some (.slice ua 128 uc) ∧ v.cell? ⟨(ad.add (i * 3)).block, (ad.add (i * 3)).off + 2, none⟩ = some (.bool false)) (ds := [13]) #[false, false, false, false, false, false, false, false, false, false, false, false, false, false] (by kernel_rfl) rfl rfl ⟨o1, e0, e1, e2⟩ (fun hHeld => ?_)
                  refine Go.Proofs.YtpbampnbgebpjaaW.PrintLast.pure_ (i := 0) (N := some 68) (v := ?_) (a' := ?_) #[true, false, false, false, false, false, false, false, false, false, false, false, false, false] rfl rfl (by kernel_rfl) (fun _ _ _ h => h) (Or.inl ⟨by rfl, ?_⟩) ?_ ?_
                  rotate_left
                  · intro w'
                    go_simp
                    with_reducible rfl
                  rotate_left
                  · simp only [Act.put, List.setIfInBounds_toArray, List.set_cons_zero, List.set_cons_succ, Go.Proofs.YtpbampnbgebpjaaW.PrintLast.i64_w, Go.Proofs.YtpbampnbgebpjaaW.PrintLast.i32_w]
                    rfl
                  refine Go.Proofs.YtpbampnbgebpjaaW.PrintLast.pure_ (i := 1) (N := some 69) (v := ?_) (a' := ?_) #[true, true, false, false, false, false, false, false, false, false, false, false, false, false] rfl rfl (by kernel_rfl) (fun _ _ _ h => h) (Or.inl ⟨by rfl, ?_⟩) ?_ ?_
                  rotate_left
                  · intro w'
                    go_simp
                    with_reducible rfl
                  rotate_left
                  · simp only [Act.put, List.setIfInBounds_toArray, List.set_cons_zero, List.set_cons_succ, Go.Proofs.YtpbampnbgebpjaaW.PrintLast.i64_w, Go.Proofs.YtpbampnbgebpjaaW.PrintLast.i32_w]
                    rfl
                  refine Go.Proofs.YtpbampnbgebpjaaW.PrintLast.pure_ (i := 2) (N := some 70) (v := ?_) (a' := ?_) #[true, true, true, false, false, false, false, false, false, false, false, false, false, false] rfl rfl (by kernel_rfl) (fun _ _ _ h => h) (Or.inl ⟨by rfl, ?_⟩) ?_ ?_
                  rotate_left
                  · intro w'
                    go_simp
                    with_reducible rfl
                  rotate_left
                  · simp only [Act.put, List.setIfInBounds_toArray, List.set_cons_zero, List.set_cons_succ, Go.Proofs.YtpbampnbgebpjaaW.PrintLast.i64_w, Go.Proofs.YtpbampnbgebpjaaW.PrintLast.i32_w]
                    rfl
                  refine Go.Proofs.YtpbampnbgebpjaaW.PrintLast.pure_ (i := 3) (N := some 71) (v := ?_) (a' := ?_) #[true, true, true, true, false, false, false, false, false, false, false, false, false, false] rfl rfl (by kernel_rfl) (fun _ _ _ h => h) (Or.inl ⟨by rfl, ?_⟩) ?_ ?_
                  rotate_left
                  · intro w'
                    go_simp
                    with_reducible rfl
                  rotate_left
                  · simp only [Act.put, List.setIfInBounds_toArray, List.set_cons_zero, List.set_cons_succ, Go.Proofs.YtpbampnbgebpjaaW.PrintLast.i64_w, Go.Proofs.YtpbampnbgebpjaaW.PrintLast.i32_w]
                    rfl
                  refine Go.Proofs.YtpbampnbgebpjaaW.PrintLast.take_ (i := 4) (N := some 72) (v := ?_) (a' := ?_) #[true, true, true, true, true, false, false, false, false, false, false, false, false, false] rfl rfl (by kernel_rfl) (fun _ _ _ h => h) (Or.inl ⟨by rfl, ?_⟩) hHeld ?_ ?_
                  rotate_left
                  · rintro w' ⟨s0, s1, s2, s3⟩
                    go_simp
                    with_reducible rfl
                  rotate_left
                  · simp only [Act.put, List.setIfInBounds_toArray, List.set_cons_zero, List.set_cons_succ, Go.Proofs.YtpbampnbgebpjaaW.PrintLast.i64_w, Go.Proofs.YtpbampnbgebpjaaW.PrintLast.i32_w]
                    rfl
                  refine Go.Proofs.YtpbampnbgebpjaaW.PrintLast.pure_ (i := 5) (N := some 73) (v := ?_) (a' := ?_) #[true, true, true, true, true, true, false, false, false, false, false, false, false, false] rfl rfl (by kernel_rfl) (fun _ _ _ h => h) (Or.inl ⟨by rfl, ?_⟩) ?_ ?_
                  rotate_left
                  · intro w'
                    go_simp
                    with_reducible rfl
                  rotate_left
                  · simp only [Act.put, List.setIfInBounds_toArray, List.set_cons_zero, List.set_cons_succ, Go.Proofs.YtpbampnbgebpjaaW.PrintLast.i64_w, Go.Proofs.YtpbampnbgebpjaaW.PrintLast.i32_w]
                    rfl
                  refine Go.Proofs.YtpbampnbgebpjaaW.PrintLast.pure_ (i := 6) (N := some 74) (v := ?_) (a' := ?_) #[true, true, true, true, true, true, true, false, false, false, false, false, false, false] rfl rfl (by kernel_rfl) (fun _ _ _ h => h) (Or.inl ⟨by rfl, ?_⟩) ?_ ?_
                  rotate_left
                  · intro w'
                    go_simp
                    with_reducible rfl
                  rotate_left
                  · simp only [Act.put, List.setIfInBounds_toArray, List.set_cons_zero, List.set_cons_succ, Go.Proofs.YtpbampnbgebpjaaW.PrintLast.i64_w, Go.Proofs.YtpbampnbgebpjaaW.PrintLast.i32_w]
                    rfl
                  refine Go.Proofs.YtpbampnbgebpjaaW.PrintLast.pure_ (i := 7) (N := some 75) (v := ?_) (a' := ?_) #[true, true, true, true, true, true, true, true, false, false, false, false, false, false] rfl rfl (by kernel_rfl) (fun _ _ _ h => h) (Or.inl ⟨by rfl, ?_⟩) ?_ ?_
                  rotate_left
                  · intro w'
                    go_simp
                    with_reducible rfl
                  rotate_left
                  · simp only [Act.put, List.setIfInBounds_toArray, List.set_cons_zero, List.set_cons_succ, Go.Proofs.YtpbampnbgebpjaaW.PrintLast.i64_w, Go.Proofs.YtpbampnbgebpjaaW.PrintLast.i32_w]
                    rfl
                  refine Go.Proofs.YtpbampnbgebpjaaW.PrintLast.take_ (i := 8) (N := some 76) (v := ?_) (a' := ?_) #[true, true, true, true, true, true, true, true, true, false, false, false, false, false] rfl rfl (by kernel_rfl) (fun _ _ _ h => h) (Or.inl ⟨by rfl, ?_⟩) hHeld ?_ ?_
                  rotate_left
                  · rintro w' ⟨s0, s1, s2, s3⟩
                    go_simp
                    with_reducible rfl
                  rotate_left
                  · simp only [Act.put, List.setIfInBounds_toArray, List.set_cons_zero, List.set_cons_succ, Go.Proofs.YtpbampnbgebpjaaW.PrintLast.i64_w, Go.Proofs.YtpbampnbgebpjaaW.PrintLast.i32_w]
                    rfl
                  refine Go.Proofs.YtpbampnbgebpjaaW.PrintLast.one_ (i := 9) (N := some 77) #[true, true, true, true, true, true, true, true, true, true, false, false, false, false] rfl rfl (by kernel_rfl) (by decide) (fun K hK => ?_)
                  refine Go.Proofs.YtpbampnbgebpjaaW.PrintLast.value_ (w1 := wr.drew.alloc (.cells #[.int .i64 xi, .slice ua 128 uc, .bool false] 64)) (v := .slice (some ⟨wr.heap.size, 0, none⟩) 1 1) (by rfl) rfl (by go_simp) ?_
                  have hHeld9 := hHeld
                  refine hK.out _ _ ⟨cell_al _ hHeld.1, cell_al _ hHeld.2.1, cell_al _ hHeld.2.2.1, cell_al _ hHeld.2.2.2⟩ (fun hHeld => ?_)
                  clear hK K
                  refine Go.Proofs.YtpbampnbgebpjaaW.PrintLast.norm_ (a' := ?_) ?_ ?_
                  rotate_left
                  · show Act.put _ (some 77) _ = _
                    simp only [Act.put, List.setIfInBounds_toArray, List.set_cons_zero, List.set_cons_succ, Go.Proofs.YtpbampnbgebpjaaW.PrintLast.i64_w, Go.Proofs.YtpbampnbgebpjaaW.PrintLast.i32_w]
                    rfl
                  refine Go.Proofs.YtpbampnbgebpjaaW.PrintLast.one_ (i := 10) (N := some 78) #[true, true, true, true, true, true, true, true, true, true, true, false, false, false] rfl rfl (by kernel_rfl) (by decide) (fun K hK => ?_)
                  refine step_append_cells (w0 := wr.drew) (W := wr.drew) w.heap.size (by rfl) (.tmp 72) (.tmp 77) 46 64 (.agg #[.int .i64 0, .slice none 0 0, .bool false]) 3 40 rfl Try.underlying46 info_ent (by rfl) (by decide) (by decide) (.slice oa es.length oc) es.length (entRow es vs2) [.int .i64 xi, .slice ua 128 uc, .bool false] (by rfl) (by rfl) (by rfl) (by intro u hu; simp only [List.mem_cons, List.not_mem_nil, or_false] at hu; rcases hu with rfl | rfl | rfl <;> rfl) (own_move OWN.out (fun g cur _ hg => hg)) (Below.refl _ _) HBS.out (by have := HLEN.out; omega) (fun v1 w3 h3 _ hg hat => ?_)
                  obtain ⟨na, nc, rfl⟩ := own_slice h3
                  have H3 := Lib.hid h3
                  have HG := Lib.hid hg
                  clear h3 hg hat
                  have q1 : w3.heap[w.heap.size]? = some (.cells #[.int .i64 d.N, .slice oa es.length oc, .slice none 0 0] 48 (0, 0)) := (HG.out.block _ (lt_of_heap HOB.out) (fun q => by obtain ⟨cur, hc⟩ := (own_kind OWN.out q.symm).2; rw [HOB.out] at hc; cases hc)).trans HOB.out
                  have hf3 : w3.frozen? ⟨w.heap.size, 1, none⟩ = false := free_of q1
                  have hc3 : w3.cell? ⟨w.heap.size, 1, none⟩ = some (.slice oa es.length oc) := cell_of q1 rfl
                  have HQ1 := Lib.hid q1
                  clear q1
                  have g1 := HG.out.cell hHeld9.2.1 HNB.out
                  have g2 := HG.out.cell hHeld9.2.2.1 HNB.out
                  have g3 := HG.out.cell hHeld9.2.2.2 HNB.out
                  refine hK.out _ _ ⟨hc3, g1, g2, g3⟩ (fun hHeld => ?_)
                  clear hK K
                  refine Go.Proofs.YtpbampnbgebpjaaW.PrintLast.norm_ (a' := ?_) ?_ ?_
                  rotate_left
                  · show Act.put _ (some 78) _ = _
                    simp only [Act.put, List.setIfInBounds_toArray, List.set_cons_zero, List.set_cons_succ, Go.Proofs.YtpbampnbgebpjaaW.PrintLast.i64_w, Go.Proofs.YtpbampnbgebpjaaW.PrintLast.i32_w]
                    rfl
                  refine Go.Proofs.YtpbampnbgebpjaaW.PrintLast.pure_ (i := 11) (N := some 79) (v := ?_) (a' := ?_) #[true, true, true, true, true, true, true, true, true, true, true, true, false, false] rfl rfl (by kernel_rfl) (fun _ _ _ h => h) (Or.inl ⟨by rfl, ?_⟩) ?_ ?_
                  rotate_left
                  · intro w'
                    go_simp
                    with_reducible rfl
                  rotate_left
                  · simp only [Act.put, List.setIfInBounds_toArray, List.set_cons_zero, List.set_cons_succ, Go.Proofs.YtpbampnbgebpjaaW.PrintLast.i64_w, Go.Proofs.YtpbampnbgebpjaaW.PrintLast.i32_w]
                    rfl
                  refine Go.Proofs.YtpbampnbgebpjaaW.PrintLast.pure_ (i := 12) (N := some 80) (v := ?_) (a' := ?_) #[true, true, true, true, true, true, true, true, true, true, true, true, true, false] rfl rfl (by kernel_rfl) (fun _ _ _ h => h) (Or.inl ⟨by rfl, ?_⟩) ?_ ?_
                  rotate_left
                  · intro w'
                    go_simp
                    with_reducible rfl
                  rotate_left
                  · simp only [Act.put, List.setIfInBounds_toArray, List.set_cons_zero, List.set_cons_succ, Go.Proofs.YtpbampnbgebpjaaW.PrintLast.i64_w, Go.Proofs.YtpbampnbgebpjaaW.PrintLast.i32_w]
                    rfl
                  refine Go.Proofs.YtpbampnbgebpjaaW.PrintLast.last_ (i := 13) (N := none) #[true, true, true, true, true, true, true, true, true, true, true, true, true, true] rfl rfl (by kernel_rfl) (by decide) (fun K hK => ?_)
                  refine Go.Proofs.YtpbampnbgebpjaaW.PrintLast.skip_ (w1 := w3.setCell ⟨w.heap.size, 1, none⟩ (.slice na (es.length + 1) nc)) (by rfl) rfl (by go_simp) ?_
                  refine hK.out _ _ ?_
                  clear hK K
                  refine Go.Proofs.YtpbampnbgebpjaaW.PrintLast.done_ (by kernel_rfl) ?_
                  go_wp2_with fail
                  have HPUT := Lib.hid (OutAt.put (x := ⟨xi, xb, false⟩) (w := wr) HOA.out H3.out ⟨HG.out.os, HG.out.tape, HG.out.output, HG.out.size, HG.out.block⟩ (fun _ => H8b.out) HQ1.out)
                  have HB3 := Lib.hid (((HBB.out.drew).grown HG.out HBB.out.size (fun k hk => (own_kind OWN.out hk).1)).setCell (p := ⟨w.heap.size, 1, none⟩) (Nat.le_refl _) (.slice na (es.length + 1) nc))
                  go_roundw
                  case rel => exact ⟨i + 1, by go_num, by have a := HNT.out; have b := HMO2.out (Nat.le_of_not_lt hs); have c := HJ.out; simp only [Bool.false_eq_true, if_false] at a; exact congrArg (Value.int .i64) (by omega), by omega, by rw [HKP.out, if_pos ⟨by first | rfl | trivial, HKT.out⟩, ← List.append_assoc, HES.out]; exact HPUT.out, HB3.out⟩
                  case measure => simp [intOf]; omega
              · have t4 : decide (j < keep.length) = false := decide_eq_false hjl
                have HKT := Lib.hid (show keptB l sf keep i = false by rw [HKB.out, t2, t4]; rfl)
                go_wp2_with fail
                go_roundw
                case rel => exact ⟨i + 1, by go_num, by have a := HNT.out; have b := HMO2.out (Nat.le_of_not_lt hs); have c := HJ.out; simp only [Bool.false_eq_true, if_false] at a; exact congrArg (Value.int .i64) (by omega), by omega, by rw [HKP.out, if_neg (fun q => by rw [HKT.out] at q; cases q.2)]; exact HO.out, HBB.out⟩
                case measure => simp [intOf]; omega
          · go_wp2_with fail
            go_roundw
            case rel => exact ⟨i + 1, by go_num, by rw [HNT.out, ← HJ.out]; rfl, by omega, by rw [HKP.out, if_neg (by simp)]; exact HO.out, HBB.out⟩
            case measure => simp [intOf]; omega
        · have t1 : decide (i < l.length) = false := decide_eq_false (by omega)
          have ei : i = l.length := by omega
          subst ei
          go_wp2_with fail
          go_ret
          exact ⟨rfl, by rw [HSF.out]; exact HO.out, HBB.out⟩
end Dk
end Go.Proofs.Ytpbampnbgebpjaa

namespace Go.Proofs.Ytpbampnbgebpjaa
open Go.RowKit Go.Proofs.YtpbampnbgebpjaaW.PrintWords Go.Proofs.YtpbampnbgebpjaaW.PrintLast
set_option linter.unusedVariables false
set_option linter.unusedSimpArgs false
namespace Dk

theorem take_in {w : World} {la : Option Addr} {l : List Ent} {c : Nat} (h : ∀ j (hj : j < l.length), ∃ ad, la = some ad ∧ EntAt w (ad.add (j * 3)) l[j]) (m : Nat) (hm : m ≤ l.length) : EntIn w (.slice la m c) (l.take m) := by
  have e : (l.take m).length = m := by rw [List.length_take]; omega
  refine ⟨_, c, by rw [e], fun j hj => ?_⟩
  rw [e] at hj
  obtain ⟨ad, e, he⟩ := h j (by omega)
  refine ⟨ad, e, ?_⟩
  rw [List.getElem_take]
  exact he
theorem cut_ref (base : Nat) (w : World) (R : Nat) (d : RfD) (kv : Value) (keep : List Bool) (h : IsRf base w R d) (hfs : ∀ e ∈ d.first, e.s = false) (hn : d.first.length ≤ 1000000) (hln : d.l.length ≤ 1000000) (hk : BoolsIn w kv keep) :
    Calls Try.prog 21 #[.pointer (some ⟨R, 0, none⟩), kv] w fun e w' => e = .returned (.pointer (some ⟨w.heap.size, 0, none⟩)) ∧ IsOut w.heap.size w' d.N (d.first ++ keptE d.l (syncAt d.l d.l.length) keep d.l.length) ∧ Below w.heap.size w w' := by
  have HI := Lib.hid h
  have HK := Lib.hid hk
  have HFS := Lib.hid hfs
  obtain ⟨fa, fc, la, lc, c0, c1, c2, hef, hel⟩ := h.parts
  have HEL := Lib.hid hel
  clear hef hel hk hfs h
  go_enter Try.func21, Try.ntmps21
  go_wp2_with fail
  refine (left_ref base w R d _ _ d.l keep HI.out HFS.out hn ⟨la, lc, rfl, HEL.out⟩ hln HK.out).mono ?_
  rintro e w' ⟨rfl, ho, hb⟩
  have HO := Lib.hid ho
  have HB := Lib.hid hb
  clear ho hb
  go_wp2_with fail
  go_ret
  exact ⟨rfl, HO.out, HB.out⟩
def L22 (w : World) (l : List Ent) (u : Nat) (i : Value) (wr : World) : Prop := ∃ k : Nat, i = .int .i64 k ∧ k ≤ l.length ∧ (∀ j, j < k → nW (l.take j) < u) ∧ w = wr
theorem upto_eq {l : List Ent} {k u : Nat} (h : ∀ j, j < k → nW (l.take j) < u) (hu : u ≤ nW (l.take k)) : nW (l.take k) = u := by
  cases k with
  | zero => simp [nW] at hu ⊢; omega
  | succ k =>
    have h1 := h k (Nat.lt_succ_self k)
    by_cases hk : k < l.length
    · have h2 := nW_take l k hk
      split at h2 <;> omega
    · rw [List.take_of_length_le (by omega)] at h1 hu ⊢
      omega
set_option maxHeartbeats 1000000 in
theorem cutat_ref (base : Nat) (w : World) (R : Nat) (d : RfD) (n : Int) (kv : Value) (keep : List Bool) (u : Nat) (h : IsRf base w R d) (hfs : ∀ e ∈ d.first, e.s = false) (hn : d.first.length ≤ 1000000) (hln : d.l.length ≤ 1000000) (hk : BoolsIn w kv keep) (hu : (u : Int) = max 0 (min n (nW d.l : Int))) :
    Calls Try.prog 22 #[.pointer (some ⟨R, 0, none⟩), .int .i64 n, kv] w fun e w' => ∃ up_ : Nat, up_ ≤ d.l.length ∧ nW (d.l.take up_) = u ∧ (∀ j, j < up_ → nW (d.l.take j) < u) ∧ e = .returned (.pointer (some ⟨w.heap.size, 0, none⟩)) ∧ IsOut w.heap.size w' d.N (d.first ++ keptE (d.l.take up_) (syncAt (d.l.take up_) up_) keep up_) ∧ Below w.heap.size w w' := by
  have HI := Lib.hid h
  have hcap : ∀ la lc, w.cell? ⟨R, 2, none⟩ = some (.slice la d.l.length lc) → d.l.length ≤ lc := fun la lc c2 => by
    obtain ⟨fv, lv, h⟩ := h
    have c2' := h.cells.2.2
    rw [c2] at c2'
    cases c2'
    obtain ⟨vs, _, _, ho⟩ := h.hL
    rcases ho.2 with ⟨q, h0⟩ | ⟨g, cap, cur, q, q2, q3, q4, q5⟩
    · omega
    · cases q; omega
  obtain ⟨fa, fc, la, lc, c0, c1, c2, hef, hel⟩ := h.parts
  have hlc := hcap la lc c2
  have HWR := Lib.hid (show ∀ k x, k ≤ d.l.length → nW (d.l.take k) = x → Calls Try.prog 30 #[.slice la k lc] w fun e w' => e = .returned (.int .i64 x) ∧ w = w' from fun k x hk hx => hx ▸ writes_ref w _ _ (take_in hel k hk) (by rw [List.length_take]; omega))
  have HLEFT := Lib.hid (show ∀ k, k ≤ d.l.length → Calls Try.prog 28 #[.pointer (some ⟨R, 0, none⟩), .slice la k lc, kv] w fun e w' => e = .returned (.pointer (some ⟨w.heap.size, 0, none⟩)) ∧ IsOut w.heap.size w' d.N (d.first ++ keptE (d.l.take k) (syncAt (d.l.take k) k) keep k) ∧ Below w.heap.size w w' from fun k hk2 => by
    have e : (d.l.take k).length = k := by rw [List.length_take]; omega
    have := left_ref base w R d _ kv (d.l.take k) keep h hfs hn (take_in (c := lc) hel k hk2) (by omega) hk
    rwa [e] at this)
  clear hef hel hk hfs h hcap
  have HUM := Lib.hid (show u ≤ nW d.l by omega)
  have hml : nW d.l ≤ 1000000 := Nat.le_trans (nW_le _) hln
  have HWN := Lib.hid (show Calls Try.prog 29 #[.pointer (some ⟨R, 0, none⟩)] w fun e w' => e = .returned (.int .i64 (nW d.l)) ∧ w = w' from wn_ref base w R d HI.out hln)
  clear c0 c1
  generalize hm : nW d.l = m at *
  have HM := Lib.hid hm
  clear hm
  rcases (by omega : ((m : Int) < n ∧ 0 < (m : Int) ∧ u = m) ∨ ((m : Int) < n ∧ (m : Int) ≤ 0 ∧ u = 0) ∨ (n ≤ (m : Int) ∧ 0 < n ∧ n = (u : Int)) ∨ (n ≤ (m : Int) ∧ n < 0 ∧ u = 0) ∨ (n ≤ (m : Int) ∧ n = 0 ∧ u = 0)) with ⟨t1, t2, t3⟩ | ⟨t1, t2, t3⟩ | ⟨t1, t2, t3⟩ | ⟨t1, t2, t3⟩ | ⟨t1, t2, t3⟩
  · clear hu
    subst t3
    go_enter Try.func22, Try.ntmps22
    go_wp2_with fail
    refine HWN.out.mono ?_
    rintro e w' ⟨rfl, rfl⟩
    go_wp2_with fail
    go_loopw [7] (fun k wr => L22 w d.l u k wr) (fun k _ => 1000001 - (intOf k).toNat)
    case atStart => exact ⟨0, rfl, Nat.zero_le _, fun j hj => absurd hj (Nat.not_lt_zero _), rfl⟩
    case round =>
      obtain ⟨k, rfl, hk, hlt, rfl⟩ := hrel
      have HLT := Lib.hid hlt
      clear hlt
      have hkc : k ≤ lc := by omega
      by_cases hkl : k < d.l.length
      · have t5 : decide (k < d.l.length) = true := decide_eq_true hkl
        generalize hx : nW (d.l.take k) = x
        have HX := Lib.hid hx
        clear hx
        by_cases hxu : x < u
        · have t6 : decide ((x : Int) < (u : Int)) = true := decide_eq_true (by omega)
          have t7 : decide (x < u) = true := decide_eq_true hxu
          go_wp2_with fail
          refine (HWR.out k x hk HX.out).mono ?_
          rintro e w' ⟨rfl, rfl⟩
          go_wp2_with fail
          go_roundw
          case rel => exact ⟨k + 1, by go_num, by omega, fun j hj => by rcases Nat.lt_succ_iff_lt_or_eq.1 hj with h | h; exact HLT.out j h; subst h; rw [HX.out]; exact hxu, rfl⟩
          case measure => simp [intOf]; omega
        · have t6 : decide ((x : Int) < (u : Int)) = false := decide_eq_false (by omega)
          have t7 : decide (x < u) = false := decide_eq_false hxu
          go_wp2_with fail
          refine (HWR.out k x hk HX.out).mono ?_
          rintro e w' ⟨rfl, rfl⟩
          go_wp2_with fail
          refine (HLEFT.out k hk).mono ?_
          rintro e w' ⟨rfl, ho, hb⟩
          have HO := Lib.hid ho
          have HB := Lib.hid hb
          clear ho hb
          go_wp2_with fail
          go_ret
          exact ⟨k, hk, upto_eq HLT.out (by rw [HX.out]; omega), HLT.out, rfl, HO.out, HB.out⟩
      · have t5 : decide (k < d.l.length) = false := decide_eq_false hkl
        have hkk : nW (d.l.take k) = nW d.l := by rw [List.take_of_length_le (by omega)]
        have HKK := Lib.hid hkk
        clear hkk
        go_wp2_with fail
        refine (HLEFT.out k hk).mono ?_
        rintro e w' ⟨rfl, ho, hb⟩
        have HO := Lib.hid ho
        have HB := Lib.hid hb
        clear ho hb
        go_wp2_with fail
        go_ret
        exact ⟨k, hk, upto_eq HLT.out (by rw [HKK.out]; have a := HUM.out; have b := HM.out; omega), HLT.out, rfl, HO.out, HB.out⟩
  · clear hu
    subst t3
    go_enter Try.func22, Try.ntmps22
    go_wp2_with fail
    refine HWN.out.mono ?_
    rintro e w' ⟨rfl, rfl⟩
    go_wp2_with fail
    go_loopw [7] (fun k wr => L22 w d.l (0 : Nat) k wr) (fun k _ => 1000001 - (intOf k).toNat)
    case atStart => exact ⟨0, rfl, Nat.zero_le _, fun j hj => absurd hj (Nat.not_lt_zero _), rfl⟩
    case round =>
      obtain ⟨k, rfl, hk, hlt, rfl⟩ := hrel
      have HLT := Lib.hid hlt
      clear hlt
      have hkc : k ≤ lc := by omega
      by_cases hkl : k < d.l.length
      · have t5 : decide (k < d.l.length) = true := decide_eq_true hkl
        generalize hx : nW (d.l.take k) = x
        have HX := Lib.hid hx
        clear hx
        by_cases hxu : x < (0 : Nat)
        · exact absurd hxu (Nat.not_lt_zero _)
        · have t6 : decide ((x : Int) < (0 : Int)) = false := decide_eq_false (by omega)
          have t7 : decide (x < (0 : Nat)) = false := decide_eq_false hxu
          go_wp2_with fail
          refine (HWR.out k x hk HX.out).mono ?_
          rintro e w' ⟨rfl, rfl⟩
          go_wp2_with fail
          refine (HLEFT.out k hk).mono ?_
          rintro e w' ⟨rfl, ho, hb⟩
          have HO := Lib.hid ho
          have HB := Lib.hid hb
          clear ho hb
          go_wp2_with fail
          go_ret
          exact ⟨k, hk, upto_eq HLT.out (by rw [HX.out]; omega), HLT.out, rfl, HO.out, HB.out⟩
      · have t5 : decide (k < d.l.length) = false := decide_eq_false hkl
        have hkk : nW (d.l.take k) = nW d.l := by rw [List.take_of_length_le (by omega)]
        have HKK := Lib.hid hkk
        clear hkk
        go_wp2_with fail
        refine (HLEFT.out k hk).mono ?_
        rintro e w' ⟨rfl, ho, hb⟩
        have HO := Lib.hid ho
        have HB := Lib.hid hb
        clear ho hb
        go_wp2_with fail
        go_ret
        exact ⟨k, hk, upto_eq HLT.out (by rw [HKK.out]; have a := HUM.out; have b := HM.out; omega), HLT.out, rfl, HO.out, HB.out⟩
  · clear hu
    subst t3
    go_enter Try.func22, Try.ntmps22
    go_wp2_with fail
    refine HWN.out.mono ?_
    rintro e w' ⟨rfl, rfl⟩
    go_wp2_with fail
    go_loopw [7] (fun k wr => L22 w d.l u k wr) (fun k _ => 1000001 - (intOf k).toNat)
    case atStart => exact ⟨0, rfl, Nat.zero_le _, fun j hj => absurd hj (Nat.not_lt_zero _), rfl⟩
    case round =>
      obtain ⟨k, rfl, hk, hlt, rfl⟩ := hrel
      have HLT := Lib.hid hlt
      clear hlt
      have hkc : k ≤ lc := by omega
      by_cases hkl : k < d.l.length
      · have t5 : decide (k < d.l.length) = true := decide_eq_true hkl
        generalize hx : nW (d.l.take k) = x
        have HX := Lib.hid hx
        clear hx
        by_cases hxu : x < u
        · have t6 : decide ((x : Int) < (u : Int)) = true := decide_eq_true (by omega)
          have t7 : decide (x < u) = true := decide_eq_true hxu
          go_wp2_with fail
          refine (HWR.out k x hk HX.out).mono ?_
          rintro e w' ⟨rfl, rfl⟩
          go_wp2_with fail
          go_roundw
          case rel => exact ⟨k + 1, by go_num, by omega, fun j hj => by rcases Nat.lt_succ_iff_lt_or_eq.1 hj with h | h; exact HLT.out j h; subst h; rw [HX.out]; exact hxu, rfl⟩
          case measure => simp [intOf]; omega
        · have t6 : decide ((x : Int) < (u : Int)) = false := decide_eq_false (by omega)
          have t7 : decide (x < u) = false := decide_eq_false hxu
          go_wp2_with fail
          refine (HWR.out k x hk HX.out).mono ?_
          rintro e w' ⟨rfl, rfl⟩
          go_wp2_with fail
          refine (HLEFT.out k hk).mono ?_
          rintro e w' ⟨rfl, ho, hb⟩
          have HO := Lib.hid ho
          have HB := Lib.hid hb
          clear ho hb
          go_wp2_with fail
          go_ret
          exact ⟨k, hk, upto_eq HLT.out (by rw [HX.out]; omega), HLT.out, rfl, HO.out, HB.out⟩
      · have t5 : decide (k < d.l.length) = false := decide_eq_false hkl
        have hkk : nW (d.l.take k) = nW d.l := by rw [List.take_of_length_le (by omega)]
        have HKK := Lib.hid hkk
        clear hkk
        go_wp2_with fail
        refine (HLEFT.out k hk).mono ?_
        rintro e w' ⟨rfl, ho, hb⟩
        have HO := Lib.hid ho
        have HB := Lib.hid hb
        clear ho hb
        go_wp2_with fail
        go_ret
        exact ⟨k, hk, upto_eq HLT.out (by rw [HKK.out]; have a := HUM.out; have b := HM.out; omega), HLT.out, rfl, HO.out, HB.out⟩
  · clear hu
    subst t3
    go_enter Try.func22, Try.ntmps22
    go_wp2_with fail
    refine HWN.out.mono ?_
    rintro e w' ⟨rfl, rfl⟩
    go_wp2_with fail
    go_loopw [7] (fun k wr => L22 w d.l (0 : Nat) k wr) (fun k _ => 1000001 - (intOf k).toNat)
    case atStart => exact ⟨0, rfl, Nat.zero_le _, fun j hj => absurd hj (Nat.not_lt_zero _), rfl⟩
    case round =>
      obtain ⟨k, rfl, hk, hlt, rfl⟩ := hrel
      have HLT := Lib.hid hlt
      clear hlt
      have hkc : k ≤ lc := by omega
      by_cases hkl : k < d.l.length
      · have t5 : decide (k < d.l.length) = true := decide_eq_true hkl
        generalize hx : nW (d.l.take k) = x
        have HX := Lib.hid hx
        clear hx
        by_cases hxu : x < (0 : Nat)
        · exact absurd hxu (Nat.not_lt_zero _)
        · have t6 : decide ((x : Int) < (0 : Int)) = false := decide_eq_false (by omega)
          have t7 : decide (x < (0 : Nat)) = false := decide_eq_false hxu
          go_wp2_with fail
          refine (HWR.out k x hk HX.out).mono ?_
          rintro e w' ⟨rfl, rfl⟩
          go_wp2_with fail
          refine (HLEFT.out k hk).mono ?_
          rintro e w' ⟨rfl, ho, hb⟩
          have HO := Lib.hid ho
          have HB := Lib.hid hb
          clear ho hb
          go_wp2_with fail
          go_ret
          exact ⟨k, hk, upto_eq HLT.out (by rw [HX.out]; omega), HLT.out, rfl, HO.out, HB.out⟩
      · have t5 : decide (k < d.l.length) = false := decide_eq_false hkl
        have hkk : nW (d.l.take k) = nW d.l := by rw [List.take_of_length_le (by omega)]
        have HKK := Lib.hid hkk
        clear hkk
        go_wp2_with fail
        refine (HLEFT.out k hk).mono ?_
        rintro e w' ⟨rfl, ho, hb⟩
        have HO := Lib.hid ho
        have HB := Lib.hid hb
        clear ho hb
        go_wp2_with fail
        go_ret
        exact ⟨k, hk, upto_eq HLT.out (by rw [HKK.out]; have a := HUM.out; have b := HM.out; omega), HLT.out, rfl, HO.out, HB.out⟩
  · clear hu
    subst t3
    subst t2
    go_enter Try.func22, Try.ntmps22
    go_wp2_with fail
    refine HWN.out.mono ?_
    rintro e w' ⟨rfl, rfl⟩
    go_wp2_with fail
    go_loopw [7] (fun k wr => L22 w d.l (0 : Nat) k wr) (fun k _ => 1000001 - (intOf k).toNat)
    case atStart => exact ⟨0, rfl, Nat.zero_le _, fun j hj => absurd hj (Nat.not_lt_zero _), rfl⟩
    case round =>
      obtain ⟨k, rfl, hk, hlt, rfl⟩ := hrel
      have HLT := Lib.hid hlt
      clear hlt
      have hkc : k ≤ lc := by omega
      by_cases hkl : k < d.l.length
      · have t5 : decide (k < d.l.length) = true := decide_eq_true hkl
        generalize hx : nW (d.l.take k) = x
        have HX := Lib.hid hx
        clear hx
        by_cases hxu : x < (0 : Nat)
        · exact absurd hxu (Nat.not_lt_zero _)
        · have t6 : decide ((x : Int) < (0 : Int)) = false := decide_eq_false (by omega)
          have t7 : decide (x < (0 : Nat)) = false := decide_eq_false hxu
          go_wp2_with fail
          refine (HWR.out k x hk HX.out).mono ?_
          rintro e w' ⟨rfl, rfl⟩
          go_wp2_with fail
          refine (HLEFT.out k hk).mono ?_
          rintro e w' ⟨rfl, ho, hb⟩
          have HO := Lib.hid ho
          have HB := Lib.hid hb
          clear ho hb
          go_wp2_with fail
          go_ret
          exact ⟨k, hk, upto_eq HLT.out (by rw [HX.out]; omega), HLT.out, rfl, HO.out, HB.out⟩
      · have t5 : decide (k < d.l.length) = false := decide_eq_false hkl
        have hkk : nW (d.l.take k) = nW d.l := by rw [List.take_of_length_le (by omega)]
        have HKK := Lib.hid hkk
        clear hkk
        go_wp2_with fail
        refine (HLEFT.out k hk).mono ?_
        rintro e w' ⟨rfl, ho, hb⟩
        have HO := Lib.hid ho
        have HB := Lib.hid hb
        clear ho hb
        go_wp2_with fail
        go_ret
        exact ⟨k, hk, upto_eq HLT.out (by rw [HKK.out]; have a := HUM.out; have b := HM.out; omega), HLT.out, rfl, HO.out, HB.out⟩
end Dk
end Go.Proofs.Ytpbampnbgebpjaa

namespace Go.Proofs.Ytpbampnbgebpjaa
open Go.RowKit Go.Proofs.YtpbampnbgebpjaaW.PrintWords Go.Proofs.YtpbampnbgebpjaaW.PrintLast
set_option linter.unusedVariables false
set_option linter.unusedSimpArgs false
namespace Dk
theorem clone_fresh (A0 : Option Addr) (n c : Nat) (l : List Int) (w : World) (hl : l.length = n) (hn : n ≤ 1000) (hb : IsBy l) (hc : ∀ i, i < n → ∃ a, A0 = some a ∧ w.cell? (a.add i) = some (.int .u8 (l.getD i 0))) : Calls Try.prog 26 #[.slice A0 n c] w fun e w' => ∃ v, e = .returned v ∧ Byts w' v l ∧ w'.ownsRow w.heap.size 5 1 v l.length (l.map (Value.int .u8)) ∧ Below w.heap.size w w' := by
  cases A0 with
  | none =>
    have hn0 : n = 0 := by
      cases n with
      | zero => rfl
      | succ n => obtain ⟨a, h, _⟩ := hc 0 (by omega); cases h
    subst hn0
    obtain rfl : l = [] := List.eq_nil_of_length_eq_zero hl
    have hq := fun w => Lib.run_eql_slice_nil (P := Try.prog) w 30 5 none 0 c 0 0 Try.underlying30
    go_enter Try.func26, Try.ntmps26
    go_wp2
    go_ret
    exact ⟨_, rfl, Byts.nil _, World.ownsRow_nil _ _ _ _, Below.refl _ _⟩
  | some a =>
    have hq := fun w => Lib.run_eql_slice_nil (P := Try.prog) w 30 5 (some a) n c 0 0 Try.underlying30
    obtain ⟨i0, hi, hz0, hz1, hz2⟩ := info_parts info_u8
    have hown : (w.alloc (.cells #[] 5)).ownsRow w.heap.size 5 1 (.slice (some ⟨w.heap.size, 0, none⟩) 0 0) 0 [] := World.ownsRow_made w #[] 0 (Nat.le_refl _) (by decide) rfl
    have HC := Lib.hid hc
    have HL := Lib.hid hl
    have HN := Lib.hid hn
    clear hc hl hn
    go_enter Try.func26, Try.ntmps26
    go_wp2_with (at_builtin; refine wpList_append_own _ rfl _ _ 30 rfl w.heap.size 5 i0 (.int .u8 0) 1 1 Try.underlying30 hi hz0 hz1 hz2 rfl (by decide) _ _ _ rfl hown a n c (l.map (Value.int .u8)) rfl ?c1 ?c2 ?c3 ?c4 ?c5 ?c6 ?_; (case c1 => rw [List.length_map, HL.out, Nat.mul_one]); (case c2 => exact bytes_at a l w _ (fun i hi => by obtain ⟨a2, e, h⟩ := HC.out i (by rw [← HL.out]; exact hi); cases e; exact h)); (case c3 => intro u hu; obtain ⟨x, _, rfl⟩ := List.mem_map.1 hu; rfl); (case c4 => have := HN.out; simp only [maxLen]; omega); (case c5 => have := HN.out; omega); (case c6 => simp))
    intro v' w1 hown' hg _
    have hown2 : w1.ownsRow w.heap.size 5 1 v' n (l.map (Value.int .u8)) := by simpa using hown'
    have HO := Lib.hid hown2
    clear hown2
    have HG := Lib.hid hg
    clear hown' hg
    go_wp2
    go_ret
    refine ⟨v', rfl, ⟨hb, by rw [HL.out]; exact own_base HO.out (Nat.zero_le _)⟩, by rw [HL.out]; exact HO.out, ?_⟩
    exact ((Below.refl _ _).alloc (Nat.le_refl _) _).grown HG.out (by simp) (fun k hk => by cases hk; exact Nat.le_refl _)
set_option maxHeartbeats 1000000 in
set_option maxRecDepth 100000 in
theorem write_fresh (base D F M n : Nat) (N : Int) (lv sv : Value) (ls : List Value) (es : Array MapEntry) (c : Nat) (i : Int) (A0 : Option Addr) (bn bc : Nat) (l : List Int) (w : World)
    (hD : w.heap[D]? = some (.cells #[.int .i64 N, .map (some F), .map (some M), lv, sv] 58 (0, 0))) (hM : w.heap[M]? = some (.map es c)) (hki : KeysInt es.toList) (hL : w.ownsRow base 61 2 lv n ls) (hn : n ≤ 1000000) (hb : base ≤ w.heap.size)
    (h0 : 0 ≤ i) (h1 : i < N) (hl : l.length = bn) (hbn : bn ≤ 128) (hby : IsBy l) (hc : ∀ i, i < bn → ∃ a, A0 = some a ∧ w.cell? (a.add i) = some (.int .u8 (l.getD i 0))) :
    Calls Try.prog 9 #[.pointer (some ⟨D, 0, none⟩), .int .i64 i, .slice A0 bn bc] w fun e w' => e = .returned (.int .i64 0) ∧ ∃ w1 bv es' c' lv1 w3, Byts w1 bv l ∧ w1.ownsRow w.heap.size 5 1 bv l.length (l.map (Value.int .u8)) ∧ Below w.heap.size w w1 ∧ KeysInt es'.toList ∧ (∀ k2, mget es'.toList k2 = if k2 = i then some bv else mget es.toList k2) ∧
      w3.ownsRow base 61 2 lv1 (n + 1) (ls ++ [.int .i64 i, bv]) ∧ (setMap (w1.alloc (.cells #[.int .i64 i, bv] 61)) M (.map es' c')).grownBy w3 lv.ownBlock ∧ w' = w3.setCell ⟨D, 3, none⟩ lv1 := by
  have c0 : w.cell? ⟨D, 0, none⟩ = some (.int .i64 N) := cell_of hD rfl
  have HD := Lib.hid hD
  have HM := Lib.hid hM
  have HKI := Lib.hid hki
  have HL := Lib.hid hL
  have HN := Lib.hid hn
  have HBS := Lib.hid hb
  have H0 := Lib.hid h0
  have H1 := Lib.hid h1
  have HBL := Lib.hid hl
  have HBY := Lib.hid hby
  have HC := Lib.hid hc
  have HDM : Hid (D ≠ M) := Lib.hid (by rintro rfl; rw [hD] at hM; cases hM)
  clear hD hM hki hL hn hb h0 h1 hl hby hc
  go_enter Try.func9, Try.ntmps9
  go_wp2_with (first | (go_at_call 25; refine (has_yes D N i _ c0 H0.out H1.out).mono ?_; rintro e w' ⟨rfl, rfl⟩) | (go_at_call 26; refine (clone_fresh A0 bn bc l _ HBL.out (by omega) HBY.out HC.out).mono ?_; rintro e w1 ⟨bv, rfl, hbv, hfr, hb1⟩; have HFR := Lib.hid hfr; have HBV := Lib.hid hbv; have HB1 := Lib.hid hb1; obtain ⟨bva, bvc, hbve⟩ := own_slice hbv.2; subst hbve; clear hbv hb1 hfr))
  generalize hbvE : (Value.slice bva l.length bvc) = bv at HBV HFR ⊢
  have HBVE := Lib.hid hbvE
  clear hbvE
  have hsz : w.heap.size ≤ w1.heap.size := HB1.out.size
  have d1 : w1.heap[D]? = _ := (HB1.out.block D (lt_of_heap HD.out)).trans HD.out
  have m1 : w1.heap[M]? = _ := (HB1.out.block M (lt_of_heap HM.out)).trans HM.out
  have d2 := cell_al (.cells #[.int .i64 i, bv] 61) (cell_of (i := 2) d1 rfl)
  have b1 : (w1.alloc (.cells #[.int .i64 i, bv] 61)).cell? ⟨w1.heap.size, 1, none⟩ = some bv := by simp
  have dm : (w1.alloc (.cells #[.int .i64 i, bv] 61)).heap[M]? = some (.map es c) := ((World.grownBy_alloc w1 _ none).block M (lt_of_heap m1) (by simp)).trans m1
  have HD1 := Lib.hid d1
  have HM1 := Lib.hid m1
  clear d1 m1
  have hml := lt_of_heap HM1.out
  refine Go.Proofs.YtpbampnbgebpjaaW.PrintLast.start_ (n := 8) (S := fun v => v.cell? ⟨D, 2, none⟩ = some (.map (some M)) ∧ v.cell? ⟨w1.heap.size, 1, none⟩ = some bv ∧ v.heap[M]? = some (.map es c)) (ds := [7]) #[false, false, false, false, false, false, false, false] (by kernel_rfl) rfl rfl ⟨d2, b1, dm⟩ (fun hHeld => ?_)
  refine Go.Proofs.YtpbampnbgebpjaaW.PrintLast.pure_ (i := 0) (N := some 24) (v := ?_) (a' := ?_) #[true, false, false, false, false, false, false, false] rfl rfl (by kernel_rfl) (fun _ _ _ h => h) (Or.inl ⟨by rfl, ?_⟩) ?_ ?_
  rotate_left
  · intro w'
    go_simp
    with_reducible rfl
  rotate_left
  · simp only [Act.put, List.setIfInBounds_toArray, List.set_cons_zero, List.set_cons_succ, Go.Proofs.YtpbampnbgebpjaaW.PrintLast.i64_w, Go.Proofs.YtpbampnbgebpjaaW.PrintLast.i32_w]
    rfl
  refine Go.Proofs.YtpbampnbgebpjaaW.PrintLast.pure_ (i := 1) (N := some 25) (v := ?_) (a' := ?_) #[true, true, false, false, false, false, false, false] rfl rfl (by kernel_rfl) (fun _ _ _ h => h) (Or.inl ⟨by rfl, ?_⟩) ?_ ?_
  rotate_left
  · intro w'
    go_simp
    with_reducible rfl
  rotate_left
  · simp only [Act.put, List.setIfInBounds_toArray, List.set_cons_zero, List.set_cons_succ, Go.Proofs.YtpbampnbgebpjaaW.PrintLast.i64_w, Go.Proofs.YtpbampnbgebpjaaW.PrintLast.i32_w]
    rfl
  refine Go.Proofs.YtpbampnbgebpjaaW.PrintLast.pure_ (i := 2) (N := some 26) (v := ?_) (a' := ?_) #[true, true, true, false, false, false, false, false] rfl rfl (by kernel_rfl) (fun _ _ _ h => h) (Or.inl ⟨by rfl, ?_⟩) ?_ ?_
  rotate_left
  · intro w'
    go_simp
    with_reducible rfl
  rotate_left
  · simp only [Act.put, List.setIfInBounds_toArray, List.set_cons_zero, List.set_cons_succ, Go.Proofs.YtpbampnbgebpjaaW.PrintLast.i64_w, Go.Proofs.YtpbampnbgebpjaaW.PrintLast.i32_w]
    rfl
  refine Go.Proofs.YtpbampnbgebpjaaW.PrintLast.take_ (i := 3) (N := some 27) (v := ?_) (a' := ?_) #[true, true, true, true, false, false, false, false] rfl rfl (by kernel_rfl) (fun _ _ _ h => h) (Or.inl ⟨by rfl, ?_⟩) hHeld ?_ ?_
  rotate_left
  · rintro w' ⟨s0, s1, s2⟩
    go_simp
    with_reducible rfl
  rotate_left
  · simp only [Act.put, List.setIfInBounds_toArray, List.set_cons_zero, List.set_cons_succ, Go.Proofs.YtpbampnbgebpjaaW.PrintLast.i64_w, Go.Proofs.YtpbampnbgebpjaaW.PrintLast.i32_w]
    rfl
  refine Go.Proofs.YtpbampnbgebpjaaW.PrintLast.pure_ (i := 4) (N := some 28) (v := ?_) (a' := ?_) #[true, true, true, true, true, false, false, false] rfl rfl (by kernel_rfl) (fun _ _ _ h => h) (Or.inl ⟨by rfl, ?_⟩) ?_ ?_
  rotate_left
  · intro w'
    go_simp
    with_reducible rfl
  rotate_left
  · simp only [Act.put, List.setIfInBounds_toArray, List.set_cons_zero, List.set_cons_succ, Go.Proofs.YtpbampnbgebpjaaW.PrintLast.i64_w, Go.Proofs.YtpbampnbgebpjaaW.PrintLast.i32_w]
    rfl
  refine Go.Proofs.YtpbampnbgebpjaaW.PrintLast.pure_ (i := 5) (N := some 29) (v := ?_) (a' := ?_) #[true, true, true, true, true, true, false, false] rfl rfl (by kernel_rfl) (fun _ _ _ h => h) (Or.inl ⟨by rfl, ?_⟩) ?_ ?_
  rotate_left
  · intro w'
    go_simp
    with_reducible rfl
  rotate_left
  · simp only [Act.put, List.setIfInBounds_toArray, List.set_cons_zero, List.set_cons_succ, Go.Proofs.YtpbampnbgebpjaaW.PrintLast.i64_w, Go.Proofs.YtpbampnbgebpjaaW.PrintLast.i32_w]
    rfl
  refine Go.Proofs.YtpbampnbgebpjaaW.PrintLast.take_ (i := 6) (N := some 30) (v := ?_) (a' := ?_) #[true, true, true, true, true, true, true, false] rfl rfl (by kernel_rfl) (fun _ _ _ h => h) (Or.inl ⟨by rfl, ?_⟩) hHeld ?_ ?_
  rotate_left
  · rintro w' ⟨s0, s1, s2⟩
    go_simp
    with_reducible rfl
  rotate_left
  · simp only [Act.put, List.setIfInBounds_toArray, List.set_cons_zero, List.set_cons_succ, Go.Proofs.YtpbampnbgebpjaaW.PrintLast.i64_w, Go.Proofs.YtpbampnbgebpjaaW.PrintLast.i32_w]
    rfl
  refine Go.Proofs.YtpbampnbgebpjaaW.PrintLast.last_ (i := 7) (N := none) #[true, true, true, true, true, true, true, true] rfl rfl (by kernel_rfl) (by decide) (fun K hK => ?_)
  obtain ⟨es', c', hrun, hk', hm'⟩ := run_mapUpdate (w := (w1.alloc (.cells #[.int .i64 i, bv] 61)).drew) Try.underlying54 Try.underlying3 hHeld.2.2 HKI.out i bv
  refine Go.Proofs.YtpbampnbgebpjaaW.PrintLast.skip_ (w1 := setMap (w1.alloc (.cells #[.int .i64 i, bv] 61)).drew M (.map es' c')) (by rfl) rfl (by go_simp) ?_
  refine hK.out _ _ ?_
  clear hK K
  refine Go.Proofs.YtpbampnbgebpjaaW.PrintLast.done_ (by kernel_rfl) ?_
  go_wp2_with fail
  have hml2 : M < (w1.alloc (.cells #[.int .i64 i, bv] 61)).drew.heap.size := by simp; omega
  have hD2 : (setMap (w1.alloc (.cells #[.int .i64 i, bv] 61)).drew M (.map es' c')).heap[D]? = some (.cells #[.int .i64 N, .map (some F), .map (some M), lv, sv] 58 (0, 0)) := (setMap_ne HDM.out).trans (((World.grownBy_alloc w1 _ none).block D (lt_of_heap HD1.out) (by simp)).trans HD1.out)
  have HD2L := Lib.hid (lt_of_heap hD2)
  have e3 : (setMap (w1.alloc (.cells #[.int .i64 i, bv] 61)).drew M (.map es' c')).cell? ⟨D, 3, none⟩ = some lv := cell_of hD2 rfl
  have f0 : (setMap (w1.alloc (.cells #[.int .i64 i, bv] 61)).drew M (.map es' c')).cell? ⟨w1.heap.size, 0, none⟩ = some (.int .i64 i) := (setMap_cell (show w1.heap.size ≠ M by omega)).trans (by simp)
  have f1 : (setMap (w1.alloc (.cells #[.int .i64 i, bv] 61)).drew M (.map es' c')).cell? ⟨w1.heap.size, 1, none⟩ = some bv := (setMap_cell (show w1.heap.size ≠ M by omega)).trans (by simp)
  have HW2 := Lib.hid (show (setMap (w1.alloc (.cells #[.int .i64 i, bv] 61)).drew M (.map es' c')).ownsRow base 61 2 lv n ls from own_move HL.out (fun g cur hg hh => by
    have hne : g ≠ M := by rintro rfl; rw [HM.out] at hh; cases hh
    have h1 := (HB1.out.block g (lt_of_heap hh)).trans hh
    exact (setMap_ne hne).trans (((World.grownBy_alloc w1 _ none).block g (lt_of_heap h1) (by simp)).trans h1)))
  have H1C := Lib.hid (show bv.oneCell' = true by rw [← HBVE.out]; rfl)
  have HBS2 := Lib.hid (show base ≤ (setMap (w1.alloc (.cells #[.int .i64 i, bv] 61)).drew M (.map es' c')).drew.heap.size by have h2 := HBS.out; have h3 := setMap_size (w1.alloc (.cells #[.int .i64 i, bv] 61)).drew M (.map es' c'); show base ≤ (setMap (w1.alloc (.cells #[.int .i64 i, bv] 61)).drew M (.map es' c')).heap.size; rw [h3]; simp; omega)
  have HNE := Lib.hid (show some D ≠ lv.ownBlock from fun q => by obtain ⟨cur, hc⟩ := (own_kind HL.out q.symm).2; rw [HD.out] at hc; cases hc)
  have HNB := Lib.hid (show some w1.heap.size ≠ lv.ownBlock from fun q => by obtain ⟨cur, hc⟩ := (own_kind HL.out q.symm).2; have := lt_of_heap hc; omega)
  have HD2 := Lib.hid hD2
  have HK2 := Lib.hid hk'
  have HM2 := Lib.hid hm'
  clear hD2 hk' hm' hrun
  refine Go.Proofs.YtpbampnbgebpjaaW.PrintLast.start_ (n := 11) (S := fun v => v.cell? ⟨D, 3, none⟩ = some lv ∧ v.cell? ⟨w1.heap.size, 0, none⟩ = some (.int .i64 i) ∧ v.cell? ⟨w1.heap.size, 1, none⟩ = some bv) (ds := [10]) #[false, false, false, false, false, false, false, false, false, false, false] (by kernel_rfl) rfl rfl ⟨e3, f0, f1⟩ (fun hHeld => ?_)
  refine Go.Proofs.YtpbampnbgebpjaaW.PrintLast.pure_ (i := 0) (N := some 31) (v := ?_) (a' := ?_) #[true, false, false, false, false, false, false, false, false, false, false] rfl rfl (by kernel_rfl) (fun _ _ _ h => h) (Or.inl ⟨by rfl, ?_⟩) ?_ ?_
  rotate_left
  · intro w'
    go_simp
    with_reducible rfl
  rotate_left
  · simp only [Act.put, List.setIfInBounds_toArray, List.set_cons_zero, List.set_cons_succ, Go.Proofs.YtpbampnbgebpjaaW.PrintLast.i64_w, Go.Proofs.YtpbampnbgebpjaaW.PrintLast.i32_w]
    rfl
  refine Go.Proofs.YtpbampnbgebpjaaW.PrintLast.pure_ (i := 1) (N := some 32) (v := ?_) (a' := ?_) #[true, true, false, false, false, false, false, false, false, false, false] rfl rfl (by kernel_rfl) (fun _ _ _ h => h) (Or.inl ⟨by rfl, ?_⟩) ?_ ?_
  rotate_left
  · intro w'
    go_simp
    with_reducible rfl
  rotate_left
  · simp only [Act.put, List.setIfInBounds_toArray, List.set_cons_zero, List.set_cons_succ, Go.Proofs.YtpbampnbgebpjaaW.PrintLast.i64_w, Go.Proofs.YtpbampnbgebpjaaW.PrintLast.i32_w]
    rfl
  refine Go.Proofs.YtpbampnbgebpjaaW.PrintLast.pure_ (i := 2) (N := some 33) (v := ?_) (a' := ?_) #[true, true, true, false, false, false, false, false, false, false, false] rfl rfl (by kernel_rfl) (fun _ _ _ h => h) (Or.inl ⟨by rfl, ?_⟩) ?_ ?_
  rotate_left
  · intro w'
    go_simp
    with_reducible rfl
  rotate_left
  · simp only [Act.put, List.setIfInBounds_toArray, List.set_cons_zero, List.set_cons_succ, Go.Proofs.YtpbampnbgebpjaaW.PrintLast.i64_w, Go.Proofs.YtpbampnbgebpjaaW.PrintLast.i32_w]
    rfl
  refine Go.Proofs.YtpbampnbgebpjaaW.PrintLast.pure_ (i := 3) (N := some 34) (v := ?_) (a' := ?_) #[true, true, true, true, false, false, false, false, false, false, false] rfl rfl (by kernel_rfl) (fun _ _ _ h => h) (Or.inl ⟨by rfl, ?_⟩) ?_ ?_
  rotate_left
  · intro w'
    go_simp
    with_reducible rfl
  rotate_left
  · simp only [Act.put, List.setIfInBounds_toArray, List.set_cons_zero, List.set_cons_succ, Go.Proofs.YtpbampnbgebpjaaW.PrintLast.i64_w, Go.Proofs.YtpbampnbgebpjaaW.PrintLast.i32_w]
    rfl
  refine Go.Proofs.YtpbampnbgebpjaaW.PrintLast.take_ (i := 4) (N := some 35) (v := ?_) (a' := ?_) #[true, true, true, true, true, false, false, false, false, false, false] rfl rfl (by kernel_rfl) (fun _ _ _ h => h) (Or.inl ⟨by rfl, ?_⟩) hHeld ?_ ?_
  rotate_left
  · rintro w' ⟨s0, s1, s2⟩
    go_simp
    with_reducible rfl
  rotate_left
  · simp only [Act.put, List.setIfInBounds_toArray, List.set_cons_zero, List.set_cons_succ, Go.Proofs.YtpbampnbgebpjaaW.PrintLast.i64_w, Go.Proofs.YtpbampnbgebpjaaW.PrintLast.i32_w]
    rfl
  refine Go.Proofs.YtpbampnbgebpjaaW.PrintLast.take_ (i := 5) (N := some 36) (v := ?_) (a' := ?_) #[true, true, true, true, true, true, false, false, false, false, false] rfl rfl (by kernel_rfl) (fun _ _ _ h => h) (Or.inl ⟨by rfl, ?_⟩) hHeld ?_ ?_
  rotate_left
  · rintro w' ⟨s0, s1, s2⟩
    go_simp
    with_reducible rfl
  rotate_left
  · simp only [Act.put, List.setIfInBounds_toArray, List.set_cons_zero, List.set_cons_succ, Go.Proofs.YtpbampnbgebpjaaW.PrintLast.i64_w, Go.Proofs.YtpbampnbgebpjaaW.PrintLast.i32_w]
    rfl
  refine Go.Proofs.YtpbampnbgebpjaaW.PrintLast.one_ (i := 6) (N := some 37) #[true, true, true, true, true, true, true, false, false, false, false] rfl rfl (by kernel_rfl) (by decide) (fun K hK => ?_)
  refine Go.Proofs.YtpbampnbgebpjaaW.PrintLast.value_ (w1 := (setMap (w1.alloc (.cells #[.int .i64 i, bv] 61)).drew M (.map es' c')).drew.alloc (.cells #[.int .i64 i, bv] 61)) (v := .slice (some ⟨(setMap (w1.alloc (.cells #[.int .i64 i, bv] 61)).drew M (.map es' c')).heap.size, 0, none⟩) 1 1) (by rfl) rfl (by go_simp) ?_
  have hHeld7 := hHeld
  refine hK.out _ _ ⟨cell_al _ hHeld.1, cell_al _ hHeld.2.1, cell_al _ hHeld.2.2⟩ (fun hHeld => ?_)
  clear hK K
  refine Go.Proofs.YtpbampnbgebpjaaW.PrintLast.norm_ (a' := ?_) ?_ ?_
  rotate_left
  · show Act.put _ (some 37) _ = _
    simp only [Act.put, List.setIfInBounds_toArray, List.set_cons_zero, List.set_cons_succ, Go.Proofs.YtpbampnbgebpjaaW.PrintLast.i64_w, Go.Proofs.YtpbampnbgebpjaaW.PrintLast.i32_w]
    rfl
  refine Go.Proofs.YtpbampnbgebpjaaW.PrintLast.one_ (i := 7) (N := some 38) #[true, true, true, true, true, true, true, true, false, false, false] rfl rfl (by kernel_rfl) (by decide) (fun K hK => ?_)
  refine step_append_cells (w0 := (setMap (w1.alloc (.cells #[.int .i64 i, bv] 61)).drew M (.map es' c')).drew) (W := (setMap (w1.alloc (.cells #[.int .i64 i, bv] 61)).drew M (.map es' c')).drew) base (by rfl) (.tmp 35) (.tmp 37) 55 61 (.agg #[.int .i64 0, .slice none 0 0]) 2 32 rfl Try.underlying55 info_wr (by rfl) (by decide) (by decide) lv n ls [.int .i64 i, bv] (by rfl) (by rfl) (by rfl) (by intro u hu; rcases List.mem_cons.1 hu with rfl | hu; rfl; rw [List.mem_singleton.1 hu]; exact H1C.out) (own_move HW2.out (fun g cur _ hg => hg)) (Below.refl _ _) HBS2.out (by have := HN.out; omega) (fun lv1 w3 hown3 hB3 hg3 hv3 => ?_)
  obtain ⟨lva, lvc, rfl⟩ := own_slice hown3
  have hD4 := (hg3.block D HD2L.out HNE.out).trans HD2.out
  have hf3 : w3.frozen? ⟨D, 3, none⟩ = false := free_of hD4
  have hc3 : w3.cell? ⟨D, 3, none⟩ = some lv := cell_of hD4 rfl
  have hk0 : w3.cell? ⟨w1.heap.size, 0, none⟩ = some (.int .i64 i) := hg3.cell hHeld7.2.1 HNB.out
  have hk1 : w3.cell? ⟨w1.heap.size, 1, none⟩ = some bv := hg3.cell hHeld7.2.2 HNB.out
  refine hK.out _ _ ⟨hc3, hk0, hk1⟩ (fun hHeld => ?_)
  clear hK K
  refine Go.Proofs.YtpbampnbgebpjaaW.PrintLast.norm_ (a' := ?_) ?_ ?_
  rotate_left
  · show Act.put _ (some 38) _ = _
    simp only [Act.put, List.setIfInBounds_toArray, List.set_cons_zero, List.set_cons_succ, Go.Proofs.YtpbampnbgebpjaaW.PrintLast.i64_w, Go.Proofs.YtpbampnbgebpjaaW.PrintLast.i32_w]
    rfl
  refine Go.Proofs.YtpbampnbgebpjaaW.PrintLast.pure_ (i := 8) (N := some 39) (v := ?_) (a' := ?_) #[true, true, true, true, true, true, true, true, true, false, false] rfl rfl (by kernel_rfl) (fun _ _ _ h => h) (Or.inl ⟨by rfl, ?_⟩) ?_ ?_
  rotate_left
  · intro w'
    go_simp
    with_reducible rfl
  rotate_left
  · simp only [Act.put, List.setIfInBounds_toArray, List.set_cons_zero, List.set_cons_succ, Go.Proofs.YtpbampnbgebpjaaW.PrintLast.i64_w, Go.Proofs.YtpbampnbgebpjaaW.PrintLast.i32_w]
    rfl
  refine Go.Proofs.YtpbampnbgebpjaaW.PrintLast.pure_ (i := 9) (N := some 40) (v := ?_) (a' := ?_) #[true, true, true, true, true, true, true, true, true, true, false] rfl rfl (by kernel_rfl) (fun _ _ _ h => h) (Or.inl ⟨by rfl, ?_⟩) ?_ ?_
  rotate_left
  · intro w'
    go_simp
    with_reducible rfl
  rotate_left
  · simp only [Act.put, List.setIfInBounds_toArray, List.set_cons_zero, List.set_cons_succ, Go.Proofs.YtpbampnbgebpjaaW.PrintLast.i64_w, Go.Proofs.YtpbampnbgebpjaaW.PrintLast.i32_w]
    rfl
  refine Go.Proofs.YtpbampnbgebpjaaW.PrintLast.last_ (i := 10) (N := none) #[true, true, true, true, true, true, true, true, true, true, true] rfl rfl (by kernel_rfl) (by decide) (fun K hK => ?_)
  refine Go.Proofs.YtpbampnbgebpjaaW.PrintLast.skip_ (w1 := w3.setCell ⟨D, 3, none⟩ (.slice lva (n + 1) lvc)) (by rfl) rfl (by go_simp) ?_
  refine hK.out _ _ ?_
  clear hK K
  refine Go.Proofs.YtpbampnbgebpjaaW.PrintLast.done_ (by kernel_rfl) ?_
  go_wp2
  go_ret
  exact ⟨rfl, w1, bv, es', c', _, w3, HBV.out, HFR.out, HB1.out, HK2.out, HM2.out, hown3, ⟨hg3.os, hg3.tape, hg3.output, hg3.size, hg3.block⟩, rfl⟩

/-- all but a block of bytes is as it was -/
def Poke (g : Nat) (w w' : World) : Prop := (∃ cur, w.heap[g]? = some (.cells cur 5 (0, 0))) ∧ ∀ k, k ≠ g → w'.heap[k]? = w.heap[k]?
theorem Byts.poke {w w' : World} {v : Value} {l : List Int} {g : Nat} (h : Byts w v l) (hg : v.ownBlock ≠ some g) (hp : Poke g w w') : Byts w' v l :=
  ⟨h.1, own_move h.2 fun k cur hk hh => (hp.2 k (fun q => hg (q ▸ hk))).trans hh⟩
theorem Poke.other {g k : Nat} {w w' : World} {o : Obj} (hp : Poke g w w') (h : w.heap[k]? = some o) (ho : ∀ cur, o ≠ .cells cur 5 (0, 0)) : w'.heap[k]? = some o := by
  refine (hp.2 k ?_).trans h
  rintro rfl
  obtain ⟨cur, hc⟩ := hp.1
  rw [h] at hc
  cases hc
  exact ho _ rfl
theorem Poke.row {g : Nat} {w w' : World} {base : Nat} {e : TypeId} {size n : Nat} {v : Value} {xs : List Value} (hp : Poke g w w') (he : e ≠ 5) (h : w.ownsRow base e size v n xs) : w'.ownsRow base e size v n xs :=
  own_move h fun k cur _ hh => hp.other hh (fun c q => he (by cases q; rfl))
theorem byts_lt {w : World} {v : Value} {l : List Int} (h : Byts w v l) {g : Nat} (hg : v.ownBlock = some g) : g < w.heap.size := lt_of_heap (own_kind h.2 hg).2.choose_spec
/-- a write of bytes that lie in memory made since w0: that memory may change then -/
theorem write_apart (base : Nat) (w0 w : World) (D : Nat) (d : Dsk) (i : Int) (A0 : Option Addr) (bn bc : Nat) (l : List Int) (h : IsDk base w0 D d) (hb0 : Below w0.heap.size w0 w) (hn : d.log.length ≤ 1000000) (hbw : base ≤ w0.heap.size) (h0 : 0 ≤ i) (h1 : i < d.N) (hl : l.length = bn) (hbn : bn ≤ 128) (hby : IsBy l) (hc : ∀ i, i < bn → ∃ a, A0 = some a ∧ w.cell? (a.add i) = some (.int .u8 (l.getD i 0))) :
    Calls Try.prog 9 #[.pointer (some ⟨D, 0, none⟩), .int .i64 i, .slice A0 bn bc] w fun e w' => e = .returned (.int .i64 0) ∧ Chg base DK w w' ∧ ∀ g w2, w0.heap.size ≤ g → g < w.heap.size → Poke g w' w2 → IsDk base w2 D { d with now := fun k => if k = i then l else d.now k, log := d.log ++ [(i, l)] } := by
  have HK := h.below hb0
  obtain ⟨F0, M0, lv0, sv0, hd0⟩ := h
  have hd := hd0.below hb0
  obtain ⟨vs, l1, l2, l3⟩ := hd0.hL
  obtain ⟨es, c, hM0, hki, hmb⟩ := hd0.hM
  obtain ⟨esF, cF, hF0, hkF, hmF⟩ := hd0.hF
  have hM := (hb0.block M0 (lt_of_heap hM0)).trans hM0
  have hF := (hb0.block F0 (lt_of_heap hF0)).trans hF0
  have l3' := own_up l3 hb0
  have hbw' : base ≤ w.heap.size := Nat.le_trans hbw hb0.size
  refine (write_fresh base D F0 M0 d.log.length d.N lv0 sv0 (rowOf d.log vs) es c i A0 bn bc l w hd.hD hM hki l3' hn hbw' h0 h1 hl hbn hby hc).mono fun e w' ⟨he, w1, bv, es', c', lv1, w3, q1, qf, q2, q3, q4, q5, q6, hw⟩ => ⟨he, ?_⟩
  have hs1 := q2.size
  have box : ∀ k o, w1.heap[k]? = some o → (w1.alloc (.cells #[.int .i64 i, bv] 61)).heap[k]? = some o := fun k o hk => ((World.grownBy_alloc w1 _ none).block k (lt_of_heap hk) (by simp)).trans hk
  have hM1 := (q2.block M0 (lt_of_heap hM)).trans hM
  have hM2 := box M0 _ hM1
  have hDM : D ≠ M0 := by rintro rfl; rw [hd.hD] at hM; cases hM
  have hD2 := (setMap_ne (o := .map es' c') hDM).trans (box D _ ((q2.block D (lt_of_heap hd.hD)).trans hd.hD))
  have up : ∀ k o, w.heap[k]? = some o → k ≠ M0 → (setMap (w1.alloc (.cells #[.int .i64 i, bv] 61)) M0 (.map es' c')).heap[k]? = some o := fun k o hk hne => (setMap_ne hne).trans (box k o ((q2.block k (lt_of_heap hk)).trans hk))
  have hL2 : (setMap (w1.alloc (.cells #[.int .i64 i, bv] 61)) M0 (.map es' c')).ownsRow base 61 2 lv0 d.log.length (rowOf d.log vs) := own_move l3' fun g cur hg hh => up g _ hh (by rintro rfl; rw [hM] at hh; cases hh)
  have cA : Chg base DK w w1 := Chg.of_below q2 hbw'
  have cB : Chg base DK w1 (w1.alloc (.cells #[.int .i64 i, bv] 61)) := Chg.of_below ((Below.refl _ _).alloc (Nat.le_refl _) _) (by omega)
  have cC := Chg.setMap (o := .map es' c') hd.bM hM2
  have cD : Chg base DK _ (w3.setCell ⟨D, 3, none⟩ lv1) := chg_of hd.bD (by rw [setMap_size]; simp; omega) hD2 hL2 (fun _ => rfl) q6
  have c1 := (cB.trans cC).trans cD
  have call := cA.trans c1
  subst hw
  refine ⟨call, fun gp w2 hg0 hg1 hp => ?_⟩
  have ho : ∀ k, k ≠ D → (w3.setCell ⟨D, 3, none⟩ lv1).heap[k]? = w3.heap[k]? := fun k hk => by simp [World.setCell, Array.getElem?_modify, Ne.symm hk]
  have hne : lv0.ownBlock ≠ some D := fun q => by
    obtain ⟨cur, hc⟩ := (own_kind l3' q).2
    rw [hd.hD] at hc
    cases hc
  have hD3 : w3.heap[D]? = _ := (q6.block D (lt_of_heap hD2) (fun q => hne q.symm)).trans hD2
  have same : ∀ k o, w.heap[k]? = some o → k ≠ M0 → k ≠ D → some k ≠ lv0.ownBlock → (w3.setCell ⟨D, 3, none⟩ lv1).heap[k]? = some o := fun k o hk h3 h4 h5 =>
    (ho k h4).trans ((q6.block k (lt_of_heap (up k o hk h3)) h5).trans (up k o hk h3))
  have rowNe : ∀ k o, w.heap[k]? = some o → (∀ cur, o ≠ .cells cur 61 (0, 0)) → some k ≠ lv0.ownBlock := fun k o hk hn q => by
    obtain ⟨cur, hc⟩ := (own_kind l3' q.symm).2
    rw [hc] at hk
    cases hk
    exact hn cur rfl
  have hMf : (w3.setCell ⟨D, 3, none⟩ lv1).heap[M0]? = some (.map es' c') := by
    rw [ho M0 (Ne.symm hDM), q6.block M0 (by rw [setMap_size]; exact lt_of_heap hM2) (rowNe M0 _ hM (fun cur q => by cases q))]
    exact setMap_at (lt_of_heap hM2)
  have hFf : (w3.setCell ⟨D, 3, none⟩ lv1).heap[F0]? = some (.map esF cF) := same F0 _ hF hd.ne (by rintro rfl; rw [hd.hD] at hF; cases hF) (rowNe F0 _ hF (fun cur q => by cases q))
  have old : ∀ v l, Byts w0 v l → Byts w2 v l := fun v l hv => by
    have h1 : Byts (w3.setCell ⟨D, 3, none⟩ lv1) v l := (hv.below hb0).keep call
    exact h1.poke (fun q => by have := byts_lt hv q; omega) hp
  have fresh : Byts w2 bv l := (q1.keep c1).poke (fun q => by have := (own_kind qf q).1; omega) hp
  refine ⟨F0, M0, lv1, sv0, hd.bD, hd.bF, hd.bM, hd.ne, hp.other (o := .cells #[.int .i64 d.N, .map (some F0), .map (some M0), lv1, sv0] 58 (0, 0)) ?_ (fun cur q => by cases q), ⟨esF, cF, hp.other hFf (fun cur q => by cases q), hkF, fun k => old _ _ (hmF k)⟩, ⟨es', c', hp.other hMf (fun cur q => by cases q), q3, fun k => ?_⟩, ⟨vs ++ [bv], by simp [l1], ?_, hp.row (by decide) ?_⟩, hp.row (by decide) (own_move hd.hS fun g cur hg hh => same g _ hh (by rintro rfl; rw [hM] at hh; cases hh) (by rintro rfl; rw [hd.hD] at hh; cases hh) (rowNe g _ hh (fun cur q => by cases q)))⟩
  · simp [World.setCell, Array.getElem?_modify, hD3]
  · rw [q4 k]
    by_cases hk : k = i
    · rw [if_pos hk]
      show Byts _ bv (if k = i then l else d.now k)
      rw [if_pos hk]
      exact fresh
    · rw [if_neg hk]
      show Byts _ _ (if k = i then l else d.now k)
      rw [if_neg hk]
      exact old _ _ (hmb k)
  · intro p hp
    rw [List.zip_append l1.symm] at hp
    rcases List.mem_append.1 hp with hp | hp
    · exact old _ _ (l2 p hp)
    · simp only [List.zip_cons_cons, List.zip_nil_right, List.mem_singleton] at hp
      subst hp
      exact fresh
  · show World.ownsRow _ base 61 2 lv1 (d.log ++ [(i, l)]).length (rowOf (d.log ++ [(i, l)]) (vs ++ [bv]))
    rw [rowOf_snoc l1, List.length_append]
    refine own_move q5 fun g cur hg hh => (ho g ?_).trans hh
    rintro rfl
    rw [hD3] at hh
    cases hh
end Dk
end Go.Proofs.Ytpbampnbgebpjaa

namespace Go.Proofs.Ytpbampnbgebpjaa
open Go.RowKit Go.Proofs.YtpbampnbgebpjaaW.PrintWords Go.Proofs.YtpbampnbgebpjaaW.PrintLast
set_option linter.unusedVariables false
set_option linter.unusedSimpArgs false
namespace Dk

/-- a disk of the program's, and the document's, after at most c acts -/
structure Both (base : Nat) (w : World) (D R : Nat) (d : Dsk) (r : RfD) (c : Nat) : Prop where
  D : IsDk base w D d
  R : IsRf base w R r
  rel : Rel d r
  N : 1 ≤ d.N ∧ d.N ≤ 4096
  c : r.first.length + r.l.length ≤ c
theorem Both.below {base : Nat} {w w' : World} {D R : Nat} {d : Dsk} {r : RfD} {c : Nat} (h : Both base w D R d r c) (hb : Below w.heap.size w w') : Both base w' D R d r c := ⟨h.D.below hb, h.R.below hb, h.rel, h.N, h.c⟩
theorem Both.up {base : Nat} {w : World} {D R : Nat} {d : Dsk} {r : RfD} {c c' : Nat} (h : Both base w D R d r c) (hc : c ≤ c') : Both base w D R d r c' := ⟨h.D, h.R, h.rel, h.N, Nat.le_trans h.c hc⟩
def LSa (w : World) (N : Int) (i : Value) (wr : World) : Prop := ∃ k : Nat, i = .int .i64 k ∧ (k : Int) ≤ N ∧ Below w.heap.size w wr
set_option maxHeartbeats 1000000 in
set_option maxRecDepth 100000 in
theorem same_disks (base : Nat) (w : World) (D R : Nat) (d : Dsk) (r : RfD) (c : Nat) (h : Both base w D R d r c) (hc : c ≤ 100000) : Calls Try.prog 23 #[.pointer (some ⟨D, 0, none⟩), .pointer (some ⟨R, 0, none⟩)] w fun e w' => e = .returned (.bool true) ∧ Below w.heap.size w w' := by
  have HH := Lib.hid h
  have hN := h.N
  have HL1 := Lib.hid (show r.first.length ≤ 1000000 by have := h.c; omega)
  have HL2 := Lib.hid (show r.l.length ≤ 1000000 by have := h.c; omega)
  have hNN : r.N = d.N := h.rel.N
  have HNN := Lib.hid hNN
  have HREC := Lib.hid (fun i => h.rel.read i)
  have HNL := Lib.hid (fun i => h.rel.now_ok i)
  obtain ⟨_, _, _, _, c0, _⟩ := h.R.parts
  rw [hNN] at c0
  clear hNN h
  generalize hNe : d.N = Nn at *
  have HNE := Lib.hid hNe
  clear hNe
  go_enter Try.func23, Try.ntmps23
  go_wp2_with fail
  go_loopw [5] (fun i wr => LSa w Nn i wr) (fun i _ => 5000 - (intOf i).toNat)
  case atStart => exact ⟨0, rfl, by omega, Below.refl _ _⟩
  case round =>
    obtain ⟨k, rfl, hk, hbb⟩ := hrel
    have HB := Lib.hid hbb
    have c0' := cell_up c0 hbb
    clear hbb
    by_cases hkl : (k : Int) < Nn ∧ (k : Int) < 40
    · obtain ⟨h1, h2⟩ := hkl
      have t1 : decide ((k : Int) < Nn) = true := decide_eq_true h1
      have t2 : decide ((k : Int) < 40) = true := decide_eq_true h2
      have HK := Lib.hid (show (0 : Int) ≤ (k : Int) ∧ (k : Int) < d.N by have := HNE.out; omega)
      have HBO := Lib.hid (HH.out.below HB.out)
      go_wp2_with fail
      refine (read_yes base _ D k d HBO.out.D HK.out.1 HK.out.2 (HNL.out _)).mono ?_
      rintro e w1 ⟨v1, rfl, ho1, hb1⟩
      have hne := ho1
      obtain ⟨va, vc, rfl⟩ := own_slice ho1
      have O1 := Lib.hid (show Own8 w1 _ (d.now k) from ⟨_, ho1⟩)
      have BO1 := Lib.hid (HBO.out.below hb1)
      have B1 := Lib.hid (bel HB.out hb1)
      clear hne ho1 hb1
      go_wp2_with fail
      refine (read_ref base _ R r k BO1.out.R HK.out.1 (by rw [HNN.out]; exact HNE.out ▸ h1) BO1.out.rel.fo BO1.out.rel.lo BO1.out.rel.fs ⟨HL1.out, HL2.out⟩).mono ?_
      rintro e w2 ⟨v2, rfl, ho2, hb2⟩
      rw [HREC.out k] at ho2
      obtain ⟨ub, ho2'⟩ := ho2
      obtain ⟨ua, uc, rfl⟩ := own_slice ho2'
      have O2 := Lib.hid (show Own8 w2 _ (d.now k) from ⟨_, ho2'⟩)
      have O1' := Lib.hid (O1.out.keep (Kps.below hb2))
      have B2 := Lib.hid (bel B1.out hb2)
      clear ho2' hb2
      go_wp2_with fail
      refine (same_own _ _ _ _ _ O1'.out O2.out).mono ?_
      rintro e w3 ⟨y, rfl, rfl, hy⟩
      obtain rfl : y = true := hy rfl
      go_wp2_with fail
      go_roundw
      case rel => exact ⟨k + 1, by go_num, by omega, B2.out⟩
      case measure => simp [intOf]; omega
    · have hBO := HH.out.below HB.out
      have HX : ∃ x y : Int, Hid (∀ n, Calls Try.prog 14 #[.pointer (some ⟨D, 0, none⟩)] (wr.drewN n) fun e w'' => e = .returned (.int .i64 x) ∧ ∃ m, w'' = wr.drewN m) ∧ Hid (∀ n, Calls Try.prog 31 #[.pointer (some ⟨R, 0, none⟩)] (wr.drewN n) fun e w'' => e = .returned (.int .i64 x) ∧ ∃ m, w'' = wr.drewN m) ∧
          Hid (∀ n, Calls Try.prog 16 #[.pointer (some ⟨D, 0, none⟩)] (wr.drewN n) fun e w'' => e = .returned (.int .i64 y) ∧ ∃ m, w'' = wr.drewN m) ∧ Hid (∀ n, Calls Try.prog 29 #[.pointer (some ⟨R, 0, none⟩)] (wr.drewN n) fun e w'' => e = .returned (.int .i64 y) ∧ ∃ m, w'' = wr.drewN m) ∧
          Hid (∀ n, Calls Try.prog 24 #[.pointer (some ⟨D, 0, none⟩)] (wr.drewN n) fun e w'' => e = .returned (.int .i64 Nn) ∧ ∃ m, w'' = wr.drewN m) := by
        have hd := fun n => hBO.below (below_drewN (Below.refl wr.heap.size wr) n)
        refine ⟨_, _, fun n => (pending_any base _ D d (hd n).D (hBO.rel.fit HL2.out)).mono fun e w'' ⟨he, m, hw⟩ => ⟨he, n + m, by rw [hw, World.drewN_drewN]⟩, fun n => (pend_ref base _ R r (hd n).R HL2.out).mono fun e w'' ⟨he, hw⟩ => ⟨by rw [hBO.rel.pend]; exact he, n, hw.symm⟩, fun n => ?_, fun n => (wn_ref base _ R r (hd n).R HL2.out).mono fun e w'' ⟨he, hw⟩ => ⟨he, n, hw.symm⟩, fun n => ?_⟩
        · obtain ⟨la, lc, hc⟩ := log_len (hd n).D
          refine (writes_any D _ lc la _ hc).mono fun e w'' ⟨he, hw⟩ => ⟨?_, n, hw.symm⟩
          rw [he, hBO.rel.log, logOf_len]
        · obtain ⟨F, M, lv, sv, hdk⟩ := (hd n).D
          refine (size_any D d.N _ hdk.cells.1).mono fun e w'' ⟨he, hw⟩ => ⟨by rw [he, HNE.out], n, hw.symm⟩
      clear hBO
      obtain ⟨x, y, H1, H2, H3, H4, H5⟩ := HX
      have hx : (decide ((k : Int) < Nn) = false) ∨ (decide ((k : Int) < Nn) = true ∧ decide ((k : Int) < 40) = false) := by
        by_cases g1 : (k : Int) < Nn
        · exact .inr ⟨decide_eq_true g1, decide_eq_false (by omega)⟩
        · exact .inl (decide_eq_false g1)
      rcases hx with t1 | ⟨t1, t2⟩
      all_goals
        go_wp2_with fail
        go_quiet ((first | (go_at_call 14; exact H1.out _) | (go_at_call 31; exact H2.out _) | (go_at_call 16; exact H3.out _) | (go_at_call 29; exact H4.out _) | (go_at_call 24; exact H5.out _)))
        go_wp2_with fail
        go_ret
        exact ⟨rfl, below_drewN HB.out _⟩
end Dk
end Go.Proofs.Ytpbampnbgebpjaa

namespace Go.Proofs.Ytpbampnbgebpjaa
open Go.RowKit Go.Proofs.YtpbampnbgebpjaaW.PrintWords Go.Proofs.YtpbampnbgebpjaaW.PrintLast
set_option linter.unusedVariables false
set_option linter.unusedSimpArgs false
namespace Dk

theorem IsRf.chgD {base B : Nat} {w w' : World} {R : Nat} {r : RfD} (h : IsRf base w R r) (hc : Chg B DK w w') : IsRf base w' R r := by
  obtain ⟨fv, lv, h⟩ := h
  have m8 : ∀ (g : Nat) (cur : Array Value), w.heap[g]? = some (.cells cur 5 (0, 0)) → w'.heap[g]? = some (.cells cur 5 (0, 0)) := fun g cur hh => hc.keep g _ hh rfl
  exact ⟨fv, lv, h.bR, hc.keep R _ h.hR rfl, h.hF.move m8 fun g cur _ hh => hc.keep g _ hh rfl, h.hL.move m8 fun g cur _ hh => hc.keep g _ hh rfl, h.ne⟩
theorem rk_ek : ∀ o : Obj, RK o = true → EK o = false := by
  intro o h
  cases o with
  | cells c t f =>
    simp only [RK, Bool.or_eq_true, beq_iff_eq] at h
    rcases h with ((h | h) | h) | h <;> subst h <;> rfl
  | _ => simp_all [RK, EK]
theorem IsDk.chgE {base B : Nat} {w w' : World} {D : Nat} {d : Dsk} (h : IsDk base w D d) (hc : Chg B EK w w') : IsDk base w' D d := h.keepR fun k o hk hr => hc.keep k o hk (rk_ek o hr)
/-- what a write answers -/
def wrS (N i : Int) (l : List Int) : Int := if i < 0 ∨ N ≤ i then 51 else if 128 < l.length then 1 else 0
def wrD (d : Dsk) (i : Int) (l : List Int) : Dsk := if wrS d.N i l = 0 then { d with now := fun k => if k = i then l else d.now k, log := d.log ++ [(i, l)] } else d
def wrR (r : RfD) (i : Int) (l : List Int) : RfD := if wrS r.N i l = 0 then { r with l := r.l ++ [⟨i, l, false⟩] } else r
theorem wrS_cases (N i : Int) (l : List Int) : (wrS N i l = 51 ∧ (i < 0 ∨ N ≤ i)) ∨ (wrS N i l = 1 ∧ 0 ≤ i ∧ i < N ∧ 128 < l.length) ∨ (wrS N i l = 0 ∧ 0 ≤ i ∧ i < N ∧ l.length ≤ 128) := by
  unfold wrS
  by_cases h1 : i < 0 ∨ N ≤ i
  · rw [if_pos h1]; exact .inl ⟨rfl, h1⟩
  · rw [if_neg h1]
    by_cases h2 : 128 < l.length
    · rw [if_pos h2]; exact .inr (.inl ⟨rfl, by omega, by omega, h2⟩)
    · rw [if_neg h2]; exact .inr (.inr ⟨rfl, by omega, by omega, by omega⟩)
theorem Rel.wr {d : Dsk} {r : RfD} (h : Rel d r) (i : Int) (l : List Int) (hb : IsBy l) : Rel (wrD d i l) (wrR r i l) := by
  unfold wrD wrR
  rw [show wrS r.N i l = wrS d.N i l by rw [h.N]]
  rcases wrS_cases d.N i l with ⟨e, _⟩ | ⟨e, _⟩ | ⟨e, _, _, hl⟩
  · rw [e, if_neg (by decide), if_neg (by decide)]; exact h
  · rw [e, if_neg (by decide), if_neg (by decide)]; exact h
  · rw [e, if_pos rfl, if_pos rfl]
    exact h.write i l hl hb
theorem wrD_N (d : Dsk) (i : Int) (l : List Int) : (wrD d i l).N = d.N := by unfold wrD; split <;> rfl
theorem wrR_len (r : RfD) (i : Int) (l : List Int) : (wrR r i l).first.length + (wrR r i l).l.length ≤ r.first.length + r.l.length + 1 := by
  unfold wrR
  split
  · show r.first.length + (r.l ++ [(⟨i, l, false⟩ : Ent)]).length ≤ _
    rw [List.length_append, List.length_singleton]
    omega
  · omega
/-- all but one block is as it was -/
structure Pk (g : Nat) (w w' : World) : Prop where
  os : w'.os = w.os
  tape : w'.tape = w.tape
  output : w'.output = w.output
  size : w'.heap.size = w.heap.size
  blk : ∀ k, k ≠ g → w'.heap[k]? = w.heap[k]?
theorem Pk.refl (g : Nat) (w : World) : Pk g w w := ⟨rfl, rfl, rfl, rfl, fun _ _ => rfl⟩
theorem Pk.set {g j : Nat} {w w' : World} (h : Pk g w w') (v : Value) : Pk g w (w'.setCell ⟨g, j, none⟩ v) := ⟨h.os, h.tape, h.output, by rw [set_size]; exact h.size, fun k hk => (set_ne hk).trans (h.blk k hk)⟩
theorem Pk.below {g B : Nat} {w0 w w' : World} (h : Pk g w w') (hb : Below B w0 w) (hg : B ≤ g) : Below B w0 w' := ⟨h.os.trans hb.os, h.tape.trans hb.tape, h.output.trans hb.output, by rw [h.size]; exact hb.size, fun k hk => (h.blk k (by omega)).trans (hb.block k hk)⟩
theorem Pk.chg {g B : Nat} {K : Obj → Bool} {w0 w w' : World} (h : Pk g w w') (hc : Chg B K w0 w) (hg : w0.heap.size ≤ g) (hB : B ≤ w0.heap.size) : Chg B K w0 w' := ⟨h.os.trans hc.os, h.tape.trans hc.tape, h.output.trans hc.output, by rw [h.size]; exact hc.size, fun k hk => (h.blk k (by omega)).trans (hc.old k hk), fun k o hk hK => (h.blk k (by have := lt_of_heap hk; omega)).trans (hc.keep k o hk hK)⟩
/-- the program's write of bytes of the law's own, that are spoilt then -/
theorem write_law (base : Nat) (w0 w : World) (D : Nat) (d : Dsk) (i : Int) (v : Value) (l : List Int) (h : IsDk base w0 D d) (hb0 : Below w0.heap.size w0 w) (hn : d.log.length ≤ 1000000) (hbw : base ≤ w0.heap.size) (hv : BytesIn w v l) :
    Calls Try.prog 9 #[.pointer (some ⟨D, 0, none⟩), .int .i64 i, v] w fun e w' => e = .returned (.int .i64 (wrS d.N i l)) ∧ Chg base DK w w' ∧ ∀ g w2, w0.heap.size ≤ g → g < w.heap.size → (∃ cur, w'.heap[g]? = some (.cells cur 5 (0, 0))) → Pk g w' w2 → IsDk base w2 D (wrD d i l) := by
  obtain ⟨a, cap, rfl, hby, _, hcell⟩ := hv
  unfold wrD
  rcases wrS_cases d.N i l with ⟨e, hi⟩ | ⟨e, h0, h1, hl⟩ | ⟨e, h0, h1, hl⟩
  · rw [e, if_neg (by decide)]
    exact (write_no base w D d i _ (h.below hb0) hi).mono fun e w' ⟨he, hw⟩ => ⟨he, hw ▸ Chg.refl _ _ _, fun g w2 hg _ _ hp => h.below (hp.below (hw ▸ hb0) hg)⟩
  · rw [e, if_neg (by decide)]
    exact (write_long base w D d i a l.length cap (h.below hb0) h0 h1 hl).mono fun e w' ⟨he, hw⟩ => ⟨he, hw ▸ Chg.refl _ _ _, fun g w2 hg _ _ hp => h.below (hp.below (hw ▸ hb0) hg)⟩
  · rw [e, if_pos rfl]
    exact (write_apart base w0 w D d i a l.length cap l h hb0 hn hbw h0 h1 rfl hl hby hcell).mono fun e w' ⟨he, hc, hp⟩ => ⟨he, hc, fun g w2 hg0 hg1 hk h2 => hp g w2 hg0 hg1 ⟨hk, h2.blk⟩⟩
theorem write_ref_law (base : Nat) (w : World) (R : Nat) (r : RfD) (i : Int) (v : Value) (l : List Int) (h : IsRf base w R r) (hn : r.l.length ≤ 1000000) (hbw : base ≤ w.heap.size) (hv : BytesIn w v l) :
    Calls Try.prog 18 #[.pointer (some ⟨R, 0, none⟩), .int .i64 i, v] w fun e w' => e = .returned (.int .i64 (wrS r.N i l)) ∧ IsRf base w' R (wrR r i l) ∧ Chg base EK w w' := by
  unfold wrR
  rcases wrS_cases r.N i l with ⟨e, hi⟩ | ⟨e, h0, h1, hl⟩ | ⟨e, h0, h1, hl⟩
  · rw [e, if_neg (by decide)]
    exact (write_ref_no base w R r i v h hi).mono fun e w' ⟨he, hw⟩ => ⟨he, hw ▸ h, hw ▸ Chg.refl _ _ _⟩
  · rw [e, if_neg (by decide)]
    obtain ⟨a, cap, rfl, _, _, _⟩ := hv
    exact (write_ref_long base w R r i a l.length cap h h0 h1 hl).mono fun e w' ⟨he, hw⟩ => ⟨he, hw ▸ h, hw ▸ Chg.refl _ _ _⟩
  · rw [e, if_pos rfl]
    exact write_ref base w R r i v l h hn hbw h0 h1 hl hv
/-- what a read answers -/
def rdS (N i : Int) : Int := if i < 0 ∨ N ≤ i then 51 else 0
def rdB (d : Dsk) (i : Int) : List Int := if i < 0 ∨ d.N ≤ i then [] else full (d.now i)
theorem read_ref_no (base : Nat) (w : World) (R : Nat) (d : RfD) (i : Int) (h : IsRf base w R d) (hi : i < 0 ∨ d.N ≤ i) : Calls Try.prog 20 #[.pointer (some ⟨R, 0, none⟩), .int .i64 i] w fun e w' => e = .returned (.tuple #[.slice none 0 0, .int .i64 51]) ∧ w = w' := by
  obtain ⟨fv, lv, h⟩ := h
  obtain ⟨c0, _⟩ := h.cells
  clear h
  by_cases hi0 : i < 0
  · have t1 : decide (i < 0) = true := decide_eq_true hi0
    go_enter Try.func20, Try.ntmps20
    go_wp2_with fail
    go_ret2
    exact ⟨rfl, rfl⟩
  · have t1 : decide (i < 0) = false := decide_eq_false hi0
    have t2 : decide (d.N ≤ i) = true := decide_eq_true (by omega)
    go_enter Try.func20, Try.ntmps20
    go_wp2_with fail
    go_ret2
    exact ⟨rfl, rfl⟩
theorem full_128 {b : List Int} (h : b.length ≤ 128) : (full b).length = 128 := full_len b h
theorem read_law (base : Nat) (w : World) (D R : Nat) (d : Dsk) (r : RfD) (c : Nat) (i : Int) (h : Both base w D R d r c) :
    Calls Try.prog 11 #[.pointer (some ⟨D, 0, none⟩), .int .i64 i] w fun e w' => ∃ v, e = .returned (.tuple #[v, .int .i64 (rdS d.N i)]) ∧ w'.ownsRow w.heap.size 5 1 v (rdB d i).length ((rdB d i).map (Value.int .u8)) ∧ Below w.heap.size w w' := by
  unfold rdS rdB
  by_cases hi : i < 0 ∨ d.N ≤ i
  · rw [if_pos hi, if_pos hi]
    exact (read_no base w D i d h.D hi).mono fun e w' ⟨he, hw⟩ => ⟨_, he, World.ownsRow_nil _ _ _ _, hw ▸ Below.refl _ _⟩
  · rw [if_neg hi, if_neg hi]
    have hl := full_128 (h.rel.now_ok i)
    exact (read_yes base w D i d h.D (by omega) (by omega) (h.rel.now_ok i)).mono fun e w' ⟨v, he, ho, hb⟩ => ⟨v, he, by rw [hl]; exact ho, hb⟩
theorem read_ref_law (base : Nat) (w : World) (D R : Nat) (d : Dsk) (r : RfD) (c : Nat) (i : Int) (h : Both base w D R d r c) (hc : c ≤ 100000) :
    Calls Try.prog 20 #[.pointer (some ⟨R, 0, none⟩), .int .i64 i] w fun e w' => ∃ v b, e = .returned (.tuple #[v, .int .i64 (rdS d.N i)]) ∧ w'.ownsRow b 5 1 v (rdB d i).length ((rdB d i).map (Value.int .u8)) ∧ Below w.heap.size w w' := by
  have hcc := h.c
  unfold rdS rdB
  by_cases hi : i < 0 ∨ d.N ≤ i
  · rw [if_pos hi, if_pos hi]
    exact (read_ref_no base w R r i h.R (by rw [h.rel.N]; exact hi)).mono fun e w' ⟨he, hw⟩ => ⟨_, 0, he, World.ownsRow_nil _ _ _ _, hw ▸ Below.refl _ _⟩
  · rw [if_neg hi, if_neg hi]
    have hl := full_128 (h.rel.now_ok i)
    refine (read_ref base w R r i h.R (by omega) (by rw [h.rel.N]; omega) h.rel.fo h.rel.lo h.rel.fs ⟨by omega, by omega⟩).mono fun e w' ⟨v, he, ho, hb⟩ => ?_
    rw [h.rel.read] at ho
    obtain ⟨b, ho⟩ := ho
    exact ⟨v, b, he, by rw [hl]; exact ho, hb⟩
end Dk
end Go.Proofs.Ytpbampnbgebpjaa

namespace Go.Proofs.Ytpbampnbgebpjaa
open Go.RowKit Go.Proofs.YtpbampnbgebpjaaW.PrintWords Go.Proofs.YtpbampnbgebpjaaW.PrintLast
set_option linter.unusedVariables false
set_option linter.unusedSimpArgs false
namespace Dk

theorem cut_in2 (base : Nat) (w : World) (D R : Nat) (d : Dsk) (r : RfD) (c : Nat) (v : Value) (l : List Bool) (h : Both base w D R d r c) (hc : c ≤ 100000) (hbw : base ≤ w.heap.size) (hv : BoolsIn w v l) :
    Calls Try.prog 13 #[.pointer (some ⟨D, 0, none⟩), v] w fun e w' => ∃ C, e = .returned (.pointer (some ⟨C, 0, none⟩)) ∧ IsDk base w' C (leftD d (safeOf d) d.log.length l) ∧ Below w.heap.size w w' := by
  obtain ⟨a, k, rfl, hl, hk⟩ := hv
  exact cut_any base w D d a k l h.D (h.rel.fit (by have := h.c; omega)) hbw h.N hl hk
theorem cutat_in2 (base : Nat) (w : World) (D R : Nat) (d : Dsk) (r : RfD) (c : Nat) (n : Int) (v : Value) (l : List Bool) (h : Both base w D R d r c) (hc : c ≤ 100000) (hbw : base ≤ w.heap.size) (hv : BoolsIn w v l) :
    Calls Try.prog 17 #[.pointer (some ⟨D, 0, none⟩), .int .i64 n, v] w fun e w' => ∃ C, e = .returned (.pointer (some ⟨C, 0, none⟩)) ∧ IsDk base w' C (leftD d (safeAt d.syncs (upTo d n) d.syncs.length) (upTo d n) l) ∧ Below w.heap.size w w' := by
  obtain ⟨a, k, rfl, hl, hk⟩ := hv
  exact cutat_any base w D d n a k l h.D (h.rel.fit (by have := h.c; omega)) hbw h.N hl hk
/-- what a loss of power leaves of both -/
theorem both_cut {base : Nat} {w : World} {D R C R2 c : Nat} {d : Dsk} {r : RfD} {keep : List Bool} (h : Both base w D R d r c) {w2 : World} (hC : IsDk base w2 C (leftD d (safeOf d) d.log.length keep)) (hR : IsRf base w2 R2 ⟨r.N, r.first ++ keptE r.l (syncAt r.l r.l.length) keep r.l.length, []⟩) :
    ∃ d2 r2, Both base w2 C R2 d2 r2 c := by
  refine ⟨_, _, hC, hR, h.rel.cut keep, h.N, ?_⟩
  have h1 := keptE_len r.l (syncAt r.l r.l.length) keep r.l.length
  have h2 := h.c
  simp only [List.length_append, List.length_nil]
  omega
theorem both_cutat {base : Nat} {w : World} {D R C R2 c : Nat} {d : Dsk} {r : RfD} {keep : List Bool} {n : Int} {up_ : Nat} (h : Both base w D R d r c) {w2 : World} (hC : IsDk base w2 C (leftD d (safeAt d.syncs (upTo d n) d.syncs.length) (upTo d n) keep)) (h1 : up_ ≤ r.l.length) (h2 : nW (r.l.take up_) = upTo d n) (h3 : ∀ j, j < up_ → nW (r.l.take j) < upTo d n) (hR : IsRf base w2 R2 ⟨r.N, r.first ++ keptE (r.l.take up_) (syncAt (r.l.take up_) up_) keep up_, []⟩) :
    ∃ d2 r2, Both base w2 C R2 d2 r2 c := by
  refine ⟨_, _, hC, hR, h.rel.cutat n keep up_ h1 h2 h3, h.N, ?_⟩
  have h4 := keptE_len (r.l.take up_) (syncAt (r.l.take up_) up_) keep up_
  have h5 := h.c
  simp only [List.length_append, List.length_nil]
  omega
theorem upTo_ref {base : Nat} {w : World} {D R c : Nat} {d : Dsk} {r : RfD} (h : Both base w D R d r c) (n : Int) : (upTo d n : Int) = max 0 (min n (nW r.l : Int)) := by
  rw [upTo_eq, h.rel.log, logOf_len]
def LPl (w : World) (dv rv i : Value) (wr : World) : Prop := ∃ (k D R : Nat) (d : Dsk) (r : RfD), dv = .pointer (some ⟨D, 0, none⟩) ∧ rv = .pointer (some ⟨R, 0, none⟩) ∧ i = .int .i64 k ∧ k ≤ 150 ∧ Both w.heap.size wr D R d r k ∧ Below w.heap.size w wr
def LMu (g n : Nat) (w4 : World) (i : Value) (wm : World) : Prop := ∃ j : Nat, i = .int .i64 j ∧ j ≤ n ∧ Pk g w4 wm ∧ ∃ cur : Array Value, wm.heap[g]? = some (.cells cur 5 (0, 0)) ∧ n ≤ cur.size
theorem LMu.cell {g n j : Nat} {wm : World} {cur : Array Value} {ag : Addr} (h : wm.heap[g]? = some (.cells cur 5 (0, 0))) (hn : n ≤ cur.size) (hj : j < n) (hag : ag = ⟨g, 0, none⟩) : wm.frozen? (ag.add j) = false ∧ ∃ v, wm.cell? (ag.add j) = some v := by
  subst hag
  have e : (⟨g, 0, none⟩ : Addr).add j = ⟨g, j, none⟩ := by unfold Addr.add; split <;> simp_all
  rw [e]
  exact ⟨free_of h, cur[j], cell_of h (Array.getElem?_eq_getElem (by omega))⟩
theorem LMu.step {g n j : Nat} {w4 wm : World} {cur : Array Value} {ag : Addr} {v : Value} (hp : Pk g w4 wm) (h : wm.heap[g]? = some (.cells cur 5 (0, 0))) (hn : n ≤ cur.size) (hj : j < n) (hag : ag = ⟨g, 0, none⟩) : LMu g n w4 (.int .i64 ((j + 1 : Nat) : Int)) (wm.setCell (ag.add j) v) := by
  subst hag
  have e : (⟨g, 0, none⟩ : Addr).add j = ⟨g, j, none⟩ := by unfold Addr.add; split <;> simp_all
  rw [e]
  exact ⟨j + 1, rfl, by omega, hp.set v, _, set_at h, by simpa using hn⟩
def LNo (w : World) (i : Value) (wr : World) : Prop := i = .int .i64 0 ∧ Below w.heap.size w wr
def LMz (w0 : World) (va : Option Addr) (n : Nat) (i : Value) (wm : World) : Prop := ∃ j : Nat, i = .int .i64 j ∧ j ≤ n ∧ Below w0.heap.size w0 wm ∧ (0 < n → ∃ g cur ag, va = some ag ∧ ag = ⟨g, 0, none⟩ ∧ w0.heap.size ≤ g ∧ wm.heap[g]? = some (.cells cur 5 (0, 0)) ∧ n ≤ cur.size)
theorem LMz.step {g n j : Nat} {w0 wm : World} {cur : Array Value} {ag : Addr} {v : Value} (hb : Below w0.heap.size w0 wm) (h : wm.heap[g]? = some (.cells cur 5 (0, 0))) (hn : n ≤ cur.size) (hj : j < n) (hag : ag = ⟨g, 0, none⟩) (hg : w0.heap.size ≤ g) : LMz w0 (some ag) n (.int .i64 ((j + 1 : Nat) : Int)) (wm.setCell (ag.add j) v) := by
  subst hag
  have e : (⟨g, 0, none⟩ : Addr).add j = ⟨g, j, none⟩ := by unfold Addr.add; split <;> simp_all
  rw [e]
  exact ⟨j + 1, rfl, by omega, hb.setCell (p := ⟨g, j, none⟩) hg v, fun _ => ⟨g, _, _, rfl, rfl, hg, set_at h, by simpa using hn⟩⟩
/-- a row of bytes of its own, opened -/
theorem row_any {w : World} {base : Nat} {v : Value} {l : List Int} (h : w.ownsRow base 5 1 v l.length (l.map (Value.int .u8))) (hn : v ≠ .slice none 0 0) : ∃ g c cur ag, v = .slice (some ag) l.length c ∧ ag = ⟨g, 0, none⟩ ∧ base ≤ g ∧ g < w.heap.size ∧ w.heap[g]? = some (.cells cur 5 (0, 0)) ∧ l.length ≤ cur.size := by
  rcases h.2 with ⟨q, h0⟩ | ⟨g, cap, cur, q, q2, q3, q4, q5, q6, q7⟩
  · exact absurd q hn
  · refine ⟨g, cap, cur, _, q, rfl, q2, lt_of_heap q3, q3, ?_⟩
    omega
theorem own_bytes {w : World} {base : Nat} {v : Value} {l : List Int} (h : w.ownsRow base 5 1 v l.length (l.map (Value.int .u8))) (hb : IsBy l) (hl : l.length ≤ 140737488351232) : BytesIn w v l := by
  obtain ⟨a, c, rfl⟩ := own_slice h
  refine ⟨a, c, rfl, hb, by omega, fun j hj => ?_⟩
  rcases h.2 with ⟨_, q⟩ | ⟨g, cap, cur, q, q2, q3, q4, q5⟩
  · omega
  · cases q
    refine ⟨_, rfl, World.ownsRow.cells h (g := g) rfl j _ ?_⟩
    rw [List.getElem?_map, List.getElem?_eq_getElem hj, List.getD_eq_getElem?_getD, List.getElem?_eq_getElem hj]
    rfl
theorem bytes_reads {w : World} {a : Option Addr} {c : Nat} {l : List Int} (h : BytesIn w (.slice a l.length c) l) : Reads w w.heap.size 1 a l.length (l.map (Value.int .u8)) := by
  obtain ⟨a', c', e, _, _, hc⟩ := h
  cases e
  refine ⟨by simp, fun hn => ?_⟩
  obtain ⟨ad, rfl, h0⟩ := hc 0 hn
  refine ⟨ad, rfl, ?_, fun j u hu => ?_⟩
  · have := World.block_lt_of_cell? w _ h0
    rwa [block_of_add] at this
  · rw [List.getElem?_map] at hu
    cases hj : l[j]? with
    | none => rw [hj] at hu; cases hu
    | some x =>
      rw [hj] at hu
      cases hu
      obtain ⟨h1, h2⟩ := List.getElem?_eq_some_iff.1 hj
      obtain ⟨ad', e', h3⟩ := hc j h1
      cases e'
      rw [h3, List.getD_eq_getElem?_getD, hj]
      rfl
theorem own_nil_ne {v : Value} {b : Nat} (h : v.ownBlock = some b) : v ≠ .slice none 0 0 := by rintro rfl; cases h
theorem rdB_len {d : Dsk} {r : RfD} (h : Rel d r) (i : Int) : (rdB d i).length ≤ 128 := by
  unfold rdB
  split
  · simp
  · rw [full_128 (h.now_ok i)]; exact Nat.le_refl _
theorem same_law (w : World) (v1 v2 : Value) (b1 b2 : Nat) (l : List Int) (h1 : w.ownsRow b1 5 1 v1 l.length (l.map (Value.int .u8))) (h2 : w.ownsRow b2 5 1 v2 l.length (l.map (Value.int .u8))) : Calls Try.prog 15 #[v1, v2] w fun e w' => e = .returned (.bool true) ∧ w = w' :=
  same_true w v1 v2 _ _ b1 b2 l h1 h2
theorem below_chg {B : Nat} {K : Obj → Bool} {w w' : World} (h : Chg B K w w') : Below B w w' := ⟨h.os, h.tape, h.output, h.size, h.old⟩
set_option maxHeartbeats 8000000 in
set_option maxRecDepth 100000 in
theorem plays_walk (sectors : Int) (v1 : Value) (w : World) (script : List Op5) (h1 : OpsIn w v1 script) (hbl : ∀ x ∈ script, x.b.length ≤ 140737488351232) :
    Calls Try.prog 5 #[.int .i64 sectors, v1] w fun e w' => e = .returned (.bool true) ∧ Below w.heap.size w w' := by
  obtain ⟨sa, sc, rfl, hsl, hops⟩ := h1
  have HOPS := Lib.hid hops
  have HBL := Lib.hid hbl
  clear hops hbl
  obtain ⟨i0, hi0, hz0, hz1, hz2⟩ := info_parts info_u8
  by_cases hmay : 1 ≤ sectors ∧ sectors ≤ 4096
  · obtain ⟨m1, m2⟩ := hmay
    have t1 : decide (1 ≤ sectors) = true := decide_eq_true m1
    have t2 : decide (sectors ≤ 4096) = true := decide_eq_true m2
    go_enter Try.func5, Try.ntmps5
    go_wp2_with fail
    refine (new_dk w.heap.size sectors _ (Nat.le_refl _) m1 m2).mono ?_
    rintro e w1 ⟨D, rfl, hi1, hb1⟩
    have HI1 := Lib.hid hi1
    have HB1 := Lib.hid hb1
    clear hi1 hb1
    go_wp2_with fail
    refine (alive_any _).mono ?_
    rintro e w2 ⟨rfl, hb2⟩
    have HI2 := Lib.hid (HI1.out.below hb2)
    have HB2 := Lib.hid (bel HB1.out hb2)
    clear hb2 HI1 HB1
    go_wp2_with fail
    have HBO := Lib.hid (show Both w.heap.size (w2.alloc (.cells #[.int .i64 sectors, .slice none 0 0, .slice none 0 0] 48)) D w2.heap.size (Dsk.new sectors) ⟨sectors, [], []⟩ 0 from
      ⟨HI2.out.below ((Below.refl _ _).alloc (Nat.le_refl _) _), IsOut.rf ⟨.slice none 0 0, [], World.alloc_heap_new _ _, rfl, (fun p hp => by simp at hp), World.ownsRow_nil _ _ _ _⟩ HB2.out.size, Rel.new sectors, ⟨m1, m2⟩, Nat.le_refl _⟩)
    have HB3 := Lib.hid (HB2.out.alloc HB2.out.size (.cells #[.int .i64 sectors, .slice none 0 0, .slice none 0 0] 48))
    clear HI2 HB2
    go_loopw [5, 8, 9] (fun dv rv i wr => LPl w dv rv i wr) (fun _ _ i _ => 151 - (intOf i).toNat)
    case atStart => exact ⟨0, D, w2.heap.size, _, _, rfl, rfl, rfl, Nat.zero_le _, HBO.out, HB3.out⟩
    case round =>
      obtain ⟨k, D, R, d, r, rfl, rfl, rfl, hk, hbo, hbb⟩ := hrel
      have HBOw := Lib.hid hbo
      have HBw := Lib.hid hbb
      clear hbo hbb HBO HB3
      by_cases hlt : k < script.length ∧ k < 150
      · obtain ⟨g1, g2⟩ := hlt
        have t3 : decide (k < script.length) = true := decide_eq_true g1
        have t4 : decide ((k : Int) < 150) = true := decide_eq_true (by omega)
        obtain ⟨ad, rfl, hop⟩ := HOPS.out k g1
        have hxl := HBL.out _ (List.getElem_mem g1)
        generalize hx : script[k] = x at hop hxl
        clear hx
        obtain ⟨xk, xi, xbv, xb, xkv, xkeep⟩ := x
        obtain ⟨q0, q1, q2, q3, q4, q5⟩ := hop
        simp only at q0 q1 q2 q3 q4 q5 hxl
        have HBY := Lib.hid (q4.chg HBw.out)
        have HBYW := Lib.hid q4
        have HBO2 := Lib.hid (q5.chg HBw.out)
        obtain ⟨ba, bc, rfl, hby, _⟩ := q4
        obtain ⟨ka, kc, rfl, _⟩ := q5
        have HYB := Lib.hid hby
        have HXL := Lib.hid hxl
        have HKL := Lib.hid (show r.first.length + r.l.length ≤ k from HBOw.out.c)
        clear hby hxl
        have o0 := cell_up q0 HBw.out
        have o1 := cell_up q1 HBw.out
        have o2 := cell_up q2 HBw.out
        have o3 := cell_up q3 HBw.out
        clear q0 q1 q2 q3
        have HSZ := Lib.hid HBw.out.size
        have HREL := Lib.hid HBOw.out.rel
        have HRELN := Lib.hid HBOw.out.rel.N
        have HNB := Lib.hid HBOw.out.N
        by_cases hk1 : xk = 1
        · subst hk1
          have HROW := Lib.hid (show ((wr.alloc (.cells #[.int .i64 1, .int .i64 xi, .slice ba xb.length bc, .slice ka xkeep.length kc] 32)).alloc (.cells #[] 5)).ownsRow (wr.heap.size + 1) 5 1 (.slice (some ⟨wr.heap.size + 1, 0, none⟩) 0 0) 0 [] by
            have e : (wr.alloc (.cells #[.int .i64 1, .int .i64 xi, .slice ba xb.length bc, .slice ka xkeep.length kc] 32)).heap.size = wr.heap.size + 1 := by simp
            have h := World.ownsRow_made (e := 5) (size := 1) (wr.alloc (.cells #[.int .i64 1, .int .i64 xi, .slice ba xb.length bc, .slice ka xkeep.length kc] 32)) #[] 0 (Nat.le_refl _) (by decide) rfl
            rw [e] at h
            exact h)
          have HRD := Lib.hid (show Reads ((wr.alloc (.cells #[.int .i64 1, .int .i64 xi, .slice ba xb.length bc, .slice ka xkeep.length kc] 32)).alloc (.cells #[] 5)) wr.heap.size 1 ba xb.length (xb.map (Value.int .u8)) from ((bytes_reads HBY.out).alloc (Nat.le_refl _) _).alloc (by simp) _)
          go_wp2_with (at_builtin; refine wpList_append_any _ rfl (.tmp 80) (.tmp 82) 30 rfl (wr.heap.size + 1) 5 i0 (.int .u8 0) 1 1 Try.underlying30 hi0 hz0 hz1 hz2 rfl (by decide) (.slice (some ⟨wr.heap.size + 1, 0, none⟩) 0 0) 0 [] rfl HROW.out wr.heap.size ba xb.length bc (xb.map (Value.int .u8)) rfl HRD.out (by intro u hu; obtain ⟨y, _, rfl⟩ := List.mem_map.1 hu; rfl) (by have := HXL.out; simp only [maxLen]; omega) (by have := HXL.out; omega) (by simp) ?_)
          intro v3 w3 h3 hg3 hat3
          have hvn : v3 ≠ .slice none 0 0 := by rcases hat3 with q | q <;> exact own_nil_ne q
          obtain ⟨g, gc, cur3, ag, rfl, hag, hgb, hgl, hgh, hgn⟩ := row_any h3 hvn
          have HBX3 := Lib.hid (show w3.heap[wr.heap.size]? = some (.cells #[.int .i64 1, .int .i64 xi, .slice ba xb.length bc, .slice ka xkeep.length kc] 32) from (hg3.block wr.heap.size (by simp <;> omega) (by simp [Value.ownBlock])).trans (((World.grownBy_alloc (wr.alloc (.cells #[.int .i64 1, .int .i64 xi, .slice ba xb.length bc, .slice ka xkeep.length kc] 32)) _ none).block _ (by simp) (by simp)).trans (World.alloc_heap_new wr _)))
          have HB03 := Lib.hid (show Below wr.heap.size wr w3 from (((Below.refl wr.heap.size wr).alloc (Nat.le_refl _) (.cells #[.int .i64 1, .int .i64 xi, .slice ba xb.length bc, .slice ka xkeep.length kc] 32)).alloc (by simp) (.cells #[] 5)).grown hg3 (by simp <;> omega) (fun q hq => by cases hq; exact Nat.le_succ _))
          have HBI3 := Lib.hid (own_bytes h3 HYB.out HXL.out)
          have HGB := Lib.hid hgb
          have HGL := Lib.hid hgl
          have HGH := Lib.hid hgh
          have HGN := Lib.hid hgn
          clear h3 hg3 hat3 hvn hgb hgl hgh hgn HROW HRD
          have b31 : w3.cell? ⟨wr.heap.size, 1, none⟩ = some (.int .i64 xi) := cell_of HBX3.out rfl
          have HAG := Lib.hid hag
          clear hag
          go_wp2_with fail
          refine (write_law w.heap.size wr w3 D d xi _ xb HBOw.out.D HB03.out (by rw [HBOw.out.rel.log, logOf_len]; have := nW_le r.l; have := HKL.out; omega) HSZ.out HBI3.out).mono ?_
          rintro e w4 ⟨rfl, hc4, hp4⟩
          have HC4 := Lib.hid hc4
          have HP4 := Lib.hid (show ∀ w2, Pk g w4 w2 → IsDk w.heap.size w2 D (wrD d xi xb) from fun w2 hp => hp4 g w2 (by have := HGB.out; omega) HGL.out ⟨_, hc4.keep g _ HGH.out rfl⟩ hp)
          have HG4 := Lib.hid (hc4.keep g _ HGH.out rfl)
          have HBX4 := Lib.hid (hc4.keep _ _ HBX3.out rfl)
          clear hc4 hp4
          have HNEXT := Lib.hid (show ∀ wm, Pk g w4 wm → IsDk w.heap.size wm D (wrD d xi xb) ∧ IsRf w.heap.size wm R r ∧ Below w.heap.size w wm ∧ wm.heap[wr.heap.size]? = some (.cells #[.int .i64 1, .int .i64 xi, .slice ba xb.length bc, .slice ka xkeep.length kc] 32) ∧ w.heap.size ≤ wm.heap.size from fun wm hp => by
            have hgb := HGB.out
            have hc := hp.chg ((Chg.of_below HB03.out HSZ.out).trans HC4.out) (by omega) HSZ.out
            exact ⟨HP4.out wm hp, HBOw.out.R.chgD hc, HBw.out.trans hc.below, (hp.blk _ (by omega)).trans HBX4.out, Nat.le_trans HSZ.out hc.size⟩)
          generalize hm : wrS d.N xi xb = m
          have HM := Lib.hid hm
          clear hm
          go_wp2_with fail
          go_loopw [13] (fun i wm => LMu g xb.length w4 i wm) (fun i _ => xb.length - (intOf i).toNat)
          case atStart => exact ⟨0, rfl, Nat.zero_le _, Pk.refl _ _, _, HG4.out, HGN.out⟩
          case round =>
            obtain ⟨j, rfl, hj, hpk, cur, hcu, hcn⟩ := hrel
            have HPK := Lib.hid hpk
            have HCU := Lib.hid hcu
            have HCN := Lib.hid hcn
            clear hpk hcu hcn
            by_cases hjl : j < xb.length
            · have t5 : decide (j < xb.length) = true := decide_eq_true hjl
              obtain ⟨fz, cv, hcv⟩ := LMu.cell HCU.out HCN.out hjl HAG.out
              go_wp2_with fail
              have HST := Lib.hid (LMu.step (v := .int .u8 99) HPK.out HCU.out HCN.out hjl HAG.out)
              go_roundw
              case rel => exact HST.out
              case measure => simp [intOf]; omega
            · have t5 : decide (j < xb.length) = false := decide_eq_false hjl
              obtain ⟨n1, n2, n3, n4, n5⟩ := HNEXT.out _ HPK.out
              have b41 := cell_of (i := 1) n4 rfl
              have b42 := cell_of (i := 2) n4 rfl
              have HN1 := Lib.hid n1
              have HN3 := Lib.hid n3
              have HWRF := Lib.hid (show Calls Try.prog 18 #[.pointer (some ⟨R, 0, none⟩), .int .i64 xi, .slice ba xb.length bc] wr fun e w' => e = .returned (.int .i64 m) ∧ IsRf w.heap.size w' R (wrR r xi xb) ∧ Chg w.heap.size EK wr w' from by
                rw [← HM.out, ← HRELN.out]
                exact write_ref_law w.heap.size wr R r xi _ xb n2 (by have := HKL.out; omega) n5 (HBYW.out.chg n3))
              clear n1 n2 n3 n4 n5 HNEXT HPK HCU HCN
              go_wp2_with fail
              refine HWRF.out.mono ?_
              rintro e w5 ⟨rfl, hr5, hc5⟩
              have HR5 := Lib.hid hr5
              have HC5 := Lib.hid hc5
              clear hr5 hc5
              go_wp2_with fail
              go_roundw
              case rel => exact ⟨k + 1, D, R, wrD d xi xb, wrR r xi xb, rfl, rfl, by go_num, by omega, ⟨HN1.out.chgE HC5.out, HR5.out, HREL.out.wr xi xb HYB.out, by rw [wrD_N]; exact HNB.out, by have := wrR_len r xi xb; have := HKL.out; omega⟩, HN3.out.trans HC5.out.below⟩
              case measure => simp [intOf]; omega
        by_cases hk2 : xk = 2
        · subst hk2
          clear hk1
          have BA := Lib.hid ((Below.refl wr.heap.size wr).alloc (Nat.le_refl _) (.cells #[.int .i64 2, .int .i64 xi, .slice ba xb.length bc, .slice ka xkeep.length kc] 32))
          have HX0 := Lib.hid (show (wr.alloc (.cells #[.int .i64 2, .int .i64 xi, .slice ba xb.length bc, .slice ka xkeep.length kc] 32)).heap[wr.heap.size]? = some (.cells #[.int .i64 2, .int .i64 xi, .slice ba xb.length bc, .slice ka xkeep.length kc] 32) from World.alloc_heap_new wr _)
          have HB0 := Lib.hid (HBOw.out.below BA.out)
          have HSZ0 := Lib.hid (Nat.le_trans HSZ.out BA.out.size)
          have hnl : r.l.length ≤ 1000000 := by have := HKL.out; omega
          have hnf : r.first.length ≤ 1000000 := by have := HKL.out; omega
          have HNL := Lib.hid hnl
          have HNF := Lib.hid hnf
          clear hnl hnf
          go_wp2_with fail
          refine (sync_any w.heap.size _ D d HB0.out.D (HREL.out.fit HNL.out).2.1 HSZ0.out).mono ?_
          rintro e w3 ⟨rfl, hi3, hc3⟩
          have HI3 := Lib.hid hi3
          have HC3 := Lib.hid hc3
          have HR3 := Lib.hid (HB0.out.R.chgD hc3)
          clear hi3 hc3
          go_wp2_with fail
          refine (sync_ref w.heap.size _ R r HR3.out HNL.out (Nat.le_trans HSZ0.out HC3.out.size)).mono ?_
          rintro e w4 ⟨rfl, hi4, hc4⟩
          have HI4 := Lib.hid hi4
          have HC4 := Lib.hid hc4
          clear hi4 hc4
          go_wp2_with fail
          go_roundw
          case rel => exact ⟨k + 1, D, R, _, _, rfl, rfl, by go_num, by omega, ⟨HI3.out.chgE HC4.out, HI4.out, HREL.out.sync, HNB.out, by have := HKL.out; simp only [List.length_append, List.length_singleton]; omega⟩, (HBw.out.trans (BA.out.mono HSZ.out)).trans (HC3.out.below.trans HC4.out.below)⟩
          case measure => simp [intOf]; omega
        by_cases hk3 : xk = 3
        · subst hk3
          clear hk1 hk2
          have BA := Lib.hid ((Below.refl wr.heap.size wr).alloc (Nat.le_refl _) (.cells #[.int .i64 3, .int .i64 xi, .slice ba xb.length bc, .slice ka xkeep.length kc] 32))
          have HX0 := Lib.hid (show (wr.alloc (.cells #[.int .i64 3, .int .i64 xi, .slice ba xb.length bc, .slice ka xkeep.length kc] 32)).heap[wr.heap.size]? = some (.cells #[.int .i64 3, .int .i64 xi, .slice ba xb.length bc, .slice ka xkeep.length kc] 32) from World.alloc_heap_new wr _)
          have HB0 := Lib.hid (HBOw.out.below BA.out)
          have HSZ0 := Lib.hid (Nat.le_trans HSZ.out BA.out.size)
          have hnl : r.l.length ≤ 1000000 := by have := HKL.out; omega
          have hnf : r.first.length ≤ 1000000 := by have := HKL.out; omega
          have HNL := Lib.hid hnl
          have HNF := Lib.hid hnf
          clear hnl hnf
          go_wp2_with fail
          refine (read_law w.heap.size _ D R d r k xi HB0.out).mono ?_
          rintro e w3 ⟨v3, rfl, ho3, hb3⟩
          have HB3 := Lib.hid (HB0.out.below hb3)
          have HBE3 := Lib.hid (BA.out.trans (hb3.mono BA.out.size))
          have b31 := cell_up (cell_of (i := 1) HX0.out rfl) hb3
          generalize hbs : rdB d xi = bs at ho3
          have HBS := Lib.hid hbs
          clear hbs
          generalize hm : rdS d.N xi = m
          have HM := Lib.hid hm
          clear hm
          obtain ⟨va, vc, rfl⟩ := own_slice ho3
          have HO3 := Lib.hid ho3
          clear ho3 hb3
          go_wp2_with fail
          refine (read_ref_law w.heap.size _ D R d r k xi HB3.out (by omega)).mono ?_
          rintro e w4 ⟨v4, b4, rfl, ho4, hb4⟩
          rw [HBS.out] at ho4
          rw [HM.out]
          obtain ⟨ua, uc, rfl⟩ := own_slice ho4
          have HO4 := Lib.hid ho4
          have HO34 := Lib.hid (own_up HO3.out hb4)
          have HBE4 := Lib.hid (HBE3.out.trans (hb4.mono HBE3.out.size))
          clear ho4 hb4 b31
          go_wp2_with fail
          refine (same_law _ _ _ _ _ bs HO34.out HO4.out).mono ?_
          rintro e w5 ⟨rfl, rfl⟩
          have HLZ := Lib.hid (show LMz wr va bs.length (.int .i64 0) w4 from ⟨0, rfl, Nat.zero_le _, HBE4.out, fun hn => by
            obtain ⟨g, gc, cur, ag, e1, e2, e3, _, e4, e5⟩ := row_any HO34.out (by intro q; injection q with _ q2; omega)
            cases e1
            exact ⟨g, cur, _, rfl, e2, Nat.le_trans BA.out.size e3, e4, e5⟩⟩)
          have HNX := Lib.hid (show ∀ wm, Below wr.heap.size wr wm → Both w.heap.size wm D R d r (k + 1) ∧ Below w.heap.size w wm from fun wm hb => ⟨(HBOw.out.below hb).up (Nat.le_succ _), bel HBw.out hb⟩)
          clear HO4 HO34 HBE4 HBE3 HB3 HO3 HX0 HB0
          have hn128 : bs.length ≤ 128 := by rw [← HBS.out]; exact rdB_len HREL.out xi
          generalize bs.length = n at HLZ hn128 ⊢
          go_wp2_with fail
          go_loopw [19] (fun i wm => LMz wr va n i wm) (fun i _ => n - (intOf i).toNat)
          case atStart => exact HLZ.out
          case round =>
            obtain ⟨j, rfl, hj, hbm, hg⟩ := hrel
            have HBM := Lib.hid hbm
            clear hbm HLZ
            by_cases hjl : j < n
            · have t5 : decide (j < n) = true := decide_eq_true hjl
              obtain ⟨g, cur, ag, rfl, hag, hgb, hcu, hcn⟩ := hg (by omega)
              have HCU := Lib.hid hcu
              have HCN := Lib.hid hcn
              have HAG := Lib.hid hag
              have HGB := Lib.hid hgb
              clear hg hcu hcn hag hgb
              obtain ⟨fz, cv, hcv⟩ := LMu.cell HCU.out HCN.out hjl HAG.out
              go_wp2_with fail
              have HST := Lib.hid (LMz.step (v := .int .u8 98) HBM.out HCU.out HCN.out hjl HAG.out HGB.out)
              go_roundw
              case rel => exact HST.out
              case measure => simp [intOf]; omega
            · have t5 : decide (j < n) = false := decide_eq_false hjl
              have HG := Lib.hid hg
              have HNX2 := Lib.hid (HNX.out _ HBM.out)
              clear hg HNX
              go_wp2_with fail
              go_roundw
              case rel => exact ⟨k + 1, D, R, d, r, rfl, rfl, by go_num, by omega, HNX2.out.1, HNX2.out.2⟩
              case measure => simp [intOf]; omega
        by_cases hk4 : xk = 4
        · subst hk4
          clear hk1 hk2 hk3
          have BA := Lib.hid ((Below.refl wr.heap.size wr).alloc (Nat.le_refl _) (.cells #[.int .i64 4, .int .i64 xi, .slice ba xb.length bc, .slice ka xkeep.length kc] 32))
          have HX0 := Lib.hid (show (wr.alloc (.cells #[.int .i64 4, .int .i64 xi, .slice ba xb.length bc, .slice ka xkeep.length kc] 32)).heap[wr.heap.size]? = some (.cells #[.int .i64 4, .int .i64 xi, .slice ba xb.length bc, .slice ka xkeep.length kc] 32) from World.alloc_heap_new wr _)
          have HB0 := Lib.hid (HBOw.out.below BA.out)
          have HSZ0 := Lib.hid (Nat.le_trans HSZ.out BA.out.size)
          have hnl : r.l.length ≤ 1000000 := by have := HKL.out; omega
          have hnf : r.first.length ≤ 1000000 := by have := HKL.out; omega
          have HNL := Lib.hid hnl
          have HNF := Lib.hid hnf
          clear hnl hnf
          go_wp2_with fail
          refine (cut_in2 w.heap.size _ D R d r k _ xkeep HB0.out (by omega) HSZ0.out (HBO2.out.chg BA.out)).mono ?_
          rintro e w3 ⟨C, rfl, hi3, hb3⟩
          have HI3 := Lib.hid hi3
          have HB3 := Lib.hid (HB0.out.below hb3)
          have HBE3 := Lib.hid (BA.out.trans (hb3.mono BA.out.size))
          have HX3 := Lib.hid ((hb3.block _ (lt_of_heap HX0.out)).trans HX0.out)
          have b33 := cell_of (i := 3) HX3.out rfl
          clear hi3 hb3
          go_wp2_with fail
          refine (cut_ref w.heap.size _ R r _ xkeep HB3.out.R HREL.out.fs HNF.out HNL.out (HBO2.out.chg HBE3.out)).mono ?_
          rintro e w4 ⟨rfl, hi4, hb4⟩
          have HI4 := Lib.hid hi4
          have HB4 := Lib.hid (HB3.out.below hb4)
          have HBE4 := Lib.hid (HBE3.out.trans (hb4.mono HBE3.out.size))
          have HC4 := Lib.hid (HI3.out.below hb4)
          have HX4 := Lib.hid ((hb4.block _ (lt_of_heap HX3.out)).trans HX3.out)
          have hs3 : w.heap.size ≤ w3.heap.size := by have a := HSZ.out; have b := HBE3.out.size; omega
          have HS3 := Lib.hid hs3
          have b40 := cell_of (i := 0) HX4.out rfl
          clear hi4 hb4 HI3 b33 hs3
          have HNEXT := Lib.hid (show ∀ w7, Below w4.heap.size w4 w7 → ∃ d2 r2, Both w.heap.size w7 C w3.heap.size d2 r2 k from fun w7 hb7 =>
            both_cut HBOw.out (HC4.out.below hb7) ((HI4.out.rf HS3.out).below hb7))
          generalize w3.heap.size = R5 at HNEXT ⊢
          clear HI4 HC4
          go_wp2_with fail
          refine (same_disks w.heap.size _ D R d r k HB4.out (by omega)).mono ?_
          rintro e w7 ⟨rfl, hb7⟩
          obtain ⟨d2, r2, hbo2⟩ := HNEXT.out w7 hb7
          have HBO7 := Lib.hid (hbo2.up (Nat.le_succ k))
          have HBE7 := Lib.hid (bel HBw.out (HBE4.out.trans (hb7.mono HBE4.out.size)))
          clear hbo2 hb7 HNEXT
          go_wp2_with fail
          go_roundw
          case rel => exact ⟨k + 1, C, R5, d2, r2, rfl, rfl, by go_num, by omega, HBO7.out, HBE7.out⟩
          case measure => simp [intOf]; omega
        by_cases hk5 : xk = 5
        · subst hk5
          clear hk1 hk2 hk3 hk4
          have BA := Lib.hid ((Below.refl wr.heap.size wr).alloc (Nat.le_refl _) (.cells #[.int .i64 5, .int .i64 xi, .slice ba xb.length bc, .slice ka xkeep.length kc] 32))
          have HX0 := Lib.hid (show (wr.alloc (.cells #[.int .i64 5, .int .i64 xi, .slice ba xb.length bc, .slice ka xkeep.length kc] 32)).heap[wr.heap.size]? = some (.cells #[.int .i64 5, .int .i64 xi, .slice ba xb.length bc, .slice ka xkeep.length kc] 32) from World.alloc_heap_new wr _)
          have HB0 := Lib.hid (HBOw.out.below BA.out)
          have HSZ0 := Lib.hid (Nat.le_trans HSZ.out BA.out.size)
          have hnl : r.l.length ≤ 1000000 := by have := HKL.out; omega
          have hnf : r.first.length ≤ 1000000 := by have := HKL.out; omega
          have HNL := Lib.hid hnl
          have HNF := Lib.hid hnf
          clear hnl hnf
          go_wp2_with fail
          refine (cut_in2 w.heap.size _ D R d r k _ xkeep HB0.out (by omega) HSZ0.out (HBO2.out.chg BA.out)).mono ?_
          rintro e w3 ⟨C, rfl, hi3, hb3⟩
          have HI3 := Lib.hid hi3
          have HB3 := Lib.hid (HB0.out.below hb3)
          have HBE3 := Lib.hid (BA.out.trans (hb3.mono BA.out.size))
          have HX3 := Lib.hid ((hb3.block _ (lt_of_heap HX0.out)).trans HX0.out)
          have b33 := cell_of (i := 3) HX3.out rfl
          clear hi3 hb3
          go_wp2_with fail
          refine (cut_ref w.heap.size _ R r _ xkeep HB3.out.R HREL.out.fs HNF.out HNL.out (HBO2.out.chg HBE3.out)).mono ?_
          rintro e w4 ⟨rfl, hi4, hb4⟩
          have HI4 := Lib.hid hi4
          have HB4 := Lib.hid (HB3.out.below hb4)
          have HBE4 := Lib.hid (HBE3.out.trans (hb4.mono HBE3.out.size))
          have HC4 := Lib.hid (HI3.out.below hb4)
          have HX4 := Lib.hid ((hb4.block _ (lt_of_heap HX3.out)).trans HX3.out)
          have hs3 : w.heap.size ≤ w3.heap.size := by have a := HSZ.out; have b := HBE3.out.size; omega
          have HS3 := Lib.hid hs3
          have b40 := cell_of (i := 0) HX4.out rfl
          clear hi4 hb4 HI3 b33 hs3
          have b41 := cell_of (i := 1) HX4.out rfl
          have b43 := cell_of (i := 3) HX4.out rfl
          generalize w3.heap.size = R3 at HS3 HI4 ⊢
          go_wp2_with fail
          refine (cutat_in2 w.heap.size _ D R d r k xi _ xkeep HB4.out (by omega) (Nat.le_trans HSZ.out HBE4.out.size) (HBO2.out.chg HBE4.out)).mono ?_
          rintro e w5 ⟨C2, rfl, hi5, hb5⟩
          have HI5 := Lib.hid hi5
          have HB5 := Lib.hid (HB4.out.below hb5)
          have HBE5 := Lib.hid (HBE4.out.trans (hb5.mono HBE4.out.size))
          have HX5 := Lib.hid ((hb5.block _ (lt_of_heap HX4.out)).trans HX4.out)
          have b51 := cell_of (i := 1) HX5.out rfl
          have b53 := cell_of (i := 3) HX5.out rfl
          clear hi5 hb5 b40 b41 b43
          go_wp2_with fail
          refine (cutat_ref w.heap.size _ R r xi _ xkeep (upTo d xi) HB5.out.R HREL.out.fs HNF.out HNL.out (HBO2.out.chg HBE5.out) (upTo_ref HBOw.out xi)).mono ?_
          rintro e w6 ⟨up_, hu1, hu2, hu3, rfl, hi6, hb6⟩
          have hs5 : w.heap.size ≤ w5.heap.size := by have a := HSZ.out; have b := HBE5.out.size; omega
          have HNEXT := Lib.hid (show ∀ w7, Below w6.heap.size w6 w7 → ∃ d2 r2, Both w.heap.size w7 C2 w5.heap.size d2 r2 k from fun w7 hb7 =>
            both_cutat HBOw.out ((HI5.out.below hb6).below hb7) hu1 hu2 hu3 ((hi6.rf hs5).below hb7))
          have HB6 := Lib.hid (HB5.out.below hb6)
          have HBE6 := Lib.hid (HBE5.out.trans (hb6.mono HBE5.out.size))
          clear hu1 hu2 hu3 hi6 hb6 hs5 b51 b53 HI5
          generalize w5.heap.size = R5 at HNEXT ⊢
          go_wp2_with fail
          refine (same_disks w.heap.size _ D R d r k HB6.out (by omega)).mono ?_
          rintro e w7 ⟨rfl, hb7⟩
          obtain ⟨d2, r2, hbo2⟩ := HNEXT.out w7 hb7
          have HBO7 := Lib.hid (hbo2.up (Nat.le_succ k))
          have HBE7 := Lib.hid (bel HBw.out (HBE6.out.trans (hb7.mono HBE6.out.size)))
          clear hbo2 hb7 HNEXT
          go_wp2_with fail
          go_roundw
          case rel => exact ⟨k + 1, C2, R5, d2, r2, rfl, rfl, by go_num, by omega, HBO7.out, HBE7.out⟩
          case measure => simp [intOf]; omega
        have e1 : (xk == 1) = false := beq_false_of_ne hk1
        have e2 : (xk == 2) = false := beq_false_of_ne hk2
        have e3 : (xk == 3) = false := beq_false_of_ne hk3
        have e4 : (xk == 4) = false := beq_false_of_ne hk4
        have e5 : (xk == 5) = false := beq_false_of_ne hk5
        clear hk1 hk2 hk3 hk4 hk5
        have BA := Lib.hid ((Below.refl wr.heap.size wr).alloc (Nat.le_refl _) (.cells #[.int .i64 xk, .int .i64 xi, .slice ba xb.length bc, .slice ka xkeep.length kc] 32))
        go_wp2_with fail
        go_roundw
        case rel => exact ⟨k + 1, D, R, d, r, rfl, rfl, by go_num, by omega, (HBOw.out.below BA.out).up (Nat.le_succ k), bel HBw.out BA.out⟩
        case measure => simp [intOf]; omega
      · have hx : (decide (k < script.length) = false) ∨ (decide (k < script.length) = true ∧ decide ((k : Int) < 150) = false) := by
          by_cases g1 : k < script.length
          · exact .inr ⟨decide_eq_true g1, decide_eq_false (by omega)⟩
          · exact .inl (decide_eq_false g1)
        rcases hx with t3 | ⟨t3, t4⟩
        all_goals
          go_wp2_with fail
          refine (same_disks w.heap.size _ D R d r k HBOw.out (by omega)).mono ?_
          rintro e w3 ⟨rfl, hb3⟩
          have HB3 := Lib.hid hb3
          clear hb3
          go_wp2_with fail
          go_ret
          exact ⟨rfl, bel HBw.out HB3.out⟩
  · have hx : (decide (1 ≤ sectors) = false) ∨ (decide (1 ≤ sectors) = true ∧ decide (sectors ≤ 4096) = false) := by
      by_cases g1 : 1 ≤ sectors
      · exact .inr ⟨decide_eq_true g1, decide_eq_false (by omega)⟩
      · exact .inl (decide_eq_false g1)
    have HNO := Lib.hid (show sectors < 1 ∨ 4096 < sectors by omega)
    clear hmay
    rcases hx with t1 | ⟨t1, t2⟩
    all_goals
      go_enter Try.func5, Try.ntmps5
      go_wp2_with fail
      refine (new_no sectors _ HNO.out).mono ?_
      rintro e w1 ⟨rfl, rfl⟩
      go_wp2_with fail
      refine (alive_any _).mono ?_
      rintro e w2 ⟨rfl, hb2⟩
      have HB2 := Lib.hid (hb2.alloc hb2.size (.cells #[.int .i64 sectors, .slice none 0 0, .slice none 0 0] 48))
      clear hb2
      go_wp2_with fail
      go_loopw [9] (fun i wr => LNo w i wr) (fun _ _ => 0)
      case atStart => exact ⟨rfl, HB2.out⟩
      case round =>
        obtain ⟨rfl, hb⟩ := hrel
        have HB := Lib.hid hb
        clear hb HB2
        have hy : (decide (0 < script.length) = false) ∨ (decide (0 < script.length) = true) := by cases decide (0 < script.length) <;> simp
        rcases hy with t3 | t3
        all_goals
          go_wp2_with fail
          go_ret
          exact ⟨rfl, HB.out⟩
end Dk
end Go.Proofs.Ytpbampnbgebpjaa

namespace Go.Proofs.Ytpbampnbgebpjaa
open Go.RowKit Go.ChangeShapes Go.WideShapes Go.Deep Go.Proofs.YtpbampnbgebpjaaW.PrintWords
set_option linter.unusedVariables false
set_option linter.unusedSimpArgs false
namespace Dk

theorem weightsAll_mem {H : Type} {P : Program} {t : TypeId} {n : Nat} {d : DataW H} : ∀ {ds : List (DataW H)}, d ∈ ds → n ∈ d.weights P t → n ∈ DataW.weightsAll P t ds
  | d0 :: ds, hd, hn => by
    simp only [DataW.weightsAll, List.mem_append]
    rcases List.mem_cons.1 hd with rfl | hd
    · exact .inl hn
    · exact .inr (weightsAll_mem hd hn)
theorem bytes_in2 {H : Type} {enc : TypeId × Value → H} {w : World} {base : Nat} {spare : Nat → Bool} {held : Bool} {v : Value} {x : DataW H × List MemPlace} {fuel : Nat} (hf : DataW.trod enc Try.prog w base spare held fuel 30 [v] = some x) (hsz : ∀ n ∈ x.1.weights Try.prog 30, n ≤ 140737488351232) : ∃ l, BytesIn w v l ∧ l.length ≤ 140737488351232 := by
  rcases open_ints Try.underlying30 Try.underlying5 (by kernel_rfl) hf with ⟨hcs, _⟩ | ⟨a, len, c, zs, hcs, _, hl, hm, hz, hx, hcell, hwz⟩
  · cases hcs
    exact ⟨[], ⟨none, 0, rfl, (fun c hc => by simp at hc), by simp, fun j hj => by simp at hj⟩, by simp⟩
  · cases hcs
    have hl2 : len ≤ zs.length := by
      rw [hz]
      split
      · exact hl
      · exact Nat.le_refl _
    have hlen : (zs.take len).length = len := by rw [List.length_take]; omega
    refine ⟨zs.take len, ⟨some a, c, by rw [hlen], ?_, by rw [hlen]; unfold maxLen at hm; omega, fun j hj => ⟨a, rfl, ?_⟩⟩, ?_⟩
    · intro q hq
      have := hwz q (List.mem_of_mem_take hq)
      simp [Lit.wf, IntKind.min, IntKind.max, IntKind.bits, IntKind.signed] at this
      omega
    · rw [hlen] at hj
      have h1 := hcell j (by omega)
      simp only [List.getD_eq_getElem?_getD, List.getElem?_take, if_pos hj] at h1 ⊢
      exact h1
    · have hw := hsz ((((zs.take len).length + (zs.drop len).length)) * Try.prog.bytesOf 5) (by
        rw [hx]
        simp only [DataW.weights, Try.underlying30]
        refine List.mem_cons.2 (.inl ?_)
        simp [lits])
      have hb : Try.prog.bytesOf 5 = 1 := by kernel_rfl
      rw [hb] at hw
      omega
theorem ops_in2 {H : Type} {enc : TypeId × Value → H} {w : World} {base : Nat} {held : Bool} {v : Value} {x : DataW H × List MemPlace} {fuel : Nat} (hf : DataW.trod enc Try.prog w base (fun _ => true) held fuel 22 [v] = some x) (hsz : ∀ n ∈ x.1.weights Try.prog 22, n ≤ 140737488351232) : ∃ l, OpsIn w v l ∧ ∀ x ∈ l, x.b.length ≤ 140737488351232 := by
  rcases open_slice_fields Try.underlying22 Try.underlying32 (by kernel_rfl) (by kernel_rfl) hf with ⟨hc, hx⟩ | ⟨a, len, cap, m, D, Pl, hc, hb, hl, hm, hmm, hx, hi⟩
  · cases hc
    exact ⟨[], ⟨none, 0, rfl, by simp, fun j hj => by simp at hj⟩, by simp⟩
  · cases hc
    have hex : ∀ i, i < len → ∃ x : Op5, OpAt w (a.add (i * 4)) x ∧ x.b.length ≤ 140737488351232 := by
      intro i hil
      obtain ⟨ys, n, hD, hP, hyl, hfl⟩ := hi i (by rw [hmm]; simp; omega)
      obtain ⟨v0, y0, c0, g0, t0⟩ := hfl 0 _ rfl
      obtain ⟨v1, y1, c1, g1, t1⟩ := hfl 1 _ rfl
      obtain ⟨v2, y2, c2, g2, t2⟩ := hfl 2 _ rfl
      obtain ⟨v3, y3, c3, g3, t3⟩ := hfl 3 _ rfl
      obtain ⟨s0, e0, z0, b0⟩ := DataW.trod_int Try.underlying3 t0
      obtain ⟨s1, e1, z1, b1⟩ := DataW.trod_int Try.underlying3 t1
      simp only [List.cons.injEq, and_true] at e0 e1
      subst e0 e1
      obtain ⟨b, hb2, hbl⟩ := bytes_in2 t2 (fun n hn => hsz n (by
        rw [hx]
        simp only [DataW.weights, Try.underlying22]
        refine List.mem_cons_of_mem _ (List.mem_append_left _ (weightsAll_mem (List.mem_map.2 ⟨i, List.mem_range.2 hil, rfl⟩) ?_))
        rw [hD]
        simp only [DataW.weights, Try.underlying32]
        exact DataW.weights_mem_each (j := 2) (t := 30) (d := y2.1) rfl (by rw [List.getElem?_map, g2]; rfl) _ hn))
      obtain ⟨k, hk⟩ := bools_in t3
      refine ⟨⟨s0, s1, v2, b, v3, k⟩, ⟨c0, ?_, ?_, ?_, hb2, hk⟩, hbl⟩
      · rw [← add_fld _ _ 1 (by omega)]; exact c1
      · rw [← add_fld _ _ 2 (by omega)]; exact c2
      · rw [← add_fld _ _ 3 (by omega)]; exact c3
    let g : Nat → Op5 := fun i => if q : i < len then (hex i q).choose else ⟨0, 0, .nilIface, [], .nilIface, []⟩
    have hg : ∀ i, i < len → OpAt w (a.add (i * 4)) (g i) ∧ (g i).b.length ≤ 140737488351232 := by
      intro i q
      simp only [g, dif_pos q]
      exact (hex i q).choose_spec
    have hlen : ((List.range len).map g).length = len := by simp
    refine ⟨(List.range len).map g, ⟨some a, cap, by rw [hlen], by rw [hlen]; unfold maxLen at hm; omega, fun j hj => ⟨a, rfl, ?_⟩⟩, fun x hx => ?_⟩
    · rw [hlen] at hj
      simp only [List.getElem_map, List.getElem_range]
      exact (hg j hj).1
    · obtain ⟨i, hi', rfl⟩ := List.mem_map.1 hx
      exact (hg i (List.mem_range.1 hi')).2
end Dk
end Go.Proofs.Ytpbampnbgebpjaa

namespace Go.Proofs.Ytpbampnbgebpjaa.diskPlays
open Go.ChangeShapes Go.WideShapes Go.ChangeAt Go.RowKit
set_option linter.unusedVariables false
set_option linter.unusedSimpArgs false
theorem own : ownKnob Try.prog.godebug = none := by kernel_rfl
theorem laidOut : laidOutB Try.prog = true := by kernel_rfl
set_option maxRecDepth 100000 in
theorem lifted (os : Os) (started : os.Started) (H : Type) (enc : TypeId × Value → H) :
    ReturnsInHanded {} Try.checked os 5 .any (Rows.diskPlaysSpec.pre6 enc Try.prog Try.f5 Rows.diskPlaysRow.domain false) (Rows.diskPlaysSpec.post enc Try.prog Try.f5 false true false false) := by
  refine returnsInHanded_of_change_sized (C := Try.checked) own started (by kernel_rfl) Try.func5
    (ChangeSpec.witness6 (enc := enc) (C := Try.checked) false ⟨#[], #[.int .i64 0, .slice none 0 0], []⟩ 8 (by kernel_rfl) (by kernel_rfl) (by kernel_rfl) (by kernel_rfl)) ?_
  intro W base args ds gs before hval0 hW hcnd hsz0 _
  have hsz : (DataW.weightsEach Try.prog (Try.f5.params.toList ++ Rows.diskPlaysSpec.plain.varTypes Try.prog) (ds ++ gs)).all (· ≤ reachBytes) = true := hsz0
  have hval : ∀ (j : Nat) t v, Try.f5.params[j]? = some t → args[j]? = some v → Value.okWide Try.prog W .any base t v := hval0
  have hW' := hW
  obtain ⟨p, q, hA0, hV, rfl, hfz, hnd⟩ := hW
  have hA : DataW.TrodAll enc Try.prog W 0 (fun _ => true) true Try.f5.params.toList args.toList ds p := hA0
  rw [Try.params5] at hA hval hsz
  obtain ⟨v0, vs0, d0, ds0, p0, q0, hargs, rfl, rfl, h0, r0⟩ := trodAll_cons hA
  obtain ⟨v1, vs1, d1, ds1, p1, q1, rfl, rfl, rfl, h1, r1⟩ := trodAll_cons r0
  obtain ⟨rfl, rfl, rfl⟩ := trodAll_nil r1
  obtain rfl : args = #[v0, v1] := by cases args; simp_all
  obtain ⟨rfl, rfl⟩ := trodVars_none hV
  obtain ⟨a0, rfl, rfl, rfl, w0⟩ := open_int Try.underlying3 (hval 0 3 v0 rfl rfl) h0
  have k1 := h1
  have lt1 : ∀ x ∈ p1, x.block < W.heap.size := by obtain ⟨m, hm⟩ := k1; exact DataW.trod_lt m _ _ _ hm
  have wt1 : ∀ n ∈ d1.weights Try.prog 22, n ≤ 140737488351232 := fun n hn => Nat.le_trans (of_decide_eq_true (List.all_eq_true.1 hsz n (DataW.weights_mem_each (j := 1) (t := 22) (d := d1) rfl rfl _ hn))) (by decide)
  obtain ⟨sa1, sl1, sc1, rfl⟩ := okWide_slice Try.underlying22 (hval 1 22 v1 rfl rfl)
  obtain ⟨x1, o1, z1⟩ : ∃ l, Dk.OpsIn W (.slice sa1 sl1 sc1) l ∧ ∀ x ∈ l, x.b.length ≤ 140737488351232 := by obtain ⟨m, hm⟩ := k1; exact Dk.ops_in2 hm wt1
  clear hA0 hval0 hsz0 hsz
  refine ((fun a v W (_ : (Lit.int .i64 a).wf = true) o z => Dk.plays_walk a v W _ o z) a0 _ W w0 o1 z1).mono fun e W' ⟨he, bel⟩ => ?_
  subst he
  exact ⟨_, rfl, _, _, _, [], _, [], hW', trodAll_mk1 (shut_bool Try.underlying4 _), (trodAll_cons_mk (shut_int Try.underlying3 w0) (trodAll_cons_mk (Below.trod laidOut (by kernel_rfl) (of_decide_eq_true (by kernel_rfl)) k1 bel lt1) trodAll_mk0)), rfl, bel.frame _, fun h => by cases h⟩
theorem proved : Rows.DiskPlaysSaid :=
  OpenClaim.holds_of_wide 5 Try.f5 rfl rfl rfl rfl rfl rfl rfl ⟨rfl, rfl, rfl, rfl, rfl⟩ rfl rfl rfl rfl rfl (by kernel_rfl) Try.func5 (by kernel_rfl)
    (of_decide_eq_true (by kernel_rfl)) (by unfold Func.isWrapper; first | (rw [if_pos (by decide +kernel)]; kernel_rfl) | (rw [if_neg (by decide +kernel)]; exact ⟨rfl, rfl⟩))
    (fun os started H enc _ => lifted os started H enc)
end Go.Proofs.Ytpbampnbgebpjaa.diskPlays
namespace Go.Proofs.Ytpbampnbgebpjaa
/-- THE ROW. -/
theorem diskPlays_said : Rows.DiskPlaysSaid := diskPlays.proved
#print axioms diskPlays_said
end Go.Proofs.Ytpbampnbgebpjaa
