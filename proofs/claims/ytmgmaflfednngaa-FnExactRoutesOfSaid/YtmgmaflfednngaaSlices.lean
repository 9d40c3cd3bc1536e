/- Plain words on rows of the call's own: what is left of a row behind a clear of its end; worlds that stores turned. No program. -/
import Derived.Test.YtmgmaflfednngaaBase
import Derived.Lib.SliceRun
import Derived.Laws.IdiomCopy
import Derived.Shelf.Abstract
set_option linter.unusedVariables false
namespace Go.Proofs.Ytmgmaflfednngaa.Base
open Go.RowKit Go.Proofs.YtmgmaflfednngaaW.PrintWords Go.Proofs.YtmgmaflfednngaaW.PrintLast

theorem setCells_block (g : Nat) : ∀ (vs : List Value) (o : Nat) (w : World) (cur : Array Value) (t : TypeId), w.heap[g]? = some (.cells cur t (0, 0)) →
    ∃ cur', (w.setCells g o vs).heap[g]? = some (.cells cur' t (0, 0)) ∧ cur'.size = cur.size ∧ ∀ j, j < o → cur'[j]? = cur[j]?
  | [], o, w, cur, t, h => ⟨cur, h, rfl, fun _ _ => rfl⟩
  | v :: vs, o, w, cur, t, h => by
    obtain ⟨cur', h1, h2, h3⟩ := setCells_block g vs (o + 1) (w.setCell ⟨g, o, none⟩ v) _ t (blk_set h o v)
    refine ⟨cur', h1, by rw [h2]; simp, fun j hj => ?_⟩
    rw [h3 j (by omega)]
    simp only [Array.getElem?_setIfInBounds]
    rw [if_neg (by omega)]
theorem setCells_far (g : Nat) : ∀ (vs : List Value) (o : Nat) (w : World) (b : Nat), b ≠ g → (w.setCells g o vs).heap[b]? = w.heap[b]?
  | [], o, w, b, _ => rfl
  | v :: vs, o, w, b, hb => by
    show ((w.setCell ⟨g, o, none⟩ v).setCells g (o + 1) vs).heap[b]? = _
    rw [setCells_far g vs (o + 1) _ b hb]
    exact Below.heap_setCell w ⟨g, o, none⟩ v b hb
theorem setCells_below {B g : Nat} : ∀ (vs : List Value) (o : Nat) (w w' : World), Below B w w' → B ≤ g → Below B w (w'.setCells g o vs)
  | [], o, w, w', h, _ => h
  | v :: vs, o, w, w', h, hg => setCells_below vs (o + 1) w _ (h.setCell hg v) hg
theorem setCells_size (g : Nat) : ∀ (vs : List Value) (o : Nat) (w : World), (w.setCells g o vs).heap.size = w.heap.size
  | [], o, w => rfl
  | v :: vs, o, w => by
    show ((w.setCell ⟨g, o, none⟩ v).setCells g (o + 1) vs).heap.size = _
    rw [setCells_size g vs]
    simp [World.setCell]
theorem setCells_grown (w : World) (g o : Nat) (vs : List Value) : w.grownBy (w.setCells g o vs) (some g) := by
  obtain ⟨s1, s2, s3, s4⟩ := setCells_same g vs o w
  exact ⟨s1, s2, s3, by rw [s4]; exact Nat.le_refl _, fun k _ hk => setCells_far g vs o w k (fun he => hk (by rw [he]))⟩
/-- A row that was cut at i and whose end was written over. -/
theorem R_cut {α : Type} {d : Kd α} (hM : ∀ {w1 w2 : World} {base : Nat} {ok : Nat → Prop} {x : α} {cs : List Value}, d.M w1 base ok x cs → d.M w2 base ok x cs) {e g n cap i : Nat} {w : World} {base : Nat} {ok : Nat → Prop} {ys : List α} (vs : List Value)
    (h : d.R e w base ok (.slice (some ⟨g, 0, none⟩) n cap) ys) (hi : i ≤ ys.length) : d.R e (w.setCells g (i * d.sz) vs) base ok (.slice (some ⟨g, 0, none⟩) i cap) (ys.take i) := by
  obtain ⟨h0, inner, ho, hr⟩ := Kd.R_take h hi
  refine ⟨h0, inner, ⟨ho.1, ?_⟩, hr.imp_ (fun _ _ hp => hM hp)⟩
  have hl : (ys.take i).length = i := by rw [List.length_take]; omega
  rcases ho.2 with ⟨hv, _⟩ | ⟨g', cap', cur, hv, hb, hh, hn, hm, hs, ht⟩
  · cases hv
  · injection hv with hv1 hv2 hv3
    injection hv1 with hv1
    injection hv1 with hv1
    subst hv1
    subst hv3
    obtain ⟨cur', c1, c2, c3⟩ := setCells_block g vs (i * d.sz) w cur e hh
    refine .inr ⟨g, cap, cur', by rw [hl], hb, c1, by omega, hm, by rw [c2]; exact hs, ?_⟩
    rw [hl] at ht ⊢
    rw [← ht]
    apply List.ext_getElem?
    intro j
    rw [List.getElem?_take, List.getElem?_take]
    split
    · rename_i hj
      rw [Array.getElem?_toList, Array.getElem?_toList]
      exact c3 j hj
    · rfl
/-- clear of a row's end, its cells all there. -/
theorem run_clear {P : Program} (w : World) (t e ty : TypeId) (z : Value) (ht : P.underlying t = some (.slice e)) (hv : ∀ w, (zeroValue e).run P w = .ok z w) (b o n c : Nat) (hn : 0 < n) (hs : (Builtin.zeroCells z.cells n).toList.length = n * z.cells.size)
    (h1 : ∀ v ∈ (Builtin.zeroCells z.cells n).toList, v.oneCell' = true) (hc : ∀ j, j < n * z.cells.size → (w.cell? ⟨b, o + j, none⟩).isSome = true) (hf : ∀ j, j < n * z.cells.size → w.frozen? ⟨b, o + j, none⟩ = false) :
    (Builtin.clear_ #[t] ty #[.slice (some ⟨b, o, none⟩) n c]).run P w = .ok (.tuple #[]) (w.setCells b o (Builtin.zeroCells z.cells n).toList) := by
  have hst := run_storeCells_cells (P := P) b o (Builtin.zeroCells z.cells n).toList 0 w (by intro j hj; exact hc j (by omega)) (by intro j hj; exact hf j (by omega)) h1
  simp only [Nat.add_zero] at hst
  obtain ⟨m, rfl⟩ : ∃ m, n = m + 1 := ⟨n - 1, by omega⟩
  simp [Builtin.clear_, run_underlying ht, hv, hst]
theorem run_clear_none {P : Program} (w : World) (t e ty : TypeId) (z : Value) (ht : P.underlying t = some (.slice e)) (hv : ∀ w, (zeroValue e).run P w = .ok z w) (a : Option Addr) (c : Nat) :
    (Builtin.clear_ #[t] ty #[.slice a 0 c]).run P w = .ok (.tuple #[]) w := by
  cases a <;> simp [Builtin.clear_, run_underlying ht]
theorem zero_info {P : Program} {t s b : Nat} {z : Value} (h : (P.info? t).map (fun i => (i.zero, i.size, i.bytes)) = some (some z, s, b)) : (∀ w, (zeroValue t).run P w = .ok z w) ∧ ∃ i, P.info? t = some i ∧ i.size = s := by
  obtain ⟨i, hi, he⟩ := Option.map_eq_some_iff.1 h
  simp only [Prod.mk.injEq] at he
  exact ⟨fun w => by simp [zeroValue, typeInfo, hi, he.1], i, hi, he.2.1⟩
/-- clear of the end of a row of one's own. -/
theorem R_clear {α : Type} {d : Kd α} {e g n cap i : Nat} {w : World} {base : Nat} {ok : Nat → Prop} {ys : List α} {P : Program} {t : TypeId} {z : Value} (ty : TypeId) (h : d.R e w base ok (.slice (some ⟨g, 0, none⟩) n cap) ys) (hi : i < n)
    (ht : P.underlying t = some (.slice e)) (hv : ∀ w, (zeroValue e).run P w = .ok z w) (hz : z.cells.size = d.sz) (h1 : ∀ v ∈ z.cells.toList, v.oneCell' = true) (hp : 0 < d.sz) :
    (Builtin.clear_ #[t] ty #[.slice (some ⟨g, i * d.sz, none⟩) (n - i) (cap - i)]).run P w = .ok (.tuple #[]) (w.setCells g (i * d.sz) (Builtin.zeroCells z.cells (n - i)).toList) := by
  obtain ⟨_, inner, ho, _⟩ := h
  rcases ho.2 with ⟨hv', _⟩ | ⟨g', cap', cur, hv', hb, hh, hn, hm, hs, _⟩
  · cases hv'
  · injection hv' with a1 a2 a3
    injection a1 with a1
    injection a1 with a1
    subst a1
    subst a3
    have hmul : i * d.sz + (n - i) * d.sz ≤ cap * d.sz := by rw [← Nat.add_mul]; exact Nat.mul_le_mul_right _ (by omega)
    refine run_clear w t e ty z ht hv g (i * d.sz) (n - i) (cap - i) (by omega) (by rw [Array.length_toList, size_zeroCells]) (fun v hv1 => ?_) (fun j hj => ?_) (fun j _ => blk_frozen hh _)
    · rw [Builtin.zeroCells, Array.toList_map, List.mem_map] at hv1
      obtain ⟨q, _, rfl⟩ := hv1
      apply h1
      rw [Array.getElem!_eq_getD, Array.getD_eq_getD_getElem?, Array.getElem?_eq_getElem (Nat.mod_lt _ (by omega))]
      simp
    · rw [cell_of_row w g _ cur e (0, 0) hh]
      rw [hz] at hj
      simp
      omega
/-- clear of what lies between two places of a row's room. -/
theorem R_clear2 {α : Type} {d : Kd α} {e g m n cap i : Nat} {w : World} {base : Nat} {ok : Nat → Prop} {ys : List α} {P : Program} {t : TypeId} {z : Value} (ty : TypeId) (h : d.R e w base ok (.slice (some ⟨g, 0, none⟩) m cap) ys) (hi : i < n) (hn : n ≤ cap)
    (ht : P.underlying t = some (.slice e)) (hv : ∀ w, (zeroValue e).run P w = .ok z w) (hz : z.cells.size = d.sz) (h1 : ∀ v ∈ z.cells.toList, v.oneCell' = true) (hp : 0 < d.sz) :
    (Builtin.clear_ #[t] ty #[.slice (some ⟨g, i * d.sz, none⟩) (n - i) (cap - i)]).run P w = .ok (.tuple #[]) (w.setCells g (i * d.sz) (Builtin.zeroCells z.cells (n - i)).toList) := by
  obtain ⟨_, inner, ho, _⟩ := h
  rcases ho.2 with ⟨hv', _⟩ | ⟨g', cap', cur, hv', hb, hh, _, hm, hs, _⟩
  · cases hv'
  · injection hv' with a1 a2 a3
    injection a1 with a1
    injection a1 with a1
    subst a1
    subst a3
    have hmul : i * d.sz + (n - i) * d.sz ≤ cap * d.sz := by rw [← Nat.add_mul]; exact Nat.mul_le_mul_right _ (by omega)
    refine run_clear w t e ty z ht hv g (i * d.sz) (n - i) (cap - i) (by omega) (by rw [Array.length_toList, size_zeroCells]) (fun v hv1 => ?_) (fun j hj => ?_) (fun j _ => blk_frozen hh _)
    · rw [Builtin.zeroCells, Array.toList_map, List.mem_map] at hv1
      obtain ⟨q, _, rfl⟩ := hv1
      apply h1
      rw [Array.getElem!_eq_getD, Array.getD_eq_getD_getElem?, Array.getElem?_eq_getElem (Nat.mod_lt _ (by omega))]
      simp
    · rw [cell_of_row w g _ cur e (0, 0) hh]
      rw [hz] at hj
      simp
      omega
/-- The end of a row, as_ slices says it. -/
theorem end_cut {P : Program} (t e : TypeId) {i : TypeInfo} (ht : P.underlying t = some (.slice e)) (hi : P.info? e = some i) (size : Nat) (hsz : i.size = size) (g n c j : Nat) (hm : j < n) (hc : n ≤ c) :
    ∀ W : World, (Instr.slice t (.slice (some ⟨g, 0, none⟩) n c) (some (.int .i64 (j : Int))) none none).run P W = .ok (.slice (some ⟨g, j * size, none⟩) (n - j) (c - j)) W := by
  intro W
  rw [cut_from t e .i64 ht hi size hsz _ n c (j : Int) (by omega) (by omega) W, Int.toNat_natCast, if_neg (by omega)]
  have : (⟨g, 0, none⟩ : Addr).add (j * size) = ⟨g, j * size, none⟩ := by unfold Addr.add; split <;> simp_all
  simp [this]

/-- The blocks that a predicate reads are as they were. -/
def Same (K : Nat → Prop) (w W : World) : Prop := w.heap.size ≤ W.heap.size ∧ ∀ k, K k → W.heap[k]? = w.heap[k]?
theorem Same.refl {K : Nat → Prop} (w : World) : Same K w w := ⟨Nat.le_refl _, fun _ _ => rfl⟩
theorem Same.below {K : Nat → Prop} {w W W' : World} (h : Same K w W) (hK : ∀ k, K k → k < w.heap.size) (hb : Below W.heap.size W W') : Same K w W' :=
  ⟨Nat.le_trans h.1 hb.size, fun k hk => (hb.block k (Nat.lt_of_lt_of_le (hK k hk) h.1)).trans (h.2 k hk)⟩
theorem Same.alloc {K : Nat → Prop} {w W : World} (h : Same K w W) (hK : ∀ k, K k → k < w.heap.size) (o : Obj) : Same K w (W.alloc o) := h.below hK ((Below.refl _ W).alloc (Nat.le_refl _) o)
theorem Same.grown {K : Nat → Prop} {w W W' : World} {g : Nat} (h : Same K w W) (hK : ∀ k, K k → k < w.heap.size) (hg : ¬ K g) (hb : W.grownBy W' (some g)) : Same K w W' :=
  ⟨Nat.le_trans h.1 hb.size, fun k hk => (hb.block k (Nat.lt_of_lt_of_le (hK k hk) h.1) (fun e => by injection e with e; exact hg (e ▸ hk))).trans (h.2 k hk)⟩
/-- What a predicate is asked for where the row is written between its calls: it reads the blocks K alone. -/
def PredB {α : Type} (P : Program) (g : Nat) (cb : Array Value) (k : Kd α) (p : α → Bool) (K : Nat → Prop) (w : World) : Prop :=
  ∀ (W : World) (x : α) (cs : List Value), Same K w W → k.K W x cs → Calls P g (#[.agg cs.toArray] ++ cb) W fun e w' => e = .returned (.bool (p x)) ∧ Below W.heap.size W w'
theorem PredB.pred {α : Type} {P : Program} {g : Nat} {cb : Array Value} {k : Kd α} {p : α → Bool} {K : Nat → Prop} {w : World} (h : PredB P g cb k p K w) (hK : ∀ k, K k → k < w.heap.size) : PredK P g cb k p w :=
  fun W x cs hb hk => (h W x cs ((Same.refl w).below hK hb) hk).mono fun e w' ⟨h1, h2⟩ => ⟨h1, hb.trans (h2.mono hb.size)⟩
theorem idxOf_form {α : Type} (z : α) (p : α → Bool) : ∀ (l : List α) (i : Nat), (idxOf p l i = -1 ∧ ∀ j, j < l.length → p (nth z l j) = false) ∨ ∃ k, k < l.length ∧ idxOf p l i = ((i + k : Nat) : Int) ∧ p (nth z l k) = true ∧ ∀ j, j < k → p (nth z l j) = false
  | [], i => .inl ⟨rfl, fun j hj => absurd hj (Nat.not_lt_zero _)⟩
  | x :: xs, i => by
    by_cases h : p x = true
    · exact .inr ⟨0, by simp, by simp [idxOf, h], by simpa [nth] using h, fun j hj => absurd hj (Nat.not_lt_zero _)⟩
    · have hx : p x = false := by simpa using h
      rcases idxOf_form z p xs (i + 1) with ⟨h1, h2⟩ | ⟨k, h1, h2, h3, h4⟩
      · refine .inl ⟨by simpa [idxOf, hx] using h1, fun j hj => ?_⟩
        cases j with
        | zero => simpa [nth] using hx
        | succ j => simpa [nth] using h2 j (by simpa using hj)
      · refine .inr ⟨k + 1, by simpa using h1, ?_, by simpa [nth] using h3, fun j hj => ?_⟩
        · have : idxOf p (x :: xs) i = idxOf p xs ((i + 1 : Nat) : Int) := by simp [idxOf, hx]
          rw [this, h2]
          congr 1
          omega
        · cases j with
          | zero => simpa [nth] using hx
          | succ j => simpa [nth] using h4 j (by omega)
theorem filter_none {α : Type} (z : α) {p : α → Bool} {l : List α} (h : ∀ j, j < l.length → p (nth z l j) = false) : l.filter (fun x => !p x) = l := by
  rw [List.filter_eq_self]
  intro x hx
  obtain ⟨j, hj, rfl⟩ := List.getElem_of_mem hx
  have := h j hj
  rw [nth_lt hj] at this
  simp [this]

/-- The row while it is being thinned out: what was kept of the first j stands in the first i places, what is behind j stands as it was. -/
structure Thin {α : Type} (p : α → Bool) (xs : List α) (j i : Nat) (ys : List α) : Prop where
  len : ys.length = xs.length
  lt : i < j
  le : j ≤ xs.length
  done : ys.take i = (xs.take j).filter (fun x => !p x)
  rest : ys.drop j = xs.drop j
theorem Thin.start {α : Type} (z : α) {p : α → Bool} {xs : List α} {k : Nat} (hk : k < xs.length) (h : ∀ j, j < k → p (nth z xs j) = false) (hp : p (nth z xs k) = true) : Thin p xs (k + 1) k xs := by
  refine ⟨rfl, by omega, by omega, ?_, rfl⟩
  rw [List.take_succ_eq_append_getElem hk, List.filter_append]
  have e1 : (xs.take k).filter (fun x => !p x) = xs.take k := by
    rw [List.filter_eq_self]
    intro x hx
    obtain ⟨j, hj, rfl⟩ := List.getElem_of_mem hx
    have hj' : j < k := by rw [List.length_take] at hj; omega
    have := h j hj'
    rw [nth_lt (by omega)] at this
    simp [this]
  have e2 : p xs[k] = true := by rw [nth_lt hk] at hp; exact hp
  rw [e1]
  simp [e2]
theorem Thin.at_ {α : Type} (z : α) {p : α → Bool} {xs ys : List α} {j i : Nat} (h : Thin p xs j i ys) (hj : j < xs.length) : nth z ys j = nth z xs j := by
  have e := congrArg (fun l => l[0]?) h.rest
  simp only [List.getElem?_drop, Nat.add_zero] at e
  simp only [nth, List.getD_eq_getElem?_getD, e]
theorem Thin.skip {α : Type} (z : α) {p : α → Bool} {xs ys : List α} {j i : Nat} (h : Thin p xs j i ys) (hj : j < xs.length) (hp : p (nth z xs j) = true) : Thin p xs (j + 1) i ys := by
  refine ⟨h.len, by have := h.lt; omega, hj, ?_, ?_⟩
  · rw [h.done, List.take_succ_eq_append_getElem hj, List.filter_append]
    have e2 : p xs[j] = true := by rw [nth_lt hj] at hp; exact hp
    simp [e2]
  · have := congrArg (fun l => l.drop 1) h.rest
    simpa [List.drop_drop] using this
theorem Thin.keep {α : Type} (z : α) {p : α → Bool} {xs ys : List α} {j i : Nat} (h : Thin p xs j i ys) (hj : j < xs.length) (hp : p (nth z xs j) = false) : Thin p xs (j + 1) (i + 1) (ys.set i (nth z xs j)) := by
  have hlt := h.lt
  have hlen := h.len
  refine ⟨by simp [h.len], by omega, hj, ?_, ?_⟩
  · rw [List.take_succ_eq_append_getElem (by simp; omega), List.take_set_of_le (Nat.le_refl _), h.done, List.take_succ_eq_append_getElem hj, List.filter_append]
    have e2 : p xs[j] = false := by rw [nth_lt hj] at hp; exact hp
    simp [e2, nth_lt hj]
  · rw [List.drop_set_of_lt (by omega)]
    have := congrArg (fun l => l.drop 1) h.rest
    simpa [List.drop_drop] using this
theorem Thin.end_ {α : Type} {p : α → Bool} {xs ys : List α} {i : Nat} (h : Thin p xs xs.length i ys) : ys.take i = xs.filter (fun x => !p x) := by
  rw [h.done, List.take_length]
/-- Two rows that share no block. -/
def Apart (u v : Value) : Prop := ∀ k, u.ownBlock = some k → v.ownBlock ≠ some k
theorem Apart.symm {u v : Value} (h : Apart u v) : Apart v u := fun k hk hv => h k hv hk
/-- One of them grows. -/
theorem Apart.grown {α : Type} {d : Kd α} {e base : Nat} {ok : Nat → Prop} {w : World} {u v v1 : Value} {ys : List α} (h : Apart u v) (hu : d.R e w base ok u ys) (hat : v1.ownBlock = v.ownBlock ∨ ∃ b, v1.ownBlock = some b ∧ w.heap.size ≤ b) : Apart u v1 := by
  intro k hk hv
  rcases hat with e1 | ⟨b, e1, hb⟩
  · exact h k hk (by rw [← e1]; exact hv)
  · rw [e1] at hv
    injection hv with hv
    have := Kd.R_lt hu k hk
    omega
theorem Apart.other {u v : Value} (h : Apart u v) : ∀ k, v.ownBlock = some k → some k ≠ u.ownBlock := fun k hk he => h k he.symm hk
theorem take_filter_yes {α : Type} (z : α) (p : α → Bool) {l : List α} {i : Nat} (h : i < l.length) (hp : p (nth z l i) = true) : (l.take (i + 1)).filter p = (l.take i).filter p ++ [nth z l i] := by
  rw [List.take_succ_eq_append_getElem h, List.filter_append]
  rw [nth_lt h] at hp ⊢
  simp [hp]
theorem take_filter_no {α : Type} (z : α) (p : α → Bool) {l : List α} {i : Nat} (h : i < l.length) (hp : p (nth z l i) = false) : (l.take (i + 1)).filter p = (l.take i).filter p := by
  rw [List.take_succ_eq_append_getElem h, List.filter_append]
  rw [nth_lt h] at hp
  simp [hp]
theorem take_filter_len {α : Type} (p : α → Bool) (l : List α) (i : Nat) : ((l.take i).filter p).length ≤ l.length := Nat.le_trans (List.length_filter_le _ _) (by rw [List.length_take]; omega)
theorem tail_cut {P : Program} (t e : TypeId) {i : TypeInfo} (ht : P.underlying t = some (.slice e)) (hi : P.info? e = some i) (size : Nat) (hsz : i.size = size) (g n c j : Nat) (hm : j ≤ n) (hc : n ≤ c) (v : Int) (hv : v = (j : Int)) :
    ∃ A : Addr, (∀ W : World, (Instr.slice t (.slice (some ⟨g, 0, none⟩) n c) (some (.int .i64 v)) none none).run P W = .ok (.slice (some A) (n - j) (c - j)) W) ∧ (j < n → A = ⟨g, j * size, none⟩) := by
  subst hv
  by_cases h : c = j
  · refine ⟨⟨g, 0, none⟩, fun W => ?_, fun h2 => by omega⟩
    rw [cut_from t e .i64 ht hi size hsz _ n c (j : Int) (by omega) (by omega) W, Int.toNat_natCast, if_pos h]
  · refine ⟨⟨g, j * size, none⟩, fun W => ?_, fun _ => rfl⟩
    rw [cut_from t e .i64 ht hi size hsz _ n c (j : Int) (by omega) (by omega) W, Int.toNat_natCast, if_neg h]
    have : (⟨g, 0, none⟩ : Addr).add (j * size) = ⟨g, j * size, none⟩ := by unfold Addr.add; split <;> simp_all
    simp [this]
theorem over_cut {P : Program} (t e : TypeId) {i : TypeInfo} (ht : P.underlying t = some (.slice e)) (hi : P.info? e = some i) (size : Nat) (hsz : i.size = size) (g m n c : Nat) (hm : m < n) (hc : n ≤ c) (v : Int) (hv : v = (m : Int)) :
    ∀ W : World, (Instr.slice t (.slice (some ⟨g, 0, none⟩) m c) (some (.int .i64 v)) (some (.int .i64 (n : Int))) none).run P W = .ok (.slice (some ⟨g, m * size, none⟩) (n - m) (c - m)) W := by
  intro W
  subst hv
  have hel : P.elem t = e := by simp [Program.elem, ht]
  have hu : P.underlying t = some (.slice (P.elem t)) := by rw [hel]; exact ht
  rw [run_slice_lh W t (some ⟨g, 0, none⟩) m c hu .i64 .i64 (m : Int) (n : Int) (by omega) (by omega) (by omega), hel]
  have : (⟨g, 0, none⟩ : Addr).add (m * size) = ⟨g, m * size, none⟩ := by unfold Addr.add; split <;> simp_all
  have h2 : ¬ c = m := by omega
  simp [sizeOf, typeInfo, hi, hsz, sliced, Result.andThen, this, h2]
theorem full_cut {P : Program} (t e : TypeId) {inf : TypeInfo} (ht : P.underlying t = some (.slice e)) (hi : P.info? e = some inf) (A : Option Addr) (n c : Nat) (lo hi' : Int) (h0 : 0 ≤ lo) (h1 : lo ≤ hi') (h2 : hi' ≤ n) (hc : n ≤ c) :
    ∃ v, ∀ W : World, (Instr.slice t (.slice A n c) (some (.int .i64 lo)) (some (.int .i64 hi')) (some (.int .i64 (n : Int)))).run P W = .ok v W := by
  have hel : P.elem t = e := by simp [Program.elem, ht]
  have hu : P.underlying t = some (.slice (P.elem t)) := by rw [hel]; exact ht
  refine ⟨sliced A lo.toNat hi'.toNat n inf.size, fun W => ?_⟩
  rw [run_slice_lhm W t A n c hu .i64 .i64 .i64 lo hi' n h0 h1 h2 (by omega), hel]
  simp [sizeOf, typeInfo, hi, sliced, Result.andThen]
/-- A row of one's own from which one element is taken: what stood behind it stands one place ahead. -/
theorem R_shift {α : Type} {d : Kd α} (hM : ∀ {w1 w2 : World} {base : Nat} {ok : Nat → Prop} {x : α} {cs : List Value}, d.M w1 base ok x cs → d.M w2 base ok x cs) {e g n cap i : Nat} {w : World} {base : Nat} {ok : Nat → Prop} {xs : List α}
    (h : d.R e w base ok (.slice (some ⟨g, 0, none⟩) n cap) xs) (hi : i < n) : ∃ news : List Value, news.length = (n - (i + 1)) * d.sz ∧ (∀ j u, news[j]? = some u → w.cell? ⟨g, (i + 1) * d.sz + j, none⟩ = some u) ∧ (∀ u ∈ news, u.oneCell' = true) ∧
      (∀ j, j < news.length → (w.cell? ⟨g, 0 + i * d.sz + j, none⟩).isSome = true ∧ w.frozen? ⟨g, 0 + i * d.sz + j, none⟩ = false) ∧ d.R e (w.setCells g (0 + i * d.sz) news) base ok (.slice (some ⟨g, 0, none⟩) (n - 1) cap) (xs.take i ++ xs.drop (i + 1)) := by
  obtain ⟨hn, hnc, hC⟩ := Kd.R_reads' h
  subst hn
  obtain ⟨h0, inner, ho, hr⟩ := h
  obtain ⟨hlen, ho2⟩ := ho
  rcases ho2 with ⟨hv, _⟩ | ⟨g', cap', cur, hv, hb, hh, hc1, hm, hs, ht⟩
  · cases hv
  injection hv with a1 a2 a3
  injection a1 with a1
  injection a1 with a1
  subst a1
  subst a3
  have e1 : (i + 1) * d.sz = i * d.sz + d.sz := Nat.succ_mul i d.sz
  have e2 : (i + 1) * d.sz ≤ xs.length * d.sz := Nat.mul_le_mul_right _ hi
  have e3 : xs.length * d.sz ≤ cap * d.sz := Nat.mul_le_mul_right _ hnc
  have e4 : (xs.length - (i + 1)) * d.sz = xs.length * d.sz - (i + 1) * d.sz := Nat.sub_mul _ _ _
  have e5 : (xs.length - 1) * d.sz = xs.length * d.sz - d.sz := by rw [Nat.sub_mul, Nat.one_mul]
  have hnl : (inner.drop ((i + 1) * d.sz)).length = (xs.length - (i + 1)) * d.sz := by rw [List.length_drop, hlen, e4]
  have hin : ∀ j u, inner[j]? = some u → w.cell? ⟨g, j, none⟩ = some u := by
    intro j u hj
    have hjl : j < xs.length * d.sz := by
      have := (List.getElem?_eq_some_iff.1 hj).1
      rw [hlen] at this
      exact this
    rw [← ht, List.getElem?_take, if_pos hjl, Array.getElem?_toList] at hj
    rw [cell_of_row w g _ cur e (0, 0) hh]
    simpa using hj
  refine ⟨inner.drop ((i + 1) * d.sz), hnl, fun j u hj => ?_, fun u hu => ?_, fun j hj => ⟨?_, blk_frozen hh _⟩, ?_⟩
  · rw [List.getElem?_drop] at hj
    exact hin _ u hj
  · obtain ⟨j, hj, rfl⟩ := List.getElem_of_mem hu
    have hj2 : j < xs.length * d.sz - (i + 1) * d.sz := by rw [← e4, ← hnl]; exact hj
    have hsz : 0 < d.sz := by
      rcases Nat.eq_zero_or_pos d.sz with hz | hz
      · rw [hz] at hj2; simp at hj2
      · exact hz
    have hq : ((i + 1) * d.sz + j) / d.sz < xs.length := by rw [Nat.div_lt_iff_lt_mul hsz]; omega
    have hx := hr.2 (((i + 1) * d.sz + j) / d.sz) _ (List.getElem?_eq_getElem (by omega))
    refine d.K_one (d.K_of_M hx) _ ?_
    have hd := Nat.div_add_mod ((i + 1) * d.sz + j) d.sz
    have hm2 := Nat.mod_lt ((i + 1) * d.sz + j) hsz
    rw [Nat.mul_comm] at hd
    rw [List.mem_iff_getElem?]
    refine ⟨((i + 1) * d.sz + j) % d.sz, ?_⟩
    rw [List.getElem?_take, if_pos hm2, List.getElem?_drop, hd, List.getElem_drop]
    exact List.getElem?_eq_getElem _
  · rw [cell_of_row w g _ cur e (0, 0) hh]
    rw [hnl, e4] at hj
    simp
    omega
  · obtain ⟨cur', h3, h4, h5⟩ := setCells_row (inner.drop ((i + 1) * d.sz)) (0 + i * d.sz) w cur hh (by rw [hnl, e4]; omega)
    have hyl : (xs.take i ++ xs.drop (i + 1)).length = xs.length - 1 := by rw [List.length_append, List.length_take, List.length_drop]; omega
    have hin' : inner = cur.toList.take (xs.length * d.sz) := by rw [← ht]
    refine ⟨h0, inner.take (i * d.sz) ++ inner.drop ((i + 1) * d.sz), ⟨?_, .inr ⟨g, cap, cur', by rw [hyl], hb, h3, by rw [hyl]; omega, hm, by rw [h4]; exact hs, ?_⟩⟩, ?_, ?_⟩
    · rw [hyl, List.length_append, hnl, List.length_take, hlen, e4, e5]
      omega
    · rw [hyl, h5, Nat.zero_add, hnl, hin']
      rw [List.take_append_of_le_length (by rw [List.length_append, List.length_take, List.length_drop, List.length_take]; simp; rw [e5, hs]; omega)]
      rw [List.take_of_length_le (by rw [List.length_append, List.length_take, List.length_drop, List.length_take]; simp; rw [e5]; omega)]
      rw [List.take_take, Nat.min_eq_left (by omega)]
    · rw [List.length_append, hnl, List.length_take, hlen, hyl, e4, e5]
      omega
    · intro j p hj
      have hjl : j < xs.length - 1 := by rw [← hyl]; exact (List.getElem?_eq_some_iff.1 hj).1
      have hl1 : (inner.take (i * d.sz)).length = i * d.sz := by rw [List.length_take, hlen]; omega
      rw [List.getElem?_append] at hj
      have hl2 : (xs.take i).length = i := by rw [List.length_take]; omega
      rw [hl2] at hj
      by_cases hji : j < i
      · rw [if_pos hji, List.getElem?_take, if_pos hji] at hj
        have f1 : j * d.sz + d.sz ≤ i * d.sz := by rw [← Nat.succ_mul]; exact Nat.mul_le_mul_right _ hji
        rw [List.drop_append_of_le_length (by omega), List.take_append_of_le_length (by rw [List.length_drop, hl1]; omega), List.drop_take, List.take_take, Nat.min_eq_left (by omega)]
        exact hM (hr.2 j p hj)
      · rw [if_neg hji, List.getElem?_drop] at hj
        have f1 : i * d.sz ≤ j * d.sz := Nat.mul_le_mul_right _ (by omega)
        have f2 : (i + 1 + (j - i)) * d.sz = (i + 1) * d.sz + (j * d.sz - i * d.sz) := by rw [Nat.add_mul, Nat.sub_mul]
        rw [List.drop_append, hl1, (List.drop_of_length_le (by omega) : (inner.take (i * d.sz)).drop (j * d.sz) = []), List.nil_append, List.drop_drop, ← f2]
        exact hM (hr.2 _ p hj)
/-- A whole block of one's own is stored into, as_ a step of a region that draws; the world behind it is any that holds so. -/
theorem store_step {P : Program} {ops : Array Oper} {o : Oper} {a : Act} {Q : Exit → Act → World → Prop} {Kc : Act → World → Prop} {W : World} (hw : Region.wanted o (yielded ops a.tmps) = true) (hN : o.dst = none) (t : TypeId) (p x : Operand) (ho : o.op = .store t p x) {g : Nat} {e : TypeId} {cur : Array Value}
    (haddr : a.eval p = .pointer (some ⟨g, 0, none⟩)) {u : Value} (hx : a.eval x = u) (seg : List Value) (hu : u.cells.toList = seg) (ht : (P.info? t).map (·.size) = some seg.length) (hh : W.heap[g]? = some (.cells cur e (0, 0))) (hn : cur.size = seg.length) (h1 : ∀ q ∈ seg, q.oneCell' = true)
    (h : ∀ w1, w1.heap[g]? = some (.cells seg.toArray e (0, 0)) → (∀ k, k ≠ g → w1.heap[k]? = W.heap[k]?) → (∀ B w0, Below B w0 W → B ≤ g → Below B w0 w1) → Kc a w1) : if Region.wanted o (yielded ops a.tmps) = true then Oper.wp P o a W Kc Q else Kc (a.put none undef) W := by
  have hrun := run_store_run t u seg hh hu ht (o := 0) (by omega) h1
  obtain ⟨cur', h3, h4, h5⟩ := setCells_row seg 0 W cur hh (by omega)
  have hc : cur' = seg.toArray := by
    apply Array.toList_inj.mp
    rw [h5, List.take_zero, List.nil_append, List.drop_of_length_le (by rw [Array.length_toList]; omega), List.append_nil]
  subst hc
  refine skip_ hw hN (w1 := W.setCells g 0 seg) ?_ (h _ h3 (fun k hk => Go.Proofs.YtmgmaflfednngaaW.PrintWords.setCells_far seg 0 k hk) (fun B w0 hB hg => setCells_below _ _ _ _ hB hg))
  unfold execOp
  simp only [ho, haddr, hx, Sem.run_bind, Sem.run_pure, Result.andThen_ok, hrun]
end Go.Proofs.Ytmgmaflfednngaa.Base
