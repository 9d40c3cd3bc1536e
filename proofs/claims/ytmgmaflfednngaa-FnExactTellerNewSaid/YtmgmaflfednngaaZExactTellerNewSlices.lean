-- A copy, made by trim.py (its own words shortened): not an official print.
import Derived.Test.YtmgmaflfednngaaZExactTellerNewBase
import Derived.Lib.SliceRun
import Derived.Laws.IdiomCopy
import Derived.Shelf.Abstract
set_option linter.unusedVariables false
namespace Go.Proofs.Ytmgmaflfednngaa.Base
open Go.RowKit Go.Proofs.YtmgmaflfednngaaW.PrintWords Go.Proofs.YtmgmaflfednngaaW.PrintLast
theorem setCells_far (g : Nat) : ∀ (vs : List Value) (o : Nat) (w : World) (b : Nat), b ≠ g → (w.setCells g o vs).heap[b]? = w.heap[b]?
  | [], o, w, b, _ => rfl
  | v :: vs, o, w, b, hb => by
    show ((w.setCell ⟨g, o, none⟩ v).setCells g (o + 1) vs).heap[b]? = _
    rw [setCells_far g vs (o + 1) _ b hb]
    exact Below.heap_setCell w ⟨g, o, none⟩ v b hb
theorem setCells_below {B g : Nat} : ∀ (vs : List Value) (o : Nat) (w w' : World), Below B w w' → B ≤ g → Below B w (w'.setCells g o vs)
  | [], o, w, w', h, _ => h
  | v :: vs, o, w, w', h, hg => setCells_below vs (o + 1) w _ (h.setCell hg v) hg
def Same (K : Nat → Prop) (w W : World) : Prop := w.heap.size ≤ W.heap.size ∧ ∀ k, K k → W.heap[k]? = w.heap[k]?
theorem Same.refl {K : Nat → Prop} (w : World) : Same K w w := ⟨Nat.le_refl _, fun _ _ => rfl⟩
theorem Same.below {K : Nat → Prop} {w W W' : World} (h : Same K w W) (hK : ∀ k, K k → k < w.heap.size) (hb : Below W.heap.size W W') : Same K w W' :=
  ⟨Nat.le_trans h.1 hb.size, fun k hk => (hb.block k (Nat.lt_of_lt_of_le (hK k hk) h.1)).trans (h.2 k hk)⟩
theorem Same.alloc {K : Nat → Prop} {w W : World} (h : Same K w W) (hK : ∀ k, K k → k < w.heap.size) (o : Obj) : Same K w (W.alloc o) := h.below hK ((Below.refl _ W).alloc (Nat.le_refl _) o)
theorem Same.grown {K : Nat → Prop} {w W W' : World} {g : Nat} (h : Same K w W) (hK : ∀ k, K k → k < w.heap.size) (hg : ¬ K g) (hb : W.grownBy W' (some g)) : Same K w W' :=
  ⟨Nat.le_trans h.1 hb.size, fun k hk => (hb.block k (Nat.lt_of_lt_of_le (hK k hk) h.1) (fun e => by injection e with e; exact hg (e ▸ hk))).trans (h.2 k hk)⟩
structure Thin {α : Type} (p : α → Bool) (xs : List α) (j i : Nat) (ys : List α) : Prop where
  len : ys.length = xs.length
  lt : i < j
  le : j ≤ xs.length
  done : ys.take i = (xs.take j).filter (fun x => !p x)
  rest : ys.drop j = xs.drop j
theorem Thin.at_ {α : Type} (z : α) {p : α → Bool} {xs ys : List α} {j i : Nat} (h : Thin p xs j i ys) (hj : j < xs.length) : nth z ys j = nth z xs j := by
  have e := congrArg (fun l => l[0]?) h.rest
  simp only [List.getElem?_drop, Nat.add_zero] at e
  simp only [nth, List.getD_eq_getElem?_getD, e]
theorem Thin.skip {α : Type} (z : α) {p : α → Bool} {xs ys : List α} {j i : Nat} (h : Thin p xs j i ys) (hj : j < xs.length) (hp : p (nth z xs j) = true) : Thin p xs (j + 1) i ys := by
  refine ⟨h.len, by have := h.lt; omega, hj, ?_, ?_⟩
  · rw [h.done, List.take_succ_eq_append_getElem hj, List.filter_append]
    have e2 : p xs[j] = true := by rw [nth_lt hj] at hp; exact hp
    simp [e2]
  · have := congrArg (fun l => l.drop 1) h.rest
    simpa [List.drop_drop] using this
def Apart (u v : Value) : Prop := ∀ k, u.ownBlock = some k → v.ownBlock ≠ some k
theorem Apart.symm {u v : Value} (h : Apart u v) : Apart v u := fun k hk hv => h k hv hk
theorem Apart.grown {α : Type} {d : Kd α} {e base : Nat} {ok : Nat → Prop} {w : World} {u v v1 : Value} {ys : List α} (h : Apart u v) (hu : d.R e w base ok u ys) (hat : v1.ownBlock = v.ownBlock ∨ ∃ b, v1.ownBlock = some b ∧ w.heap.size ≤ b) : Apart u v1 := by
  intro k hk hv
  rcases hat with e1 | ⟨b, e1, hb⟩
  · exact h k hk (by rw [← e1]; exact hv)
  · rw [e1] at hv
    injection hv with hv
    have := Kd.R_lt hu k hk
    omega
theorem store_step {P : Program} {ops : Array Oper} {o : Oper} {a : Act} {Q : Exit → Act → World → Prop} {Kc : Act → World → Prop} {W : World} (hw : Region.wanted o (yielded ops a.tmps) = true) (hN : o.dst = none) (t : TypeId) (p x : Operand) (ho : o.op = .store t p x) {g : Nat} {e : TypeId} {cur : Array Value}
    (haddr : a.eval p = .pointer (some ⟨g, 0, none⟩)) {u : Value} (hx : a.eval x = u) (seg : List Value) (hu : u.cells.toList = seg) (ht : (P.info? t).map (·.size) = some seg.length) (hh : W.heap[g]? = some (.cells cur e (0, 0))) (hn : cur.size = seg.length) (h1 : ∀ q ∈ seg, q.oneCell' = true)
    (h : ∀ w1, w1.heap[g]? = some (.cells seg.toArray e (0, 0)) → (∀ k, k ≠ g → w1.heap[k]? = W.heap[k]?) → (∀ B w0, Below B w0 W → B ≤ g → Below B w0 w1) → Kc a w1) : if Region.wanted o (yielded ops a.tmps) = true then Oper.wp P o a W Kc Q else Kc (a.put none undef) W := by
  have hrun := run_store_run t u seg hh hu ht (o := 0) (by omega) h1
  obtain ⟨cur', h3, h4, h5⟩ := setCells_row seg 0 W cur hh (by omega)
  have hc : cur' = seg.toArray := by
    apply Array.toList_inj.mp
    rw [h5, List.take_zero, List.nil_append, List.drop_of_length_le (by rw [Array.length_toList]; omega), List.append_nil]
  subst hc
  refine skip_ hw hN (w1 := W.setCells g 0 seg) ?_ (h _ h3 (fun k hk => Go.Proofs.YtmgmaflfednngaaW.PrintWords.setCells_far seg 0 k hk) (fun B w0 hB hg => setCells_below _ _ _ _ hB hg))
  unfold execOp
  simp only [ho, haddr, hx, Sem.run_bind, Sem.run_pure, Result.andThen_ok, hrun]
end Go.Proofs.Ytmgmaflfednngaa.Base
