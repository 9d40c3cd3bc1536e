-- A copy, made by trim.py (its own words shortened): not an official print.
import Derived.Test.YtmgmaflfednngaaZExactRibPutSlices
import Derived.Shelf.Spec.SlicesInsert
import Derived.Lib.AppendZerosOnto
import Derived.Lib.Overlaps
import Derived.Shelf.SlSortCmp.QuietGrown
set_option linter.unusedVariables false
namespace Go.Proofs.Ytmgmaflfednngaa.Base
open Go.RowKit Go.Proofs.YtmgmaflfednngaaW.PrintWords Go.Proofs.YtmgmaflfednngaaW.PrintLast
def setD (w : World) (n : Nat) : World := { w with drawn := n }
theorem wp_region_quiet_any {P : Program} {id : Nat} {Q : Exit → Act → World → Prop} {a : Act} {w : World} {l : List Oper} (hm : P.follows .mixedOrders = true) (hB : Region.lexB .any l.toArray = true)
    (h : wpQuiet P l.toArray (fun w' => ∃ p : GrownBy, w' = Sort.grow (setD w p.n) p.os) (fun a' => ∀ w', (∃ p : GrownBy, w' = Sort.grow (setD w p.n) p.os) → Q .normal a' w') l a) : (Code.region id l.toArray true).wp P Q a w :=
  wp_region_quiet (C := fun w' => ∃ p : GrownBy, w' = Sort.grow (setD w p.n) p.os) hm hB ⟨⟨w.drawn + 1, #[]⟩, by rw [Sort.grow_empty]; rfl⟩ (by simpa using h)
theorem cell_setD {w : World} {a : Addr} {v : Value} (h : w.cell? a = some v) (n : Nat) (os : Array Obj) : (Sort.grow (setD w n) os).cell? a = some v := by
  exact (Sort.cell?_grow (setD w n) os a (World.block_lt_of_cell? w _ h)).trans h
theorem below_is_grow {w w' : World} (h : Below w.heap.size w w') : ∃ os, w' = Sort.grow (setD w w'.drawn) os := by
  refine ⟨w'.heap.extract w.heap.size w'.heap.size, ?_⟩
  have hh : w'.heap = w.heap ++ w'.heap.extract w.heap.size w'.heap.size := by
    apply Array.ext_getElem?
    intro k
    rw [Array.getElem?_append]
    by_cases hk : k < w.heap.size
    · rw [if_pos hk]
      exact h.block k hk
    · rw [if_neg hk, Array.getElem?_extract]
      have := h.size
      by_cases h2 : k < w'.heap.size
      · rw [if_pos (by omega)]
        congr 1
        omega
      · rw [if_neg (by omega)]
        exact Array.getElem?_eq_none (by omega)
  have h1 := h.os
  have h2 := h.tape
  have h3 := h.output
  cases w' with
  | mk heap tape drawn os output =>
    cases w with
    | mk heap0 tape0 drawn0 os0 output0 =>
      simp only at h1 h2 h3 hh
      subst h1
      subst h2
      subst h3
      simp only [Sort.grow, setD]
      congr 1
theorem calls_quiet {P : Program} {f : FuncId} {args : Array Value} {w : World} {n : Nat} {os : Array Obj} {v : Value} (h : Calls P f args (Sort.grow (setD w n) os) fun e w' => e = .returned v ∧ Below (Sort.grow (setD w n) os).heap.size (Sort.grow (setD w n) os) w') :
    Calls P f args (Sort.grow (setD w n) os) fun e w'' => e = .returned v ∧ ∃ p : GrownBy, w'' = Sort.grow (setD w p.n) p.os :=
  h.mono fun e w' ⟨he, hb⟩ => by
    obtain ⟨os', hq⟩ := below_is_grow hb
    exact ⟨he, ⟨w'.drawn, os ++ os'⟩, hq.trans (Sort.grow_grow (setD w w'.drawn) os os')⟩
theorem below_setD {B : Nat} {w wr : World} (h : Below B w wr) (hB : B ≤ wr.heap.size) (n : Nat) (os : Array Obj) : Below B w (Sort.grow (setD wr n) os) := by
  refine ⟨h.os, h.tape, h.output, Nat.le_trans h.size (by simp [Sort.grow, setD]), fun k hk => ?_⟩
  rw [Sort.heap_grow_old _ _ (by show k < wr.heap.size; omega)]
  exact h.block k hk
theorem blk_setD {wr : World} {g : Nat} {o : Obj} (h : wr.heap[g]? = some o) (n : Nat) (os : Array Obj) : (Sort.grow (setD wr n) os).heap[g]? = some o := by
  rw [Sort.heap_grow_old _ _ (by show g < wr.heap.size; exact Qs h)]
  exact h
theorem heap_of_drew {w : World} {g : Nat} {o : Option Obj} (h : w.heap[g]? = o) : w.drew.heap[g]? = o := h
theorem run_copy_wide {P : Program} (w : World) (dT sT ty elem : TypeId) (b o dLen dCap : Nat) (a : Addr) (sLen sCap : Nat) (cs : List Value) (s m : Nat)
    (hu : P.underlying dT = some (.slice elem)) (hs : (P.info? elem).map (·.size) = some s) (hm : Nat.min sLen dLen = m) (hn : cs.length = m * s)
    (hsrc : ∀ j v, cs[j]? = some v → w.cell? (a.add j) = some v) (hc : ∀ j, j < cs.length → (w.cell? ⟨b, o + j, none⟩).isSome = true) (hf : ∀ j, j < cs.length → w.frozen? ⟨b, o + j, none⟩ = false) (h1 : ∀ v ∈ cs, v.oneCell' = true) :
    (Builtin.copy_ #[dT, sT] ty #[.slice (some ⟨b, o, none⟩) dLen dCap, .slice (some a) sLen sCap]).run P w = .ok (goInt m) (w.setCells b o cs) := by
  have hfc := run_firstCells_some (P := P) w s m a sLen sCap cs hn hsrc
  have hst := run_storeCells_cells (P := P) b o cs 0 w (by simpa using hc) (by simpa using hf) h1
  simp only [Nat.add_zero] at hst
  obtain ⟨i, hi, hsz⟩ := Option.map_eq_some_iff.1 hs
  simp [Builtin.copy_, run_underlying hu, Builtin.lenOf, sizeOf, typeInfo, hi, hsz, hm, hfc, hst]
theorem open_list {α : Type} (L D seg : List α) (a s : Nat) (hs : seg.length = s) (hL : a + s + D.length ≤ L.length) :
    (((L.take (a + s) ++ D ++ L.drop (a + s + D.length)).take a ++ seg ++ (L.take (a + s) ++ D ++ L.drop (a + s + D.length)).drop (a + s)).take (a + s + D.length)) = L.take a ++ seg ++ D := by
  have h1 : (L.take (a + s)).length = a + s := by rw [List.length_take]; omega
  have e1 : (L.take (a + s) ++ D ++ L.drop (a + s + D.length)).take a = L.take a := by
    rw [List.append_assoc, List.take_append_of_le_length (by omega), List.take_take, Nat.min_eq_left (by omega)]
  have e2 : (L.take (a + s) ++ D ++ L.drop (a + s + D.length)).drop (a + s) = D ++ L.drop (a + s + D.length) := by
    rw [List.append_assoc, List.drop_append_of_le_length (by omega), List.drop_of_length_le (by omega), List.nil_append]
  rw [e1, e2, ← List.append_assoc (L.take a ++ seg) D]
  rw [List.take_append_of_le_length (by simp; omega), List.take_of_length_le (by simp; omega)]
theorem open_list2 {α : Type} (L D seg : List α) (a s : Nat) (hs : seg.length = s) (hL : a + s + D.length ≤ L.length) :
    (((L.take a ++ seg ++ L.drop (a + s)).take (a + s) ++ D ++ (L.take a ++ seg ++ L.drop (a + s)).drop (a + s + D.length)).take (a + s + D.length)) = L.take a ++ seg ++ D := by
  have h1 : (L.take a).length = a := by rw [List.length_take]; omega
  have e1 : (L.take a ++ seg ++ L.drop (a + s)).take (a + s) = L.take a ++ seg := by
    rw [List.take_append_of_le_length (by simp; omega), List.take_of_length_le (by simp; omega)]
  rw [e1, List.take_append_of_le_length (by simp; omega), List.take_of_length_le (by simp; omega)]
theorem reps_open {α : Type} {R : α → List Value → Prop} {s : Nat} {xs : List α} {inner seg : List Value} {y : α} {i : Nat} (h : Reps R s xs inner) (hy : R y seg) (hs : seg.length = s) (hi : i ≤ xs.length) :
    Reps R s (xs.take i ++ y :: xs.drop i) (inner.take (i * s) ++ seg ++ inner.drop (i * s)) := by
  have hin := h.1
  have f0 : i * s ≤ xs.length * s := Nat.mul_le_mul_right _ hi
  have hl1 : (inner.take (i * s)).length = i * s := by rw [List.length_take, hin]; omega
  have hl2 : (xs.take i).length = i := by rw [List.length_take]; omega
  refine ⟨?_, fun j p hj => ?_⟩
  · simp only [List.length_append, List.length_cons, List.length_drop, hl1, hl2, hs, hin]
    rw [show i + (xs.length - i + 1) = xs.length + 1 by omega, Nat.succ_mul]
    omega
  · rw [List.getElem?_append, hl2] at hj
    by_cases hji : j < i
    · rw [if_pos hji, List.getElem?_take, if_pos hji] at hj
      have f1 : j * s + s ≤ i * s := by rw [← Nat.succ_mul]; exact Nat.mul_le_mul_right _ hji
      rw [List.append_assoc, List.drop_append_of_le_length (by omega), List.take_append_of_le_length (by rw [List.length_drop, hl1]; omega), List.drop_take, List.take_take, Nat.min_eq_left (by omega)]
      exact h.2 j p hj
    · rw [if_neg hji] at hj
      rcases Nat.lt_or_ge i j with h2 | h2
      · obtain ⟨q, hq⟩ : ∃ q, j - i = q + 1 := ⟨j - i - 1, by omega⟩
        rw [hq, List.getElem?_cons_succ, List.getElem?_drop] at hj
        have f1 : j * s = i * s + s + q * s := by rw [show j = i + 1 + q by omega, Nat.add_mul, Nat.add_mul, Nat.one_mul]
        have f2 : (i + q) * s = i * s + q * s := Nat.add_mul _ _ _
        have e1 : (inner.take (i * s) ++ seg ++ inner.drop (i * s)).drop (j * s) = inner.drop ((i + q) * s) := by
          rw [f1, List.drop_append, List.drop_of_length_le (by simp [hl1, hs]), List.nil_append, List.drop_drop]
          congr 1
          simp [hl1, hs]
          omega
        rw [e1]
        exact h.2 (i + q) p hj
      · obtain rfl : j = i := by omega
        rw [Nat.sub_self, List.getElem?_cons_zero] at hj
        cases hj
        rw [List.append_assoc, List.drop_append, List.drop_of_length_le (by omega), List.nil_append, hl1, Nat.sub_self, List.drop_zero, List.take_append_of_le_length (by omega), List.take_of_length_le (by omega)]
        exact hy
theorem R_of_block {α : Type} {d : Kd α} {e g n cap : Nat} {w : World} {base : Nat} {ok : Nat → Prop} {ys : List α} {cur : Array Value} {inner : List Value} (hh : w.heap[g]? = some (.cells cur e (0, 0))) (hb : base ≤ g) (hok : ok g) (hn : n = ys.length) (hnc : n ≤ cap) (hm : cap ≤ maxLen) (hs : cur.size = cap * d.sz)
    (ht : cur.toList.take (n * d.sz) = inner) (hr : Reps (d.M w base (fun k => ok k ∧ some k ≠ (Value.slice (some ⟨g, 0, none⟩) n cap).ownBlock)) d.sz ys inner) : d.R e w base ok (.slice (some ⟨g, 0, none⟩) n cap) ys := by
  subst hn
  refine ⟨fun k hk => ?_, inner, ⟨hr.1, .inr ⟨g, cap, cur, rfl, hb, hh, hnc, hm, hs, ht⟩⟩, hr⟩
  have : g = k := by simpa [Value.ownBlock] using hk
  exact this ▸ hok
theorem R_cells {α : Type} {d : Kd α} {e g n cap : Nat} {w : World} {base : Nat} {ok : Nat → Prop} {xs : List α} (h : d.R e w base ok (.slice (some ⟨g, 0, none⟩) n cap) xs) :
    ∃ cur inner, w.heap[g]? = some (.cells cur e (0, 0)) ∧ n = xs.length ∧ n ≤ cap ∧ cap ≤ maxLen ∧ cur.size = cap * d.sz ∧ cur.toList.take (n * d.sz) = inner ∧ base ≤ g ∧ ok g ∧ Reps (d.M w base (fun k => ok k ∧ some k ≠ (Value.slice (some ⟨g, 0, none⟩) n cap).ownBlock)) d.sz xs inner := by
  obtain ⟨hn, hnc, _⟩ := Kd.R_reads' h
  obtain ⟨h0, inner, ho, hr⟩ := h
  obtain ⟨hlen, ho2⟩ := ho
  rcases ho2 with ⟨hv, _⟩ | ⟨g', cap', cur, hv, hb, hh, hc1, hm, hs, ht⟩
  · cases hv
  injection hv with a1 a2 a3
  injection a1 with a1
  injection a1 with a1
  subst a1
  subst a3
  exact ⟨cur, inner, hh, hn, hnc, hm, hs, by rw [hn]; exact ht, hb, h0 g (by simp [Value.ownBlock]), hr⟩
theorem reps_one {α : Type} {d : Kd α} {w : World} {base : Nat} {ok : Nat → Prop} {xs : List α} {inner : List Value} (h : Reps (d.M w base ok) d.sz xs inner) (hs : 0 < d.sz) : ∀ u ∈ inner, u.oneCell' = true := by
  intro u hu
  obtain ⟨j, hj, rfl⟩ := List.getElem_of_mem hu
  have hq : j / d.sz < xs.length := by rw [Nat.div_lt_iff_lt_mul hs, ← h.1]; exact hj
  have hx := h.2 (j / d.sz) _ (List.getElem?_eq_getElem hq)
  refine d.K_one (d.K_of_M hx) _ ?_
  have hd := Nat.div_add_mod j d.sz
  have hm2 := Nat.mod_lt j hs
  rw [Nat.mul_comm] at hd
  rw [List.mem_iff_getElem?]
  refine ⟨j % d.sz, ?_⟩
  rw [List.getElem?_take, if_pos hm2, List.getElem?_drop, hd]
  exact List.getElem?_eq_getElem _
end Go.Proofs.Ytmgmaflfednngaa.Base
