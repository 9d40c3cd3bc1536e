-- A copy, made by trim.py (its own words shortened): not an official print.
import Derived.Test.YtmgmaflfednngaaZExactTellerNewSlices
import Derived.Shelf.Spec.SlicesInsert
import Derived.Lib.AppendZerosOnto
import Derived.Lib.Overlaps
import Derived.Shelf.SlSortCmp.QuietGrown
set_option linter.unusedVariables false
namespace Go.Proofs.Ytmgmaflfednngaa.Base
open Go.RowKit Go.Proofs.YtmgmaflfednngaaW.PrintWords Go.Proofs.YtmgmaflfednngaaW.PrintLast
def setD (w : World) (n : Nat) : World := { w with drawn := n }
theorem wp_region_quiet_any {P : Program} {id : Nat} {Q : Exit → Act → World → Prop} {a : Act} {w : World} {l : List Oper} (hm : P.follows .mixedOrders = true) (hB : Region.lexB .any l.toArray = true)
    (h : wpQuiet P l.toArray (fun w' => ∃ p : GrownBy, w' = Sort.grow (setD w p.n) p.os) (fun a' => ∀ w', (∃ p : GrownBy, w' = Sort.grow (setD w p.n) p.os) → Q .normal a' w') l a) : (Code.region id l.toArray true).wp P Q a w :=
  wp_region_quiet (C := fun w' => ∃ p : GrownBy, w' = Sort.grow (setD w p.n) p.os) hm hB ⟨⟨w.drawn + 1, #[]⟩, by rw [Sort.grow_empty]; rfl⟩ (by simpa using h)
theorem cell_setD {w : World} {a : Addr} {v : Value} (h : w.cell? a = some v) (n : Nat) (os : Array Obj) : (Sort.grow (setD w n) os).cell? a = some v := by
  exact (Sort.cell?_grow (setD w n) os a (World.block_lt_of_cell? w _ h)).trans h
theorem below_is_grow {w w' : World} (h : Below w.heap.size w w') : ∃ os, w' = Sort.grow (setD w w'.drawn) os := by
  refine ⟨w'.heap.extract w.heap.size w'.heap.size, ?_⟩
  have hh : w'.heap = w.heap ++ w'.heap.extract w.heap.size w'.heap.size := by
    apply Array.ext_getElem?
    intro k
    rw [Array.getElem?_append]
    by_cases hk : k < w.heap.size
    · rw [if_pos hk]
      exact h.block k hk
    · rw [if_neg hk, Array.getElem?_extract]
      have := h.size
      by_cases h2 : k < w'.heap.size
      · rw [if_pos (by omega)]
        congr 1
        omega
      · rw [if_neg (by omega)]
        exact Array.getElem?_eq_none (by omega)
  have h1 := h.os
  have h2 := h.tape
  have h3 := h.output
  cases w' with
  | mk heap tape drawn os output =>
    cases w with
    | mk heap0 tape0 drawn0 os0 output0 =>
      simp only at h1 h2 h3 hh
      subst h1
      subst h2
      subst h3
      simp only [Sort.grow, setD]
      congr 1
theorem calls_quiet {P : Program} {f : FuncId} {args : Array Value} {w : World} {n : Nat} {os : Array Obj} {v : Value} (h : Calls P f args (Sort.grow (setD w n) os) fun e w' => e = .returned v ∧ Below (Sort.grow (setD w n) os).heap.size (Sort.grow (setD w n) os) w') :
    Calls P f args (Sort.grow (setD w n) os) fun e w'' => e = .returned v ∧ ∃ p : GrownBy, w'' = Sort.grow (setD w p.n) p.os :=
  h.mono fun e w' ⟨he, hb⟩ => by
    obtain ⟨os', hq⟩ := below_is_grow hb
    exact ⟨he, ⟨w'.drawn, os ++ os'⟩, hq.trans (Sort.grow_grow (setD w w'.drawn) os os')⟩
theorem below_setD {B : Nat} {w wr : World} (h : Below B w wr) (hB : B ≤ wr.heap.size) (n : Nat) (os : Array Obj) : Below B w (Sort.grow (setD wr n) os) := by
  refine ⟨h.os, h.tape, h.output, Nat.le_trans h.size (by simp [Sort.grow, setD]), fun k hk => ?_⟩
  rw [Sort.heap_grow_old _ _ (by show k < wr.heap.size; omega)]
  exact h.block k hk
end Go.Proofs.Ytmgmaflfednngaa.Base
