-- A copy, made by trim.py (its own words shortened): not an official print.
import Derived.Test.YtmgmaflfednngaaRows
import Derived.Test.YtmgmaflfednngaaZExactTellerNewWWords
import Derived.Test.YtmgmaflfednngaaZExactTellerNewWLast
import Derived.ChangeArms
import Derived.Deep.Slices
import Derived.DataElems
import Derived.WalkKit
import Derived.ProofKit
import Derived.OpenShut
import Derived.ShutString
import Derived.ChangeOld
import Derived.Below
import Derived.SizedLaws
namespace Go.Proofs.Ytmgmaflfednngaa.Open
open Go.RowKit Go.Proofs.YtmgmaflfednngaaW.PrintWords Go.ChangeShapes Go.WideShapes
structure Opens {α : Type} (P : Program) (t : TypeId) (k : Kd α) (G : α → Prop) : Prop where
  sz : P.cellsOf t = k.sz
  op : ∀ {H : Type} {enc : TypeId × Value → H} {w : World} {base : Nat} {sp : Nat → Bool} {held : Bool} {fuel : Nat} {cs : List Value} {x : DataW H × List MemPlace},
    DataW.trod enc P w base sp held fuel t cs = some x → ∃ a, k.K w a cs ∧ G a
theorem opens_int {P : Program} {t : TypeId} {k : IntKind} (ht : P.underlying t = some (.int k)) (hc : P.cellsOf t = 1) : Opens P t (Kd.int k) (fun n => (Lit.int k n).wf = true) :=
  ⟨hc, fun h => by
    obtain ⟨n, hcs, _, hw⟩ := DataW.trod_int ht h
    exact ⟨n, hcs, hw⟩⟩
structure Fields {α : Type} (P : Program) (fs : List Field) (off : Nat) (k : Kd α) (G : α → Prop) : Prop where
  op : ∀ {H : Type} {enc : TypeId × Value → H} {w : World} {base : Nat} {sp : Nat → Bool} {held : Bool} {n : Nat} {cs : List Value},
    cs.length = off + k.sz → (∀ (i : Nat) (f : Field), fs[i]? = some f → ∃ y, DataW.trod enc P w base sp held n f.type ((cs.drop f.offset).take (P.cellsOf f.type)) = some y) → ∃ a, k.K w a (cs.drop off) ∧ G a
theorem Opens.arg {α : Type} {P : Program} {t : TypeId} {k : Kd α} {G : α → Prop} (h : Opens P t k G) {H : Type} {enc : TypeId × Value → H} {w : World} {base : Nat} {sp : Nat → Bool} {held : Bool} {v : Value} {d : DataW H} {p : List MemPlace}
    (hd : DataW.Trod enc P w base sp held t v d p) : ∃ a, k.K w a v.cells.toList ∧ G a := by
  obtain ⟨fuel, hf⟩ := hd
  exact h.op hf
theorem int_of {P : Program} {w : World} {r : Reach} {base : Nat} {t : TypeId} {k : IntKind} {v : Value} {n : Int} (ht : P.underlying t = some (.int k)) (h : Value.okWide P w r base t v) (hv : v.cells.toList = [.int k n]) : v = .int k n := by
  cases v <;> simp [Value.cells] at hv ⊢
  · exact hv
  · rename_i cs
    simp only [Value.okWide, ht, Cell.okWide, Cell.ok] at h
end Go.Proofs.Ytmgmaflfednngaa.Open
