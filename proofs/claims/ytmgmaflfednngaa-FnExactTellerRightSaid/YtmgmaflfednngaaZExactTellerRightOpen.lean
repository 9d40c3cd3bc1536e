-- A copy, made by trim.py (its own words shortened): not an official print.
import Derived.Test.YtmgmaflfednngaaRows
import Derived.Test.YtmgmaflfednngaaZExactTellerRightWWords
import Derived.Test.YtmgmaflfednngaaZExactTellerRightWLast
import Derived.ChangeArms
import Derived.Deep.Slices
import Derived.DataElems
import Derived.WalkKit
import Derived.ProofKit
import Derived.OpenShut
import Derived.ShutString
import Derived.ChangeOld
import Derived.Below
import Derived.SizedLaws
namespace Go.Proofs.Ytmgmaflfednngaa.Open
open Go.RowKit Go.Proofs.YtmgmaflfednngaaW.PrintWords Go.ChangeShapes Go.WideShapes
structure Opens {α : Type} (P : Program) (t : TypeId) (k : Kd α) (G : α → Prop) : Prop where
  sz : P.cellsOf t = k.sz
  op : ∀ {H : Type} {enc : TypeId × Value → H} {w : World} {base : Nat} {sp : Nat → Bool} {held : Bool} {fuel : Nat} {cs : List Value} {x : DataW H × List MemPlace},
    DataW.trod enc P w base sp held fuel t cs = some x → ∃ a, k.K w a cs ∧ G a
theorem opens_int {P : Program} {t : TypeId} {k : IntKind} (ht : P.underlying t = some (.int k)) (hc : P.cellsOf t = 1) : Opens P t (Kd.int k) (fun n => (Lit.int k n).wf = true) :=
  ⟨hc, fun h => by
    obtain ⟨n, hcs, _, hw⟩ := DataW.trod_int ht h
    exact ⟨n, hcs, hw⟩⟩
theorem opens_bool {P : Program} {t : TypeId} (ht : P.underlying t = some .bool) (hc : P.cellsOf t = 1) : Opens P t Kd.bool (fun _ => True) :=
  ⟨hc, fun h => by
    obtain ⟨n, hcs, _⟩ := DataW.trod_bool ht h
    exact ⟨n, hcs, trivial⟩⟩
theorem opens_string {P : Program} {t : TypeId} (ht : P.underlying t = some .string) (hc : P.cellsOf t = 1) : Opens P t Kd.string (fun s => s.size ≤ maxLen) :=
  ⟨hc, fun h => by
    obtain ⟨n, hcs, _, hw⟩ := DataW.trod_string ht h
    exact ⟨n, hcs, hw⟩⟩
theorem opens_iso {α β : Type} {P : Program} {t : TypeId} {k : Kd α} {G : α → Prop} (h : Opens P t k G) (f : β → α) (g : α → β) (hfg : ∀ a, f (g a) = a) : Opens P t (Kd.iso k f) (fun b => G (f b)) :=
  ⟨h.sz, fun hd => by
    obtain ⟨a, ha, hg⟩ := h.op hd
    refine ⟨g a, ?_, ?_⟩
    · show k.K _ (f (g a)) _
      rw [hfg]; exact ha
    · show G (f (g a))
      rw [hfg]; exact hg⟩
structure Fields {α : Type} (P : Program) (fs : List Field) (off : Nat) (k : Kd α) (G : α → Prop) : Prop where
  op : ∀ {H : Type} {enc : TypeId × Value → H} {w : World} {base : Nat} {sp : Nat → Bool} {held : Bool} {n : Nat} {cs : List Value},
    cs.length = off + k.sz → (∀ (i : Nat) (f : Field), fs[i]? = some f → ∃ y, DataW.trod enc P w base sp held n f.type ((cs.drop f.offset).take (P.cellsOf f.type)) = some y) → ∃ a, k.K w a (cs.drop off) ∧ G a
theorem fields_one {α : Type} {P : Program} {f : Field} {off : Nat} {k : Kd α} {G : α → Prop} (h : Opens P f.type k G) (ho : f.offset = off) : Fields P [f] off k G :=
  ⟨fun {H enc w base sp held n cs} hl hf => by
    obtain ⟨y, hy⟩ := hf 0 f rfl
    obtain ⟨a, ha, hg⟩ := h.op hy
    rw [h.sz, ho, List.take_of_length_le (by rw [List.length_drop]; omega)] at ha
    exact ⟨a, ha, hg⟩⟩
theorem fields_cons {α β : Type} {P : Program} {f : Field} {fs : List Field} {off : Nat} {k : Kd α} {k' : Kd β} {G : α → Prop} {G' : β → Prop} (h : Opens P f.type k G) (ho : f.offset = off) (hr : Fields P fs (off + k.sz) k' G') :
    Fields P (f :: fs) off (Kd.pair k k') (fun x => G x.1 ∧ G' x.2) :=
  ⟨fun {H enc w base sp held n cs} hl hf => by
    obtain ⟨y, hy⟩ := hf 0 f rfl
    obtain ⟨a, ha, hg⟩ := h.op hy
    have hl' : cs.length = off + (k.sz + k'.sz) := hl
    obtain ⟨b, hb, hg'⟩ := hr.op (enc := enc) (w := w) (base := base) (sp := sp) (held := held) (n := n) (cs := cs) (by omega) (fun i f' hi => hf (i + 1) f' (by simpa using hi))
    rw [h.sz, ho] at ha
    refine ⟨(a, b), ⟨_, _, ?_, ha, hb⟩, hg, hg'⟩
    rw [← List.drop_drop, List.take_append_drop]⟩
theorem opens_struct {α : Type} {P : Program} {t : TypeId} {fs : Array Field} {k : Kd α} {G : α → Prop} (ht : P.underlying t = some (.struct fs)) (hc : P.cellsOf t = k.sz) (h : Fields P fs.toList 0 k G) : Opens P t k G :=
  ⟨hc, fun {H enc w base sp held fuel cs x} hd => by
    obtain ⟨xs, n, _, _, hl, hxl, hf⟩ := DataW.trod_struct ht hd
    obtain ⟨a, ha, hg⟩ := h.op (enc := enc) (w := w) (base := base) (sp := sp) (held := held) (n := n) (cs := cs) (by omega) (fun i f hi => by
      have hi' : fs[i]? = some f := by simpa using hi
      have hlt : i < fs.size := by
        rcases Nat.lt_or_ge i fs.size with h1 | h1
        · exact h1
        · rw [Array.getElem?_eq_none h1] at hi'; cases hi'
      exact ⟨xs[i]'(by omega), by rw [hf i f hi', List.getElem?_eq_getElem]⟩)
    exact ⟨a, by simpa using ha, hg⟩⟩
theorem mapM_each {α β : Type} {f : α → Option β} : ∀ {xs : List α} {ys : List β}, xs.mapM f = some ys → ys.length = xs.length ∧ ∀ (i : Nat) (x : α), xs[i]? = some x → f x = ys[i]?
  | [], ys, h => by
    simp at h
    subst h
    exact ⟨rfl, fun i x hi => by simp at hi⟩
  | x :: xs, ys, h => by
    rw [List.mapM_cons] at h
    cases hx : f x with
    | none => rw [hx] at h; cases h
    | some y =>
      rw [hx] at h
      cases hr : xs.mapM f with
      | none => rw [hr] at h; cases h
      | some zs =>
        rw [hr] at h
        obtain ⟨h1, h2⟩ := mapM_each hr
        have : y :: zs = ys := by simpa using h
        subst this
        refine ⟨by simp [h1], fun i z hi => ?_⟩
        rcases i with _ | i
        · simp at hi
          subst hi
          simpa using hx
        · simp at hi
          simpa using h2 i z hi
theorem cells_each {w : World} {base : Nat} {a : Addr} {n : Nat} {cs : List Value} (h : w.cells? base a n = some cs) : cs.length = n ∧ ∀ (i : Nat) (u : Value), cs[i]? = some u → w.cell? (a.add i) = some u := by
  unfold World.cells? at h
  split at h
  · obtain ⟨h1, h2⟩ := mapM_each h
    rw [List.length_range] at h1
    refine ⟨h1, fun i u hu => ?_⟩
    have hi : i < n := by rw [← h1]; exact (List.getElem?_eq_some_iff.1 hu).1
    rw [h2 i i (by simp [hi]), hu]
  · cases h
theorem choose_list {α : Type} {Q : Nat → α → Prop} : ∀ (n : Nat), (∀ i, i < n → ∃ a, Q i a) → ∃ xs : List α, xs.length = n ∧ ∀ (i : Nat) (x : α), xs[i]? = some x → Q i x
  | 0, _ => ⟨[], rfl, fun i x hi => by simp at hi⟩
  | n + 1, h => by
    obtain ⟨xs, hl, hx⟩ := choose_list n (fun i hi => h i (by omega))
    obtain ⟨a, ha⟩ := h n (by omega)
    refine ⟨xs ++ [a], by simp [hl], fun i x hi => ?_⟩
    rcases Nat.lt_or_ge i xs.length with hlt | hge
    · rw [List.getElem?_append_left hlt] at hi
      exact hx i x hi
    · rw [List.getElem?_append_right hge] at hi
      have hin : i = n := by
        have := (List.getElem?_eq_some_iff.1 hi).1
        simp at this
        omega
      subst hin
      rw [hl] at hi
      simp at hi
      subst hi
      exact ha
theorem opens_slice {α : Type} {P : Program} {t e : TypeId} {k : Kd α} {G : α → Prop} (ht : P.underlying t = some (.slice e)) (hc : P.cellsOf t = 1) (he : Opens P e k G) : Opens P t (Kd.slice e k) (fun xs => xs.length ≤ maxLen ∧ ∀ x ∈ xs, G x) :=
  ⟨hc, fun {H enc w base sp held fuel cs x} hd => by
    rcases Go.Deep.open_slice ht hd with ⟨rfl, _⟩ | ⟨a, len, cap, m, n, D, Pl, rfl, hb, hl, hm, hmm, _, hi⟩
    · exact ⟨[], ⟨none, 0, rfl, Nat.le_refl _, Kd.C_nil k w⟩, by simp [maxLen], fun x hx => by simp at hx⟩
    · have hle : len ≤ m := by rw [hmm]; split <;> omega
      obtain ⟨xs, hxl, hx⟩ := choose_list (Q := fun i (a' : α) => (∃ cs', w.cells? base (a.add (i * P.cellsOf e)) (P.cellsOf e) = some cs' ∧ k.K w a' cs') ∧ G a') len (fun i hlt => by
        obtain ⟨cs', h1, h2⟩ := hi i (by omega)
        obtain ⟨y, hy, hg⟩ := he.op h2
        exact ⟨y, ⟨cs', h1, hy⟩, hg⟩)
      refine ⟨xs, ⟨some a, cap, by rw [hxl], by omega, ⟨rfl, ?_, fun _ => ⟨a, rfl, fun j p hj => ?_⟩⟩⟩, by omega, fun y hy => ?_⟩
      · unfold maxLen at hm; omega
      · obtain ⟨⟨cs', h1, h2⟩, _⟩ := hx j p hj
        obtain ⟨h3, h4⟩ := cells_each h1
        refine ⟨cs', by rw [h3, he.sz], h2, fun i u hu => ?_⟩
        have := h4 i u hu
        rw [Go.Deep.add_add, he.sz] at this
        exact this
      · obtain ⟨j, hj⟩ := List.getElem?_of_mem hy
        exact (hx j y hj).2⟩
theorem Opens.arg {α : Type} {P : Program} {t : TypeId} {k : Kd α} {G : α → Prop} (h : Opens P t k G) {H : Type} {enc : TypeId × Value → H} {w : World} {base : Nat} {sp : Nat → Bool} {held : Bool} {v : Value} {d : DataW H} {p : List MemPlace}
    (hd : DataW.Trod enc P w base sp held t v d p) : ∃ a, k.K w a v.cells.toList ∧ G a := by
  obtain ⟨fuel, hf⟩ := hd
  exact h.op hf
theorem agg_of {P : Program} {w : World} {r : Reach} {base : Nat} {t : TypeId} {fs : Array Field} {v : Value} {cs : List Value} (ht : P.underlying t = some (.struct fs)) (h : Value.okWide P w r base t v) (hv : v.cells.toList = cs) : v = .agg cs.toArray := by
  obtain ⟨l, rfl, _⟩ := okWide_struct ht h
  subst hv
  simp [Value.cells]
end Go.Proofs.Ytmgmaflfednngaa.Open
