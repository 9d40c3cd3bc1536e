-- A copy, by trim.py of this session's wip/gen, of a text of this claim, without what the row does not reach and without comments: not an official print.
import Derived.Test.YtmgmaflfednngaaRows
import Derived.Test.YtmgmaflfednngaaZExactRibSweepOpen
import Derived.Test.YtmgmaflfednngaaZExactRibSweepPFnExactRibSweepx13
import Derived.Test.YtmgmaflfednngaaZExactRibSweepPureFnExactRibSweep
import Derived.WalkKit
import Derived.ProofKit
import Derived.OpenShut
import Derived.ShutString
import Derived.ChangeOld
import Derived.Below
import Derived.SizedLaws
import Derived.Carry
namespace Go.Proofs.Ytmgmaflfednngaa.fnExactRibSweepRow
open Go.ChangeShapes Go.WideShapes Go.ChangeAt Go.RowKit Go.Proofs.YtmgmaflfednngaaW.PrintWords Go.Proofs.Ytmgmaflfednngaa.Open Go.Proofs.Ytmgmaflfednngaa.PFnExactRibSweep
open Go.ChangeMaps (open_string shut_string)
set_option linter.unusedVariables false
theorem own : ownKnob Try.prog.godebug = none := by kernel_rfl
theorem laidOut : laidOutB Try.prog = true := by kernel_rfl
def good40 (x : S40) : Prop := ((Lit.int .i64 x.f0).wf = true) ∧ ((Lit.int .i64 x.f1).wf = true) ∧ ((Lit.int .i64 x.f2).wf = true) ∧ ((Lit.int .i64 x.f3).wf = true) ∧ ((Lit.int .i64 x.f4).wf = true) ∧ ((Lit.int .i64 x.f5).wf = true) ∧ True
theorem o40 : Opens Try.prog 40 k40 good40 := opens_iso (opens_struct Try.underlying40 (by kernel_rfl) (fields_cons (opens_int Try.underlying2 (by kernel_rfl)) rfl (fields_cons (opens_int Try.underlying2 (by kernel_rfl)) rfl (fields_cons (opens_int Try.underlying2 (by kernel_rfl)) rfl (fields_cons (opens_int Try.underlying2 (by kernel_rfl)) rfl (fields_cons (opens_int Try.underlying2 (by kernel_rfl)) rfl (fields_cons (opens_int Try.underlying2 (by kernel_rfl)) rfl (fields_one (opens_bool Try.underlying4 (by kernel_rfl)) rfl)))))))) (fun x : S40 => (x.f0, x.f1, x.f2, x.f3, x.f4, x.f5, x.f6)) (fun p => ⟨p.1, p.2.1, p.2.2.1, p.2.2.2.1, p.2.2.2.2.1, p.2.2.2.2.2.1, p.2.2.2.2.2.2⟩) (fun _ => rfl)
def good76 (x : S76) : Prop := ((Lit.int .i64 x.f0).wf = true) ∧ True ∧ (good40 x.f2)
theorem o76 : Opens Try.prog 76 k76 good76 := opens_iso (opens_struct Try.underlying76 (by kernel_rfl) (fields_cons (opens_int Try.underlying2 (by kernel_rfl)) rfl (fields_cons (opens_bool Try.underlying4 (by kernel_rfl)) rfl (fields_one o40 rfl)))) (fun x : S76 => (x.f0, x.f1, x.f2)) (fun p => ⟨p.1, p.2.1, p.2.2⟩) (fun _ => rfl)
set_option maxRecDepth 100000 in
theorem lifted (os : Os) (started : os.Started) (H : Type) (enc : TypeId × Value → H) :
    ReturnsInHanded {} Try.checked os 5 .any (Rows.fnExactRibSweepSpec.pre6 enc Try.prog Try.f5 Rows.fnExactRibSweepRow.domain false) (Rows.fnExactRibSweepSpec.post enc Try.prog Try.f5 false true false false) := by
  refine returnsInHanded_of_change_sized (C := Try.checked) own started (by kernel_rfl) Try.func5
    (ChangeSpec.witness6 (enc := enc) (C := Try.checked) false ⟨#[], #[.slice none 0 0, .int .i64 0], []⟩ 8 (by kernel_rfl) (by kernel_rfl) (by kernel_rfl) (by kernel_rfl)) ?_
  intro W base args ds gs before hval0 hW hcnd hsz0 _
  have hval : ∀ (j : Nat) t v, Try.f5.params[j]? = some t → args[j]? = some v → Value.okWide Try.prog W .any base t v := hval0
  have hW' := hW
  obtain ⟨p, q, hA0, hV, rfl, hfz, hnd⟩ := hW
  have hA : DataW.TrodAll enc Try.prog W 0 (fun _ => true) true Try.f5.params.toList args.toList ds p := hA0
  rw [Try.params5] at hA hval
  obtain ⟨v0, vs0, d0, ds0, p0, q0, hargs, rfl, rfl, h0, r0⟩ := trodAll_cons hA
  obtain ⟨v1, vs1, d1, ds1, p1, q1, rfl, rfl, rfl, h1, r1⟩ := trodAll_cons r0
  obtain ⟨rfl, rfl, rfl⟩ := trodAll_nil r1
  obtain rfl : args = #[v0, v1] := by cases args; simp_all
  obtain ⟨rfl, rfl⟩ := trodVars_none hV
  have lt0 : ∀ x ∈ p0, x.block < W.heap.size := by obtain ⟨m, hm⟩ := h0; exact DataW.trod_lt m _ _ _ hm
  obtain ⟨x0, ⟨A0, n0, hcs0, hl0, hr0⟩, g0⟩ := (opens_slice Try.underlying22 (by kernel_rfl) o76).arg h0
  obtain rfl := slice_of Try.underlying22 (hval 0 22 v0 rfl rfl) hcs0
  have lt1 : ∀ x ∈ p1, x.block < W.heap.size := by obtain ⟨m, hm⟩ := h1; exact DataW.trod_lt m _ _ _ hm
  obtain ⟨x1, hcs1, g1⟩ := (opens_int Try.underlying2 (by kernel_rfl)).arg h1
  obtain rfl := int_of Try.underlying2 (hval 1 2 v1 rfl rfl) hcs1
  clear hA0 hval0 hsz0
  obtain ⟨k, hp⟩ := Pure.FnExactRibSweep x0 x1 g0 g1
  refine (laws_FnExactRibSweep.calls_true k A0 n0 x0 x1 W hr0 hl0 hp).mono fun e W' ⟨he, bel0⟩ => ?_
  have bel := bel0
  subst he
  exact ⟨_, rfl, _, _, _, [], _, [], hW', trodAll_mk1 (shut_bool Try.underlying4 _), (trodAll_cons_mk (Below.trod laidOut (by kernel_rfl) (of_decide_eq_true (by kernel_rfl)) h0 bel lt0) (trodAll_cons_mk (Below.trod laidOut (by kernel_rfl) (of_decide_eq_true (by kernel_rfl)) h1 bel lt1) trodAll_mk0)), rfl, bel.frame _, fun h => by cases h⟩
theorem over : Rows.fnExactRibSweepRow.holds Try.pinned (OpenSpec.ofChange Rows.fnExactRibSweepSpec) :=
  OpenClaim.holds_of_wide 5 Try.f5 rfl rfl rfl rfl rfl rfl rfl ⟨rfl, rfl, rfl, rfl, rfl⟩ rfl rfl rfl rfl rfl (by kernel_rfl) Try.func5 (by kernel_rfl)
    (of_decide_eq_true (by kernel_rfl)) (by unfold Func.isWrapper; first | (rw [if_pos (by decide +kernel)]; kernel_rfl) | (rw [if_neg (by decide +kernel)]; exact ⟨rfl, rfl⟩))
    (fun os started H enc _ => lifted os started H enc)
theorem proved : Rows.FnExactRibSweepSaid := over
end Go.Proofs.Ytmgmaflfednngaa.fnExactRibSweepRow
namespace Go.Proofs.Ytmgmaflfednngaa
theorem fnExactRibSweep_holds : Rows.FnExactRibSweepSaid := fnExactRibSweepRow.proved
end Go.Proofs.Ytmgmaflfednngaa
