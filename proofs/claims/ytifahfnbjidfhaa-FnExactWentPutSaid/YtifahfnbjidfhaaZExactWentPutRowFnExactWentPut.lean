-- A copy, by trim.py of this session's wip/gen, of a text of this claim, without what the row does not reach and without comments: not an official print.
import Derived.Test.YtifahfnbjidfhaaRows
import Derived.Test.YtifahfnbjidfhaaZExactWentPutOpen
import Derived.Test.YtifahfnbjidfhaaZExactWentPutPFnExactWentPutx10
import Derived.Test.YtifahfnbjidfhaaZExactWentPutPureFnExactWentPut
import Derived.WalkKit
import Derived.ProofKit
import Derived.OpenShut
import Derived.ShutString
import Derived.ChangeOld
import Derived.Below
import Derived.SizedLaws
import Derived.Carry
namespace Go.Proofs.Ytifahfnbjidfhaa.fnExactWentPutRow
open Go.ChangeShapes Go.WideShapes Go.ChangeAt Go.RowKit Go.Proofs.YtifahfnbjidfhaaW.PrintWords Go.Proofs.Ytifahfnbjidfhaa.Open Go.Proofs.Ytifahfnbjidfhaa.PFnExactWentPut
open Go.ChangeMaps (open_string shut_string)
set_option linter.unusedVariables false
theorem own : ownKnob Try.prog.godebug = none := by kernel_rfl
theorem laidOut : laidOutB Try.prog = true := by kernel_rfl
def good30 (x : S30) : Prop := ((Lit.int .i64 x.f0).wf = true) ∧ ((Lit.int .i64 x.f1).wf = true) ∧ ((Lit.int .i64 x.f2).wf = true)
theorem o30 : Opens Try.prog 30 k30 good30 := opens_iso (opens_struct Try.underlying30 (by kernel_rfl) (fields_cons (opens_int Try.underlying2 (by kernel_rfl)) rfl (fields_cons (opens_int Try.underlying2 (by kernel_rfl)) rfl (fields_one (opens_int Try.underlying2 (by kernel_rfl)) rfl)))) (fun x : S30 => (x.f0, x.f1, x.f2)) (fun p => ⟨p.1, p.2.1, p.2.2⟩) (fun _ => rfl)
set_option maxRecDepth 100000 in
theorem lifted (os : Os) (started : os.Started) (H : Type) (enc : TypeId × Value → H) :
    ReturnsInHanded {} Try.checked os 4 .any (Rows.fnExactWentPutSpec.pre6 enc Try.prog Try.f4 Rows.fnExactWentPutRow.domain false) (Rows.fnExactWentPutSpec.post enc Try.prog Try.f4 false true false false) := by
  refine returnsInHanded_of_change_sized (C := Try.checked) own started (by kernel_rfl) Try.func4
    (ChangeSpec.witness6 (enc := enc) (C := Try.checked) false ⟨#[], #[.slice none 0 0, .agg #[.int .i64 0, .int .i64 0, .int .i64 0]], []⟩ 8 (by kernel_rfl) (by kernel_rfl) (by kernel_rfl) (by kernel_rfl)) ?_
  intro W base args ds gs before hval0 hW hcnd hsz0 _
  have hval : ∀ (j : Nat) t v, Try.f4.params[j]? = some t → args[j]? = some v → Value.okWide Try.prog W .any base t v := hval0
  have hW' := hW
  obtain ⟨p, q, hA0, hV, rfl, hfz, hnd⟩ := hW
  have hA : DataW.TrodAll enc Try.prog W 0 (fun _ => true) true Try.f4.params.toList args.toList ds p := hA0
  rw [Try.params4] at hA hval
  obtain ⟨v0, vs0, d0, ds0, p0, q0, hargs, rfl, rfl, h0, r0⟩ := trodAll_cons hA
  obtain ⟨v1, vs1, d1, ds1, p1, q1, rfl, rfl, rfl, h1, r1⟩ := trodAll_cons r0
  obtain ⟨rfl, rfl, rfl⟩ := trodAll_nil r1
  obtain rfl : args = #[v0, v1] := by cases args; simp_all
  obtain ⟨rfl, rfl⟩ := trodVars_none hV
  have lt0 : ∀ x ∈ p0, x.block < W.heap.size := by obtain ⟨m, hm⟩ := h0; exact DataW.trod_lt m _ _ _ hm
  obtain ⟨x0, ⟨A0, n0, hcs0, hl0, hr0⟩, g0⟩ := (opens_slice Try.underlying22 (by kernel_rfl) o30).arg h0
  obtain rfl := slice_of Try.underlying22 (hval 0 22 v0 rfl rfl) hcs0
  have lt1 : ∀ x ∈ p1, x.block < W.heap.size := by obtain ⟨m, hm⟩ := h1; exact DataW.trod_lt m _ _ _ hm
  obtain ⟨x1, hk1, g1⟩ := (opens_struct Try.underlying30 (by kernel_rfl) (fields_cons (opens_int Try.underlying2 (by kernel_rfl)) rfl (fields_cons (opens_int Try.underlying2 (by kernel_rfl)) rfl (fields_one (opens_int Try.underlying2 (by kernel_rfl)) rfl)))).arg h1
  obtain ⟨x1_0, x1_1, x1_2⟩ := x1
  obtain ⟨c1_0, e1_0, hcs1, hc1_0, ⟨c1_1, e1_1, rfl, hc1_1, hc1_2⟩⟩ := hk1
  obtain ⟨g1_0, g1_1, g1_2⟩ := g1
  obtain rfl : _ = [Value.int .i64 x1_0] := hc1_0
  obtain rfl : _ = [Value.int .i64 x1_1] := hc1_1
  obtain rfl : _ = [Value.int .i64 x1_2] := hc1_2
  obtain rfl := agg_of Try.underlying30 (hval 1 30 v1 rfl rfl) hcs1
  clear hA0 hval0 hsz0
  obtain ⟨k, hp⟩ := Pure.FnExactWentPut x0 x1_0 x1_1 x1_2 g0 g1_0 g1_1 g1_2
  refine (laws_FnExactWentPut.calls_true k A0 n0 x0 x1_0 x1_1 x1_2 W hr0 hl0 hp).mono fun e W' ⟨he, bel0⟩ => ?_
  have bel := bel0
  subst he
  exact ⟨_, rfl, _, _, _, [], _, [], hW', trodAll_mk1 (shut_bool Try.underlying4 _), (trodAll_cons_mk (Below.trod laidOut (by kernel_rfl) (of_decide_eq_true (by kernel_rfl)) h0 bel lt0) (trodAll_cons_mk (Below.trod laidOut (by kernel_rfl) (of_decide_eq_true (by kernel_rfl)) h1 bel lt1) trodAll_mk0)), rfl, bel.frame _, fun h => by cases h⟩
theorem over : Rows.fnExactWentPutRow.holds Try.pinned (OpenSpec.ofChange Rows.fnExactWentPutSpec) :=
  OpenClaim.holds_of_wide 4 Try.f4 rfl rfl rfl rfl rfl rfl rfl ⟨rfl, rfl, rfl, rfl, rfl⟩ rfl rfl rfl rfl rfl (by kernel_rfl) Try.func4 (by kernel_rfl)
    (of_decide_eq_true (by kernel_rfl)) (by unfold Func.isWrapper; first | (rw [if_pos (by decide +kernel)]; kernel_rfl) | (rw [if_neg (by decide +kernel)]; exact ⟨rfl, rfl⟩))
    (fun os started H enc _ => lifted os started H enc)
theorem proved : Rows.FnExactWentPutSaid := over
end Go.Proofs.Ytifahfnbjidfhaa.fnExactWentPutRow
namespace Go.Proofs.Ytifahfnbjidfhaa
theorem fnExactWentPut_holds : Rows.FnExactWentPutSaid := fnExactWentPutRow.proved
end Go.Proofs.Ytifahfnbjidfhaa
