-- A copy, by trim.py of this session's wip/gen, of a text of this claim, without what the row does not reach and without comments: not an official print.
import Derived.Test.YtifahfnbjidfhaaRows
import Derived.Test.YtifahfnbjidfhaaZExactGuestPutOpen
import Derived.Test.YtifahfnbjidfhaaZExactGuestPutPFnExactGuestPutx11
import Derived.Test.YtifahfnbjidfhaaZExactGuestPutPureFnExactGuestPut
import Derived.WalkKit
import Derived.ProofKit
import Derived.OpenShut
import Derived.ShutString
import Derived.ChangeOld
import Derived.Below
import Derived.SizedLaws
import Derived.Carry
namespace Go.Proofs.Ytifahfnbjidfhaa.fnExactGuestPutRow
open Go.ChangeShapes Go.WideShapes Go.ChangeAt Go.RowKit Go.Proofs.YtifahfnbjidfhaaW.PrintWords Go.Proofs.Ytifahfnbjidfhaa.Open Go.Proofs.Ytifahfnbjidfhaa.PFnExactGuestPut
open Go.ChangeMaps (open_string shut_string)
set_option linter.unusedVariables false
theorem own : ownKnob Try.prog.godebug = none := by kernel_rfl
theorem laidOut : laidOutB Try.prog = true := by kernel_rfl
def good64 (x : S64) : Prop := ((Lit.int .i64 x.f0).wf = true) ∧ ((Lit.int .i64 x.f1).wf = true) ∧ ((Lit.int .i64 x.f2).wf = true) ∧ ((Lit.int .i64 x.f3).wf = true) ∧ ((Lit.int .i64 x.f4).wf = true) ∧ ((Lit.int .i64 x.f5).wf = true) ∧ True
theorem o64 : Opens Try.prog 64 k64 good64 := opens_iso (opens_struct Try.underlying64 (by kernel_rfl) (fields_cons (opens_int Try.underlying2 (by kernel_rfl)) rfl (fields_cons (opens_int Try.underlying2 (by kernel_rfl)) rfl (fields_cons (opens_int Try.underlying2 (by kernel_rfl)) rfl (fields_cons (opens_int Try.underlying2 (by kernel_rfl)) rfl (fields_cons (opens_int Try.underlying2 (by kernel_rfl)) rfl (fields_cons (opens_int Try.underlying2 (by kernel_rfl)) rfl (fields_one (opens_bool Try.underlying4 (by kernel_rfl)) rfl)))))))) (fun x : S64 => (x.f0, x.f1, x.f2, x.f3, x.f4, x.f5, x.f6)) (fun p => ⟨p.1, p.2.1, p.2.2.1, p.2.2.2.1, p.2.2.2.2.1, p.2.2.2.2.2.1, p.2.2.2.2.2.2⟩) (fun _ => rfl)
set_option maxRecDepth 100000 in
theorem lifted (os : Os) (started : os.Started) (H : Type) (enc : TypeId × Value → H) :
    ReturnsInHanded {} Try.checked os 11 .any (Rows.fnExactGuestPutSpec.pre6 enc Try.prog Try.f11 Rows.fnExactGuestPutRow.domain false) (Rows.fnExactGuestPutSpec.post enc Try.prog Try.f11 false true false false) := by
  refine returnsInHanded_of_change_sized (C := Try.checked) own started (by kernel_rfl) Try.func11
    (ChangeSpec.witness6 (enc := enc) (C := Try.checked) false ⟨#[], #[.slice none 0 0, .agg #[.int .i64 0, .int .i64 0, .int .i64 0, .int .i64 0, .int .i64 0, .int .i64 0, .bool false]], []⟩ 8 (by kernel_rfl) (by kernel_rfl) (by kernel_rfl) (by kernel_rfl)) ?_
  intro W base args ds gs before hval0 hW hcnd hsz0 _
  have hval : ∀ (j : Nat) t v, Try.f11.params[j]? = some t → args[j]? = some v → Value.okWide Try.prog W .any base t v := hval0
  have hW' := hW
  obtain ⟨p, q, hA0, hV, rfl, hfz, hnd⟩ := hW
  have hA : DataW.TrodAll enc Try.prog W 0 (fun _ => true) true Try.f11.params.toList args.toList ds p := hA0
  rw [Try.params11] at hA hval
  obtain ⟨v0, vs0, d0, ds0, p0, q0, hargs, rfl, rfl, h0, r0⟩ := trodAll_cons hA
  obtain ⟨v1, vs1, d1, ds1, p1, q1, rfl, rfl, rfl, h1, r1⟩ := trodAll_cons r0
  obtain ⟨rfl, rfl, rfl⟩ := trodAll_nil r1
  obtain rfl : args = #[v0, v1] := by cases args; simp_all
  obtain ⟨rfl, rfl⟩ := trodVars_none hV
  have lt0 : ∀ x ∈ p0, x.block < W.heap.size := by obtain ⟨m, hm⟩ := h0; exact DataW.trod_lt m _ _ _ hm
  obtain ⟨x0, ⟨A0, n0, hcs0, hl0, hr0⟩, g0⟩ := (opens_slice Try.underlying44 (by kernel_rfl) o64).arg h0
  obtain rfl := slice_of Try.underlying44 (hval 0 44 v0 rfl rfl) hcs0
  have lt1 : ∀ x ∈ p1, x.block < W.heap.size := by obtain ⟨m, hm⟩ := h1; exact DataW.trod_lt m _ _ _ hm
  obtain ⟨x1, hk1, g1⟩ := (opens_struct Try.underlying64 (by kernel_rfl) (fields_cons (opens_int Try.underlying2 (by kernel_rfl)) rfl (fields_cons (opens_int Try.underlying2 (by kernel_rfl)) rfl (fields_cons (opens_int Try.underlying2 (by kernel_rfl)) rfl (fields_cons (opens_int Try.underlying2 (by kernel_rfl)) rfl (fields_cons (opens_int Try.underlying2 (by kernel_rfl)) rfl (fields_cons (opens_int Try.underlying2 (by kernel_rfl)) rfl (fields_one (opens_bool Try.underlying4 (by kernel_rfl)) rfl)))))))).arg h1
  obtain ⟨x1_0, x1_1, x1_2, x1_3, x1_4, x1_5, x1_6⟩ := x1
  obtain ⟨c1_0, e1_0, hcs1, hc1_0, ⟨c1_1, e1_1, rfl, hc1_1, ⟨c1_2, e1_2, rfl, hc1_2, ⟨c1_3, e1_3, rfl, hc1_3, ⟨c1_4, e1_4, rfl, hc1_4, ⟨c1_5, e1_5, rfl, hc1_5, hc1_6⟩⟩⟩⟩⟩⟩ := hk1
  obtain ⟨g1_0, g1_1, g1_2, g1_3, g1_4, g1_5, g1_6⟩ := g1
  obtain rfl : _ = [Value.int .i64 x1_0] := hc1_0
  obtain rfl : _ = [Value.int .i64 x1_1] := hc1_1
  obtain rfl : _ = [Value.int .i64 x1_2] := hc1_2
  obtain rfl : _ = [Value.int .i64 x1_3] := hc1_3
  obtain rfl : _ = [Value.int .i64 x1_4] := hc1_4
  obtain rfl : _ = [Value.int .i64 x1_5] := hc1_5
  obtain rfl : _ = [Value.bool x1_6] := hc1_6
  obtain rfl := agg_of Try.underlying64 (hval 1 64 v1 rfl rfl) hcs1
  clear hA0 hval0 hsz0
  obtain ⟨k, hp⟩ := Pure.FnExactGuestPut x0 x1_0 x1_1 x1_2 x1_3 x1_4 x1_5 x1_6 g0 g1_0 g1_1 g1_2 g1_3 g1_4 g1_5
  refine (laws_FnExactGuestPut.calls_true k A0 n0 x0 x1_0 x1_1 x1_2 x1_3 x1_4 x1_5 x1_6 W hr0 hl0 hp).mono fun e W' ⟨he, bel0⟩ => ?_
  have bel := bel0
  subst he
  exact ⟨_, rfl, _, _, _, [], _, [], hW', trodAll_mk1 (shut_bool Try.underlying4 _), (trodAll_cons_mk (Below.trod laidOut (by kernel_rfl) (of_decide_eq_true (by kernel_rfl)) h0 bel lt0) (trodAll_cons_mk (Below.trod laidOut (by kernel_rfl) (of_decide_eq_true (by kernel_rfl)) h1 bel lt1) trodAll_mk0)), rfl, bel.frame _, fun h => by cases h⟩
theorem over : Rows.fnExactGuestPutRow.holds Try.pinned (OpenSpec.ofChange Rows.fnExactGuestPutSpec) :=
  OpenClaim.holds_of_wide 11 Try.f11 rfl rfl rfl rfl rfl rfl rfl ⟨rfl, rfl, rfl, rfl, rfl⟩ rfl rfl rfl rfl rfl (by kernel_rfl) Try.func11 (by kernel_rfl)
    (of_decide_eq_true (by kernel_rfl)) (by unfold Func.isWrapper; first | (rw [if_pos (by decide +kernel)]; kernel_rfl) | (rw [if_neg (by decide +kernel)]; exact ⟨rfl, rfl⟩))
    (fun os started H enc _ => lifted os started H enc)
theorem proved : Rows.FnExactGuestPutSaid := over
end Go.Proofs.Ytifahfnbjidfhaa.fnExactGuestPutRow
namespace Go.Proofs.Ytifahfnbjidfhaa
theorem fnExactGuestPut_holds : Rows.FnExactGuestPutSaid := fnExactGuestPutRow.proved
end Go.Proofs.Ytifahfnbjidfhaa
