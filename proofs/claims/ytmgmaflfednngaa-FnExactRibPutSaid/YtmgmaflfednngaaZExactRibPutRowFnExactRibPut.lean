-- A copy, made by trim.py (its own words shortened): not an official print.
import Derived.Test.YtmgmaflfednngaaRows
import Derived.Test.YtmgmaflfednngaaZExactRibPutOpen
import Derived.Test.YtmgmaflfednngaaZExactRibPutPFnExactRibPutx15
import Derived.Test.YtmgmaflfednngaaZExactRibPutPureFnExactRibPut
import Derived.WalkKit
import Derived.ProofKit
import Derived.OpenShut
import Derived.ShutString
import Derived.ChangeOld
import Derived.Below
import Derived.SizedLaws
import Derived.Carry
namespace Go.Proofs.Ytmgmaflfednngaa.fnExactRibPutRow
open Go.ChangeShapes Go.WideShapes Go.ChangeAt Go.RowKit Go.Proofs.YtmgmaflfednngaaW.PrintWords Go.Proofs.Ytmgmaflfednngaa.Open Go.Proofs.Ytmgmaflfednngaa.PFnExactRibPut
open Go.ChangeMaps (open_string shut_string)
set_option linter.unusedVariables false
theorem own : ownKnob Try.prog.godebug = none := by kernel_rfl
theorem laidOut : laidOutB Try.prog = true := by kernel_rfl
def good40 (x : S40) : Prop := ((Lit.int .i64 x.f0).wf = true) ∧ ((Lit.int .i64 x.f1).wf = true) ∧ ((Lit.int .i64 x.f2).wf = true) ∧ ((Lit.int .i64 x.f3).wf = true) ∧ ((Lit.int .i64 x.f4).wf = true) ∧ ((Lit.int .i64 x.f5).wf = true) ∧ True
theorem o40 : Opens Try.prog 40 k40 good40 := opens_iso (opens_struct Try.underlying40 (by kernel_rfl) (fields_cons (opens_int Try.underlying2 (by kernel_rfl)) rfl (fields_cons (opens_int Try.underlying2 (by kernel_rfl)) rfl (fields_cons (opens_int Try.underlying2 (by kernel_rfl)) rfl (fields_cons (opens_int Try.underlying2 (by kernel_rfl)) rfl (fields_cons (opens_int Try.underlying2 (by kernel_rfl)) rfl (fields_cons (opens_int Try.underlying2 (by kernel_rfl)) rfl (fields_one (opens_bool Try.underlying4 (by kernel_rfl)) rfl)))))))) (fun x : S40 => (x.f0, x.f1, x.f2, x.f3, x.f4, x.f5, x.f6)) (fun p => ⟨p.1, p.2.1, p.2.2.1, p.2.2.2.1, p.2.2.2.2.1, p.2.2.2.2.2.1, p.2.2.2.2.2.2⟩) (fun _ => rfl)
def good76 (x : S76) : Prop := ((Lit.int .i64 x.f0).wf = true) ∧ True ∧ (good40 x.f2)
theorem o76 : Opens Try.prog 76 k76 good76 := opens_iso (opens_struct Try.underlying76 (by kernel_rfl) (fields_cons (opens_int Try.underlying2 (by kernel_rfl)) rfl (fields_cons (opens_bool Try.underlying4 (by kernel_rfl)) rfl (fields_one o40 rfl)))) (fun x : S76 => (x.f0, x.f1, x.f2)) (fun p => ⟨p.1, p.2.1, p.2.2⟩) (fun _ => rfl)
set_option maxRecDepth 100000 in
theorem lifted (os : Os) (started : os.Started) (H : Type) (enc : TypeId × Value → H) :
    ReturnsInHanded {} Try.checked os 7 .any (Rows.fnExactRibPutSpec.pre6 enc Try.prog Try.f7 Rows.fnExactRibPutRow.domain false) (Rows.fnExactRibPutSpec.post enc Try.prog Try.f7 false true false false) := by
  refine returnsInHanded_of_change_sized (C := Try.checked) own started (by kernel_rfl) Try.func7
    (ChangeSpec.witness6 (enc := enc) (C := Try.checked) false ⟨#[], #[.slice none 0 0, .int .i64 0, .agg #[.int .i64 0, .int .i64 0, .int .i64 0, .int .i64 0, .int .i64 0, .int .i64 0, .bool false]], []⟩ 8 (by kernel_rfl) (by kernel_rfl) (by kernel_rfl) (by kernel_rfl)) ?_
  intro W base args ds gs before hval0 hW hcnd hsz0 _
  have hval : ∀ (j : Nat) t v, Try.f7.params[j]? = some t → args[j]? = some v → Value.okWide Try.prog W .any base t v := hval0
  have hW' := hW
  obtain ⟨p, q, hA0, hV, rfl, hfz, hnd⟩ := hW
  have hA : DataW.TrodAll enc Try.prog W 0 (fun _ => true) true Try.f7.params.toList args.toList ds p := hA0
  rw [Try.params7] at hA hval
  obtain ⟨v0, vs0, d0, ds0, p0, q0, hargs, rfl, rfl, h0, r0⟩ := trodAll_cons hA
  obtain ⟨v1, vs1, d1, ds1, p1, q1, rfl, rfl, rfl, h1, r1⟩ := trodAll_cons r0
  obtain ⟨v2, vs2, d2, ds2, p2, q2, rfl, rfl, rfl, h2, r2⟩ := trodAll_cons r1
  obtain ⟨rfl, rfl, rfl⟩ := trodAll_nil r2
  obtain rfl : args = #[v0, v1, v2] := by cases args; simp_all
  obtain ⟨rfl, rfl⟩ := trodVars_none hV
  have lt0 : ∀ x ∈ p0, x.block < W.heap.size := by obtain ⟨m, hm⟩ := h0; exact DataW.trod_lt m _ _ _ hm
  obtain ⟨x0, ⟨A0, n0, hcs0, hl0, hr0⟩, g0⟩ := (opens_slice Try.underlying22 (by kernel_rfl) o76).arg h0
  obtain rfl := slice_of Try.underlying22 (hval 0 22 v0 rfl rfl) hcs0
  have lt1 : ∀ x ∈ p1, x.block < W.heap.size := by obtain ⟨m, hm⟩ := h1; exact DataW.trod_lt m _ _ _ hm
  obtain ⟨x1, hcs1, g1⟩ := (opens_int Try.underlying2 (by kernel_rfl)).arg h1
  obtain rfl := int_of Try.underlying2 (hval 1 2 v1 rfl rfl) hcs1
  have lt2 : ∀ x ∈ p2, x.block < W.heap.size := by obtain ⟨m, hm⟩ := h2; exact DataW.trod_lt m _ _ _ hm
  obtain ⟨x2, hk2, g2⟩ := (opens_struct Try.underlying40 (by kernel_rfl) (fields_cons (opens_int Try.underlying2 (by kernel_rfl)) rfl (fields_cons (opens_int Try.underlying2 (by kernel_rfl)) rfl (fields_cons (opens_int Try.underlying2 (by kernel_rfl)) rfl (fields_cons (opens_int Try.underlying2 (by kernel_rfl)) rfl (fields_cons (opens_int Try.underlying2 (by kernel_rfl)) rfl (fields_cons (opens_int Try.underlying2 (by kernel_rfl)) rfl (fields_one (opens_bool Try.underlying4 (by kernel_rfl)) rfl)))))))).arg h2
  obtain ⟨x2_0, x2_1, x2_2, x2_3, x2_4, x2_5, x2_6⟩ := x2
  obtain ⟨c2_0, e2_0, hcs2, hc2_0, ⟨c2_1, e2_1, rfl, hc2_1, ⟨c2_2, e2_2, rfl, hc2_2, ⟨c2_3, e2_3, rfl, hc2_3, ⟨c2_4, e2_4, rfl, hc2_4, ⟨c2_5, e2_5, rfl, hc2_5, hc2_6⟩⟩⟩⟩⟩⟩ := hk2
  obtain ⟨g2_0, g2_1, g2_2, g2_3, g2_4, g2_5, g2_6⟩ := g2
  obtain rfl : _ = [Value.int .i64 x2_0] := hc2_0
  obtain rfl : _ = [Value.int .i64 x2_1] := hc2_1
  obtain rfl : _ = [Value.int .i64 x2_2] := hc2_2
  obtain rfl : _ = [Value.int .i64 x2_3] := hc2_3
  obtain rfl : _ = [Value.int .i64 x2_4] := hc2_4
  obtain rfl : _ = [Value.int .i64 x2_5] := hc2_5
  obtain rfl : _ = [Value.bool x2_6] := hc2_6
  obtain rfl := agg_of Try.underlying40 (hval 2 40 v2 rfl rfl) hcs2
  clear hA0 hval0 hsz0
  obtain ⟨k, hp⟩ := Pure.FnExactRibPut x0 x1 x2_0 x2_1 x2_2 x2_3 x2_4 x2_5 x2_6 g0 g1 g2_0 g2_1 g2_2 g2_3 g2_4 g2_5
  refine (laws_FnExactRibPut.calls_true k A0 n0 x0 x1 x2_0 x2_1 x2_2 x2_3 x2_4 x2_5 x2_6 W hr0 hl0 hp).mono fun e W' ⟨he, bel0⟩ => ?_
  have bel := bel0
  subst he
  exact ⟨_, rfl, _, _, _, [], _, [], hW', trodAll_mk1 (shut_bool Try.underlying4 _), (trodAll_cons_mk (Below.trod laidOut (by kernel_rfl) (of_decide_eq_true (by kernel_rfl)) h0 bel lt0) (trodAll_cons_mk (Below.trod laidOut (by kernel_rfl) (of_decide_eq_true (by kernel_rfl)) h1 bel lt1) (trodAll_cons_mk (Below.trod laidOut (by kernel_rfl) (of_decide_eq_true (by kernel_rfl)) h2 bel lt2) trodAll_mk0))), rfl, bel.frame _, fun h => by cases h⟩
theorem over : Rows.fnExactRibPutRow.holds Try.pinned (OpenSpec.ofChange Rows.fnExactRibPutSpec) :=
  OpenClaim.holds_of_wide 7 Try.f7 rfl rfl rfl rfl rfl rfl rfl ⟨rfl, rfl, rfl, rfl, rfl⟩ rfl rfl rfl rfl rfl (by kernel_rfl) Try.func7 (by kernel_rfl)
    (of_decide_eq_true (by kernel_rfl)) (by unfold Func.isWrapper; first | (rw [if_pos (by decide +kernel)]; kernel_rfl) | (rw [if_neg (by decide +kernel)]; exact ⟨rfl, rfl⟩))
    (fun os started H enc _ => lifted os started H enc)
theorem proved : Rows.FnExactRibPutSaid := over
end Go.Proofs.Ytmgmaflfednngaa.fnExactRibPutRow
namespace Go.Proofs.Ytmgmaflfednngaa
theorem fnExactRibPut_holds : Rows.FnExactRibPutSaid := fnExactRibPutRow.proved
end Go.Proofs.Ytmgmaflfednngaa
