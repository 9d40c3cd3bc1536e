-- A copy, made by trim.py (its own words shortened): not an official print.
import Derived.Test.YtmgmaflfednngaaRows
import Derived.Test.YtmgmaflfednngaaZExactTellerRightOpen
import Derived.Test.YtmgmaflfednngaaZExactTellerRightPFnExactTellerRightx15
import Derived.Test.YtmgmaflfednngaaZExactTellerRightPureFnExactTellerRight
import Derived.WalkKit
import Derived.ProofKit
import Derived.OpenShut
import Derived.ShutString
import Derived.ChangeOld
import Derived.Below
import Derived.SizedLaws
import Derived.Carry
namespace Go.Proofs.Ytmgmaflfednngaa.fnExactTellerRightRow
open Go.ChangeShapes Go.WideShapes Go.ChangeAt Go.RowKit Go.Proofs.YtmgmaflfednngaaW.PrintWords Go.Proofs.Ytmgmaflfednngaa.Open Go.Proofs.Ytmgmaflfednngaa.PFnExactTellerRight
open Go.ChangeMaps (open_string shut_string)
set_option linter.unusedVariables false
theorem own : ownKnob Try.prog.godebug = none := by kernel_rfl
theorem laidOut : laidOutB Try.prog = true := by kernel_rfl
def good123 (x : S123) : Prop := ((Lit.int .i64 x.f0).wf = true) ∧ ((Lit.int .i64 x.f1).wf = true) ∧ ((Lit.int .i64 x.f2).wf = true) ∧ ((Lit.int .i64 x.f3).wf = true) ∧ (x.f4.length ≤ maxLen ∧ ∀ y ∈ x.f4, (y.size ≤ maxLen))
theorem o123 : Opens Try.prog 123 k123 good123 := opens_iso (opens_struct Try.underlying123 (by kernel_rfl) (fields_cons (opens_int Try.underlying2 (by kernel_rfl)) rfl (fields_cons (opens_int Try.underlying2 (by kernel_rfl)) rfl (fields_cons (opens_int Try.underlying2 (by kernel_rfl)) rfl (fields_cons (opens_int Try.underlying2 (by kernel_rfl)) rfl (fields_one (opens_slice Try.underlying98 (by kernel_rfl) (opens_string Try.underlying9 (by kernel_rfl))) rfl)))))) (fun x : S123 => (x.f0, x.f1, x.f2, x.f3, x.f4)) (fun p => ⟨p.1, p.2.1, p.2.2.1, p.2.2.2.1, p.2.2.2.2⟩) (fun _ => rfl)
def good40 (x : S40) : Prop := ((Lit.int .i64 x.f0).wf = true) ∧ ((Lit.int .i64 x.f1).wf = true) ∧ ((Lit.int .i64 x.f2).wf = true) ∧ ((Lit.int .i64 x.f3).wf = true) ∧ ((Lit.int .i64 x.f4).wf = true) ∧ ((Lit.int .i64 x.f5).wf = true) ∧ True
theorem o40 : Opens Try.prog 40 k40 good40 := opens_iso (opens_struct Try.underlying40 (by kernel_rfl) (fields_cons (opens_int Try.underlying2 (by kernel_rfl)) rfl (fields_cons (opens_int Try.underlying2 (by kernel_rfl)) rfl (fields_cons (opens_int Try.underlying2 (by kernel_rfl)) rfl (fields_cons (opens_int Try.underlying2 (by kernel_rfl)) rfl (fields_cons (opens_int Try.underlying2 (by kernel_rfl)) rfl (fields_cons (opens_int Try.underlying2 (by kernel_rfl)) rfl (fields_one (opens_bool Try.underlying4 (by kernel_rfl)) rfl)))))))) (fun x : S40 => (x.f0, x.f1, x.f2, x.f3, x.f4, x.f5, x.f6)) (fun p => ⟨p.1, p.2.1, p.2.2.1, p.2.2.2.1, p.2.2.2.2.1, p.2.2.2.2.2.1, p.2.2.2.2.2.2⟩) (fun _ => rfl)
def good76 (x : S76) : Prop := ((Lit.int .i64 x.f0).wf = true) ∧ True ∧ (good40 x.f2)
theorem o76 : Opens Try.prog 76 k76 good76 := opens_iso (opens_struct Try.underlying76 (by kernel_rfl) (fields_cons (opens_int Try.underlying2 (by kernel_rfl)) rfl (fields_cons (opens_bool Try.underlying4 (by kernel_rfl)) rfl (fields_one o40 rfl)))) (fun x : S76 => (x.f0, x.f1, x.f2)) (fun p => ⟨p.1, p.2.1, p.2.2⟩) (fun _ => rfl)
set_option maxRecDepth 100000 in
theorem lifted (os : Os) (started : os.Started) (H : Type) (enc : TypeId × Value → H) :
    ReturnsInHanded {} Try.checked os 10 .any (Rows.fnExactTellerRightSpec.pre6 enc Try.prog Try.f10 Rows.fnExactTellerRightRow.domain false) (Rows.fnExactTellerRightSpec.post enc Try.prog Try.f10 false true false false) := by
  refine returnsInHanded_of_change_sized (C := Try.checked) own started (by kernel_rfl) Try.func10
    (ChangeSpec.witness6 (enc := enc) (C := Try.checked) false ⟨#[], #[.agg #[.int .i64 0, .int .i64 0, .slice none 0 0, .slice none 0 0]], []⟩ 8 (by kernel_rfl) (by kernel_rfl) (by kernel_rfl) (by kernel_rfl)) ?_
  intro W base args ds gs before hval0 hW hcnd hsz0 _
  have hval : ∀ (j : Nat) t v, Try.f10.params[j]? = some t → args[j]? = some v → Value.okWide Try.prog W .any base t v := hval0
  have hW' := hW
  obtain ⟨p, q, hA0, hV, rfl, hfz, hnd⟩ := hW
  have hA : DataW.TrodAll enc Try.prog W 0 (fun _ => true) true Try.f10.params.toList args.toList ds p := hA0
  rw [Try.params10] at hA hval
  obtain ⟨v0, vs0, d0, ds0, p0, q0, hargs, rfl, rfl, h0, r0⟩ := trodAll_cons hA
  obtain ⟨rfl, rfl, rfl⟩ := trodAll_nil r0
  obtain rfl : args = #[v0] := by cases args; simp_all
  obtain ⟨rfl, rfl⟩ := trodVars_none hV
  have lt0 : ∀ x ∈ p0, x.block < W.heap.size := by obtain ⟨m, hm⟩ := h0; exact DataW.trod_lt m _ _ _ hm
  obtain ⟨x0, hk0, g0⟩ := (opens_struct Try.underlying52 (by kernel_rfl) (fields_cons (opens_int Try.underlying2 (by kernel_rfl)) rfl (fields_cons (opens_int Try.underlying2 (by kernel_rfl)) rfl (fields_cons (opens_slice Try.underlying50 (by kernel_rfl) o123) rfl (fields_one (opens_slice Try.underlying22 (by kernel_rfl) o76) rfl))))).arg h0
  obtain ⟨x0_0, x0_1, x0_2, x0_3⟩ := x0
  obtain ⟨c0_0, e0_0, hcs0, hc0_0, ⟨c0_1, e0_1, rfl, hc0_1, ⟨c0_2, e0_2, rfl, hc0_2, hc0_3⟩⟩⟩ := hk0
  obtain ⟨g0_0, g0_1, g0_2, g0_3⟩ := g0
  obtain rfl : _ = [Value.int .i64 x0_0] := hc0_0
  obtain rfl : _ = [Value.int .i64 x0_1] := hc0_1
  obtain ⟨A0_2, n0_2, rfl, hl0_2, hr0_2⟩ := hc0_2
  obtain ⟨A0_3, n0_3, rfl, hl0_3, hr0_3⟩ := hc0_3
  obtain rfl := agg_of Try.underlying52 (hval 0 52 v0 rfl rfl) hcs0
  clear hA0 hval0 hsz0
  obtain ⟨k, hp⟩ := Pure.FnExactTellerRight x0_0 x0_1 x0_2 x0_3 g0_0 g0_1 g0_2 g0_3
  refine (laws_FnExactTellerRight.calls_true k x0_0 x0_1 A0_2 n0_2 x0_2 A0_3 n0_3 x0_3 W hr0_2 hl0_2 hr0_3 hl0_3 hp).mono fun e W' ⟨he, bel0⟩ => ?_
  have bel := bel0
  subst he
  exact ⟨_, rfl, _, _, _, [], _, [], hW', trodAll_mk1 (shut_bool Try.underlying4 _), (trodAll_cons_mk (Below.trod laidOut (by kernel_rfl) (of_decide_eq_true (by kernel_rfl)) h0 bel lt0) trodAll_mk0), rfl, bel.frame _, fun h => by cases h⟩
theorem over : Rows.fnExactTellerRightRow.holds Try.pinned (OpenSpec.ofChange Rows.fnExactTellerRightSpec) :=
  OpenClaim.holds_of_wide 10 Try.f10 rfl rfl rfl rfl rfl rfl rfl ⟨rfl, rfl, rfl, rfl, rfl⟩ rfl rfl rfl rfl rfl (by kernel_rfl) Try.func10 (by kernel_rfl)
    (of_decide_eq_true (by kernel_rfl)) (by unfold Func.isWrapper; first | (rw [if_pos (by decide +kernel)]; kernel_rfl) | (rw [if_neg (by decide +kernel)]; exact ⟨rfl, rfl⟩))
    (fun os started H enc _ => lifted os started H enc)
theorem proved : Rows.FnExactTellerRightSaid := over
end Go.Proofs.Ytmgmaflfednngaa.fnExactTellerRightRow
namespace Go.Proofs.Ytmgmaflfednngaa
theorem fnExactTellerRight_holds : Rows.FnExactTellerRightSaid := fnExactTellerRightRow.proved
end Go.Proofs.Ytmgmaflfednngaa
