-- A copy, made by trim.py (its own words shortened): not an official print.
import Derived.Test.YtmgmaflfednngaaRows
import Derived.Test.YtmgmaflfednngaaZExactTellerNewOpen
import Derived.Test.YtmgmaflfednngaaZExactTellerNewPFnExactTellerNewx953
import Derived.Test.YtmgmaflfednngaaZExactTellerNewPureFnExactTellerNew
import Derived.WalkKit
import Derived.ProofKit
import Derived.OpenShut
import Derived.ShutString
import Derived.ChangeOld
import Derived.Below
import Derived.SizedLaws
import Derived.Carry
namespace Go.Proofs.Ytmgmaflfednngaa.fnExactTellerNewRow
open Go.ChangeShapes Go.WideShapes Go.ChangeAt Go.RowKit Go.Proofs.YtmgmaflfednngaaW.PrintWords Go.Proofs.Ytmgmaflfednngaa.Open Go.Proofs.Ytmgmaflfednngaa.PFnExactTellerNew
open Go.ChangeMaps (open_string shut_string)
set_option linter.unusedVariables false
theorem own : ownKnob Try.prog.godebug = none := by kernel_rfl
theorem laidOut : laidOutB Try.prog = true := by kernel_rfl
set_option maxRecDepth 100000 in
theorem lifted (os : Os) (started : os.Started) (H : Type) (enc : TypeId × Value → H) :
    ReturnsInHanded {} Try.checked os 11 .any (Rows.fnExactTellerNewSpec.pre6 enc Try.prog Try.f11 Rows.fnExactTellerNewRow.domain false) (Rows.fnExactTellerNewSpec.post enc Try.prog Try.f11 false true false false) := by
  refine returnsInHanded_of_change_sized (C := Try.checked) own started (by kernel_rfl) Try.func11
    (ChangeSpec.witness6 (enc := enc) (C := Try.checked) false ⟨#[], #[.int .i64 0, .int .i64 0, .int .i64 0], []⟩ 8 (by kernel_rfl) (by kernel_rfl) (by kernel_rfl) (by kernel_rfl)) ?_
  intro W base args ds gs before hval0 hW hcnd hsz0 _
  have hval : ∀ (j : Nat) t v, Try.f11.params[j]? = some t → args[j]? = some v → Value.okWide Try.prog W .any base t v := hval0
  have hW' := hW
  obtain ⟨p, q, hA0, hV, rfl, hfz, hnd⟩ := hW
  have hA : DataW.TrodAll enc Try.prog W 0 (fun _ => true) true Try.f11.params.toList args.toList ds p := hA0
  rw [Try.params11] at hA hval
  obtain ⟨v0, vs0, d0, ds0, p0, q0, hargs, rfl, rfl, h0, r0⟩ := trodAll_cons hA
  obtain ⟨v1, vs1, d1, ds1, p1, q1, rfl, rfl, rfl, h1, r1⟩ := trodAll_cons r0
  obtain ⟨v2, vs2, d2, ds2, p2, q2, rfl, rfl, rfl, h2, r2⟩ := trodAll_cons r1
  obtain ⟨rfl, rfl, rfl⟩ := trodAll_nil r2
  obtain rfl : args = #[v0, v1, v2] := by cases args; simp_all
  obtain ⟨rfl, rfl⟩ := trodVars_none hV
  have lt0 : ∀ x ∈ p0, x.block < W.heap.size := by obtain ⟨m, hm⟩ := h0; exact DataW.trod_lt m _ _ _ hm
  obtain ⟨x0, hcs0, g0⟩ := (opens_int Try.underlying2 (by kernel_rfl)).arg h0
  obtain rfl := int_of Try.underlying2 (hval 0 2 v0 rfl rfl) hcs0
  have lt1 : ∀ x ∈ p1, x.block < W.heap.size := by obtain ⟨m, hm⟩ := h1; exact DataW.trod_lt m _ _ _ hm
  obtain ⟨x1, hcs1, g1⟩ := (opens_int Try.underlying2 (by kernel_rfl)).arg h1
  obtain rfl := int_of Try.underlying2 (hval 1 2 v1 rfl rfl) hcs1
  have lt2 : ∀ x ∈ p2, x.block < W.heap.size := by obtain ⟨m, hm⟩ := h2; exact DataW.trod_lt m _ _ _ hm
  obtain ⟨x2, hcs2, g2⟩ := (opens_int Try.underlying2 (by kernel_rfl)).arg h2
  obtain rfl := int_of Try.underlying2 (hval 2 2 v2 rfl rfl) hcs2
  clear hA0 hval0 hsz0
  obtain ⟨k, hp⟩ := Pure.FnExactTellerNew x0 x1 x2 g0 g1 g2
  refine (laws_FnExactTellerNew.calls_true k x0 x1 x2 W  hp).mono fun e W' ⟨he, bel0⟩ => ?_
  have bel := bel0
  subst he
  exact ⟨_, rfl, _, _, _, [], _, [], hW', trodAll_mk1 (shut_bool Try.underlying4 _), (trodAll_cons_mk (Below.trod laidOut (by kernel_rfl) (of_decide_eq_true (by kernel_rfl)) h0 bel lt0) (trodAll_cons_mk (Below.trod laidOut (by kernel_rfl) (of_decide_eq_true (by kernel_rfl)) h1 bel lt1) (trodAll_cons_mk (Below.trod laidOut (by kernel_rfl) (of_decide_eq_true (by kernel_rfl)) h2 bel lt2) trodAll_mk0))), rfl, bel.frame _, fun h => by cases h⟩
theorem over : Rows.fnExactTellerNewRow.holds Try.pinned (OpenSpec.ofChange Rows.fnExactTellerNewSpec) :=
  OpenClaim.holds_of_wide 11 Try.f11 rfl rfl rfl rfl rfl rfl rfl ⟨rfl, rfl, rfl, rfl, rfl⟩ rfl rfl rfl rfl rfl (by kernel_rfl) Try.func11 (by kernel_rfl)
    (of_decide_eq_true (by kernel_rfl)) (by unfold Func.isWrapper; first | (rw [if_pos (by decide +kernel)]; kernel_rfl) | (rw [if_neg (by decide +kernel)]; exact ⟨rfl, rfl⟩))
    (fun os started H enc _ => lifted os started H enc)
theorem proved : Rows.FnExactTellerNewSaid := over
end Go.Proofs.Ytmgmaflfednngaa.fnExactTellerNewRow
namespace Go.Proofs.Ytmgmaflfednngaa
theorem fnExactTellerNew_holds : Rows.FnExactTellerNewSaid := fnExactTellerNewRow.proved
end Go.Proofs.Ytmgmaflfednngaa
