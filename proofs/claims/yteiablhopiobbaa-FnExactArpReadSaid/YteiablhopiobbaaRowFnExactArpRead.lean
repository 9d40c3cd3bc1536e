/- The law FnExactArpRead holds for all its arguments: it returns true and leaves them as they were. No condition. The row, out of its contract and the plain law. -/
import Derived.Test.YteiablhopiobbaaRows
import Derived.Test.YteiablhopiobbaaOpen
import Derived.Test.YteiablhopiobbaaPFnExactArpReadx5
import Derived.Test.YteiablhopiobbaaPureFnExactArpRead
import Derived.WalkKit
import Derived.ProofKit
import Derived.OpenShut
import Derived.ShutString
import Derived.ChangeOld
import Derived.Below
import Derived.SizedLaws
import Derived.Carry
namespace Go.Proofs.Yteiablhopiobbaa.fnExactArpReadRow
open Go.ChangeShapes Go.WideShapes Go.ChangeAt Go.RowKit Go.Proofs.YteiablhopiobbaaW.PrintWords Go.Proofs.Yteiablhopiobbaa.Open Go.Proofs.Yteiablhopiobbaa.PFnExactArpRead
open Go.ChangeMaps (open_string shut_string)
set_option linter.unusedVariables false
theorem own : ownKnob Try.prog.godebug = none := by kernel_rfl
theorem laidOut : laidOutB Try.prog = true := by kernel_rfl
set_option maxRecDepth 100000 in
theorem lifted (os : Os) (started : os.Started) (H : Type) (enc : TypeId × Value → H) :
    ReturnsInHanded {} Try.checked os 4 .any (Rows.fnExactArpReadSpec.pre6 enc Try.prog Try.f4 Rows.fnExactArpReadRow.domain false) (Rows.fnExactArpReadSpec.post enc Try.prog Try.f4 false true false false) := by
  refine returnsInHanded_of_change_sized (C := Try.checked) own started (by kernel_rfl) Try.func4
    (ChangeSpec.witness6 (enc := enc) (C := Try.checked) false ⟨#[], #[.string ByteArray.empty], []⟩ 8 (by kernel_rfl) (by kernel_rfl) (by kernel_rfl) (by kernel_rfl)) ?_
  intro W base args ds gs before hval0 hW hcnd hsz0 _
  have hval : ∀ (j : Nat) t v, Try.f4.params[j]? = some t → args[j]? = some v → Value.okWide Try.prog W .any base t v := hval0
  have hW' := hW
  obtain ⟨p, q, hA0, hV, rfl, hfz, hnd⟩ := hW
  have hA : DataW.TrodAll enc Try.prog W 0 (fun _ => true) true Try.f4.params.toList args.toList ds p := hA0
  rw [Try.params4] at hA hval
  obtain ⟨v0, vs0, d0, ds0, p0, q0, hargs, rfl, rfl, h0, r0⟩ := trodAll_cons hA
  obtain ⟨rfl, rfl, rfl⟩ := trodAll_nil r0
  obtain rfl : args = #[v0] := by cases args; simp_all
  obtain ⟨rfl, rfl⟩ := trodVars_none hV
  have lt0 : ∀ x ∈ p0, x.block < W.heap.size := by obtain ⟨m, hm⟩ := h0; exact DataW.trod_lt m _ _ _ hm
  obtain ⟨x0, hcs0, g0⟩ := (opens_string Try.underlying9 (by kernel_rfl)).arg h0
  obtain rfl := string_of Try.underlying9 (hval 0 9 v0 rfl rfl) hcs0
  clear hA0 hval0 hsz0
  obtain ⟨k, hp⟩ := Pure.FnExactArpRead x0 g0
  refine (laws_FnExactArpRead.calls k x0 true W  hp).mono fun e W' ⟨he, bel0⟩ => ?_
  have bel := bel0
  subst he
  exact ⟨_, rfl, _, _, _, [], _, [], hW', trodAll_mk1 (shut_bool Try.underlying4 _), (trodAll_cons_mk (Below.trod laidOut (by kernel_rfl) (of_decide_eq_true (by kernel_rfl)) h0 bel lt0) trodAll_mk0), rfl, bel.frame _, fun h => by cases h⟩
theorem over : Rows.fnExactArpReadRow.holds Try.pinned (OpenSpec.ofChange Rows.fnExactArpReadSpec) :=
  OpenClaim.holds_of_wide 4 Try.f4 rfl rfl rfl rfl rfl rfl rfl ⟨rfl, rfl, rfl, rfl, rfl⟩ rfl rfl rfl rfl rfl (by kernel_rfl) Try.func4 (by kernel_rfl)
    (of_decide_eq_true (by kernel_rfl)) (by unfold Func.isWrapper; first | (rw [if_pos (by decide +kernel)]; kernel_rfl) | (rw [if_neg (by decide +kernel)]; exact ⟨rfl, rfl⟩))
    (fun os started H enc _ => lifted os started H enc)
theorem proved : Rows.FnExactArpReadSaid := over
end Go.Proofs.Yteiablhopiobbaa.fnExactArpReadRow
namespace Go.Proofs.Yteiablhopiobbaa
theorem fnExactArpRead_holds : Rows.FnExactArpReadSaid := fnExactArpReadRow.proved
end Go.Proofs.Yteiablhopiobbaa
