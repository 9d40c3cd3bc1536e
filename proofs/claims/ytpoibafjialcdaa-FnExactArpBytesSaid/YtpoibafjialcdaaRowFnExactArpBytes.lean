/- The law FnExactArpBytes holds for all its arguments: it returns true and leaves them as they were. No condition. The row, out of its contract and the plain law. -/
import Derived.Test.YtpoibafjialcdaaRows
import Derived.Test.YtpoibafjialcdaaOpen
import Derived.Test.YtpoibafjialcdaaPFnExactArpBytesx2
import Derived.Test.YtpoibafjialcdaaPureFnExactArpBytes
import Derived.WalkKit
import Derived.ProofKit
import Derived.OpenShut
import Derived.ShutString
import Derived.ChangeOld
import Derived.Below
import Derived.SizedLaws
import Derived.Carry
namespace Go.Proofs.Ytpoibafjialcdaa.fnExactArpBytesRow
open Go.ChangeShapes Go.WideShapes Go.ChangeAt Go.RowKit Go.Proofs.YtpoibafjialcdaaW.PrintWords Go.Proofs.Ytpoibafjialcdaa.Open Go.Proofs.Ytpoibafjialcdaa.PFnExactArpBytes
open Go.ChangeMaps (open_string shut_string)
set_option linter.unusedVariables false
theorem own : ownKnob Try.prog.godebug = none := by kernel_rfl
theorem laidOut : laidOutB Try.prog = true := by kernel_rfl
set_option maxRecDepth 100000 in
theorem lifted (os : Os) (started : os.Started) (H : Type) (enc : TypeId × Value → H) :
    ReturnsInHanded {} Try.checked os 3 .any (Rows.fnExactArpBytesSpec.pre6 enc Try.prog Try.f3 Rows.fnExactArpBytesRow.domain false) (Rows.fnExactArpBytesSpec.post enc Try.prog Try.f3 false true false false) := by
  refine returnsInHanded_of_change_sized (C := Try.checked) own started (by kernel_rfl) Try.func3
    (ChangeSpec.witness6 (enc := enc) (C := Try.checked) false ⟨#[], #[.agg #[.int .i64 0, .int .i64 0, .int .i64 0, .int .i64 0, .int .i64 0]], []⟩ 8 (by kernel_rfl) (by kernel_rfl) (by kernel_rfl) (by kernel_rfl)) ?_
  intro W base args ds gs before hval0 hW hcnd hsz0 _
  have hval : ∀ (j : Nat) t v, Try.f3.params[j]? = some t → args[j]? = some v → Value.okWide Try.prog W .any base t v := hval0
  have hW' := hW
  obtain ⟨p, q, hA0, hV, rfl, hfz, hnd⟩ := hW
  have hA : DataW.TrodAll enc Try.prog W 0 (fun _ => true) true Try.f3.params.toList args.toList ds p := hA0
  rw [Try.params3] at hA hval
  obtain ⟨v0, vs0, d0, ds0, p0, q0, hargs, rfl, rfl, h0, r0⟩ := trodAll_cons hA
  obtain ⟨rfl, rfl, rfl⟩ := trodAll_nil r0
  obtain rfl : args = #[v0] := by cases args; simp_all
  obtain ⟨rfl, rfl⟩ := trodVars_none hV
  have lt0 : ∀ x ∈ p0, x.block < W.heap.size := by obtain ⟨m, hm⟩ := h0; exact DataW.trod_lt m _ _ _ hm
  obtain ⟨x0, hk0, g0⟩ := (opens_struct Try.underlying23 (by kernel_rfl) (fields_cons (opens_int Try.underlying2 (by kernel_rfl)) rfl (fields_cons (opens_int Try.underlying2 (by kernel_rfl)) rfl (fields_cons (opens_int Try.underlying2 (by kernel_rfl)) rfl (fields_cons (opens_int Try.underlying2 (by kernel_rfl)) rfl (fields_one (opens_int Try.underlying2 (by kernel_rfl)) rfl)))))).arg h0
  obtain ⟨x0_0, x0_1, x0_2, x0_3, x0_4⟩ := x0
  obtain ⟨c0_0, e0_0, hcs0, hc0_0, ⟨c0_1, e0_1, rfl, hc0_1, ⟨c0_2, e0_2, rfl, hc0_2, ⟨c0_3, e0_3, rfl, hc0_3, hc0_4⟩⟩⟩⟩ := hk0
  obtain ⟨g0_0, g0_1, g0_2, g0_3, g0_4⟩ := g0
  obtain rfl : _ = [Value.int .i64 x0_0] := hc0_0
  obtain rfl : _ = [Value.int .i64 x0_1] := hc0_1
  obtain rfl : _ = [Value.int .i64 x0_2] := hc0_2
  obtain rfl : _ = [Value.int .i64 x0_3] := hc0_3
  obtain rfl : _ = [Value.int .i64 x0_4] := hc0_4
  obtain rfl := agg_of Try.underlying23 (hval 0 23 v0 rfl rfl) hcs0
  clear hA0 hval0 hsz0
  obtain ⟨k, hp⟩ := Pure.FnExactArpBytes x0_0 x0_1 x0_2 x0_3 x0_4 g0_0 g0_1 g0_2 g0_3 g0_4
  refine (laws_FnExactArpBytes.calls k x0_0 x0_1 x0_2 x0_3 x0_4 true W  hp).mono fun e W' ⟨he, bel0⟩ => ?_
  have bel := bel0
  subst he
  exact ⟨_, rfl, _, _, _, [], _, [], hW', trodAll_mk1 (shut_bool Try.underlying4 _), (trodAll_cons_mk (Below.trod laidOut (by kernel_rfl) (of_decide_eq_true (by kernel_rfl)) h0 bel lt0) trodAll_mk0), rfl, bel.frame _, fun h => by cases h⟩
theorem over : Rows.fnExactArpBytesRow.holds Try.pinned (OpenSpec.ofChange Rows.fnExactArpBytesSpec) :=
  OpenClaim.holds_of_wide 3 Try.f3 rfl rfl rfl rfl rfl rfl rfl ⟨rfl, rfl, rfl, rfl, rfl⟩ rfl rfl rfl rfl rfl (by kernel_rfl) Try.func3 (by kernel_rfl)
    (of_decide_eq_true (by kernel_rfl)) (by unfold Func.isWrapper; first | (rw [if_pos (by decide +kernel)]; kernel_rfl) | (rw [if_neg (by decide +kernel)]; exact ⟨rfl, rfl⟩))
    (fun os started H enc _ => lifted os started H enc)
theorem proved : Rows.FnExactArpBytesSaid := over
end Go.Proofs.Ytpoibafjialcdaa.fnExactArpBytesRow
namespace Go.Proofs.Ytpoibafjialcdaa
theorem fnExactArpBytes_holds : Rows.FnExactArpBytesSaid := fnExactArpBytesRow.proved
end Go.Proofs.Ytpoibafjialcdaa
