/- The plain law of FnExactRouteOf: over numbers and lists alone, that what the program computes is what the reference computes. No condition beyond what a machine's numbers are. -/
import Derived.Test.YtpoibafjialcdaaPFnExactRouteOfx0
import Derived.Test.YtpoibafjialcdaaPFnExactRouteOfx1
import Derived.Test.YtpoibafjialcdaaPFnExactRouteOfx2
import Derived.Test.YtpoibafjialcdaaBase
set_option linter.unusedSimpArgs false
set_option linter.unusedVariables false
namespace Go.Proofs.Ytpoibafjialcdaa.fnExactRouteOfRow.Pure
open Go.RowKit Go.Proofs.YtpoibafjialcdaaW.PrintWords Go.Proofs.YtpoibafjialcdaaW.PrintLast Go.Proofs.Ytpoibafjialcdaa.PFnExactRouteOf Go.Proofs.Ytpoibafjialcdaa.Base

theorem spec_l02Is_eq (a b c : Int) : spec_l02Is.f a b c = some (inB a b c) := by
  unfold spec_l02Is.f inB
  by_cases h : b ≤ a <;> simp [h]

theorem impl_in_eq (a b c : Int) : impl_in.f a b c = some (inB a b c) := by
  unfold impl_in.f inB
  by_cases h : b ≤ a <;> simp [h]
theorem spec_l02Mac_eq (a : Int) : spec_l02Mac.f a = some (macB a) := by simp [spec_l02Mac.f, spec_l02Is_eq, macB]
theorem spec_l02Ip_eq (a : Int) : spec_l02Ip.f a = some (ipB a) := by simp [spec_l02Ip.f, spec_l02Is_eq, ipB]
theorem spec_l02Vni_eq (a : Int) : spec_l02Vni.f a = some (vniB a) := by simp [spec_l02Vni.f, spec_l02Is_eq, vniB]
theorem spec_l05Time_eq (a : Int) : spec_l05Time.f a = some (timeB a) := by simp [spec_l05Time.f, spec_l02Is_eq, timeB]
theorem spec_IsGroup_eq (a : Int) : spec_IsGroup.f a = some (groupB a) := by
  simp [spec_IsGroup.f, spec_l02Mac_eq, groupB]
  cases macB a <;> simp
theorem impl_isMac_eq (a : Int) : impl_isMac.f a = some (macB a) := by simp [impl_isMac.f, impl_in_eq, macB]
theorem impl_isIp_eq (a : Int) : impl_isIp.f a = some (ipB a) := by simp [impl_isIp.f, impl_in_eq, ipB]
theorem impl_isVni_eq (a : Int) : impl_isVni.f a = some (vniB a) := by simp [impl_isVni.f, impl_in_eq, vniB]
theorem impl_isTime_eq (a : Int) : impl_isTime.f a = some (timeB a) := by simp [impl_isTime.f, impl_in_eq, timeB]
theorem impl_isHouse_eq (a : Int) : impl_isHouse.f a = some (houseB a) := by simp [impl_isHouse.f, impl_in_eq, houseB]
theorem impl_IsGroup_eq (a : Int) : impl_IsGroup.f a = some (groupB a) := by
  simp [impl_IsGroup.f, impl_isMac_eq, groupB]
  cases macB a <;> simp
theorem impl_isGuest_eq (a : Int) : impl_isGuest.f a = some (macB a && !groupB a) := by
  simp [impl_isGuest.f, impl_isMac_eq, impl_IsGroup_eq]
  cases macB a <;> simp
theorem impl_Guest_isRight_eq (a b c d e f : Int) (g : Bool) : impl_Guest_isRight.f a b c d e f g = some (guestB a b c d e f) := by
  simp only [impl_Guest_isRight.f, impl_isVni_eq, impl_isGuest_eq, impl_isIp_eq, impl_in_eq, impl_isTime_eq, Option.bind_some, some_ite, guestB, Bool.and_assoc]
theorem spec_l07Guest_eq (a b c d e f : Int) (g : Bool) : spec_l07Guest.f a b c d e f g = some (guestB a b c d e f) := by
  simp only [spec_l07Guest.f, spec_l02Vni_eq, spec_l02Mac_eq, spec_IsGroup_eq, spec_l02Ip_eq, spec_l02Is_eq, spec_l05Time_eq, Option.bind_some, some_ite, some_iteN, guestB, Bool.and_assoc]
theorem FnExactRouteOf : ∀ (x0_0 x0_1 x0_2 x0_3 x0_4 x0_5 : Int) (x0_6 : Bool) (x1 : Int), ((Lit.int .i64 x0_0).wf = true) → ((Lit.int .i64 x0_1).wf = true) → ((Lit.int .i64 x0_2).wf = true) → ((Lit.int .i64 x0_3).wf = true) → ((Lit.int .i64 x0_4).wf = true) → ((Lit.int .i64 x0_5).wf = true) → ((Lit.int .i64 x1).wf = true) → laws_FnExactRouteOf.f x0_0 x0_1 x0_2 x0_3 x0_4 x0_5 x0_6 x1 = some true := by
  intro a b c d e f g h _ _ _ _ _ _ _
  have e3 : ∀ x0 x1 x2 x3 x4 x5 x6, laws_eqRoute.f x0 x1 x2 x3 x4 x5 x6 x0 x1 x2 x3 x4 x5 x6 = some true := by
    intro x0 x1 x2 x3 x4 x5 x6
    simp [laws_eqRoute.f]
  simp only [laws_FnExactRouteOf.f, laws_toGuest.f, Option.bind_some, spec_RouteOf.f, impl_RouteOf.f, impl_Guest_isRight_eq, spec_l07Guest_eq, spec_l02Is_eq, impl_isHouse_eq, houseB, spec_l07Route.f, impl_Guest_route.f]
  cases guestB a b c d e f <;> cases inB h 1 4 <;> simp [e3]

end Go.Proofs.Ytpoibafjialcdaa.fnExactRouteOfRow.Pure
