/- The plain law of FnExactGuestAt: over numbers and lists alone, that what the program computes is what the reference computes. No condition beyond what a machine's numbers are. -/
import Derived.Test.YtifahfnbjidfhaaPFnExactGuestAtx0
import Derived.Test.YtifahfnbjidfhaaPFnExactGuestAtx1
import Derived.Test.YtifahfnbjidfhaaPFnExactGuestAtx2
import Derived.Test.YtifahfnbjidfhaaPFnExactGuestAtx3
import Derived.Test.YtifahfnbjidfhaaPFnExactGuestAtx4
import Derived.Test.YtifahfnbjidfhaaPFnExactGuestAtx5
import Derived.Test.YtifahfnbjidfhaaPFnExactGuestAtx6
import Derived.Test.YtifahfnbjidfhaaPFnExactGuestAtx7
import Derived.Test.YtifahfnbjidfhaaBase
set_option linter.unusedSimpArgs false
set_option linter.unusedVariables false
namespace Go.Proofs.Ytifahfnbjidfhaa.fnExactGuestAtRow.Pure
open Go.RowKit Go.Proofs.YtifahfnbjidfhaaW.PrintWords Go.Proofs.YtifahfnbjidfhaaW.PrintLast Go.Proofs.Ytifahfnbjidfhaa.PFnExactGuestAt Go.Proofs.Ytifahfnbjidfhaa.Base

theorem spec_l02Is_eq (a b c : Int) : spec_l02Is.f a b c = some (inB a b c) := by
  unfold spec_l02Is.f inB
  by_cases h : b ≤ a <;> simp [h]

theorem impl_in_eq (a b c : Int) : impl_in.f a b c = some (inB a b c) := by
  unfold impl_in.f inB
  by_cases h : b ≤ a <;> simp [h]
theorem spec_l02Mac_eq (a : Int) : spec_l02Mac.f a = some (macB a) := by simp [spec_l02Mac.f, spec_l02Is_eq, macB]
theorem spec_l02Ip_eq (a : Int) : spec_l02Ip.f a = some (ipB a) := by simp [spec_l02Ip.f, spec_l02Is_eq, ipB]
theorem spec_l02Vni_eq (a : Int) : spec_l02Vni.f a = some (vniB a) := by simp [spec_l02Vni.f, spec_l02Is_eq, vniB]
theorem spec_l05Time_eq (a : Int) : spec_l05Time.f a = some (timeB a) := by simp [spec_l05Time.f, spec_l02Is_eq, timeB]
theorem spec_IsGroup_eq (a : Int) : spec_IsGroup.f a = some (groupB a) := by
  simp [spec_IsGroup.f, spec_l02Mac_eq, groupB]
  cases macB a <;> simp
theorem impl_isMac_eq (a : Int) : impl_isMac.f a = some (macB a) := by simp [impl_isMac.f, impl_in_eq, macB]
theorem impl_isIp_eq (a : Int) : impl_isIp.f a = some (ipB a) := by simp [impl_isIp.f, impl_in_eq, ipB]
theorem impl_isVni_eq (a : Int) : impl_isVni.f a = some (vniB a) := by simp [impl_isVni.f, impl_in_eq, vniB]
theorem impl_isTime_eq (a : Int) : impl_isTime.f a = some (timeB a) := by simp [impl_isTime.f, impl_in_eq, timeB]
theorem impl_IsGroup_eq (a : Int) : impl_IsGroup.f a = some (groupB a) := by
  simp [impl_IsGroup.f, impl_isMac_eq, groupB]
  cases macB a <;> simp
theorem impl_isGuest_eq (a : Int) : impl_isGuest.f a = some (macB a && !groupB a) := by
  simp [impl_isGuest.f, impl_isMac_eq, impl_IsGroup_eq]
  cases macB a <;> simp
theorem impl_Guest_isRight_eq (a b c d e f : Int) (g : Bool) : impl_Guest_isRight.f a b c d e f g = some (guestB a b c d e f) := by
  simp only [impl_Guest_isRight.f, impl_isVni_eq, impl_isGuest_eq, impl_isIp_eq, impl_in_eq, impl_isTime_eq, Option.bind_some, some_ite, guestB, Bool.and_assoc]
theorem spec_l07Guest_eq (a b c d e f : Int) (g : Bool) : spec_l07Guest.f a b c d e f g = some (guestB a b c d e f) := by
  simp only [spec_l07Guest.f, spec_l02Vni_eq, spec_l02Mac_eq, spec_IsGroup_eq, spec_l02Ip_eq, spec_l02Is_eq, spec_l05Time_eq, Option.bind_some, some_ite, some_iteN, guestB, Bool.and_assoc]
theorem cmp_Compare_eq (a b : Int) : cmp_Compare_int64.f a b = some (cmpI a b) := by
  simp only [cmp_Compare_int64.f, cmp_isNaN_int64.f, Option.bind_some, bne_self_eq_false, cmpI]
  simp only [Bool.false_eq_true, if_false]
  repeat' split
  all_goals rfl
theorem cmp_Or_eq (xs : List Int) (hn : xs.length ≤ 100) (k : Nat) (hk : xs.length < k) : cmp_Or_int.f k xs = some (firstNZ xs) := by
  have key : ∀ (d i k : Nat), i + d = xs.length → d < k → cmp_Or_int.l0 k 0 xs (xs.length : Int) (i : Int) = some (firstNZ (xs.drop i)) := by
    intro d
    induction d with
    | zero =>
      intro i k hd hk
      obtain ⟨k, rfl⟩ : ∃ m, k = m + 1 := ⟨k - 1, by omega⟩
      simp only [cmp_Or_int.l0]
      rw [if_neg (by omega), List.drop_of_length_le (by omega)]
      rfl
    | succ d ih =>
      intro i k hd hk
      obtain ⟨k, rfl⟩ : ∃ m, k = m + 1 := ⟨k - 1, by omega⟩
      simp only [cmp_Or_int.l0]
      rw [if_pos (by omega), if_pos (by omega), if_pos (by omega), show rd xs (i : Int) = nth 0 xs i from rfl, drop_nth 0 (by omega : i < xs.length), wrap_up (by omega : i < xs.length) (by omega), ih (i + 1) k (by omega) (by omega)]
      simp only [firstNZ]
      split <;> rfl
  exact key xs.length 0 k (by omega) hk

def lessG (a b : S52) : Bool := decide (a.f0 < b.f0) || (decide (a.f0 = b.f0) && decide (a.f1 < b.f1))
def rightG (a : S52) : Bool := guestB a.f0 a.f1 a.f2 a.f3 a.f4 a.f5
def guestAt (xs : List S52) (j : Nat) : Bool := rightG (nth z52 xs j) && (j == 0 || lessG (nth z52 xs (j - 1)) (nth z52 xs j))
def guestsRight (xs : List S52) : Bool := chk (guestAt xs) xs.length 0 && decide (xs.length ≤ 8)
theorem rdG (xs : List S52) (i : Nat) : rd_T52 xs (i : Int) = nth z52 xs i := rfl
theorem rightG_eq (a : S52) : guestB a.f0 a.f1 a.f2 a.f3 a.f4 a.f5 = rightG a := rfl
theorem spec_l07Less_eq (a b : S52) : spec_l07Less.f a.f0 a.f1 a.f2 a.f3 a.f4 a.f5 a.f6 b.f0 b.f1 b.f2 b.f3 b.f4 b.f5 b.f6 = some (lessG a b) := by
  unfold spec_l07Less.f lessG
  by_cases h : a.f0 < b.f0
  · simp [h]
  · by_cases h1 : a.f0 = b.f0 <;> simp [h, h1]
def ordG (a b : S52) : Int := firstNZ [cmpI a.f0 b.f0, cmpI a.f1 b.f1]
theorem impl_Guest_order_eq (a b : S52) (k : Nat) (hk : 3 ≤ k) : impl_Guest_order.f k a.f0 a.f1 a.f2 a.f3 a.f4 a.f5 a.f6 b.f0 b.f1 b.f2 b.f3 b.f4 b.f5 b.f6 = some (ordG a b) := by
  simp only [impl_Guest_order.f, cmp_Compare_eq, Option.bind_some]
  rw [cmp_Or_eq _ (by simp) k (by simp; omega)]
  rfl
theorem ordG_neg (a b : S52) : (ordG a b ≥ 0) ↔ lessG a b = false := by
  unfold ordG lessG cmpI firstNZ firstNZ firstNZ
  repeat' split
  all_goals simp
  all_goals omega
theorem spec_GuestsRight_loop (xs : List S52) (hn : xs.length ≤ 9223372036854775807) : ∀ (d i k : Nat), i + d = xs.length → d + 0 < k → spec_GuestsRight.l0 k xs (i : Int) = some (chk (guestAt xs) d i && true) := by
  apply chk_loop 0 (fun k i => spec_GuestsRight.l0 k xs i)
  · intro k i _ hi
    simp only [spec_GuestsRight.l0]
    rw [if_pos (by omega), if_pos (by omega), rdG, spec_l07Guest_eq, Option.bind_some, rightG_eq]
    unfold guestAt
    by_cases h : rightG (nth z52 xs i) = true
    · rw [if_pos h, h, Bool.true_and]
      by_cases h0 : i = 0
      · subst h0
        rw [if_neg (by omega), if_pos (by simp), wrap_up hi hn]
      · rw [if_pos (by omega), wrap_down (by omega) (by omega), if_pos (by omega), if_pos (by omega), rdG, wrap_up hi hn, spec_l07Less_eq, Option.bind_some]
        cases h1 : lessG (nth z52 xs (i - 1)) (nth z52 xs i) <;> simp [h0]
    · rw [if_neg h]
      simp [h]
  · intro k _
    simp only [spec_GuestsRight.l0]
    rw [if_neg (by omega)]
theorem spec_GuestsRight_eq (xs : List S52) (hn : xs.length ≤ 9223372036854775807) (k : Nat) (hk : xs.length + 3 < k) : spec_GuestsRight.f k xs = some (guestsRight xs) := by
  unfold spec_GuestsRight.f guestsRight
  by_cases h : xs.length ≤ 8
  · rw [if_neg (by omega), show (0 : Int) = ((0 : Nat) : Int) from rfl, spec_GuestsRight_loop xs hn xs.length 0 k (by omega) (by omega)]
    simp [h]
  · rw [if_pos (by omega)]
    simp [h]
theorem impl_GuestsRight_loop (xs : List S52) (hn : xs.length ≤ 9223372036854775807) : ∀ (d i k : Nat), i + d = xs.length → d + 3 < k → impl_GuestsRight.l0 k xs xs (xs.length : Int) (i : Int) = some (chk (guestAt xs) d i && decide (xs.length ≤ 8)) := by
  apply chk_loop 3 (fun k i => impl_GuestsRight.l0 k xs xs (xs.length : Int) i)
  · intro k i hc hi
    simp only [impl_GuestsRight.l0]
    rw [if_pos (by omega), if_pos (by omega), if_pos (by omega), rdG, impl_Guest_isRight_eq, Option.bind_some, rightG_eq]
    unfold guestAt
    by_cases h : rightG (nth z52 xs i) = true
    · rw [if_pos h, h, Bool.true_and]
      by_cases h0 : i = 0
      · subst h0
        rw [if_neg (by omega), if_pos (by simp), wrap_up hi hn]
      · rw [if_pos (by omega), wrap_down (by omega) (by omega), if_pos (by omega), if_pos (by omega), rdG, wrap_up hi hn, impl_Guest_order_eq _ _ k hc, Option.bind_some]
        have ho := ordG_neg (nth z52 xs (i - 1)) (nth z52 xs i)
        cases h1 : lessG (nth z52 xs (i - 1)) (nth z52 xs i) with
        | true => rw [if_neg (by rw [ho, h1]; simp)]; simp
        | false => rw [if_pos (by rw [ho, h1])]; simp [h0]
    · rw [if_neg h]
      simp [h]
  · intro k _
    simp only [impl_GuestsRight.l0]
    rw [if_neg (by omega)]
    simp only [Option.some.injEq, decide_eq_decide]
    omega
theorem impl_GuestsRight_eq (xs : List S52) (hn : xs.length ≤ 9223372036854775807) (k : Nat) (hk : xs.length + 3 < k) : impl_GuestsRight.f k xs = some (guestsRight xs) := by
  unfold impl_GuestsRight.f guestsRight
  rw [show (0 : Int) = ((0 : Nat) : Int) from rfl, impl_GuestsRight_loop xs hn xs.length 0 k (by omega) hk]
def toGuest (x : S64) : S52 := ⟨x.f0, x.f1, x.f2, x.f3, x.f4, x.f5, x.f6⟩
theorem laws_toGuestS_eq (xs : List S64) (hn : xs.length ≤ 1048576) (k : Nat) (hk : xs.length < k) : laws_toGuestS.f k xs = some (xs.map toGuest) := by
  unfold laws_toGuestS.f
  rw [if_pos (by omega), if_pos (by omega), show (0 : Int) = ((0 : Nat) : Int) from rfl]
  rw [fill_loop 0 (fun k acc i => laws_toGuestS.l0 k xs acc i) xs.length (fun j => toGuest (nth z64 xs j)) ?_ ?_ xs.length 0 k _ (by simp) (by omega) hk]
  · simp [map_range_getD]
  · intro k i acc _ hi hl
    simp only [laws_toGuestS.l0, laws_toGuest.f, Option.bind_some]
    rw [if_pos (by omega), if_pos (by omega), if_pos (by omega), wrap_up hi (by omega)]
    rfl
  · intro k acc _ hl
    simp only [laws_toGuestS.l0]
    rw [if_neg (by omega)]
theorem laws_eqGuestS_self (xs : List S52) (hn : xs.length ≤ 9223372036854775807) (k : Nat) (hk : xs.length < k) : laws_eqGuestS.f k xs xs = some true := by
  unfold laws_eqGuestS.f
  rw [if_pos rfl, show (0 : Int) = ((0 : Nat) : Int) from rfl]
  rw [chk_loop 0 (fun k i => laws_eqGuestS.l0 k xs xs i) xs.length (fun _ => true) true ?_ ?_ xs.length 0 k (by omega) hk]
  · simp only [Bool.and_true, Option.some.injEq, chk_iff]
    intros; trivial
  · intro k i _ hi
    simp only [laws_eqGuestS.l0, laws_eqGuest.f, if_true, Option.bind_some, bne_self_eq_false, Bool.false_eq_true, if_false]
    rw [if_pos (by omega), if_pos (by omega), if_pos (by omega), wrap_up hi hn]
  · intro k _
    simp only [laws_eqGuestS.l0]
    rw [if_neg (by omega)]
theorem spec_l07At_some (xs : List S52) (v m : Int) (hn : xs.length ≤ 1048576) (k : Nat) (hk : xs.length < k) : ∃ r, spec_l07At.f k xs v m = some r := by
  have key : ∀ (d i k : Nat), i + d = xs.length → d < k → ∃ r, spec_l07At.l0 k xs v m (i : Int) = some r := by
    intro d
    induction d with
    | zero =>
      intro i k hi hk
      obtain ⟨k, rfl⟩ : ∃ j, k = j + 1 := ⟨k - 1, by omega⟩
      exact ⟨_, by simp only [spec_l07At.l0]; rw [if_neg (by omega)]⟩
    | succ d ih =>
      intro i k hi hk
      obtain ⟨k, rfl⟩ : ∃ j, k = j + 1 := ⟨k - 1, by omega⟩
      obtain ⟨r, hr⟩ := ih (i + 1) k (by omega) (by omega)
      simp only [spec_l07At.l0]
      rw [if_pos (by omega), if_pos (by omega), wrap_up (by omega : i < xs.length) (by omega)]
      by_cases h0 : (rd_T52 xs (i : Int)).f0 = v
      · by_cases h1 : (rd_T52 xs (i : Int)).f1 = m
        · exact ⟨_, by rw [if_pos h0, if_pos h1]⟩
        · exact ⟨r, by rw [if_pos h0, if_neg h1]; exact hr⟩
      · exact ⟨r, by rw [if_neg h0]; exact hr⟩
  exact key xs.length 0 k (by omega) hk
theorem laws_eqGuest_self (a b c d e f : Int) (g : Bool) : laws_eqGuest.f a b c d e f g a b c d e f g = some true := by simp [laws_eqGuest.f]

theorem FnExactGuestAt : ∀ (x0 : List S64) (x1 x2 : Int), (x0.length ≤ maxLen ∧ ∀ y ∈ x0, (Lit.int .i64 y.f0).wf = true ∧ (Lit.int .i64 y.f1).wf = true ∧ (Lit.int .i64 y.f2).wf = true ∧ (Lit.int .i64 y.f3).wf = true ∧ (Lit.int .i64 y.f4).wf = true ∧ (Lit.int .i64 y.f5).wf = true ∧ True) → (Lit.int .i64 x1).wf = true → (Lit.int .i64 x2).wf = true → ∃ k, laws_FnExactGuestAt.f k x0 x1 x2 = some true := by
  intro xs v m ⟨hl, _⟩ _ _
  have hl' : xs.length ≤ 9223372036854775807 := hl
  refine ⟨xs.length + 4, ?_⟩
  unfold laws_FnExactGuestAt.f laws_szGuestS.f
  rw [sz_wrap hl']
  by_cases h : (1048576 : Int) - xs.length < 0
  · rw [if_pos h]; rfl
  · rw [if_neg h]
    simp only [Option.bind_some]
    have hx : (xs.map toGuest).length = xs.length := by simp
    rw [if_neg h, laws_toGuestS_eq xs (by omega) _ (by omega)]
    simp only [Option.bind_some]
    have hs : ∃ r, spec_GuestAt.f (xs.length + 4) (xs.map toGuest) v m = some r ∧ impl_GuestAt.f (xs.length + 4) (xs.map toGuest) v m = some r := by
      unfold spec_GuestAt.f impl_GuestAt.f
      rw [spec_GuestsRight_eq _ (by omega) _ (by omega), impl_GuestsRight_eq _ (by omega) _ (by omega)]
      simp only [Option.bind_some]
      obtain ⟨r, hr⟩ := spec_l07At_some (xs.map toGuest) v m (by omega) (xs.length + 4) (by omega)
      rw [hr]
      cases guestsRight (xs.map toGuest) with
      | true => exact ⟨_, rfl, rfl⟩
      | false => exact ⟨_, rfl, rfl⟩
    obtain ⟨r, h1, h2⟩ := hs
    rw [h1]
    simp only [Option.bind_some]
    rw [h2]
    simp only [Option.bind_some]
    rw [laws_eqGuest_self]
    simp only [Option.bind_some, if_true]
    rw [laws_eqGuestS_self _ (by omega) _ (by omega)]
    rfl

end Go.Proofs.Ytifahfnbjidfhaa.fnExactGuestAtRow.Pure
