-- A copy, by trim.py of this session's wip/gen, of a text of this claim, without what the row does not reach and without comments: not an official print.
import Derived.Test.YtifahfnbjidfhaaZExactGuestPutPFnExactGuestPutx0
import Derived.Test.YtifahfnbjidfhaaZExactGuestPutPFnExactGuestPutx1
import Derived.Test.YtifahfnbjidfhaaZExactGuestPutPFnExactGuestPutx2
import Derived.Test.YtifahfnbjidfhaaZExactGuestPutPFnExactGuestPutx3
import Derived.Test.YtifahfnbjidfhaaZExactGuestPutPFnExactGuestPutx4
import Derived.Test.YtifahfnbjidfhaaZExactGuestPutPFnExactGuestPutx5
import Derived.Test.YtifahfnbjidfhaaZExactGuestPutPFnExactGuestPutx6
import Derived.Test.YtifahfnbjidfhaaZExactGuestPutPFnExactGuestPutx7
import Derived.Test.YtifahfnbjidfhaaZExactGuestPutPFnExactGuestPutx8
import Derived.Test.YtifahfnbjidfhaaZExactGuestPutPFnExactGuestPutx9
import Derived.Test.YtifahfnbjidfhaaZExactGuestPutPFnExactGuestPutx10
import Derived.Test.YtifahfnbjidfhaaZExactGuestPutPFnExactGuestPutx11
import Derived.Test.YtifahfnbjidfhaaZExactGuestPutBase
set_option linter.unusedSimpArgs false
set_option linter.unusedVariables false
namespace Go.Proofs.Ytifahfnbjidfhaa.fnExactGuestPutRow.Pure
open Go.RowKit Go.Proofs.YtifahfnbjidfhaaW.PrintWords Go.Proofs.YtifahfnbjidfhaaW.PrintLast Go.Proofs.Ytifahfnbjidfhaa.PFnExactGuestPut Go.Proofs.Ytifahfnbjidfhaa.Base
theorem spec_l02Is_eq (a b c : Int) : spec_l02Is.f a b c = some (inB a b c) := by
  unfold spec_l02Is.f inB
  by_cases h : b ≤ a <;> simp [h]
theorem impl_in_eq (a b c : Int) : impl_in.f a b c = some (inB a b c) := by
  unfold impl_in.f inB
  by_cases h : b ≤ a <;> simp [h]
theorem spec_l02Mac_eq (a : Int) : spec_l02Mac.f a = some (macB a) := by simp [spec_l02Mac.f, spec_l02Is_eq, macB]
theorem spec_l02Ip_eq (a : Int) : spec_l02Ip.f a = some (ipB a) := by simp [spec_l02Ip.f, spec_l02Is_eq, ipB]
theorem spec_l02Vni_eq (a : Int) : spec_l02Vni.f a = some (vniB a) := by simp [spec_l02Vni.f, spec_l02Is_eq, vniB]
theorem spec_l05Time_eq (a : Int) : spec_l05Time.f a = some (timeB a) := by simp [spec_l05Time.f, spec_l02Is_eq, timeB]
theorem spec_IsGroup_eq (a : Int) : spec_IsGroup.f a = some (groupB a) := by
  simp [spec_IsGroup.f, spec_l02Mac_eq, groupB]
  cases macB a <;> simp
theorem impl_isMac_eq (a : Int) : impl_isMac.f a = some (macB a) := by simp [impl_isMac.f, impl_in_eq, macB]
theorem impl_isIp_eq (a : Int) : impl_isIp.f a = some (ipB a) := by simp [impl_isIp.f, impl_in_eq, ipB]
theorem impl_isVni_eq (a : Int) : impl_isVni.f a = some (vniB a) := by simp [impl_isVni.f, impl_in_eq, vniB]
theorem impl_isTime_eq (a : Int) : impl_isTime.f a = some (timeB a) := by simp [impl_isTime.f, impl_in_eq, timeB]
theorem impl_IsGroup_eq (a : Int) : impl_IsGroup.f a = some (groupB a) := by
  simp [impl_IsGroup.f, impl_isMac_eq, groupB]
  cases macB a <;> simp
theorem impl_isGuest_eq (a : Int) : impl_isGuest.f a = some (macB a && !groupB a) := by
  simp [impl_isGuest.f, impl_isMac_eq, impl_IsGroup_eq]
  cases macB a <;> simp
theorem impl_Guest_isRight_eq (a b c d e f : Int) (g : Bool) : impl_Guest_isRight.f a b c d e f g = some (guestB a b c d e f) := by
  simp only [impl_Guest_isRight.f, impl_isVni_eq, impl_isGuest_eq, impl_isIp_eq, impl_in_eq, impl_isTime_eq, Option.bind_some, some_ite, guestB, Bool.and_assoc]
theorem spec_l07Guest_eq (a b c d e f : Int) (g : Bool) : spec_l07Guest.f a b c d e f g = some (guestB a b c d e f) := by
  simp only [spec_l07Guest.f, spec_l02Vni_eq, spec_l02Mac_eq, spec_IsGroup_eq, spec_l02Ip_eq, spec_l02Is_eq, spec_l05Time_eq, Option.bind_some, some_ite, some_iteN, guestB, Bool.and_assoc]
theorem cmp_Compare_eq (a b : Int) : cmp_Compare_int64.f a b = some (cmpI a b) := by
  simp only [cmp_Compare_int64.f, cmp_isNaN_int64.f, Option.bind_some, bne_self_eq_false, cmpI]
  simp only [Bool.false_eq_true, if_false]
  repeat' split
  all_goals rfl
theorem cmp_Or_eq (xs : List Int) (hn : xs.length ≤ 100) (k : Nat) (hk : xs.length < k) : cmp_Or_int.f k xs = some (firstNZ xs) := by
  have key : ∀ (d i k : Nat), i + d = xs.length → d < k → cmp_Or_int.l0 k 0 xs (xs.length : Int) (i : Int) = some (firstNZ (xs.drop i)) := by
    intro d
    induction d with
    | zero =>
      intro i k hd hk
      obtain ⟨k, rfl⟩ : ∃ m, k = m + 1 := ⟨k - 1, by omega⟩
      simp only [cmp_Or_int.l0]
      rw [if_neg (by omega), List.drop_of_length_le (by omega)]
      rfl
    | succ d ih =>
      intro i k hd hk
      obtain ⟨k, rfl⟩ : ∃ m, k = m + 1 := ⟨k - 1, by omega⟩
      simp only [cmp_Or_int.l0]
      rw [if_pos (by omega), if_pos (by omega), if_pos (by omega), show rd xs (i : Int) = nth 0 xs i from rfl, drop_nth 0 (by omega : i < xs.length), wrap_up (by omega : i < xs.length) (by omega), ih (i + 1) k (by omega) (by omega)]
      simp only [firstNZ]
      split <;> rfl
  exact key xs.length 0 k (by omega) hk
def lessG (a b : S52) : Bool := decide (a.f0 < b.f0) || (decide (a.f0 = b.f0) && decide (a.f1 < b.f1))
def rightG (a : S52) : Bool := guestB a.f0 a.f1 a.f2 a.f3 a.f4 a.f5
def guestAt (xs : List S52) (j : Nat) : Bool := rightG (nth z52 xs j) && (j == 0 || lessG (nth z52 xs (j - 1)) (nth z52 xs j))
def guestsRight (xs : List S52) : Bool := chk (guestAt xs) xs.length 0 && decide (xs.length ≤ 8)
theorem rdG (xs : List S52) (i : Nat) : rd_T52 xs (i : Int) = nth z52 xs i := rfl
theorem rightG_eq (a : S52) : guestB a.f0 a.f1 a.f2 a.f3 a.f4 a.f5 = rightG a := rfl
theorem spec_l07Less_eq (a b : S52) : spec_l07Less.f a.f0 a.f1 a.f2 a.f3 a.f4 a.f5 a.f6 b.f0 b.f1 b.f2 b.f3 b.f4 b.f5 b.f6 = some (lessG a b) := by
  unfold spec_l07Less.f lessG
  by_cases h : a.f0 < b.f0
  · simp [h]
  · by_cases h1 : a.f0 = b.f0 <;> simp [h, h1]
def ordG (a b : S52) : Int := firstNZ [cmpI a.f0 b.f0, cmpI a.f1 b.f1]
theorem impl_Guest_order_eq (a b : S52) (k : Nat) (hk : 3 ≤ k) : impl_Guest_order.f k a.f0 a.f1 a.f2 a.f3 a.f4 a.f5 a.f6 b.f0 b.f1 b.f2 b.f3 b.f4 b.f5 b.f6 = some (ordG a b) := by
  simp only [impl_Guest_order.f, cmp_Compare_eq, Option.bind_some]
  rw [cmp_Or_eq _ (by simp) k (by simp; omega)]
  rfl
theorem ordG_neg (a b : S52) : (ordG a b ≥ 0) ↔ lessG a b = false := by
  unfold ordG lessG cmpI firstNZ firstNZ firstNZ
  repeat' split
  all_goals simp
  all_goals omega
theorem spec_GuestsRight_loop (xs : List S52) (hn : xs.length ≤ 9223372036854775807) : ∀ (d i k : Nat), i + d = xs.length → d + 0 < k → spec_GuestsRight.l0 k xs (i : Int) = some (chk (guestAt xs) d i && true) := by
  apply chk_loop 0 (fun k i => spec_GuestsRight.l0 k xs i)
  · intro k i _ hi
    simp only [spec_GuestsRight.l0]
    rw [if_pos (by omega), if_pos (by omega), rdG, spec_l07Guest_eq, Option.bind_some, rightG_eq]
    unfold guestAt
    by_cases h : rightG (nth z52 xs i) = true
    · rw [if_pos h, h, Bool.true_and]
      by_cases h0 : i = 0
      · subst h0
        rw [if_neg (by omega), if_pos (by simp), wrap_up hi hn]
      · rw [if_pos (by omega), wrap_down (by omega) (by omega), if_pos (by omega), if_pos (by omega), rdG, wrap_up hi hn, spec_l07Less_eq, Option.bind_some]
        cases h1 : lessG (nth z52 xs (i - 1)) (nth z52 xs i) <;> simp [h0]
    · rw [if_neg h]
      simp [h]
  · intro k _
    simp only [spec_GuestsRight.l0]
    rw [if_neg (by omega)]
theorem spec_GuestsRight_eq (xs : List S52) (hn : xs.length ≤ 9223372036854775807) (k : Nat) (hk : xs.length + 3 < k) : spec_GuestsRight.f k xs = some (guestsRight xs) := by
  unfold spec_GuestsRight.f guestsRight
  by_cases h : xs.length ≤ 8
  · rw [if_neg (by omega), show (0 : Int) = ((0 : Nat) : Int) from rfl, spec_GuestsRight_loop xs hn xs.length 0 k (by omega) (by omega)]
    simp [h]
  · rw [if_pos (by omega)]
    simp [h]
theorem impl_GuestsRight_loop (xs : List S52) (hn : xs.length ≤ 9223372036854775807) : ∀ (d i k : Nat), i + d = xs.length → d + 3 < k → impl_GuestsRight.l0 k xs xs (xs.length : Int) (i : Int) = some (chk (guestAt xs) d i && decide (xs.length ≤ 8)) := by
  apply chk_loop 3 (fun k i => impl_GuestsRight.l0 k xs xs (xs.length : Int) i)
  · intro k i hc hi
    simp only [impl_GuestsRight.l0]
    rw [if_pos (by omega), if_pos (by omega), if_pos (by omega), rdG, impl_Guest_isRight_eq, Option.bind_some, rightG_eq]
    unfold guestAt
    by_cases h : rightG (nth z52 xs i) = true
    · rw [if_pos h, h, Bool.true_and]
      by_cases h0 : i = 0
      · subst h0
        rw [if_neg (by omega), if_pos (by simp), wrap_up hi hn]
      · rw [if_pos (by omega), wrap_down (by omega) (by omega), if_pos (by omega), if_pos (by omega), rdG, wrap_up hi hn, impl_Guest_order_eq _ _ k hc, Option.bind_some]
        have ho := ordG_neg (nth z52 xs (i - 1)) (nth z52 xs i)
        cases h1 : lessG (nth z52 xs (i - 1)) (nth z52 xs i) with
        | true => rw [if_neg (by rw [ho, h1]; simp)]; simp
        | false => rw [if_pos (by rw [ho, h1])]; simp [h0]
    · rw [if_neg h]
      simp [h]
  · intro k _
    simp only [impl_GuestsRight.l0]
    rw [if_neg (by omega)]
    simp only [Option.some.injEq, decide_eq_decide]
    omega
theorem impl_GuestsRight_eq (xs : List S52) (hn : xs.length ≤ 9223372036854775807) (k : Nat) (hk : xs.length + 3 < k) : impl_GuestsRight.f k xs = some (guestsRight xs) := by
  unfold impl_GuestsRight.f guestsRight
  rw [show (0 : Int) = ((0 : Nat) : Int) from rfl, impl_GuestsRight_loop xs hn xs.length 0 k (by omega) hk]
def toGuest (x : S64) : S52 := ⟨x.f0, x.f1, x.f2, x.f3, x.f4, x.f5, x.f6⟩
theorem laws_toGuestS_eq (xs : List S64) (hn : xs.length ≤ 1048576) (k : Nat) (hk : xs.length < k) : laws_toGuestS.f k xs = some (xs.map toGuest) := by
  unfold laws_toGuestS.f
  rw [if_pos (by omega), if_pos (by omega), show (0 : Int) = ((0 : Nat) : Int) from rfl]
  rw [fill_loop 0 (fun k acc i => laws_toGuestS.l0 k xs acc i) xs.length (fun j => toGuest (nth z64 xs j)) ?_ ?_ xs.length 0 k _ (by simp) (by omega) hk]
  · simp [map_range_getD]
  · intro k i acc _ hi hl
    simp only [laws_toGuestS.l0, laws_toGuest.f, Option.bind_some]
    rw [if_pos (by omega), if_pos (by omega), if_pos (by omega), wrap_up hi (by omega)]
    rfl
  · intro k acc _ hl
    simp only [laws_toGuestS.l0]
    rw [if_neg (by omega)]
theorem laws_eqGuestS_self (xs : List S52) (hn : xs.length ≤ 9223372036854775807) (k : Nat) (hk : xs.length < k) : laws_eqGuestS.f k xs xs = some true := by
  unfold laws_eqGuestS.f
  rw [if_pos rfl, show (0 : Int) = ((0 : Nat) : Int) from rfl]
  rw [chk_loop 0 (fun k i => laws_eqGuestS.l0 k xs xs i) xs.length (fun _ => true) true ?_ ?_ xs.length 0 k (by omega) hk]
  · simp only [Bool.and_true, Option.some.injEq, chk_iff]
    intros; trivial
  · intro k i _ hi
    simp only [laws_eqGuestS.l0, laws_eqGuest.f, if_true, Option.bind_some, bne_self_eq_false, Bool.false_eq_true, if_false]
    rw [if_pos (by omega), if_pos (by omega), if_pos (by omega), wrap_up hi hn]
  · intro k _
    simp only [laws_eqGuestS.l0]
    rw [if_neg (by omega)]
def markGuest (m : Int) : S52 := ⟨m, m + 1, m + 2, m + 3, m + 4, m + 5, Int.tmod (m + 6) 3 == 0⟩
theorem rd_set (xs : List S52) (i : Nat) (x : S52) (h : i < xs.length) : rd_T52 (xs.set i x) (i : Int) = x := by
  simp [rd_T52, h]
theorem laws_markGuestS_eq (xs : List S52) (m : Int) (hn : xs.length ≤ 1048576) (hm : 0 ≤ m) (hB : m ≤ 1000000000000) (k : Nat) (hk : xs.length < k) : laws_markGuestS.f k xs m = some (m + 7 * xs.length, marked 7 markGuest m xs.length) := by
  unfold laws_markGuestS.f
  refine mark_all 0 7 (fun k acc m i => laws_markGuestS.l0 k acc m i) xs markGuest 1000010000000 ?_ ?_ k m (by omega) hm (by omega)
  · intro k i acc m _ hi hl hm hB
    have e1 : wrap64 (m + 1) = m + 1 := by unfold wrap64; omega
    have e2 : wrap64 (m + 1 + 1) = m + 2 := by unfold wrap64; omega
    have e3 : wrap64 (m + 2 + 1) = m + 3 := by unfold wrap64; omega
    have e4 : wrap64 (m + 3 + 1) = m + 4 := by unfold wrap64; omega
    have e5 : wrap64 (m + 4 + 1) = m + 5 := by unfold wrap64; omega
    have e6 : wrap64 (m + 5 + 1) = m + 6 := by unfold wrap64; omega
    have e7 : wrap64 (m + 6 + 1) = m + 7 := by unfold wrap64; omega
    simp only [laws_markGuestS.l0, Option.bind_some, Int.toNat_natCast, e1, e2, e3, e4, e5, e6, e7]
    rw [if_pos (by omega), if_pos (by omega), wrap_up hi (by omega)]
    have hr : ∀ x : S52, rd_T52 (acc.set i x) (i : Int) = x := fun x => rd_set acc i x (by omega)
    simp only [hr, List.set_set]
    rfl
  · intro k acc m _ hl
    simp only [laws_markGuestS.l0]
    rw [if_neg (by omega)]
theorem laws_heldGuestS_eq (n : Nat) (m : Int) (hn : n ≤ 1048576) (hm : 0 ≤ m) (hB : m ≤ 1000000000000) (k : Nat) (hk : n < k) : laws_heldGuestS.f k (marked 7 markGuest m n) m = some (m + 7 * n) := by
  unfold laws_heldGuestS.f
  have hl := marked_length 7 markGuest m n
  have := held_loop z52 0 7 markGuest (fun k q i => laws_heldGuestS.l0 k (marked 7 markGuest m n) q i) n m 1000010000000 ?_ ?_ hm (by omega) n 0 k (by omega) (by omega)
  · simpa using this
  · intro k i q _ hi hq hq0 hqB
    have hx : rd_T52 (marked 7 markGuest m n) (i : Int) = markGuest q := by
      show nth z52 _ i = _
      rw [marked_nth _ hi, hq]
    have e1 : wrap64 (q + 1) = q + 1 := by unfold wrap64; omega
    have e2 : wrap64 (q + 1 + 1) = q + 2 := by unfold wrap64; omega
    have e3 : wrap64 (q + 2 + 1) = q + 3 := by unfold wrap64; omega
    have e4 : wrap64 (q + 3 + 1) = q + 4 := by unfold wrap64; omega
    have e5 : wrap64 (q + 4 + 1) = q + 5 := by unfold wrap64; omega
    have e6 : wrap64 (q + 5 + 1) = q + 6 := by unfold wrap64; omega
    have e7 : wrap64 (q + 6 + 1) = q + 7 := by unfold wrap64; omega
    simp only [laws_heldGuestS.l0, hx, markGuest, e1, e2, e3, e4, e5, e6, e7, if_true, bne_self_eq_false, Bool.false_eq_true, if_false]
    rw [if_pos (by omega), if_pos (by omega), wrap_up hi (by omega)]
    rfl
  · intro k q _
    simp only [laws_heldGuestS.l0]
    rw [if_neg (by omega)]
theorem laws_eqGuestsOut_self (xs ys : List S52) (c : Int) (hn : xs.length ≤ 1048576) (hn2 : ys.length ≤ 1048576) (k : Nat) (hk : xs.length < k) (hk2 : ys.length < k) : laws_eqGuestsOut.f k xs ys c xs ys c = some true := by
  unfold laws_eqGuestsOut.f
  rw [laws_eqGuestS_self xs (by omega) k hk, laws_eqGuestS_self ys (by omega) k hk2]
  simp
theorem laws_markGuestsOut_eq (xs ys : List S52) (c : Int) (hn : xs.length ≤ 1048576) (hn2 : ys.length ≤ 1048576) (k : Nat) (hk : xs.length < k) (hk2 : ys.length < k) : laws_markGuestsOut.f k xs ys c 1 = some (1 + 7 * (xs.length : Int) + 7 * (ys.length : Int), marked 7 markGuest 1 xs.length, marked 7 markGuest (1 + 7 * (xs.length : Int)) ys.length) := by
  unfold laws_markGuestsOut.f
  rw [laws_markGuestS_eq xs 1 hn (by omega) (by omega) k hk, Option.bind_some, laws_markGuestS_eq ys _ hn2 (by omega) (by omega) k hk2]
  rfl
theorem laws_heldGuestsOut_eq (n1 n2 : Nat) (c : Int) (hn : n1 ≤ 1048576) (hn2 : n2 ≤ 1048576) (k : Nat) (hk : n1 < k) (hk2 : n2 < k) : laws_heldGuestsOut.f k (marked 7 markGuest 1 n1) (marked 7 markGuest (1 + 7 * (n1 : Int)) n2) c 1 = some (1 + 7 * (n1 : Int) + 7 * (n2 : Int)) := by
  unfold laws_heldGuestsOut.f
  rw [laws_heldGuestS_eq n1 1 hn (by omega) (by omega) k hk, Option.bind_some, if_neg (by omega), laws_heldGuestS_eq n2 _ hn2 (by omega) (by omega) k hk2, Option.bind_some, if_neg (by omega)]
theorem putg_j2_some (l xs : List S52) (hl : l.length ≤ 1048576) (j k : Nat) (b : Bool) (hj : j ≤ l.length) (hx : xs.length = j + 1) (hb : b = true → j < l.length) (hk : 0 < k) : ∃ r, spec_l07Put.j2 k l (j : Int) xs b = some r ∧ r.1.length ≤ l.length + 1 ∧ r.2.1 = [] := by
  obtain ⟨k, rfl⟩ : ∃ m, k = m + 1 := ⟨k - 1, by omega⟩
  rw [spec_l07Put.j2]
  cases b with
  | true =>
    have hc := hb rfl
    have hw : wrap64 ((j : Int) + 1) = ((j + 1 : Nat) : Int) := by unfold wrap64; omega
    rw [if_pos rfl, hw, if_pos (by omega), if_pos (by omega), Option.bind_some, if_pos (by simp; omega)]
    exact ⟨_, rfl, by simp; omega, rfl⟩
  | false =>
    rw [if_neg (by decide)]
    by_cases h8 : (l.length : Int) ≥ 8
    · rw [if_pos h8, spec_l07Ill.f, Option.bind_some]
      exact ⟨_, rfl, Nat.zero_le _, rfl⟩
    · rw [if_neg h8, if_pos (by omega), if_pos (by omega), Option.bind_some, if_pos (by simp; omega)]
      exact ⟨_, rfl, by simp; omega, rfl⟩
theorem putg_j1_some (l : List S52) (y : S52) (hl : l.length ≤ 1048576) (j k : Nat) (hj : j ≤ l.length) (hk : 1 < k) : ∃ r, spec_l07Put.j1 k l (j : Int) y.f0 y.f1 y.f2 y.f3 y.f4 y.f5 y.f6 = some r ∧ r.1.length ≤ l.length + 1 ∧ r.2.1 = [] := by
  obtain ⟨k, rfl⟩ : ∃ m, k = m + 1 := ⟨k - 1, by omega⟩
  rw [spec_l07Put.j1, Option.bind_some, if_pos (by omega), if_pos (by omega), Option.bind_some, if_pos (by simp; omega), Option.bind_some, if_pos (by simp; omega), Option.bind_some]
  by_cases hc : j < l.length
  · rw [if_pos (by omega), rdG, spec_l07Less_eq, Option.bind_some]
    exact putg_j2_some l _ hl j k _ hj (by simp; omega) (fun _ => hc) (by omega)
  · rw [if_neg (by omega)]
    exact putg_j2_some l _ hl j k _ hj (by simp; omega) (fun h => by cases h) (by omega)
theorem putg_some (l : List S52) (y : S52) (hl : l.length ≤ 1048576) : ∀ (d j k : Nat), j + d = l.length → d + 2 < k → ∃ r, spec_l07Put.l0 k l (j : Int) y.f0 y.f1 y.f2 y.f3 y.f4 y.f5 y.f6 = some r ∧ r.1.length ≤ l.length + 1 ∧ r.2.1 = [] := by
  intro d
  induction d with
  | zero =>
    intro j k hd hk
    obtain ⟨k, rfl⟩ : ∃ m, k = m + 1 := ⟨k - 1, by omega⟩
    rw [spec_l07Put.l0, if_neg (by omega)]
    exact putg_j1_some l y hl j k (by omega) (by omega)
  | succ d ih =>
    intro j k hd hk
    obtain ⟨k, rfl⟩ : ∃ m, k = m + 1 := ⟨k - 1, by omega⟩
    have hw : wrap64 ((j : Int) + 1) = ((j + 1 : Nat) : Int) := by unfold wrap64; omega
    rw [spec_l07Put.l0, if_pos (by omega), if_pos (by omega), rdG, spec_l07Less_eq, Option.bind_some, hw]
    cases h1 : lessG (nth z52 l j) y with
    | true =>
      rw [if_pos rfl]
      exact ih (j + 1) k (by omega) (by omega)
    | false =>
      rw [if_neg (by decide)]
      exact putg_j1_some l y hl j k (by omega) (by omega)
theorem GuestPut_same (xs : List S52) (a b c d e f : Int) (g : Bool) (hn : xs.length ≤ 1048576) (k : Nat) (hk : xs.length + 5 < k) : ∃ r1 r2 r3, (r1.length ≤ xs.length + 1 ∧ r1.length ≤ 1048576) ∧ r2.length ≤ xs.length ∧ spec_GuestPut.f k xs a b c d e f g = some (r1, r2, r3) ∧ impl_GuestPut.f k xs a b c d e f g = some (r1, r2, r3) := by
  obtain ⟨k, rfl⟩ : ∃ m, k = m + 1 := ⟨k - 1, by omega⟩
  have hcl : impl_Guest_127.f xs = some xs := by
    simp only [impl_Guest_127.f, Option.bind_some, List.nil_append]
    rw [if_pos (by simp; omega)]
  unfold spec_GuestPut.f impl_GuestPut.f
  rw [spec_GuestsRight_eq xs (by omega) _ (by omega), impl_GuestsRight_eq xs (by omega) _ (by omega), spec_l07Guest_eq, impl_Guest_isRight_eq, hcl]
  simp only [Option.bind_some, spec_l07Ill.f, spec_GuestPut.j0, impl_GuestPut.j0]
  by_cases h : xs.length > 400
  · rw [if_pos (by omega)]
    exact ⟨_, _, _, ⟨Nat.zero_le _, Nat.zero_le _⟩, Nat.zero_le _, rfl, rfl⟩
  · rw [if_neg (by omega)]
    cases hg : guestsRight xs with
    | false => exact ⟨_, _, _, ⟨Nat.zero_le _, Nat.zero_le _⟩, Nat.zero_le _, rfl, rfl⟩
    | true =>
      cases ht : guestB a b c d e f with
      | false => exact ⟨_, _, _, ⟨Nat.zero_le _, Nat.zero_le _⟩, Nat.zero_le _, rfl, rfl⟩
      | true =>
        obtain ⟨⟨z1, z2, z3⟩, h1, h2, h3⟩ := putg_some xs ⟨a, b, c, d, e, f, g⟩ hn xs.length 0 k (by omega) (by omega)
        have h1' : spec_l07Put.f k xs a b c d e f g = some (z1, z2, z3) := h1
        have h3' : z2 = [] := h3
        subst h3'
        simp only [h1', Option.bind_some, Bool.not_true, Bool.false_eq_true, if_false, if_true]
        exact ⟨_, _, _, ⟨h2, by have : z1.length ≤ xs.length + 1 := h2; omega⟩, Nat.zero_le _, rfl, rfl⟩
theorem FnExactGuestPut : ∀ (x0 : List S64) (x1 x2 x3 x4 x5 x6 : Int) (x7 : Bool), (x0.length ≤ maxLen ∧ ∀ y ∈ x0, (Lit.int .i64 y.f0).wf = true ∧ (Lit.int .i64 y.f1).wf = true ∧ (Lit.int .i64 y.f2).wf = true ∧ (Lit.int .i64 y.f3).wf = true ∧ (Lit.int .i64 y.f4).wf = true ∧ (Lit.int .i64 y.f5).wf = true ∧ True) → (Lit.int .i64 x1).wf = true → (Lit.int .i64 x2).wf = true → (Lit.int .i64 x3).wf = true → (Lit.int .i64 x4).wf = true → (Lit.int .i64 x5).wf = true → (Lit.int .i64 x6).wf = true → ∃ k, laws_FnExactGuestPut.f k x0 x1 x2 x3 x4 x5 x6 x7 = some true := by
  intro xs a b c d e f g ⟨hl, _⟩ _ _ _ _ _ _
  have hl' : xs.length ≤ 9223372036854775807 := hl
  refine ⟨xs.length + 8, ?_⟩
  unfold laws_FnExactGuestPut.f laws_szGuestS.f
  rw [sz_wrap hl']
  by_cases h : (1048576 : Int) - xs.length < 0
  · rw [if_pos h]; rfl
  · rw [if_neg h]
    simp only [Option.bind_some, laws_toGuest.f]
    have hx : (xs.map toGuest).length = xs.length := by simp
    rw [if_neg h, laws_toGuestS_eq xs (by omega) _ (by omega)]
    simp only [Option.bind_some]
    obtain ⟨r1, r2, r3, ⟨hr0, hr1⟩, hr2, h1, h2⟩ := GuestPut_same (xs.map toGuest) a b c d e f g (by omega) (xs.length + 8) (by omega)
    have h3 : impl_GuestPut.f (xs.length + 7) (xs.map toGuest) a b c d e f g = some (r1, r2, r3) := by
      obtain ⟨r1', r2', r3', _, _, _, h2'⟩ := GuestPut_same (xs.map toGuest) a b c d e f g (by omega) (xs.length + 7) (by omega)
      have := impl_GuestPut.mono _ _ _ _ _ _ _ _ _ _ h2'
      rw [h2] at this
      rw [h2', this]
    rw [h1]
    simp only [Option.bind_some]
    rw [h2]
    simp only [Option.bind_some]
    rw [laws_eqGuestsOut_self _ _ _ (by omega) (by omega) _ (by omega) (by omega)]
    simp only [Option.bind_some, if_true]
    rw [laws_eqGuestS_self _ (by omega) _ (by omega)]
    simp only [Option.bind_some, if_true]
    rw [laws_markGuestS_eq _ 1 (by omega) (by omega) (by omega) _ (by omega)]
    simp only [Option.bind_some]
    rw [if_neg (by omega)]
    simp only [laws_FnExactGuestPut.j0, Bool.not_true, Bool.false_eq_true, if_false]
    rw [laws_markGuestsOut_eq _ _ _ (by omega) (by omega) _ (by omega) (by omega)]
    simp only [Option.bind_some]
    rw [laws_heldGuestsOut_eq _ _ _ (by omega) (by omega) _ (by omega) (by omega)]
    simp only [Option.bind_some, if_true]
    rw [if_neg (by omega), laws_toGuestS_eq xs (by omega) _ (by omega)]
    simp only [Option.bind_some, laws_toGuest.f]
    rw [h3]
    simp only [Option.bind_some]
    rw [laws_eqGuestsOut_self _ _ _ (by omega) (by omega) _ (by omega) (by omega)]
    simp only [Option.bind_some, if_true]
    rw [if_neg (by omega)]
end Go.Proofs.Ytifahfnbjidfhaa.fnExactGuestPutRow.Pure
