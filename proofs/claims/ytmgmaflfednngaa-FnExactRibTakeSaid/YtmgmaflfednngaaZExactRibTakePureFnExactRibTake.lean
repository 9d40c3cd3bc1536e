-- A copy, by trim.py of this session's wip/gen, of a text of this claim, without what the row does not reach and without comments: not an official print.
import Derived.Test.YtmgmaflfednngaaZExactRibTakePFnExactRibTakex0
import Derived.Test.YtmgmaflfednngaaZExactRibTakePFnExactRibTakex1
import Derived.Test.YtmgmaflfednngaaZExactRibTakePFnExactRibTakex2
import Derived.Test.YtmgmaflfednngaaZExactRibTakePFnExactRibTakex3
import Derived.Test.YtmgmaflfednngaaZExactRibTakePFnExactRibTakex4
import Derived.Test.YtmgmaflfednngaaZExactRibTakePFnExactRibTakex5
import Derived.Test.YtmgmaflfednngaaZExactRibTakePFnExactRibTakex6
import Derived.Test.YtmgmaflfednngaaZExactRibTakePFnExactRibTakex7
import Derived.Test.YtmgmaflfednngaaZExactRibTakePFnExactRibTakex8
import Derived.Test.YtmgmaflfednngaaZExactRibTakePFnExactRibTakex9
import Derived.Test.YtmgmaflfednngaaZExactRibTakePFnExactRibTakex10
import Derived.Test.YtmgmaflfednngaaZExactRibTakePFnExactRibTakex11
import Derived.Test.YtmgmaflfednngaaZExactRibTakePFnExactRibTakex12
import Derived.Test.YtmgmaflfednngaaZExactRibTakePFnExactRibTakex13
import Derived.Test.YtmgmaflfednngaaZExactRibTakePFnExactRibTakex14
import Derived.Test.YtmgmaflfednngaaZExactRibTakePFnExactRibTakex15
import Derived.Test.YtmgmaflfednngaaZExactRibTakeBase
set_option linter.unusedSimpArgs false
set_option linter.unusedVariables false
namespace Go.Proofs.Ytmgmaflfednngaa.fnExactRibTakeRow.Pure
open Go.RowKit Go.Proofs.YtmgmaflfednngaaW.PrintWords Go.Proofs.YtmgmaflfednngaaW.PrintLast Go.Proofs.Ytmgmaflfednngaa.PFnExactRibTake Go.Proofs.Ytmgmaflfednngaa.Base
theorem Q7 (a b c : Int) : spec_l02Is.f a b c = some (inB a b c) := by
  unfold spec_l02Is.f inB
  by_cases h : b ≤ a <;> simp [h]
theorem impl_in_eq (a b c : Int) : impl_in.f a b c = some (inB a b c) := by
  unfold impl_in.f inB
  by_cases h : b ≤ a <;> simp [h]
theorem spec_l02Mac_eq (a : Int) : spec_l02Mac.f a = some (macB a) := by simp [spec_l02Mac.f, Q7, macB]
theorem spec_l02Ip_eq (a : Int) : spec_l02Ip.f a = some (ipB a) := by simp [spec_l02Ip.f, Q7, ipB]
theorem spec_l02Vni_eq (a : Int) : spec_l02Vni.f a = some (vniB a) := by simp [spec_l02Vni.f, Q7, vniB]
theorem spec_IsGroup_eq (a : Int) : spec_IsGroup.f a = some (groupB a) := by
  simp [spec_IsGroup.f, spec_l02Mac_eq, groupB]
  cases macB a <;> simp
theorem impl_isMac_eq (a : Int) : impl_isMac.f a = some (macB a) := by simp [impl_isMac.f, impl_in_eq, macB]
theorem impl_isIp_eq (a : Int) : impl_isIp.f a = some (ipB a) := by simp [impl_isIp.f, impl_in_eq, ipB]
theorem impl_isVni_eq (a : Int) : impl_isVni.f a = some (vniB a) := by simp [impl_isVni.f, impl_in_eq, vniB]
theorem impl_isTime_eq (a : Int) : impl_isTime.f a = some (timeB a) := by simp [impl_isTime.f, impl_in_eq, timeB]
theorem impl_isHouse_eq (a : Int) : impl_isHouse.f a = some (houseB a) := by simp [impl_isHouse.f, impl_in_eq, houseB]
theorem impl_IsGroup_eq (a : Int) : impl_IsGroup.f a = some (groupB a) := by
  simp [impl_IsGroup.f, impl_isMac_eq, groupB]
  cases macB a <;> simp
theorem impl_isGuest_eq (a : Int) : impl_isGuest.f a = some (macB a && !groupB a) := by
  simp [impl_isGuest.f, impl_isMac_eq, impl_IsGroup_eq]
  cases macB a <;> simp
theorem cmp_Compare_eq (a b : Int) : cmp_Compare_int64.f a b = some (cmpI a b) := by
  simp only [cmp_Compare_int64.f, cmp_isNaN_int64.f, Option.bind_some, bne_self_eq_false, cmpI]
  simp only [Bool.false_eq_true, if_false]
  repeat' split
  all_goals rfl
theorem cmp_Or_eq (xs : List Int) (hn : xs.length ≤ 100) (k : Nat) (hk : xs.length < k) : cmp_Or_int.f k xs = some (firstNZ xs) := by
  have key : ∀ (d i k : Nat), i + d = xs.length → d < k → cmp_Or_int.l0 k 0 xs (xs.length : Int) (i : Int) = some (firstNZ (xs.drop i)) := by
    intro d
    induction d with
    | zero =>
      intro i k hd hk
      obtain ⟨k, rfl⟩ : ∃ m, k = m + 1 := ⟨k - 1, by omega⟩
      simp only [cmp_Or_int.l0]
      rw [if_neg (by omega), List.drop_of_length_le (by omega)]
      rfl
    | succ d ih =>
      intro i k hd hk
      obtain ⟨k, rfl⟩ : ∃ m, k = m + 1 := ⟨k - 1, by omega⟩
      simp only [cmp_Or_int.l0]
      rw [if_pos (by omega), if_pos (by omega), if_pos (by omega), show rd xs (i : Int) = nth 0 xs i from rfl, drop_nth 0 (by omega : i < xs.length), wrap_up (by omega : i < xs.length) (by omega), ih (i + 1) k (by omega) (by omega)]
      simp only [firstNZ]
      split <;> rfl
  exact key xs.length 0 k (by omega) hk
def routeB (k v m ip o s : Int) (st : Bool) : Bool := vniB v && houseB o && (if k = 2 then (macB m && !groupB m) && ipB ip && timeB s else decide (k = 3) && decide (m = 0) && decide (ip = 0) && decide (s = 0) && !st)
theorem spec_RouteRight_eq (k v m ip o s : Int) (st : Bool) (n : Nat) (hn : 1 ≤ n) : spec_RouteRight.f n k v m ip o s st = some (routeB k v m ip o s st) := by
  obtain ⟨n, rfl⟩ : ∃ q, n = q + 1 := ⟨n - 1, by omega⟩
  unfold spec_RouteRight.f routeB
  rw [spec_l02Vni_eq, Q7, show inB o 1 4 = houseB o from rfl]
  simp only [Option.bind_some, spec_RouteRight.j0, spec_l02Mac_eq, spec_IsGroup_eq, spec_l02Ip_eq, Q7, show inB s 0 1000000 = timeB s from rfl]
  cases vniB v <;> cases houseB o <;> simp
  by_cases h2 : k = 2
  · cases macB m <;> cases groupB m <;> cases ipB ip <;> simp [h2]
  · by_cases h3 : k = 3
    · by_cases h4 : m = 0 <;> by_cases h5 : ip = 0 <;> by_cases h6 : s = 0 <;> simp [h3, h4, h5, h6]
    · simp [h2, h3]
theorem impl_RouteRight_eq (k v m ip o s : Int) (st : Bool) (n : Nat) (hn : 1 ≤ n) : impl_RouteRight.f n k v m ip o s st = some (routeB k v m ip o s st) := by
  obtain ⟨n, rfl⟩ : ∃ q, n = q + 1 := ⟨n - 1, by omega⟩
  unfold impl_RouteRight.f routeB
  rw [impl_isVni_eq, impl_isHouse_eq]
  simp only [Option.bind_some, impl_RouteRight.j0, impl_isGuest_eq, impl_isIp_eq, impl_isTime_eq]
  cases vniB v <;> cases houseB o <;> simp
  by_cases h2 : k = 2
  · cases macB m <;> cases groupB m <;> cases ipB ip <;> simp [h2]
  · by_cases h3 : k = 3
    · by_cases h4 : m = 0 <;> by_cases h5 : ip = 0 <;> by_cases h6 : s = 0 <;> simp [h3, h4, h5, h6]
    · simp [h2, h3]
def peerB (a : Int) : Bool := inB a 1 9
def lessH (a b : S73) : Bool := if a.f0 = b.f0 then (if a.f2.f0 = b.f2.f0 then (if a.f2.f1 = b.f2.f1 then (if a.f2.f2 = b.f2.f2 then decide (a.f2.f4 < b.f2.f4) else decide (a.f2.f2 < b.f2.f2)) else decide (a.f2.f1 < b.f2.f1)) else decide (a.f2.f0 < b.f2.f0)) else decide (a.f0 < b.f0)
def rightH (a : S73) : Bool := peerB a.f0 && routeB a.f2.f0 a.f2.f1 a.f2.f2 a.f2.f3 a.f2.f4 a.f2.f5 a.f2.f6
def heldAt (xs : List S73) (j : Nat) : Bool := rightH (nth z73 xs j) && (j == 0 || lessH (nth z73 xs (j - 1)) (nth z73 xs j))
def ribRight (xs : List S73) : Bool := chk (heldAt xs) xs.length 0 && decide (xs.length ≤ 60)
theorem rdH (xs : List S73) (i : Nat) : Qc xs (i : Int) = nth z73 xs i := rfl
theorem spec_l06Less_eq (a b : S73) : spec_l06Less.f a.f0 a.f1 a.f2.f0 a.f2.f1 a.f2.f2 a.f2.f3 a.f2.f4 a.f2.f5 a.f2.f6 b.f0 b.f1 b.f2.f0 b.f2.f1 b.f2.f2 b.f2.f3 b.f2.f4 b.f2.f5 b.f2.f6 = some (lessH a b) := by
  unfold spec_l06Less.f lessH
  repeat' split
  all_goals rfl
theorem fnz_cons (a b : Int) (l : List Int) : (0 ≤ firstNZ (cmpI a b :: l)) ↔ (if a = b then 0 ≤ firstNZ l else ¬ a < b) := by
  have e : firstNZ (cmpI a b :: l) = if cmpI a b = 0 then firstNZ l else cmpI a b := rfl
  rw [e]
  unfold cmpI
  rcases Int.lt_trichotomy a b with h | h | h
  · rw [if_pos h, if_neg (by omega), if_neg (by omega)]; simp [h]
  · subst h; simp
  · rw [if_neg (by omega), if_pos h, if_neg (by omega), if_neg (by omega)]; simp; omega
def ordH (a b : S73) : Int := firstNZ [cmpI a.f0 b.f0, cmpI a.f2.f0 b.f2.f0, cmpI a.f2.f1 b.f2.f1, cmpI a.f2.f2 b.f2.f2, cmpI a.f2.f4 b.f2.f4]
theorem impl_Held_order_eq (a b : S73) (k : Nat) (hk : 6 ≤ k) : impl_Held_order.f k a.f0 a.f1 a.f2.f0 a.f2.f1 a.f2.f2 a.f2.f3 a.f2.f4 a.f2.f5 a.f2.f6 b.f0 b.f1 b.f2.f0 b.f2.f1 b.f2.f2 b.f2.f3 b.f2.f4 b.f2.f5 b.f2.f6 = some (ordH a b) := by
  simp only [impl_Held_order.f, cmp_Compare_eq, Option.bind_some]
  rw [cmp_Or_eq _ (by simp) k (by simp; omega)]
  rfl
theorem ordH_neg (a b : S73) : (ordH a b ≥ 0) ↔ lessH a b = false := by
  show 0 ≤ ordH a b ↔ _
  unfold ordH lessH
  simp only [fnz_cons]
  have h0 : 0 ≤ firstNZ [] := by simp [firstNZ]
  repeat' split
  all_goals simp_all
theorem spec_RibRight_loop (xs : List S73) (hn : xs.length ≤ 9223372036854775807) : ∀ (d i k : Nat), i + d = xs.length → d + 1 < k → spec_RibRight.l0 k xs (i : Int) = some (chk (heldAt xs) d i && true) := by
  apply chk_loop 1 (fun k i => spec_RibRight.l0 k xs i)
  · intro k i hc hi
    simp only [spec_RibRight.l0]
    rw [if_pos (by omega), if_pos (by omega), rdH, spec_l06Peer.f, Q7, Option.bind_some, show inB (nth z73 xs i).f0 1 9 = peerB (nth z73 xs i).f0 from rfl, spec_RouteRight_eq _ _ _ _ _ _ _ k hc]
    simp only [Option.bind_some]
    unfold heldAt rightH
    cases h1 : peerB (nth z73 xs i).f0 with
    | false => simp
    | true =>
      rw [if_pos rfl]
      cases h2 : routeB (nth z73 xs i).f2.f0 (nth z73 xs i).f2.f1 (nth z73 xs i).f2.f2 (nth z73 xs i).f2.f3 (nth z73 xs i).f2.f4 (nth z73 xs i).f2.f5 (nth z73 xs i).f2.f6 with
      | false => simp
      | true =>
        rw [if_pos rfl]
        by_cases h0 : i = 0
        · subst h0
          rw [if_neg (by omega), if_pos (by simp), wrap_up hi hn]
        · rw [if_pos (by omega), wrap_down (by omega) (by omega), if_pos (by omega), if_pos (by omega), rdH, wrap_up hi hn, spec_l06Less_eq, Option.bind_some]
          cases h3 : lessH (nth z73 xs (i - 1)) (nth z73 xs i) <;> simp [h0]
  · intro k _
    simp only [spec_RibRight.l0]
    rw [if_neg (by omega)]
theorem spec_RibRight_eq (xs : List S73) (hn : xs.length ≤ 9223372036854775807) (k : Nat) (hk : xs.length + 6 < k) : spec_RibRight.f k xs = some (ribRight xs) := by
  unfold spec_RibRight.f ribRight
  by_cases h : xs.length ≤ 60
  · rw [if_neg (by omega), show (0 : Int) = ((0 : Nat) : Int) from rfl, spec_RibRight_loop xs hn xs.length 0 k (by omega) (by omega)]
    simp [h]
  · rw [if_pos (by omega)]
    simp [h]
theorem impl_RibRight_loop (xs : List S73) (hn : xs.length ≤ 9223372036854775807) : ∀ (d i k : Nat), i + d = xs.length → d + 6 < k → impl_RibRight.l0 k xs xs (xs.length : Int) (i : Int) = some (chk (heldAt xs) d i && decide (xs.length ≤ 60)) := by
  apply chk_loop 6 (fun k i => impl_RibRight.l0 k xs xs (xs.length : Int) i)
  · intro k i hc hi
    simp only [impl_RibRight.l0]
    rw [if_pos (by omega), if_pos (by omega), if_pos (by omega), rdH, impl_isPeer.f, impl_in_eq, Option.bind_some, show inB (nth z73 xs i).f0 1 9 = peerB (nth z73 xs i).f0 from rfl, impl_RouteRight_eq _ _ _ _ _ _ _ k (by omega)]
    simp only [Option.bind_some]
    unfold heldAt rightH
    cases h1 : peerB (nth z73 xs i).f0 with
    | false => simp
    | true =>
      rw [if_pos rfl]
      cases h2 : routeB (nth z73 xs i).f2.f0 (nth z73 xs i).f2.f1 (nth z73 xs i).f2.f2 (nth z73 xs i).f2.f3 (nth z73 xs i).f2.f4 (nth z73 xs i).f2.f5 (nth z73 xs i).f2.f6 with
      | false => simp
      | true =>
        rw [if_pos rfl]
        by_cases h0 : i = 0
        · subst h0
          rw [if_neg (by omega), if_pos (by simp), wrap_up hi hn]
        · rw [if_pos (by omega), wrap_down (by omega) (by omega), if_pos (by omega), if_pos (by omega), rdH, wrap_up hi hn, impl_Held_order_eq _ _ k hc, Option.bind_some]
          have ho := ordH_neg (nth z73 xs (i - 1)) (nth z73 xs i)
          cases h3 : lessH (nth z73 xs (i - 1)) (nth z73 xs i) with
          | true => rw [if_neg (by rw [ho, h3]; simp)]; simp
          | false => rw [if_pos (by rw [ho, h3])]; simp [h0]
  · intro k _
    simp only [impl_RibRight.l0]
    rw [if_neg (by omega)]
    simp only [Option.some.injEq, decide_eq_decide]
    omega
theorem impl_RibRight_eq (xs : List S73) (hn : xs.length ≤ 9223372036854775807) (k : Nat) (hk : xs.length + 6 < k) : impl_RibRight.f k xs = some (ribRight xs) := by
  unfold impl_RibRight.f ribRight
  rw [show (0 : Int) = ((0 : Nat) : Int) from rfl, impl_RibRight_loop xs hn xs.length 0 k (by omega) hk]
def toRoute (x : S40) : S42 := ⟨x.f0, x.f1, x.f2, x.f3, x.f4, x.f5, x.f6⟩
def toHeld (x : S76) : S73 := ⟨x.f0, x.f1, toRoute x.f2⟩
theorem laws_toHeldS_eq (xs : List S76) (hn : xs.length ≤ 1048576) (k : Nat) (hk : xs.length < k) : laws_toHeldS.f k xs = some (xs.map toHeld) := by
  unfold laws_toHeldS.f
  rw [if_pos (by omega), if_pos (by omega), show (0 : Int) = ((0 : Nat) : Int) from rfl]
  rw [fill_loop 0 (fun k acc i => laws_toHeldS.l0 k xs acc i) xs.length (fun j => toHeld (nth z76 xs j)) ?_ ?_ xs.length 0 k _ (by simp) (by omega) hk]
  · simp [map_range_getD]
  · intro k i acc _ hi hl
    simp only [laws_toHeldS.l0, laws_toHeld.f, laws_toRoute.f, Option.bind_some]
    rw [if_pos (by omega), if_pos (by omega), if_pos (by omega), wrap_up hi (by omega)]
    rfl
  · intro k acc _ hl
    simp only [laws_toHeldS.l0]
    rw [if_neg (by omega)]
theorem laws_eqHeldS_self (xs : List S73) (hn : xs.length ≤ 9223372036854775807) (k : Nat) (hk : xs.length < k) : laws_eqHeldS.f k xs xs = some true := by
  unfold laws_eqHeldS.f
  rw [if_pos rfl, show (0 : Int) = ((0 : Nat) : Int) from rfl]
  rw [chk_loop 0 (fun k i => laws_eqHeldS.l0 k xs xs i) xs.length (fun _ => true) true ?_ ?_ xs.length 0 k (by omega) hk]
  · simp only [Bool.and_true, Option.some.injEq, chk_iff]
    intros; trivial
  · intro k i _ hi
    simp only [laws_eqHeldS.l0, laws_eqHeld.f, laws_eqRoute.f, if_true, Option.bind_some, bne_self_eq_false, Bool.false_eq_true, if_false]
    rw [if_pos (by omega), if_pos (by omega), if_pos (by omega), wrap_up hi hn]
  · intro k _
    simp only [laws_eqHeldS.l0]
    rw [if_neg (by omega)]
theorem laws_eqRouteS_self (xs : List S42) (hn : xs.length ≤ 9223372036854775807) (k : Nat) (hk : xs.length < k) : laws_eqRouteS.f k xs xs = some true := by
  unfold laws_eqRouteS.f
  rw [if_pos rfl, show (0 : Int) = ((0 : Nat) : Int) from rfl]
  rw [chk_loop 0 (fun k i => laws_eqRouteS.l0 k xs xs i) xs.length (fun _ => true) true ?_ ?_ xs.length 0 k (by omega) hk]
  · simp only [Bool.and_true, Option.some.injEq, chk_iff]
    intros; trivial
  · intro k i _ hi
    simp only [laws_eqRouteS.l0, laws_eqRoute.f, if_true, Option.bind_some, bne_self_eq_false, Bool.false_eq_true, if_false]
    rw [if_pos (by omega), if_pos (by omega), if_pos (by omega), wrap_up hi hn]
  · intro k _
    simp only [laws_eqRouteS.l0]
    rw [if_neg (by omega)]
def markHeld (m : Int) : S73 := ⟨m, Int.tmod (m + 1) 3 == 0, ⟨m + 2, m + 3, m + 4, m + 5, m + 6, m + 7, Int.tmod (m + 8) 3 == 0⟩⟩
def markRoute (m : Int) : S42 := ⟨m, m + 1, m + 2, m + 3, m + 4, m + 5, Int.tmod (m + 6) 3 == 0⟩
theorem rd_setH (xs : List S73) (i : Nat) (x : S73) (h : i < xs.length) : Qc (xs.set i x) (i : Int) = x := by
  simp [Qc, h]
theorem rd_setR (xs : List S42) (i : Nat) (x : S42) (h : i < xs.length) : Qk (xs.set i x) (i : Int) = x := by
  simp [Qk, h]
theorem laws_markHeldS_eq (xs : List S73) (m : Int) (hn : xs.length ≤ 1048576) (hm : 0 ≤ m) (hB : m ≤ 1000000000000) (k : Nat) (hk : xs.length < k) : laws_markHeldS.f k xs m = some (m + 9 * xs.length, marked 9 markHeld m xs.length) := by
  unfold laws_markHeldS.f
  refine mark_all 0 9 (fun k acc m i => laws_markHeldS.l0 k acc m i) xs markHeld 1000010000000 ?_ ?_ k m (by omega) hm (by omega)
  · intro k i acc m _ hi hl hm hB
    have e1 : wrap64 (m + 1) = m + 1 := by unfold wrap64; omega
    have e2 : wrap64 (m + 1 + 1) = m + 2 := by unfold wrap64; omega
    have e3 : wrap64 (m + 2 + 1) = m + 3 := by unfold wrap64; omega
    have e4 : wrap64 (m + 3 + 1) = m + 4 := by unfold wrap64; omega
    have e5 : wrap64 (m + 4 + 1) = m + 5 := by unfold wrap64; omega
    have e6 : wrap64 (m + 5 + 1) = m + 6 := by unfold wrap64; omega
    have e7 : wrap64 (m + 6 + 1) = m + 7 := by unfold wrap64; omega
    have e8 : wrap64 (m + 7 + 1) = m + 8 := by unfold wrap64; omega
    have e9 : wrap64 (m + 8 + 1) = m + 9 := by unfold wrap64; omega
    have hr : ∀ x : S73, Qc (acc.set i x) (i : Int) = x := fun x => rd_setH acc i x (by omega)
    simp only [laws_markHeldS.l0, Option.bind_some, Int.toNat_natCast, e1, e2, e3, e4, e5, e6, e7, e8, e9, hr, List.set_set]
    rw [if_pos (by omega), if_pos (by omega), wrap_up hi (by omega)]
    rfl
  · intro k acc m _ hl
    simp only [laws_markHeldS.l0]
    rw [if_neg (by omega)]
theorem laws_markRouteS_eq (xs : List S42) (m : Int) (hn : xs.length ≤ 1048576) (hm : 0 ≤ m) (hB : m ≤ 1000000000000) (k : Nat) (hk : xs.length < k) : laws_markRouteS.f k xs m = some (m + 7 * xs.length, marked 7 markRoute m xs.length) := by
  unfold laws_markRouteS.f
  refine mark_all 0 7 (fun k acc m i => laws_markRouteS.l0 k acc m i) xs markRoute 1000010000000 ?_ ?_ k m (by omega) hm (by omega)
  · intro k i acc m _ hi hl hm hB
    have e1 : wrap64 (m + 1) = m + 1 := by unfold wrap64; omega
    have e2 : wrap64 (m + 1 + 1) = m + 2 := by unfold wrap64; omega
    have e3 : wrap64 (m + 2 + 1) = m + 3 := by unfold wrap64; omega
    have e4 : wrap64 (m + 3 + 1) = m + 4 := by unfold wrap64; omega
    have e5 : wrap64 (m + 4 + 1) = m + 5 := by unfold wrap64; omega
    have e6 : wrap64 (m + 5 + 1) = m + 6 := by unfold wrap64; omega
    have e7 : wrap64 (m + 6 + 1) = m + 7 := by unfold wrap64; omega
    have hr : ∀ x : S42, Qk (acc.set i x) (i : Int) = x := fun x => rd_setR acc i x (by omega)
    simp only [laws_markRouteS.l0, Option.bind_some, Int.toNat_natCast, e1, e2, e3, e4, e5, e6, e7, hr, List.set_set]
    rw [if_pos (by omega), if_pos (by omega), wrap_up hi (by omega)]
    rfl
  · intro k acc m _ hl
    simp only [laws_markRouteS.l0]
    rw [if_neg (by omega)]
theorem laws_heldRouteS_eq (n : Nat) (m : Int) (hn : n ≤ 1048576) (hm : 0 ≤ m) (hB : m ≤ 1000000000000) (k : Nat) (hk : n < k) : laws_heldRouteS.f k (marked 7 markRoute m n) m = some (m + 7 * n) := by
  unfold laws_heldRouteS.f
  have hl := marked_length 7 markRoute m n
  have := held_loop z42 0 7 markRoute (fun k q i => laws_heldRouteS.l0 k (marked 7 markRoute m n) q i) n m 1000010000000 ?_ ?_ hm (by omega) n 0 k (by omega) (by omega)
  · simpa using this
  · intro k i q _ hi hq hq0 hqB
    have hx : Qk (marked 7 markRoute m n) (i : Int) = markRoute q := by
      show nth z42 _ i = _
      rw [marked_nth _ hi, hq]
    have e1 : wrap64 (q + 1) = q + 1 := by unfold wrap64; omega
    have e2 : wrap64 (q + 1 + 1) = q + 2 := by unfold wrap64; omega
    have e3 : wrap64 (q + 2 + 1) = q + 3 := by unfold wrap64; omega
    have e4 : wrap64 (q + 3 + 1) = q + 4 := by unfold wrap64; omega
    have e5 : wrap64 (q + 4 + 1) = q + 5 := by unfold wrap64; omega
    have e6 : wrap64 (q + 5 + 1) = q + 6 := by unfold wrap64; omega
    have e7 : wrap64 (q + 6 + 1) = q + 7 := by unfold wrap64; omega
    simp only [laws_heldRouteS.l0, hx, markRoute, e1, e2, e3, e4, e5, e6, e7, if_true, bne_self_eq_false, Bool.false_eq_true, if_false]
    rw [if_pos (by omega), if_pos (by omega), wrap_up hi (by omega)]
    rfl
  · intro k q _
    simp only [laws_heldRouteS.l0]
    rw [if_neg (by omega)]
theorem laws_heldHeldS_eq (n : Nat) (m : Int) (hn : n ≤ 1048576) (hm : 0 ≤ m) (hB : m ≤ 1000000000000) (k : Nat) (hk : n < k) : laws_heldHeldS.f k (marked 9 markHeld m n) m = some (m + 9 * n) := by
  unfold laws_heldHeldS.f
  have hl := marked_length 9 markHeld m n
  have := held_loop z73 0 9 markHeld (fun k q i => laws_heldHeldS.l0 k (marked 9 markHeld m n) q i) n m 1000010000000 ?_ ?_ hm (by omega) n 0 k (by omega) (by omega)
  · simpa using this
  · intro k i q _ hi hq hq0 hqB
    have hx : Qc (marked 9 markHeld m n) (i : Int) = markHeld q := by
      show nth z73 _ i = _
      rw [marked_nth _ hi, hq]
    have e1 : wrap64 (q + 1) = q + 1 := by unfold wrap64; omega
    have e2 : wrap64 (q + 1 + 1) = q + 2 := by unfold wrap64; omega
    have e3 : wrap64 (q + 2 + 1) = q + 3 := by unfold wrap64; omega
    have e4 : wrap64 (q + 3 + 1) = q + 4 := by unfold wrap64; omega
    have e5 : wrap64 (q + 4 + 1) = q + 5 := by unfold wrap64; omega
    have e6 : wrap64 (q + 5 + 1) = q + 6 := by unfold wrap64; omega
    have e7 : wrap64 (q + 6 + 1) = q + 7 := by unfold wrap64; omega
    have e8 : wrap64 (q + 7 + 1) = q + 8 := by unfold wrap64; omega
    have e9 : wrap64 (q + 8 + 1) = q + 9 := by unfold wrap64; omega
    simp only [laws_heldHeldS.l0, hx, markHeld, e1, e2, e3, e4, e5, e6, e7, e8, e9, if_true, bne_self_eq_false, Bool.false_eq_true, if_false]
    rw [if_pos (by omega), if_pos (by omega), wrap_up hi (by omega)]
    rfl
  · intro k q _
    simp only [laws_heldHeldS.l0]
    rw [if_neg (by omega)]
theorem laws_eqRibOut_self (xs : List S73) (ys : List S42) (c : Int) (hn : xs.length ≤ 1048576) (hn2 : ys.length ≤ 1048576) (k : Nat) (hk : xs.length < k) (hk2 : ys.length < k) : laws_eqRibOut.f k xs ys c xs ys c = some true := by
  unfold laws_eqRibOut.f
  rw [laws_eqHeldS_self xs (by omega) k hk, laws_eqRouteS_self ys (by omega) k hk2]
  simp
theorem laws_markRibOut_eq (xs : List S73) (ys : List S42) (c : Int) (hn : xs.length ≤ 1048576) (hn2 : ys.length ≤ 1048576) (k : Nat) (hk : xs.length < k) (hk2 : ys.length < k) : laws_markRibOut.f k xs ys c 1 = some (1 + 9 * (xs.length : Int) + 7 * (ys.length : Int), marked 9 markHeld 1 xs.length, marked 7 markRoute (1 + 9 * (xs.length : Int)) ys.length) := by
  unfold laws_markRibOut.f
  rw [laws_markHeldS_eq xs 1 hn (by omega) (by omega) k hk, Option.bind_some, laws_markRouteS_eq ys _ hn2 (by omega) (by omega) k hk2]
  rfl
theorem laws_heldRibOut_eq (n1 n2 : Nat) (c : Int) (hn : n1 ≤ 1048576) (hn2 : n2 ≤ 1048576) (k : Nat) (hk : n1 < k) (hk2 : n2 < k) : laws_heldRibOut.f k (marked 9 markHeld 1 n1) (marked 7 markRoute (1 + 9 * (n1 : Int)) n2) c 1 = some (1 + 9 * (n1 : Int) + 7 * (n2 : Int)) := by
  unfold laws_heldRibOut.f
  rw [laws_heldHeldS_eq n1 1 hn (by omega) (by omega) k hk, Option.bind_some, if_neg (by omega), laws_heldRouteS_eq n2 _ hn2 (by omega) (by omega) k hk2, Option.bind_some, if_neg (by omega)]
theorem spec_l06Peer_eq (p : Int) : spec_l06Peer.f p = some (peerB p) := by
  rw [spec_l06Peer.f, Q7]
  rfl
def takeR (p : Int) (key : S42) (a : List S73) (b : List S42) (l : List S73) : List S73 × List S42 × Int :=
  if (b ++ (l.filter (Jb p key)).map (·.f2)).isEmpty = true then ([], [], 6) else (a ++ l.filter (fun x => !Jb p key x), b ++ (l.filter (Jb p key)).map (·.f2), 0)
theorem take_eq (xs : List S73) (p : Int) (key : S42) (hn : xs.length ≤ 1048576) : ∀ (d i k : Nat) (a : List S73) (b : List S42) (c : Int), i + d = xs.length → d < k → a.length ≤ i → b.length ≤ i → (b ≠ [] ∧ c = 0 ∨ b = [] ∧ c = 6) →
    spec_l06Take.l0 k xs p (i : Int) key.f0 key.f1 key.f2 key.f3 key.f4 key.f5 key.f6 a b c = some (takeR p key a b (xs.drop i)) := by
  intro d
  induction d with
  | zero =>
    intro i k a b c hd hk ha hb hbc
    obtain ⟨k, rfl⟩ : ∃ m, k = m + 1 := ⟨k - 1, by omega⟩
    rw [spec_l06Take.l0, if_neg (by omega), List.drop_of_length_le (by omega)]
    rcases hbc with ⟨h1, rfl⟩ | ⟨rfl, rfl⟩
    · rw [if_pos rfl]
      cases b with
      | nil => exact absurd rfl h1
      | cons z b => simp [takeR]
    · rw [if_neg (by decide)]
      simp [takeR, spec_l06Ill.f]
  | succ d ih =>
    intro i k a b c hd hk ha hb hbc
    obtain ⟨k, rfl⟩ : ∃ m, k = m + 1 := ⟨k - 1, by omega⟩
    rw [spec_l06Take.l0, if_pos (by omega), if_pos (by omega), rdH, wrap_up (by omega : i < xs.length) (by omega), drop_nth z73 (by omega : i < xs.length)]
    have keep : Jb p key (nth z73 xs i) = false → spec_l06Take.l0 k xs p ((i + 1 : Nat) : Int) key.f0 key.f1 key.f2 key.f3 key.f4 key.f5 key.f6 (a ++ [nth z73 xs i]) b c = some (takeR p key a b (nth z73 xs i :: xs.drop (i + 1))) := by
      intro hq
      rw [ih (i + 1) k _ _ _ (by omega) (by omega) (by simp; omega) (by omega) hbc]
      unfold takeR
      rw [show (nth z73 xs i :: xs.drop (i + 1)).filter (Jb p key) = (xs.drop (i + 1)).filter (Jb p key) from List.filter_cons_of_neg (by simp [hq]), show (nth z73 xs i :: xs.drop (i + 1)).filter (fun x => !Jb p key x) = nth z73 xs i :: (xs.drop (i + 1)).filter (fun x => !Jb p key x) from List.filter_cons_of_pos (by simp [hq]), List.append_assoc]
      rfl
    by_cases g1 : (nth z73 xs i).f0 = p
    · rw [if_pos g1]
      simp only [spec_KeyOf.f, Option.bind_some]
      by_cases g2 : keyEq (nth z73 xs i).f2 key = true
      · have hq : Jb p key (nth z73 xs i) = true := by simp [Jb, g1, g2]
        rw [if_pos (by simpa [keyEq] using g2), if_pos (by omega)]
        rw [ih (i + 1) k _ _ _ (by omega) (by omega) (by omega) (by simp; omega) (.inl ⟨by simp, rfl⟩)]
        unfold takeR
        rw [show (nth z73 xs i :: xs.drop (i + 1)).filter (Jb p key) = nth z73 xs i :: (xs.drop (i + 1)).filter (Jb p key) from List.filter_cons_of_pos hq, show (nth z73 xs i :: xs.drop (i + 1)).filter (fun x => !Jb p key x) = (xs.drop (i + 1)).filter (fun x => !Jb p key x) from List.filter_cons_of_neg (by simp [hq]), List.map_cons, List.append_assoc]
        rfl
      · rw [if_neg (by simpa [keyEq] using g2), if_pos (by omega)]
        exact keep (by simp [Jb, g2])
    · rw [if_neg g1, if_pos (by omega)]
      exact keep (by simp [Jb, g1])
theorem takeR_len (p : Int) (key : S42) (l : List S73) : (takeR p key [] [] l).1.length ≤ l.length ∧ (takeR p key [] [] l).2.1.length ≤ l.length := by
  unfold takeR
  split
  · exact ⟨Nat.zero_le _, Nat.zero_le _⟩
  · simp only [List.nil_append, List.length_map]
    exact ⟨List.length_filter_le _ _, List.length_filter_le _ _⟩
theorem RibTake_same (xs : List S73) (p : Int) (q0 q1 q2 q3 q4 q5 : Int) (q6 : Bool) (hn : xs.length ≤ 1048576) : ∃ r1 r2 r3, r1.length ≤ xs.length ∧ r2.length ≤ xs.length ∧ (∀ k, xs.length + 8 < k → spec_RibTake.f k xs p q0 q1 q2 q3 q4 q5 q6 = some (r1, r2, r3)) ∧ ∀ k, xs.length + 8 < k → impl_RibTake.f k xs p q0 q1 q2 q3 q4 q5 q6 = some (r1, r2, r3) := by
  have hw : ∀ k, xs.length < k → spec_l06Take.f k xs p q0 q1 q2 q3 q4 q5 q6 = some (takeR p ⟨q0, q1, q2, q3, q4, q5, q6⟩ [] [] xs) := fun k hk => take_eq xs p ⟨q0, q1, q2, q3, q4, q5, q6⟩ hn xs.length 0 k [] [] 6 (by omega) hk (by simp) (by simp) (.inr ⟨rfl, rfl⟩)
  have hr : ∃ r : List S73 × List S42 × Int, r.1.length ≤ xs.length ∧ r.2.1.length ≤ xs.length ∧ (∀ k, xs.length + 8 < k → spec_RibTake.f k xs p q0 q1 q2 q3 q4 q5 q6 = some r) ∧ ∀ k, xs.length + 8 < k → impl_RibTake.f k xs p q0 q1 q2 q3 q4 q5 q6 = some r := by
    by_cases h : xs.length > 400
    · refine ⟨([], [], 2), Nat.zero_le _, Nat.zero_le _, fun k hk => ?_, fun k hk => ?_⟩
      · unfold spec_RibTake.f; rw [if_pos (by omega)]; rfl
      · unfold impl_RibTake.f; rw [if_pos (by omega)]; rfl
    · have hl := takeR_len p ⟨q0, q1, q2, q3, q4, q5, q6⟩ xs
      refine ⟨if ribRight xs = true ∧ peerB p = true ∧ routeB q0 q1 q2 q3 q4 q5 q6 = true then takeR p ⟨q0, q1, q2, q3, q4, q5, q6⟩ [] [] xs else ([], [], 1), ?_, ?_, fun k hk => ?_, fun k hk => ?_⟩
      · split
        · exact hl.1
        · exact Nat.zero_le _
      · split
        · exact hl.2
        · exact Nat.zero_le _
      · obtain ⟨k, rfl⟩ : ∃ m, k = m + 1 := ⟨k - 1, by omega⟩
        unfold spec_RibTake.f
        rw [if_neg (by omega), spec_RibRight_eq xs (by omega) _ (by omega), spec_l06Peer_eq, spec_RouteRight_eq _ _ _ _ _ _ _ _ (by omega)]
        simp only [Option.bind_some, spec_l06Ill.f, spec_RibTake.j0, hw (k + 1) (by omega), hw k (by omega)]
        cases ribRight xs <;> cases peerB p <;> cases routeB q0 q1 q2 q3 q4 q5 q6 <;> simp
      · obtain ⟨k, rfl⟩ : ∃ m, k = m + 1 := ⟨k - 1, by omega⟩
        unfold impl_RibTake.f
        rw [if_neg (by omega), impl_RibRight_eq xs (by omega) _ (by omega), impl_isPeer.f, impl_in_eq, show inB p 1 9 = peerB p from rfl, impl_RouteRight_eq _ _ _ _ _ _ _ _ (by omega)]
        simp only [Option.bind_some, spec_l06Ill.f, impl_RibTake.j0, hw (k + 1) (by omega), hw k (by omega)]
        cases ribRight xs <;> cases peerB p <;> cases routeB q0 q1 q2 q3 q4 q5 q6 <;> simp
  obtain ⟨⟨r1, r2, r3⟩, h1, h2, h3, h4⟩ := hr
  exact ⟨r1, r2, r3, h1, h2, h3, h4⟩
theorem FnExactRibTake : ∀ (x0 : List S76) (p : Int) (q0 q1 q2 q3 q4 q5 : Int) (q6 : Bool), (x0.length ≤ maxLen ∧ ∀ y ∈ x0, (Lit.int .i64 y.f0).wf = true ∧ True ∧ ((Lit.int .i64 y.f2.f0).wf = true ∧ (Lit.int .i64 y.f2.f1).wf = true ∧ (Lit.int .i64 y.f2.f2).wf = true ∧ (Lit.int .i64 y.f2.f3).wf = true ∧ (Lit.int .i64 y.f2.f4).wf = true ∧ (Lit.int .i64 y.f2.f5).wf = true ∧ True)) → (Lit.int .i64 p).wf = true → (Lit.int .i64 q0).wf = true → (Lit.int .i64 q1).wf = true → (Lit.int .i64 q2).wf = true → (Lit.int .i64 q3).wf = true → (Lit.int .i64 q4).wf = true → (Lit.int .i64 q5).wf = true → ∃ k, laws_FnExactRibTake.f k x0 p q0 q1 q2 q3 q4 q5 q6 = some true := by
  intro xs p q0 q1 q2 q3 q4 q5 q6 ⟨hl, _⟩ _ _ _ _ _ _ _
  have hl' : xs.length ≤ 9223372036854775807 := hl
  refine ⟨xs.length + 12, ?_⟩
  unfold laws_FnExactRibTake.f laws_szHeldS.f
  rw [sz_wrap hl']
  by_cases h : (1048576 : Int) - xs.length < 0
  · rw [if_pos h]; rfl
  · rw [if_neg h]
    simp only [Option.bind_some, laws_toRoute.f]
    have hx : (xs.map toHeld).length = xs.length := by simp
    rw [if_neg h, laws_toHeldS_eq xs (by omega) _ (by omega)]
    simp only [Option.bind_some]
    obtain ⟨r1, r2, r3, hr1, hr2, h1, h2⟩ := RibTake_same (xs.map toHeld) p q0 q1 q2 q3 q4 q5 q6 (by omega)
    rw [h1 _ (by omega)]
    simp only [Option.bind_some]
    rw [h2 _ (by omega)]
    simp only [Option.bind_some]
    rw [laws_eqRibOut_self _ _ _ (by omega) (by omega) _ (by omega) (by omega)]
    simp only [Option.bind_some, if_true]
    rw [laws_eqHeldS_self _ (by omega) _ (by omega)]
    simp only [Option.bind_some, if_true]
    rw [laws_markHeldS_eq _ 1 (by omega) (by omega) (by omega) _ (by omega)]
    simp only [Option.bind_some]
    rw [if_neg (by omega)]
    simp only [laws_FnExactRibTake.j0, laws_toRoute.f, Bool.not_true, Bool.false_eq_true, if_false]
    rw [laws_markRibOut_eq _ _ _ (by omega) (by omega) _ (by omega) (by omega)]
    simp only [Option.bind_some]
    rw [laws_heldRibOut_eq _ _ _ (by omega) (by omega) _ (by omega) (by omega)]
    simp only [Option.bind_some, if_true]
    rw [if_neg (by omega), laws_toHeldS_eq xs (by omega) _ (by omega)]
    simp only [Option.bind_some]
    rw [h2 _ (by omega)]
    simp only [Option.bind_some]
    rw [laws_eqRibOut_self _ _ _ (by omega) (by omega) _ (by omega) (by omega)]
    simp only [Option.bind_some, if_true]
    rw [if_neg (by omega)]
end Go.Proofs.Ytmgmaflfednngaa.fnExactRibTakeRow.Pure
