-- A copy, made by trim.py (its own words shortened): not an official print.
import Derived.Test.YtmgmaflfednngaaZExactRibPutPFnExactRibPutx0
import Derived.Test.YtmgmaflfednngaaZExactRibPutPFnExactRibPutx1
import Derived.Test.YtmgmaflfednngaaZExactRibPutPFnExactRibPutx2
import Derived.Test.YtmgmaflfednngaaZExactRibPutPFnExactRibPutx3
import Derived.Test.YtmgmaflfednngaaZExactRibPutPFnExactRibPutx4
import Derived.Test.YtmgmaflfednngaaZExactRibPutPFnExactRibPutx5
import Derived.Test.YtmgmaflfednngaaZExactRibPutPFnExactRibPutx6
import Derived.Test.YtmgmaflfednngaaZExactRibPutPFnExactRibPutx7
import Derived.Test.YtmgmaflfednngaaZExactRibPutPFnExactRibPutx8
import Derived.Test.YtmgmaflfednngaaZExactRibPutPFnExactRibPutx9
import Derived.Test.YtmgmaflfednngaaZExactRibPutPFnExactRibPutx10
import Derived.Test.YtmgmaflfednngaaZExactRibPutPFnExactRibPutx11
import Derived.Test.YtmgmaflfednngaaZExactRibPutPFnExactRibPutx12
import Derived.Test.YtmgmaflfednngaaZExactRibPutPFnExactRibPutx13
import Derived.Test.YtmgmaflfednngaaZExactRibPutPFnExactRibPutx14
import Derived.Test.YtmgmaflfednngaaZExactRibPutPFnExactRibPutx15
import Derived.Test.YtmgmaflfednngaaZExactRibPutBase
set_option linter.unusedSimpArgs false
set_option linter.unusedVariables false
namespace Go.Proofs.Ytmgmaflfednngaa.fnExactRibPutRow.Pure
open Go.RowKit Go.Proofs.YtmgmaflfednngaaW.PrintWords Go.Proofs.YtmgmaflfednngaaW.PrintLast Go.Proofs.Ytmgmaflfednngaa.PFnExactRibPut Go.Proofs.Ytmgmaflfednngaa.Base
theorem Q7 (a b c : Int) : spec_l02Is.f a b c = some (inB a b c) := by
  unfold spec_l02Is.f inB
  by_cases h : b ≤ a <;> simp [h]
theorem impl_in_eq (a b c : Int) : impl_in.f a b c = some (inB a b c) := by
  unfold impl_in.f inB
  by_cases h : b ≤ a <;> simp [h]
theorem spec_l02Mac_eq (a : Int) : spec_l02Mac.f a = some (macB a) := by simp [spec_l02Mac.f, Q7, macB]
theorem spec_l02Ip_eq (a : Int) : spec_l02Ip.f a = some (ipB a) := by simp [spec_l02Ip.f, Q7, ipB]
theorem spec_l02Vni_eq (a : Int) : spec_l02Vni.f a = some (vniB a) := by simp [spec_l02Vni.f, Q7, vniB]
theorem spec_IsGroup_eq (a : Int) : spec_IsGroup.f a = some (groupB a) := by
  simp [spec_IsGroup.f, spec_l02Mac_eq, groupB]
  cases macB a <;> simp
theorem impl_isMac_eq (a : Int) : impl_isMac.f a = some (macB a) := by simp [impl_isMac.f, impl_in_eq, macB]
theorem impl_isIp_eq (a : Int) : impl_isIp.f a = some (ipB a) := by simp [impl_isIp.f, impl_in_eq, ipB]
theorem impl_isVni_eq (a : Int) : impl_isVni.f a = some (vniB a) := by simp [impl_isVni.f, impl_in_eq, vniB]
theorem impl_isTime_eq (a : Int) : impl_isTime.f a = some (timeB a) := by simp [impl_isTime.f, impl_in_eq, timeB]
theorem impl_isHouse_eq (a : Int) : impl_isHouse.f a = some (houseB a) := by simp [impl_isHouse.f, impl_in_eq, houseB]
theorem impl_IsGroup_eq (a : Int) : impl_IsGroup.f a = some (groupB a) := by
  simp [impl_IsGroup.f, impl_isMac_eq, groupB]
  cases macB a <;> simp
theorem impl_isGuest_eq (a : Int) : impl_isGuest.f a = some (macB a && !groupB a) := by
  simp [impl_isGuest.f, impl_isMac_eq, impl_IsGroup_eq]
  cases macB a <;> simp
theorem cmp_Compare_eq (a b : Int) : cmp_Compare_int64.f a b = some (cmpI a b) := by
  simp only [cmp_Compare_int64.f, cmp_isNaN_int64.f, Option.bind_some, bne_self_eq_false, cmpI]
  simp only [Bool.false_eq_true, if_false]
  repeat' split
  all_goals rfl
theorem cmp_Or_eq (xs : List Int) (hn : xs.length ≤ 100) (k : Nat) (hk : xs.length < k) : cmp_Or_int.f k xs = some (firstNZ xs) := by
  have key : ∀ (d i k : Nat), i + d = xs.length → d < k → cmp_Or_int.l0 k 0 xs (xs.length : Int) (i : Int) = some (firstNZ (xs.drop i)) := by
    intro d
    induction d with
    | zero =>
      intro i k hd hk
      obtain ⟨k, rfl⟩ : ∃ m, k = m + 1 := ⟨k - 1, by omega⟩
      simp only [cmp_Or_int.l0]
      rw [if_neg (by omega), List.drop_of_length_le (by omega)]
      rfl
    | succ d ih =>
      intro i k hd hk
      obtain ⟨k, rfl⟩ : ∃ m, k = m + 1 := ⟨k - 1, by omega⟩
      simp only [cmp_Or_int.l0]
      rw [if_pos (by omega), if_pos (by omega), if_pos (by omega), show rd xs (i : Int) = nth 0 xs i from rfl, drop_nth 0 (by omega : i < xs.length), wrap_up (by omega : i < xs.length) (by omega), ih (i + 1) k (by omega) (by omega)]
      simp only [firstNZ]
      split <;> rfl
  exact key xs.length 0 k (by omega) hk
def routeB (k v m ip o s : Int) (st : Bool) : Bool := vniB v && houseB o && (if k = 2 then (macB m && !groupB m) && ipB ip && timeB s else decide (k = 3) && decide (m = 0) && decide (ip = 0) && decide (s = 0) && !st)
theorem spec_RouteRight_eq (k v m ip o s : Int) (st : Bool) (n : Nat) (hn : 1 ≤ n) : spec_RouteRight.f n k v m ip o s st = some (routeB k v m ip o s st) := by
  obtain ⟨n, rfl⟩ : ∃ q, n = q + 1 := ⟨n - 1, by omega⟩
  unfold spec_RouteRight.f routeB
  rw [spec_l02Vni_eq, Q7, show inB o 1 4 = houseB o from rfl]
  simp only [Option.bind_some, spec_RouteRight.j0, spec_l02Mac_eq, spec_IsGroup_eq, spec_l02Ip_eq, Q7, show inB s 0 1000000 = timeB s from rfl]
  cases vniB v <;> cases houseB o <;> simp
  by_cases h2 : k = 2
  · cases macB m <;> cases groupB m <;> cases ipB ip <;> simp [h2]
  · by_cases h3 : k = 3
    · by_cases h4 : m = 0 <;> by_cases h5 : ip = 0 <;> by_cases h6 : s = 0 <;> simp [h3, h4, h5, h6]
    · simp [h2, h3]
theorem impl_RouteRight_eq (k v m ip o s : Int) (st : Bool) (n : Nat) (hn : 1 ≤ n) : impl_RouteRight.f n k v m ip o s st = some (routeB k v m ip o s st) := by
  obtain ⟨n, rfl⟩ : ∃ q, n = q + 1 := ⟨n - 1, by omega⟩
  unfold impl_RouteRight.f routeB
  rw [impl_isVni_eq, impl_isHouse_eq]
  simp only [Option.bind_some, impl_RouteRight.j0, impl_isGuest_eq, impl_isIp_eq, impl_isTime_eq]
  cases vniB v <;> cases houseB o <;> simp
  by_cases h2 : k = 2
  · cases macB m <;> cases groupB m <;> cases ipB ip <;> simp [h2]
  · by_cases h3 : k = 3
    · by_cases h4 : m = 0 <;> by_cases h5 : ip = 0 <;> by_cases h6 : s = 0 <;> simp [h3, h4, h5, h6]
    · simp [h2, h3]
def peerB (a : Int) : Bool := inB a 1 9
def lessH (a b : S73) : Bool := if a.f0 = b.f0 then (if a.f2.f0 = b.f2.f0 then (if a.f2.f1 = b.f2.f1 then (if a.f2.f2 = b.f2.f2 then decide (a.f2.f4 < b.f2.f4) else decide (a.f2.f2 < b.f2.f2)) else decide (a.f2.f1 < b.f2.f1)) else decide (a.f2.f0 < b.f2.f0)) else decide (a.f0 < b.f0)
def rightH (a : S73) : Bool := peerB a.f0 && routeB a.f2.f0 a.f2.f1 a.f2.f2 a.f2.f3 a.f2.f4 a.f2.f5 a.f2.f6
def heldAt (xs : List S73) (j : Nat) : Bool := rightH (nth z73 xs j) && (j == 0 || lessH (nth z73 xs (j - 1)) (nth z73 xs j))
def ribRight (xs : List S73) : Bool := chk (heldAt xs) xs.length 0 && decide (xs.length ≤ 60)
theorem rdH (xs : List S73) (i : Nat) : Qf xs (i : Int) = nth z73 xs i := rfl
theorem spec_l06Less_eq (a b : S73) : spec_l06Less.f a.f0 a.f1 a.f2.f0 a.f2.f1 a.f2.f2 a.f2.f3 a.f2.f4 a.f2.f5 a.f2.f6 b.f0 b.f1 b.f2.f0 b.f2.f1 b.f2.f2 b.f2.f3 b.f2.f4 b.f2.f5 b.f2.f6 = some (lessH a b) := by
  unfold spec_l06Less.f lessH
  repeat' split
  all_goals rfl
theorem fnz_cons (a b : Int) (l : List Int) : (0 ≤ firstNZ (cmpI a b :: l)) ↔ (if a = b then 0 ≤ firstNZ l else ¬ a < b) := by
  have e : firstNZ (cmpI a b :: l) = if cmpI a b = 0 then firstNZ l else cmpI a b := rfl
  rw [e]
  unfold cmpI
  rcases Int.lt_trichotomy a b with h | h | h
  · rw [if_pos h, if_neg (by omega), if_neg (by omega)]; simp [h]
  · subst h; simp
  · rw [if_neg (by omega), if_pos h, if_neg (by omega), if_neg (by omega)]; simp; omega
def ordH (a b : S73) : Int := firstNZ [cmpI a.f0 b.f0, cmpI a.f2.f0 b.f2.f0, cmpI a.f2.f1 b.f2.f1, cmpI a.f2.f2 b.f2.f2, cmpI a.f2.f4 b.f2.f4]
theorem impl_Held_order_eq (a b : S73) (k : Nat) (hk : 6 ≤ k) : impl_Held_order.f k a.f0 a.f1 a.f2.f0 a.f2.f1 a.f2.f2 a.f2.f3 a.f2.f4 a.f2.f5 a.f2.f6 b.f0 b.f1 b.f2.f0 b.f2.f1 b.f2.f2 b.f2.f3 b.f2.f4 b.f2.f5 b.f2.f6 = some (ordH a b) := by
  simp only [impl_Held_order.f, cmp_Compare_eq, Option.bind_some]
  rw [cmp_Or_eq _ (by simp) k (by simp; omega)]
  rfl
theorem ordH_neg (a b : S73) : (ordH a b ≥ 0) ↔ lessH a b = false := by
  show 0 ≤ ordH a b ↔ _
  unfold ordH lessH
  simp only [fnz_cons]
  have h0 : 0 ≤ firstNZ [] := by simp [firstNZ]
  repeat' split
  all_goals simp_all
theorem spec_RibRight_loop (xs : List S73) (hn : xs.length ≤ 9223372036854775807) : ∀ (d i k : Nat), i + d = xs.length → d + 1 < k → spec_RibRight.l0 k xs (i : Int) = some (chk (heldAt xs) d i && true) := by
  apply chk_loop 1 (fun k i => spec_RibRight.l0 k xs i)
  · intro k i hc hi
    simp only [spec_RibRight.l0]
    rw [if_pos (by omega), if_pos (by omega), rdH, spec_l06Peer.f, Q7, Option.bind_some, show inB (nth z73 xs i).f0 1 9 = peerB (nth z73 xs i).f0 from rfl, spec_RouteRight_eq _ _ _ _ _ _ _ k hc]
    simp only [Option.bind_some]
    unfold heldAt rightH
    cases h1 : peerB (nth z73 xs i).f0 with
    | false => simp
    | true =>
      rw [if_pos rfl]
      cases h2 : routeB (nth z73 xs i).f2.f0 (nth z73 xs i).f2.f1 (nth z73 xs i).f2.f2 (nth z73 xs i).f2.f3 (nth z73 xs i).f2.f4 (nth z73 xs i).f2.f5 (nth z73 xs i).f2.f6 with
      | false => simp
      | true =>
        rw [if_pos rfl]
        by_cases h0 : i = 0
        · subst h0
          rw [if_neg (by omega), if_pos (by simp), wrap_up hi hn]
        · rw [if_pos (by omega), wrap_down (by omega) (by omega), if_pos (by omega), if_pos (by omega), rdH, wrap_up hi hn, spec_l06Less_eq, Option.bind_some]
          cases h3 : lessH (nth z73 xs (i - 1)) (nth z73 xs i) <;> simp [h0]
  · intro k _
    simp only [spec_RibRight.l0]
    rw [if_neg (by omega)]
theorem spec_RibRight_eq (xs : List S73) (hn : xs.length ≤ 9223372036854775807) (k : Nat) (hk : xs.length + 6 < k) : spec_RibRight.f k xs = some (ribRight xs) := by
  unfold spec_RibRight.f ribRight
  by_cases h : xs.length ≤ 60
  · rw [if_neg (by omega), show (0 : Int) = ((0 : Nat) : Int) from rfl, spec_RibRight_loop xs hn xs.length 0 k (by omega) (by omega)]
    simp [h]
  · rw [if_pos (by omega)]
    simp [h]
theorem impl_RibRight_loop (xs : List S73) (hn : xs.length ≤ 9223372036854775807) : ∀ (d i k : Nat), i + d = xs.length → d + 6 < k → impl_RibRight.l0 k xs xs (xs.length : Int) (i : Int) = some (chk (heldAt xs) d i && decide (xs.length ≤ 60)) := by
  apply chk_loop 6 (fun k i => impl_RibRight.l0 k xs xs (xs.length : Int) i)
  · intro k i hc hi
    simp only [impl_RibRight.l0]
    rw [if_pos (by omega), if_pos (by omega), if_pos (by omega), rdH, impl_isPeer.f, impl_in_eq, Option.bind_some, show inB (nth z73 xs i).f0 1 9 = peerB (nth z73 xs i).f0 from rfl, impl_RouteRight_eq _ _ _ _ _ _ _ k (by omega)]
    simp only [Option.bind_some]
    unfold heldAt rightH
    cases h1 : peerB (nth z73 xs i).f0 with
    | false => simp
    | true =>
      rw [if_pos rfl]
      cases h2 : routeB (nth z73 xs i).f2.f0 (nth z73 xs i).f2.f1 (nth z73 xs i).f2.f2 (nth z73 xs i).f2.f3 (nth z73 xs i).f2.f4 (nth z73 xs i).f2.f5 (nth z73 xs i).f2.f6 with
      | false => simp
      | true =>
        rw [if_pos rfl]
        by_cases h0 : i = 0
        · subst h0
          rw [if_neg (by omega), if_pos (by simp), wrap_up hi hn]
        · rw [if_pos (by omega), wrap_down (by omega) (by omega), if_pos (by omega), if_pos (by omega), rdH, wrap_up hi hn, impl_Held_order_eq _ _ k hc, Option.bind_some]
          have ho := ordH_neg (nth z73 xs (i - 1)) (nth z73 xs i)
          cases h3 : lessH (nth z73 xs (i - 1)) (nth z73 xs i) with
          | true => rw [if_neg (by rw [ho, h3]; simp)]; simp
          | false => rw [if_pos (by rw [ho, h3])]; simp [h0]
  · intro k _
    simp only [impl_RibRight.l0]
    rw [if_neg (by omega)]
    simp only [Option.some.injEq, decide_eq_decide]
    omega
theorem impl_RibRight_eq (xs : List S73) (hn : xs.length ≤ 9223372036854775807) (k : Nat) (hk : xs.length + 6 < k) : impl_RibRight.f k xs = some (ribRight xs) := by
  unfold impl_RibRight.f ribRight
  rw [show (0 : Int) = ((0 : Nat) : Int) from rfl, impl_RibRight_loop xs hn xs.length 0 k (by omega) hk]
def toRoute (x : S40) : S42 := ⟨x.f0, x.f1, x.f2, x.f3, x.f4, x.f5, x.f6⟩
def toHeld (x : S76) : S73 := ⟨x.f0, x.f1, toRoute x.f2⟩
theorem laws_toHeldS_eq (xs : List S76) (hn : xs.length ≤ 1048576) (k : Nat) (hk : xs.length < k) : laws_toHeldS.f k xs = some (xs.map toHeld) := by
  unfold laws_toHeldS.f
  rw [if_pos (by omega), if_pos (by omega), show (0 : Int) = ((0 : Nat) : Int) from rfl]
  rw [fill_loop 0 (fun k acc i => laws_toHeldS.l0 k xs acc i) xs.length (fun j => toHeld (nth z76 xs j)) ?_ ?_ xs.length 0 k _ (by simp) (by omega) hk]
  · simp [map_range_getD]
  · intro k i acc _ hi hl
    simp only [laws_toHeldS.l0, laws_toHeld.f, laws_toRoute.f, Option.bind_some]
    rw [if_pos (by omega), if_pos (by omega), if_pos (by omega), wrap_up hi (by omega)]
    rfl
  · intro k acc _ hl
    simp only [laws_toHeldS.l0]
    rw [if_neg (by omega)]
theorem laws_eqHeldS_self (xs : List S73) (hn : xs.length ≤ 9223372036854775807) (k : Nat) (hk : xs.length < k) : laws_eqHeldS.f k xs xs = some true := by
  unfold laws_eqHeldS.f
  rw [if_pos rfl, show (0 : Int) = ((0 : Nat) : Int) from rfl]
  rw [chk_loop 0 (fun k i => laws_eqHeldS.l0 k xs xs i) xs.length (fun _ => true) true ?_ ?_ xs.length 0 k (by omega) hk]
  · simp only [Bool.and_true, Option.some.injEq, chk_iff]
    intros; trivial
  · intro k i _ hi
    simp only [laws_eqHeldS.l0, laws_eqHeld.f, laws_eqRoute.f, if_true, Option.bind_some, bne_self_eq_false, Bool.false_eq_true, if_false]
    rw [if_pos (by omega), if_pos (by omega), if_pos (by omega), wrap_up hi hn]
  · intro k _
    simp only [laws_eqHeldS.l0]
    rw [if_neg (by omega)]
theorem laws_eqRouteS_self (xs : List S42) (hn : xs.length ≤ 9223372036854775807) (k : Nat) (hk : xs.length < k) : laws_eqRouteS.f k xs xs = some true := by
  unfold laws_eqRouteS.f
  rw [if_pos rfl, show (0 : Int) = ((0 : Nat) : Int) from rfl]
  rw [chk_loop 0 (fun k i => laws_eqRouteS.l0 k xs xs i) xs.length (fun _ => true) true ?_ ?_ xs.length 0 k (by omega) hk]
  · simp only [Bool.and_true, Option.some.injEq, chk_iff]
    intros; trivial
  · intro k i _ hi
    simp only [laws_eqRouteS.l0, laws_eqRoute.f, if_true, Option.bind_some, bne_self_eq_false, Bool.false_eq_true, if_false]
    rw [if_pos (by omega), if_pos (by omega), if_pos (by omega), wrap_up hi hn]
  · intro k _
    simp only [laws_eqRouteS.l0]
    rw [if_neg (by omega)]
def markHeld (m : Int) : S73 := ⟨m, Int.tmod (m + 1) 3 == 0, ⟨m + 2, m + 3, m + 4, m + 5, m + 6, m + 7, Int.tmod (m + 8) 3 == 0⟩⟩
def markRoute (m : Int) : S42 := ⟨m, m + 1, m + 2, m + 3, m + 4, m + 5, Int.tmod (m + 6) 3 == 0⟩
theorem rd_setH (xs : List S73) (i : Nat) (x : S73) (h : i < xs.length) : Qf (xs.set i x) (i : Int) = x := by
  simp [Qf, h]
theorem rd_setR (xs : List S42) (i : Nat) (x : S42) (h : i < xs.length) : Qk (xs.set i x) (i : Int) = x := by
  simp [Qk, h]
theorem laws_markHeldS_eq (xs : List S73) (m : Int) (hn : xs.length ≤ 1048576) (hm : 0 ≤ m) (hB : m ≤ 1000000000000) (k : Nat) (hk : xs.length < k) : laws_markHeldS.f k xs m = some (m + 9 * xs.length, marked 9 markHeld m xs.length) := by
  unfold laws_markHeldS.f
  refine mark_all 0 9 (fun k acc m i => laws_markHeldS.l0 k acc m i) xs markHeld 1000010000000 ?_ ?_ k m (by omega) hm (by omega)
  · intro k i acc m _ hi hl hm hB
    have e1 : wrap64 (m + 1) = m + 1 := by unfold wrap64; omega
    have e2 : wrap64 (m + 1 + 1) = m + 2 := by unfold wrap64; omega
    have e3 : wrap64 (m + 2 + 1) = m + 3 := by unfold wrap64; omega
    have e4 : wrap64 (m + 3 + 1) = m + 4 := by unfold wrap64; omega
    have e5 : wrap64 (m + 4 + 1) = m + 5 := by unfold wrap64; omega
    have e6 : wrap64 (m + 5 + 1) = m + 6 := by unfold wrap64; omega
    have e7 : wrap64 (m + 6 + 1) = m + 7 := by unfold wrap64; omega
    have e8 : wrap64 (m + 7 + 1) = m + 8 := by unfold wrap64; omega
    have e9 : wrap64 (m + 8 + 1) = m + 9 := by unfold wrap64; omega
    have hr : ∀ x : S73, Qf (acc.set i x) (i : Int) = x := fun x => rd_setH acc i x (by omega)
    simp only [laws_markHeldS.l0, Option.bind_some, Int.toNat_natCast, e1, e2, e3, e4, e5, e6, e7, e8, e9, hr, List.set_set]
    rw [if_pos (by omega), if_pos (by omega), wrap_up hi (by omega)]
    rfl
  · intro k acc m _ hl
    simp only [laws_markHeldS.l0]
    rw [if_neg (by omega)]
theorem laws_markRouteS_eq (xs : List S42) (m : Int) (hn : xs.length ≤ 1048576) (hm : 0 ≤ m) (hB : m ≤ 1000000000000) (k : Nat) (hk : xs.length < k) : laws_markRouteS.f k xs m = some (m + 7 * xs.length, marked 7 markRoute m xs.length) := by
  unfold laws_markRouteS.f
  refine mark_all 0 7 (fun k acc m i => laws_markRouteS.l0 k acc m i) xs markRoute 1000010000000 ?_ ?_ k m (by omega) hm (by omega)
  · intro k i acc m _ hi hl hm hB
    have e1 : wrap64 (m + 1) = m + 1 := by unfold wrap64; omega
    have e2 : wrap64 (m + 1 + 1) = m + 2 := by unfold wrap64; omega
    have e3 : wrap64 (m + 2 + 1) = m + 3 := by unfold wrap64; omega
    have e4 : wrap64 (m + 3 + 1) = m + 4 := by unfold wrap64; omega
    have e5 : wrap64 (m + 4 + 1) = m + 5 := by unfold wrap64; omega
    have e6 : wrap64 (m + 5 + 1) = m + 6 := by unfold wrap64; omega
    have e7 : wrap64 (m + 6 + 1) = m + 7 := by unfold wrap64; omega
    have hr : ∀ x : S42, Qk (acc.set i x) (i : Int) = x := fun x => rd_setR acc i x (by omega)
    simp only [laws_markRouteS.l0, Option.bind_some, Int.toNat_natCast, e1, e2, e3, e4, e5, e6, e7, hr, List.set_set]
    rw [if_pos (by omega), if_pos (by omega), wrap_up hi (by omega)]
    rfl
  · intro k acc m _ hl
    simp only [laws_markRouteS.l0]
    rw [if_neg (by omega)]
theorem laws_heldRouteS_eq (n : Nat) (m : Int) (hn : n ≤ 1048576) (hm : 0 ≤ m) (hB : m ≤ 1000000000000) (k : Nat) (hk : n < k) : laws_heldRouteS.f k (marked 7 markRoute m n) m = some (m + 7 * n) := by
  unfold laws_heldRouteS.f
  have hl := marked_length 7 markRoute m n
  have := held_loop z42 0 7 markRoute (fun k q i => laws_heldRouteS.l0 k (marked 7 markRoute m n) q i) n m 1000010000000 ?_ ?_ hm (by omega) n 0 k (by omega) (by omega)
  · simpa using this
  · intro k i q _ hi hq hq0 hqB
    have hx : Qk (marked 7 markRoute m n) (i : Int) = markRoute q := by
      show nth z42 _ i = _
      rw [marked_nth _ hi, hq]
    have e1 : wrap64 (q + 1) = q + 1 := by unfold wrap64; omega
    have e2 : wrap64 (q + 1 + 1) = q + 2 := by unfold wrap64; omega
    have e3 : wrap64 (q + 2 + 1) = q + 3 := by unfold wrap64; omega
    have e4 : wrap64 (q + 3 + 1) = q + 4 := by unfold wrap64; omega
    have e5 : wrap64 (q + 4 + 1) = q + 5 := by unfold wrap64; omega
    have e6 : wrap64 (q + 5 + 1) = q + 6 := by unfold wrap64; omega
    have e7 : wrap64 (q + 6 + 1) = q + 7 := by unfold wrap64; omega
    simp only [laws_heldRouteS.l0, hx, markRoute, e1, e2, e3, e4, e5, e6, e7, if_true, bne_self_eq_false, Bool.false_eq_true, if_false]
    rw [if_pos (by omega), if_pos (by omega), wrap_up hi (by omega)]
    rfl
  · intro k q _
    simp only [laws_heldRouteS.l0]
    rw [if_neg (by omega)]
theorem laws_heldHeldS_eq (n : Nat) (m : Int) (hn : n ≤ 1048576) (hm : 0 ≤ m) (hB : m ≤ 1000000000000) (k : Nat) (hk : n < k) : laws_heldHeldS.f k (marked 9 markHeld m n) m = some (m + 9 * n) := by
  unfold laws_heldHeldS.f
  have hl := marked_length 9 markHeld m n
  have := held_loop z73 0 9 markHeld (fun k q i => laws_heldHeldS.l0 k (marked 9 markHeld m n) q i) n m 1000010000000 ?_ ?_ hm (by omega) n 0 k (by omega) (by omega)
  · simpa using this
  · intro k i q _ hi hq hq0 hqB
    have hx : Qf (marked 9 markHeld m n) (i : Int) = markHeld q := by
      show nth z73 _ i = _
      rw [marked_nth _ hi, hq]
    have e1 : wrap64 (q + 1) = q + 1 := by unfold wrap64; omega
    have e2 : wrap64 (q + 1 + 1) = q + 2 := by unfold wrap64; omega
    have e3 : wrap64 (q + 2 + 1) = q + 3 := by unfold wrap64; omega
    have e4 : wrap64 (q + 3 + 1) = q + 4 := by unfold wrap64; omega
    have e5 : wrap64 (q + 4 + 1) = q + 5 := by unfold wrap64; omega
    have e6 : wrap64 (q + 5 + 1) = q + 6 := by unfold wrap64; omega
    have e7 : wrap64 (q + 6 + 1) = q + 7 := by unfold wrap64; omega
    have e8 : wrap64 (q + 7 + 1) = q + 8 := by unfold wrap64; omega
    have e9 : wrap64 (q + 8 + 1) = q + 9 := by unfold wrap64; omega
    simp only [laws_heldHeldS.l0, hx, markHeld, e1, e2, e3, e4, e5, e6, e7, e8, e9, if_true, bne_self_eq_false, Bool.false_eq_true, if_false]
    rw [if_pos (by omega), if_pos (by omega), wrap_up hi (by omega)]
    rfl
  · intro k q _
    simp only [laws_heldHeldS.l0]
    rw [if_neg (by omega)]
theorem laws_eqRibOut_self (xs : List S73) (ys : List S42) (c : Int) (hn : xs.length ≤ 1048576) (hn2 : ys.length ≤ 1048576) (k : Nat) (hk : xs.length < k) (hk2 : ys.length < k) : laws_eqRibOut.f k xs ys c xs ys c = some true := by
  unfold laws_eqRibOut.f
  rw [laws_eqHeldS_self xs (by omega) k hk, laws_eqRouteS_self ys (by omega) k hk2]
  simp
theorem laws_markRibOut_eq (xs : List S73) (ys : List S42) (c : Int) (hn : xs.length ≤ 1048576) (hn2 : ys.length ≤ 1048576) (k : Nat) (hk : xs.length < k) (hk2 : ys.length < k) : laws_markRibOut.f k xs ys c 1 = some (1 + 9 * (xs.length : Int) + 7 * (ys.length : Int), marked 9 markHeld 1 xs.length, marked 7 markRoute (1 + 9 * (xs.length : Int)) ys.length) := by
  unfold laws_markRibOut.f
  rw [laws_markHeldS_eq xs 1 hn (by omega) (by omega) k hk, Option.bind_some, laws_markRouteS_eq ys _ hn2 (by omega) (by omega) k hk2]
  rfl
theorem laws_heldRibOut_eq (n1 n2 : Nat) (c : Int) (hn : n1 ≤ 1048576) (hn2 : n2 ≤ 1048576) (k : Nat) (hk : n1 < k) (hk2 : n2 < k) : laws_heldRibOut.f k (marked 9 markHeld 1 n1) (marked 7 markRoute (1 + 9 * (n1 : Int)) n2) c 1 = some (1 + 9 * (n1 : Int) + 7 * (n2 : Int)) := by
  unfold laws_heldRibOut.f
  rw [laws_heldHeldS_eq n1 1 hn (by omega) (by omega) k hk, Option.bind_some, if_neg (by omega), laws_heldRouteS_eq n2 _ hn2 (by omega) (by omega) k hk2, Option.bind_some, if_neg (by omega)]
theorem spec_l06Peer_eq (p : Int) : spec_l06Peer.f p = some (peerB p) := by
  rw [spec_l06Peer.f, Q7]
  rfl
theorem puth_j2_some (l xs : List S73) (hl : l.length ≤ 1048576) (j k : Nat) (b : Bool) (hj : j ≤ l.length) (hx : xs.length = j + 1) (hb : b = true → j < l.length) (hk : 0 < k) : ∃ r, spec_l06Put.j2 k l (j : Int) xs b = some r ∧ r.1.length ≤ l.length + 1 ∧ r.2.1 = [] := by
  obtain ⟨k, rfl⟩ : ∃ m, k = m + 1 := ⟨k - 1, by omega⟩
  rw [spec_l06Put.j2]
  cases b with
  | true =>
    have hc := hb rfl
    have hw : wrap64 ((j : Int) + 1) = ((j + 1 : Nat) : Int) := by unfold wrap64; omega
    rw [if_pos rfl, hw, if_pos (by omega), if_pos (by omega), Option.bind_some, if_pos (by simp; omega)]
    exact ⟨_, rfl, by simp; omega, rfl⟩
  | false =>
    rw [if_neg (by decide)]
    by_cases h8 : (l.length : Int) ≥ 60
    · rw [if_pos h8, spec_l06Ill.f, Option.bind_some]
      exact ⟨_, rfl, Nat.zero_le _, rfl⟩
    · rw [if_neg h8, if_pos (by omega), if_pos (by omega), Option.bind_some, if_pos (by simp; omega)]
      exact ⟨_, rfl, by simp; omega, rfl⟩
theorem puth_j1_some (l : List S73) (y : S73) (hl : l.length ≤ 1048576) (j k : Nat) (hj : j ≤ l.length) (hk : 1 < k) : ∃ r, spec_l06Put.j1 k l (j : Int) y.f0 y.f1 y.f2.f0 y.f2.f1 y.f2.f2 y.f2.f3 y.f2.f4 y.f2.f5 y.f2.f6 = some r ∧ r.1.length ≤ l.length + 1 ∧ r.2.1 = [] := by
  obtain ⟨k, rfl⟩ : ∃ m, k = m + 1 := ⟨k - 1, by omega⟩
  rw [spec_l06Put.j1, Option.bind_some, if_pos (by omega), if_pos (by omega), Option.bind_some, if_pos (by simp; omega), Option.bind_some, if_pos (by simp; omega), Option.bind_some]
  by_cases hc : j < l.length
  · rw [if_pos (by omega), rdH, spec_l06Less_eq, Option.bind_some]
    exact puth_j2_some l _ hl j k _ hj (by simp; omega) (fun _ => hc) (by omega)
  · rw [if_neg (by omega)]
    exact puth_j2_some l _ hl j k _ hj (by simp; omega) (fun h => by cases h) (by omega)
theorem puth_some (l : List S73) (y : S73) (hl : l.length ≤ 1048576) : ∀ (d j k : Nat), j + d = l.length → d + 2 < k → ∃ r, spec_l06Put.l0 k l (j : Int) y.f0 y.f1 y.f2.f0 y.f2.f1 y.f2.f2 y.f2.f3 y.f2.f4 y.f2.f5 y.f2.f6 = some r ∧ r.1.length ≤ l.length + 1 ∧ r.2.1 = [] := by
  intro d
  induction d with
  | zero =>
    intro j k hd hk
    obtain ⟨k, rfl⟩ : ∃ m, k = m + 1 := ⟨k - 1, by omega⟩
    rw [spec_l06Put.l0, if_neg (by omega)]
    exact puth_j1_some l y hl j k (by omega) (by omega)
  | succ d ih =>
    intro j k hd hk
    obtain ⟨k, rfl⟩ : ∃ m, k = m + 1 := ⟨k - 1, by omega⟩
    have hw : wrap64 ((j : Int) + 1) = ((j + 1 : Nat) : Int) := by unfold wrap64; omega
    rw [spec_l06Put.l0, if_pos (by omega), if_pos (by omega), rdH, spec_l06Less_eq, Option.bind_some, hw]
    cases h1 : lessH (nth z73 l j) y with
    | true =>
      rw [if_pos rfl]
      exact ih (j + 1) k (by omega) (by omega)
    | false =>
      rw [if_neg (by decide)]
      exact puth_j1_some l y hl j k (by omega) (by omega)
theorem RibPut_same (xs : List S73) (p : Int) (q0 q1 q2 q3 q4 q5 : Int) (q6 : Bool) (hn : xs.length ≤ 1048576) (k : Nat) (hk : xs.length + 8 < k) : ∃ r1 r2 r3, (r1.length ≤ xs.length + 1 ∧ r1.length ≤ 1048576) ∧ r2.length ≤ xs.length ∧ spec_RibPut.f k xs p q0 q1 q2 q3 q4 q5 q6 = some (r1, r2, r3) ∧ impl_RibPut.f k xs p q0 q1 q2 q3 q4 q5 q6 = some (r1, r2, r3) := by
  obtain ⟨k, rfl⟩ : ∃ m, k = m + 1 := ⟨k - 1, by omega⟩
  have hcl : impl_Held_104.f xs = some xs := by
    simp only [impl_Held_104.f, Option.bind_some, List.nil_append]
    rw [if_pos (by simp; omega)]
  unfold spec_RibPut.f impl_RibPut.f
  rw [spec_RibRight_eq xs (by omega) _ (by omega), impl_RibRight_eq xs (by omega) _ (by omega), spec_l06Peer_eq, spec_RouteRight_eq _ _ _ _ _ _ _ _ (by omega), impl_RouteRight_eq _ _ _ _ _ _ _ _ (by omega), impl_isPeer.f, impl_in_eq, show inB p 1 9 = peerB p from rfl, hcl]
  simp only [Option.bind_some, spec_l06Ill.f, spec_RibPut.j0, impl_RibPut.j0]
  by_cases h : xs.length > 400
  · rw [if_pos (by omega)]
    exact ⟨_, _, _, ⟨Nat.zero_le _, Nat.zero_le _⟩, Nat.zero_le _, rfl, rfl⟩
  · rw [if_neg (by omega)]
    cases hg : ribRight xs with
    | false => exact ⟨_, _, _, ⟨Nat.zero_le _, Nat.zero_le _⟩, Nat.zero_le _, rfl, rfl⟩
    | true =>
      cases hp : peerB p with
      | false => exact ⟨_, _, _, ⟨Nat.zero_le _, Nat.zero_le _⟩, Nat.zero_le _, rfl, rfl⟩
      | true =>
        cases ht : routeB q0 q1 q2 q3 q4 q5 q6 with
        | false => exact ⟨_, _, _, ⟨Nat.zero_le _, Nat.zero_le _⟩, Nat.zero_le _, rfl, rfl⟩
        | true =>
          obtain ⟨⟨z1, z2, z3⟩, h1, h2, h3⟩ := puth_some xs ⟨p, false, ⟨q0, q1, q2, q3, q4, q5, q6⟩⟩ hn xs.length 0 k (by omega) (by omega)
          have h1' : spec_l06Put.f k xs p q0 q1 q2 q3 q4 q5 q6 = some (z1, z2, z3) := h1
          have h3' : z2 = [] := h3
          subst h3'
          simp only [h1', Option.bind_some, Bool.not_true, Bool.false_eq_true, if_false, if_true]
          exact ⟨_, _, _, ⟨h2, by have : z1.length ≤ xs.length + 1 := h2; omega⟩, Nat.zero_le _, rfl, rfl⟩
theorem FnExactRibPut : ∀ (x0 : List S76) (p : Int) (q0 q1 q2 q3 q4 q5 : Int) (q6 : Bool), (x0.length ≤ maxLen ∧ ∀ y ∈ x0, (Lit.int .i64 y.f0).wf = true ∧ True ∧ ((Lit.int .i64 y.f2.f0).wf = true ∧ (Lit.int .i64 y.f2.f1).wf = true ∧ (Lit.int .i64 y.f2.f2).wf = true ∧ (Lit.int .i64 y.f2.f3).wf = true ∧ (Lit.int .i64 y.f2.f4).wf = true ∧ (Lit.int .i64 y.f2.f5).wf = true ∧ True)) → (Lit.int .i64 p).wf = true → (Lit.int .i64 q0).wf = true → (Lit.int .i64 q1).wf = true → (Lit.int .i64 q2).wf = true → (Lit.int .i64 q3).wf = true → (Lit.int .i64 q4).wf = true → (Lit.int .i64 q5).wf = true → ∃ k, laws_FnExactRibPut.f k x0 p q0 q1 q2 q3 q4 q5 q6 = some true := by
  intro xs p q0 q1 q2 q3 q4 q5 q6 ⟨hl, _⟩ _ _ _ _ _ _ _
  have hl' : xs.length ≤ 9223372036854775807 := hl
  refine ⟨xs.length + 12, ?_⟩
  unfold laws_FnExactRibPut.f laws_szHeldS.f
  rw [sz_wrap hl']
  by_cases h : (1048576 : Int) - xs.length < 0
  · rw [if_pos h]; rfl
  · rw [if_neg h]
    simp only [Option.bind_some, laws_toRoute.f]
    have hx : (xs.map toHeld).length = xs.length := by simp
    rw [if_neg h, laws_toHeldS_eq xs (by omega) _ (by omega)]
    simp only [Option.bind_some]
    obtain ⟨r1, r2, r3, ⟨hr0, hr1⟩, hr2, h1, h2⟩ := RibPut_same (xs.map toHeld) p q0 q1 q2 q3 q4 q5 q6 (by omega) (xs.length + 12) (by omega)
    have h3 : impl_RibPut.f (xs.length + 11) (xs.map toHeld) p q0 q1 q2 q3 q4 q5 q6 = some (r1, r2, r3) := by
      obtain ⟨r1', r2', r3', _, _, _, h2'⟩ := RibPut_same (xs.map toHeld) p q0 q1 q2 q3 q4 q5 q6 (by omega) (xs.length + 11) (by omega)
      have := impl_RibPut.mono _ _ _ _ _ _ _ _ _ _ _ h2'
      rw [h2] at this
      rw [h2', this]
    rw [h1]
    simp only [Option.bind_some]
    rw [h2]
    simp only [Option.bind_some]
    rw [laws_eqRibOut_self _ _ _ (by omega) (by omega) _ (by omega) (by omega)]
    simp only [Option.bind_some, if_true]
    rw [laws_eqHeldS_self _ (by omega) _ (by omega)]
    simp only [Option.bind_some, if_true]
    rw [laws_markHeldS_eq _ 1 (by omega) (by omega) (by omega) _ (by omega)]
    simp only [Option.bind_some]
    rw [if_neg (by omega)]
    simp only [laws_FnExactRibPut.j0, laws_toRoute.f, Bool.not_true, Bool.false_eq_true, if_false]
    rw [laws_markRibOut_eq _ _ _ (by omega) (by omega) _ (by omega) (by omega)]
    simp only [Option.bind_some]
    rw [laws_heldRibOut_eq _ _ _ (by omega) (by omega) _ (by omega) (by omega)]
    simp only [Option.bind_some, if_true]
    rw [if_neg (by omega), laws_toHeldS_eq xs (by omega) _ (by omega)]
    simp only [Option.bind_some]
    rw [h3]
    simp only [Option.bind_some]
    rw [laws_eqRibOut_self _ _ _ (by omega) (by omega) _ (by omega) (by omega)]
    simp only [Option.bind_some, if_true]
    rw [if_neg (by omega)]
end Go.Proofs.Ytmgmaflfednngaa.fnExactRibPutRow.Pure
