-- A copy, made by trim.py (its own words shortened): not an official print.
import Derived.Test.YtmgmaflfednngaaZExactTellerRightPFnExactTellerRightx0
import Derived.Test.YtmgmaflfednngaaZExactTellerRightPFnExactTellerRightx1
import Derived.Test.YtmgmaflfednngaaZExactTellerRightPFnExactTellerRightx2
import Derived.Test.YtmgmaflfednngaaZExactTellerRightPFnExactTellerRightx3
import Derived.Test.YtmgmaflfednngaaZExactTellerRightPFnExactTellerRightx4
import Derived.Test.YtmgmaflfednngaaZExactTellerRightPFnExactTellerRightx5
import Derived.Test.YtmgmaflfednngaaZExactTellerRightPFnExactTellerRightx6
import Derived.Test.YtmgmaflfednngaaZExactTellerRightPFnExactTellerRightx7
import Derived.Test.YtmgmaflfednngaaZExactTellerRightPFnExactTellerRightx8
import Derived.Test.YtmgmaflfednngaaZExactTellerRightPFnExactTellerRightx9
import Derived.Test.YtmgmaflfednngaaZExactTellerRightPFnExactTellerRightx10
import Derived.Test.YtmgmaflfednngaaZExactTellerRightPFnExactTellerRightx11
import Derived.Test.YtmgmaflfednngaaZExactTellerRightPFnExactTellerRightx12
import Derived.Test.YtmgmaflfednngaaZExactTellerRightPFnExactTellerRightx13
import Derived.Test.YtmgmaflfednngaaZExactTellerRightPFnExactTellerRightx14
import Derived.Test.YtmgmaflfednngaaZExactTellerRightPFnExactTellerRightx15
import Derived.Test.YtmgmaflfednngaaZExactTellerRightBase
set_option linter.unusedSimpArgs false
set_option linter.unusedVariables false
namespace Go.Proofs.Ytmgmaflfednngaa.fnExactTellerRightRow.Pure
open Go.RowKit Go.Proofs.YtmgmaflfednngaaW.PrintWords Go.Proofs.YtmgmaflfednngaaW.PrintLast Go.Proofs.Ytmgmaflfednngaa.PFnExactTellerRight Go.Proofs.Ytmgmaflfednngaa.Base
theorem Q2 (a b c : Int) : spec_l02Is.f a b c = some (inB a b c) := by
  unfold spec_l02Is.f inB
  by_cases h : b ≤ a <;> simp [h]
theorem Q5 (a b c : Int) : impl_in.f a b c = some (inB a b c) := by
  unfold impl_in.f inB
  by_cases h : b ≤ a <;> simp [h]
theorem spec_l02Mac_eq (a : Int) : spec_l02Mac.f a = some (macB a) := by simp [spec_l02Mac.f, Q2, macB]
theorem spec_l02Ip_eq (a : Int) : spec_l02Ip.f a = some (ipB a) := by simp [spec_l02Ip.f, Q2, ipB]
theorem spec_l02Vni_eq (a : Int) : spec_l02Vni.f a = some (vniB a) := by simp [spec_l02Vni.f, Q2, vniB]
theorem spec_l05Time_eq (a : Int) : spec_l05Time.f a = some (timeB a) := by simp [spec_l05Time.f, Q2, timeB]
theorem spec_IsGroup_eq (a : Int) : spec_IsGroup.f a = some (groupB a) := by
  simp [spec_IsGroup.f, spec_l02Mac_eq, groupB]
  cases macB a <;> simp
theorem impl_isMac_eq (a : Int) : impl_isMac.f a = some (macB a) := by simp [impl_isMac.f, Q5, macB]
theorem impl_isIp_eq (a : Int) : impl_isIp.f a = some (ipB a) := by simp [impl_isIp.f, Q5, ipB]
theorem impl_isVni_eq (a : Int) : impl_isVni.f a = some (vniB a) := by simp [impl_isVni.f, Q5, vniB]
theorem impl_isTime_eq (a : Int) : impl_isTime.f a = some (timeB a) := by simp [impl_isTime.f, Q5, timeB]
theorem impl_isHouse_eq (a : Int) : impl_isHouse.f a = some (houseB a) := by simp [impl_isHouse.f, Q5, houseB]
theorem impl_IsGroup_eq (a : Int) : impl_IsGroup.f a = some (groupB a) := by
  simp [impl_IsGroup.f, impl_isMac_eq, groupB]
  cases macB a <;> simp
theorem impl_isGuest_eq (a : Int) : impl_isGuest.f a = some (macB a && !groupB a) := by
  simp [impl_isGuest.f, impl_isMac_eq, impl_IsGroup_eq]
  cases macB a <;> simp
theorem cmp_Compare_eq (a b : Int) : cmp_Compare_int64.f a b = some (cmpI a b) := by
  simp only [cmp_Compare_int64.f, cmp_isNaN_int64.f, Option.bind_some, bne_self_eq_false, cmpI]
  simp only [Bool.false_eq_true, if_false]
  repeat' split
  all_goals rfl
theorem cmp_Or_eq (xs : List Int) (hn : xs.length ≤ 100) (k : Nat) (hk : xs.length < k) : cmp_Or_int.f k xs = some (firstNZ xs) := by
  have key : ∀ (d i k : Nat), i + d = xs.length → d < k → cmp_Or_int.l0 k 0 xs (xs.length : Int) (i : Int) = some (firstNZ (xs.drop i)) := by
    intro d
    induction d with
    | zero =>
      intro i k hd hk
      obtain ⟨k, rfl⟩ : ∃ m, k = m + 1 := ⟨k - 1, by omega⟩
      simp only [cmp_Or_int.l0]
      rw [if_neg (by omega), List.drop_of_length_le (by omega)]
      rfl
    | succ d ih =>
      intro i k hd hk
      obtain ⟨k, rfl⟩ : ∃ m, k = m + 1 := ⟨k - 1, by omega⟩
      simp only [cmp_Or_int.l0]
      rw [if_pos (by omega), if_pos (by omega), if_pos (by omega), show rd xs (i : Int) = nth 0 xs i from rfl, drop_nth 0 (by omega : i < xs.length), wrap_up (by omega : i < xs.length) (by omega), ih (i + 1) k (by omega) (by omega)]
      simp only [firstNZ]
      split <;> rfl
  exact key xs.length 0 k (by omega) hk
def routeB (k v m ip o s : Int) (st : Bool) : Bool := vniB v && houseB o && (if k = 2 then (macB m && !groupB m) && ipB ip && timeB s else decide (k = 3) && decide (m = 0) && decide (ip = 0) && decide (s = 0) && !st)
theorem spec_RouteRight_eq (k v m ip o s : Int) (st : Bool) (n : Nat) (hn : 1 ≤ n) : spec_RouteRight.f n k v m ip o s st = some (routeB k v m ip o s st) := by
  obtain ⟨n, rfl⟩ : ∃ q, n = q + 1 := ⟨n - 1, by omega⟩
  unfold spec_RouteRight.f routeB
  rw [spec_l02Vni_eq, Q2, show inB o 1 4 = houseB o from rfl]
  simp only [Option.bind_some, spec_RouteRight.j0, spec_l02Mac_eq, spec_IsGroup_eq, spec_l02Ip_eq, Q2, show inB s 0 1000000 = timeB s from rfl]
  cases vniB v <;> cases houseB o <;> simp
  by_cases h2 : k = 2
  · cases macB m <;> cases groupB m <;> cases ipB ip <;> simp [h2]
  · by_cases h3 : k = 3
    · by_cases h4 : m = 0 <;> by_cases h5 : ip = 0 <;> by_cases h6 : s = 0 <;> simp [h3, h4, h5, h6]
    · simp [h2, h3]
theorem impl_RouteRight_eq (k v m ip o s : Int) (st : Bool) (n : Nat) (hn : 1 ≤ n) : impl_RouteRight.f n k v m ip o s st = some (routeB k v m ip o s st) := by
  obtain ⟨n, rfl⟩ : ∃ q, n = q + 1 := ⟨n - 1, by omega⟩
  unfold impl_RouteRight.f routeB
  rw [impl_isVni_eq, impl_isHouse_eq]
  simp only [Option.bind_some, impl_RouteRight.j0, impl_isGuest_eq, impl_isIp_eq, impl_isTime_eq]
  cases vniB v <;> cases houseB o <;> simp
  by_cases h2 : k = 2
  · cases macB m <;> cases groupB m <;> cases ipB ip <;> simp [h2]
  · by_cases h3 : k = 3
    · by_cases h4 : m = 0 <;> by_cases h5 : ip = 0 <;> by_cases h6 : s = 0 <;> simp [h3, h4, h5, h6]
    · simp [h2, h3]
def peerB (a : Int) : Bool := inB a 1 9
def lessH (a b : S73) : Bool := if a.f0 = b.f0 then (if a.f2.f0 = b.f2.f0 then (if a.f2.f1 = b.f2.f1 then (if a.f2.f2 = b.f2.f2 then decide (a.f2.f4 < b.f2.f4) else decide (a.f2.f2 < b.f2.f2)) else decide (a.f2.f1 < b.f2.f1)) else decide (a.f2.f0 < b.f2.f0)) else decide (a.f0 < b.f0)
def rightH (a : S73) : Bool := peerB a.f0 && routeB a.f2.f0 a.f2.f1 a.f2.f2 a.f2.f3 a.f2.f4 a.f2.f5 a.f2.f6
def heldAt (xs : List S73) (j : Nat) : Bool := rightH (nth z73 xs j) && (j == 0 || lessH (nth z73 xs (j - 1)) (nth z73 xs j))
def ribRight (xs : List S73) : Bool := chk (heldAt xs) xs.length 0 && decide (xs.length ≤ 60)
theorem rdH (xs : List S73) (i : Nat) : Qk xs (i : Int) = nth z73 xs i := rfl
theorem spec_l06Less_eq (a b : S73) : spec_l06Less.f a.f0 a.f1 a.f2.f0 a.f2.f1 a.f2.f2 a.f2.f3 a.f2.f4 a.f2.f5 a.f2.f6 b.f0 b.f1 b.f2.f0 b.f2.f1 b.f2.f2 b.f2.f3 b.f2.f4 b.f2.f5 b.f2.f6 = some (lessH a b) := by
  unfold spec_l06Less.f lessH
  repeat' split
  all_goals rfl
theorem fnz_cons (a b : Int) (l : List Int) : (0 ≤ firstNZ (cmpI a b :: l)) ↔ (if a = b then 0 ≤ firstNZ l else ¬ a < b) := by
  have e : firstNZ (cmpI a b :: l) = if cmpI a b = 0 then firstNZ l else cmpI a b := rfl
  rw [e]
  unfold cmpI
  rcases Int.lt_trichotomy a b with h | h | h
  · rw [if_pos h, if_neg (by omega), if_neg (by omega)]; simp [h]
  · subst h; simp
  · rw [if_neg (by omega), if_pos h, if_neg (by omega), if_neg (by omega)]; simp; omega
def ordH (a b : S73) : Int := firstNZ [cmpI a.f0 b.f0, cmpI a.f2.f0 b.f2.f0, cmpI a.f2.f1 b.f2.f1, cmpI a.f2.f2 b.f2.f2, cmpI a.f2.f4 b.f2.f4]
theorem impl_Held_order_eq (a b : S73) (k : Nat) (hk : 6 ≤ k) : impl_Held_order.f k a.f0 a.f1 a.f2.f0 a.f2.f1 a.f2.f2 a.f2.f3 a.f2.f4 a.f2.f5 a.f2.f6 b.f0 b.f1 b.f2.f0 b.f2.f1 b.f2.f2 b.f2.f3 b.f2.f4 b.f2.f5 b.f2.f6 = some (ordH a b) := by
  simp only [impl_Held_order.f, cmp_Compare_eq, Option.bind_some]
  rw [cmp_Or_eq _ (by simp) k (by simp; omega)]
  rfl
theorem ordH_neg (a b : S73) : (ordH a b ≥ 0) ↔ lessH a b = false := by
  show 0 ≤ ordH a b ↔ _
  unfold ordH lessH
  simp only [fnz_cons]
  have h0 : 0 ≤ firstNZ [] := by simp [firstNZ]
  repeat' split
  all_goals simp_all
theorem spec_RibRight_loop (xs : List S73) (hn : xs.length ≤ 9223372036854775807) : ∀ (d i k : Nat), i + d = xs.length → d + 1 < k → spec_RibRight.l0 k xs (i : Int) = some (chk (heldAt xs) d i && true) := by
  apply chk_loop 1 (fun k i => spec_RibRight.l0 k xs i)
  · intro k i hc hi
    simp only [spec_RibRight.l0]
    rw [if_pos (by omega), if_pos (by omega), rdH, spec_l06Peer.f, Q2, Option.bind_some, show inB (nth z73 xs i).f0 1 9 = peerB (nth z73 xs i).f0 from rfl, spec_RouteRight_eq _ _ _ _ _ _ _ k hc]
    simp only [Option.bind_some]
    unfold heldAt rightH
    cases h1 : peerB (nth z73 xs i).f0 with
    | false => simp
    | true =>
      rw [if_pos rfl]
      cases h2 : routeB (nth z73 xs i).f2.f0 (nth z73 xs i).f2.f1 (nth z73 xs i).f2.f2 (nth z73 xs i).f2.f3 (nth z73 xs i).f2.f4 (nth z73 xs i).f2.f5 (nth z73 xs i).f2.f6 with
      | false => simp
      | true =>
        rw [if_pos rfl]
        by_cases h0 : i = 0
        · subst h0
          rw [if_neg (by omega), if_pos (by simp), wrap_up hi hn]
        · rw [if_pos (by omega), wrap_down (by omega) (by omega), if_pos (by omega), if_pos (by omega), rdH, wrap_up hi hn, spec_l06Less_eq, Option.bind_some]
          cases h3 : lessH (nth z73 xs (i - 1)) (nth z73 xs i) <;> simp [h0]
  · intro k _
    simp only [spec_RibRight.l0]
    rw [if_neg (by omega)]
theorem spec_RibRight_eq (xs : List S73) (hn : xs.length ≤ 9223372036854775807) (k : Nat) (hk : xs.length + 6 < k) : spec_RibRight.f k xs = some (ribRight xs) := by
  unfold spec_RibRight.f ribRight
  by_cases h : xs.length ≤ 60
  · rw [if_neg (by omega), show (0 : Int) = ((0 : Nat) : Int) from rfl, spec_RibRight_loop xs hn xs.length 0 k (by omega) (by omega)]
    simp [h]
  · rw [if_pos (by omega)]
    simp [h]
theorem impl_RibRight_loop (xs : List S73) (hn : xs.length ≤ 9223372036854775807) : ∀ (d i k : Nat), i + d = xs.length → d + 6 < k → impl_RibRight.l0 k xs xs (xs.length : Int) (i : Int) = some (chk (heldAt xs) d i && decide (xs.length ≤ 60)) := by
  apply chk_loop 6 (fun k i => impl_RibRight.l0 k xs xs (xs.length : Int) i)
  · intro k i hc hi
    simp only [impl_RibRight.l0]
    rw [if_pos (by omega), if_pos (by omega), if_pos (by omega), rdH, impl_isPeer.f, Q5, Option.bind_some, show inB (nth z73 xs i).f0 1 9 = peerB (nth z73 xs i).f0 from rfl, impl_RouteRight_eq _ _ _ _ _ _ _ k (by omega)]
    simp only [Option.bind_some]
    unfold heldAt rightH
    cases h1 : peerB (nth z73 xs i).f0 with
    | false => simp
    | true =>
      rw [if_pos rfl]
      cases h2 : routeB (nth z73 xs i).f2.f0 (nth z73 xs i).f2.f1 (nth z73 xs i).f2.f2 (nth z73 xs i).f2.f3 (nth z73 xs i).f2.f4 (nth z73 xs i).f2.f5 (nth z73 xs i).f2.f6 with
      | false => simp
      | true =>
        rw [if_pos rfl]
        by_cases h0 : i = 0
        · subst h0
          rw [if_neg (by omega), if_pos (by simp), wrap_up hi hn]
        · rw [if_pos (by omega), wrap_down (by omega) (by omega), if_pos (by omega), if_pos (by omega), rdH, wrap_up hi hn, impl_Held_order_eq _ _ k hc, Option.bind_some]
          have ho := ordH_neg (nth z73 xs (i - 1)) (nth z73 xs i)
          cases h3 : lessH (nth z73 xs (i - 1)) (nth z73 xs i) with
          | true => rw [if_neg (by rw [ho, h3]; simp)]; simp
          | false => rw [if_pos (by rw [ho, h3])]; simp [h0]
  · intro k _
    simp only [impl_RibRight.l0]
    rw [if_neg (by omega)]
    simp only [Option.some.injEq, decide_eq_decide]
    omega
theorem impl_RibRight_eq (xs : List S73) (hn : xs.length ≤ 9223372036854775807) (k : Nat) (hk : xs.length + 6 < k) : impl_RibRight.f k xs = some (ribRight xs) := by
  unfold impl_RibRight.f ribRight
  rw [show (0 : Int) = ((0 : Nat) : Int) from rfl, impl_RibRight_loop xs hn xs.length 0 k (by omega) hk]
def toRoute (x : S40) : S42 := ⟨x.f0, x.f1, x.f2, x.f3, x.f4, x.f5, x.f6⟩
def toHeld (x : S76) : S73 := ⟨x.f0, x.f1, toRoute x.f2⟩
theorem laws_toHeldS_eq (xs : List S76) (hn : xs.length ≤ 1048576) (k : Nat) (hk : xs.length < k) : laws_toHeldS.f k xs = some (xs.map toHeld) := by
  unfold laws_toHeldS.f
  rw [if_pos (by omega), if_pos (by omega), show (0 : Int) = ((0 : Nat) : Int) from rfl]
  rw [fill_loop 0 (fun k acc i => laws_toHeldS.l0 k xs acc i) xs.length (fun j => toHeld (nth z76 xs j)) ?_ ?_ xs.length 0 k _ (by simp) (by omega) hk]
  · simp [map_range_getD]
  · intro k i acc _ hi hl
    simp only [laws_toHeldS.l0, laws_toHeld.f, laws_toRoute.f, Option.bind_some]
    rw [if_pos (by omega), if_pos (by omega), if_pos (by omega), wrap_up hi (by omega)]
    rfl
  · intro k acc _ hl
    simp only [laws_toHeldS.l0]
    rw [if_neg (by omega)]
theorem laws_eqHeldS_self (xs : List S73) (hn : xs.length ≤ 9223372036854775807) (k : Nat) (hk : xs.length < k) : laws_eqHeldS.f k xs xs = some true := by
  unfold laws_eqHeldS.f
  rw [if_pos rfl, show (0 : Int) = ((0 : Nat) : Int) from rfl]
  rw [chk_loop 0 (fun k i => laws_eqHeldS.l0 k xs xs i) xs.length (fun _ => true) true ?_ ?_ xs.length 0 k (by omega) hk]
  · simp only [Bool.and_true, Option.some.injEq, chk_iff]
    intros; trivial
  · intro k i _ hi
    simp only [laws_eqHeldS.l0, laws_eqHeld.f, laws_eqRoute.f, if_true, Option.bind_some, bne_self_eq_false, Bool.false_eq_true, if_false]
    rw [if_pos (by omega), if_pos (by omega), if_pos (by omega), wrap_up hi hn]
  · intro k _
    simp only [laws_eqHeldS.l0]
    rw [if_neg (by omega)]
def pipeB (a b c d : Int) (l : List ByteArray) : Bool := inB a 1 1000000 && (timeB b && (timeB c && (timeB d && (decide (l.length ≤ 60) && (decide (c + l.length ≤ 1000000) && (l.all (fun t => decide (t.size ≤ 60)) && (decide (b > 0) || (decide (c = 0) && (decide (d = 0) && decide (l.length = 0))))))))))
def pipeS (x : S100) : Bool := pipeB x.f0 x.f1 x.f2 x.f3 x.f4
theorem rdP (xs : List S100) (i : Nat) : Qp xs (i : Int) = nth z100 xs i := rfl
theorem rdS (xs : List ByteArray) (i : Nat) : rdOf ByteArray.empty xs (i : Int) = nth ByteArray.empty xs i := rfl
theorem spec_PipeRight_loop (a b c d : Int) (l : List ByteArray) (hn : l.length ≤ 9223372036854775807) : ∀ (n i k : Nat), i + n = l.length → n + 0 < k → spec_PipeRight.l0 k (i : Int) a b c d l = some (chk (fun j => decide ((nth ByteArray.empty l j).size ≤ 60)) n i && (decide (b > 0) || (decide (c = 0) && (decide (d = 0) && decide (l.length = 0))))) := by
  apply chk_loop 0 (fun k i => spec_PipeRight.l0 k i a b c d l)
  · intro k i _ hi
    simp only [spec_PipeRight.l0]
    rw [if_pos (by omega), if_pos (by omega), rdS, wrap_up hi hn]
    by_cases h : (nth ByteArray.empty l i).size ≤ 60
    · rw [if_neg (by omega), if_pos (by simp [h])]
    · rw [if_pos (by omega), if_neg (by simp [h])]
  · intro k _
    simp only [spec_PipeRight.l0]
    rw [if_neg (by omega)]
    by_cases h1 : b > 0
    · rw [if_pos h1]; simp [h1]
    · rw [if_neg h1]
      by_cases h2 : c = 0
      · rw [if_pos h2]
        by_cases h3 : d = 0
        · rw [if_pos h3]
          simp only [h1, h2, h3, decide_true, decide_false, Bool.true_and, Bool.false_or, Option.some.injEq]
          rw [Bool.eq_iff_iff]
          simp only [beq_iff_eq, decide_eq_true_eq]
          omega
        · rw [if_neg h3]; simp [h1, h3]
      · rw [if_neg h2]; simp [h1, h2]
theorem spec_PipeRight_eq (a b c d : Int) (l : List ByteArray) (k : Nat) (hk : 63 < k) : spec_PipeRight.f k a b c d l = some (pipeB a b c d l) := by
  obtain ⟨k, rfl⟩ : ∃ q, k = q + 1 := ⟨k - 1, by omega⟩
  unfold spec_PipeRight.f pipeB
  rw [Q2, spec_l05Time_eq, spec_l05Time_eq, spec_l05Time_eq]
  simp only [Option.bind_some, spec_PipeRight.j0]
  cases inB a 1 1000000 with
  | false => simp
  | true =>
    cases timeB b with
    | false => simp
    | true =>
      cases hc : timeB c with
      | false => simp
      | true =>
        cases timeB d with
        | false => simp
        | true =>
          by_cases h : l.length ≤ 60
          · have hcb : 0 ≤ c ∧ c ≤ 1000000 := by simpa [timeB, inB] using hc
            have hw : wrap64 (c + (l.length : Int)) = c + l.length := by unfold wrap64; omega
            rw [if_pos rfl, if_pos rfl, if_pos rfl, if_pos rfl, if_neg (by omega), hw, spec_l05Time_eq, Option.bind_some]
            have ht : timeB (c + l.length) = decide (c + l.length ≤ 1000000) := by
              simp only [timeB, inB, decide_eq_true (show (0 : Int) ≤ c + l.length by omega), Bool.true_and]
            rw [ht]
            by_cases h2 : c + (l.length : Int) ≤ 1000000
            · rw [decide_eq_true h2, if_neg (by decide), show (0 : Int) = ((0 : Nat) : Int) from rfl, spec_PipeRight_loop a b c d l (by omega) l.length 0 k (by omega) (by omega), ← chk_all (fun t : ByteArray => decide (t.size ≤ 60)) ByteArray.empty l]
              simp [h]
            · rw [decide_eq_false h2, if_pos (by decide)]
              simp [h]
          · rw [if_pos rfl, if_pos rfl, if_pos rfl, if_pos rfl, if_pos (by omega)]
            simp [h]
def tellerB (a e : Int) (ps : List S100) (l : List S73) : Bool := inB a 1 2 && (inB e 1 1000000 && (decide (1 ≤ ps.length) && (decide (ps.length ≤ 4) && (ribRight l && (ps.all (fun x => pipeS x && decide (x.f0 ≤ e)) && l.all (fun x => decide (x.f0 ≤ (ps.length : Int)) && decide (x.f2.f4 = x.f0)))))))
theorem spec_TellerRight_rib (a e : Int) (ps : List S100) (l : List S73) (hn : l.length ≤ 9223372036854775807) (k : Nat) (hk : l.length < k) : spec_TellerRight.l1 k 0 a e ps l = some (l.all (fun x => decide (x.f0 ≤ (ps.length : Int)) && decide (x.f2.f4 = x.f0))) := by
  have := chk_loop 0 (fun k i => spec_TellerRight.l1 k i a e ps l) l.length (fun j => decide ((nth z73 l j).f0 ≤ (ps.length : Int)) && decide ((nth z73 l j).f2.f4 = (nth z73 l j).f0)) true ?_ ?_ l.length 0 k (by omega) (by omega)
  · rw [Bool.and_true, chk_all (fun x : S73 => decide (x.f0 ≤ (ps.length : Int)) && decide (x.f2.f4 = x.f0)) z73 l] at this
    exact this
  · intro k i _ hi
    simp only [spec_TellerRight.l1]
    rw [if_pos (by omega), if_pos (by omega), rdH, wrap_up hi hn]
    by_cases h : (nth z73 l i).f0 ≤ (ps.length : Int)
    · rw [if_neg (by omega)]
      by_cases h2 : (nth z73 l i).f2.f4 = (nth z73 l i).f0
      · rw [if_pos h2, if_pos (by simp [h, h2])]
      · rw [if_neg h2, if_neg (by simp [h2])]
    · rw [if_pos (by omega), if_neg (by simp [h])]
  · intro k _
    simp only [spec_TellerRight.l1]
    rw [if_neg (by omega)]
theorem spec_TellerRight_pipes (a e : Int) (ps : List S100) (l : List S73) (hn : l.length ≤ 9223372036854775807) (hp : ps.length ≤ 9223372036854775807) (k : Nat) (hk : ps.length + (l.length + 64) < k) : spec_TellerRight.l0 k 0 a e ps l = some (ps.all (fun x => pipeS x && decide (x.f0 ≤ e)) && l.all (fun x => decide (x.f0 ≤ (ps.length : Int)) && decide (x.f2.f4 = x.f0))) := by
  have := chk_loop (l.length + 64) (fun k i => spec_TellerRight.l0 k i a e ps l) ps.length (fun j => pipeS (nth z100 ps j) && decide ((nth z100 ps j).f0 ≤ e)) (l.all (fun x => decide (x.f0 ≤ (ps.length : Int)) && decide (x.f2.f4 = x.f0))) ?_ ?_ ps.length 0 k (by omega) (by omega)
  · rw [chk_all (fun x : S100 => pipeS x && decide (x.f0 ≤ e)) z100 ps] at this
    exact this
  · intro k i hc hi
    simp only [spec_TellerRight.l0]
    rw [if_pos (by omega), if_pos (by omega), rdP, wrap_up hi hp, spec_PipeRight_eq _ _ _ _ _ k (by omega), Option.bind_some, show pipeB (nth z100 ps i).f0 (nth z100 ps i).f1 (nth z100 ps i).f2 (nth z100 ps i).f3 (nth z100 ps i).f4 = pipeS (nth z100 ps i) from rfl]
    cases pipeS (nth z100 ps i) with
    | false => rfl
    | true =>
      by_cases h : (nth z100 ps i).f0 ≤ e
      · rw [if_pos rfl, if_neg (by omega), if_pos (by simp [h])]
      · rw [if_pos rfl, if_pos (by omega), if_neg (by simp [h])]
  · intro k hc
    simp only [spec_TellerRight.l0]
    rw [if_neg (by omega)]
    exact spec_TellerRight_rib a e ps l hn k (by omega)
theorem spec_TellerRight_eq (a e : Int) (ps : List S100) (l : List S73) (hn : l.length ≤ 9223372036854775807) (k : Nat) (hk : l.length + 80 < k) : spec_TellerRight.f k a e ps l = some (tellerB a e ps l) := by
  obtain ⟨k, rfl⟩ : ∃ q, k = q + 1 := ⟨k - 1, by omega⟩
  unfold spec_TellerRight.f tellerB
  rw [Q2, Q2, spec_RibRight_eq l hn _ (by omega)]
  simp only [Option.bind_some, spec_TellerRight.j0]
  cases inB a 1 2 with
  | false => simp
  | true =>
    cases inB e 1 1000000 with
    | false => simp
    | true =>
      rw [if_pos rfl, if_pos rfl]
      by_cases h1 : 1 ≤ ps.length
      · rw [if_neg (by omega)]
        by_cases h2 : ps.length ≤ 4
        · rw [if_neg (by omega)]
          cases ribRight l with
          | false => simp
          | true =>
            rw [if_neg (by decide), spec_TellerRight_pipes a e ps l hn (by omega) k (by omega)]
            simp [h1, h2]
        · rw [if_pos (by omega)]; simp [h2]
      · rw [if_pos (by omega)]; simp [h1]
theorem impl_TellerRight_rib (a e : Int) (ps : List S100) (l : List S73) (hn : l.length ≤ 9223372036854775807) (k : Nat) (hk : l.length < k) : impl_TellerRight.l1 k 0 a e ps l = some (l.all (fun x => decide (x.f0 ≤ (ps.length : Int)) && decide (x.f2.f4 = x.f0))) := by
  have := chk_loop 0 (fun k i => impl_TellerRight.l1 k i a e ps l) l.length (fun j => decide ((nth z73 l j).f0 ≤ (ps.length : Int)) && decide ((nth z73 l j).f2.f4 = (nth z73 l j).f0)) true ?_ ?_ l.length 0 k (by omega) (by omega)
  · rw [Bool.and_true, chk_all (fun x : S73 => decide (x.f0 ≤ (ps.length : Int)) && decide (x.f2.f4 = x.f0)) z73 l] at this
    exact this
  · intro k i _ hi
    simp only [impl_TellerRight.l1]
    rw [if_pos (by omega), if_pos (by omega), rdH, wrap_up hi hn]
    by_cases h : (nth z73 l i).f0 ≤ (ps.length : Int)
    · rw [if_neg (by omega)]
      by_cases h2 : (nth z73 l i).f2.f4 = (nth z73 l i).f0
      · rw [if_pos h2, if_pos (by simp [h, h2])]
      · rw [if_neg h2, if_neg (by simp [h2])]
    · rw [if_pos (by omega), if_neg (by simp [h])]
  · intro k _
    simp only [impl_TellerRight.l1]
    rw [if_neg (by omega)]
theorem impl_TellerRight_pipes (a e : Int) (ps : List S100) (l : List S73) (hn : l.length ≤ 9223372036854775807) (hp : ps.length ≤ 9223372036854775807) (k : Nat) (hk : ps.length + (l.length + 64) < k) : impl_TellerRight.l0 k 0 a e ps l = some (ps.all (fun x => pipeS x && decide (x.f0 ≤ e)) && l.all (fun x => decide (x.f0 ≤ (ps.length : Int)) && decide (x.f2.f4 = x.f0))) := by
  have := chk_loop (l.length + 64) (fun k i => impl_TellerRight.l0 k i a e ps l) ps.length (fun j => pipeS (nth z100 ps j) && decide ((nth z100 ps j).f0 ≤ e)) (l.all (fun x => decide (x.f0 ≤ (ps.length : Int)) && decide (x.f2.f4 = x.f0))) ?_ ?_ ps.length 0 k (by omega) (by omega)
  · rw [chk_all (fun x : S100 => pipeS x && decide (x.f0 ≤ e)) z100 ps] at this
    exact this
  · intro k i hc hi
    simp only [impl_TellerRight.l0]
    rw [if_pos (by omega), if_pos (by omega), rdP, wrap_up hi hp, spec_PipeRight_eq _ _ _ _ _ k (by omega), Option.bind_some, show pipeB (nth z100 ps i).f0 (nth z100 ps i).f1 (nth z100 ps i).f2 (nth z100 ps i).f3 (nth z100 ps i).f4 = pipeS (nth z100 ps i) from rfl]
    cases pipeS (nth z100 ps i) with
    | false => rfl
    | true =>
      by_cases h : (nth z100 ps i).f0 ≤ e
      · rw [if_pos rfl, if_neg (by omega), if_pos (by simp [h])]
      · rw [if_pos rfl, if_pos (by omega), if_neg (by simp [h])]
  · intro k hc
    simp only [impl_TellerRight.l0]
    rw [if_neg (by omega)]
    exact impl_TellerRight_rib a e ps l hn k (by omega)
theorem impl_TellerRight_eq (a e : Int) (ps : List S100) (l : List S73) (hn : l.length ≤ 9223372036854775807) (k : Nat) (hk : l.length + 80 < k) : impl_TellerRight.f k a e ps l = some (tellerB a e ps l) := by
  obtain ⟨k, rfl⟩ : ∃ q, k = q + 1 := ⟨k - 1, by omega⟩
  unfold impl_TellerRight.f tellerB
  rw [Q5, Q5, impl_RibRight_eq l hn _ (by omega)]
  simp only [Option.bind_some, impl_TellerRight.j0]
  cases inB a 1 2 with
  | false => simp
  | true =>
    cases inB e 1 1000000 with
    | false => simp
    | true =>
      rw [if_pos rfl, if_pos rfl]
      by_cases h1 : 1 ≤ ps.length
      · rw [if_neg (by omega)]
        by_cases h2 : ps.length ≤ 4
        · rw [if_neg (by omega)]
          cases ribRight l with
          | false => simp
          | true =>
            rw [if_neg (by decide), impl_TellerRight_pipes a e ps l hn (by omega) k (by omega)]
            simp [h1, h2]
        · rw [if_pos (by omega)]; simp [h2]
      · rw [if_pos (by omega)]; simp [h1]
def toPipe (x : S123) : S100 := ⟨x.f0, x.f1, x.f2, x.f3, x.f4⟩
theorem laws_szStringS_loop (l : List ByteArray) (hn : l.length ≤ 9223372036854775807) (hs : ∀ y ∈ l, y.size ≤ 9223372036854775807) : ∀ (d i : Nat) (a : Int), i + d = l.length → 0 ≤ a → a ≤ 1048576 → ∃ v, (v < 0 ∨ 0 ≤ v ∧ v ≤ a) ∧ ∀ k, d < k → laws_szStringS.l0 k l a (i : Int) = some v := by
  intro d
  induction d with
  | zero =>
    intro i a hi h0 h1
    refine ⟨a, .inr ⟨h0, Int.le_refl _⟩, fun k hk => ?_⟩
    obtain ⟨k, rfl⟩ : ∃ q, k = q + 1 := ⟨k - 1, by omega⟩
    rw [laws_szStringS.l0, if_neg (by omega)]
  | succ d ih =>
    intro i a hi h0 h1
    have hm := hs _ (nth_mem (z := ByteArray.empty) (by omega : i < l.length))
    have hw : wrap64 (a - ((nth ByteArray.empty l i).size : Int)) = a - (nth ByteArray.empty l i).size := by unfold wrap64; omega
    by_cases h : a - ((nth ByteArray.empty l i).size : Int) < 0
    · refine ⟨-1, .inl (by decide), fun k hk => ?_⟩
      obtain ⟨k, rfl⟩ : ∃ q, k = q + 1 := ⟨k - 1, by omega⟩
      rw [laws_szStringS.l0, if_pos (by omega), if_pos (by omega), rdS, hw, if_pos h]
    · obtain ⟨v, hv, hk2⟩ := ih (i + 1) (a - (nth ByteArray.empty l i).size) (by omega) (by omega) (by omega)
      refine ⟨v, ?_, fun k hk => ?_⟩
      · rcases hv with hv | ⟨hv1, hv2⟩
        · exact .inl hv
        · exact .inr ⟨hv1, by omega⟩
      · obtain ⟨k, rfl⟩ : ∃ q, k = q + 1 := ⟨k - 1, by omega⟩
        rw [laws_szStringS.l0, if_pos (by omega), if_pos (by omega), rdS, hw, if_neg h, wrap_up (by omega : i < l.length) hn]
        exact hk2 k (by omega)
theorem laws_szStringS_is (l : List ByteArray) (hn : l.length ≤ 9223372036854775807) (hs : ∀ y ∈ l, y.size ≤ 9223372036854775807) (a : Int) (h0 : 0 ≤ a) (h1 : a ≤ 1048576) : ∃ v, (v < 0 ∨ 0 ≤ v ∧ v + l.length ≤ a) ∧ ∀ k, l.length < k → laws_szStringS.f k l a = some v := by
  have hw : wrap64 (a - (l.length : Int)) = a - l.length := by unfold wrap64; omega
  unfold laws_szStringS.f
  rw [hw]
  by_cases h : a - (l.length : Int) < 0
  · exact ⟨-1, .inl (by decide), fun k _ => by rw [if_pos h]⟩
  · obtain ⟨v, hv, hk⟩ := laws_szStringS_loop l hn hs l.length 0 (a - l.length) (by omega) (by omega) (by omega)
    refine ⟨v, ?_, fun k hk2 => by rw [if_neg h]; exact hk k hk2⟩
    rcases hv with hv | ⟨hv1, hv2⟩
    · exact .inl hv
    · exact .inr ⟨hv1, by omega⟩
def okPipes (ps : List S123) : Prop := ps.length ≤ 9223372036854775807 ∧ ∀ y ∈ ps, y.f4.length ≤ 9223372036854775807 ∧ ∀ z ∈ y.f4, z.size ≤ 9223372036854775807
def smallPipes (ps : List S123) (j : Nat) : Prop := ∀ i, i < j → (nth z123 ps i).f4.length ≤ 1048576
theorem laws_szPipeS_loop (ps : List S123) (hp : okPipes ps) : ∀ (d i : Nat) (a : Int), i + d = ps.length → 0 ≤ a → a ≤ 1048576 → smallPipes ps i → ∃ v, (v < 0 ∨ 0 ≤ v ∧ v ≤ a ∧ smallPipes ps ps.length) ∧ ∀ k, d + 1048577 < k → laws_szPipeS.l0 k ps a (i : Int) = some v := by
  intro d
  induction d with
  | zero =>
    intro i a hi h0 h1 hsm
    refine ⟨a, .inr ⟨h0, Int.le_refl _, by rw [show ps.length = i by omega]; exact hsm⟩, fun k hk => ?_⟩
    obtain ⟨k, rfl⟩ : ∃ q, k = q + 1 := ⟨k - 1, by omega⟩
    rw [laws_szPipeS.l0, if_neg (by omega)]
  | succ d ih =>
    intro i a hi h0 h1 hsm
    have hm := hp.2 _ (nth_mem (z := z123) (by omega : i < ps.length))
    obtain ⟨u, hu, hku⟩ := laws_szStringS_is _ hm.1 hm.2 a h0 h1
    by_cases hs : (nth z123 ps i).f4.length ≤ 1048576
    · rcases hu with hu | ⟨hu1, hu2⟩
      · refine ⟨-1, .inl (by decide), fun k hk => ?_⟩
        obtain ⟨k, rfl⟩ : ∃ q, k = q + 1 := ⟨k - 1, by omega⟩
        rw [laws_szPipeS.l0, if_pos (by omega), if_pos (by omega), show Q0 ps (i : Int) = nth z123 ps i from rfl, laws_szPipe.f, hku k (by omega)]
        simp only [Option.bind_some]
        rw [if_pos hu]
        rfl
      · obtain ⟨v, hv, hkv⟩ := ih (i + 1) u (by omega) hu1 (by omega) (by
          intro j hj
          by_cases e : j = i
          · subst e; exact hs
          · exact hsm j (by omega))
        refine ⟨v, ?_, fun k hk => ?_⟩
        · rcases hv with hv | ⟨hv1, hv2, hv3⟩
          · exact .inl hv
          · exact .inr ⟨hv1, by omega, hv3⟩
        · obtain ⟨k, rfl⟩ : ∃ q, k = q + 1 := ⟨k - 1, by omega⟩
          rw [laws_szPipeS.l0, if_pos (by omega), if_pos (by omega), show Q0 ps (i : Int) = nth z123 ps i from rfl, laws_szPipe.f, hku k (by omega)]
          simp only [Option.bind_some]
          rw [if_neg (by omega)]
          simp only [Option.bind_some]
          rw [if_neg (by omega), wrap_up (by omega : i < ps.length) hp.1]
          exact hkv k (by omega)
    · refine ⟨-1, .inl (by decide), fun k hk => ?_⟩
      obtain ⟨k, rfl⟩ : ∃ q, k = q + 1 := ⟨k - 1, by omega⟩
      have hw : wrap64 (a - ((nth z123 ps i).f4.length : Int)) < 0 := by have := hm.1; unfold wrap64; omega
      rw [laws_szPipeS.l0, if_pos (by omega), if_pos (by omega), show Q0 ps (i : Int) = nth z123 ps i from rfl, laws_szPipe.f, laws_szStringS.f, if_pos hw]
      rfl
theorem laws_szPipeS_is (ps : List S123) (hp : okPipes ps) (a : Int) (h0 : 0 ≤ a) (h1 : a ≤ 1048576) : ∃ v, (v < 0 ∨ 0 ≤ v ∧ v ≤ a ∧ ps.length ≤ 1048576 ∧ smallPipes ps ps.length) ∧ ∀ k, 2097160 < k → laws_szPipeS.f k ps a = some v := by
  have hw : wrap64 (a - (ps.length : Int)) = a - ps.length := by have := hp.1; unfold wrap64; omega
  unfold laws_szPipeS.f
  rw [hw]
  by_cases h : a - (ps.length : Int) < 0
  · exact ⟨-1, .inl (by decide), fun k _ => by rw [if_pos h]⟩
  · obtain ⟨v, hv, hk⟩ := laws_szPipeS_loop ps hp ps.length 0 (a - ps.length) (by omega) (by omega) (by omega) (fun i hi => absurd hi (Nat.not_lt_zero _))
    refine ⟨v, ?_, fun k hk2 => by rw [if_neg h]; exact hk k (by omega)⟩
    rcases hv with hv | ⟨hv1, hv2, hv3⟩
    · exact .inl hv
    · exact .inr ⟨hv1, by omega, by omega, hv3⟩
theorem laws_toStringS_eq (l : List ByteArray) (hn : l.length ≤ 1048576) (k : Nat) (hk : l.length < k) : laws_toStringS.f k l = some l := by
  unfold laws_toStringS.f
  rw [if_pos (by omega), if_pos (by omega), show (0 : Int) = ((0 : Nat) : Int) from rfl]
  rw [fill_loop 0 (fun k acc i => laws_toStringS.l0 k l acc i) l.length (fun j => nth ByteArray.empty l j) ?_ ?_ l.length 0 k _ (by simp) (by omega) hk]
  · have := map_range_getD (fun x : ByteArray => x) ByteArray.empty l
    simp only [List.map_id'] at this
    simp [this]
  · intro k i acc _ hi hl
    simp only [laws_toStringS.l0]
    rw [if_pos (by omega), if_pos (by omega), if_pos (by omega), wrap_up hi (by omega)]
    rfl
  · intro k acc _ hl
    simp only [laws_toStringS.l0]
    rw [if_neg (by omega)]
theorem laws_toPipeS_eq (ps : List S123) (hn : ps.length ≤ 1048576) (hs : smallPipes ps ps.length) (k : Nat) (hk : 2097160 < k) : laws_toPipeS.f k ps = some (ps.map toPipe) := by
  unfold laws_toPipeS.f
  rw [if_pos (by omega), if_pos (by omega), show (0 : Int) = ((0 : Nat) : Int) from rfl]
  rw [fill_loop 1048577 (fun k acc i => laws_toPipeS.l0 k ps acc i) ps.length (fun j => toPipe (nth z123 ps j)) ?_ ?_ ps.length 0 k _ (by simp) (by omega) (by omega)]
  · simp [map_range_getD]
  · intro k i acc hc hi hl
    have h4 := hs i hi
    simp only [laws_toPipeS.l0]
    rw [if_pos (by omega), if_pos (by omega), show Q0 ps (i : Int) = nth z123 ps i from rfl, laws_toPipe.f, laws_toStringS_eq _ h4 k (by omega)]
    simp only [Option.bind_some]
    rw [if_pos (by omega), wrap_up hi (by omega)]
    rfl
  · intro k acc _ hl
    simp only [laws_toPipeS.l0]
    rw [if_neg (by omega)]
theorem laws_eqStringS_self (xs : List ByteArray) (hn : xs.length ≤ 9223372036854775807) (k : Nat) (hk : xs.length < k) : laws_eqStringS.f k xs xs = some true := by
  unfold laws_eqStringS.f
  rw [if_pos rfl, show (0 : Int) = ((0 : Nat) : Int) from rfl]
  rw [chk_loop 0 (fun k i => laws_eqStringS.l0 k xs xs i) xs.length (fun _ => true) true ?_ ?_ xs.length 0 k (by omega) hk]
  · simp only [Bool.and_true, Option.some.injEq, chk_iff]
    intros; trivial
  · intro k i _ hi
    simp only [laws_eqStringS.l0, if_true]
    rw [if_pos (by omega), if_pos (by omega), if_pos (by omega), wrap_up hi hn]
  · intro k _
    simp only [laws_eqStringS.l0]
    rw [if_neg (by omega)]
theorem laws_eqPipeS_self (xs : List S100) (hn : xs.length ≤ 1048576) (hs : ∀ i, i < xs.length → (nth z100 xs i).f4.length ≤ 1048576) (k : Nat) (hk : 2097160 < k) : laws_eqPipeS.f k xs xs = some true := by
  unfold laws_eqPipeS.f
  rw [if_pos rfl, show (0 : Int) = ((0 : Nat) : Int) from rfl]
  rw [chk_loop 1048577 (fun k i => laws_eqPipeS.l0 k xs xs i) xs.length (fun _ => true) true ?_ ?_ xs.length 0 k (by omega) (by omega)]
  · simp only [Bool.and_true, Option.some.injEq, chk_iff]
    intros; trivial
  · intro k i hc hi
    have h4 := hs i hi
    simp only [laws_eqPipeS.l0, laws_eqPipe.f, rdP, if_true]
    rw [if_pos (by omega), if_pos (by omega), if_pos (by omega), laws_eqStringS_self _ (by omega) k (by omega)]
    simp only [Option.bind_some, if_true]
    rw [wrap_up hi (by omega)]
  · intro k _
    simp only [laws_eqPipeS.l0]
    rw [if_neg (by omega)]
theorem small_to (ps : List S123) (h : ∀ i, i < ps.length → (nth z123 ps i).f4.length ≤ 1048576) : ∀ i, i < (ps.map toPipe).length → (nth z100 (ps.map toPipe) i).f4.length ≤ 1048576 := by
  intro i hi
  have hi' : i < ps.length := by simpa using hi
  have := h i hi'
  rw [nth_lt hi'] at this
  rw [nth_lt hi]
  simpa [toPipe] using this
theorem FnExactTellerRight : ∀ (a e : Int) (ps : List S123) (l : List S76), (Lit.int .i64 a).wf = true → (Lit.int .i64 e).wf = true → (ps.length ≤ maxLen ∧ ∀ y ∈ ps, (Lit.int .i64 y.f0).wf = true ∧ (Lit.int .i64 y.f1).wf = true ∧ (Lit.int .i64 y.f2).wf = true ∧ (Lit.int .i64 y.f3).wf = true ∧ (y.f4.length ≤ maxLen ∧ ∀ z ∈ y.f4, z.size ≤ maxLen)) → (l.length ≤ maxLen ∧ ∀ y ∈ l, (Lit.int .i64 y.f0).wf = true ∧ True ∧ ((Lit.int .i64 y.f2.f0).wf = true ∧ (Lit.int .i64 y.f2.f1).wf = true ∧ (Lit.int .i64 y.f2.f2).wf = true ∧ (Lit.int .i64 y.f2.f3).wf = true ∧ (Lit.int .i64 y.f2.f4).wf = true ∧ (Lit.int .i64 y.f2.f5).wf = true ∧ True)) → ∃ k, laws_FnExactTellerRight.f k a e ps l = some true := by
  intro a e ps l _ _ ⟨hp, hps⟩ ⟨hl, _⟩
  have hl' : l.length ≤ 9223372036854775807 := hl
  have hok : okPipes ps := ⟨hp, fun y hy => (hps y hy).2.2.2.2⟩
  suffices h : ∀ k, 4000000 < k → laws_FnExactTellerRight.f k a e ps l = some true from ⟨4000001, h _ (by omega)⟩
  intro k hk
  obtain ⟨v, hv, hkv⟩ := laws_szPipeS_is ps hok 1048576 (by omega) (by omega)
  unfold laws_FnExactTellerRight.f laws_szTeller.f
  rw [hkv k (by omega)]
  simp only [Option.bind_some]
  rcases hv with hv | ⟨hv0, hv1, hpl, hsm⟩
  · rw [if_pos hv]
    simp only [Option.bind_some]
    rw [if_pos (by decide)]
  · rw [if_neg (by omega), laws_szHeldS.f]
    have hw : wrap64 (v - (l.length : Int)) = v - l.length := by unfold wrap64; omega
    rw [hw]
    by_cases h : v - (l.length : Int) < 0
    · rw [if_pos h]
      simp only [Option.bind_some]
      rw [if_pos (by decide)]
      simp only [Option.bind_some]
      rw [if_pos (by decide)]
    · rw [if_neg h]
      simp only [Option.bind_some]
      rw [if_neg h]
      simp only [Option.bind_some]
      rw [if_neg h]
      have hto : laws_toTeller.f k a e ps l = some (a, e, ps.map toPipe, l.map toHeld) := by
        unfold laws_toTeller.f
        rw [laws_toPipeS_eq ps hpl hsm k (by omega), laws_toHeldS_eq l (by omega) k (by omega)]
        rfl
      have hlm : (l.map toHeld).length = l.length := by simp
      rw [hto]
      simp only [Option.bind_some]
      rw [spec_TellerRight_eq _ _ _ _ (by omega) k (by omega)]
      simp only [Option.bind_some]
      rw [impl_TellerRight_eq _ _ _ _ (by omega) k (by omega)]
      simp only [Option.bind_some, bne_self_eq_false, Bool.false_eq_true, if_false]
      unfold laws_eqTeller.f
      rw [if_pos rfl, if_pos rfl, laws_eqPipeS_self _ (by simpa using hpl) (small_to ps hsm) k (by omega)]
      simp only [Option.bind_some, if_true]
      rw [laws_eqHeldS_self _ (by omega) k (by omega)]
      rfl
end Go.Proofs.Ytmgmaflfednngaa.fnExactTellerRightRow.Pure
