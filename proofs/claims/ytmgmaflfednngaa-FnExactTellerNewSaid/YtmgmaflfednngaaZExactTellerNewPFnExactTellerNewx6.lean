-- A copy, made by trim.py (its own words shortened): not an official print.
import Derived.Test.YtmgmaflfednngaaZExactTellerNewPFnExactTellerNewx0
import Derived.Test.YtmgmaflfednngaaZExactTellerNewPFnExactTellerNewx2
import Derived.Test.YtmgmaflfednngaaZExactTellerNewBase
import Derived.Test.YtmgmaflfednngaaZExactTellerNewSlices
import Derived.Test.YtmgmaflfednngaaZExactTellerNewPFnExactTellerNewx1
import Derived.Test.YtmgmaflfednngaaZExactTellerNewPFnExactTellerNewx3
import Derived.Test.YtmgmaflfednngaaZExactTellerNewPFnExactTellerNewx4
import Derived.Test.YtmgmaflfednngaaZExactTellerNewPFnExactTellerNewx5
namespace Go.Proofs.Ytmgmaflfednngaa.PFnExactTellerNew
open Go.RowKit Go.Proofs.YtmgmaflfednngaaW.PrintWords Go.Proofs.YtmgmaflfednngaaW.PrintLast Go.Proofs.YtmgmaflfednngaaW.PrintMore
attribute [local go_sem] max2_int min2_int max_two min_two max_three min_three max_four min_four   -- for this text's walks alone
set_option linter.unusedVariables false
set_option linter.unusedSimpArgs false
def impl_isEpoch.f (a0 : Int) : Option (Bool) := (impl_in.f a0 1 1000000).bind fun t157 => (some t157)
set_option maxHeartbeats 8000000 in
set_option maxRecDepth 100000 in
theorem impl_isEpoch.calls (a0 : Int) (r : Bool) (w : World) (h : impl_isEpoch.f a0 = some r) :
  Calls Try.prog 91 #[.int .i64 a0] w fun e w' => e = .returned (.bool r) ∧ Drawn0 w w' := by
 have H : ((impl_in.f a0 1 1000000).bind fun t157 => (some t157)) = some r := h
 clear h
 replace H := Option.bind_eq_some_iff.mp H
 obtain ⟨t157, A20, H⟩ := H
 replace H : (some t157) = some r := H
 have A2 := Aside0.mk A20
 clear A20
 obtain rfl := Option.some.inj H
 go_enter Try.func91, Try.ntmps91
 go_wp2_with (first | ((with_reducible refine Qq (f := 90) rfl ?_); refine Qy (some 4) rfl rfl Try.func90 (by kernel_rfl) rfl #[.int .i64 a0, .int .i64 1, .int .i64 1000000] rfl (by (try simp only [List.map_toArray, List.map_cons, List.map_nil]); first | done | rfl | (simp only [List.length_drop, List.length_take]; rfl)) ?_; (with_reducible refine (impl_in.calls a0 1 1000000 t157 _ A2.out).mono ?_); rintro e w' ⟨rfl, ⟨nd, rfl⟩⟩; refine ⟨_, rfl, ?_⟩))
 go_ret
 exact ⟨by first | rfl | (simp; done) | (simp [*]; done), by repeat (first | exact Drawn0.refl _ | apply Drawn0.step)⟩
section
open Go.Proofs.Ytmgmaflfednngaa.Base
theorem spec_l02Is_eq (a b c : Int) : spec_l02Is.f a b c = some (inB a b c) := by
 unfold spec_l02Is.f inB
 by_cases h : b ≤ a <;> simp [h]
theorem impl_in_eq (a b c : Int) : impl_in.f a b c = some (inB a b c) := by
 unfold impl_in.f inB
 by_cases h : b ≤ a <;> simp [h]
theorem spec_l09House_eq (a : Int) : spec_l09House.f a = some (houseB a) := by simp [spec_l09House.f, spec_l02Is_eq, houseB]
theorem impl_isMac_eq (a : Int) : impl_isMac.f a = some (macB a) := by simp [impl_isMac.f, impl_in_eq, macB]
theorem impl_isIp_eq (a : Int) : impl_isIp.f a = some (ipB a) := by simp [impl_isIp.f, impl_in_eq, ipB]
theorem impl_isVni_eq (a : Int) : impl_isVni.f a = some (vniB a) := by simp [impl_isVni.f, impl_in_eq, vniB]
theorem impl_isTime_eq (a : Int) : impl_isTime.f a = some (timeB a) := by simp [impl_isTime.f, impl_in_eq, timeB]
theorem impl_isHouse_eq (a : Int) : impl_isHouse.f a = some (houseB a) := by simp [impl_isHouse.f, impl_in_eq, houseB]
theorem impl_IsGroup_eq (a : Int) : impl_IsGroup.f a = some (groupB a) := by
 simp [impl_IsGroup.f, impl_isMac_eq, groupB]
 cases macB a <;> simp
theorem impl_isGuest_eq (a : Int) : impl_isGuest.f a = some (macB a && !groupB a) := by
 simp [impl_isGuest.f, impl_isMac_eq, impl_IsGroup_eq]
 cases macB a <;> simp
theorem cmp_Compare_eq (a b : Int) : cmp_Compare_int64.f a b = some (cmpI a b) := by
 simp only [cmp_Compare_int64.f, cmp_isNaN_int64.f, Option.bind_some, bne_self_eq_false, cmpI]
 simp only [Bool.false_eq_true, if_false]
 repeat' split
 all_goals rfl
theorem cmp_Or_eq (xs : List Int) (hn : xs.length ≤ 100) (k : Nat) (hk : xs.length < k) : cmp_Or_int.f k xs = some (firstNZ xs) := by
 have key : ∀ (d i k : Nat), i + d = xs.length → d < k → cmp_Or_int.l0 k 0 xs (xs.length : Int) (i : Int) = some (firstNZ (xs.drop i)) := by
  intro d
  induction d with
  | zero =>
   intro i k hd hk
   obtain ⟨k, rfl⟩ : ∃ m, k = m + 1 := ⟨k - 1, by omega⟩
   simp only [cmp_Or_int.l0]
   rw [if_neg (by omega), List.drop_of_length_le (by omega)]
   rfl
  | succ d ih =>
   intro i k hd hk
   obtain ⟨k, rfl⟩ : ∃ m, k = m + 1 := ⟨k - 1, by omega⟩
   simp only [cmp_Or_int.l0]
   rw [if_pos (by omega), if_pos (by omega), if_pos (by omega), show rd xs (i : Int) = nth 0 xs i from rfl, drop_nth 0 (by omega : i < xs.length), wrap_up (by omega : i < xs.length) (by omega), ih (i + 1) k (by omega) (by omega)]
   simp only [firstNZ]
   split <;> rfl
 exact key xs.length 0 k (by omega) hk
def routeB (k v m ip o s : Int) (st : Bool) : Bool := vniB v && houseB o && (if k = 2 then (macB m && !groupB m) && ipB ip && timeB s else decide (k = 3) && decide (m = 0) && decide (ip = 0) && decide (s = 0) && !st)
theorem impl_RouteRight_eq (k v m ip o s : Int) (st : Bool) (n : Nat) (hn : 1 ≤ n) : impl_RouteRight.f n k v m ip o s st = some (routeB k v m ip o s st) := by
 obtain ⟨n, rfl⟩ : ∃ q, n = q + 1 := ⟨n - 1, by omega⟩
 unfold impl_RouteRight.f routeB
 rw [impl_isVni_eq, impl_isHouse_eq]
 simp only [Option.bind_some, impl_RouteRight.j0, impl_isGuest_eq, impl_isIp_eq, impl_isTime_eq]
 cases vniB v <;> cases houseB o <;> simp
 by_cases h2 : k = 2
 ·cases macB m <;> cases groupB m <;> cases ipB ip <;> simp [h2]
 ·by_cases h3 : k = 3
  ·by_cases h4 : m = 0 <;> by_cases h5 : ip = 0 <;> by_cases h6 : s = 0 <;> simp [h3, h4, h5, h6]
  ·simp [h2, h3]
def peerB (a : Int) : Bool := inB a 1 9
def lessH (a b : S73) : Bool := if a.f0 = b.f0 then (if a.f2.f0 = b.f2.f0 then (if a.f2.f1 = b.f2.f1 then (if a.f2.f2 = b.f2.f2 then decide (a.f2.f4 < b.f2.f4) else decide (a.f2.f2 < b.f2.f2)) else decide (a.f2.f1 < b.f2.f1)) else decide (a.f2.f0 < b.f2.f0)) else decide (a.f0 < b.f0)
def rightH (a : S73) : Bool := peerB a.f0 && routeB a.f2.f0 a.f2.f1 a.f2.f2 a.f2.f3 a.f2.f4 a.f2.f5 a.f2.f6
def heldAt (xs : List S73) (j : Nat) : Bool := rightH (nth z73 xs j) && (j == 0 || lessH (nth z73 xs (j - 1)) (nth z73 xs j))
def ribRight (xs : List S73) : Bool := chk (heldAt xs) xs.length 0 && decide (xs.length ≤ 60)
theorem rdH (xs : List S73) (i : Nat) : Qd xs (i : Int) = nth z73 xs i := rfl
theorem fnz_cons (a b : Int) (l : List Int) : (0 ≤ firstNZ (cmpI a b :: l)) ↔ (if a = b then 0 ≤ firstNZ l else ¬ a < b) := by
 have e : firstNZ (cmpI a b :: l) = if cmpI a b = 0 then firstNZ l else cmpI a b := rfl
 rw [e]
 unfold cmpI
 rcases Int.lt_trichotomy a b with h | h | h
 ·rw [if_pos h, if_neg (by omega), if_neg (by omega)]; simp [h]
 ·subst h; simp
 ·rw [if_neg (by omega), if_pos h, if_neg (by omega), if_neg (by omega)]; simp; omega
def ordH (a b : S73) : Int := firstNZ [cmpI a.f0 b.f0, cmpI a.f2.f0 b.f2.f0, cmpI a.f2.f1 b.f2.f1, cmpI a.f2.f2 b.f2.f2, cmpI a.f2.f4 b.f2.f4]
theorem impl_Held_order_eq (a b : S73) (k : Nat) (hk : 6 ≤ k) : impl_Held_order.f k a.f0 a.f1 a.f2.f0 a.f2.f1 a.f2.f2 a.f2.f3 a.f2.f4 a.f2.f5 a.f2.f6 b.f0 b.f1 b.f2.f0 b.f2.f1 b.f2.f2 b.f2.f3 b.f2.f4 b.f2.f5 b.f2.f6 = some (ordH a b) := by
 simp only [impl_Held_order.f, cmp_Compare_eq, Option.bind_some]
 rw [cmp_Or_eq _ (by simp) k (by simp; omega)]
 rfl
theorem ordH_neg (a b : S73) : (ordH a b ≥ 0) ↔ lessH a b = false := by
 show 0 ≤ ordH a b ↔ _
 unfold ordH lessH
 simp only [fnz_cons]
 have h0 : 0 ≤ firstNZ [] := by simp [firstNZ]
 repeat' split
 all_goals simp_all
theorem impl_RibRight_loop (xs : List S73) (hn : xs.length ≤ 9223372036854775807) : ∀ (d i k : Nat), i + d = xs.length → d + 6 < k → impl_RibRight.l0 k xs xs (xs.length : Int) (i : Int) = some (chk (heldAt xs) d i && decide (xs.length ≤ 60)) := by
 apply chk_loop 6 (fun k i => impl_RibRight.l0 k xs xs (xs.length : Int) i)
 ·intro k i hc hi
  simp only [impl_RibRight.l0]
  rw [if_pos (by omega), if_pos (by omega), if_pos (by omega), rdH, impl_isPeer.f, impl_in_eq, Option.bind_some, show inB (nth z73 xs i).f0 1 9 = peerB (nth z73 xs i).f0 from rfl, impl_RouteRight_eq _ _ _ _ _ _ _ k (by omega)]
  simp only [Option.bind_some]
  unfold heldAt rightH
  cases h1 : peerB (nth z73 xs i).f0 with
  | false => simp
  | true =>
   rw [if_pos rfl]
   cases h2 : routeB (nth z73 xs i).f2.f0 (nth z73 xs i).f2.f1 (nth z73 xs i).f2.f2 (nth z73 xs i).f2.f3 (nth z73 xs i).f2.f4 (nth z73 xs i).f2.f5 (nth z73 xs i).f2.f6 with
   | false => simp
   | true =>
    rw [if_pos rfl]
    by_cases h0 : i = 0
    ·subst h0
     rw [if_neg (by omega), if_pos (by simp), wrap_up hi hn]
    ·rw [if_pos (by omega), wrap_down (by omega) (by omega), if_pos (by omega), if_pos (by omega), rdH, wrap_up hi hn, impl_Held_order_eq _ _ k hc, Option.bind_some]
     have ho := ordH_neg (nth z73 xs (i - 1)) (nth z73 xs i)
     cases h3 : lessH (nth z73 xs (i - 1)) (nth z73 xs i) with
     | true => rw [if_neg (by rw [ho, h3]; simp)]; simp
     | false => rw [if_pos (by rw [ho, h3])]; simp [h0]
 ·intro k _
  simp only [impl_RibRight.l0]
  rw [if_neg (by omega)]
  simp only [Option.some.injEq, decide_eq_decide]
  omega
theorem impl_RibRight_eq (xs : List S73) (hn : xs.length ≤ 9223372036854775807) (k : Nat) (hk : xs.length + 6 < k) : impl_RibRight.f k xs = some (ribRight xs) := by
 unfold impl_RibRight.f ribRight
 rw [show (0 : Int) = ((0 : Nat) : Int) from rfl, impl_RibRight_loop xs hn xs.length 0 k (by omega) hk]
def markHeld (m : Int) : S73 := ⟨m, Int.tmod (m + 1) 3 == 0, ⟨m + 2, m + 3, m + 4, m + 5, m + 6, m + 7, Int.tmod (m + 8) 3 == 0⟩⟩
theorem rd_setH (xs : List S73) (i : Nat) (x : S73) (h : i < xs.length) : Qd (xs.set i x) (i : Int) = x := by
 simp [Qd, h]
def pipeB (a b c d : Int) (l : List ByteArray) : Bool := inB a 1 1000000 && (timeB b && (timeB c && (timeB d && (decide (l.length ≤ 60) && (decide (c + l.length ≤ 1000000) && (l.all (fun t => decide (t.size ≤ 60)) && (decide (b > 0) || (decide (c = 0) && (decide (d = 0) && decide (l.length = 0))))))))))
def pipeS (x : S100) : Bool := pipeB x.f0 x.f1 x.f2 x.f3 x.f4
theorem rdP (xs : List S100) (i : Nat) : Qp xs (i : Int) = nth z100 xs i := rfl
def tellerB (a e : Int) (ps : List S100) (l : List S73) : Bool := inB a 1 2 && (inB e 1 1000000 && (decide (1 ≤ ps.length) && (decide (ps.length ≤ 4) && (ribRight l && (ps.all (fun x => pipeS x && decide (x.f0 ≤ e)) && l.all (fun x => decide (x.f0 ≤ (ps.length : Int)) && decide (x.f2.f4 = x.f0)))))))
end
set_option maxHeartbeats 800000 in
set_option maxRecDepth 100000 in
theorem indexFunc_calls (g : Nat) (cb : Array Value) (eg : ∀ args w, (callFunc g args).run Try.prog w = .ok (.enter g args) w) (p : S73 → Bool) (A : Option Addr) (c : Nat) (l : List S73) (w : World) (hr : Kd.C k73 w A l.length l) (hp : Base.PredK Try.prog g cb k73 p w) :
  Calls Try.prog 131 #[.slice A l.length c, .func (.func g) #[] cb] w fun e w' => e = .returned (.int .i64 (Base.idxOf p l 0)) ∧ Below w.heap.size w w' := by
 have HR := Aside0.mk hr
 have HP := Aside0.mk hp
 clear hr hp
 go_enter Try.func131, Try.ntmps131
 go_wp2
 go_loopg [5, 8] l.length (fun gg _ v8 wr => ∃ kk : Nat, kk ≤ l.length ∧ l.length - kk ≤ gg ∧ v8 = .int .i64 kk ∧ Aside0 (Below w.heap.size w wr) ∧ Aside0 (∀ j, j < kk → p (Base.nth z73 l j) = false))
 case atStart => exact ⟨0, Nat.zero_le _, by omega, rfl, ⟨Below.refl _ w⟩, ⟨fun j hj => absurd hj (Nat.not_lt_zero _)⟩⟩
 case round =>
  obtain ⟨kk, hkk, hg, rfl, HB, HA⟩ := hrel
  have hmax : l.length ≤ 9223372036854775807 := HR.out.2.1
  by_cases hlt : kk < l.length
  ·skip
   obtain ⟨ad, e, hx0, hx1, hx2, hx3, hx4, hx5, hx6, hx7, hx8⟩ := Qw HR.out (kk : Int) (by omega) (by omega)
   cases e
   replace hx0 := (HB.out.cell (World.block_lt_of_cell? w _ hx0)).trans hx0
   replace hx1 := (HB.out.cell (World.block_lt_of_cell? w _ hx1)).trans hx1
   replace hx2 := (HB.out.cell (World.block_lt_of_cell? w _ hx2)).trans hx2
   replace hx3 := (HB.out.cell (World.block_lt_of_cell? w _ hx3)).trans hx3
   replace hx4 := (HB.out.cell (World.block_lt_of_cell? w _ hx4)).trans hx4
   replace hx5 := (HB.out.cell (World.block_lt_of_cell? w _ hx5)).trans hx5
   replace hx6 := (HB.out.cell (World.block_lt_of_cell? w _ hx6)).trans hx6
   replace hx7 := (HB.out.cell (World.block_lt_of_cell? w _ hx7)).trans hx7
   replace hx8 := (HB.out.cell (World.block_lt_of_cell? w _ hx8)).trans hx8
   simp only [Int.toNat_natCast] at hx0 hx1 hx2 hx3 hx4 hx5 hx6 hx7 hx8
   have hcall := HP.out wr (Qd l (kk : Int)) _ HB.out (k73_mk wr _)
   have HQ := Aside0.mk (show p (Base.nth z73 l kk) = p (Qd l (kk : Int)) from rfl)
   have hltz : (kk : Int) < (l.length : Int) := by omega
   generalize Qd l (kk : Int) = y at *
   cases hq : p y with
   | true =>
    rw [hq] at hcall
    have HQ' := Aside0.mk (HQ.out.trans hq)
    clear HQ hq
    go_wp2_with fail
    refine hcall.mono ?_
    rintro e w' ⟨rfl, hb'⟩
    go_wp2
    go_ret
    refine ⟨?_, hb'⟩
    rw [Base.idxOf_hit z73 p l kk hlt HA.out HQ'.out]
    rfl
   | false =>
    rw [hq] at hcall
    have HQ' := Aside0.mk (HQ.out.trans hq)
    clear HQ hq
    go_wp2_with fail
    refine hcall.mono ?_
    rintro e w' ⟨rfl, hb'⟩
    have HB' := Aside0.mk hb'
    clear hb'
    go_wp2
    go_roundg (l.length - (kk + 1))
    case measure => omega
    case rel =>
     refine ⟨kk + 1, by omega, by omega, by go_num, HB', ⟨fun j hj => ?_⟩⟩
     by_cases e : j = kk
     ·subst e
      exact HQ'.out
     ·exact HA.out j (by omega)
  ·have hltz : ¬ (kk : Int) < (l.length : Int) := by omega
   obtain rfl : kk = l.length := by omega
   go_wp2
   go_ret
   refine ⟨?_, HB.out⟩
   rw [Base.idxOf_miss z73 p l HA.out]
   rfl
theorem any_idx (p : S73 → Bool) (l : List S73) : decide (0 ≤ Base.idxOf p l 0) = l.any p := by
 rcases Base.idxOf_cases z73 p l 0 with ⟨h1, h2⟩ | ⟨k, h1, h2, h3⟩
 ·have h1' : Base.idxOf p l 0 = -1 := h1
  rw [h1', show l.any p = (l.find? p).isSome from (List.isSome_find? ..).symm, h2]
  rfl
 ·have h2' : Base.idxOf p l 0 = ((0 + k : Nat) : Int) := h2
  rw [h2', show l.any p = (l.find? p).isSome from (List.isSome_find? ..).symm, h3, decide_eq_true (by omega)]
  rfl
set_option maxHeartbeats 800000 in
theorem containsFunc_calls (g : Nat) (cb : Array Value) (eg : ∀ args w, (callFunc g args).run Try.prog w = .ok (.enter g args) w) (p : S73 → Bool) (A : Option Addr) (c : Nat) (l : List S73) (w : World) (hr : Kd.C k73 w A l.length l) (hp : Base.PredK Try.prog g cb k73 p w) :
  Calls Try.prog 93 #[.slice A l.length c, .func (.func g) #[] cb] w fun e w' => e = .returned (.bool (l.any p)) ∧ Below w.heap.size w w' := by
 have HI := Aside0.mk (indexFunc_calls g cb eg p A c l w hr hp)
 have HA := Aside0.mk (any_idx p l)
 clear hr hp
 go_enter Try.func93, Try.ntmps93
 go_wp2_with fail
 refine HI.out.mono ?_
 rintro e w2 ⟨rfl, hb⟩
 have HB := Aside0.mk hb
 clear hb
 generalize Base.idxOf p l 0 = q at *
 go_wp2
 go_ret
 exact ⟨by rw [← HA.out]; rfl, HB.out⟩
set_option maxHeartbeats 800000 in
set_option maxRecDepth 100000 in
theorem indexFuncP_calls (g : Nat) (cb : Array Value) (eg : ∀ args w, (callFunc g args).run Try.prog w = .ok (.enter g args) w) (p : S100 → Bool) (A : Option Addr) (c : Nat) (l : List S100) (w : World) (hr : Kd.C k100 w A l.length l) (hp : Base.PredK Try.prog g cb k100 p w) :
  Calls Try.prog 156 #[.slice A l.length c, .func (.func g) #[] cb] w fun e w' => e = .returned (.int .i64 (Base.idxOf p l 0)) ∧ Below w.heap.size w w' := by
 have HR := Aside0.mk hr
 have HP := Aside0.mk hp
 clear hr hp
 go_enter Try.func156, Try.ntmps156
 go_wp2
 go_loopg [5, 8] l.length (fun gg _ v8 wr => ∃ kk : Nat, kk ≤ l.length ∧ l.length - kk ≤ gg ∧ v8 = .int .i64 kk ∧ Aside0 (Below w.heap.size w wr) ∧ Aside0 (∀ j, j < kk → p (Base.nth z100 l j) = false))
 case atStart => exact ⟨0, Nat.zero_le _, by omega, rfl, ⟨Below.refl _ w⟩, ⟨fun j hj => absurd hj (Nat.not_lt_zero _)⟩⟩
 case round =>
  obtain ⟨kk, hkk, hg, rfl, HB, HA⟩ := hrel
  have hmax : l.length ≤ 9223372036854775807 := HR.out.2.1
  by_cases hlt : kk < l.length
  ·skip
   obtain ⟨ad, A4, c4, e, hx0, hx1, hx2, hx3, hx4, hl4, hc4⟩ := at_T100 HR.out (kk : Int) (by omega) (by omega)
   cases e
   replace hx0 := (HB.out.cell (World.block_lt_of_cell? w _ hx0)).trans hx0
   replace hx1 := (HB.out.cell (World.block_lt_of_cell? w _ hx1)).trans hx1
   replace hx2 := (HB.out.cell (World.block_lt_of_cell? w _ hx2)).trans hx2
   replace hx3 := (HB.out.cell (World.block_lt_of_cell? w _ hx3)).trans hx3
   replace hx4 := (HB.out.cell (World.block_lt_of_cell? w _ hx4)).trans hx4
   simp only [Int.toNat_natCast] at hx0 hx1 hx2 hx3 hx4
   have hcall := HP.out wr (Qp l (kk : Int)) _ HB.out (k100_mk wr _ hl4 (Kd.C_below hc4 HB.out))
   have HQ := Aside0.mk (show p (Base.nth z100 l kk) = p (Qp l (kk : Int)) from rfl)
   have hltz : (kk : Int) < (l.length : Int) := by omega
   clear hl4 hc4
   generalize Qp l (kk : Int) = y at *
   cases hq : p y with
   | true =>
    rw [hq] at hcall
    have HQ' := Aside0.mk (HQ.out.trans hq)
    clear HQ hq
    go_wp2_with fail
    refine hcall.mono ?_
    rintro e w' ⟨rfl, hb'⟩
    go_wp2
    go_ret
    refine ⟨?_, hb'⟩
    rw [Base.idxOf_hit z100 p l kk hlt HA.out HQ'.out]
    rfl
   | false =>
    rw [hq] at hcall
    have HQ' := Aside0.mk (HQ.out.trans hq)
    clear HQ hq
    go_wp2_with fail
    refine hcall.mono ?_
    rintro e w' ⟨rfl, hb'⟩
    have HB' := Aside0.mk hb'
    clear hb'
    go_wp2
    go_roundg (l.length - (kk + 1))
    case measure => omega
    case rel =>
     refine ⟨kk + 1, by omega, by omega, by go_num, HB', ⟨fun j hj => ?_⟩⟩
     by_cases e : j = kk
     ·subst e
      exact HQ'.out
     ·exact HA.out j (by omega)
  ·have hltz : ¬ (kk : Int) < (l.length : Int) := by omega
   obtain rfl : kk = l.length := by omega
   go_wp2
   go_ret
   refine ⟨?_, HB.out⟩
   rw [Base.idxOf_miss z100 p l HA.out]
   rfl
theorem any_idxP (p : S100 → Bool) (l : List S100) : decide (0 ≤ Base.idxOf p l 0) = l.any p := by
 rcases Base.idxOf_cases z100 p l 0 with ⟨h1, h2⟩ | ⟨k, h1, h2, h3⟩
 ·have h1' : Base.idxOf p l 0 = -1 := h1
  rw [h1', show l.any p = (l.find? p).isSome from (List.isSome_find? ..).symm, h2]
  rfl
 ·have h2' : Base.idxOf p l 0 = ((0 + k : Nat) : Int) := h2
  rw [h2', show l.any p = (l.find? p).isSome from (List.isSome_find? ..).symm, h3, decide_eq_true (by omega)]
  rfl
set_option maxHeartbeats 800000 in
theorem containsFuncP_calls (g : Nat) (cb : Array Value) (eg : ∀ args w, (callFunc g args).run Try.prog w = .ok (.enter g args) w) (p : S100 → Bool) (A : Option Addr) (c : Nat) (l : List S100) (w : World) (hr : Kd.C k100 w A l.length l) (hp : Base.PredK Try.prog g cb k100 p w) :
  Calls Try.prog 128 #[.slice A l.length c, .func (.func g) #[] cb] w fun e w' => e = .returned (.bool (l.any p)) ∧ Below w.heap.size w w' := by
 have HI := Aside0.mk (indexFuncP_calls g cb eg p A c l w hr hp)
 have HA := Aside0.mk (any_idxP p l)
 clear hr hp
 go_enter Try.func128, Try.ntmps128
 go_wp2_with fail
 refine HI.out.mono ?_
 rintro e w2 ⟨rfl, hb⟩
 have HB := Aside0.mk hb
 clear hb
 generalize Base.idxOf p l 0 = q at *
 go_wp2
 go_ret
 exact ⟨by rw [← HA.out]; rfl, HB.out⟩
set_option maxHeartbeats 800000 in
set_option maxRecDepth 100000 in
theorem indexFuncS_calls (g : Nat) (cb : Array Value) (eg : ∀ args w, (callFunc g args).run Try.prog w = .ok (.enter g args) w) (p : ByteArray → Bool) (A : Option Addr) (c : Nat) (l : List ByteArray) (w : World) (hr : Kd.C Kd.string w A l.length l) (hp : ∀ (W : World) (x : ByteArray), Below w.heap.size w W → Calls Try.prog g (#[.string x] ++ cb) W fun e w' => e = .returned (.bool (p x)) ∧ Below w.heap.size w w') :
  Calls Try.prog 168 #[.slice A l.length c, .func (.func g) #[] cb] w fun e w' => e = .returned (.int .i64 (Base.idxOf p l 0)) ∧ Below w.heap.size w w' := by
 have HR := Aside0.mk hr
 have HP := Aside0.mk hp
 clear hr hp
 go_enter Try.func168, Try.ntmps168
 go_wp2
 go_loopg [5, 8] l.length (fun gg _ v8 wr => ∃ kk : Nat, kk ≤ l.length ∧ l.length - kk ≤ gg ∧ v8 = .int .i64 kk ∧ Aside0 (Below w.heap.size w wr) ∧ Aside0 (∀ j, j < kk → p (Base.nth ByteArray.empty l j) = false))
 case atStart => exact ⟨0, Nat.zero_le _, by omega, rfl, ⟨Below.refl _ w⟩, ⟨fun j hj => absurd hj (Nat.not_lt_zero _)⟩⟩
 case round =>
  obtain ⟨kk, hkk, hg, rfl, HB, HA⟩ := hrel
  have hmax : l.length ≤ 9223372036854775807 := HR.out.2.1
  by_cases hlt : kk < l.length
  ·skip
   obtain ⟨ad, e, hx0⟩ := Kd.at_string HR.out (kk : Int) (by omega) (by omega)
   cases e
   replace hx0 := (HB.out.cell (World.block_lt_of_cell? w _ hx0)).trans hx0
   simp only [Int.toNat_natCast] at hx0
   have hcall := HP.out wr (rdOf ByteArray.empty l (kk : Int)) HB.out
   have HQ := Aside0.mk (show p (Base.nth ByteArray.empty l kk) = p (rdOf ByteArray.empty l (kk : Int)) from rfl)
   have hltz : (kk : Int) < (l.length : Int) := by omega
   generalize rdOf ByteArray.empty l (kk : Int) = y at *
   cases hq : p y with
   | true =>
    rw [hq] at hcall
    have HQ' := Aside0.mk (HQ.out.trans hq)
    clear HQ hq
    go_wp2_with fail
    refine hcall.mono ?_
    rintro e w' ⟨rfl, hb'⟩
    go_wp2
    go_ret
    refine ⟨?_, hb'⟩
    rw [Base.idxOf_hit ByteArray.empty p l kk hlt HA.out HQ'.out]
    rfl
   | false =>
    rw [hq] at hcall
    have HQ' := Aside0.mk (HQ.out.trans hq)
    clear HQ hq
    go_wp2_with fail
    refine hcall.mono ?_
    rintro e w' ⟨rfl, hb'⟩
    have HB' := Aside0.mk hb'
    clear hb'
    go_wp2
    go_roundg (l.length - (kk + 1))
    case measure => omega
    case rel =>
     refine ⟨kk + 1, by omega, by omega, by go_num, HB', ⟨fun j hj => ?_⟩⟩
     by_cases e : j = kk
     ·subst e
      exact HQ'.out
     ·exact HA.out j (by omega)
  ·have hltz : ¬ (kk : Int) < (l.length : Int) := by omega
   obtain rfl : kk = l.length := by omega
   go_wp2
   go_ret
   refine ⟨?_, HB.out⟩
   rw [Base.idxOf_miss ByteArray.empty p l HA.out]
   rfl
theorem any_idxS (p : ByteArray → Bool) (l : List ByteArray) : decide (0 ≤ Base.idxOf p l 0) = l.any p := by
 rcases Base.idxOf_cases ByteArray.empty p l 0 with ⟨h1, h2⟩ | ⟨k, h1, h2, h3⟩
 ·have h1' : Base.idxOf p l 0 = -1 := h1
  rw [h1', show l.any p = (l.find? p).isSome from (List.isSome_find? ..).symm, h2]
  rfl
 ·have h2' : Base.idxOf p l 0 = ((0 + k : Nat) : Int) := h2
  rw [h2', show l.any p = (l.find? p).isSome from (List.isSome_find? ..).symm, h3, decide_eq_true (by omega)]
  rfl
set_option maxHeartbeats 800000 in
theorem containsFuncS_calls (g : Nat) (cb : Array Value) (eg : ∀ args w, (callFunc g args).run Try.prog w = .ok (.enter g args) w) (p : ByteArray → Bool) (A : Option Addr) (c : Nat) (l : List ByteArray) (w : World) (hr : Kd.C Kd.string w A l.length l) (hp : ∀ (W : World) (x : ByteArray), Below w.heap.size w W → Calls Try.prog g (#[.string x] ++ cb) W fun e w' => e = .returned (.bool (p x)) ∧ Below w.heap.size w w') :
  Calls Try.prog 157 #[.slice A l.length c, .func (.func g) #[] cb] w fun e w' => e = .returned (.bool (l.any p)) ∧ Below w.heap.size w w' := by
 have HI := Aside0.mk (indexFuncS_calls g cb eg p A c l w hr hp)
 have HA := Aside0.mk (any_idxS p l)
 clear hr hp
 go_enter Try.func157, Try.ntmps157
 go_wp2_with fail
 refine HI.out.mono ?_
 rintro e w2 ⟨rfl, hb⟩
 have HB := Aside0.mk hb
 clear hb
 generalize Base.idxOf p l 0 = q at *
 go_wp2
 go_ret
 exact ⟨by rw [← HA.out]; rfl, HB.out⟩
theorem pipeLong_calls (W : World) (x : ByteArray) (w : World) (hb : Below w.heap.size w W) : Calls Try.prog 158 (#[.string x] ++ #[]) W fun e w' => e = .returned (.bool (decide (60 < x.size))) ∧ Below w.heap.size w w' := by
 show Calls Try.prog 158 #[.string x] W _
 have HB := Aside0.mk hb
 clear hb
 go_enter Try.func158, Try.ntmps158
 go_wp2
 go_ret
 have hd : decide (60 < (x.size : Int)) = decide (60 < x.size) := by rw [decide_eq_decide]; omega
 exact ⟨by rw [← hd]; rfl, HB.out⟩
set_option maxHeartbeats 1600000 in
set_option maxRecDepth 100000 in
theorem pipeRight_calls (x0 x1 x2 x3 : Int) (l : List ByteArray) (A4 : Option Addr) (c4 : Nat) (w : World) (hr : Kd.C Kd.string w A4 l.length l) :
  Calls Try.prog 130 #[.agg #[.int .i64 x0, .int .i64 x1, .int .i64 x2, .int .i64 x3, .slice A4 l.length c4]] w fun e w' => e = .returned (.bool (pipeB x0 x1 x2 x3 l)) ∧ Below w.heap.size w w' := by
 have eg : ∀ args w, (callFunc 158 args).run Try.prog w = .ok (.enter 158 args) w := enters_of Try.func158 (by kernel_rfl) rfl
 have hmax := hr.2.1
 have HR := Aside0.mk hr
 have bk := blk_new w (.cells #[.int .i64 x0, .int .i64 x1, .int .i64 x2, .int .i64 x3, .slice A4 l.length c4] 100)
 have HB := Aside0.mk ((Below.refl _ w).alloc (Nat.le_refl _) (.cells #[.int .i64 x0, .int .i64 x1, .int .i64 x2, .int .i64 x3, .slice A4 l.length c4] 100))
 have P0 := Aside0.mk (show impl_isEpoch.f x0 = some (Base.inB x0 1 1000000) by simp [impl_isEpoch.f, impl_in_eq])
 have P1 := Aside0.mk (impl_isTime_eq x1)
 have P2 := Aside0.mk (impl_isTime_eq x2)
 have P3 := Aside0.mk (impl_isTime_eq x3)
 have BK := Aside0.mk bk
 have k0 := (Qa bk 0).trans rfl
 have k1 := (Qa bk 1).trans rfl
 have k2 := (Qa bk 2).trans rfl
 have k3 := (Qa bk 3).trans rfl
 have k4 := (Qa bk 4).trans rfl
 clear hr bk
 unfold pipeB
 cases h0 : Base.inB x0 1 1000000 with
 | false =>
  rw [h0] at P0
  clear h0
  rw [Bool.false_and]
  go_enter Try.func130, Try.ntmps130
  go_wp2_with (first | (go_at_call 91; refine (impl_isEpoch.calls _ _ _ P0.out).mono ?_; rintro e w2 ⟨rfl, ⟨n0, rfl⟩⟩))
  go_ret
  exact ⟨rfl, by repeat (first | (with_reducible first | exact HB.out | apply Qe | apply Qb | apply Qf) | exact HB.out)⟩
 | true =>
  rw [h0] at P0
  clear h0
  rw [Bool.true_and]
  cases h1 : Base.timeB x1 with
  | false =>
   rw [h1] at P1
   clear h1
   rw [Bool.false_and]
   go_enter Try.func130, Try.ntmps130
   go_wp2_with (first | (go_at_call 91; refine (impl_isEpoch.calls _ _ _ P0.out).mono ?_; rintro e w2 ⟨rfl, ⟨n0, rfl⟩⟩) | (go_at_call 114; (with_reducible refine (impl_isTime.calls x1 _ _ P1.out).mono ?_); rintro e w3 ⟨rfl, ⟨n1, rfl⟩⟩))
   go_ret
   exact ⟨rfl, by repeat (first | (with_reducible first | exact HB.out | apply Qe | apply Qb | apply Qf) | exact HB.out)⟩
  | true =>
   rw [h1] at P1
   clear h1
   rw [Bool.true_and]
   cases h2 : Base.timeB x2 with
   | false =>
    rw [h2] at P2
    clear h2
    rw [Bool.false_and]
    go_enter Try.func130, Try.ntmps130
    go_wp2_with (first | (go_at_call 91; refine (impl_isEpoch.calls _ _ _ P0.out).mono ?_; rintro e w2 ⟨rfl, ⟨n0, rfl⟩⟩) | (go_at_call 114; (with_reducible refine (impl_isTime.calls x1 _ _ P1.out).mono ?_); rintro e w3 ⟨rfl, ⟨n1, rfl⟩⟩) | (go_at_call 114; (with_reducible refine (impl_isTime.calls x2 _ _ P2.out).mono ?_); rintro e w4 ⟨rfl, ⟨n2, rfl⟩⟩))
    go_ret
    exact ⟨rfl, by repeat (first | (with_reducible first | exact HB.out | apply Qe | apply Qb | apply Qf) | exact HB.out)⟩
   | true =>
    rw [h2] at P2
    have hx2 : 0 ≤ x2 ∧ x2 ≤ 1000000 := by simpa [Base.timeB, Base.inB] using h2
    obtain ⟨hx2a, hx2b⟩ := hx2
    clear h2
    rw [Bool.true_and]
    cases h3 : Base.timeB x3 with
    | false =>
     rw [h3] at P3
     clear h3
     rw [Bool.false_and]
     go_enter Try.func130, Try.ntmps130
     go_wp2_with (first | (go_at_call 91; refine (impl_isEpoch.calls _ _ _ P0.out).mono ?_; rintro e w2 ⟨rfl, ⟨n0, rfl⟩⟩) | (go_at_call 114; (with_reducible refine (impl_isTime.calls x1 _ _ P1.out).mono ?_); rintro e w3 ⟨rfl, ⟨n1, rfl⟩⟩) | (go_at_call 114; (with_reducible refine (impl_isTime.calls x2 _ _ P2.out).mono ?_); rintro e w4 ⟨rfl, ⟨n2, rfl⟩⟩) | (go_at_call 114; (with_reducible refine (impl_isTime.calls x3 _ _ P3.out).mono ?_); rintro e w5 ⟨rfl, ⟨n3, rfl⟩⟩))
     go_ret
     exact ⟨rfl, by repeat (first | (with_reducible first | exact HB.out | apply Qe | apply Qb | apply Qf) | exact HB.out)⟩
    | true =>
     rw [h3] at P3
     clear h3
     rw [Bool.true_and]
     by_cases hl : l.length ≤ 60
     ·have hl1 : decide (60 < l.length) = false := decide_eq_false (by omega)
      have hl2 : decide (60 < (l.length : Int)) = false := decide_eq_false (by omega)
      have hw : IntKind.i64.wrap (x2 + (l.length : Int)) = x2 + l.length := (Qu _).trans (by unfold wrap64; omega)
      rw [decide_eq_true hl, Bool.true_and]
      by_cases hs : x2 + (l.length : Int) ≤ 1000000
      ·have hs1 : decide (1000000 < x2 + (l.length : Int)) = false := decide_eq_false (by omega)
       have hall : l.all (fun t => decide (t.size ≤ 60)) = !(l.any (fun t => decide (60 < t.size))) := by
        rw [List.not_any_eq_all_not]
        congr 1
        funext t
        rw [Bool.eq_iff_iff]
        simp
       rw [decide_eq_true hs, Bool.true_and, hall]
       clear hs hl hall
       cases ha : l.any (fun t => decide (60 < t.size)) with
       | true =>
        have HA := Aside0.mk ha
        clear ha
        rw [Bool.not_true, Bool.false_and]
        go_enter Try.func130, Try.ntmps130
        go_wp2_with (first | (go_at_call 91; refine (impl_isEpoch.calls _ _ _ P0.out).mono ?_; rintro e w2 ⟨rfl, ⟨n0, rfl⟩⟩) | (go_at_call 114; (with_reducible refine (impl_isTime.calls x1 _ _ P1.out).mono ?_); rintro e w3 ⟨rfl, ⟨n1, rfl⟩⟩) | (go_at_call 114; (with_reducible refine (impl_isTime.calls x2 _ _ P2.out).mono ?_); rintro e w4 ⟨rfl, ⟨n2, rfl⟩⟩) | (go_at_call 114; (with_reducible refine (impl_isTime.calls x3 _ _ P3.out).mono ?_); rintro e w5 ⟨rfl, ⟨n3, rfl⟩⟩) | (go_at_call 157; refine (containsFuncS_calls 158 #[] eg (fun t => decide (60 < t.size)) A4 c4 l _ (Kd.C_below HR.out (by repeat (first | (with_reducible first | exact HB.out | apply Qe | apply Qb | apply Qf) | exact HB.out))) (fun W x hb => pipeLong_calls W x _ hb)).mono ?_; rintro e w6 ⟨rfl, hb6⟩; have B6 := Aside0.mk (Ql (by repeat (first | (with_reducible first | exact HB.out | apply Qe | apply Qb | apply Qf) | exact HB.out)) hb6); have bk6 := Qo (by repeat (first | exact BK.out | apply Qh)) hb6; have q1 := (Qa bk6 1).trans rfl; have q2 := (Qa bk6 2).trans rfl; have q3 := (Qa bk6 3).trans rfl; have q4 := (Qa bk6 4).trans rfl; clear hb6 bk6; rw [HA.out]))
        go_ret
        exact ⟨rfl, B6.out⟩
       | false =>
        have HA := Aside0.mk ha
        clear ha
        rw [Bool.not_false, Bool.true_and]
        by_cases hb : 0 < x1
        ·have hb1 : decide (0 < x1) = true := decide_eq_true hb
         rw [show decide (x1 > 0) = true from hb1, Bool.true_or]
         clear hb
         go_enter Try.func130, Try.ntmps130
         go_wp2_with (first | (go_at_call 91; refine (impl_isEpoch.calls _ _ _ P0.out).mono ?_; rintro e w2 ⟨rfl, ⟨n0, rfl⟩⟩) | (go_at_call 114; (with_reducible refine (impl_isTime.calls x1 _ _ P1.out).mono ?_); rintro e w3 ⟨rfl, ⟨n1, rfl⟩⟩) | (go_at_call 114; (with_reducible refine (impl_isTime.calls x2 _ _ P2.out).mono ?_); rintro e w4 ⟨rfl, ⟨n2, rfl⟩⟩) | (go_at_call 114; (with_reducible refine (impl_isTime.calls x3 _ _ P3.out).mono ?_); rintro e w5 ⟨rfl, ⟨n3, rfl⟩⟩) | (go_at_call 157; refine (containsFuncS_calls 158 #[] eg (fun t => decide (60 < t.size)) A4 c4 l _ (Kd.C_below HR.out (by repeat (first | (with_reducible first | exact HB.out | apply Qe | apply Qb | apply Qf) | exact HB.out))) (fun W x hb => pipeLong_calls W x _ hb)).mono ?_; rintro e w6 ⟨rfl, hb6⟩; have B6 := Aside0.mk (Ql (by repeat (first | (with_reducible first | exact HB.out | apply Qe | apply Qb | apply Qf) | exact HB.out)) hb6); have bk6 := Qo (by repeat (first | exact BK.out | apply Qh)) hb6; have q1 := (Qa bk6 1).trans rfl; have q2 := (Qa bk6 2).trans rfl; have q3 := (Qa bk6 3).trans rfl; have q4 := (Qa bk6 4).trans rfl; clear hb6 bk6; rw [HA.out]))
         go_ret
         exact ⟨rfl, B6.out⟩
        ·have hb1 : decide (0 < x1) = false := decide_eq_false hb
         rw [show decide (x1 > 0) = false from hb1, Bool.false_or]
         clear hb
         by_cases hc : x2 = 0
         ·have hc1 : (x2 == 0) = true := beq_iff_eq.2 hc
          rw [decide_eq_true hc, Bool.true_and]
          clear hc
          by_cases hd : x3 = 0
          ·have hd1 : (x3 == 0) = true := beq_iff_eq.2 hd
           rw [decide_eq_true hd, Bool.true_and]
           clear hd
           by_cases he : l.length = 0
           ·have he1 : ((l.length : Int) == 0) = true := beq_iff_eq.2 (by omega)
            rw [decide_eq_true he]
            clear he
            go_enter Try.func130, Try.ntmps130
            go_wp2_with (first | (go_at_call 91; refine (impl_isEpoch.calls _ _ _ P0.out).mono ?_; rintro e w2 ⟨rfl, ⟨n0, rfl⟩⟩) | (go_at_call 114; (with_reducible refine (impl_isTime.calls x1 _ _ P1.out).mono ?_); rintro e w3 ⟨rfl, ⟨n1, rfl⟩⟩) | (go_at_call 114; (with_reducible refine (impl_isTime.calls x2 _ _ P2.out).mono ?_); rintro e w4 ⟨rfl, ⟨n2, rfl⟩⟩) | (go_at_call 114; (with_reducible refine (impl_isTime.calls x3 _ _ P3.out).mono ?_); rintro e w5 ⟨rfl, ⟨n3, rfl⟩⟩) | (go_at_call 157; refine (containsFuncS_calls 158 #[] eg (fun t => decide (60 < t.size)) A4 c4 l _ (Kd.C_below HR.out (by repeat (first | (with_reducible first | exact HB.out | apply Qe | apply Qb | apply Qf) | exact HB.out))) (fun W x hb => pipeLong_calls W x _ hb)).mono ?_; rintro e w6 ⟨rfl, hb6⟩; have B6 := Aside0.mk (Ql (by repeat (first | (with_reducible first | exact HB.out | apply Qe | apply Qb | apply Qf) | exact HB.out)) hb6); have bk6 := Qo (by repeat (first | exact BK.out | apply Qh)) hb6; have q1 := (Qa bk6 1).trans rfl; have q2 := (Qa bk6 2).trans rfl; have q3 := (Qa bk6 3).trans rfl; have q4 := (Qa bk6 4).trans rfl; clear hb6 bk6; rw [HA.out]))
            go_ret
            exact ⟨rfl, B6.out⟩
           ·have he1 : ((l.length : Int) == 0) = false := beq_eq_false_iff_ne.2 (by omega)
            rw [decide_eq_false he]
            clear he
            go_enter Try.func130, Try.ntmps130
            go_wp2_with (first | (go_at_call 91; refine (impl_isEpoch.calls _ _ _ P0.out).mono ?_; rintro e w2 ⟨rfl, ⟨n0, rfl⟩⟩) | (go_at_call 114; (with_reducible refine (impl_isTime.calls x1 _ _ P1.out).mono ?_); rintro e w3 ⟨rfl, ⟨n1, rfl⟩⟩) | (go_at_call 114; (with_reducible refine (impl_isTime.calls x2 _ _ P2.out).mono ?_); rintro e w4 ⟨rfl, ⟨n2, rfl⟩⟩) | (go_at_call 114; (with_reducible refine (impl_isTime.calls x3 _ _ P3.out).mono ?_); rintro e w5 ⟨rfl, ⟨n3, rfl⟩⟩) | (go_at_call 157; refine (containsFuncS_calls 158 #[] eg (fun t => decide (60 < t.size)) A4 c4 l _ (Kd.C_below HR.out (by repeat (first | (with_reducible first | exact HB.out | apply Qe | apply Qb | apply Qf) | exact HB.out))) (fun W x hb => pipeLong_calls W x _ hb)).mono ?_; rintro e w6 ⟨rfl, hb6⟩; have B6 := Aside0.mk (Ql (by repeat (first | (with_reducible first | exact HB.out | apply Qe | apply Qb | apply Qf) | exact HB.out)) hb6); have bk6 := Qo (by repeat (first | exact BK.out | apply Qh)) hb6; have q1 := (Qa bk6 1).trans rfl; have q2 := (Qa bk6 2).trans rfl; have q3 := (Qa bk6 3).trans rfl; have q4 := (Qa bk6 4).trans rfl; clear hb6 bk6; rw [HA.out]))
            go_ret
            exact ⟨rfl, B6.out⟩
          ·have hd1 : (x3 == 0) = false := beq_eq_false_iff_ne.2 hd
           rw [decide_eq_false hd, Bool.false_and]
           clear hd
           go_enter Try.func130, Try.ntmps130
           go_wp2_with (first | (go_at_call 91; refine (impl_isEpoch.calls _ _ _ P0.out).mono ?_; rintro e w2 ⟨rfl, ⟨n0, rfl⟩⟩) | (go_at_call 114; (with_reducible refine (impl_isTime.calls x1 _ _ P1.out).mono ?_); rintro e w3 ⟨rfl, ⟨n1, rfl⟩⟩) | (go_at_call 114; (with_reducible refine (impl_isTime.calls x2 _ _ P2.out).mono ?_); rintro e w4 ⟨rfl, ⟨n2, rfl⟩⟩) | (go_at_call 114; (with_reducible refine (impl_isTime.calls x3 _ _ P3.out).mono ?_); rintro e w5 ⟨rfl, ⟨n3, rfl⟩⟩) | (go_at_call 157; refine (containsFuncS_calls 158 #[] eg (fun t => decide (60 < t.size)) A4 c4 l _ (Kd.C_below HR.out (by repeat (first | (with_reducible first | exact HB.out | apply Qe | apply Qb | apply Qf) | exact HB.out))) (fun W x hb => pipeLong_calls W x _ hb)).mono ?_; rintro e w6 ⟨rfl, hb6⟩; have B6 := Aside0.mk (Ql (by repeat (first | (with_reducible first | exact HB.out | apply Qe | apply Qb | apply Qf) | exact HB.out)) hb6); have bk6 := Qo (by repeat (first | exact BK.out | apply Qh)) hb6; have q1 := (Qa bk6 1).trans rfl; have q2 := (Qa bk6 2).trans rfl; have q3 := (Qa bk6 3).trans rfl; have q4 := (Qa bk6 4).trans rfl; clear hb6 bk6; rw [HA.out]))
           go_ret
           exact ⟨rfl, B6.out⟩
         ·have hc1 : (x2 == 0) = false := beq_eq_false_iff_ne.2 hc
          rw [decide_eq_false hc, Bool.false_and]
          clear hc
          go_enter Try.func130, Try.ntmps130
          go_wp2_with (first | (go_at_call 91; refine (impl_isEpoch.calls _ _ _ P0.out).mono ?_; rintro e w2 ⟨rfl, ⟨n0, rfl⟩⟩) | (go_at_call 114; (with_reducible refine (impl_isTime.calls x1 _ _ P1.out).mono ?_); rintro e w3 ⟨rfl, ⟨n1, rfl⟩⟩) | (go_at_call 114; (with_reducible refine (impl_isTime.calls x2 _ _ P2.out).mono ?_); rintro e w4 ⟨rfl, ⟨n2, rfl⟩⟩) | (go_at_call 114; (with_reducible refine (impl_isTime.calls x3 _ _ P3.out).mono ?_); rintro e w5 ⟨rfl, ⟨n3, rfl⟩⟩) | (go_at_call 157; refine (containsFuncS_calls 158 #[] eg (fun t => decide (60 < t.size)) A4 c4 l _ (Kd.C_below HR.out (by repeat (first | (with_reducible first | exact HB.out | apply Qe | apply Qb | apply Qf) | exact HB.out))) (fun W x hb => pipeLong_calls W x _ hb)).mono ?_; rintro e w6 ⟨rfl, hb6⟩; have B6 := Aside0.mk (Ql (by repeat (first | (with_reducible first | exact HB.out | apply Qe | apply Qb | apply Qf) | exact HB.out)) hb6); have bk6 := Qo (by repeat (first | exact BK.out | apply Qh)) hb6; have q1 := (Qa bk6 1).trans rfl; have q2 := (Qa bk6 2).trans rfl; have q3 := (Qa bk6 3).trans rfl; have q4 := (Qa bk6 4).trans rfl; clear hb6 bk6; rw [HA.out]))
          go_ret
          exact ⟨rfl, B6.out⟩
      ·have hs1 : decide (1000000 < x2 + (l.length : Int)) = true := decide_eq_true (by omega)
       rw [decide_eq_false hs, Bool.false_and]
       clear hs hl
       go_enter Try.func130, Try.ntmps130
       go_wp2_with (first | (go_at_call 91; refine (impl_isEpoch.calls _ _ _ P0.out).mono ?_; rintro e w2 ⟨rfl, ⟨n0, rfl⟩⟩) | (go_at_call 114; (with_reducible refine (impl_isTime.calls x1 _ _ P1.out).mono ?_); rintro e w3 ⟨rfl, ⟨n1, rfl⟩⟩) | (go_at_call 114; (with_reducible refine (impl_isTime.calls x2 _ _ P2.out).mono ?_); rintro e w4 ⟨rfl, ⟨n2, rfl⟩⟩) | (go_at_call 114; (with_reducible refine (impl_isTime.calls x3 _ _ P3.out).mono ?_); rintro e w5 ⟨rfl, ⟨n3, rfl⟩⟩))
       go_ret
       exact ⟨rfl, by repeat (first | (with_reducible first | exact HB.out | apply Qe | apply Qb | apply Qf) | exact HB.out)⟩
     ·have hl1 : decide (60 < l.length) = true := decide_eq_true (by omega)
      have hl2 : decide (60 < (l.length : Int)) = true := decide_eq_true (by omega)
      rw [decide_eq_false hl, Bool.false_and]
      clear hl
      go_enter Try.func130, Try.ntmps130
      go_wp2_with (first | (go_at_call 91; refine (impl_isEpoch.calls _ _ _ P0.out).mono ?_; rintro e w2 ⟨rfl, ⟨n0, rfl⟩⟩) | (go_at_call 114; (with_reducible refine (impl_isTime.calls x1 _ _ P1.out).mono ?_); rintro e w3 ⟨rfl, ⟨n1, rfl⟩⟩) | (go_at_call 114; (with_reducible refine (impl_isTime.calls x2 _ _ P2.out).mono ?_); rintro e w4 ⟨rfl, ⟨n2, rfl⟩⟩) | (go_at_call 114; (with_reducible refine (impl_isTime.calls x3 _ _ P3.out).mono ?_); rintro e w5 ⟨rfl, ⟨n3, rfl⟩⟩))
      go_ret
      exact ⟨rfl, by repeat (first | (with_reducible first | exact HB.out | apply Qe | apply Qb | apply Qf) | exact HB.out)⟩
def pipeBad (e : Int) (x : S100) : Bool := !pipeS x || decide (x.f0 > e)
set_option maxHeartbeats 1600000 in
set_option maxRecDepth 100000 in
theorem pipeBad_pred (ep : Int) (b : Nat) (w : World) (hc : w.heap[b]? = some (.cells #[.int .i64 ep] 2 (0, 0))) :
  Base.PredK Try.prog 129 #[.pointer (some ⟨b, 0, none⟩)] k100 (pipeBad ep) w := by
 intro W x cs hs hk
 obtain ⟨A4, c4, rfl, hl4, h4⟩ := k100_open hk
 have hcW := Qo hc hs
 have HS := Aside0.mk hs
 have BB := Aside0.mk hcW
 have H4 := Aside0.mk h4
 clear hk hs h4 hcW hc
 obtain ⟨x0, x1, x2, x3, x4⟩ := x
 have HB := Aside0.mk ((Below.refl _ W).alloc (Nat.le_refl _) (.cells #[.int .i64 x0, .int .i64 x1, .int .i64 x2, .int .i64 x3, .slice A4 x4.length c4] 100))
 have BX := Aside0.mk (blk_new W (.cells #[.int .i64 x0, .int .i64 x1, .int .i64 x2, .int .i64 x3, .slice A4 x4.length c4] 100))
 have BA := Aside0.mk (Qi BB.out (.cells #[.int .i64 x0, .int .i64 x1, .int .i64 x2, .int .i64 x3, .slice A4 x4.length c4] 100))
 show Calls Try.prog 129 #[.agg #[.int .i64 x0, .int .i64 x1, .int .i64 x2, .int .i64 x3, .slice A4 x4.length c4], .pointer (some ⟨b, 0, none⟩)] W _
 have HC := Aside0.mk (Kd.C_below H4.out HB.out)
 have k0 := (Qa BX.out 0).trans rfl
 have k1 := (Qa BX.out 1).trans rfl
 have k2 := (Qa BX.out 2).trans rfl
 have k3 := (Qa BX.out 3).trans rfl
 have k4 := (Qa BX.out 4).trans rfl
 have HU := Aside0.mk (show pipeBad ep ⟨x0, x1, x2, x3, x4⟩ = (!pipeB x0 x1 x2 x3 x4 || decide (x0 > ep)) from rfl)
 go_enter Try.func129, Try.ntmps129
 go_wp2_with fail
 refine (pipeRight_calls x0 x1 x2 x3 x4 A4 c4 _ HC.out).mono ?_
 rintro e w2 ⟨rfl, hb⟩
 have HB2 := Aside0.mk (Ql HB.out hb)
 have BX2 := Aside0.mk (Qo BX.out hb)
 have BA2 := Aside0.mk (Qo BA.out hb)
 clear hb k0 k1 k2 k3 k4
 have k0 := (Qa BX2.out 0).trans rfl
 have b0 := (Qa BA2.out 0).trans rfl
 cases hp : pipeB x0 x1 x2 x3 x4 with
 | false =>
  have HP := Aside0.mk hp
  clear hp
  go_wp2
  go_ret
  exact ⟨by rw [HU.out, HP.out]; rfl, HS.out.trans (HB2.out.mono HS.out.size)⟩
 | true =>
  have HP := Aside0.mk hp
  clear hp
  by_cases hx : ep < x0
  ·have hx1 : decide (ep < x0) = true := decide_eq_true hx
   go_wp2
   go_ret
   exact ⟨by rw [HU.out, HP.out, show decide (x0 > ep) = true from hx1]; rfl, HS.out.trans (HB2.out.mono HS.out.size)⟩
  ·have hx1 : decide (ep < x0) = false := decide_eq_false hx
   go_wp2
   go_ret
   exact ⟨by rw [HU.out, HP.out, show decide (x0 > ep) = false from hx1]; rfl, HS.out.trans (HB2.out.mono HS.out.size)⟩
set_option maxHeartbeats 800000 in
theorem arePipes_calls (A : Option Addr) (c : Nat) (l : List S100) (ep : Int) (w : World) (hr : Kd.C k100 w A l.length l) :
  Calls Try.prog 92 #[.slice A l.length c, .int .i64 ep] w fun e w' => e = .returned (.bool (l.all (fun x => pipeS x && decide (x.f0 ≤ ep)))) ∧ Below w.heap.size w w' := by
 have eg : ∀ args w, (callFunc 129 args).run Try.prog w = .ok (.enter 129 args) w := enters_of Try.func129 (by kernel_rfl) rfl
 have B1 := Aside0.mk ((Below.refl _ w).alloc (Nat.le_refl _) (.cells #[.int .i64 ep] 2))
 have BK := Aside0.mk (blk_new w (.cells #[.int .i64 ep] 2))
 have HR := Aside0.mk hr
 have HA := Aside0.mk (show l.all (fun x => pipeS x && decide (x.f0 ≤ ep)) = !(l.any (pipeBad ep)) by
  rw [List.not_any_eq_all_not]
  congr 1
  funext x
  unfold pipeBad
  rw [Bool.not_or, Bool.not_not]
  congr 1
  rw [← decide_not, decide_eq_decide]
  omega)
 clear hr
 go_enter Try.func92, Try.ntmps92
 go_wp2_with fail
 refine (containsFuncP_calls 129 #[.pointer (some ⟨w.heap.size, 0, none⟩)] eg (pipeBad ep) A c l _ (Kd.C_below HR.out B1.out) (pipeBad_pred ep w.heap.size _ BK.out)).mono ?_
 rintro e w2 ⟨rfl, hb⟩
 have HB := Aside0.mk (Ql B1.out hb)
 clear hb
 generalize l.any (pipeBad ep) = q at *
 go_wp2
 go_ret
 exact ⟨by rw [HA.out]; rfl, HB.out⟩
def heldBad (n : Int) (x : S73) : Bool := decide (x.f0 > n) || decide (x.f0 ≠ x.f2.f4)
set_option maxHeartbeats 1600000 in
set_option maxRecDepth 100000 in
theorem heldBad_pred (i0 e0 : Int) (A2 A3 : Option Addr) (n2 c2 n3 c3 : Nat) (b : Nat) (w : World) (hc : w.heap[b]? = some (.cells #[.int .i64 i0, .int .i64 e0, .slice A2 n2 c2, .slice A3 n3 c3] 57 (0, 0))) :
  Base.PredK Try.prog 94 #[.pointer (some ⟨b, 0, none⟩)] k73 (heldBad n2) w := by
 intro W x cs hs hk
 obtain rfl := k73_open hk
 have HS := Aside0.mk hs
 have BB := Aside0.mk (Qo hc hs)
 clear hk hs hc
 have HB := Aside0.mk ((Below.refl _ W).alloc (Nat.le_refl _) (.cells [.int .i64 x.f0, .bool x.f1, .int .i64 x.f2.f0, .int .i64 x.f2.f1, .int .i64 x.f2.f2, .int .i64 x.f2.f3, .int .i64 x.f2.f4, .int .i64 x.f2.f5, .bool x.f2.f6].toArray 73))
 have BX := Aside0.mk (blk_new W (.cells [.int .i64 x.f0, .bool x.f1, .int .i64 x.f2.f0, .int .i64 x.f2.f1, .int .i64 x.f2.f2, .int .i64 x.f2.f3, .int .i64 x.f2.f4, .int .i64 x.f2.f5, .bool x.f2.f6].toArray 73))
 have BA := Aside0.mk (Qi BB.out (.cells [.int .i64 x.f0, .bool x.f1, .int .i64 x.f2.f0, .int .i64 x.f2.f1, .int .i64 x.f2.f2, .int .i64 x.f2.f3, .int .i64 x.f2.f4, .int .i64 x.f2.f5, .bool x.f2.f6].toArray 73))
 obtain ⟨x0, x1, ⟨x2, x3, x4, x5, x6, x7, x8⟩⟩ := x
 show Calls Try.prog 94 #[.agg #[.int .i64 x0, .bool x1, .int .i64 x2, .int .i64 x3, .int .i64 x4, .int .i64 x5, .int .i64 x6, .int .i64 x7, .bool x8], .pointer (some ⟨b, 0, none⟩)] W _
 have k0 := (Qa BX.out 0).trans rfl
 have k6 := (Qa BX.out 6).trans rfl
 have b2 := (Qa BA.out 2).trans rfl
 have HU := Aside0.mk (show heldBad n2 ⟨x0, x1, ⟨x2, x3, x4, x5, x6, x7, x8⟩⟩ = (decide (x0 > (n2 : Int)) || decide (x0 ≠ x6)) from rfl)
 by_cases hx : (n2 : Int) < x0
 ·have hx1 : decide ((n2 : Int) < x0) = true := decide_eq_true hx
  go_enter Try.func94, Try.ntmps94
  go_wp2
  go_ret
  exact ⟨by rw [HU.out, show decide (x0 > (n2 : Int)) = true from hx1]; rfl, HS.out.trans (HB.out.mono HS.out.size)⟩
 ·have hx1 : decide ((n2 : Int) < x0) = false := decide_eq_false hx
  by_cases hy : x0 = x6
  ·have hy1 : (x0 != x6) = false := bne_eq_false_iff_eq.2 hy
   have HY := Aside0.mk (show decide (x0 ≠ x6) = false from decide_eq_false (fun h => h hy))
   clear hy
   go_enter Try.func94, Try.ntmps94
   go_wp2
   go_ret
   exact ⟨by rw [HU.out, show decide (x0 > (n2 : Int)) = false from hx1, HY.out]; rfl, HS.out.trans (HB.out.mono HS.out.size)⟩
  ·have hy1 : (x0 != x6) = true := bne_iff_ne.2 hy
   have HY := Aside0.mk (show decide (x0 ≠ x6) = true from decide_eq_true hy)
   clear hy
   go_enter Try.func94, Try.ntmps94
   go_wp2
   go_ret
   exact ⟨by rw [HU.out, show decide (x0 > (n2 : Int)) = false from hx1, HY.out]; rfl, HS.out.trans (HB.out.mono HS.out.size)⟩
theorem tellerB_is (a e : Int) (ps : List S100) (l : List S73) : tellerB a e ps l = (Base.inB a 1 2 && (Base.inB e 1 1000000 && (Base.inB (ps.length : Int) 1 4 && (ps.all (fun x => pipeS x && decide (x.f0 ≤ e)) && (ribRight l && !(l.any (heldBad ps.length))))))) := by
 have h1 : Base.inB (ps.length : Int) 1 4 = (decide (1 ≤ ps.length) && decide (ps.length ≤ 4)) := by
  unfold Base.inB
  congr 1 <;> (rw [decide_eq_decide]; omega)
 have h2 : l.all (fun x => decide (x.f0 ≤ (ps.length : Int)) && decide (x.f2.f4 = x.f0)) = !(l.any (heldBad ps.length)) := by
  rw [List.not_any_eq_all_not]
  congr 1
  funext x
  unfold heldBad
  rw [Bool.not_or, ← decide_not, ← decide_not]
  congr 1
  ·rw [decide_eq_decide]; omega
  ·rw [decide_eq_decide]; omega
 unfold tellerB
 rw [h1, h2]
 generalize ps.all (fun x => pipeS x && decide (x.f0 ≤ e)) = q1
 generalize l.any (heldBad ps.length) = q2
 cases Base.inB a 1 2 <;> cases Base.inB e 1 1000000 <;> cases decide (1 ≤ ps.length) <;> cases decide (ps.length ≤ 4) <;> cases ribRight l <;> cases q1 <;> cases q2 <;> rfl
set_option maxHeartbeats 8000000 in
set_option maxRecDepth 100000 in
theorem tellerRight_calls (a0_0 a0_1 : Int) (A0_2 : Option Addr) (c0_2 : Nat) (l0_2 : List S100) (A0_3 : Option Addr) (c0_3 : Nat) (l0_3 : List S73) (w : World) (hr0_2 : Kd.C k100 w A0_2 l0_2.length l0_2) (hr0_3 : Kd.C k73 w A0_3 l0_3.length l0_3) (hc0_3 : l0_3.length ≤ c0_3) :
  Calls Try.prog 46 #[.agg #[.int .i64 a0_0, .int .i64 a0_1, .slice A0_2 l0_2.length c0_2, .slice A0_3 l0_3.length c0_3]] w fun e w' => e = .returned (.bool (tellerB a0_0 a0_1 l0_2 l0_3)) ∧ Below w.heap.size w w' := by
 have eg : ∀ args w, (callFunc 94 args).run Try.prog w = .ok (.enter 94 args) w := enters_of Try.func94 (by kernel_rfl) rfl
 have HR2 := Aside0.mk hr0_2
 have HR3 := Aside0.mk hr0_3
 have HC3 := Aside0.mk hc0_3
 have hm2 := hr0_2.2.1
 have hm3 := hr0_3.2.1
 have HB := Aside0.mk ((Below.refl _ w).alloc (Nat.le_refl _) (.cells #[.int .i64 a0_0, .int .i64 a0_1, .slice A0_2 l0_2.length c0_2, .slice A0_3 l0_3.length c0_3] 57))
 have BK := Aside0.mk (blk_new w (.cells #[.int .i64 a0_0, .int .i64 a0_1, .slice A0_2 l0_2.length c0_2, .slice A0_3 l0_3.length c0_3] 57))
 have P0 := Aside0.mk (impl_in_eq a0_0 1 2)
 have P1 := Aside0.mk (show impl_isEpoch.f a0_1 = some (Base.inB a0_1 1 1000000) by simp [impl_isEpoch.f, impl_in_eq])
 have P2 := Aside0.mk (impl_in_eq (l0_2.length : Int) 1 4)
 have P4 := Aside0.mk (impl_RibRight_eq l0_3 hm3 (l0_3.length + 7) (by omega))
 have HT := Aside0.mk (tellerB_is a0_0 a0_1 l0_2 l0_3)
 have k0 := (Qa BK.out 0).trans rfl
 have k1 := (Qa BK.out 1).trans rfl
 have k2 := (Qa BK.out 2).trans rfl
 have k3 := (Qa BK.out 3).trans rfl
 have E3 := Aside0.mk (rfl : l0_2.all (fun x => pipeS x && decide (x.f0 ≤ a0_1)) = l0_2.all (fun x => pipeS x && decide (x.f0 ≤ a0_1)))
 have E5 := Aside0.mk (rfl : l0_3.any (heldBad l0_2.length) = l0_3.any (heldBad l0_2.length))
 clear hr0_2 hr0_3 hc0_3
 generalize Base.inB a0_0 1 2 = t0 at P0 HT
 generalize Base.inB a0_1 1 1000000 = t1 at P1 HT
 generalize Base.inB (l0_2.length : Int) 1 4 = t2 at P2 HT
 obtain ⟨t3, h3⟩ : ∃ t3, t3 = l0_2.all (fun x => pipeS x && decide (x.f0 ≤ a0_1)) := ⟨_, rfl⟩
 rw [← h3] at HT
 replace E3 := Aside0.mk h3.symm
 clear h3
 generalize ribRight l0_3 = t4 at P4 HT
 obtain ⟨t5, h5⟩ : ∃ t5, t5 = l0_3.any (heldBad l0_2.length) := ⟨_, rfl⟩
 rw [← h5] at HT
 replace E5 := Aside0.mk h5.symm
 clear h5
 cases t0 with
 | false =>
  go_enter Try.func46, Try.ntmps46
  go_wp2_with (first | (go_at_call 90; first | ((with_reducible refine (impl_in.calls a0_0 1 2 _ _ P0.out).mono ?_); rintro e w2 ⟨rfl, ⟨n0, rfl⟩⟩) | ((with_reducible refine (impl_in.calls (l0_2.length : Int) 1 4 _ _ P2.out).mono ?_); rintro e w4 ⟨rfl, ⟨n2, rfl⟩⟩)))
  go_ret
  exact ⟨by rw [HT.out]; rfl, by repeat (first | exact HB.out | apply Qb)⟩
 | true =>
  cases t1 with
  | false =>
   go_enter Try.func46, Try.ntmps46
   go_wp2_with (first | (go_at_call 90; first | ((with_reducible refine (impl_in.calls a0_0 1 2 _ _ P0.out).mono ?_); rintro e w2 ⟨rfl, ⟨n0, rfl⟩⟩) | ((with_reducible refine (impl_in.calls (l0_2.length : Int) 1 4 _ _ P2.out).mono ?_); rintro e w4 ⟨rfl, ⟨n2, rfl⟩⟩)) | (go_at_call 91; refine (impl_isEpoch.calls _ _ _ P1.out).mono ?_; rintro e w3 ⟨rfl, ⟨n1, rfl⟩⟩))
   go_ret
   exact ⟨by rw [HT.out]; rfl, by repeat (first | exact HB.out | apply Qb)⟩
  | true =>
   cases t2 with
   | false =>
    go_enter Try.func46, Try.ntmps46
    go_wp2_with (first | (go_at_call 90; first | ((with_reducible refine (impl_in.calls a0_0 1 2 _ _ P0.out).mono ?_); rintro e w2 ⟨rfl, ⟨n0, rfl⟩⟩) | ((with_reducible refine (impl_in.calls (l0_2.length : Int) 1 4 _ _ P2.out).mono ?_); rintro e w4 ⟨rfl, ⟨n2, rfl⟩⟩)) | (go_at_call 91; refine (impl_isEpoch.calls _ _ _ P1.out).mono ?_; rintro e w3 ⟨rfl, ⟨n1, rfl⟩⟩))
    go_ret
    exact ⟨by rw [HT.out]; rfl, by repeat (first | exact HB.out | apply Qb)⟩
   | true =>
    cases t3 with
    | false =>
     go_enter Try.func46, Try.ntmps46
     go_wp2_with (first | (go_at_call 90; first | ((with_reducible refine (impl_in.calls a0_0 1 2 _ _ P0.out).mono ?_); rintro e w2 ⟨rfl, ⟨n0, rfl⟩⟩) | ((with_reducible refine (impl_in.calls (l0_2.length : Int) 1 4 _ _ P2.out).mono ?_); rintro e w4 ⟨rfl, ⟨n2, rfl⟩⟩)) | (go_at_call 91; refine (impl_isEpoch.calls _ _ _ P1.out).mono ?_; rintro e w3 ⟨rfl, ⟨n1, rfl⟩⟩) | (go_at_call 92; refine (arePipes_calls _ _ l0_2 a0_1 _ (Kd.C_below HR2.out (by repeat (first | exact HB.out | apply Qb)))).mono ?_; rintro e w5 ⟨rfl, hb5⟩; have B5 := Aside0.mk (Ql (by repeat (first | exact HB.out | apply Qb)) hb5); have BK5 := Aside0.mk (Qo (by repeat (first | exact BK.out | apply Qh)) hb5); have q2 := (Qa BK5.out 2).trans rfl; have q3 := (Qa BK5.out 3).trans rfl; clear hb5; rw [E3.out]))
     go_ret
     exact ⟨by rw [HT.out]; rfl, B5.out⟩
    | true =>
     cases t4 with
     | false =>
      go_enter Try.func46, Try.ntmps46
      go_wp2_with (first | (go_at_call 90; first | ((with_reducible refine (impl_in.calls a0_0 1 2 _ _ P0.out).mono ?_); rintro e w2 ⟨rfl, ⟨n0, rfl⟩⟩) | ((with_reducible refine (impl_in.calls (l0_2.length : Int) 1 4 _ _ P2.out).mono ?_); rintro e w4 ⟨rfl, ⟨n2, rfl⟩⟩)) | (go_at_call 91; refine (impl_isEpoch.calls _ _ _ P1.out).mono ?_; rintro e w3 ⟨rfl, ⟨n1, rfl⟩⟩) | (go_at_call 92; refine (arePipes_calls _ _ l0_2 a0_1 _ (Kd.C_below HR2.out (by repeat (first | exact HB.out | apply Qb)))).mono ?_; rintro e w5 ⟨rfl, hb5⟩; have B5 := Aside0.mk (Ql (by repeat (first | exact HB.out | apply Qb)) hb5); have BK5 := Aside0.mk (Qo (by repeat (first | exact BK.out | apply Qh)) hb5); have q2 := (Qa BK5.out 2).trans rfl; have q3 := (Qa BK5.out 3).trans rfl; clear hb5; rw [E3.out]) | (go_at_call 57; refine (impl_RibRight.calls (l0_3.length + 7) _ _ l0_3 _ _ (Kd.C_below HR3.out B5.out) HC3.out P4.out).mono ?_; rintro e w6 ⟨rfl, hb6⟩; have B6 := Aside0.mk (Ql B5.out hb6); have BK6 := Aside0.mk (Qo BK5.out hb6); have p2 := (Qa BK6.out 2).trans rfl; have p3 := (Qa BK6.out 3).trans rfl; clear hb6))
      go_ret
      exact ⟨by rw [HT.out]; rfl, B6.out⟩
     | true =>
      go_enter Try.func46, Try.ntmps46
      go_wp2_with (first | (go_at_call 90; first | ((with_reducible refine (impl_in.calls a0_0 1 2 _ _ P0.out).mono ?_); rintro e w2 ⟨rfl, ⟨n0, rfl⟩⟩) | ((with_reducible refine (impl_in.calls (l0_2.length : Int) 1 4 _ _ P2.out).mono ?_); rintro e w4 ⟨rfl, ⟨n2, rfl⟩⟩)) | (go_at_call 91; refine (impl_isEpoch.calls _ _ _ P1.out).mono ?_; rintro e w3 ⟨rfl, ⟨n1, rfl⟩⟩) | (go_at_call 92; refine (arePipes_calls _ _ l0_2 a0_1 _ (Kd.C_below HR2.out (by repeat (first | exact HB.out | apply Qb)))).mono ?_; rintro e w5 ⟨rfl, hb5⟩; have B5 := Aside0.mk (Ql (by repeat (first | exact HB.out | apply Qb)) hb5); have BK5 := Aside0.mk (Qo (by repeat (first | exact BK.out | apply Qh)) hb5); have q2 := (Qa BK5.out 2).trans rfl; have q3 := (Qa BK5.out 3).trans rfl; clear hb5; rw [E3.out]) | (go_at_call 57; refine (impl_RibRight.calls (l0_3.length + 7) _ _ l0_3 _ _ (Kd.C_below HR3.out B5.out) HC3.out P4.out).mono ?_; rintro e w6 ⟨rfl, hb6⟩; have B6 := Aside0.mk (Ql B5.out hb6); have BK6 := Aside0.mk (Qo BK5.out hb6); have p2 := (Qa BK6.out 2).trans rfl; have p3 := (Qa BK6.out 3).trans rfl; clear hb6) | (go_at_call 93; refine (containsFunc_calls 94 #[.pointer (some ⟨w.heap.size, 0, none⟩)] eg (heldBad l0_2.length) _ _ l0_3 _ (Kd.C_below HR3.out B6.out) (heldBad_pred a0_0 a0_1 A0_2 A0_3 l0_2.length c0_2 l0_3.length c0_3 w.heap.size _ BK6.out)).mono ?_; rintro e w7 ⟨rfl, hb7⟩; have B7 := Aside0.mk (Ql B6.out hb7); clear hb7; rw [E5.out]))
      go_ret
      exact ⟨by rw [HT.out]; rfl, B7.out⟩
def impl_TellerRight.f (a0_0 : Int) (a0_1 : Int) (l0_2 : List S100) (l0_3 : List S73) : Option Bool := some (tellerB a0_0 a0_1 l0_2 l0_3)
set_option maxHeartbeats 8000000 in
set_option maxRecDepth 100000 in
theorem impl_TellerRight.calls (a0_0 : Int) (a0_1 : Int) (A0_2 : Option Addr) (c0_2 : Nat) (l0_2 : List (S100)) (A0_3 : Option Addr) (c0_3 : Nat) (l0_3 : List (S73)) (r : Bool) (w : World) (hr0_2 : Kd.C k100 w A0_2 l0_2.length l0_2) (hc0_2 : l0_2.length ≤ c0_2) (hr0_3 : Kd.C k73 w A0_3 l0_3.length l0_3) (hc0_3 : l0_3.length ≤ c0_3) (h : impl_TellerRight.f a0_0 a0_1 l0_2 l0_3 = some r) :
  Calls Try.prog 46 #[.agg #[.int .i64 a0_0, .int .i64 a0_1, .slice A0_2 l0_2.length c0_2, .slice A0_3 l0_3.length c0_3]] w fun e w' => e = .returned (.bool r) ∧ Below w.heap.size w w' := by
 obtain rfl := Option.some.inj h
 exact tellerRight_calls a0_0 a0_1 A0_2 c0_2 l0_2 A0_3 c0_3 l0_3 w hr0_2 hr0_3 hc0_3
def impl_newPipes.l0 : Nat → Int → List (S100) → Int → Int → Option ((List (S100)))
 | 0, _, _, _, _ => none
 | k + 1, x0, x5, x7, x8 => if x8 < x7 then (if x5.length < 2513169434916 then (impl_newPipes.l0 k x0 (x5 ++ [(⟨x0, 0, 0, 0, ([] : List ByteArray)⟩ : S100)]) x7 (wrap64 (x8 + 1))) else (none)) else (some x5)
def impl_newPipes.f (k : Nat) (a0 : Int) (a1 : Int) : Option ((List (S100))) := impl_newPipes.l0 k a0 (([] : List (S100))) a1 0
theorem impl_newPipes.mono_l : ∀ k, (∀ y0 y1 y2 y3, LeO (impl_newPipes.l0 k y0 y1 y2 y3) (impl_newPipes.l0 (k + 1) y0 y1 y2 y3))
 | 0 => fun _ _ _ _ r h => by simp [impl_newPipes.l0] at h
 | k + 1 => by
  have ih0 := impl_newPipes.mono_l k
  ·intro y0 y1 y2 y3
   unfold impl_newPipes.l0
   repeat' first
   | (with_reducible exact ih0 _ _ _ _)
   | (with_reducible exact LeO.refl _)
   | (with_reducible exact LeO.none _)
   | (with_reducible refine LeO.ite ?_ ?_)
   | (with_reducible refine LeO.bind ?_ (fun _ => ?_))
   | exact ih0 _ _ _ _
   | exact LeO.none _
   | refine LeO.ite ?_ ?_
   | refine LeO.bind ?_ (fun _ => ?_)
theorem impl_newPipes.mono : ∀ a0 a1 k, LeO (impl_newPipes.f k a0 a1) (impl_newPipes.f (k + 1) a0 a1) := by
 intro a0 a1 k
 have ih0 := impl_newPipes.mono_l k
 unfold impl_newPipes.f
 repeat' first
   | (with_reducible exact ih0 _ _ _ _)
   | (with_reducible exact LeO.refl _)
   | (with_reducible exact LeO.none _)
   | (with_reducible refine LeO.ite ?_ ?_)
   | (with_reducible refine LeO.bind ?_ (fun _ => ?_))
   | exact ih0 _ _ _ _
   | exact LeO.none _
   | refine LeO.ite ?_ ?_
   | refine LeO.bind ?_ (fun _ => ?_)
set_option maxHeartbeats 8000000 in
set_option maxRecDepth 100000 in
theorem impl_newPipes.calls (k : Nat) (a0 : Int) (a1 : Int) (r : List (S100)) (w : World) (h : impl_newPipes.f k a0 a1 = some r) :
  Calls Try.prog 132 #[.int .i64 a0, .int .i64 a1] w fun e w' => ∃ v0_ : Value, e = .returned (v0_) ∧ Kd.S k100 100 w' w.heap.size (fun _ => True) v0_ r ∧ Below w.heap.size w w' := by
 have hu100 := Try.underlying100
 have HB := Aside0.mk (Below.refl w.heap.size w)
 have H : (impl_newPipes.l0 k a0 (([] : List (S100))) a1 0) = some r := h
 clear h
 obtain ⟨y159, hy159⟩ : ∃ y_ : List (S100), y_ = (([] : List (S100))) := ⟨_, rfl⟩
 replace H : (impl_newPipes.l0 k a0 y159 a1 0) = some r := by first | (rw [hy159]; with_reducible exact H) | (have H2_ := (Option.bind_some _ _).symm.trans H; rw [hy159]; with_reducible exact H2_) | (have H2_ := (Option.bind_some _ _).symm.trans H; with_reducible exact H2_) | with_reducible exact H | (rw [hy159]; exact H) | exact H
 have Ny159 := Aside0.mk hy159
 clear hy159
 have H' := Aside0.mk H
 clear H
 go_enter Try.func132, Try.ntmps132
 go_wp2_with (first | ((with_reducible refine Qs (N := 6) rfl ?_); refine Kd.S_lit k100 _ 100 ?hg (N := 6) ?hd (xs := ([] : List (S100))) (inner := []) (ok := fun _ => True) (okp := fun _ => True) ?hr ?hp (fun _ hk => hk) trivial (Below.refl _ _) (Nat.le_refl _) (by simp) ?_; (case hd => rfl); (case hg => rfl); (case hr => first | (go_simp; done) | (go_simp; rfl)); (case hp => exact (Reps.none _ _)); intro v160 w3 ho4 hb hg_ hnew_; clear hg_ hnew_; (first | rw [← Ny159.out] at ho4 | (simp only [Int.reduceToNat] at ho4; rw [← Ny159.out] at ho4)); have n0_ := Aside0.mk (Kd.S_lower ho4 (Qk (by repeat (first | (with_reducible first | exact HB.out | apply Qe | apply Qb | apply Qf) | exact HB.out)))); have n1_ := Aside0.mk (Ql (by repeat (first | (with_reducible first | exact HB.out | apply Qe | apply Qb | apply Qf) | exact HB.out)) hb); clear HB; have HO161 := n0_; have HB := n1_; clear n0_ n1_; clear hb ho4))
 go_loopg [5, 8] k (fun kq v5 v8 w' => ∃ (x5_1 : List (S100)) (x8_1 : Int), v8 = .int .i64 x8_1 ∧ Aside0 (impl_newPipes.l0 kq a0 x5_1 a1 x8_1 = some r) ∧ Aside0 (kq ≤ k) ∧ Aside0 (Kd.S k100 100 w' w.heap.size (fun _ => True) v5 x5_1) ∧ Aside0 (Below w.heap.size w w'))
 case atStart => exact ⟨(y159), (0), (by first | rfl | (simp; done) | (simp [*]; done)), H', ⟨Nat.le_refl _⟩, ⟨by (with_reducible repeat (first | apply Kd.S_alloc | apply Kd.S_drewN | apply Kd.S_drew)); exact HO161.out⟩, ⟨by repeat (first | (with_reducible first | exact HB.out | apply Qe | apply Qb | apply Qf) | exact HB.out)⟩⟩
 case round =>
  clear H'
  try clear c1
  try clear p2
  obtain ⟨x5_1, x8_1, rfl, HA, HK1, HO_5, HB⟩ := hrel
  cases gk with
  | zero => exact absurd HA.out (by simp [impl_newPipes.l0])
  | succ k1 =>
   have H := HA.out
   clear HA
   simp only [impl_newPipes.l0] at H
   by_cases c5 : x8_1 < a1
   ·rw [if_pos c5] at H
    have c5b0 : decide (x8_1 < a1) = true := decide_eq_true c5
    clear c5
    by_cases c6 : x5_1.length < 2513169434916
    ·rw [if_pos c6] at H
     have LMc6 := Aside0.mk c6
     clear c6
     obtain ⟨y162, hy162⟩ : ∃ y_ : List (S100), y_ = (x5_1 ++ [(⟨a0, 0, 0, 0, ([] : List ByteArray)⟩ : S100)]) := ⟨_, rfl⟩
     replace H : (impl_newPipes.l0 k1 a0 y162 a1 (wrap64 (x8_1 + 1))) = some r := by first | (rw [hy162]; with_reducible exact H) | (have H2_ := (Option.bind_some _ _).symm.trans H; rw [hy162]; with_reducible exact H2_) | (have H2_ := (Option.bind_some _ _).symm.trans H; with_reducible exact H2_) | with_reducible exact H | (rw [hy162]; exact H) | exact H
     have Ny162 := Aside0.mk hy162
     clear hy162
     have H' := Aside0.mk H
     clear H
     go_wp2_with (first | ((with_reducible refine gate_builtin (b := .append) (xs := #[.tmp 10, .tmp 13]) rfl ?_); at_builtin; refine Kd.S_append k100 (w0 := w) w.heap.size rfl (.tmp 10) (.tmp 13) 55 100 (.agg #[(.int .i64 0), (.int .i64 0), (.int .i64 0), (.int .i64 0), (.slice none 0 0)]) 56 rfl Try.underlying55 info100 rfl (by decide) (by omega) u5 x5_1 (⟨a0, 0, 0, 0, ([] : List ByteArray)⟩ : S100) [.int .i64 a0, .int .i64 0, .int .i64 0, .int .i64 0, .slice none 0 0] (fun _ => True) (fun _ => False) rfl rfl ?aP (fun k_ hk_ => hk_.elim) ?aF ?aO ?aB ?aS ?aL ?_; (case aP => exact k100_mkM _ _ _ (⟨a0, 0, 0, 0, ([] : List ByteArray)⟩ : S100) (Kd.R_nil _ _ _ _ _)); (case aB => exact (by repeat (first | (with_reducible first | exact HB.out | apply Qe | apply Qb | apply Qf) | exact HB.out))); (case aF => exact (fun _ _ => trivial)); (case aO => exact (by (with_reducible repeat (first | apply Kd.S_alloc | apply Kd.S_drewN | apply Kd.S_drew)); exact Kd.S_mono HO_5.out (fun k_ hk => ⟨trivial, fun e_ => e_⟩))); (case aS => exact (Qk (by repeat (first | (with_reducible first | exact HB.out | apply Qe | apply Qb | apply Qf) | exact HB.out)))); (case aL => have := LMc6.out; omega); intro v163 w7 ho hb hg hat; rw [← Ny162.out] at ho; have n0_ := Aside0.mk (hb); have n1_ := Aside0.mk (ho); clear HB; clear HO_5; have HB := n0_; have HO164 := n1_; clear n0_ n1_; clear ho hb hg hat))
     go_roundg k1
     case measure => have := HK1.out; omega
     case rel => exact ⟨(y162), (wrap64 (x8_1 + 1)), (by first | rfl | (simp; done) | (simp [*]; done)), H', ⟨by have := HK1.out; omega⟩, ⟨by (with_reducible repeat (first | apply Kd.S_alloc | apply Kd.S_drewN | apply Kd.S_drew)); exact HO164.out⟩, ⟨by repeat (first | (with_reducible first | exact HB.out | apply Qe | apply Qb | apply Qf) | exact HB.out)⟩⟩
    ·rw [if_neg c6] at H
     exact absurd H (by simp)
   ·rw [if_neg c5] at H
    have c5b0 : decide (x8_1 < a1) = false := decide_eq_false c5
    clear c5
    obtain rfl := Option.some.inj H
    go_wp2
    go_ret
    exact ⟨_, by first | rfl | (simp [Qn, Qm] <;> rfl) | (simp [*, Qn, Qm] <;> rfl), by (with_reducible repeat (first | apply Kd.S_alloc | apply Kd.S_drewN | apply Kd.S_drew)); exact HO_5.out, by repeat (first | (with_reducible first | exact HB.out | apply Qe | apply Qb | apply Qf) | exact HB.out)⟩
def impl_tellerNew.f (k : Nat) (a0 : Int) (a1 : Int) (a2 : Int) : Option (Int × Int × (List (S100)) × (List (S73)) × Bool) := (impl_in.f a2 1 4).bind fun t166 => (if t166 = true then ((impl_newPipes.f k a1 a2).bind fun t167 => ((impl_TellerRight.f a0 a1 t167 ([] : List (S73))).bind fun t171 => (some (a0, a1, t167, ([] : List (S73)), t171)))) else (some (0, 0, ([] : List (S100)), ([] : List (S73)), false)))
theorem impl_tellerNew.mono : ∀ a0 a1 a2 k, LeO (impl_tellerNew.f k a0 a1 a2) (impl_tellerNew.f (k + 1) a0 a1 a2) := by
 intro a0 a1 a2 k
 unfold impl_tellerNew.f
 repeat' first
   | (with_reducible exact impl_newPipes.mono _ _ _)
   | (with_reducible exact LeO.refl _)
   | (with_reducible exact LeO.none _)
   | (with_reducible refine LeO.ite ?_ ?_)
   | (with_reducible refine LeO.bind ?_ (fun _ => ?_))
   | exact impl_newPipes.mono _ _ _
   | exact LeO.none _
   | refine LeO.ite ?_ ?_
   | refine LeO.bind ?_ (fun _ => ?_)
set_option maxHeartbeats 8000000 in
set_option maxRecDepth 100000 in
theorem impl_tellerNew.calls (k : Nat) (a0 : Int) (a1 : Int) (a2 : Int) (r1 : Int) (r2 : Int) (r3 : List (S100)) (r4 : List (S73)) (r5 : Bool) (w : World) (h : impl_tellerNew.f k a0 a1 a2 = some (r1, r2, r3, r4, r5)) :
  Calls Try.prog 97 #[.int .i64 a0, .int .i64 a1, .int .i64 a2] w fun e w' => ∃ v2_ v3_ : Value, e = .returned (.tuple #[.agg #[.int .i64 r1, .int .i64 r2, v2_, v3_], .bool r5]) ∧ Kd.S k100 100 w' w.heap.size (fun _ => True) v2_ r3 ∧ Kd.R k73 73 w' w.heap.size (fun _ => True) v3_ r4 ∧ Below w.heap.size w w' := by
 have hu57 := Try.underlying57
 have HB := Aside0.mk (Below.refl w.heap.size w)
 have H : ((impl_in.f a2 1 4).bind fun t166 => (if t166 = true then ((impl_newPipes.f k a1 a2).bind fun t167 => ((impl_TellerRight.f a0 a1 t167 ([] : List (S73))).bind fun t171 => (some (a0, a1, t167, ([] : List (S73)), t171)))) else (some (0, 0, ([] : List (S100)), ([] : List (S73)), false)))) = some (r1, r2, r3, r4, r5) := h
 clear h
 replace H := Option.bind_eq_some_iff.mp H
 obtain ⟨t166, A40, H⟩ := H
 replace H : (if t166 = true then ((impl_newPipes.f k a1 a2).bind fun t167 => ((impl_TellerRight.f a0 a1 t167 ([] : List (S73))).bind fun t171 => (some (a0, a1, t167, ([] : List (S73)), t171)))) else (some (0, 0, ([] : List (S100)), ([] : List (S73)), false))) = some (r1, r2, r3, r4, r5) := H
 have A4 := Aside0.mk A40
 clear A40
 by_cases c5 : t166 = true
 ·subst c5
  have H1 : ((impl_newPipes.f k a1 a2).bind fun t167 => ((impl_TellerRight.f a0 a1 t167 ([] : List (S73))).bind fun t171 => (some (a0, a1, t167, ([] : List (S73)), t171)))) = some (r1, r2, r3, r4, r5) := by rw [if_pos rfl] at H; exact H
  clear H
  have H := H1
  clear H1
  replace H := Option.bind_eq_some_iff.mp H
  obtain ⟨t167, A60, H⟩ := H
  replace H : ((impl_TellerRight.f a0 a1 t167 ([] : List (S73))).bind fun t171 => (some (a0, a1, t167, ([] : List (S73)), t171))) = some (r1, r2, r3, r4, r5) := H
  have A6 := Aside0.mk A60
  clear A60
  replace H := Option.bind_eq_some_iff.mp H
  obtain ⟨t171, A70, H⟩ := H
  replace H : (some (a0, a1, t167, ([] : List (S73)), t171)) = some (r1, r2, r3, r4, r5) := H
  have A7 := Aside0.mk A70
  clear A70
  simp only [Option.some.injEq, Prod.mk.injEq] at H
  obtain ⟨rfl, rfl, rfl, rfl, rfl⟩ := H
  go_enter Try.func97, Try.ntmps97
  try go_wp2_with (first | ((with_reducible refine Qs (N := 6) rfl ?_); refine Qr ?hg (N := 6) ?hd (cs := #[.int .i64 0, .int .i64 0, .slice none 0 0, .slice none 0 0]) (t := 57) ?hr ?_; (case hd => rfl); (case hg => rfl); (case hr => first | (go_simp; done) | (go_simp; rfl)); intro gb165 hg w8 hbox hb; have n0_ := Aside0.mk (Ql (by repeat (first | (with_reducible first | exact HB.out | apply Qe | apply Qb | apply Qf) | exact HB.out)) hb); have n1_ := Aside0.mk (hbox); have n2_ := Aside0.mk ((by rw [hg]; exact (Qk (by repeat (first | (with_reducible first | exact HB.out | apply Qe | apply Qb | apply Qf) | exact HB.out))) : w.heap.size ≤ gb165)); have n3_ := Aside0.mk ((by rw [hg]; exact (Qk (by repeat (first | (with_reducible first | exact HB.out | apply Qe | apply Qb | apply Qf) | exact HB.out))) : w.heap.size ≤ gb165)); clear HB; have HB := n0_; have BK165 := n1_; have GW165 := n2_; have GE165 := n3_; clear n0_ n1_ n2_ n3_; clear hb hbox hg) | ((with_reducible refine Qq (f := 90) rfl ?_); refine Qy (some 10) rfl rfl Try.func90 (by kernel_rfl) rfl #[.int .i64 a2, .int .i64 1, .int .i64 4] rfl (by (try simp only [List.map_toArray, List.map_cons, List.map_nil]); first | done | rfl | (simp only [List.length_drop, List.length_take]; rfl)) ?_; (with_reducible refine (impl_in.calls a2 1 4 true _ A4.out).mono ?_); rintro e w' ⟨rfl, ⟨nd, rfl⟩⟩; refine ⟨_, rfl, ?_⟩; (try (rw [drewN_self w8]; generalize hq_ : World.drewN w8 _ = w8; have n0_ : Aside0 (w8.heap[gb165]? = some (.cells #[.int .i64 0, .int .i64 0, .slice none 0 0, .slice none 0 0] 57 (0, 0))) := ⟨by rw [← hq_]; exact (by (with_reducible repeat (first | refine Qh ?_ _ | refine Qj ?_ | refine Qi ?_ _)); exact BK165.out)⟩; have n1_ : Aside0 (Below w.heap.size w w8) := ⟨by rw [← hq_]; exact (by repeat (first | (with_reducible first | exact HB.out | apply Qe | apply Qb | apply Qf | refine Qg ?_ GE165.out) | exact HB.out))⟩; clear BK165 HB hq_; have BK165 := n0_; have HB := n1_; clear n0_ n1_))) | ((with_reducible refine Qq (f := 132) rfl ?_); refine Qy (some 17) rfl rfl Try.func132 (by kernel_rfl) rfl #[.int .i64 a1, .int .i64 a2] rfl (by (try simp only [List.map_toArray, List.map_cons, List.map_nil]); first | done | rfl | (simp only [List.length_drop, List.length_take]; rfl)) ?_; (with_reducible refine (impl_newPipes.calls k a1 a2 t167 _ A6.out).mono ?_); rintro e w9 ⟨v168, rfl, ho0, hb⟩; refine ⟨_, rfl, ?_⟩; have n0_ := Aside0.mk (Kd.S_lower ho0 (Qk (by repeat (first | (with_reducible first | exact HB.out | apply Qe | apply Qb | apply Qf | refine Qg ?_ GE165.out) | exact HB.out)))); have n1_ := Aside0.mk (Qo (g := gb165) (o := .cells #[.int .i64 0, .int .i64 0, .slice none 0 0, .slice none 0 0] 57 (0, 0)) (by (with_reducible repeat (first | refine Qh ?_ _ | refine Qj ?_ | refine Qi ?_ _)); exact BK165.out) hb); have n2_ := Aside0.mk (Ql (by repeat (first | (with_reducible first | exact HB.out | apply Qe | apply Qb | apply Qf | refine Qg ?_ GE165.out) | exact HB.out)) hb); clear BK165; clear HB; have HO169 := n0_; have BK165 := n1_; have HB := n2_; clear n0_ n1_ n2_; (try clear hb); (try clear hb2); (try clear hk); (try clear hi); (try clear ho0); obtain ⟨Ao10, co10, eo10⟩ := Kd.S_slice HO169.out; subst eo10) | ((with_reducible refine Qs (N := 8) rfl ?_); refine Qr ?hg (N := 8) ?hd (cs := #[.int .i64 0, .int .i64 0, .slice none 0 0, .slice none 0 0]) (t := 57) ?hr ?_; (case hd => rfl); (case hg => rfl); (case hr => first | (go_simp; done) | (go_simp; rfl)); intro gb170 hg w11 hbox hb; have n0_ := Aside0.mk (Kd.S_below (by (with_reducible repeat (first | apply Kd.S_alloc | apply Kd.S_drewN | apply Kd.S_drew)); exact HO169.out) hb); have n1_ := Aside0.mk (Qo (g := gb165) (o := .cells #[.int .i64 0, .int .i64 0, .slice none 0 0, .slice none 0 0] 57 (0, 0)) (by (with_reducible repeat (first | refine Qh ?_ _ | refine Qj ?_ | refine Qi ?_ _)); exact BK165.out) hb); have n2_ := Aside0.mk (Ql (by repeat (first | (with_reducible first | exact HB.out | apply Qe | apply Qb | apply Qf | refine Qg ?_ GE165.out) | exact HB.out)) hb); have n3_ := Aside0.mk (hbox); have n4_ := Aside0.mk ((by rw [hg]; exact (Qk (by repeat (first | (with_reducible first | exact HB.out | apply Qe | apply Qb | apply Qf | refine Qg ?_ GE165.out) | exact HB.out))) : w.heap.size ≤ gb170)); have n5_ := Aside0.mk ((by rw [hg]; exact (Qk (by repeat (first | (with_reducible first | exact HB.out | apply Qe | apply Qb | apply Qf | refine Qg ?_ GE165.out) | exact HB.out))) : w.heap.size ≤ gb170)); have n6_ := Aside0.mk ((by rw [hg]; exact Nat.ne_of_lt (Qt (g := gb165) (o := .cells #[.int .i64 0, .int .i64 0, .slice none 0 0, .slice none 0 0] 57 (0, 0)) (by (with_reducible repeat (first | refine Qh ?_ _ | refine Qj ?_ | refine Qi ?_ _)); exact BK165.out)) : gb165 ≠ gb170)); have n7_ := Aside0.mk ((by rw [hg]; exact Nat.ne_of_gt (Qt (g := gb165) (o := .cells #[.int .i64 0, .int .i64 0, .slice none 0 0, .slice none 0 0] 57 (0, 0)) (by (with_reducible repeat (first | refine Qh ?_ _ | refine Qj ?_ | refine Qi ?_ _)); exact BK165.out)) : gb170 ≠ gb165)); clear HO169; clear BK165; clear HB; have HO169 := n0_; have BK165 := n1_; have HB := n2_; have BK170 := n3_; have GW170 := n4_; have GE170 := n5_; have NB165_170 := n6_; have NB170_165 := n7_; clear n0_ n1_ n2_ n3_ n4_ n5_ n6_ n7_; clear hb hbox hg; have hnb12 := NB170_165.out; have hnc12 := NB165_170.out; have hcz13_0 : w11.cell? ⟨gb170, 0, none⟩ = some (.int .i64 0) := (Qa BK170.out 0).trans rfl; have hcz13_1 : w11.cell? ⟨gb170, 1, none⟩ = some (.int .i64 0) := (Qa BK170.out 1).trans rfl; have hcz13_2 : w11.cell? ⟨gb170, 2, none⟩ = some (.slice none 0 0) := (Qa BK170.out 2).trans rfl; have hcz13_3 : w11.cell? ⟨gb170, 3, none⟩ = some (.slice none 0 0) := (Qa BK170.out 3).trans rfl; have hfz13_0 := Qc BK170.out 0; have hfz13_1 := Qc BK170.out 1; have hfz13_2 := Qc BK170.out 2; have hfz13_3 := Qc BK170.out 3))
  have n0_ : Aside0 (Kd.S k100 100 ((((w11.setCell ⟨gb170, 0, none⟩ (.int .i64 a0)).setCell ⟨gb170, 1, none⟩ (.int .i64 a1)).setCell ⟨gb170, 2, none⟩ (.slice Ao10 t167.length co10)).setCell ⟨gb170, 3, none⟩ (.slice none 0 0)) w.heap.size (fun _ => True) (.slice Ao10 t167.length co10) t167) := ⟨by (with_reducible repeat (first | apply Kd.S_alloc | apply Kd.S_drewN | apply Kd.S_drew)); exact Kd.S_mono (Kd.S_far (p := ⟨gb170, 3, none⟩) (Kd.S_far (p := ⟨gb170, 2, none⟩) (Kd.S_far (p := ⟨gb170, 1, none⟩) (Kd.S_far (p := ⟨gb170, 0, none⟩) (Kd.S_types HO169.out BK170.out (by decide)) (fun _ hk => hk.2) (.int .i64 a0)) (fun _ hk => hk.2) (.int .i64 a1)) (fun _ hk => hk.2) (.slice Ao10 t167.length co10)) (fun _ hk => hk.2) (.slice none 0 0)) (fun _ hk => trivial)⟩
  have n1_ : Aside0 (((((w11.setCell ⟨gb170, 0, none⟩ (.int .i64 a0)).setCell ⟨gb170, 1, none⟩ (.int .i64 a1)).setCell ⟨gb170, 2, none⟩ (.slice Ao10 t167.length co10)).setCell ⟨gb170, 3, none⟩ (.slice none 0 0)).heap[gb165]? = some (.cells #[.int .i64 0, .int .i64 0, .slice none 0 0, .slice none 0 0] 57 (0, 0))) := ⟨by (with_reducible repeat (first | refine Qh ?_ _ | refine Qj ?_ | refine Qi ?_ _)); refine blk_far ?_ NB165_170.out _; (with_reducible repeat (first | refine Qh ?_ _ | refine Qj ?_ | refine Qi ?_ _)); refine blk_far ?_ NB165_170.out _; (with_reducible repeat (first | refine Qh ?_ _ | refine Qj ?_ | refine Qi ?_ _)); refine blk_far ?_ NB165_170.out _; (with_reducible repeat (first | refine Qh ?_ _ | refine Qj ?_ | refine Qi ?_ _)); refine blk_far ?_ NB165_170.out _; (with_reducible repeat (first | refine Qh ?_ _ | refine Qj ?_ | refine Qi ?_ _)); exact BK165.out⟩
  have n2_ : Aside0 (((((w11.setCell ⟨gb170, 0, none⟩ (.int .i64 a0)).setCell ⟨gb170, 1, none⟩ (.int .i64 a1)).setCell ⟨gb170, 2, none⟩ (.slice Ao10 t167.length co10)).setCell ⟨gb170, 3, none⟩ (.slice none 0 0)).heap[gb170]? = some (.cells #[.int .i64 a0, .int .i64 a1, .slice Ao10 t167.length co10, .slice none 0 0] 57 (0, 0))) := ⟨by (with_reducible repeat (first | refine Qh ?_ _ | refine Qj ?_ | refine Qi ?_ _)); refine Qz (cs := #[.int .i64 a0, .int .i64 a1, .slice Ao10 t167.length co10, .slice none 0 0]) ?_ 3 _ rfl; (with_reducible repeat (first | refine Qh ?_ _ | refine Qj ?_ | refine Qi ?_ _)); refine Qz (cs := #[.int .i64 a0, .int .i64 a1, .slice none 0 0, .slice none 0 0]) ?_ 2 _ rfl; (with_reducible repeat (first | refine Qh ?_ _ | refine Qj ?_ | refine Qi ?_ _)); refine Qz (cs := #[.int .i64 a0, .int .i64 0, .slice none 0 0, .slice none 0 0]) ?_ 1 _ rfl; (with_reducible repeat (first | refine Qh ?_ _ | refine Qj ?_ | refine Qi ?_ _)); refine Qz (cs := #[.int .i64 0, .int .i64 0, .slice none 0 0, .slice none 0 0]) ?_ 0 _ rfl; (with_reducible repeat (first | refine Qh ?_ _ | refine Qj ?_ | refine Qi ?_ _)); exact BK170.out⟩
  have n3_ : Aside0 (Below w.heap.size w ((((w11.setCell ⟨gb170, 0, none⟩ (.int .i64 a0)).setCell ⟨gb170, 1, none⟩ (.int .i64 a1)).setCell ⟨gb170, 2, none⟩ (.slice Ao10 t167.length co10)).setCell ⟨gb170, 3, none⟩ (.slice none 0 0))) := ⟨by repeat (first | (with_reducible first | exact HB.out | apply Qe | apply Qb | apply Qf | refine Qg ?_ GE165.out | refine Qg ?_ GE170.out) | exact HB.out)⟩
  (try clear HO169)
  (try clear BK165)
  (try clear BK170)
  (try clear HB)
  generalize ((((w11.setCell ⟨gb170, 0, none⟩ (.int .i64 a0)).setCell ⟨gb170, 1, none⟩ (.int .i64 a1)).setCell ⟨gb170, 2, none⟩ (.slice Ao10 t167.length co10)).setCell ⟨gb170, 3, none⟩ (.slice none 0 0)) = w14 at n0_ n1_ n2_ n3_ ⊢
  have HO169 := n0_
  have BK165 := n1_
  have BK170 := n2_
  have HB := n3_
  clear n0_ n1_ n2_ n3_
  have n0_ := Aside0.mk (Kd.S_drew HO169.out)
  have n1_ := Aside0.mk (Qj BK165.out)
  have n2_ := Aside0.mk (Qj BK170.out)
  have n3_ := Aside0.mk (Qf HB.out)
  clear HO169
  clear BK165
  clear BK170
  clear HB
  have HO169 := n0_
  have BK165 := n1_
  have BK170 := n2_
  have HB := n3_
  clear n0_ n1_ n2_ n3_
  refine start_ (n := 5) (S := fun w' => w'.cell? ⟨gb170, 0, none⟩ = some (.int .i64 a0) ∧ w'.cell? ⟨gb170, 1, none⟩ = some (.int .i64 a1) ∧ w'.cell? ⟨gb170, 2, none⟩ = some (.slice Ao10 t167.length co10) ∧ w'.cell? ⟨gb170, 3, none⟩ = some (.slice none 0 0)) (ds := []) #[false, false, false, false, false] (by kernel_rfl) rfl rfl ⟨(Qa BK170.out 0).trans rfl, (Qa BK170.out 1).trans rfl, (Qa BK170.out 2).trans rfl, (Qa BK170.out 3).trans rfl⟩ (fun hHeld => ?_)
  generalize w14.drew = w15 at HO169 BK165 BK170 HB hHeld ⊢
  refine take_ (i := 0) (N := some 19) (v := ?_) (a' := ?_) #[true, false, false, false, false] rfl rfl (by kernel_rfl) (fun _ _ _ h => h) (Or.inl ⟨by rfl, ?_⟩) hHeld ?_ ?_
  rotate_left
  ·rintro w' ⟨s0, s1, s2, s3⟩
   go_simp
   with_reducible rfl
  rotate_left
  ·simp only [Act.put, List.setIfInBounds_toArray, List.set_cons_zero, List.set_cons_succ, Qu, Qv]
   rfl
  refine take_ (i := 1) (N := some 20) (v := ?_) (a' := ?_) #[true, true, false, false, false] rfl rfl (by kernel_rfl) (fun _ _ _ h => h) (Or.inl ⟨by rfl, ?_⟩) hHeld ?_ ?_
  rotate_left
  ·rintro w' ⟨s0, s1, s2, s3⟩
   go_simp
   with_reducible rfl
  rotate_left
  ·simp only [Act.put, List.setIfInBounds_toArray, List.set_cons_zero, List.set_cons_succ, Qu, Qv]
   rfl
  refine one_ (i := 2) (N := some 21) #[true, true, true, false, false] rfl rfl (by kernel_rfl) (by decide) (fun K hK => ?_)
  refine goes_ Try.func46 (by kernel_rfl) rfl #[.agg #[.int .i64 a0, .int .i64 a1, .slice Ao10 t167.length co10, .slice none 0 0]] (by rfl) rfl rfl (by (try simp only [List.map_toArray, List.map_cons, List.map_nil]); first | done | rfl | (simp only [List.length_drop, List.length_take]; rfl)) ?_
  refine (impl_TellerRight.calls a0 a1 _ _ t167 _ _ ([] : List (S73)) t171 _ ?side1 ?side2 ?side3 ?side4 A7.out).mono ?_
  (case side1 => repeat (first | exact (Kd.S_reads' HO169.out).2.2 | (with_reducible refine Kd.C_alloc ?_ _) | (with_reducible refine Kd.C_drewN ?_ _) | (with_reducible refine Kd.C_drew ?_)))
  (case side2 => exact (Kd.S_reads' HO169.out).2.1)
  (case side3 => exact Kd.C_nil _ _)
  (case side4 => exact Nat.le_refl _)
  rintro e w16 ⟨rfl, hb⟩
  refine ⟨_, rfl, ?_⟩
  have n0_ := Aside0.mk (Kd.S_below (by (with_reducible repeat (first | apply Kd.S_alloc | apply Kd.S_drewN | apply Kd.S_drew)); exact HO169.out) hb)
  have n1_ := Aside0.mk (Qo (g := gb165) (o := .cells #[.int .i64 0, .int .i64 0, .slice none 0 0, .slice none 0 0] 57 (0, 0)) (by (with_reducible repeat (first | refine Qh ?_ _ | refine Qj ?_ | refine Qi ?_ _)); exact BK165.out) hb)
  have n2_ := Aside0.mk (Qo (g := gb170) (o := .cells #[.int .i64 a0, .int .i64 a1, .slice Ao10 t167.length co10, .slice none 0 0] 57 (0, 0)) (by (with_reducible repeat (first | refine Qh ?_ _ | refine Qj ?_ | refine Qi ?_ _)); exact BK170.out) hb)
  have n3_ := Aside0.mk (Ql (by repeat (first | (with_reducible first | exact HB.out | apply Qe | apply Qb | apply Qf | refine Qg ?_ GE165.out | refine Qg ?_ GE170.out) | exact HB.out)) hb)
  clear HO169
  clear BK165
  clear BK170
  clear HB
  have HO169 := n0_
  have BK165 := n1_
  have BK170 := n2_
  have HB := n3_
  clear n0_ n1_ n2_ n3_
  (try clear hb)
  (try clear hb2)
  (try clear hk)
  (try clear hi)
  refine hK.out _ _ ⟨(Qa BK170.out 0).trans rfl, (Qa BK170.out 1).trans rfl, (Qa BK170.out 2).trans rfl, (Qa BK170.out 3).trans rfl⟩ (fun hHeld => ?_)
  clear hK K
  refine norm_ (a' := ?_) ?_ ?_
  rotate_left
  ·show Act.put _ (some 21) _ = _
   simp only [Act.put, List.setIfInBounds_toArray, List.set_cons_zero, List.set_cons_succ, Qu, Qv]
   rfl
  refine one_ (i := 3) (N := none) #[true, true, true, true, false] rfl rfl (by kernel_rfl) (by decide) (fun K hK => ?_)
  have hs17 : w16.cell? ⟨gb165, 0, none⟩ = some (.int .i64 0) := (Qa BK165.out 0).trans rfl
  have hfs17 := Qc BK165.out 0
  have hns17_1 := NB170_165.out
  have hms17_1 := NB165_170.out
  have hs18 : w16.cell? ⟨gb165, 1, none⟩ = some (.int .i64 0) := (Qa BK165.out 1).trans rfl
  have hfs18 := Qc BK165.out 1
  have hns18_1 := NB170_165.out
  have hms18_1 := NB165_170.out
  have hs19 : w16.cell? ⟨gb165, 2, none⟩ = some (.slice none 0 0) := (Qa BK165.out 2).trans rfl
  have hfs19 := Qc BK165.out 2
  have hns19_1 := NB170_165.out
  have hms19_1 := NB165_170.out
  have hs20 : w16.cell? ⟨gb165, 3, none⟩ = some (.slice none 0 0) := (Qa BK165.out 3).trans rfl
  have hfs20 := Qc BK165.out 3
  have hns20_1 := NB170_165.out
  have hms20_1 := NB165_170.out
  refine skip_ (w1 := ?_) (by rfl) rfl ?_ ?_
  rotate_left
  ·go_simp
   rfl
  refine hK.out _ _ ⟨((cell_far (p := ⟨gb165, _, none⟩) NB170_165.out _).trans (((cell_far (p := ⟨gb165, _, none⟩) NB170_165.out _).trans (((cell_far (p := ⟨gb165, _, none⟩) NB170_165.out _).trans (((cell_far (p := ⟨gb165, _, none⟩) NB170_165.out _).trans (hHeld.1)))))))), ((cell_far (p := ⟨gb165, _, none⟩) NB170_165.out _).trans (((cell_far (p := ⟨gb165, _, none⟩) NB170_165.out _).trans (((cell_far (p := ⟨gb165, _, none⟩) NB170_165.out _).trans (((cell_far (p := ⟨gb165, _, none⟩) NB170_165.out _).trans (hHeld.2.1)))))))), ((cell_far (p := ⟨gb165, _, none⟩) NB170_165.out _).trans (((cell_far (p := ⟨gb165, _, none⟩) NB170_165.out _).trans (((cell_far (p := ⟨gb165, _, none⟩) NB170_165.out _).trans (((cell_far (p := ⟨gb165, _, none⟩) NB170_165.out _).trans (hHeld.2.2.1)))))))), ((cell_far (p := ⟨gb165, _, none⟩) NB170_165.out _).trans (((cell_far (p := ⟨gb165, _, none⟩) NB170_165.out _).trans (((cell_far (p := ⟨gb165, _, none⟩) NB170_165.out _).trans (((cell_far (p := ⟨gb165, _, none⟩) NB170_165.out _).trans (hHeld.2.2.2))))))))⟩ (fun hHeld => ?_)
  clear hK K
  refine Q1 (i := 4) (N := some 7) (v := ?_) (a' := ?_) #[true, true, true, true, true] rfl rfl (by kernel_rfl) (fun _ _ _ h => h) (Or.inl ⟨by rfl, ?_⟩) ?_ ?_
  rotate_left
  ·intro w'
   go_simp
   with_reducible rfl
  rotate_left
  ·simp only [Act.put, List.setIfInBounds_toArray, List.set_cons_zero, List.set_cons_succ, Qu, Qv]
   rfl
  refine done_ (by kernel_rfl) ?_
  try go_wp2
  refine bodyPost_ret (results_ct rfl _ _ gb165 57 #[.int .i64 a0, .int .i64 a1, .slice Ao10 t167.length co10, .slice none 0 0] (0, 0) _ rfl (by (with_reducible repeat (first | refine Qh ?_ _ | refine Qj ?_ | refine Qi ?_ _)); refine Qz (cs := #[.int .i64 a0, .int .i64 a1, .slice Ao10 t167.length co10, .slice none 0 0]) ?_ 3 _ rfl; (with_reducible repeat (first | refine Qh ?_ _ | refine Qj ?_ | refine Qi ?_ _)); refine Qz (cs := #[.int .i64 a0, .int .i64 a1, .slice none 0 0, .slice none 0 0]) ?_ 2 _ rfl; (with_reducible repeat (first | refine Qh ?_ _ | refine Qj ?_ | refine Qi ?_ _)); refine Qz (cs := #[.int .i64 a0, .int .i64 0, .slice none 0 0, .slice none 0 0]) ?_ 1 _ rfl; (with_reducible repeat (first | refine Qh ?_ _ | refine Qj ?_ | refine Qi ?_ _)); refine Qz (cs := #[.int .i64 0, .int .i64 0, .slice none 0 0, .slice none 0 0]) ?_ 0 _ rfl; (with_reducible repeat (first | refine Qh ?_ _ | refine Qj ?_ | refine Qi ?_ _)); exact BK165.out) Try.underlying57 rfl (by kernel_rfl)) rfl ?_
  exact ⟨_, _, by first | rfl | (simp [Qn, Qm] <;> rfl) | (simp [*, Qn, Qm] <;> rfl), by (with_reducible repeat (first | apply Kd.S_alloc | apply Kd.S_drewN | apply Kd.S_drew)); exact Kd.S_mono (Kd.S_far (p := ⟨gb165, 3, none⟩) (Kd.S_far (p := ⟨gb165, 2, none⟩) (Kd.S_far (p := ⟨gb165, 1, none⟩) (Kd.S_far (p := ⟨gb165, 0, none⟩) (Kd.S_types HO169.out BK165.out (by decide)) (fun _ hk => hk.2) (.int .i64 a0)) (fun _ hk => hk.2) (.int .i64 a1)) (fun _ hk => hk.2) (.slice Ao10 t167.length co10)) (fun _ hk => hk.2) (.slice none 0 0)) (fun _ hk => trivial), by first | exact Kd.R_nil _ _ _ _ _ | exact Kd.N_nil _ _ _ _ _ | exact Kd.V_nil _ _ _ _ _ | exact Kd.Q_nil _ _ _ _ _ | exact Kd.S_nil _ _ _ _ _, by repeat (first | (with_reducible first | exact HB.out | apply Qe | apply Qb | apply Qf | refine Qg ?_ GE165.out | refine Qg ?_ GE170.out) | exact HB.out)⟩
 ·replace c5 := Bool.eq_false_iff.mpr c5
  subst c5
  have H1 : (some (0, 0, ([] : List (S100)), ([] : List (S73)), false)) = some (r1, r2, r3, r4, r5) := by rw [if_neg (show ¬ (false = true) by decide)] at H; exact H
  clear H
  have H := H1
  clear H1
  simp only [Option.some.injEq, Prod.mk.injEq] at H
  obtain ⟨rfl, rfl, rfl, rfl, rfl⟩ := H
  go_enter Try.func97, Try.ntmps97
  go_wp2_with (first | ((with_reducible refine Qs (N := 6) rfl ?_); refine Qr ?hg (N := 6) ?hd (cs := #[.int .i64 0, .int .i64 0, .slice none 0 0, .slice none 0 0]) (t := 57) ?hr ?_; (case hd => rfl); (case hg => rfl); (case hr => first | (go_simp; done) | (go_simp; rfl)); intro gb165 hg w21 hbox hb; have n0_ := Aside0.mk (Ql (by repeat (first | (with_reducible first | exact HB.out | apply Qe | apply Qb | apply Qf) | exact HB.out)) hb); have n1_ := Aside0.mk (hbox); have n2_ := Aside0.mk ((by rw [hg]; exact (Qk (by repeat (first | (with_reducible first | exact HB.out | apply Qe | apply Qb | apply Qf) | exact HB.out))) : w.heap.size ≤ gb165)); have n3_ := Aside0.mk ((by rw [hg]; exact (Qk (by repeat (first | (with_reducible first | exact HB.out | apply Qe | apply Qb | apply Qf) | exact HB.out))) : w.heap.size ≤ gb165)); clear HB; have HB := n0_; have BK165 := n1_; have GW165 := n2_; have GE165 := n3_; clear n0_ n1_ n2_ n3_; clear hb hbox hg) | ((with_reducible refine Qq (f := 90) rfl ?_); refine Qy (some 10) rfl rfl Try.func90 (by kernel_rfl) rfl #[.int .i64 a2, .int .i64 1, .int .i64 4] rfl (by (try simp only [List.map_toArray, List.map_cons, List.map_nil]); first | done | rfl | (simp only [List.length_drop, List.length_take]; rfl)) ?_; (with_reducible refine (impl_in.calls a2 1 4 false _ A4.out).mono ?_); rintro e w' ⟨rfl, ⟨nd, rfl⟩⟩; refine ⟨_, rfl, ?_⟩; (try (rw [drewN_self w21]; generalize hq_ : World.drewN w21 _ = w21; have n0_ : Aside0 (w21.heap[gb165]? = some (.cells #[.int .i64 0, .int .i64 0, .slice none 0 0, .slice none 0 0] 57 (0, 0))) := ⟨by rw [← hq_]; exact (by (with_reducible repeat (first | refine Qh ?_ _ | refine Qj ?_ | refine Qi ?_ _)); exact BK165.out)⟩; have n1_ : Aside0 (Below w.heap.size w w21) := ⟨by rw [← hq_]; exact (by repeat (first | (with_reducible first | exact HB.out | apply Qe | apply Qb | apply Qf | refine Qg ?_ GE165.out) | exact HB.out))⟩; clear BK165 HB hq_; have BK165 := n0_; have HB := n1_; clear n0_ n1_)); have hcz22_0 : w21.cell? ⟨gb165, 0, none⟩ = some (.int .i64 0) := (Qa BK165.out 0).trans rfl; have hcz22_1 : w21.cell? ⟨gb165, 1, none⟩ = some (.int .i64 0) := (Qa BK165.out 1).trans rfl; have hcz22_2 : w21.cell? ⟨gb165, 2, none⟩ = some (.slice none 0 0) := (Qa BK165.out 2).trans rfl; have hcz22_3 : w21.cell? ⟨gb165, 3, none⟩ = some (.slice none 0 0) := (Qa BK165.out 3).trans rfl; have hfz22_0 := Qc BK165.out 0; have hfz22_1 := Qc BK165.out 1; have hfz22_2 := Qc BK165.out 2; have hfz22_3 := Qc BK165.out 3))
  refine bodyPost_ret (results_ct rfl _ _ gb165 57 #[.int .i64 0, .int .i64 0, .slice none 0 0, .slice none 0 0] (0, 0) _ rfl (by (with_reducible repeat (first | refine Qh ?_ _ | refine Qj ?_ | refine Qi ?_ _)); refine Qz (cs := #[.int .i64 0, .int .i64 0, .slice none 0 0, .slice none 0 0]) ?_ 3 _ rfl; (with_reducible repeat (first | refine Qh ?_ _ | refine Qj ?_ | refine Qi ?_ _)); refine Qz (cs := #[.int .i64 0, .int .i64 0, .slice none 0 0, .slice none 0 0]) ?_ 2 _ rfl; (with_reducible repeat (first | refine Qh ?_ _ | refine Qj ?_ | refine Qi ?_ _)); refine Qz (cs := #[.int .i64 0, .int .i64 0, .slice none 0 0, .slice none 0 0]) ?_ 1 _ rfl; (with_reducible repeat (first | refine Qh ?_ _ | refine Qj ?_ | refine Qi ?_ _)); refine Qz (cs := #[.int .i64 0, .int .i64 0, .slice none 0 0, .slice none 0 0]) ?_ 0 _ rfl; (with_reducible repeat (first | refine Qh ?_ _ | refine Qj ?_ | refine Qi ?_ _)); exact BK165.out) Try.underlying57 rfl (by kernel_rfl)) rfl ?_
  exact ⟨_, _, by first | rfl | (simp [Qn, Qm] <;> rfl) | (simp [*, Qn, Qm] <;> rfl), by first | exact Kd.S_nil _ _ _ _ _ | exact Kd.N_nil _ _ _ _ _ | exact Kd.V_nil _ _ _ _ _ | exact Kd.Q_nil _ _ _ _ _ | exact Kd.R_nil _ _ _ _ _, by first | exact Kd.R_nil _ _ _ _ _ | exact Kd.N_nil _ _ _ _ _ | exact Kd.V_nil _ _ _ _ _ | exact Kd.Q_nil _ _ _ _ _ | exact Kd.S_nil _ _ _ _ _, by repeat (first | (with_reducible first | exact HB.out | apply Qe | apply Qb | apply Qf | refine Qg ?_ GE165.out) | exact HB.out)⟩
def impl_TellerNew.f (k : Nat) (a0 : Int) (a1 : Int) (a2 : Int) : Option (Int × Int × (List (S100)) × (List (S73)) × Int) := (impl_tellerNew.f k a0 a1 a2).bind fun bt173 => (if bt173.2.2.2.2 = true then (some (bt173.1, bt173.2.1, bt173.2.2.1, bt173.2.2.2.1, 0)) else (some (0, 0, ([] : List (S100)), ([] : List (S73)), 1)))
theorem impl_TellerNew.mono : ∀ a0 a1 a2 k, LeO (impl_TellerNew.f k a0 a1 a2) (impl_TellerNew.f (k + 1) a0 a1 a2) := by
 intro a0 a1 a2 k
 unfold impl_TellerNew.f
 repeat' first
   | (with_reducible exact impl_tellerNew.mono _ _ _ _)
   | (with_reducible exact LeO.refl _)
   | (with_reducible exact LeO.none _)
   | (with_reducible refine LeO.ite ?_ ?_)
   | (with_reducible refine LeO.bind ?_ (fun _ => ?_))
   | exact impl_tellerNew.mono _ _ _ _
   | exact LeO.none _
   | refine LeO.ite ?_ ?_
   | refine LeO.bind ?_ (fun _ => ?_)
set_option maxHeartbeats 8000000 in
set_option maxRecDepth 100000 in
theorem impl_TellerNew.calls (k : Nat) (a0 : Int) (a1 : Int) (a2 : Int) (r1 : Int) (r2 : Int) (r3 : List (S100)) (r4 : List (S73)) (r5 : Int) (w : World) (h : impl_TellerNew.f k a0 a1 a2 = some (r1, r2, r3, r4, r5)) :
  Calls Try.prog 48 #[.int .i64 a0, .int .i64 a1, .int .i64 a2] w fun e w' => ∃ v2_ v3_ : Value, e = .returned (.agg #[.int .i64 r1, .int .i64 r2, v2_, v3_, .int .i64 r5]) ∧ Kd.S k100 100 w' w.heap.size (fun _ => True) v2_ r3 ∧ Kd.R k73 73 w' w.heap.size (fun _ => True) v3_ r4 ∧ Below w.heap.size w w' := by
 have hu65 := Try.underlying65
 have hu57 := Try.underlying57
 have HB := Aside0.mk (Below.refl w.heap.size w)
 have H : ((impl_tellerNew.f k a0 a1 a2).bind fun bt173 => (if bt173.2.2.2.2 = true then (some (bt173.1, bt173.2.1, bt173.2.2.1, bt173.2.2.2.1, 0)) else (some (0, 0, ([] : List (S100)), ([] : List (S73)), 1)))) = some (r1, r2, r3, r4, r5) := h
 clear h
 replace H := Option.bind_eq_some_iff.mp H
 obtain ⟨⟨t173, t174, t175, t178, t181⟩, A40, H⟩ := H
 replace H : (if t181 = true then (some (t173, t174, t175, t178, 0)) else (some (0, 0, ([] : List (S100)), ([] : List (S73)), 1))) = some (r1, r2, r3, r4, r5) := H
 have A4 := Aside0.mk A40
 clear A40
 by_cases c5 : t181 = true
 ·subst c5
  have H1 : (some (t173, t174, t175, t178, 0)) = some (r1, r2, r3, r4, r5) := by rw [if_pos rfl] at H; exact H
  clear H
  have H := H1
  clear H1
  simp only [Option.some.injEq, Prod.mk.injEq] at H
  obtain ⟨rfl, rfl, rfl, rfl, rfl⟩ := H
  go_enter Try.func48, Try.ntmps48
  go_wp2_with (first | ((with_reducible refine Qs (N := 6) rfl ?_); refine Qr ?hg (N := 6) ?hd (cs := #[.int .i64 0, .int .i64 0, .slice none 0 0, .slice none 0 0, .int .i64 0]) (t := 65) ?hr ?_; (case hd => rfl); (case hg => rfl); (case hr => first | (go_simp; done) | (go_simp; rfl)); intro gb172 hg w6 hbox hb; have n0_ := Aside0.mk (Ql (by repeat (first | (with_reducible first | exact HB.out | apply Qe | apply Qb | apply Qf) | exact HB.out)) hb); have n1_ := Aside0.mk (hbox); have n2_ := Aside0.mk ((by rw [hg]; exact (Qk (by repeat (first | (with_reducible first | exact HB.out | apply Qe | apply Qb | apply Qf) | exact HB.out))) : w.heap.size ≤ gb172)); have n3_ := Aside0.mk ((by rw [hg]; exact (Qk (by repeat (first | (with_reducible first | exact HB.out | apply Qe | apply Qb | apply Qf) | exact HB.out))) : w.heap.size ≤ gb172)); clear HB; have HB := n0_; have BK172 := n1_; have GW172 := n2_; have GE172 := n3_; clear n0_ n1_ n2_ n3_; clear hb hbox hg) | ((with_reducible refine Qq (f := 97) rfl ?_); refine Qy (some 13) rfl rfl Try.func97 (by kernel_rfl) rfl #[.int .i64 a0, .int .i64 a1, .int .i64 a2] rfl (by (try simp only [List.map_toArray, List.map_cons, List.map_nil]); first | done | rfl | (simp only [List.length_drop, List.length_take]; rfl)) ?_; (with_reducible refine (impl_tellerNew.calls k a0 a1 a2 t173 t174 t175 t178 true _ A4.out).mono ?_); rintro e w7 ⟨v176, v179, rfl, ho0, ho1, hb⟩; refine ⟨_, rfl, ?_⟩; have n0_ := Aside0.mk (Kd.S_lower ho0 (Qk (by repeat (first | (with_reducible first | exact HB.out | apply Qe | apply Qb | apply Qf | refine Qg ?_ GE172.out) | exact HB.out)))); have n1_ := Aside0.mk (Kd.R_lower ho1 (Qk (by repeat (first | (with_reducible first | exact HB.out | apply Qe | apply Qb | apply Qf | refine Qg ?_ GE172.out) | exact HB.out)))); have n2_ := Aside0.mk (Qo (g := gb172) (o := .cells #[.int .i64 0, .int .i64 0, .slice none 0 0, .slice none 0 0, .int .i64 0] 65 (0, 0)) (by (with_reducible repeat (first | refine Qh ?_ _ | refine Qj ?_ | refine Qi ?_ _)); exact BK172.out) hb); have n3_ := Aside0.mk (Ql (by repeat (first | (with_reducible first | exact HB.out | apply Qe | apply Qb | apply Qf | refine Qg ?_ GE172.out) | exact HB.out)) hb); clear BK172; clear HB; have HO177 := n0_; have HO180 := n1_; have BK172 := n2_; have HB := n3_; clear n0_ n1_ n2_ n3_; (try clear hb); (try clear hb2); (try clear hk); (try clear hi); (try clear ho0); (try clear ho1)) | ((with_reducible refine Qs (N := 7) rfl ?_); refine Qr ?hg (N := 7) ?hd (cs := #[.int .i64 0, .int .i64 0, .slice none 0 0, .slice none 0 0]) (t := 57) ?hr ?_; (case hd => rfl); (case hg => rfl); (case hr => first | (go_simp; done) | (go_simp; rfl)); intro gb182 hg w8 hbox hb; have n0_ := Aside0.mk (Kd.S_below (by (with_reducible repeat (first | apply Kd.S_alloc | apply Kd.S_drewN | apply Kd.S_drew)); exact HO177.out) hb); have n1_ := Aside0.mk (Kd.R_below (by (with_reducible repeat (first | apply Kd.R_alloc | apply Kd.R_drewN | apply Kd.R_drew)); exact HO180.out) hb); have n2_ := Aside0.mk (Qo (g := gb172) (o := .cells #[.int .i64 0, .int .i64 0, .slice none 0 0, .slice none 0 0, .int .i64 0] 65 (0, 0)) (by (with_reducible repeat (first | refine Qh ?_ _ | refine Qj ?_ | refine Qi ?_ _)); exact BK172.out) hb); have n3_ := Aside0.mk (Ql (by repeat (first | (with_reducible first | exact HB.out | apply Qe | apply Qb | apply Qf | refine Qg ?_ GE172.out) | exact HB.out)) hb); have n4_ := Aside0.mk (hbox); have n5_ := Aside0.mk ((by rw [hg]; exact (Qk (by repeat (first | (with_reducible first | exact HB.out | apply Qe | apply Qb | apply Qf | refine Qg ?_ GE172.out) | exact HB.out))) : w.heap.size ≤ gb182)); have n6_ := Aside0.mk ((by rw [hg]; exact (Qk (by repeat (first | (with_reducible first | exact HB.out | apply Qe | apply Qb | apply Qf | refine Qg ?_ GE172.out) | exact HB.out))) : w.heap.size ≤ gb182)); have n7_ := Aside0.mk ((by rw [hg]; exact Nat.ne_of_lt (Qt (g := gb172) (o := .cells #[.int .i64 0, .int .i64 0, .slice none 0 0, .slice none 0 0, .int .i64 0] 65 (0, 0)) (by (with_reducible repeat (first | refine Qh ?_ _ | refine Qj ?_ | refine Qi ?_ _)); exact BK172.out)) : gb172 ≠ gb182)); have n8_ := Aside0.mk ((by rw [hg]; exact Nat.ne_of_gt (Qt (g := gb172) (o := .cells #[.int .i64 0, .int .i64 0, .slice none 0 0, .slice none 0 0, .int .i64 0] 65 (0, 0)) (by (with_reducible repeat (first | refine Qh ?_ _ | refine Qj ?_ | refine Qi ?_ _)); exact BK172.out)) : gb182 ≠ gb172)); clear HO177; clear HO180; clear BK172; clear HB; have HO177 := n0_; have HO180 := n1_; have BK172 := n2_; have HB := n3_; have BK182 := n4_; have GW182 := n5_; have GE182 := n6_; have NB172_182 := n7_; have NB182_172 := n8_; clear n0_ n1_ n2_ n3_ n4_ n5_ n6_ n7_ n8_; clear hb hbox hg; have hnb9 := NB182_172.out; have hnc9 := NB172_182.out; have hcz10_0 : w8.cell? ⟨gb182, 0, none⟩ = some (.int .i64 0) := (Qa BK182.out 0).trans rfl; have hcz10_1 : w8.cell? ⟨gb182, 1, none⟩ = some (.int .i64 0) := (Qa BK182.out 1).trans rfl; have hcz10_2 : w8.cell? ⟨gb182, 2, none⟩ = some (.slice none 0 0) := (Qa BK182.out 2).trans rfl; have hcz10_3 : w8.cell? ⟨gb182, 3, none⟩ = some (.slice none 0 0) := (Qa BK182.out 3).trans rfl; have hfz10_0 := Qc BK182.out 0; have hfz10_1 := Qc BK182.out 1; have hfz10_2 := Qc BK182.out 2; have hfz10_3 := Qc BK182.out 3; obtain ⟨Ao11, co11, eo11⟩ := Kd.S_slice HO177.out; subst eo11; obtain ⟨Ao12, co12, eo12⟩ := Kd.R_slice HO180.out; subst eo12; have hcz13_0 : w8.cell? ⟨gb172, 0, none⟩ = some (.int .i64 0) := (Qa BK172.out 0).trans rfl; have hcz13_1 : w8.cell? ⟨gb172, 1, none⟩ = some (.int .i64 0) := (Qa BK172.out 1).trans rfl; have hcz13_2 : w8.cell? ⟨gb172, 2, none⟩ = some (.slice none 0 0) := (Qa BK172.out 2).trans rfl; have hcz13_3 : w8.cell? ⟨gb172, 3, none⟩ = some (.slice none 0 0) := (Qa BK172.out 3).trans rfl; have hcz13_4 : w8.cell? ⟨gb172, 4, none⟩ = some (.int .i64 0) := (Qa BK172.out 4).trans rfl; have hfz13_0 := Qc BK172.out 0; have hfz13_1 := Qc BK172.out 1; have hfz13_2 := Qc BK172.out 2; have hfz13_3 := Qc BK172.out 3; have hfz13_4 := Qc BK172.out 4))
  refine bodyPost_ret (results_cell_row rfl _ _ gb172 65 #[.int .i64 t173, .int .i64 t174, .slice Ao11 t175.length co11, .slice Ao12 t178.length co12, .int .i64 0] (0, 0) _ rfl (by (with_reducible repeat (first | refine Qh ?_ _ | refine Qj ?_ | refine Qi ?_ _)); refine Qz (cs := #[.int .i64 t173, .int .i64 t174, .slice Ao11 t175.length co11, .slice Ao12 t178.length co12, .int .i64 0]) ?_ 4 _ rfl; (with_reducible repeat (first | refine Qh ?_ _ | refine Qj ?_ | refine Qi ?_ _)); refine Qz (cs := #[.int .i64 t173, .int .i64 t174, .slice Ao11 t175.length co11, .slice none 0 0, .int .i64 0]) ?_ 3 _ rfl; (with_reducible repeat (first | refine Qh ?_ _ | refine Qj ?_ | refine Qi ?_ _)); refine Qz (cs := #[.int .i64 t173, .int .i64 t174, .slice none 0 0, .slice none 0 0, .int .i64 0]) ?_ 2 _ rfl; (with_reducible repeat (first | refine Qh ?_ _ | refine Qj ?_ | refine Qi ?_ _)); refine Qz (cs := #[.int .i64 t173, .int .i64 0, .slice none 0 0, .slice none 0 0, .int .i64 0]) ?_ 1 _ rfl; (with_reducible repeat (first | refine Qh ?_ _ | refine Qj ?_ | refine Qi ?_ _)); refine Qz (cs := #[.int .i64 0, .int .i64 0, .slice none 0 0, .slice none 0 0, .int .i64 0]) ?_ 0 _ rfl; (with_reducible repeat (first | refine Qh ?_ _ | refine Qj ?_ | refine Qi ?_ _)); refine blk_far ?_ NB172_182.out _; (with_reducible repeat (first | refine Qh ?_ _ | refine Qj ?_ | refine Qi ?_ _)); refine blk_far ?_ NB172_182.out _; (with_reducible repeat (first | refine Qh ?_ _ | refine Qj ?_ | refine Qi ?_ _)); refine blk_far ?_ NB172_182.out _; (with_reducible repeat (first | refine Qh ?_ _ | refine Qj ?_ | refine Qi ?_ _)); refine blk_far ?_ NB172_182.out _; (with_reducible repeat (first | refine Qh ?_ _ | refine Qj ?_ | refine Qi ?_ _)); exact BK172.out) Try.underlying65 rfl (by kernel_rfl)) rfl ?_
  exact ⟨_, _, by first | rfl | (simp [Qn, Qm] <;> rfl) | (simp [*, Qn, Qm] <;> rfl), by (with_reducible repeat (first | apply Kd.S_alloc | apply Kd.S_drewN | apply Kd.S_drew)); exact Kd.S_mono (Kd.S_far (p := ⟨gb172, 4, none⟩) (Kd.S_far (p := ⟨gb172, 3, none⟩) (Kd.S_far (p := ⟨gb172, 2, none⟩) (Kd.S_far (p := ⟨gb172, 1, none⟩) (Kd.S_far (p := ⟨gb172, 0, none⟩) (Kd.S_far (p := ⟨gb182, 3, none⟩) (Kd.S_far (p := ⟨gb182, 2, none⟩) (Kd.S_far (p := ⟨gb182, 1, none⟩) (Kd.S_far (p := ⟨gb182, 0, none⟩) (Kd.S_types (Kd.S_types HO177.out BK182.out (by decide)) BK172.out (by decide)) (fun _ hk => hk.1.2) (.int .i64 t173)) (fun _ hk => hk.1.2) (.int .i64 t174)) (fun _ hk => hk.1.2) (.slice Ao11 t175.length co11)) (fun _ hk => hk.1.2) (.slice Ao12 t178.length co12)) (fun _ hk => hk.2) (.int .i64 t173)) (fun _ hk => hk.2) (.int .i64 t174)) (fun _ hk => hk.2) (.slice Ao11 t175.length co11)) (fun _ hk => hk.2) (.slice Ao12 t178.length co12)) (fun _ hk => hk.2) (.int .i64 0)) (fun _ hk => trivial), by (with_reducible repeat (first | apply Kd.R_alloc | apply Kd.R_drewN | apply Kd.R_drew)); exact Kd.R_mono (Kd.R_far (p := ⟨gb172, 4, none⟩) (Kd.R_far (p := ⟨gb172, 3, none⟩) (Kd.R_far (p := ⟨gb172, 2, none⟩) (Kd.R_far (p := ⟨gb172, 1, none⟩) (Kd.R_far (p := ⟨gb172, 0, none⟩) (Kd.R_far (p := ⟨gb182, 3, none⟩) (Kd.R_far (p := ⟨gb182, 2, none⟩) (Kd.R_far (p := ⟨gb182, 1, none⟩) (Kd.R_far (p := ⟨gb182, 0, none⟩) (Kd.R_types (Kd.R_types HO180.out BK182.out (by decide)) BK172.out (by decide)) (fun _ hk => hk.1.2) (.int .i64 t173)) (fun _ hk => hk.1.2) (.int .i64 t174)) (fun _ hk => hk.1.2) (.slice Ao11 t175.length co11)) (fun _ hk => hk.1.2) (.slice Ao12 t178.length co12)) (fun _ hk => hk.2) (.int .i64 t173)) (fun _ hk => hk.2) (.int .i64 t174)) (fun _ hk => hk.2) (.slice Ao11 t175.length co11)) (fun _ hk => hk.2) (.slice Ao12 t178.length co12)) (fun _ hk => hk.2) (.int .i64 0)) (fun _ hk => trivial), by repeat (first | (with_reducible first | exact HB.out | apply Qe | apply Qb | apply Qf | refine Qg ?_ GE172.out | refine Qg ?_ GE182.out) | exact HB.out)⟩
 ·replace c5 := Bool.eq_false_iff.mpr c5
  subst c5
  have H1 : (some (0, 0, ([] : List (S100)), ([] : List (S73)), 1)) = some (r1, r2, r3, r4, r5) := by rw [if_neg (show ¬ (false = true) by decide)] at H; exact H
  clear H
  have H := H1
  clear H1
  simp only [Option.some.injEq, Prod.mk.injEq] at H
  obtain ⟨rfl, rfl, rfl, rfl, rfl⟩ := H
  go_enter Try.func48, Try.ntmps48
  go_wp2_with (first | ((with_reducible refine Qs (N := 6) rfl ?_); refine Qr ?hg (N := 6) ?hd (cs := #[.int .i64 0, .int .i64 0, .slice none 0 0, .slice none 0 0, .int .i64 0]) (t := 65) ?hr ?_; (case hd => rfl); (case hg => rfl); (case hr => first | (go_simp; done) | (go_simp; rfl)); intro gb172 hg w14 hbox hb; have n0_ := Aside0.mk (Ql (by repeat (first | (with_reducible first | exact HB.out | apply Qe | apply Qb | apply Qf) | exact HB.out)) hb); have n1_ := Aside0.mk (hbox); have n2_ := Aside0.mk ((by rw [hg]; exact (Qk (by repeat (first | (with_reducible first | exact HB.out | apply Qe | apply Qb | apply Qf) | exact HB.out))) : w.heap.size ≤ gb172)); have n3_ := Aside0.mk ((by rw [hg]; exact (Qk (by repeat (first | (with_reducible first | exact HB.out | apply Qe | apply Qb | apply Qf) | exact HB.out))) : w.heap.size ≤ gb172)); clear HB; have HB := n0_; have BK172 := n1_; have GW172 := n2_; have GE172 := n3_; clear n0_ n1_ n2_ n3_; clear hb hbox hg) | ((with_reducible refine Qq (f := 97) rfl ?_); refine Qy (some 13) rfl rfl Try.func97 (by kernel_rfl) rfl #[.int .i64 a0, .int .i64 a1, .int .i64 a2] rfl (by (try simp only [List.map_toArray, List.map_cons, List.map_nil]); first | done | rfl | (simp only [List.length_drop, List.length_take]; rfl)) ?_; (with_reducible refine (impl_tellerNew.calls k a0 a1 a2 t173 t174 t175 t178 false _ A4.out).mono ?_); rintro e w15 ⟨v176, v179, rfl, ho0, ho1, hb⟩; refine ⟨_, rfl, ?_⟩; have n0_ := Aside0.mk (Kd.S_lower ho0 (Qk (by repeat (first | (with_reducible first | exact HB.out | apply Qe | apply Qb | apply Qf | refine Qg ?_ GE172.out) | exact HB.out)))); have n1_ := Aside0.mk (Kd.R_lower ho1 (Qk (by repeat (first | (with_reducible first | exact HB.out | apply Qe | apply Qb | apply Qf | refine Qg ?_ GE172.out) | exact HB.out)))); have n2_ := Aside0.mk (Qo (g := gb172) (o := .cells #[.int .i64 0, .int .i64 0, .slice none 0 0, .slice none 0 0, .int .i64 0] 65 (0, 0)) (by (with_reducible repeat (first | refine Qh ?_ _ | refine Qj ?_ | refine Qi ?_ _)); exact BK172.out) hb); have n3_ := Aside0.mk (Ql (by repeat (first | (with_reducible first | exact HB.out | apply Qe | apply Qb | apply Qf | refine Qg ?_ GE172.out) | exact HB.out)) hb); clear BK172; clear HB; have HO177 := n0_; have HO180 := n1_; have BK172 := n2_; have HB := n3_; clear n0_ n1_ n2_ n3_; (try clear hb); (try clear hb2); (try clear hk); (try clear hi); (try clear ho0); (try clear ho1)) | ((with_reducible refine Qs (N := 7) rfl ?_); refine Qr ?hg (N := 7) ?hd (cs := #[.int .i64 0, .int .i64 0, .slice none 0 0, .slice none 0 0]) (t := 57) ?hr ?_; (case hd => rfl); (case hg => rfl); (case hr => first | (go_simp; done) | (go_simp; rfl)); intro gb182 hg w16 hbox hb; have n0_ := Aside0.mk (Kd.S_below (by (with_reducible repeat (first | apply Kd.S_alloc | apply Kd.S_drewN | apply Kd.S_drew)); exact HO177.out) hb); have n1_ := Aside0.mk (Kd.R_below (by (with_reducible repeat (first | apply Kd.R_alloc | apply Kd.R_drewN | apply Kd.R_drew)); exact HO180.out) hb); have n2_ := Aside0.mk (Qo (g := gb172) (o := .cells #[.int .i64 0, .int .i64 0, .slice none 0 0, .slice none 0 0, .int .i64 0] 65 (0, 0)) (by (with_reducible repeat (first | refine Qh ?_ _ | refine Qj ?_ | refine Qi ?_ _)); exact BK172.out) hb); have n3_ := Aside0.mk (Ql (by repeat (first | (with_reducible first | exact HB.out | apply Qe | apply Qb | apply Qf | refine Qg ?_ GE172.out) | exact HB.out)) hb); have n4_ := Aside0.mk (hbox); have n5_ := Aside0.mk ((by rw [hg]; exact (Qk (by repeat (first | (with_reducible first | exact HB.out | apply Qe | apply Qb | apply Qf | refine Qg ?_ GE172.out) | exact HB.out))) : w.heap.size ≤ gb182)); have n6_ := Aside0.mk ((by rw [hg]; exact (Qk (by repeat (first | (with_reducible first | exact HB.out | apply Qe | apply Qb | apply Qf | refine Qg ?_ GE172.out) | exact HB.out))) : w.heap.size ≤ gb182)); have n7_ := Aside0.mk ((by rw [hg]; exact Nat.ne_of_lt (Qt (g := gb172) (o := .cells #[.int .i64 0, .int .i64 0, .slice none 0 0, .slice none 0 0, .int .i64 0] 65 (0, 0)) (by (with_reducible repeat (first | refine Qh ?_ _ | refine Qj ?_ | refine Qi ?_ _)); exact BK172.out)) : gb172 ≠ gb182)); have n8_ := Aside0.mk ((by rw [hg]; exact Nat.ne_of_gt (Qt (g := gb172) (o := .cells #[.int .i64 0, .int .i64 0, .slice none 0 0, .slice none 0 0, .int .i64 0] 65 (0, 0)) (by (with_reducible repeat (first | refine Qh ?_ _ | refine Qj ?_ | refine Qi ?_ _)); exact BK172.out)) : gb182 ≠ gb172)); clear HO177; clear HO180; clear BK172; clear HB; have HO177 := n0_; have HO180 := n1_; have BK172 := n2_; have HB := n3_; have BK182 := n4_; have GW182 := n5_; have GE182 := n6_; have NB172_182 := n7_; have NB182_172 := n8_; clear n0_ n1_ n2_ n3_ n4_ n5_ n6_ n7_ n8_; clear hb hbox hg; have hnb17 := NB182_172.out; have hnc17 := NB172_182.out; have hcz18_0 : w16.cell? ⟨gb182, 0, none⟩ = some (.int .i64 0) := (Qa BK182.out 0).trans rfl; have hcz18_1 : w16.cell? ⟨gb182, 1, none⟩ = some (.int .i64 0) := (Qa BK182.out 1).trans rfl; have hcz18_2 : w16.cell? ⟨gb182, 2, none⟩ = some (.slice none 0 0) := (Qa BK182.out 2).trans rfl; have hcz18_3 : w16.cell? ⟨gb182, 3, none⟩ = some (.slice none 0 0) := (Qa BK182.out 3).trans rfl; have hfz18_0 := Qc BK182.out 0; have hfz18_1 := Qc BK182.out 1; have hfz18_2 := Qc BK182.out 2; have hfz18_3 := Qc BK182.out 3; obtain ⟨Ao19, co19, eo19⟩ := Kd.S_slice HO177.out; subst eo19; obtain ⟨Ao20, co20, eo20⟩ := Kd.R_slice HO180.out; subst eo20; have hcz21_0 : w16.cell? ⟨gb172, 0, none⟩ = some (.int .i64 0) := (Qa BK172.out 0).trans rfl; have hcz21_1 : w16.cell? ⟨gb172, 1, none⟩ = some (.int .i64 0) := (Qa BK172.out 1).trans rfl; have hcz21_2 : w16.cell? ⟨gb172, 2, none⟩ = some (.slice none 0 0) := (Qa BK172.out 2).trans rfl; have hcz21_3 : w16.cell? ⟨gb172, 3, none⟩ = some (.slice none 0 0) := (Qa BK172.out 3).trans rfl; have hcz21_4 : w16.cell? ⟨gb172, 4, none⟩ = some (.int .i64 0) := (Qa BK172.out 4).trans rfl; have hfz21_0 := Qc BK172.out 0; have hfz21_1 := Qc BK172.out 1; have hfz21_2 := Qc BK172.out 2; have hfz21_3 := Qc BK172.out 3; have hfz21_4 := Qc BK172.out 4))
  refine bodyPost_ret (results_cell_row rfl _ _ gb172 65 #[.int .i64 0, .int .i64 0, .slice none 0 0, .slice none 0 0, .int .i64 1] (0, 0) _ rfl (by (with_reducible repeat (first | refine Qh ?_ _ | refine Qj ?_ | refine Qi ?_ _)); refine Qz (cs := #[.int .i64 0, .int .i64 0, .slice none 0 0, .slice none 0 0, .int .i64 0]) ?_ 4 _ rfl; (with_reducible repeat (first | refine Qh ?_ _ | refine Qj ?_ | refine Qi ?_ _)); refine Qz (cs := #[.int .i64 0, .int .i64 0, .slice none 0 0, .slice none 0 0, .int .i64 0]) ?_ 3 _ rfl; (with_reducible repeat (first | refine Qh ?_ _ | refine Qj ?_ | refine Qi ?_ _)); refine Qz (cs := #[.int .i64 0, .int .i64 0, .slice none 0 0, .slice none 0 0, .int .i64 0]) ?_ 2 _ rfl; (with_reducible repeat (first | refine Qh ?_ _ | refine Qj ?_ | refine Qi ?_ _)); refine Qz (cs := #[.int .i64 0, .int .i64 0, .slice none 0 0, .slice none 0 0, .int .i64 0]) ?_ 1 _ rfl; (with_reducible repeat (first | refine Qh ?_ _ | refine Qj ?_ | refine Qi ?_ _)); refine Qz (cs := #[.int .i64 0, .int .i64 0, .slice none 0 0, .slice none 0 0, .int .i64 0]) ?_ 0 _ rfl; (with_reducible repeat (first | refine Qh ?_ _ | refine Qj ?_ | refine Qi ?_ _)); refine blk_far ?_ NB172_182.out _; (with_reducible repeat (first | refine Qh ?_ _ | refine Qj ?_ | refine Qi ?_ _)); refine blk_far ?_ NB172_182.out _; (with_reducible repeat (first | refine Qh ?_ _ | refine Qj ?_ | refine Qi ?_ _)); refine blk_far ?_ NB172_182.out _; (with_reducible repeat (first | refine Qh ?_ _ | refine Qj ?_ | refine Qi ?_ _)); refine blk_far ?_ NB172_182.out _; (with_reducible repeat (first | refine Qh ?_ _ | refine Qj ?_ | refine Qi ?_ _)); exact BK172.out) Try.underlying65 rfl (by kernel_rfl)) rfl ?_
  exact ⟨_, _, by first | rfl | (simp [Qn, Qm] <;> rfl) | (simp [*, Qn, Qm] <;> rfl), by first | exact Kd.S_nil _ _ _ _ _ | exact Kd.N_nil _ _ _ _ _ | exact Kd.V_nil _ _ _ _ _ | exact Kd.Q_nil _ _ _ _ _ | exact Kd.R_nil _ _ _ _ _, by first | exact Kd.R_nil _ _ _ _ _ | exact Kd.N_nil _ _ _ _ _ | exact Kd.V_nil _ _ _ _ _ | exact Kd.Q_nil _ _ _ _ _ | exact Kd.S_nil _ _ _ _ _, by repeat (first | (with_reducible first | exact HB.out | apply Qe | apply Qb | apply Qf | refine Qg ?_ GE172.out | refine Qg ?_ GE182.out) | exact HB.out)⟩
def laws_eqRoute.f (a0_0 : Int) (a0_1 : Int) (a0_2 : Int) (a0_3 : Int) (a0_4 : Int) (a0_5 : Int) (a0_6 : Bool) (a1_0 : Int) (a1_1 : Int) (a1_2 : Int) (a1_3 : Int) (a1_4 : Int) (a1_5 : Int) (a1_6 : Bool) : Option (Bool) := if a0_0 = a1_0 then (if a0_1 = a1_1 then (if a0_2 = a1_2 then (if a0_3 = a1_3 then (if a0_4 = a1_4 then (if a0_5 = a1_5 then (if (a0_6 != a1_6) = true then (some false) else (some true)) else (some false)) else (some false)) else (some false)) else (some false)) else (some false)) else (some false)
set_option maxHeartbeats 8000000 in
set_option maxRecDepth 100000 in
theorem laws_eqRoute.calls (a0_0 : Int) (a0_1 : Int) (a0_2 : Int) (a0_3 : Int) (a0_4 : Int) (a0_5 : Int) (a0_6 : Bool) (a1_0 : Int) (a1_1 : Int) (a1_2 : Int) (a1_3 : Int) (a1_4 : Int) (a1_5 : Int) (a1_6 : Bool) (r : Bool) (w : World) (h : laws_eqRoute.f a0_0 a0_1 a0_2 a0_3 a0_4 a0_5 a0_6 a1_0 a1_1 a1_2 a1_3 a1_4 a1_5 a1_6 = some r) :
  Calls Try.prog 59 #[.agg #[.int .i64 a0_0, .int .i64 a0_1, .int .i64 a0_2, .int .i64 a0_3, .int .i64 a0_4, .int .i64 a0_5, .bool a0_6], .agg #[.int .i64 a1_0, .int .i64 a1_1, .int .i64 a1_2, .int .i64 a1_3, .int .i64 a1_4, .int .i64 a1_5, .bool a1_6]] w fun e w' => e = .returned (.bool r) ∧ Below w.heap.size w w' := by
 have hu42 := Try.underlying42
 have HB := Aside0.mk (Below.refl w.heap.size w)
 have H : (if a0_0 = a1_0 then (if a0_1 = a1_1 then (if a0_2 = a1_2 then (if a0_3 = a1_3 then (if a0_4 = a1_4 then (if a0_5 = a1_5 then (if (a0_6 != a1_6) = true then (some false) else (some true)) else (some false)) else (some false)) else (some false)) else (some false)) else (some false)) else (some false)) = some r := h
 clear h
 by_cases c3 : a0_0 = a1_0
 ·rw [if_pos c3] at H
  have c3b0 : (a0_0 == a1_0) = true := beq_iff_eq.mpr c3
  have c3b1 : (a0_0 != a1_0) = false := bne_eq_false_iff_eq.mpr c3
  clear c3
  by_cases c4 : a0_1 = a1_1
  ·rw [if_pos c4] at H
   have c4b0 : (a0_1 == a1_1) = true := beq_iff_eq.mpr c4
   have c4b1 : (a0_1 != a1_1) = false := bne_eq_false_iff_eq.mpr c4
   clear c4
   by_cases c5 : a0_2 = a1_2
   ·rw [if_pos c5] at H
    have c5b0 : (a0_2 == a1_2) = true := beq_iff_eq.mpr c5
    have c5b1 : (a0_2 != a1_2) = false := bne_eq_false_iff_eq.mpr c5
    clear c5
    by_cases c6 : a0_3 = a1_3
    ·rw [if_pos c6] at H
     have c6b0 : (a0_3 == a1_3) = true := beq_iff_eq.mpr c6
     have c6b1 : (a0_3 != a1_3) = false := bne_eq_false_iff_eq.mpr c6
     clear c6
     by_cases c7 : a0_4 = a1_4
     ·rw [if_pos c7] at H
      have c7b0 : (a0_4 == a1_4) = true := beq_iff_eq.mpr c7
      have c7b1 : (a0_4 != a1_4) = false := bne_eq_false_iff_eq.mpr c7
      clear c7
      by_cases c8 : a0_5 = a1_5
      ·rw [if_pos c8] at H
       have c8b0 : (a0_5 == a1_5) = true := beq_iff_eq.mpr c8
       have c8b1 : (a0_5 != a1_5) = false := bne_eq_false_iff_eq.mpr c8
       clear c8
       by_cases c9 : (a0_6 != a1_6) = true
       ·rw [if_pos c9] at H
        have c9b0 : (a0_6 != a1_6) = true := c9
        (try (have c9b1 : decide (a0_6 = a1_6) = false := by simpa using c9))
        (try (have c9b2 : (a0_6 == a1_6) = false := by simpa using c9))
        (try (have c9b3 : ¬ (a0_6 = a1_6) := by simpa using c9))
        clear c9
        obtain rfl := Option.some.inj H
        go_enter Try.func59, Try.ntmps59
        go_wp2_with (first | ((with_reducible refine Qs (N := 2) rfl ?_); refine Qr ?hg (N := 2) ?hd (cs := #[.int .i64 a0_0, .int .i64 a0_1, .int .i64 a0_2, .int .i64 a0_3, .int .i64 a0_4, .int .i64 a0_5, .bool a0_6]) (t := 42) ?hr ?_; (case hd => rfl); (case hg => rfl); (case hr => first | (go_simp; done) | (go_simp; rfl)); intro gb183 hg w10 hbox hb; have n0_ := Aside0.mk (Ql (by repeat (first | (with_reducible first | exact HB.out | apply Qe | apply Qb | apply Qf) | exact HB.out)) hb); have n1_ := Aside0.mk (hbox); have n2_ := Aside0.mk ((by rw [hg]; exact (Qk (by repeat (first | (with_reducible first | exact HB.out | apply Qe | apply Qb | apply Qf) | exact HB.out))) : w.heap.size ≤ gb183)); have n3_ := Aside0.mk ((by rw [hg]; exact (Qk (by repeat (first | (with_reducible first | exact HB.out | apply Qe | apply Qb | apply Qf) | exact HB.out))) : w.heap.size ≤ gb183)); clear HB; have HB := n0_; have BK183 := n1_; have GW183 := n2_; have GE183 := n3_; clear n0_ n1_ n2_ n3_; clear hb hbox hg) | ((with_reducible refine Qs (N := 3) rfl ?_); refine Qr ?hg (N := 3) ?hd (cs := #[.int .i64 a1_0, .int .i64 a1_1, .int .i64 a1_2, .int .i64 a1_3, .int .i64 a1_4, .int .i64 a1_5, .bool a1_6]) (t := 42) ?hr ?_; (case hd => rfl); (case hg => rfl); (case hr => first | (go_simp; done) | (go_simp; rfl)); intro gb184 hg w11 hbox hb; have n0_ := Aside0.mk (Qo (g := gb183) (o := .cells #[.int .i64 a0_0, .int .i64 a0_1, .int .i64 a0_2, .int .i64 a0_3, .int .i64 a0_4, .int .i64 a0_5, .bool a0_6] 42 (0, 0)) (by (with_reducible repeat (first | refine Qh ?_ _ | refine Qj ?_ | refine Qi ?_ _)); exact BK183.out) hb); have n1_ := Aside0.mk (Ql (by repeat (first | (with_reducible first | exact HB.out | apply Qe | apply Qb | apply Qf | refine Qg ?_ GE183.out) | exact HB.out)) hb); have n2_ := Aside0.mk (hbox); have n3_ := Aside0.mk ((by rw [hg]; exact (Qk (by repeat (first | (with_reducible first | exact HB.out | apply Qe | apply Qb | apply Qf | refine Qg ?_ GE183.out) | exact HB.out))) : w.heap.size ≤ gb184)); have n4_ := Aside0.mk ((by rw [hg]; exact (Qk (by repeat (first | (with_reducible first | exact HB.out | apply Qe | apply Qb | apply Qf | refine Qg ?_ GE183.out) | exact HB.out))) : w.heap.size ≤ gb184)); have n5_ := Aside0.mk ((by rw [hg]; exact Nat.ne_of_lt (Qt (g := gb183) (o := .cells #[.int .i64 a0_0, .int .i64 a0_1, .int .i64 a0_2, .int .i64 a0_3, .int .i64 a0_4, .int .i64 a0_5, .bool a0_6] 42 (0, 0)) (by (with_reducible repeat (first | refine Qh ?_ _ | refine Qj ?_ | refine Qi ?_ _)); exact BK183.out)) : gb183 ≠ gb184)); have n6_ := Aside0.mk ((by rw [hg]; exact Nat.ne_of_gt (Qt (g := gb183) (o := .cells #[.int .i64 a0_0, .int .i64 a0_1, .int .i64 a0_2, .int .i64 a0_3, .int .i64 a0_4, .int .i64 a0_5, .bool a0_6] 42 (0, 0)) (by (with_reducible repeat (first | refine Qh ?_ _ | refine Qj ?_ | refine Qi ?_ _)); exact BK183.out)) : gb184 ≠ gb183)); clear BK183; clear HB; have BK183 := n0_; have HB := n1_; have BK184 := n2_; have GW184 := n3_; have GE184 := n4_; have NB183_184 := n5_; have NB184_183 := n6_; clear n0_ n1_ n2_ n3_ n4_ n5_ n6_; clear hb hbox hg; have hnb12 := NB183_184.out; have hnc12 := NB184_183.out; have hcz13_0 : w11.cell? ⟨gb183, 0, none⟩ = some (.int .i64 a0_0) := (Qa BK183.out 0).trans rfl; have hcz13_1 : w11.cell? ⟨gb183, 1, none⟩ = some (.int .i64 a0_1) := (Qa BK183.out 1).trans rfl; have hcz13_2 : w11.cell? ⟨gb183, 2, none⟩ = some (.int .i64 a0_2) := (Qa BK183.out 2).trans rfl; have hcz13_3 : w11.cell? ⟨gb183, 3, none⟩ = some (.int .i64 a0_3) := (Qa BK183.out 3).trans rfl; have hcz13_4 : w11.cell? ⟨gb183, 4, none⟩ = some (.int .i64 a0_4) := (Qa BK183.out 4).trans rfl; have hcz13_5 : w11.cell? ⟨gb183, 5, none⟩ = some (.int .i64 a0_5) := (Qa BK183.out 5).trans rfl; have hcz13_6 : w11.cell? ⟨gb183, 6, none⟩ = some (.bool a0_6) := (Qa BK183.out 6).trans rfl; have hfz13_0 := Qc BK183.out 0; have hfz13_1 := Qc BK183.out 1; have hfz13_2 := Qc BK183.out 2; have hfz13_3 := Qc BK183.out 3; have hfz13_4 := Qc BK183.out 4; have hfz13_5 := Qc BK183.out 5; have hfz13_6 := Qc BK183.out 6; have hcz14_0 : w11.cell? ⟨gb184, 0, none⟩ = some (.int .i64 a1_0) := (Qa BK184.out 0).trans rfl; have hcz14_1 : w11.cell? ⟨gb184, 1, none⟩ = some (.int .i64 a1_1) := (Qa BK184.out 1).trans rfl; have hcz14_2 : w11.cell? ⟨gb184, 2, none⟩ = some (.int .i64 a1_2) := (Qa BK184.out 2).trans rfl; have hcz14_3 : w11.cell? ⟨gb184, 3, none⟩ = some (.int .i64 a1_3) := (Qa BK184.out 3).trans rfl; have hcz14_4 : w11.cell? ⟨gb184, 4, none⟩ = some (.int .i64 a1_4) := (Qa BK184.out 4).trans rfl; have hcz14_5 : w11.cell? ⟨gb184, 5, none⟩ = some (.int .i64 a1_5) := (Qa BK184.out 5).trans rfl; have hcz14_6 : w11.cell? ⟨gb184, 6, none⟩ = some (.bool a1_6) := (Qa BK184.out 6).trans rfl; have hfz14_0 := Qc BK184.out 0; have hfz14_1 := Qc BK184.out 1; have hfz14_2 := Qc BK184.out 2; have hfz14_3 := Qc BK184.out 3; have hfz14_4 := Qc BK184.out 4; have hfz14_5 := Qc BK184.out 5; have hfz14_6 := Qc BK184.out 6))
        go_ret
        exact ⟨by first | rfl | (simp [Qn, Qm] <;> rfl) | (simp [*, Qn, Qm] <;> rfl), by repeat (first | (with_reducible first | exact HB.out | apply Qe | apply Qb | apply Qf | refine Qg ?_ GE183.out | refine Qg ?_ GE184.out) | exact HB.out)⟩
       ·rw [if_neg c9] at H
        have c9b0 : (a0_6 != a1_6) = false := by simpa using c9
        (try (have c9b1 : decide (a0_6 = a1_6) = true := by simpa using c9))
        (try (have c9b2 : (a0_6 == a1_6) = true := by simpa using c9))
        clear c9
        obtain rfl := Option.some.inj H
        go_enter Try.func59, Try.ntmps59
        go_wp2_with (first | ((with_reducible refine Qs (N := 2) rfl ?_); refine Qr ?hg (N := 2) ?hd (cs := #[.int .i64 a0_0, .int .i64 a0_1, .int .i64 a0_2, .int .i64 a0_3, .int .i64 a0_4, .int .i64 a0_5, .bool a0_6]) (t := 42) ?hr ?_; (case hd => rfl); (case hg => rfl); (case hr => first | (go_simp; done) | (go_simp; rfl)); intro gb183 hg w15 hbox hb; have n0_ := Aside0.mk (Ql (by repeat (first | (with_reducible first | exact HB.out | apply Qe | apply Qb | apply Qf) | exact HB.out)) hb); have n1_ := Aside0.mk (hbox); have n2_ := Aside0.mk ((by rw [hg]; exact (Qk (by repeat (first | (with_reducible first | exact HB.out | apply Qe | apply Qb | apply Qf) | exact HB.out))) : w.heap.size ≤ gb183)); have n3_ := Aside0.mk ((by rw [hg]; exact (Qk (by repeat (first | (with_reducible first | exact HB.out | apply Qe | apply Qb | apply Qf) | exact HB.out))) : w.heap.size ≤ gb183)); clear HB; have HB := n0_; have BK183 := n1_; have GW183 := n2_; have GE183 := n3_; clear n0_ n1_ n2_ n3_; clear hb hbox hg) | ((with_reducible refine Qs (N := 3) rfl ?_); refine Qr ?hg (N := 3) ?hd (cs := #[.int .i64 a1_0, .int .i64 a1_1, .int .i64 a1_2, .int .i64 a1_3, .int .i64 a1_4, .int .i64 a1_5, .bool a1_6]) (t := 42) ?hr ?_; (case hd => rfl); (case hg => rfl); (case hr => first | (go_simp; done) | (go_simp; rfl)); intro gb184 hg w16 hbox hb; have n0_ := Aside0.mk (Qo (g := gb183) (o := .cells #[.int .i64 a0_0, .int .i64 a0_1, .int .i64 a0_2, .int .i64 a0_3, .int .i64 a0_4, .int .i64 a0_5, .bool a0_6] 42 (0, 0)) (by (with_reducible repeat (first | refine Qh ?_ _ | refine Qj ?_ | refine Qi ?_ _)); exact BK183.out) hb); have n1_ := Aside0.mk (Ql (by repeat (first | (with_reducible first | exact HB.out | apply Qe | apply Qb | apply Qf | refine Qg ?_ GE183.out) | exact HB.out)) hb); have n2_ := Aside0.mk (hbox); have n3_ := Aside0.mk ((by rw [hg]; exact (Qk (by repeat (first | (with_reducible first | exact HB.out | apply Qe | apply Qb | apply Qf | refine Qg ?_ GE183.out) | exact HB.out))) : w.heap.size ≤ gb184)); have n4_ := Aside0.mk ((by rw [hg]; exact (Qk (by repeat (first | (with_reducible first | exact HB.out | apply Qe | apply Qb | apply Qf | refine Qg ?_ GE183.out) | exact HB.out))) : w.heap.size ≤ gb184)); have n5_ := Aside0.mk ((by rw [hg]; exact Nat.ne_of_lt (Qt (g := gb183) (o := .cells #[.int .i64 a0_0, .int .i64 a0_1, .int .i64 a0_2, .int .i64 a0_3, .int .i64 a0_4, .int .i64 a0_5, .bool a0_6] 42 (0, 0)) (by (with_reducible repeat (first | refine Qh ?_ _ | refine Qj ?_ | refine Qi ?_ _)); exact BK183.out)) : gb183 ≠ gb184)); have n6_ := Aside0.mk ((by rw [hg]; exact Nat.ne_of_gt (Qt (g := gb183) (o := .cells #[.int .i64 a0_0, .int .i64 a0_1, .int .i64 a0_2, .int .i64 a0_3, .int .i64 a0_4, .int .i64 a0_5, .bool a0_6] 42 (0, 0)) (by (with_reducible repeat (first | refine Qh ?_ _ | refine Qj ?_ | refine Qi ?_ _)); exact BK183.out)) : gb184 ≠ gb183)); clear BK183; clear HB; have BK183 := n0_; have HB := n1_; have BK184 := n2_; have GW184 := n3_; have GE184 := n4_; have NB183_184 := n5_; have NB184_183 := n6_; clear n0_ n1_ n2_ n3_ n4_ n5_ n6_; clear hb hbox hg; have hnb17 := NB183_184.out; have hnc17 := NB184_183.out; have hcz18_0 : w16.cell? ⟨gb183, 0, none⟩ = some (.int .i64 a0_0) := (Qa BK183.out 0).trans rfl; have hcz18_1 : w16.cell? ⟨gb183, 1, none⟩ = some (.int .i64 a0_1) := (Qa BK183.out 1).trans rfl; have hcz18_2 : w16.cell? ⟨gb183, 2, none⟩ = some (.int .i64 a0_2) := (Qa BK183.out 2).trans rfl; have hcz18_3 : w16.cell? ⟨gb183, 3, none⟩ = some (.int .i64 a0_3) := (Qa BK183.out 3).trans rfl; have hcz18_4 : w16.cell? ⟨gb183, 4, none⟩ = some (.int .i64 a0_4) := (Qa BK183.out 4).trans rfl; have hcz18_5 : w16.cell? ⟨gb183, 5, none⟩ = some (.int .i64 a0_5) := (Qa BK183.out 5).trans rfl; have hcz18_6 : w16.cell? ⟨gb183, 6, none⟩ = some (.bool a0_6) := (Qa BK183.out 6).trans rfl; have hfz18_0 := Qc BK183.out 0; have hfz18_1 := Qc BK183.out 1; have hfz18_2 := Qc BK183.out 2; have hfz18_3 := Qc BK183.out 3; have hfz18_4 := Qc BK183.out 4; have hfz18_5 := Qc BK183.out 5; have hfz18_6 := Qc BK183.out 6; have hcz19_0 : w16.cell? ⟨gb184, 0, none⟩ = some (.int .i64 a1_0) := (Qa BK184.out 0).trans rfl; have hcz19_1 : w16.cell? ⟨gb184, 1, none⟩ = some (.int .i64 a1_1) := (Qa BK184.out 1).trans rfl; have hcz19_2 : w16.cell? ⟨gb184, 2, none⟩ = some (.int .i64 a1_2) := (Qa BK184.out 2).trans rfl; have hcz19_3 : w16.cell? ⟨gb184, 3, none⟩ = some (.int .i64 a1_3) := (Qa BK184.out 3).trans rfl; have hcz19_4 : w16.cell? ⟨gb184, 4, none⟩ = some (.int .i64 a1_4) := (Qa BK184.out 4).trans rfl; have hcz19_5 : w16.cell? ⟨gb184, 5, none⟩ = some (.int .i64 a1_5) := (Qa BK184.out 5).trans rfl; have hcz19_6 : w16.cell? ⟨gb184, 6, none⟩ = some (.bool a1_6) := (Qa BK184.out 6).trans rfl; have hfz19_0 := Qc BK184.out 0; have hfz19_1 := Qc BK184.out 1; have hfz19_2 := Qc BK184.out 2; have hfz19_3 := Qc BK184.out 3; have hfz19_4 := Qc BK184.out 4; have hfz19_5 := Qc BK184.out 5; have hfz19_6 := Qc BK184.out 6))
        go_ret
        exact ⟨by first | rfl | (simp [Qn, Qm] <;> rfl) | (simp [*, Qn, Qm] <;> rfl), by repeat (first | (with_reducible first | exact HB.out | apply Qe | apply Qb | apply Qf | refine Qg ?_ GE183.out | refine Qg ?_ GE184.out) | exact HB.out)⟩
      ·rw [if_neg c8] at H
       have c8b0 : (a0_5 == a1_5) = false := beq_eq_false_iff_ne.mpr c8
       have c8b1 : (a0_5 != a1_5) = true := bne_iff_ne.mpr c8
       obtain rfl := Option.some.inj H
       go_enter Try.func59, Try.ntmps59
       go_wp2_with (first | ((with_reducible refine Qs (N := 2) rfl ?_); refine Qr ?hg (N := 2) ?hd (cs := #[.int .i64 a0_0, .int .i64 a0_1, .int .i64 a0_2, .int .i64 a0_3, .int .i64 a0_4, .int .i64 a0_5, .bool a0_6]) (t := 42) ?hr ?_; (case hd => rfl); (case hg => rfl); (case hr => first | (go_simp; done) | (go_simp; rfl)); intro gb183 hg w20 hbox hb; have n0_ := Aside0.mk (Ql (by repeat (first | (with_reducible first | exact HB.out | apply Qe | apply Qb | apply Qf) | exact HB.out)) hb); have n1_ := Aside0.mk (hbox); have n2_ := Aside0.mk ((by rw [hg]; exact (Qk (by repeat (first | (with_reducible first | exact HB.out | apply Qe | apply Qb | apply Qf) | exact HB.out))) : w.heap.size ≤ gb183)); have n3_ := Aside0.mk ((by rw [hg]; exact (Qk (by repeat (first | (with_reducible first | exact HB.out | apply Qe | apply Qb | apply Qf) | exact HB.out))) : w.heap.size ≤ gb183)); clear HB; have HB := n0_; have BK183 := n1_; have GW183 := n2_; have GE183 := n3_; clear n0_ n1_ n2_ n3_; clear hb hbox hg) | ((with_reducible refine Qs (N := 3) rfl ?_); refine Qr ?hg (N := 3) ?hd (cs := #[.int .i64 a1_0, .int .i64 a1_1, .int .i64 a1_2, .int .i64 a1_3, .int .i64 a1_4, .int .i64 a1_5, .bool a1_6]) (t := 42) ?hr ?_; (case hd => rfl); (case hg => rfl); (case hr => first | (go_simp; done) | (go_simp; rfl)); intro gb184 hg w21 hbox hb; have n0_ := Aside0.mk (Qo (g := gb183) (o := .cells #[.int .i64 a0_0, .int .i64 a0_1, .int .i64 a0_2, .int .i64 a0_3, .int .i64 a0_4, .int .i64 a0_5, .bool a0_6] 42 (0, 0)) (by (with_reducible repeat (first | refine Qh ?_ _ | refine Qj ?_ | refine Qi ?_ _)); exact BK183.out) hb); have n1_ := Aside0.mk (Ql (by repeat (first | (with_reducible first | exact HB.out | apply Qe | apply Qb | apply Qf | refine Qg ?_ GE183.out) | exact HB.out)) hb); have n2_ := Aside0.mk (hbox); have n3_ := Aside0.mk ((by rw [hg]; exact (Qk (by repeat (first | (with_reducible first | exact HB.out | apply Qe | apply Qb | apply Qf | refine Qg ?_ GE183.out) | exact HB.out))) : w.heap.size ≤ gb184)); have n4_ := Aside0.mk ((by rw [hg]; exact (Qk (by repeat (first | (with_reducible first | exact HB.out | apply Qe | apply Qb | apply Qf | refine Qg ?_ GE183.out) | exact HB.out))) : w.heap.size ≤ gb184)); have n5_ := Aside0.mk ((by rw [hg]; exact Nat.ne_of_lt (Qt (g := gb183) (o := .cells #[.int .i64 a0_0, .int .i64 a0_1, .int .i64 a0_2, .int .i64 a0_3, .int .i64 a0_4, .int .i64 a0_5, .bool a0_6] 42 (0, 0)) (by (with_reducible repeat (first | refine Qh ?_ _ | refine Qj ?_ | refine Qi ?_ _)); exact BK183.out)) : gb183 ≠ gb184)); have n6_ := Aside0.mk ((by rw [hg]; exact Nat.ne_of_gt (Qt (g := gb183) (o := .cells #[.int .i64 a0_0, .int .i64 a0_1, .int .i64 a0_2, .int .i64 a0_3, .int .i64 a0_4, .int .i64 a0_5, .bool a0_6] 42 (0, 0)) (by (with_reducible repeat (first | refine Qh ?_ _ | refine Qj ?_ | refine Qi ?_ _)); exact BK183.out)) : gb184 ≠ gb183)); clear BK183; clear HB; have BK183 := n0_; have HB := n1_; have BK184 := n2_; have GW184 := n3_; have GE184 := n4_; have NB183_184 := n5_; have NB184_183 := n6_; clear n0_ n1_ n2_ n3_ n4_ n5_ n6_; clear hb hbox hg; have hnb22 := NB183_184.out; have hnc22 := NB184_183.out; have hcz23_0 : w21.cell? ⟨gb183, 0, none⟩ = some (.int .i64 a0_0) := (Qa BK183.out 0).trans rfl; have hcz23_1 : w21.cell? ⟨gb183, 1, none⟩ = some (.int .i64 a0_1) := (Qa BK183.out 1).trans rfl; have hcz23_2 : w21.cell? ⟨gb183, 2, none⟩ = some (.int .i64 a0_2) := (Qa BK183.out 2).trans rfl; have hcz23_3 : w21.cell? ⟨gb183, 3, none⟩ = some (.int .i64 a0_3) := (Qa BK183.out 3).trans rfl; have hcz23_4 : w21.cell? ⟨gb183, 4, none⟩ = some (.int .i64 a0_4) := (Qa BK183.out 4).trans rfl; have hcz23_5 : w21.cell? ⟨gb183, 5, none⟩ = some (.int .i64 a0_5) := (Qa BK183.out 5).trans rfl; have hcz23_6 : w21.cell? ⟨gb183, 6, none⟩ = some (.bool a0_6) := (Qa BK183.out 6).trans rfl; have hfz23_0 := Qc BK183.out 0; have hfz23_1 := Qc BK183.out 1; have hfz23_2 := Qc BK183.out 2; have hfz23_3 := Qc BK183.out 3; have hfz23_4 := Qc BK183.out 4; have hfz23_5 := Qc BK183.out 5; have hfz23_6 := Qc BK183.out 6; have hcz24_0 : w21.cell? ⟨gb184, 0, none⟩ = some (.int .i64 a1_0) := (Qa BK184.out 0).trans rfl; have hcz24_1 : w21.cell? ⟨gb184, 1, none⟩ = some (.int .i64 a1_1) := (Qa BK184.out 1).trans rfl; have hcz24_2 : w21.cell? ⟨gb184, 2, none⟩ = some (.int .i64 a1_2) := (Qa BK184.out 2).trans rfl; have hcz24_3 : w21.cell? ⟨gb184, 3, none⟩ = some (.int .i64 a1_3) := (Qa BK184.out 3).trans rfl; have hcz24_4 : w21.cell? ⟨gb184, 4, none⟩ = some (.int .i64 a1_4) := (Qa BK184.out 4).trans rfl; have hcz24_5 : w21.cell? ⟨gb184, 5, none⟩ = some (.int .i64 a1_5) := (Qa BK184.out 5).trans rfl; have hcz24_6 : w21.cell? ⟨gb184, 6, none⟩ = some (.bool a1_6) := (Qa BK184.out 6).trans rfl; have hfz24_0 := Qc BK184.out 0; have hfz24_1 := Qc BK184.out 1; have hfz24_2 := Qc BK184.out 2; have hfz24_3 := Qc BK184.out 3; have hfz24_4 := Qc BK184.out 4; have hfz24_5 := Qc BK184.out 5; have hfz24_6 := Qc BK184.out 6))
       go_ret
       exact ⟨by first | rfl | (simp [Qn, Qm] <;> rfl) | (simp [*, Qn, Qm] <;> rfl), by repeat (first | (with_reducible first | exact HB.out | apply Qe | apply Qb | apply Qf | refine Qg ?_ GE183.out | refine Qg ?_ GE184.out) | exact HB.out)⟩
     ·rw [if_neg c7] at H
      have c7b0 : (a0_4 == a1_4) = false := beq_eq_false_iff_ne.mpr c7
      have c7b1 : (a0_4 != a1_4) = true := bne_iff_ne.mpr c7
      obtain rfl := Option.some.inj H
      go_enter Try.func59, Try.ntmps59
      go_wp2_with (first | ((with_reducible refine Qs (N := 2) rfl ?_); refine Qr ?hg (N := 2) ?hd (cs := #[.int .i64 a0_0, .int .i64 a0_1, .int .i64 a0_2, .int .i64 a0_3, .int .i64 a0_4, .int .i64 a0_5, .bool a0_6]) (t := 42) ?hr ?_; (case hd => rfl); (case hg => rfl); (case hr => first | (go_simp; done) | (go_simp; rfl)); intro gb183 hg w25 hbox hb; have n0_ := Aside0.mk (Ql (by repeat (first | (with_reducible first | exact HB.out | apply Qe | apply Qb | apply Qf) | exact HB.out)) hb); have n1_ := Aside0.mk (hbox); have n2_ := Aside0.mk ((by rw [hg]; exact (Qk (by repeat (first | (with_reducible first | exact HB.out | apply Qe | apply Qb | apply Qf) | exact HB.out))) : w.heap.size ≤ gb183)); have n3_ := Aside0.mk ((by rw [hg]; exact (Qk (by repeat (first | (with_reducible first | exact HB.out | apply Qe | apply Qb | apply Qf) | exact HB.out))) : w.heap.size ≤ gb183)); clear HB; have HB := n0_; have BK183 := n1_; have GW183 := n2_; have GE183 := n3_; clear n0_ n1_ n2_ n3_; clear hb hbox hg) | ((with_reducible refine Qs (N := 3) rfl ?_); refine Qr ?hg (N := 3) ?hd (cs := #[.int .i64 a1_0, .int .i64 a1_1, .int .i64 a1_2, .int .i64 a1_3, .int .i64 a1_4, .int .i64 a1_5, .bool a1_6]) (t := 42) ?hr ?_; (case hd => rfl); (case hg => rfl); (case hr => first | (go_simp; done) | (go_simp; rfl)); intro gb184 hg w26 hbox hb; have n0_ := Aside0.mk (Qo (g := gb183) (o := .cells #[.int .i64 a0_0, .int .i64 a0_1, .int .i64 a0_2, .int .i64 a0_3, .int .i64 a0_4, .int .i64 a0_5, .bool a0_6] 42 (0, 0)) (by (with_reducible repeat (first | refine Qh ?_ _ | refine Qj ?_ | refine Qi ?_ _)); exact BK183.out) hb); have n1_ := Aside0.mk (Ql (by repeat (first | (with_reducible first | exact HB.out | apply Qe | apply Qb | apply Qf | refine Qg ?_ GE183.out) | exact HB.out)) hb); have n2_ := Aside0.mk (hbox); have n3_ := Aside0.mk ((by rw [hg]; exact (Qk (by repeat (first | (with_reducible first | exact HB.out | apply Qe | apply Qb | apply Qf | refine Qg ?_ GE183.out) | exact HB.out))) : w.heap.size ≤ gb184)); have n4_ := Aside0.mk ((by rw [hg]; exact (Qk (by repeat (first | (with_reducible first | exact HB.out | apply Qe | apply Qb | apply Qf | refine Qg ?_ GE183.out) | exact HB.out))) : w.heap.size ≤ gb184)); have n5_ := Aside0.mk ((by rw [hg]; exact Nat.ne_of_lt (Qt (g := gb183) (o := .cells #[.int .i64 a0_0, .int .i64 a0_1, .int .i64 a0_2, .int .i64 a0_3, .int .i64 a0_4, .int .i64 a0_5, .bool a0_6] 42 (0, 0)) (by (with_reducible repeat (first | refine Qh ?_ _ | refine Qj ?_ | refine Qi ?_ _)); exact BK183.out)) : gb183 ≠ gb184)); have n6_ := Aside0.mk ((by rw [hg]; exact Nat.ne_of_gt (Qt (g := gb183) (o := .cells #[.int .i64 a0_0, .int .i64 a0_1, .int .i64 a0_2, .int .i64 a0_3, .int .i64 a0_4, .int .i64 a0_5, .bool a0_6] 42 (0, 0)) (by (with_reducible repeat (first | refine Qh ?_ _ | refine Qj ?_ | refine Qi ?_ _)); exact BK183.out)) : gb184 ≠ gb183)); clear BK183; clear HB; have BK183 := n0_; have HB := n1_; have BK184 := n2_; have GW184 := n3_; have GE184 := n4_; have NB183_184 := n5_; have NB184_183 := n6_; clear n0_ n1_ n2_ n3_ n4_ n5_ n6_; clear hb hbox hg; have hnb27 := NB183_184.out; have hnc27 := NB184_183.out; have hcz28_0 : w26.cell? ⟨gb183, 0, none⟩ = some (.int .i64 a0_0) := (Qa BK183.out 0).trans rfl; have hcz28_1 : w26.cell? ⟨gb183, 1, none⟩ = some (.int .i64 a0_1) := (Qa BK183.out 1).trans rfl; have hcz28_2 : w26.cell? ⟨gb183, 2, none⟩ = some (.int .i64 a0_2) := (Qa BK183.out 2).trans rfl; have hcz28_3 : w26.cell? ⟨gb183, 3, none⟩ = some (.int .i64 a0_3) := (Qa BK183.out 3).trans rfl; have hcz28_4 : w26.cell? ⟨gb183, 4, none⟩ = some (.int .i64 a0_4) := (Qa BK183.out 4).trans rfl; have hcz28_5 : w26.cell? ⟨gb183, 5, none⟩ = some (.int .i64 a0_5) := (Qa BK183.out 5).trans rfl; have hcz28_6 : w26.cell? ⟨gb183, 6, none⟩ = some (.bool a0_6) := (Qa BK183.out 6).trans rfl; have hfz28_0 := Qc BK183.out 0; have hfz28_1 := Qc BK183.out 1; have hfz28_2 := Qc BK183.out 2; have hfz28_3 := Qc BK183.out 3; have hfz28_4 := Qc BK183.out 4; have hfz28_5 := Qc BK183.out 5; have hfz28_6 := Qc BK183.out 6; have hcz29_0 : w26.cell? ⟨gb184, 0, none⟩ = some (.int .i64 a1_0) := (Qa BK184.out 0).trans rfl; have hcz29_1 : w26.cell? ⟨gb184, 1, none⟩ = some (.int .i64 a1_1) := (Qa BK184.out 1).trans rfl; have hcz29_2 : w26.cell? ⟨gb184, 2, none⟩ = some (.int .i64 a1_2) := (Qa BK184.out 2).trans rfl; have hcz29_3 : w26.cell? ⟨gb184, 3, none⟩ = some (.int .i64 a1_3) := (Qa BK184.out 3).trans rfl; have hcz29_4 : w26.cell? ⟨gb184, 4, none⟩ = some (.int .i64 a1_4) := (Qa BK184.out 4).trans rfl; have hcz29_5 : w26.cell? ⟨gb184, 5, none⟩ = some (.int .i64 a1_5) := (Qa BK184.out 5).trans rfl; have hcz29_6 : w26.cell? ⟨gb184, 6, none⟩ = some (.bool a1_6) := (Qa BK184.out 6).trans rfl; have hfz29_0 := Qc BK184.out 0; have hfz29_1 := Qc BK184.out 1; have hfz29_2 := Qc BK184.out 2; have hfz29_3 := Qc BK184.out 3; have hfz29_4 := Qc BK184.out 4; have hfz29_5 := Qc BK184.out 5; have hfz29_6 := Qc BK184.out 6))
      go_ret
      exact ⟨by first | rfl | (simp [Qn, Qm] <;> rfl) | (simp [*, Qn, Qm] <;> rfl), by repeat (first | (with_reducible first | exact HB.out | apply Qe | apply Qb | apply Qf | refine Qg ?_ GE183.out | refine Qg ?_ GE184.out) | exact HB.out)⟩
    ·rw [if_neg c6] at H
     have c6b0 : (a0_3 == a1_3) = false := beq_eq_false_iff_ne.mpr c6
     have c6b1 : (a0_3 != a1_3) = true := bne_iff_ne.mpr c6
     obtain rfl := Option.some.inj H
     go_enter Try.func59, Try.ntmps59
     go_wp2_with (first | ((with_reducible refine Qs (N := 2) rfl ?_); refine Qr ?hg (N := 2) ?hd (cs := #[.int .i64 a0_0, .int .i64 a0_1, .int .i64 a0_2, .int .i64 a0_3, .int .i64 a0_4, .int .i64 a0_5, .bool a0_6]) (t := 42) ?hr ?_; (case hd => rfl); (case hg => rfl); (case hr => first | (go_simp; done) | (go_simp; rfl)); intro gb183 hg w30 hbox hb; have n0_ := Aside0.mk (Ql (by repeat (first | (with_reducible first | exact HB.out | apply Qe | apply Qb | apply Qf) | exact HB.out)) hb); have n1_ := Aside0.mk (hbox); have n2_ := Aside0.mk ((by rw [hg]; exact (Qk (by repeat (first | (with_reducible first | exact HB.out | apply Qe | apply Qb | apply Qf) | exact HB.out))) : w.heap.size ≤ gb183)); have n3_ := Aside0.mk ((by rw [hg]; exact (Qk (by repeat (first | (with_reducible first | exact HB.out | apply Qe | apply Qb | apply Qf) | exact HB.out))) : w.heap.size ≤ gb183)); clear HB; have HB := n0_; have BK183 := n1_; have GW183 := n2_; have GE183 := n3_; clear n0_ n1_ n2_ n3_; clear hb hbox hg) | ((with_reducible refine Qs (N := 3) rfl ?_); refine Qr ?hg (N := 3) ?hd (cs := #[.int .i64 a1_0, .int .i64 a1_1, .int .i64 a1_2, .int .i64 a1_3, .int .i64 a1_4, .int .i64 a1_5, .bool a1_6]) (t := 42) ?hr ?_; (case hd => rfl); (case hg => rfl); (case hr => first | (go_simp; done) | (go_simp; rfl)); intro gb184 hg w31 hbox hb; have n0_ := Aside0.mk (Qo (g := gb183) (o := .cells #[.int .i64 a0_0, .int .i64 a0_1, .int .i64 a0_2, .int .i64 a0_3, .int .i64 a0_4, .int .i64 a0_5, .bool a0_6] 42 (0, 0)) (by (with_reducible repeat (first | refine Qh ?_ _ | refine Qj ?_ | refine Qi ?_ _)); exact BK183.out) hb); have n1_ := Aside0.mk (Ql (by repeat (first | (with_reducible first | exact HB.out | apply Qe | apply Qb | apply Qf | refine Qg ?_ GE183.out) | exact HB.out)) hb); have n2_ := Aside0.mk (hbox); have n3_ := Aside0.mk ((by rw [hg]; exact (Qk (by repeat (first | (with_reducible first | exact HB.out | apply Qe | apply Qb | apply Qf | refine Qg ?_ GE183.out) | exact HB.out))) : w.heap.size ≤ gb184)); have n4_ := Aside0.mk ((by rw [hg]; exact (Qk (by repeat (first | (with_reducible first | exact HB.out | apply Qe | apply Qb | apply Qf | refine Qg ?_ GE183.out) | exact HB.out))) : w.heap.size ≤ gb184)); have n5_ := Aside0.mk ((by rw [hg]; exact Nat.ne_of_lt (Qt (g := gb183) (o := .cells #[.int .i64 a0_0, .int .i64 a0_1, .int .i64 a0_2, .int .i64 a0_3, .int .i64 a0_4, .int .i64 a0_5, .bool a0_6] 42 (0, 0)) (by (with_reducible repeat (first | refine Qh ?_ _ | refine Qj ?_ | refine Qi ?_ _)); exact BK183.out)) : gb183 ≠ gb184)); have n6_ := Aside0.mk ((by rw [hg]; exact Nat.ne_of_gt (Qt (g := gb183) (o := .cells #[.int .i64 a0_0, .int .i64 a0_1, .int .i64 a0_2, .int .i64 a0_3, .int .i64 a0_4, .int .i64 a0_5, .bool a0_6] 42 (0, 0)) (by (with_reducible repeat (first | refine Qh ?_ _ | refine Qj ?_ | refine Qi ?_ _)); exact BK183.out)) : gb184 ≠ gb183)); clear BK183; clear HB; have BK183 := n0_; have HB := n1_; have BK184 := n2_; have GW184 := n3_; have GE184 := n4_; have NB183_184 := n5_; have NB184_183 := n6_; clear n0_ n1_ n2_ n3_ n4_ n5_ n6_; clear hb hbox hg; have hnb32 := NB183_184.out; have hnc32 := NB184_183.out; have hcz33_0 : w31.cell? ⟨gb183, 0, none⟩ = some (.int .i64 a0_0) := (Qa BK183.out 0).trans rfl; have hcz33_1 : w31.cell? ⟨gb183, 1, none⟩ = some (.int .i64 a0_1) := (Qa BK183.out 1).trans rfl; have hcz33_2 : w31.cell? ⟨gb183, 2, none⟩ = some (.int .i64 a0_2) := (Qa BK183.out 2).trans rfl; have hcz33_3 : w31.cell? ⟨gb183, 3, none⟩ = some (.int .i64 a0_3) := (Qa BK183.out 3).trans rfl; have hcz33_4 : w31.cell? ⟨gb183, 4, none⟩ = some (.int .i64 a0_4) := (Qa BK183.out 4).trans rfl; have hcz33_5 : w31.cell? ⟨gb183, 5, none⟩ = some (.int .i64 a0_5) := (Qa BK183.out 5).trans rfl; have hcz33_6 : w31.cell? ⟨gb183, 6, none⟩ = some (.bool a0_6) := (Qa BK183.out 6).trans rfl; have hfz33_0 := Qc BK183.out 0; have hfz33_1 := Qc BK183.out 1; have hfz33_2 := Qc BK183.out 2; have hfz33_3 := Qc BK183.out 3; have hfz33_4 := Qc BK183.out 4; have hfz33_5 := Qc BK183.out 5; have hfz33_6 := Qc BK183.out 6; have hcz34_0 : w31.cell? ⟨gb184, 0, none⟩ = some (.int .i64 a1_0) := (Qa BK184.out 0).trans rfl; have hcz34_1 : w31.cell? ⟨gb184, 1, none⟩ = some (.int .i64 a1_1) := (Qa BK184.out 1).trans rfl; have hcz34_2 : w31.cell? ⟨gb184, 2, none⟩ = some (.int .i64 a1_2) := (Qa BK184.out 2).trans rfl; have hcz34_3 : w31.cell? ⟨gb184, 3, none⟩ = some (.int .i64 a1_3) := (Qa BK184.out 3).trans rfl; have hcz34_4 : w31.cell? ⟨gb184, 4, none⟩ = some (.int .i64 a1_4) := (Qa BK184.out 4).trans rfl; have hcz34_5 : w31.cell? ⟨gb184, 5, none⟩ = some (.int .i64 a1_5) := (Qa BK184.out 5).trans rfl; have hcz34_6 : w31.cell? ⟨gb184, 6, none⟩ = some (.bool a1_6) := (Qa BK184.out 6).trans rfl; have hfz34_0 := Qc BK184.out 0; have hfz34_1 := Qc BK184.out 1; have hfz34_2 := Qc BK184.out 2; have hfz34_3 := Qc BK184.out 3; have hfz34_4 := Qc BK184.out 4; have hfz34_5 := Qc BK184.out 5; have hfz34_6 := Qc BK184.out 6))
     go_ret
     exact ⟨by first | rfl | (simp [Qn, Qm] <;> rfl) | (simp [*, Qn, Qm] <;> rfl), by repeat (first | (with_reducible first | exact HB.out | apply Qe | apply Qb | apply Qf | refine Qg ?_ GE183.out | refine Qg ?_ GE184.out) | exact HB.out)⟩
   ·rw [if_neg c5] at H
    have c5b0 : (a0_2 == a1_2) = false := beq_eq_false_iff_ne.mpr c5
    have c5b1 : (a0_2 != a1_2) = true := bne_iff_ne.mpr c5
    obtain rfl := Option.some.inj H
    go_enter Try.func59, Try.ntmps59
    go_wp2_with (first | ((with_reducible refine Qs (N := 2) rfl ?_); refine Qr ?hg (N := 2) ?hd (cs := #[.int .i64 a0_0, .int .i64 a0_1, .int .i64 a0_2, .int .i64 a0_3, .int .i64 a0_4, .int .i64 a0_5, .bool a0_6]) (t := 42) ?hr ?_; (case hd => rfl); (case hg => rfl); (case hr => first | (go_simp; done) | (go_simp; rfl)); intro gb183 hg w35 hbox hb; have n0_ := Aside0.mk (Ql (by repeat (first | (with_reducible first | exact HB.out | apply Qe | apply Qb | apply Qf) | exact HB.out)) hb); have n1_ := Aside0.mk (hbox); have n2_ := Aside0.mk ((by rw [hg]; exact (Qk (by repeat (first | (with_reducible first | exact HB.out | apply Qe | apply Qb | apply Qf) | exact HB.out))) : w.heap.size ≤ gb183)); have n3_ := Aside0.mk ((by rw [hg]; exact (Qk (by repeat (first | (with_reducible first | exact HB.out | apply Qe | apply Qb | apply Qf) | exact HB.out))) : w.heap.size ≤ gb183)); clear HB; have HB := n0_; have BK183 := n1_; have GW183 := n2_; have GE183 := n3_; clear n0_ n1_ n2_ n3_; clear hb hbox hg) | ((with_reducible refine Qs (N := 3) rfl ?_); refine Qr ?hg (N := 3) ?hd (cs := #[.int .i64 a1_0, .int .i64 a1_1, .int .i64 a1_2, .int .i64 a1_3, .int .i64 a1_4, .int .i64 a1_5, .bool a1_6]) (t := 42) ?hr ?_; (case hd => rfl); (case hg => rfl); (case hr => first | (go_simp; done) | (go_simp; rfl)); intro gb184 hg w36 hbox hb; have n0_ := Aside0.mk (Qo (g := gb183) (o := .cells #[.int .i64 a0_0, .int .i64 a0_1, .int .i64 a0_2, .int .i64 a0_3, .int .i64 a0_4, .int .i64 a0_5, .bool a0_6] 42 (0, 0)) (by (with_reducible repeat (first | refine Qh ?_ _ | refine Qj ?_ | refine Qi ?_ _)); exact BK183.out) hb); have n1_ := Aside0.mk (Ql (by repeat (first | (with_reducible first | exact HB.out | apply Qe | apply Qb | apply Qf | refine Qg ?_ GE183.out) | exact HB.out)) hb); have n2_ := Aside0.mk (hbox); have n3_ := Aside0.mk ((by rw [hg]; exact (Qk (by repeat (first | (with_reducible first | exact HB.out | apply Qe | apply Qb | apply Qf | refine Qg ?_ GE183.out) | exact HB.out))) : w.heap.size ≤ gb184)); have n4_ := Aside0.mk ((by rw [hg]; exact (Qk (by repeat (first | (with_reducible first | exact HB.out | apply Qe | apply Qb | apply Qf | refine Qg ?_ GE183.out) | exact HB.out))) : w.heap.size ≤ gb184)); have n5_ := Aside0.mk ((by rw [hg]; exact Nat.ne_of_lt (Qt (g := gb183) (o := .cells #[.int .i64 a0_0, .int .i64 a0_1, .int .i64 a0_2, .int .i64 a0_3, .int .i64 a0_4, .int .i64 a0_5, .bool a0_6] 42 (0, 0)) (by (with_reducible repeat (first | refine Qh ?_ _ | refine Qj ?_ | refine Qi ?_ _)); exact BK183.out)) : gb183 ≠ gb184)); have n6_ := Aside0.mk ((by rw [hg]; exact Nat.ne_of_gt (Qt (g := gb183) (o := .cells #[.int .i64 a0_0, .int .i64 a0_1, .int .i64 a0_2, .int .i64 a0_3, .int .i64 a0_4, .int .i64 a0_5, .bool a0_6] 42 (0, 0)) (by (with_reducible repeat (first | refine Qh ?_ _ | refine Qj ?_ | refine Qi ?_ _)); exact BK183.out)) : gb184 ≠ gb183)); clear BK183; clear HB; have BK183 := n0_; have HB := n1_; have BK184 := n2_; have GW184 := n3_; have GE184 := n4_; have NB183_184 := n5_; have NB184_183 := n6_; clear n0_ n1_ n2_ n3_ n4_ n5_ n6_; clear hb hbox hg; have hnb37 := NB183_184.out; have hnc37 := NB184_183.out; have hcz38_0 : w36.cell? ⟨gb183, 0, none⟩ = some (.int .i64 a0_0) := (Qa BK183.out 0).trans rfl; have hcz38_1 : w36.cell? ⟨gb183, 1, none⟩ = some (.int .i64 a0_1) := (Qa BK183.out 1).trans rfl; have hcz38_2 : w36.cell? ⟨gb183, 2, none⟩ = some (.int .i64 a0_2) := (Qa BK183.out 2).trans rfl; have hcz38_3 : w36.cell? ⟨gb183, 3, none⟩ = some (.int .i64 a0_3) := (Qa BK183.out 3).trans rfl; have hcz38_4 : w36.cell? ⟨gb183, 4, none⟩ = some (.int .i64 a0_4) := (Qa BK183.out 4).trans rfl; have hcz38_5 : w36.cell? ⟨gb183, 5, none⟩ = some (.int .i64 a0_5) := (Qa BK183.out 5).trans rfl; have hcz38_6 : w36.cell? ⟨gb183, 6, none⟩ = some (.bool a0_6) := (Qa BK183.out 6).trans rfl; have hfz38_0 := Qc BK183.out 0; have hfz38_1 := Qc BK183.out 1; have hfz38_2 := Qc BK183.out 2; have hfz38_3 := Qc BK183.out 3; have hfz38_4 := Qc BK183.out 4; have hfz38_5 := Qc BK183.out 5; have hfz38_6 := Qc BK183.out 6; have hcz39_0 : w36.cell? ⟨gb184, 0, none⟩ = some (.int .i64 a1_0) := (Qa BK184.out 0).trans rfl; have hcz39_1 : w36.cell? ⟨gb184, 1, none⟩ = some (.int .i64 a1_1) := (Qa BK184.out 1).trans rfl; have hcz39_2 : w36.cell? ⟨gb184, 2, none⟩ = some (.int .i64 a1_2) := (Qa BK184.out 2).trans rfl; have hcz39_3 : w36.cell? ⟨gb184, 3, none⟩ = some (.int .i64 a1_3) := (Qa BK184.out 3).trans rfl; have hcz39_4 : w36.cell? ⟨gb184, 4, none⟩ = some (.int .i64 a1_4) := (Qa BK184.out 4).trans rfl; have hcz39_5 : w36.cell? ⟨gb184, 5, none⟩ = some (.int .i64 a1_5) := (Qa BK184.out 5).trans rfl; have hcz39_6 : w36.cell? ⟨gb184, 6, none⟩ = some (.bool a1_6) := (Qa BK184.out 6).trans rfl; have hfz39_0 := Qc BK184.out 0; have hfz39_1 := Qc BK184.out 1; have hfz39_2 := Qc BK184.out 2; have hfz39_3 := Qc BK184.out 3; have hfz39_4 := Qc BK184.out 4; have hfz39_5 := Qc BK184.out 5; have hfz39_6 := Qc BK184.out 6))
    go_ret
    exact ⟨by first | rfl | (simp [Qn, Qm] <;> rfl) | (simp [*, Qn, Qm] <;> rfl), by repeat (first | (with_reducible first | exact HB.out | apply Qe | apply Qb | apply Qf | refine Qg ?_ GE183.out | refine Qg ?_ GE184.out) | exact HB.out)⟩
  ·rw [if_neg c4] at H
   have c4b0 : (a0_1 == a1_1) = false := beq_eq_false_iff_ne.mpr c4
   have c4b1 : (a0_1 != a1_1) = true := bne_iff_ne.mpr c4
   obtain rfl := Option.some.inj H
   go_enter Try.func59, Try.ntmps59
   go_wp2_with (first | ((with_reducible refine Qs (N := 2) rfl ?_); refine Qr ?hg (N := 2) ?hd (cs := #[.int .i64 a0_0, .int .i64 a0_1, .int .i64 a0_2, .int .i64 a0_3, .int .i64 a0_4, .int .i64 a0_5, .bool a0_6]) (t := 42) ?hr ?_; (case hd => rfl); (case hg => rfl); (case hr => first | (go_simp; done) | (go_simp; rfl)); intro gb183 hg w40 hbox hb; have n0_ := Aside0.mk (Ql (by repeat (first | (with_reducible first | exact HB.out | apply Qe | apply Qb | apply Qf) | exact HB.out)) hb); have n1_ := Aside0.mk (hbox); have n2_ := Aside0.mk ((by rw [hg]; exact (Qk (by repeat (first | (with_reducible first | exact HB.out | apply Qe | apply Qb | apply Qf) | exact HB.out))) : w.heap.size ≤ gb183)); have n3_ := Aside0.mk ((by rw [hg]; exact (Qk (by repeat (first | (with_reducible first | exact HB.out | apply Qe | apply Qb | apply Qf) | exact HB.out))) : w.heap.size ≤ gb183)); clear HB; have HB := n0_; have BK183 := n1_; have GW183 := n2_; have GE183 := n3_; clear n0_ n1_ n2_ n3_; clear hb hbox hg) | ((with_reducible refine Qs (N := 3) rfl ?_); refine Qr ?hg (N := 3) ?hd (cs := #[.int .i64 a1_0, .int .i64 a1_1, .int .i64 a1_2, .int .i64 a1_3, .int .i64 a1_4, .int .i64 a1_5, .bool a1_6]) (t := 42) ?hr ?_; (case hd => rfl); (case hg => rfl); (case hr => first | (go_simp; done) | (go_simp; rfl)); intro gb184 hg w41 hbox hb; have n0_ := Aside0.mk (Qo (g := gb183) (o := .cells #[.int .i64 a0_0, .int .i64 a0_1, .int .i64 a0_2, .int .i64 a0_3, .int .i64 a0_4, .int .i64 a0_5, .bool a0_6] 42 (0, 0)) (by (with_reducible repeat (first | refine Qh ?_ _ | refine Qj ?_ | refine Qi ?_ _)); exact BK183.out) hb); have n1_ := Aside0.mk (Ql (by repeat (first | (with_reducible first | exact HB.out | apply Qe | apply Qb | apply Qf | refine Qg ?_ GE183.out) | exact HB.out)) hb); have n2_ := Aside0.mk (hbox); have n3_ := Aside0.mk ((by rw [hg]; exact (Qk (by repeat (first | (with_reducible first | exact HB.out | apply Qe | apply Qb | apply Qf | refine Qg ?_ GE183.out) | exact HB.out))) : w.heap.size ≤ gb184)); have n4_ := Aside0.mk ((by rw [hg]; exact (Qk (by repeat (first | (with_reducible first | exact HB.out | apply Qe | apply Qb | apply Qf | refine Qg ?_ GE183.out) | exact HB.out))) : w.heap.size ≤ gb184)); have n5_ := Aside0.mk ((by rw [hg]; exact Nat.ne_of_lt (Qt (g := gb183) (o := .cells #[.int .i64 a0_0, .int .i64 a0_1, .int .i64 a0_2, .int .i64 a0_3, .int .i64 a0_4, .int .i64 a0_5, .bool a0_6] 42 (0, 0)) (by (with_reducible repeat (first | refine Qh ?_ _ | refine Qj ?_ | refine Qi ?_ _)); exact BK183.out)) : gb183 ≠ gb184)); have n6_ := Aside0.mk ((by rw [hg]; exact Nat.ne_of_gt (Qt (g := gb183) (o := .cells #[.int .i64 a0_0, .int .i64 a0_1, .int .i64 a0_2, .int .i64 a0_3, .int .i64 a0_4, .int .i64 a0_5, .bool a0_6] 42 (0, 0)) (by (with_reducible repeat (first | refine Qh ?_ _ | refine Qj ?_ | refine Qi ?_ _)); exact BK183.out)) : gb184 ≠ gb183)); clear BK183; clear HB; have BK183 := n0_; have HB := n1_; have BK184 := n2_; have GW184 := n3_; have GE184 := n4_; have NB183_184 := n5_; have NB184_183 := n6_; clear n0_ n1_ n2_ n3_ n4_ n5_ n6_; clear hb hbox hg; have hnb42 := NB183_184.out; have hnc42 := NB184_183.out; have hcz43_0 : w41.cell? ⟨gb183, 0, none⟩ = some (.int .i64 a0_0) := (Qa BK183.out 0).trans rfl; have hcz43_1 : w41.cell? ⟨gb183, 1, none⟩ = some (.int .i64 a0_1) := (Qa BK183.out 1).trans rfl; have hcz43_2 : w41.cell? ⟨gb183, 2, none⟩ = some (.int .i64 a0_2) := (Qa BK183.out 2).trans rfl; have hcz43_3 : w41.cell? ⟨gb183, 3, none⟩ = some (.int .i64 a0_3) := (Qa BK183.out 3).trans rfl; have hcz43_4 : w41.cell? ⟨gb183, 4, none⟩ = some (.int .i64 a0_4) := (Qa BK183.out 4).trans rfl; have hcz43_5 : w41.cell? ⟨gb183, 5, none⟩ = some (.int .i64 a0_5) := (Qa BK183.out 5).trans rfl; have hcz43_6 : w41.cell? ⟨gb183, 6, none⟩ = some (.bool a0_6) := (Qa BK183.out 6).trans rfl; have hfz43_0 := Qc BK183.out 0; have hfz43_1 := Qc BK183.out 1; have hfz43_2 := Qc BK183.out 2; have hfz43_3 := Qc BK183.out 3; have hfz43_4 := Qc BK183.out 4; have hfz43_5 := Qc BK183.out 5; have hfz43_6 := Qc BK183.out 6; have hcz44_0 : w41.cell? ⟨gb184, 0, none⟩ = some (.int .i64 a1_0) := (Qa BK184.out 0).trans rfl; have hcz44_1 : w41.cell? ⟨gb184, 1, none⟩ = some (.int .i64 a1_1) := (Qa BK184.out 1).trans rfl; have hcz44_2 : w41.cell? ⟨gb184, 2, none⟩ = some (.int .i64 a1_2) := (Qa BK184.out 2).trans rfl; have hcz44_3 : w41.cell? ⟨gb184, 3, none⟩ = some (.int .i64 a1_3) := (Qa BK184.out 3).trans rfl; have hcz44_4 : w41.cell? ⟨gb184, 4, none⟩ = some (.int .i64 a1_4) := (Qa BK184.out 4).trans rfl; have hcz44_5 : w41.cell? ⟨gb184, 5, none⟩ = some (.int .i64 a1_5) := (Qa BK184.out 5).trans rfl; have hcz44_6 : w41.cell? ⟨gb184, 6, none⟩ = some (.bool a1_6) := (Qa BK184.out 6).trans rfl; have hfz44_0 := Qc BK184.out 0; have hfz44_1 := Qc BK184.out 1; have hfz44_2 := Qc BK184.out 2; have hfz44_3 := Qc BK184.out 3; have hfz44_4 := Qc BK184.out 4; have hfz44_5 := Qc BK184.out 5; have hfz44_6 := Qc BK184.out 6))
   go_ret
   exact ⟨by first | rfl | (simp [Qn, Qm] <;> rfl) | (simp [*, Qn, Qm] <;> rfl), by repeat (first | (with_reducible first | exact HB.out | apply Qe | apply Qb | apply Qf | refine Qg ?_ GE183.out | refine Qg ?_ GE184.out) | exact HB.out)⟩
 ·rw [if_neg c3] at H
  have c3b0 : (a0_0 == a1_0) = false := beq_eq_false_iff_ne.mpr c3
  have c3b1 : (a0_0 != a1_0) = true := bne_iff_ne.mpr c3
  obtain rfl := Option.some.inj H
  go_enter Try.func59, Try.ntmps59
  go_wp2_with (first | ((with_reducible refine Qs (N := 2) rfl ?_); refine Qr ?hg (N := 2) ?hd (cs := #[.int .i64 a0_0, .int .i64 a0_1, .int .i64 a0_2, .int .i64 a0_3, .int .i64 a0_4, .int .i64 a0_5, .bool a0_6]) (t := 42) ?hr ?_; (case hd => rfl); (case hg => rfl); (case hr => first | (go_simp; done) | (go_simp; rfl)); intro gb183 hg w45 hbox hb; have n0_ := Aside0.mk (Ql (by repeat (first | (with_reducible first | exact HB.out | apply Qe | apply Qb | apply Qf) | exact HB.out)) hb); have n1_ := Aside0.mk (hbox); have n2_ := Aside0.mk ((by rw [hg]; exact (Qk (by repeat (first | (with_reducible first | exact HB.out | apply Qe | apply Qb | apply Qf) | exact HB.out))) : w.heap.size ≤ gb183)); have n3_ := Aside0.mk ((by rw [hg]; exact (Qk (by repeat (first | (with_reducible first | exact HB.out | apply Qe | apply Qb | apply Qf) | exact HB.out))) : w.heap.size ≤ gb183)); clear HB; have HB := n0_; have BK183 := n1_; have GW183 := n2_; have GE183 := n3_; clear n0_ n1_ n2_ n3_; clear hb hbox hg) | ((with_reducible refine Qs (N := 3) rfl ?_); refine Qr ?hg (N := 3) ?hd (cs := #[.int .i64 a1_0, .int .i64 a1_1, .int .i64 a1_2, .int .i64 a1_3, .int .i64 a1_4, .int .i64 a1_5, .bool a1_6]) (t := 42) ?hr ?_; (case hd => rfl); (case hg => rfl); (case hr => first | (go_simp; done) | (go_simp; rfl)); intro gb184 hg w46 hbox hb; have n0_ := Aside0.mk (Qo (g := gb183) (o := .cells #[.int .i64 a0_0, .int .i64 a0_1, .int .i64 a0_2, .int .i64 a0_3, .int .i64 a0_4, .int .i64 a0_5, .bool a0_6] 42 (0, 0)) (by (with_reducible repeat (first | refine Qh ?_ _ | refine Qj ?_ | refine Qi ?_ _)); exact BK183.out) hb); have n1_ := Aside0.mk (Ql (by repeat (first | (with_reducible first | exact HB.out | apply Qe | apply Qb | apply Qf | refine Qg ?_ GE183.out) | exact HB.out)) hb); have n2_ := Aside0.mk (hbox); have n3_ := Aside0.mk ((by rw [hg]; exact (Qk (by repeat (first | (with_reducible first | exact HB.out | apply Qe | apply Qb | apply Qf | refine Qg ?_ GE183.out) | exact HB.out))) : w.heap.size ≤ gb184)); have n4_ := Aside0.mk ((by rw [hg]; exact (Qk (by repeat (first | (with_reducible first | exact HB.out | apply Qe | apply Qb | apply Qf | refine Qg ?_ GE183.out) | exact HB.out))) : w.heap.size ≤ gb184)); have n5_ := Aside0.mk ((by rw [hg]; exact Nat.ne_of_lt (Qt (g := gb183) (o := .cells #[.int .i64 a0_0, .int .i64 a0_1, .int .i64 a0_2, .int .i64 a0_3, .int .i64 a0_4, .int .i64 a0_5, .bool a0_6] 42 (0, 0)) (by (with_reducible repeat (first | refine Qh ?_ _ | refine Qj ?_ | refine Qi ?_ _)); exact BK183.out)) : gb183 ≠ gb184)); have n6_ := Aside0.mk ((by rw [hg]; exact Nat.ne_of_gt (Qt (g := gb183) (o := .cells #[.int .i64 a0_0, .int .i64 a0_1, .int .i64 a0_2, .int .i64 a0_3, .int .i64 a0_4, .int .i64 a0_5, .bool a0_6] 42 (0, 0)) (by (with_reducible repeat (first | refine Qh ?_ _ | refine Qj ?_ | refine Qi ?_ _)); exact BK183.out)) : gb184 ≠ gb183)); clear BK183; clear HB; have BK183 := n0_; have HB := n1_; have BK184 := n2_; have GW184 := n3_; have GE184 := n4_; have NB183_184 := n5_; have NB184_183 := n6_; clear n0_ n1_ n2_ n3_ n4_ n5_ n6_; clear hb hbox hg; have hnb47 := NB183_184.out; have hnc47 := NB184_183.out; have hcz48_0 : w46.cell? ⟨gb183, 0, none⟩ = some (.int .i64 a0_0) := (Qa BK183.out 0).trans rfl; have hcz48_1 : w46.cell? ⟨gb183, 1, none⟩ = some (.int .i64 a0_1) := (Qa BK183.out 1).trans rfl; have hcz48_2 : w46.cell? ⟨gb183, 2, none⟩ = some (.int .i64 a0_2) := (Qa BK183.out 2).trans rfl; have hcz48_3 : w46.cell? ⟨gb183, 3, none⟩ = some (.int .i64 a0_3) := (Qa BK183.out 3).trans rfl; have hcz48_4 : w46.cell? ⟨gb183, 4, none⟩ = some (.int .i64 a0_4) := (Qa BK183.out 4).trans rfl; have hcz48_5 : w46.cell? ⟨gb183, 5, none⟩ = some (.int .i64 a0_5) := (Qa BK183.out 5).trans rfl; have hcz48_6 : w46.cell? ⟨gb183, 6, none⟩ = some (.bool a0_6) := (Qa BK183.out 6).trans rfl; have hfz48_0 := Qc BK183.out 0; have hfz48_1 := Qc BK183.out 1; have hfz48_2 := Qc BK183.out 2; have hfz48_3 := Qc BK183.out 3; have hfz48_4 := Qc BK183.out 4; have hfz48_5 := Qc BK183.out 5; have hfz48_6 := Qc BK183.out 6; have hcz49_0 : w46.cell? ⟨gb184, 0, none⟩ = some (.int .i64 a1_0) := (Qa BK184.out 0).trans rfl; have hcz49_1 : w46.cell? ⟨gb184, 1, none⟩ = some (.int .i64 a1_1) := (Qa BK184.out 1).trans rfl; have hcz49_2 : w46.cell? ⟨gb184, 2, none⟩ = some (.int .i64 a1_2) := (Qa BK184.out 2).trans rfl; have hcz49_3 : w46.cell? ⟨gb184, 3, none⟩ = some (.int .i64 a1_3) := (Qa BK184.out 3).trans rfl; have hcz49_4 : w46.cell? ⟨gb184, 4, none⟩ = some (.int .i64 a1_4) := (Qa BK184.out 4).trans rfl; have hcz49_5 : w46.cell? ⟨gb184, 5, none⟩ = some (.int .i64 a1_5) := (Qa BK184.out 5).trans rfl; have hcz49_6 : w46.cell? ⟨gb184, 6, none⟩ = some (.bool a1_6) := (Qa BK184.out 6).trans rfl; have hfz49_0 := Qc BK184.out 0; have hfz49_1 := Qc BK184.out 1; have hfz49_2 := Qc BK184.out 2; have hfz49_3 := Qc BK184.out 3; have hfz49_4 := Qc BK184.out 4; have hfz49_5 := Qc BK184.out 5; have hfz49_6 := Qc BK184.out 6))
  go_ret
  exact ⟨by first | rfl | (simp [Qn, Qm] <;> rfl) | (simp [*, Qn, Qm] <;> rfl), by repeat (first | (with_reducible first | exact HB.out | apply Qe | apply Qb | apply Qf | refine Qg ?_ GE183.out | refine Qg ?_ GE184.out) | exact HB.out)⟩
def laws_eqHeld.f (a0_0 : Int) (a0_1 : Bool) (a0_2 : Int) (a0_3 : Int) (a0_4 : Int) (a0_5 : Int) (a0_6 : Int) (a0_7 : Int) (a0_8 : Bool) (a1_0 : Int) (a1_1 : Bool) (a1_2 : Int) (a1_3 : Int) (a1_4 : Int) (a1_5 : Int) (a1_6 : Int) (a1_7 : Int) (a1_8 : Bool) : Option (Bool) := if a0_0 = a1_0 then (if (a0_1 != a1_1) = true then (some false) else ((laws_eqRoute.f a0_2 a0_3 a0_4 a0_5 a0_6 a0_7 a0_8 a1_2 a1_3 a1_4 a1_5 a1_6 a1_7 a1_8).bind fun t187 => (if t187 = true then (some true) else (some false)))) else (some false)
set_option maxHeartbeats 8000000 in
set_option maxRecDepth 100000 in
theorem laws_eqHeld.calls (a0_0 : Int) (a0_1 : Bool) (a0_2 : Int) (a0_3 : Int) (a0_4 : Int) (a0_5 : Int) (a0_6 : Int) (a0_7 : Int) (a0_8 : Bool) (a1_0 : Int) (a1_1 : Bool) (a1_2 : Int) (a1_3 : Int) (a1_4 : Int) (a1_5 : Int) (a1_6 : Int) (a1_7 : Int) (a1_8 : Bool) (r : Bool) (w : World) (h : laws_eqHeld.f a0_0 a0_1 a0_2 a0_3 a0_4 a0_5 a0_6 a0_7 a0_8 a1_0 a1_1 a1_2 a1_3 a1_4 a1_5 a1_6 a1_7 a1_8 = some r) :
  Calls Try.prog 60 #[.agg #[.int .i64 a0_0, .bool a0_1, .int .i64 a0_2, .int .i64 a0_3, .int .i64 a0_4, .int .i64 a0_5, .int .i64 a0_6, .int .i64 a0_7, .bool a0_8], .agg #[.int .i64 a1_0, .bool a1_1, .int .i64 a1_2, .int .i64 a1_3, .int .i64 a1_4, .int .i64 a1_5, .int .i64 a1_6, .int .i64 a1_7, .bool a1_8]] w fun e w' => e = .returned (.bool r) ∧ Below w.heap.size w w' := by
 have hu73 := Try.underlying73
 have hu42 := Try.underlying42
 have HB := Aside0.mk (Below.refl w.heap.size w)
 have H : (if a0_0 = a1_0 then (if (a0_1 != a1_1) = true then (some false) else ((laws_eqRoute.f a0_2 a0_3 a0_4 a0_5 a0_6 a0_7 a0_8 a1_2 a1_3 a1_4 a1_5 a1_6 a1_7 a1_8).bind fun t187 => (if t187 = true then (some true) else (some false)))) else (some false)) = some r := h
 clear h
 by_cases c3 : a0_0 = a1_0
 ·rw [if_pos c3] at H
  have c3b0 : (a0_0 == a1_0) = true := beq_iff_eq.mpr c3
  have c3b1 : (a0_0 != a1_0) = false := bne_eq_false_iff_eq.mpr c3
  clear c3
  by_cases c4 : (a0_1 != a1_1) = true
  ·rw [if_pos c4] at H
   have c4b0 : (a0_1 != a1_1) = true := c4
   (try (have c4b1 : decide (a0_1 = a1_1) = false := by simpa using c4))
   (try (have c4b2 : (a0_1 == a1_1) = false := by simpa using c4))
   (try (have c4b3 : ¬ (a0_1 = a1_1) := by simpa using c4))
   clear c4
   obtain rfl := Option.some.inj H
   go_enter Try.func60, Try.ntmps60
   go_wp2_with (first | ((with_reducible refine Qs (N := 2) rfl ?_); refine Qr ?hg (N := 2) ?hd (cs := #[.int .i64 a0_0, .bool a0_1, .int .i64 a0_2, .int .i64 a0_3, .int .i64 a0_4, .int .i64 a0_5, .int .i64 a0_6, .int .i64 a0_7, .bool a0_8]) (t := 73) ?hr ?_; (case hd => rfl); (case hg => rfl); (case hr => first | (go_simp; done) | (go_simp; rfl)); intro gb185 hg w5 hbox hb; have n0_ := Aside0.mk (Ql (by repeat (first | (with_reducible first | exact HB.out | apply Qe | apply Qb | apply Qf) | exact HB.out)) hb); have n1_ := Aside0.mk (hbox); have n2_ := Aside0.mk ((by rw [hg]; exact (Qk (by repeat (first | (with_reducible first | exact HB.out | apply Qe | apply Qb | apply Qf) | exact HB.out))) : w.heap.size ≤ gb185)); have n3_ := Aside0.mk ((by rw [hg]; exact (Qk (by repeat (first | (with_reducible first | exact HB.out | apply Qe | apply Qb | apply Qf) | exact HB.out))) : w.heap.size ≤ gb185)); clear HB; have HB := n0_; have BK185 := n1_; have GW185 := n2_; have GE185 := n3_; clear n0_ n1_ n2_ n3_; clear hb hbox hg) | ((with_reducible refine Qs (N := 3) rfl ?_); refine Qr ?hg (N := 3) ?hd (cs := #[.int .i64 a1_0, .bool a1_1, .int .i64 a1_2, .int .i64 a1_3, .int .i64 a1_4, .int .i64 a1_5, .int .i64 a1_6, .int .i64 a1_7, .bool a1_8]) (t := 73) ?hr ?_; (case hd => rfl); (case hg => rfl); (case hr => first | (go_simp; done) | (go_simp; rfl)); intro gb186 hg w6 hbox hb; have n0_ := Aside0.mk (Qo (g := gb185) (o := .cells #[.int .i64 a0_0, .bool a0_1, .int .i64 a0_2, .int .i64 a0_3, .int .i64 a0_4, .int .i64 a0_5, .int .i64 a0_6, .int .i64 a0_7, .bool a0_8] 73 (0, 0)) (by (with_reducible repeat (first | refine Qh ?_ _ | refine Qj ?_ | refine Qi ?_ _)); exact BK185.out) hb); have n1_ := Aside0.mk (Ql (by repeat (first | (with_reducible first | exact HB.out | apply Qe | apply Qb | apply Qf | refine Qg ?_ GE185.out) | exact HB.out)) hb); have n2_ := Aside0.mk (hbox); have n3_ := Aside0.mk ((by rw [hg]; exact (Qk (by repeat (first | (with_reducible first | exact HB.out | apply Qe | apply Qb | apply Qf | refine Qg ?_ GE185.out) | exact HB.out))) : w.heap.size ≤ gb186)); have n4_ := Aside0.mk ((by rw [hg]; exact (Qk (by repeat (first | (with_reducible first | exact HB.out | apply Qe | apply Qb | apply Qf | refine Qg ?_ GE185.out) | exact HB.out))) : w.heap.size ≤ gb186)); have n5_ := Aside0.mk ((by rw [hg]; exact Nat.ne_of_lt (Qt (g := gb185) (o := .cells #[.int .i64 a0_0, .bool a0_1, .int .i64 a0_2, .int .i64 a0_3, .int .i64 a0_4, .int .i64 a0_5, .int .i64 a0_6, .int .i64 a0_7, .bool a0_8] 73 (0, 0)) (by (with_reducible repeat (first | refine Qh ?_ _ | refine Qj ?_ | refine Qi ?_ _)); exact BK185.out)) : gb185 ≠ gb186)); have n6_ := Aside0.mk ((by rw [hg]; exact Nat.ne_of_gt (Qt (g := gb185) (o := .cells #[.int .i64 a0_0, .bool a0_1, .int .i64 a0_2, .int .i64 a0_3, .int .i64 a0_4, .int .i64 a0_5, .int .i64 a0_6, .int .i64 a0_7, .bool a0_8] 73 (0, 0)) (by (with_reducible repeat (first | refine Qh ?_ _ | refine Qj ?_ | refine Qi ?_ _)); exact BK185.out)) : gb186 ≠ gb185)); clear BK185; clear HB; have BK185 := n0_; have HB := n1_; have BK186 := n2_; have GW186 := n3_; have GE186 := n4_; have NB185_186 := n5_; have NB186_185 := n6_; clear n0_ n1_ n2_ n3_ n4_ n5_ n6_; clear hb hbox hg; have hnb7 := NB185_186.out; have hnc7 := NB186_185.out; have hcz8_0 : w6.cell? ⟨gb185, 0, none⟩ = some (.int .i64 a0_0) := (Qa BK185.out 0).trans rfl; have hcz8_1 : w6.cell? ⟨gb185, 1, none⟩ = some (.bool a0_1) := (Qa BK185.out 1).trans rfl; have hcz8_2 : w6.cell? ⟨gb185, 2, none⟩ = some (.int .i64 a0_2) := (Qa BK185.out 2).trans rfl; have hcz8_3 : w6.cell? ⟨gb185, 3, none⟩ = some (.int .i64 a0_3) := (Qa BK185.out 3).trans rfl; have hcz8_4 : w6.cell? ⟨gb185, 4, none⟩ = some (.int .i64 a0_4) := (Qa BK185.out 4).trans rfl; have hcz8_5 : w6.cell? ⟨gb185, 5, none⟩ = some (.int .i64 a0_5) := (Qa BK185.out 5).trans rfl; have hcz8_6 : w6.cell? ⟨gb185, 6, none⟩ = some (.int .i64 a0_6) := (Qa BK185.out 6).trans rfl; have hcz8_7 : w6.cell? ⟨gb185, 7, none⟩ = some (.int .i64 a0_7) := (Qa BK185.out 7).trans rfl; have hcz8_8 : w6.cell? ⟨gb185, 8, none⟩ = some (.bool a0_8) := (Qa BK185.out 8).trans rfl; have hfz8_0 := Qc BK185.out 0; have hfz8_1 := Qc BK185.out 1; have hfz8_2 := Qc BK185.out 2; have hfz8_3 := Qc BK185.out 3; have hfz8_4 := Qc BK185.out 4; have hfz8_5 := Qc BK185.out 5; have hfz8_6 := Qc BK185.out 6; have hfz8_7 := Qc BK185.out 7; have hfz8_8 := Qc BK185.out 8; have hcz9_0 : w6.cell? ⟨gb186, 0, none⟩ = some (.int .i64 a1_0) := (Qa BK186.out 0).trans rfl; have hcz9_1 : w6.cell? ⟨gb186, 1, none⟩ = some (.bool a1_1) := (Qa BK186.out 1).trans rfl; have hcz9_2 : w6.cell? ⟨gb186, 2, none⟩ = some (.int .i64 a1_2) := (Qa BK186.out 2).trans rfl; have hcz9_3 : w6.cell? ⟨gb186, 3, none⟩ = some (.int .i64 a1_3) := (Qa BK186.out 3).trans rfl; have hcz9_4 : w6.cell? ⟨gb186, 4, none⟩ = some (.int .i64 a1_4) := (Qa BK186.out 4).trans rfl; have hcz9_5 : w6.cell? ⟨gb186, 5, none⟩ = some (.int .i64 a1_5) := (Qa BK186.out 5).trans rfl; have hcz9_6 : w6.cell? ⟨gb186, 6, none⟩ = some (.int .i64 a1_6) := (Qa BK186.out 6).trans rfl; have hcz9_7 : w6.cell? ⟨gb186, 7, none⟩ = some (.int .i64 a1_7) := (Qa BK186.out 7).trans rfl; have hcz9_8 : w6.cell? ⟨gb186, 8, none⟩ = some (.bool a1_8) := (Qa BK186.out 8).trans rfl; have hfz9_0 := Qc BK186.out 0; have hfz9_1 := Qc BK186.out 1; have hfz9_2 := Qc BK186.out 2; have hfz9_3 := Qc BK186.out 3; have hfz9_4 := Qc BK186.out 4; have hfz9_5 := Qc BK186.out 5; have hfz9_6 := Qc BK186.out 6; have hfz9_7 := Qc BK186.out 7; have hfz9_8 := Qc BK186.out 8))
   go_ret
   exact ⟨by first | rfl | (simp [Qn, Qm] <;> rfl) | (simp [*, Qn, Qm] <;> rfl), by repeat (first | (with_reducible first | exact HB.out | apply Qe | apply Qb | apply Qf | refine Qg ?_ GE185.out | refine Qg ?_ GE186.out) | exact HB.out)⟩
  ·rw [if_neg c4] at H
   have c4b0 : (a0_1 != a1_1) = false := by simpa using c4
   (try (have c4b1 : decide (a0_1 = a1_1) = true := by simpa using c4))
   (try (have c4b2 : (a0_1 == a1_1) = true := by simpa using c4))
   clear c4
   replace H := Option.bind_eq_some_iff.mp H
   obtain ⟨t187, A100, H⟩ := H
   replace H : (if t187 = true then (some true) else (some false)) = some r := H
   have A10 := Aside0.mk A100
   clear A100
   by_cases c11 : t187 = true
   ·subst c11
    have H1 : (some true) = some r := by rw [if_pos rfl] at H; exact H
    clear H
    have H := H1
    clear H1
    obtain rfl := Option.some.inj H
    go_enter Try.func60, Try.ntmps60
    go_wp2_with (first | ((with_reducible refine Qs (N := 2) rfl ?_); refine Qr ?hg (N := 2) ?hd (cs := #[.int .i64 a0_0, .bool a0_1, .int .i64 a0_2, .int .i64 a0_3, .int .i64 a0_4, .int .i64 a0_5, .int .i64 a0_6, .int .i64 a0_7, .bool a0_8]) (t := 73) ?hr ?_; (case hd => rfl); (case hg => rfl); (case hr => first | (go_simp; done) | (go_simp; rfl)); intro gb185 hg w12 hbox hb; have n0_ := Aside0.mk (Ql (by repeat (first | (with_reducible first | exact HB.out | apply Qe | apply Qb | apply Qf) | exact HB.out)) hb); have n1_ := Aside0.mk (hbox); have n2_ := Aside0.mk ((by rw [hg]; exact (Qk (by repeat (first | (with_reducible first | exact HB.out | apply Qe | apply Qb | apply Qf) | exact HB.out))) : w.heap.size ≤ gb185)); have n3_ := Aside0.mk ((by rw [hg]; exact (Qk (by repeat (first | (with_reducible first | exact HB.out | apply Qe | apply Qb | apply Qf) | exact HB.out))) : w.heap.size ≤ gb185)); clear HB; have HB := n0_; have BK185 := n1_; have GW185 := n2_; have GE185 := n3_; clear n0_ n1_ n2_ n3_; clear hb hbox hg) | ((with_reducible refine Qs (N := 3) rfl ?_); refine Qr ?hg (N := 3) ?hd (cs := #[.int .i64 a1_0, .bool a1_1, .int .i64 a1_2, .int .i64 a1_3, .int .i64 a1_4, .int .i64 a1_5, .int .i64 a1_6, .int .i64 a1_7, .bool a1_8]) (t := 73) ?hr ?_; (case hd => rfl); (case hg => rfl); (case hr => first | (go_simp; done) | (go_simp; rfl)); intro gb186 hg w13 hbox hb; have n0_ := Aside0.mk (Qo (g := gb185) (o := .cells #[.int .i64 a0_0, .bool a0_1, .int .i64 a0_2, .int .i64 a0_3, .int .i64 a0_4, .int .i64 a0_5, .int .i64 a0_6, .int .i64 a0_7, .bool a0_8] 73 (0, 0)) (by (with_reducible repeat (first | refine Qh ?_ _ | refine Qj ?_ | refine Qi ?_ _)); exact BK185.out) hb); have n1_ := Aside0.mk (Ql (by repeat (first | (with_reducible first | exact HB.out | apply Qe | apply Qb | apply Qf | refine Qg ?_ GE185.out) | exact HB.out)) hb); have n2_ := Aside0.mk (hbox); have n3_ := Aside0.mk ((by rw [hg]; exact (Qk (by repeat (first | (with_reducible first | exact HB.out | apply Qe | apply Qb | apply Qf | refine Qg ?_ GE185.out) | exact HB.out))) : w.heap.size ≤ gb186)); have n4_ := Aside0.mk ((by rw [hg]; exact (Qk (by repeat (first | (with_reducible first | exact HB.out | apply Qe | apply Qb | apply Qf | refine Qg ?_ GE185.out) | exact HB.out))) : w.heap.size ≤ gb186)); have n5_ := Aside0.mk ((by rw [hg]; exact Nat.ne_of_lt (Qt (g := gb185) (o := .cells #[.int .i64 a0_0, .bool a0_1, .int .i64 a0_2, .int .i64 a0_3, .int .i64 a0_4, .int .i64 a0_5, .int .i64 a0_6, .int .i64 a0_7, .bool a0_8] 73 (0, 0)) (by (with_reducible repeat (first | refine Qh ?_ _ | refine Qj ?_ | refine Qi ?_ _)); exact BK185.out)) : gb185 ≠ gb186)); have n6_ := Aside0.mk ((by rw [hg]; exact Nat.ne_of_gt (Qt (g := gb185) (o := .cells #[.int .i64 a0_0, .bool a0_1, .int .i64 a0_2, .int .i64 a0_3, .int .i64 a0_4, .int .i64 a0_5, .int .i64 a0_6, .int .i64 a0_7, .bool a0_8] 73 (0, 0)) (by (with_reducible repeat (first | refine Qh ?_ _ | refine Qj ?_ | refine Qi ?_ _)); exact BK185.out)) : gb186 ≠ gb185)); clear BK185; clear HB; have BK185 := n0_; have HB := n1_; have BK186 := n2_; have GW186 := n3_; have GE186 := n4_; have NB185_186 := n5_; have NB186_185 := n6_; clear n0_ n1_ n2_ n3_ n4_ n5_ n6_; clear hb hbox hg; have hnb14 := NB185_186.out; have hnc14 := NB186_185.out; have hcz15_0 : w13.cell? ⟨gb185, 0, none⟩ = some (.int .i64 a0_0) := (Qa BK185.out 0).trans rfl; have hcz15_1 : w13.cell? ⟨gb185, 1, none⟩ = some (.bool a0_1) := (Qa BK185.out 1).trans rfl; have hcz15_2 : w13.cell? ⟨gb185, 2, none⟩ = some (.int .i64 a0_2) := (Qa BK185.out 2).trans rfl; have hcz15_3 : w13.cell? ⟨gb185, 3, none⟩ = some (.int .i64 a0_3) := (Qa BK185.out 3).trans rfl; have hcz15_4 : w13.cell? ⟨gb185, 4, none⟩ = some (.int .i64 a0_4) := (Qa BK185.out 4).trans rfl; have hcz15_5 : w13.cell? ⟨gb185, 5, none⟩ = some (.int .i64 a0_5) := (Qa BK185.out 5).trans rfl; have hcz15_6 : w13.cell? ⟨gb185, 6, none⟩ = some (.int .i64 a0_6) := (Qa BK185.out 6).trans rfl; have hcz15_7 : w13.cell? ⟨gb185, 7, none⟩ = some (.int .i64 a0_7) := (Qa BK185.out 7).trans rfl; have hcz15_8 : w13.cell? ⟨gb185, 8, none⟩ = some (.bool a0_8) := (Qa BK185.out 8).trans rfl; have hfz15_0 := Qc BK185.out 0; have hfz15_1 := Qc BK185.out 1; have hfz15_2 := Qc BK185.out 2; have hfz15_3 := Qc BK185.out 3; have hfz15_4 := Qc BK185.out 4; have hfz15_5 := Qc BK185.out 5; have hfz15_6 := Qc BK185.out 6; have hfz15_7 := Qc BK185.out 7; have hfz15_8 := Qc BK185.out 8; have hcz16_0 : w13.cell? ⟨gb186, 0, none⟩ = some (.int .i64 a1_0) := (Qa BK186.out 0).trans rfl; have hcz16_1 : w13.cell? ⟨gb186, 1, none⟩ = some (.bool a1_1) := (Qa BK186.out 1).trans rfl; have hcz16_2 : w13.cell? ⟨gb186, 2, none⟩ = some (.int .i64 a1_2) := (Qa BK186.out 2).trans rfl; have hcz16_3 : w13.cell? ⟨gb186, 3, none⟩ = some (.int .i64 a1_3) := (Qa BK186.out 3).trans rfl; have hcz16_4 : w13.cell? ⟨gb186, 4, none⟩ = some (.int .i64 a1_4) := (Qa BK186.out 4).trans rfl; have hcz16_5 : w13.cell? ⟨gb186, 5, none⟩ = some (.int .i64 a1_5) := (Qa BK186.out 5).trans rfl; have hcz16_6 : w13.cell? ⟨gb186, 6, none⟩ = some (.int .i64 a1_6) := (Qa BK186.out 6).trans rfl; have hcz16_7 : w13.cell? ⟨gb186, 7, none⟩ = some (.int .i64 a1_7) := (Qa BK186.out 7).trans rfl; have hcz16_8 : w13.cell? ⟨gb186, 8, none⟩ = some (.bool a1_8) := (Qa BK186.out 8).trans rfl; have hfz16_0 := Qc BK186.out 0; have hfz16_1 := Qc BK186.out 1; have hfz16_2 := Qc BK186.out 2; have hfz16_3 := Qc BK186.out 3; have hfz16_4 := Qc BK186.out 4; have hfz16_5 := Qc BK186.out 5; have hfz16_6 := Qc BK186.out 6; have hfz16_7 := Qc BK186.out 7; have hfz16_8 := Qc BK186.out 8) | ((with_reducible refine Qq (f := 59) rfl ?_); refine Qy (some 19) rfl rfl Try.func59 (by kernel_rfl) rfl #[.agg #[.int .i64 a0_2, .int .i64 a0_3, .int .i64 a0_4, .int .i64 a0_5, .int .i64 a0_6, .int .i64 a0_7, .bool a0_8], .agg #[.int .i64 a1_2, .int .i64 a1_3, .int .i64 a1_4, .int .i64 a1_5, .int .i64 a1_6, .int .i64 a1_7, .bool a1_8]] rfl (by (try simp only [List.map_toArray, List.map_cons, List.map_nil]); first | done | rfl | (simp only [List.length_drop, List.length_take]; rfl)) ?_; (with_reducible refine (laws_eqRoute.calls a0_2 a0_3 a0_4 a0_5 a0_6 a0_7 a0_8 a1_2 a1_3 a1_4 a1_5 a1_6 a1_7 a1_8 true _ A10.out).mono ?_); rintro e w17 ⟨rfl, hb⟩; refine ⟨_, rfl, ?_⟩; have n0_ := Aside0.mk (Qo (g := gb185) (o := .cells #[.int .i64 a0_0, .bool a0_1, .int .i64 a0_2, .int .i64 a0_3, .int .i64 a0_4, .int .i64 a0_5, .int .i64 a0_6, .int .i64 a0_7, .bool a0_8] 73 (0, 0)) (by (with_reducible repeat (first | refine Qh ?_ _ | refine Qj ?_ | refine Qi ?_ _)); exact BK185.out) hb); have n1_ := Aside0.mk (Qo (g := gb186) (o := .cells #[.int .i64 a1_0, .bool a1_1, .int .i64 a1_2, .int .i64 a1_3, .int .i64 a1_4, .int .i64 a1_5, .int .i64 a1_6, .int .i64 a1_7, .bool a1_8] 73 (0, 0)) (by (with_reducible repeat (first | refine Qh ?_ _ | refine Qj ?_ | refine Qi ?_ _)); exact BK186.out) hb); have n2_ := Aside0.mk (Ql (by repeat (first | (with_reducible first | exact HB.out | apply Qe | apply Qb | apply Qf | refine Qg ?_ GE185.out | refine Qg ?_ GE186.out) | exact HB.out)) hb); clear BK185; clear BK186; clear HB; have BK185 := n0_; have BK186 := n1_; have HB := n2_; clear n0_ n1_ n2_; (try clear hb); (try clear hb2); (try clear hk); (try clear hi)))
    go_ret
    exact ⟨by first | rfl | (simp [Qn, Qm] <;> rfl) | (simp [*, Qn, Qm] <;> rfl), by repeat (first | (with_reducible first | exact HB.out | apply Qe | apply Qb | apply Qf | refine Qg ?_ GE185.out | refine Qg ?_ GE186.out) | exact HB.out)⟩
   ·replace c11 := Bool.eq_false_iff.mpr c11
    subst c11
    have H1 : (some false) = some r := by rw [if_neg (show ¬ (false = true) by decide)] at H; exact H
    clear H
    have H := H1
    clear H1
    obtain rfl := Option.some.inj H
    go_enter Try.func60, Try.ntmps60
    go_wp2_with (first | ((with_reducible refine Qs (N := 2) rfl ?_); refine Qr ?hg (N := 2) ?hd (cs := #[.int .i64 a0_0, .bool a0_1, .int .i64 a0_2, .int .i64 a0_3, .int .i64 a0_4, .int .i64 a0_5, .int .i64 a0_6, .int .i64 a0_7, .bool a0_8]) (t := 73) ?hr ?_; (case hd => rfl); (case hg => rfl); (case hr => first | (go_simp; done) | (go_simp; rfl)); intro gb185 hg w18 hbox hb; have n0_ := Aside0.mk (Ql (by repeat (first | (with_reducible first | exact HB.out | apply Qe | apply Qb | apply Qf) | exact HB.out)) hb); have n1_ := Aside0.mk (hbox); have n2_ := Aside0.mk ((by rw [hg]; exact (Qk (by repeat (first | (with_reducible first | exact HB.out | apply Qe | apply Qb | apply Qf) | exact HB.out))) : w.heap.size ≤ gb185)); have n3_ := Aside0.mk ((by rw [hg]; exact (Qk (by repeat (first | (with_reducible first | exact HB.out | apply Qe | apply Qb | apply Qf) | exact HB.out))) : w.heap.size ≤ gb185)); clear HB; have HB := n0_; have BK185 := n1_; have GW185 := n2_; have GE185 := n3_; clear n0_ n1_ n2_ n3_; clear hb hbox hg) | ((with_reducible refine Qs (N := 3) rfl ?_); refine Qr ?hg (N := 3) ?hd (cs := #[.int .i64 a1_0, .bool a1_1, .int .i64 a1_2, .int .i64 a1_3, .int .i64 a1_4, .int .i64 a1_5, .int .i64 a1_6, .int .i64 a1_7, .bool a1_8]) (t := 73) ?hr ?_; (case hd => rfl); (case hg => rfl); (case hr => first | (go_simp; done) | (go_simp; rfl)); intro gb186 hg w19 hbox hb; have n0_ := Aside0.mk (Qo (g := gb185) (o := .cells #[.int .i64 a0_0, .bool a0_1, .int .i64 a0_2, .int .i64 a0_3, .int .i64 a0_4, .int .i64 a0_5, .int .i64 a0_6, .int .i64 a0_7, .bool a0_8] 73 (0, 0)) (by (with_reducible repeat (first | refine Qh ?_ _ | refine Qj ?_ | refine Qi ?_ _)); exact BK185.out) hb); have n1_ := Aside0.mk (Ql (by repeat (first | (with_reducible first | exact HB.out | apply Qe | apply Qb | apply Qf | refine Qg ?_ GE185.out) | exact HB.out)) hb); have n2_ := Aside0.mk (hbox); have n3_ := Aside0.mk ((by rw [hg]; exact (Qk (by repeat (first | (with_reducible first | exact HB.out | apply Qe | apply Qb | apply Qf | refine Qg ?_ GE185.out) | exact HB.out))) : w.heap.size ≤ gb186)); have n4_ := Aside0.mk ((by rw [hg]; exact (Qk (by repeat (first | (with_reducible first | exact HB.out | apply Qe | apply Qb | apply Qf | refine Qg ?_ GE185.out) | exact HB.out))) : w.heap.size ≤ gb186)); have n5_ := Aside0.mk ((by rw [hg]; exact Nat.ne_of_lt (Qt (g := gb185) (o := .cells #[.int .i64 a0_0, .bool a0_1, .int .i64 a0_2, .int .i64 a0_3, .int .i64 a0_4, .int .i64 a0_5, .int .i64 a0_6, .int .i64 a0_7, .bool a0_8] 73 (0, 0)) (by (with_reducible repeat (first | refine Qh ?_ _ | refine Qj ?_ | refine Qi ?_ _)); exact BK185.out)) : gb185 ≠ gb186)); have n6_ := Aside0.mk ((by rw [hg]; exact Nat.ne_of_gt (Qt (g := gb185) (o := .cells #[.int .i64 a0_0, .bool a0_1, .int .i64 a0_2, .int .i64 a0_3, .int .i64 a0_4, .int .i64 a0_5, .int .i64 a0_6, .int .i64 a0_7, .bool a0_8] 73 (0, 0)) (by (with_reducible repeat (first | refine Qh ?_ _ | refine Qj ?_ | refine Qi ?_ _)); exact BK185.out)) : gb186 ≠ gb185)); clear BK185; clear HB; have BK185 := n0_; have HB := n1_; have BK186 := n2_; have GW186 := n3_; have GE186 := n4_; have NB185_186 := n5_; have NB186_185 := n6_; clear n0_ n1_ n2_ n3_ n4_ n5_ n6_; clear hb hbox hg; have hnb20 := NB185_186.out; have hnc20 := NB186_185.out; have hcz21_0 : w19.cell? ⟨gb185, 0, none⟩ = some (.int .i64 a0_0) := (Qa BK185.out 0).trans rfl; have hcz21_1 : w19.cell? ⟨gb185, 1, none⟩ = some (.bool a0_1) := (Qa BK185.out 1).trans rfl; have hcz21_2 : w19.cell? ⟨gb185, 2, none⟩ = some (.int .i64 a0_2) := (Qa BK185.out 2).trans rfl; have hcz21_3 : w19.cell? ⟨gb185, 3, none⟩ = some (.int .i64 a0_3) := (Qa BK185.out 3).trans rfl; have hcz21_4 : w19.cell? ⟨gb185, 4, none⟩ = some (.int .i64 a0_4) := (Qa BK185.out 4).trans rfl; have hcz21_5 : w19.cell? ⟨gb185, 5, none⟩ = some (.int .i64 a0_5) := (Qa BK185.out 5).trans rfl; have hcz21_6 : w19.cell? ⟨gb185, 6, none⟩ = some (.int .i64 a0_6) := (Qa BK185.out 6).trans rfl; have hcz21_7 : w19.cell? ⟨gb185, 7, none⟩ = some (.int .i64 a0_7) := (Qa BK185.out 7).trans rfl; have hcz21_8 : w19.cell? ⟨gb185, 8, none⟩ = some (.bool a0_8) := (Qa BK185.out 8).trans rfl; have hfz21_0 := Qc BK185.out 0; have hfz21_1 := Qc BK185.out 1; have hfz21_2 := Qc BK185.out 2; have hfz21_3 := Qc BK185.out 3; have hfz21_4 := Qc BK185.out 4; have hfz21_5 := Qc BK185.out 5; have hfz21_6 := Qc BK185.out 6; have hfz21_7 := Qc BK185.out 7; have hfz21_8 := Qc BK185.out 8; have hcz22_0 : w19.cell? ⟨gb186, 0, none⟩ = some (.int .i64 a1_0) := (Qa BK186.out 0).trans rfl; have hcz22_1 : w19.cell? ⟨gb186, 1, none⟩ = some (.bool a1_1) := (Qa BK186.out 1).trans rfl; have hcz22_2 : w19.cell? ⟨gb186, 2, none⟩ = some (.int .i64 a1_2) := (Qa BK186.out 2).trans rfl; have hcz22_3 : w19.cell? ⟨gb186, 3, none⟩ = some (.int .i64 a1_3) := (Qa BK186.out 3).trans rfl; have hcz22_4 : w19.cell? ⟨gb186, 4, none⟩ = some (.int .i64 a1_4) := (Qa BK186.out 4).trans rfl; have hcz22_5 : w19.cell? ⟨gb186, 5, none⟩ = some (.int .i64 a1_5) := (Qa BK186.out 5).trans rfl; have hcz22_6 : w19.cell? ⟨gb186, 6, none⟩ = some (.int .i64 a1_6) := (Qa BK186.out 6).trans rfl; have hcz22_7 : w19.cell? ⟨gb186, 7, none⟩ = some (.int .i64 a1_7) := (Qa BK186.out 7).trans rfl; have hcz22_8 : w19.cell? ⟨gb186, 8, none⟩ = some (.bool a1_8) := (Qa BK186.out 8).trans rfl; have hfz22_0 := Qc BK186.out 0; have hfz22_1 := Qc BK186.out 1; have hfz22_2 := Qc BK186.out 2; have hfz22_3 := Qc BK186.out 3; have hfz22_4 := Qc BK186.out 4; have hfz22_5 := Qc BK186.out 5; have hfz22_6 := Qc BK186.out 6; have hfz22_7 := Qc BK186.out 7; have hfz22_8 := Qc BK186.out 8) | ((with_reducible refine Qq (f := 59) rfl ?_); refine Qy (some 19) rfl rfl Try.func59 (by kernel_rfl) rfl #[.agg #[.int .i64 a0_2, .int .i64 a0_3, .int .i64 a0_4, .int .i64 a0_5, .int .i64 a0_6, .int .i64 a0_7, .bool a0_8], .agg #[.int .i64 a1_2, .int .i64 a1_3, .int .i64 a1_4, .int .i64 a1_5, .int .i64 a1_6, .int .i64 a1_7, .bool a1_8]] rfl (by (try simp only [List.map_toArray, List.map_cons, List.map_nil]); first | done | rfl | (simp only [List.length_drop, List.length_take]; rfl)) ?_; (with_reducible refine (laws_eqRoute.calls a0_2 a0_3 a0_4 a0_5 a0_6 a0_7 a0_8 a1_2 a1_3 a1_4 a1_5 a1_6 a1_7 a1_8 false _ A10.out).mono ?_); rintro e w23 ⟨rfl, hb⟩; refine ⟨_, rfl, ?_⟩; have n0_ := Aside0.mk (Qo (g := gb185) (o := .cells #[.int .i64 a0_0, .bool a0_1, .int .i64 a0_2, .int .i64 a0_3, .int .i64 a0_4, .int .i64 a0_5, .int .i64 a0_6, .int .i64 a0_7, .bool a0_8] 73 (0, 0)) (by (with_reducible repeat (first | refine Qh ?_ _ | refine Qj ?_ | refine Qi ?_ _)); exact BK185.out) hb); have n1_ := Aside0.mk (Qo (g := gb186) (o := .cells #[.int .i64 a1_0, .bool a1_1, .int .i64 a1_2, .int .i64 a1_3, .int .i64 a1_4, .int .i64 a1_5, .int .i64 a1_6, .int .i64 a1_7, .bool a1_8] 73 (0, 0)) (by (with_reducible repeat (first | refine Qh ?_ _ | refine Qj ?_ | refine Qi ?_ _)); exact BK186.out) hb); have n2_ := Aside0.mk (Ql (by repeat (first | (with_reducible first | exact HB.out | apply Qe | apply Qb | apply Qf | refine Qg ?_ GE185.out | refine Qg ?_ GE186.out) | exact HB.out)) hb); clear BK185; clear BK186; clear HB; have BK185 := n0_; have BK186 := n1_; have HB := n2_; clear n0_ n1_ n2_; (try clear hb); (try clear hb2); (try clear hk); (try clear hi)))
    go_ret
    exact ⟨by first | rfl | (simp [Qn, Qm] <;> rfl) | (simp [*, Qn, Qm] <;> rfl), by repeat (first | (with_reducible first | exact HB.out | apply Qe | apply Qb | apply Qf | refine Qg ?_ GE185.out | refine Qg ?_ GE186.out) | exact HB.out)⟩
 ·rw [if_neg c3] at H
  have c3b0 : (a0_0 == a1_0) = false := beq_eq_false_iff_ne.mpr c3
  have c3b1 : (a0_0 != a1_0) = true := bne_iff_ne.mpr c3
  obtain rfl := Option.some.inj H
  go_enter Try.func60, Try.ntmps60
  go_wp2_with (first | ((with_reducible refine Qs (N := 2) rfl ?_); refine Qr ?hg (N := 2) ?hd (cs := #[.int .i64 a0_0, .bool a0_1, .int .i64 a0_2, .int .i64 a0_3, .int .i64 a0_4, .int .i64 a0_5, .int .i64 a0_6, .int .i64 a0_7, .bool a0_8]) (t := 73) ?hr ?_; (case hd => rfl); (case hg => rfl); (case hr => first | (go_simp; done) | (go_simp; rfl)); intro gb185 hg w24 hbox hb; have n0_ := Aside0.mk (Ql (by repeat (first | (with_reducible first | exact HB.out | apply Qe | apply Qb | apply Qf) | exact HB.out)) hb); have n1_ := Aside0.mk (hbox); have n2_ := Aside0.mk ((by rw [hg]; exact (Qk (by repeat (first | (with_reducible first | exact HB.out | apply Qe | apply Qb | apply Qf) | exact HB.out))) : w.heap.size ≤ gb185)); have n3_ := Aside0.mk ((by rw [hg]; exact (Qk (by repeat (first | (with_reducible first | exact HB.out | apply Qe | apply Qb | apply Qf) | exact HB.out))) : w.heap.size ≤ gb185)); clear HB; have HB := n0_; have BK185 := n1_; have GW185 := n2_; have GE185 := n3_; clear n0_ n1_ n2_ n3_; clear hb hbox hg) | ((with_reducible refine Qs (N := 3) rfl ?_); refine Qr ?hg (N := 3) ?hd (cs := #[.int .i64 a1_0, .bool a1_1, .int .i64 a1_2, .int .i64 a1_3, .int .i64 a1_4, .int .i64 a1_5, .int .i64 a1_6, .int .i64 a1_7, .bool a1_8]) (t := 73) ?hr ?_; (case hd => rfl); (case hg => rfl); (case hr => first | (go_simp; done) | (go_simp; rfl)); intro gb186 hg w25 hbox hb; have n0_ := Aside0.mk (Qo (g := gb185) (o := .cells #[.int .i64 a0_0, .bool a0_1, .int .i64 a0_2, .int .i64 a0_3, .int .i64 a0_4, .int .i64 a0_5, .int .i64 a0_6, .int .i64 a0_7, .bool a0_8] 73 (0, 0)) (by (with_reducible repeat (first | refine Qh ?_ _ | refine Qj ?_ | refine Qi ?_ _)); exact BK185.out) hb); have n1_ := Aside0.mk (Ql (by repeat (first | (with_reducible first | exact HB.out | apply Qe | apply Qb | apply Qf | refine Qg ?_ GE185.out) | exact HB.out)) hb); have n2_ := Aside0.mk (hbox); have n3_ := Aside0.mk ((by rw [hg]; exact (Qk (by repeat (first | (with_reducible first | exact HB.out | apply Qe | apply Qb | apply Qf | refine Qg ?_ GE185.out) | exact HB.out))) : w.heap.size ≤ gb186)); have n4_ := Aside0.mk ((by rw [hg]; exact (Qk (by repeat (first | (with_reducible first | exact HB.out | apply Qe | apply Qb | apply Qf | refine Qg ?_ GE185.out) | exact HB.out))) : w.heap.size ≤ gb186)); have n5_ := Aside0.mk ((by rw [hg]; exact Nat.ne_of_lt (Qt (g := gb185) (o := .cells #[.int .i64 a0_0, .bool a0_1, .int .i64 a0_2, .int .i64 a0_3, .int .i64 a0_4, .int .i64 a0_5, .int .i64 a0_6, .int .i64 a0_7, .bool a0_8] 73 (0, 0)) (by (with_reducible repeat (first | refine Qh ?_ _ | refine Qj ?_ | refine Qi ?_ _)); exact BK185.out)) : gb185 ≠ gb186)); have n6_ := Aside0.mk ((by rw [hg]; exact Nat.ne_of_gt (Qt (g := gb185) (o := .cells #[.int .i64 a0_0, .bool a0_1, .int .i64 a0_2, .int .i64 a0_3, .int .i64 a0_4, .int .i64 a0_5, .int .i64 a0_6, .int .i64 a0_7, .bool a0_8] 73 (0, 0)) (by (with_reducible repeat (first | refine Qh ?_ _ | refine Qj ?_ | refine Qi ?_ _)); exact BK185.out)) : gb186 ≠ gb185)); clear BK185; clear HB; have BK185 := n0_; have HB := n1_; have BK186 := n2_; have GW186 := n3_; have GE186 := n4_; have NB185_186 := n5_; have NB186_185 := n6_; clear n0_ n1_ n2_ n3_ n4_ n5_ n6_; clear hb hbox hg; have hnb26 := NB185_186.out; have hnc26 := NB186_185.out; have hcz27_0 : w25.cell? ⟨gb185, 0, none⟩ = some (.int .i64 a0_0) := (Qa BK185.out 0).trans rfl; have hcz27_1 : w25.cell? ⟨gb185, 1, none⟩ = some (.bool a0_1) := (Qa BK185.out 1).trans rfl; have hcz27_2 : w25.cell? ⟨gb185, 2, none⟩ = some (.int .i64 a0_2) := (Qa BK185.out 2).trans rfl; have hcz27_3 : w25.cell? ⟨gb185, 3, none⟩ = some (.int .i64 a0_3) := (Qa BK185.out 3).trans rfl; have hcz27_4 : w25.cell? ⟨gb185, 4, none⟩ = some (.int .i64 a0_4) := (Qa BK185.out 4).trans rfl; have hcz27_5 : w25.cell? ⟨gb185, 5, none⟩ = some (.int .i64 a0_5) := (Qa BK185.out 5).trans rfl; have hcz27_6 : w25.cell? ⟨gb185, 6, none⟩ = some (.int .i64 a0_6) := (Qa BK185.out 6).trans rfl; have hcz27_7 : w25.cell? ⟨gb185, 7, none⟩ = some (.int .i64 a0_7) := (Qa BK185.out 7).trans rfl; have hcz27_8 : w25.cell? ⟨gb185, 8, none⟩ = some (.bool a0_8) := (Qa BK185.out 8).trans rfl; have hfz27_0 := Qc BK185.out 0; have hfz27_1 := Qc BK185.out 1; have hfz27_2 := Qc BK185.out 2; have hfz27_3 := Qc BK185.out 3; have hfz27_4 := Qc BK185.out 4; have hfz27_5 := Qc BK185.out 5; have hfz27_6 := Qc BK185.out 6; have hfz27_7 := Qc BK185.out 7; have hfz27_8 := Qc BK185.out 8; have hcz28_0 : w25.cell? ⟨gb186, 0, none⟩ = some (.int .i64 a1_0) := (Qa BK186.out 0).trans rfl; have hcz28_1 : w25.cell? ⟨gb186, 1, none⟩ = some (.bool a1_1) := (Qa BK186.out 1).trans rfl; have hcz28_2 : w25.cell? ⟨gb186, 2, none⟩ = some (.int .i64 a1_2) := (Qa BK186.out 2).trans rfl; have hcz28_3 : w25.cell? ⟨gb186, 3, none⟩ = some (.int .i64 a1_3) := (Qa BK186.out 3).trans rfl; have hcz28_4 : w25.cell? ⟨gb186, 4, none⟩ = some (.int .i64 a1_4) := (Qa BK186.out 4).trans rfl; have hcz28_5 : w25.cell? ⟨gb186, 5, none⟩ = some (.int .i64 a1_5) := (Qa BK186.out 5).trans rfl; have hcz28_6 : w25.cell? ⟨gb186, 6, none⟩ = some (.int .i64 a1_6) := (Qa BK186.out 6).trans rfl; have hcz28_7 : w25.cell? ⟨gb186, 7, none⟩ = some (.int .i64 a1_7) := (Qa BK186.out 7).trans rfl; have hcz28_8 : w25.cell? ⟨gb186, 8, none⟩ = some (.bool a1_8) := (Qa BK186.out 8).trans rfl; have hfz28_0 := Qc BK186.out 0; have hfz28_1 := Qc BK186.out 1; have hfz28_2 := Qc BK186.out 2; have hfz28_3 := Qc BK186.out 3; have hfz28_4 := Qc BK186.out 4; have hfz28_5 := Qc BK186.out 5; have hfz28_6 := Qc BK186.out 6; have hfz28_7 := Qc BK186.out 7; have hfz28_8 := Qc BK186.out 8))
  go_ret
  exact ⟨by first | rfl | (simp [Qn, Qm] <;> rfl) | (simp [*, Qn, Qm] <;> rfl), by repeat (first | (with_reducible first | exact HB.out | apply Qe | apply Qb | apply Qf | refine Qg ?_ GE185.out | refine Qg ?_ GE186.out) | exact HB.out)⟩
end Go.Proofs.Ytmgmaflfednngaa.PFnExactTellerNew
