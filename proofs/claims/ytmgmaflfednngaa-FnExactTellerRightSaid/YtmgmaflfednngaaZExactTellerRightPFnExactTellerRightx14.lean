-- A copy, made by trim.py (its own words shortened): not an official print.
import Derived.Test.YtmgmaflfednngaaZExactTellerRightPFnExactTellerRightx0
import Derived.Test.YtmgmaflfednngaaZExactTellerRightPFnExactTellerRightx8
import Derived.Test.YtmgmaflfednngaaZExactTellerRightPFnExactTellerRightx10
import Derived.Test.YtmgmaflfednngaaZExactTellerRightPFnExactTellerRightx12
import Derived.Test.YtmgmaflfednngaaZExactTellerRightBase
import Derived.Test.YtmgmaflfednngaaZExactTellerRightSlices
import Derived.Test.YtmgmaflfednngaaZExactTellerRightPFnExactTellerRightx1
import Derived.Test.YtmgmaflfednngaaZExactTellerRightPFnExactTellerRightx2
import Derived.Test.YtmgmaflfednngaaZExactTellerRightPFnExactTellerRightx3
import Derived.Test.YtmgmaflfednngaaZExactTellerRightPFnExactTellerRightx4
import Derived.Test.YtmgmaflfednngaaZExactTellerRightPFnExactTellerRightx5
import Derived.Test.YtmgmaflfednngaaZExactTellerRightPFnExactTellerRightx6
import Derived.Test.YtmgmaflfednngaaZExactTellerRightPFnExactTellerRightx7
import Derived.Test.YtmgmaflfednngaaZExactTellerRightPFnExactTellerRightx9
import Derived.Test.YtmgmaflfednngaaZExactTellerRightPFnExactTellerRightx11
import Derived.Test.YtmgmaflfednngaaZExactTellerRightPFnExactTellerRightx13
namespace Go.Proofs.Ytmgmaflfednngaa.PFnExactTellerRight
open Go.RowKit Go.Proofs.YtmgmaflfednngaaW.PrintWords Go.Proofs.YtmgmaflfednngaaW.PrintLast Go.Proofs.YtmgmaflfednngaaW.PrintMore
attribute [local go_sem] max2_int min2_int max_two min_two max_three min_three max_four min_four   -- for this text's walks alone
set_option linter.unusedVariables false
set_option linter.unusedSimpArgs false
mutual
def impl_TellerRight.j0 : Nat → Bool → Int → Int → List (S100) → List (S73) → Option (Bool)
 | 0, _, _, _, _, _ => none
 | k + 1, x32, x268000, x268001, x268002, x268003 => if x32 = true then (some false) else (impl_TellerRight.l0 k 0 x268000 x268001 x268002 x268003)
def impl_TellerRight.l0 : Nat → Int → Int → Int → List (S100) → List (S73) → Option (Bool)
 | 0, _, _, _, _, _ => none
 | k + 1, x3, x268000, x268001, x268002, x268003 => if x3 < (x268002.length : Int) then (if 0 ≤ x3 then ((spec_PipeRight.f k ((Qp x268002 x3).f0) ((Qp x268002 x3).f1) ((Qp x268002 x3).f2) ((Qp x268002 x3).f3) ((Qp x268002 x3).f4)).bind fun t272 => (if t272 = true then (if ((Qp x268002 x3).f0) > x268001 then (some false) else (impl_TellerRight.l0 k (wrap64 (x3 + 1)) x268000 x268001 x268002 x268003)) else (some false))) else (none)) else (impl_TellerRight.l1 k 0 x268000 x268001 x268002 x268003)
def impl_TellerRight.l1 : Nat → Int → Int → Int → List (S100) → List (S73) → Option (Bool)
 | 0, _, _, _, _, _ => none
 | k + 1, x4, x268000, x268001, x268002, x268003 => if x4 < (x268003.length : Int) then (if 0 ≤ x4 then (if ((Qk x268003 x4).f0) > (x268002.length : Int) then (some false) else (if ((Qk x268003 x4).f2.f4) = ((Qk x268003 x4).f0) then (impl_TellerRight.l1 k (wrap64 (x4 + 1)) x268000 x268001 x268002 x268003) else (some false))) else (none)) else (some true)
end
def impl_TellerRight.f (k : Nat) (a0_0 : Int) (a0_1 : Int) (l0_2 : List (S100)) (l0_3 : List (S73)) : Option (Bool) := (impl_in.f a0_0 1 2).bind fun t268 => (if t268 = true then ((impl_in.f a0_1 1 1000000).bind fun t269 => (if t269 = true then (if (l0_2.length : Int) < 1 then (impl_TellerRight.j0 k true a0_0 a0_1 l0_2 l0_3) else (if (l0_2.length : Int) > 4 then (impl_TellerRight.j0 k true a0_0 a0_1 l0_2 l0_3) else ((impl_RibRight.f k l0_3).bind fun t270 => (impl_TellerRight.j0 k (!t270) a0_0 a0_1 l0_2 l0_3)))) else (impl_TellerRight.j0 k true a0_0 a0_1 l0_2 l0_3))) else (impl_TellerRight.j0 k true a0_0 a0_1 l0_2 l0_3))
theorem impl_TellerRight.mono_l : ∀ k, (∀ y0 y1 y2 y3 y4, LeO (impl_TellerRight.j0 k y0 y1 y2 y3 y4) (impl_TellerRight.j0 (k + 1) y0 y1 y2 y3 y4)) ∧ (∀ y0 y1 y2 y3 y4, LeO (impl_TellerRight.l0 k y0 y1 y2 y3 y4) (impl_TellerRight.l0 (k + 1) y0 y1 y2 y3 y4)) ∧ (∀ y0 y1 y2 y3 y4, LeO (impl_TellerRight.l1 k y0 y1 y2 y3 y4) (impl_TellerRight.l1 (k + 1) y0 y1 y2 y3 y4))
 | 0 => ⟨fun _ _ _ _ _ r h => by simp [impl_TellerRight.j0] at h, fun _ _ _ _ _ r h => by simp [impl_TellerRight.l0] at h, fun _ _ _ _ _ r h => by simp [impl_TellerRight.l1] at h⟩
 | k + 1 => by
  obtain ⟨ih0, ih1, ih2⟩ := impl_TellerRight.mono_l k
  refine ⟨?_, ?_, ?_⟩
  ·intro y0 y1 y2 y3 y4
   unfold impl_TellerRight.j0
   repeat' first
   | (with_reducible exact ih0 _ _ _ _ _)
   | (with_reducible exact ih1 _ _ _ _ _)
   | (with_reducible exact ih2 _ _ _ _ _)
   | (with_reducible exact impl_RibRight.mono _ _)
   | (with_reducible exact spec_PipeRight.mono _ _ _ _ _ _)
   | (with_reducible exact LeO.refl _)
   | (with_reducible exact LeO.none _)
   | (with_reducible refine LeO.ite ?_ ?_)
   | (with_reducible refine LeO.bind ?_ (fun _ => ?_))
   | exact ih0 _ _ _ _ _
   | exact ih1 _ _ _ _ _
   | exact ih2 _ _ _ _ _
   | exact impl_RibRight.mono _ _
   | exact spec_PipeRight.mono _ _ _ _ _ _
   | exact LeO.none _
   | refine LeO.ite ?_ ?_
   | refine LeO.bind ?_ (fun _ => ?_)
  ·intro y0 y1 y2 y3 y4
   unfold impl_TellerRight.l0
   repeat' first
   | (with_reducible exact ih0 _ _ _ _ _)
   | (with_reducible exact ih1 _ _ _ _ _)
   | (with_reducible exact ih2 _ _ _ _ _)
   | (with_reducible exact impl_RibRight.mono _ _)
   | (with_reducible exact spec_PipeRight.mono _ _ _ _ _ _)
   | (with_reducible exact LeO.refl _)
   | (with_reducible exact LeO.none _)
   | (with_reducible refine LeO.ite ?_ ?_)
   | (with_reducible refine LeO.bind ?_ (fun _ => ?_))
   | exact ih0 _ _ _ _ _
   | exact ih1 _ _ _ _ _
   | exact ih2 _ _ _ _ _
   | exact impl_RibRight.mono _ _
   | exact spec_PipeRight.mono _ _ _ _ _ _
   | exact LeO.none _
   | refine LeO.ite ?_ ?_
   | refine LeO.bind ?_ (fun _ => ?_)
  ·intro y0 y1 y2 y3 y4
   unfold impl_TellerRight.l1
   repeat' first
   | (with_reducible exact ih0 _ _ _ _ _)
   | (with_reducible exact ih1 _ _ _ _ _)
   | (with_reducible exact ih2 _ _ _ _ _)
   | (with_reducible exact impl_RibRight.mono _ _)
   | (with_reducible exact spec_PipeRight.mono _ _ _ _ _ _)
   | (with_reducible exact LeO.refl _)
   | (with_reducible exact LeO.none _)
   | (with_reducible refine LeO.ite ?_ ?_)
   | (with_reducible refine LeO.bind ?_ (fun _ => ?_))
   | exact ih0 _ _ _ _ _
   | exact ih1 _ _ _ _ _
   | exact ih2 _ _ _ _ _
   | exact impl_RibRight.mono _ _
   | exact spec_PipeRight.mono _ _ _ _ _ _
   | exact LeO.none _
   | refine LeO.ite ?_ ?_
   | refine LeO.bind ?_ (fun _ => ?_)
theorem impl_TellerRight.mono : ∀ a0 a1 a2 a3 k, LeO (impl_TellerRight.f k a0 a1 a2 a3) (impl_TellerRight.f (k + 1) a0 a1 a2 a3) := by
 intro a0 a1 a2 a3 k
 obtain ⟨ih0, ih1, ih2⟩ := impl_TellerRight.mono_l k
 unfold impl_TellerRight.f
 repeat' first
   | (with_reducible exact ih0 _ _ _ _ _)
   | (with_reducible exact ih1 _ _ _ _ _)
   | (with_reducible exact ih2 _ _ _ _ _)
   | (with_reducible exact impl_RibRight.mono _ _)
   | (with_reducible exact spec_PipeRight.mono _ _ _ _ _ _)
   | (with_reducible exact LeO.refl _)
   | (with_reducible exact LeO.none _)
   | (with_reducible refine LeO.ite ?_ ?_)
   | (with_reducible refine LeO.bind ?_ (fun _ => ?_))
   | exact ih0 _ _ _ _ _
   | exact ih1 _ _ _ _ _
   | exact ih2 _ _ _ _ _
   | exact impl_RibRight.mono _ _
   | exact spec_PipeRight.mono _ _ _ _ _ _
   | exact LeO.none _
   | refine LeO.ite ?_ ?_
   | refine LeO.bind ?_ (fun _ => ?_)
set_option maxHeartbeats 800000 in
set_option maxRecDepth 100000 in
theorem indexFunc_calls (g : Nat) (cb : Array Value) (eg : ∀ args w, (callFunc g args).run Try.prog w = .ok (.enter g args) w) (p : S73 → Bool) (A : Option Addr) (c : Nat) (l : List S73) (w : World) (hr : Kd.C k73 w A l.length l) (hp : Base.PredK Try.prog g cb k73 p w) :
  Calls Try.prog 131 #[.slice A l.length c, .func (.func g) #[] cb] w fun e w' => e = .returned (.int .i64 (Base.idxOf p l 0)) ∧ Below w.heap.size w w' := by
 have HR := Aside0.mk hr
 have HP := Aside0.mk hp
 clear hr hp
 go_enter Try.func131, Try.ntmps131
 go_wp2
 go_loopg [5, 8] l.length (fun gg _ v8 wr => ∃ kk : Nat, kk ≤ l.length ∧ l.length - kk ≤ gg ∧ v8 = .int .i64 kk ∧ Aside0 (Below w.heap.size w wr) ∧ Aside0 (∀ j, j < kk → p (Base.nth z73 l j) = false))
 case atStart => exact ⟨0, Nat.zero_le _, by omega, rfl, ⟨Below.refl _ w⟩, ⟨fun j hj => absurd hj (Nat.not_lt_zero _)⟩⟩
 case round =>
  obtain ⟨kk, hkk, hg, rfl, HB, HA⟩ := hrel
  have hmax : l.length ≤ 9223372036854775807 := HR.out.2.1
  by_cases hlt : kk < l.length
  ·skip
   obtain ⟨ad, e, hx0, hx1, hx2, hx3, hx4, hx5, hx6, hx7, hx8⟩ := at_T73 HR.out (kk : Int) (by omega) (by omega)
   cases e
   replace hx0 := (HB.out.cell (World.block_lt_of_cell? w _ hx0)).trans hx0
   replace hx1 := (HB.out.cell (World.block_lt_of_cell? w _ hx1)).trans hx1
   replace hx2 := (HB.out.cell (World.block_lt_of_cell? w _ hx2)).trans hx2
   replace hx3 := (HB.out.cell (World.block_lt_of_cell? w _ hx3)).trans hx3
   replace hx4 := (HB.out.cell (World.block_lt_of_cell? w _ hx4)).trans hx4
   replace hx5 := (HB.out.cell (World.block_lt_of_cell? w _ hx5)).trans hx5
   replace hx6 := (HB.out.cell (World.block_lt_of_cell? w _ hx6)).trans hx6
   replace hx7 := (HB.out.cell (World.block_lt_of_cell? w _ hx7)).trans hx7
   replace hx8 := (HB.out.cell (World.block_lt_of_cell? w _ hx8)).trans hx8
   simp only [Int.toNat_natCast] at hx0 hx1 hx2 hx3 hx4 hx5 hx6 hx7 hx8
   have hcall := HP.out wr (Qk l (kk : Int)) _ HB.out (k73_mk wr _)
   have HQ := Aside0.mk (show p (Base.nth z73 l kk) = p (Qk l (kk : Int)) from rfl)
   have hltz : (kk : Int) < (l.length : Int) := by omega
   generalize Qk l (kk : Int) = y at *
   cases hq : p y with
   | true =>
    rw [hq] at hcall
    have HQ' := Aside0.mk (HQ.out.trans hq)
    clear HQ hq
    go_wp2_with fail
    refine hcall.mono ?_
    rintro e w' ⟨rfl, hb'⟩
    go_wp2
    go_ret
    refine ⟨?_, hb'⟩
    rw [Base.idxOf_hit z73 p l kk hlt HA.out HQ'.out]
    rfl
   | false =>
    rw [hq] at hcall
    have HQ' := Aside0.mk (HQ.out.trans hq)
    clear HQ hq
    go_wp2_with fail
    refine hcall.mono ?_
    rintro e w' ⟨rfl, hb'⟩
    have HB' := Aside0.mk hb'
    clear hb'
    go_wp2
    go_roundg (l.length - (kk + 1))
    case measure => omega
    case rel =>
     refine ⟨kk + 1, by omega, by omega, by go_num, HB', ⟨fun j hj => ?_⟩⟩
     by_cases e : j = kk
     ·subst e
      exact HQ'.out
     ·exact HA.out j (by omega)
  ·have hltz : ¬ (kk : Int) < (l.length : Int) := by omega
   obtain rfl : kk = l.length := by omega
   go_wp2
   go_ret
   refine ⟨?_, HB.out⟩
   rw [Base.idxOf_miss z73 p l HA.out]
   rfl
theorem any_idx (p : S73 → Bool) (l : List S73) : decide (0 ≤ Base.idxOf p l 0) = l.any p := by
 rcases Base.idxOf_cases z73 p l 0 with ⟨h1, h2⟩ | ⟨k, h1, h2, h3⟩
 ·have h1' : Base.idxOf p l 0 = -1 := h1
  rw [h1', show l.any p = (l.find? p).isSome from (List.isSome_find? ..).symm, h2]
  rfl
 ·have h2' : Base.idxOf p l 0 = ((0 + k : Nat) : Int) := h2
  rw [h2', show l.any p = (l.find? p).isSome from (List.isSome_find? ..).symm, h3, decide_eq_true (by omega)]
  rfl
set_option maxHeartbeats 800000 in
theorem containsFunc_calls (g : Nat) (cb : Array Value) (eg : ∀ args w, (callFunc g args).run Try.prog w = .ok (.enter g args) w) (p : S73 → Bool) (A : Option Addr) (c : Nat) (l : List S73) (w : World) (hr : Kd.C k73 w A l.length l) (hp : Base.PredK Try.prog g cb k73 p w) :
  Calls Try.prog 93 #[.slice A l.length c, .func (.func g) #[] cb] w fun e w' => e = .returned (.bool (l.any p)) ∧ Below w.heap.size w w' := by
 have HI := Aside0.mk (indexFunc_calls g cb eg p A c l w hr hp)
 have HA := Aside0.mk (any_idx p l)
 clear hr hp
 go_enter Try.func93, Try.ntmps93
 go_wp2_with fail
 refine HI.out.mono ?_
 rintro e w2 ⟨rfl, hb⟩
 have HB := Aside0.mk hb
 clear hb
 generalize Base.idxOf p l 0 = q at *
 go_wp2
 go_ret
 exact ⟨by rw [← HA.out]; rfl, HB.out⟩
set_option maxHeartbeats 800000 in
set_option maxRecDepth 100000 in
theorem indexFuncP_calls (g : Nat) (cb : Array Value) (eg : ∀ args w, (callFunc g args).run Try.prog w = .ok (.enter g args) w) (p : S100 → Bool) (A : Option Addr) (c : Nat) (l : List S100) (w : World) (hr : Kd.C k100 w A l.length l) (hp : Base.PredK Try.prog g cb k100 p w) :
  Calls Try.prog 156 #[.slice A l.length c, .func (.func g) #[] cb] w fun e w' => e = .returned (.int .i64 (Base.idxOf p l 0)) ∧ Below w.heap.size w w' := by
 have HR := Aside0.mk hr
 have HP := Aside0.mk hp
 clear hr hp
 go_enter Try.func156, Try.ntmps156
 go_wp2
 go_loopg [5, 8] l.length (fun gg _ v8 wr => ∃ kk : Nat, kk ≤ l.length ∧ l.length - kk ≤ gg ∧ v8 = .int .i64 kk ∧ Aside0 (Below w.heap.size w wr) ∧ Aside0 (∀ j, j < kk → p (Base.nth z100 l j) = false))
 case atStart => exact ⟨0, Nat.zero_le _, by omega, rfl, ⟨Below.refl _ w⟩, ⟨fun j hj => absurd hj (Nat.not_lt_zero _)⟩⟩
 case round =>
  obtain ⟨kk, hkk, hg, rfl, HB, HA⟩ := hrel
  have hmax : l.length ≤ 9223372036854775807 := HR.out.2.1
  by_cases hlt : kk < l.length
  ·skip
   obtain ⟨ad, A4, c4, e, hx0, hx1, hx2, hx3, hx4, hl4, hc4⟩ := at_T100 HR.out (kk : Int) (by omega) (by omega)
   cases e
   replace hx0 := (HB.out.cell (World.block_lt_of_cell? w _ hx0)).trans hx0
   replace hx1 := (HB.out.cell (World.block_lt_of_cell? w _ hx1)).trans hx1
   replace hx2 := (HB.out.cell (World.block_lt_of_cell? w _ hx2)).trans hx2
   replace hx3 := (HB.out.cell (World.block_lt_of_cell? w _ hx3)).trans hx3
   replace hx4 := (HB.out.cell (World.block_lt_of_cell? w _ hx4)).trans hx4
   simp only [Int.toNat_natCast] at hx0 hx1 hx2 hx3 hx4
   have hcall := HP.out wr (Qp l (kk : Int)) _ HB.out (k100_mk wr _ hl4 (Kd.C_below hc4 HB.out))
   have HQ := Aside0.mk (show p (Base.nth z100 l kk) = p (Qp l (kk : Int)) from rfl)
   have hltz : (kk : Int) < (l.length : Int) := by omega
   clear hl4 hc4
   generalize Qp l (kk : Int) = y at *
   cases hq : p y with
   | true =>
    rw [hq] at hcall
    have HQ' := Aside0.mk (HQ.out.trans hq)
    clear HQ hq
    go_wp2_with fail
    refine hcall.mono ?_
    rintro e w' ⟨rfl, hb'⟩
    go_wp2
    go_ret
    refine ⟨?_, hb'⟩
    rw [Base.idxOf_hit z100 p l kk hlt HA.out HQ'.out]
    rfl
   | false =>
    rw [hq] at hcall
    have HQ' := Aside0.mk (HQ.out.trans hq)
    clear HQ hq
    go_wp2_with fail
    refine hcall.mono ?_
    rintro e w' ⟨rfl, hb'⟩
    have HB' := Aside0.mk hb'
    clear hb'
    go_wp2
    go_roundg (l.length - (kk + 1))
    case measure => omega
    case rel =>
     refine ⟨kk + 1, by omega, by omega, by go_num, HB', ⟨fun j hj => ?_⟩⟩
     by_cases e : j = kk
     ·subst e
      exact HQ'.out
     ·exact HA.out j (by omega)
  ·have hltz : ¬ (kk : Int) < (l.length : Int) := by omega
   obtain rfl : kk = l.length := by omega
   go_wp2
   go_ret
   refine ⟨?_, HB.out⟩
   rw [Base.idxOf_miss z100 p l HA.out]
   rfl
theorem any_idxP (p : S100 → Bool) (l : List S100) : decide (0 ≤ Base.idxOf p l 0) = l.any p := by
 rcases Base.idxOf_cases z100 p l 0 with ⟨h1, h2⟩ | ⟨k, h1, h2, h3⟩
 ·have h1' : Base.idxOf p l 0 = -1 := h1
  rw [h1', show l.any p = (l.find? p).isSome from (List.isSome_find? ..).symm, h2]
  rfl
 ·have h2' : Base.idxOf p l 0 = ((0 + k : Nat) : Int) := h2
  rw [h2', show l.any p = (l.find? p).isSome from (List.isSome_find? ..).symm, h3, decide_eq_true (by omega)]
  rfl
set_option maxHeartbeats 800000 in
theorem containsFuncP_calls (g : Nat) (cb : Array Value) (eg : ∀ args w, (callFunc g args).run Try.prog w = .ok (.enter g args) w) (p : S100 → Bool) (A : Option Addr) (c : Nat) (l : List S100) (w : World) (hr : Kd.C k100 w A l.length l) (hp : Base.PredK Try.prog g cb k100 p w) :
  Calls Try.prog 128 #[.slice A l.length c, .func (.func g) #[] cb] w fun e w' => e = .returned (.bool (l.any p)) ∧ Below w.heap.size w w' := by
 have HI := Aside0.mk (indexFuncP_calls g cb eg p A c l w hr hp)
 have HA := Aside0.mk (any_idxP p l)
 clear hr hp
 go_enter Try.func128, Try.ntmps128
 go_wp2_with fail
 refine HI.out.mono ?_
 rintro e w2 ⟨rfl, hb⟩
 have HB := Aside0.mk hb
 clear hb
 generalize Base.idxOf p l 0 = q at *
 go_wp2
 go_ret
 exact ⟨by rw [← HA.out]; rfl, HB.out⟩
set_option maxHeartbeats 800000 in
set_option maxRecDepth 100000 in
theorem indexFuncS_calls (g : Nat) (cb : Array Value) (eg : ∀ args w, (callFunc g args).run Try.prog w = .ok (.enter g args) w) (p : ByteArray → Bool) (A : Option Addr) (c : Nat) (l : List ByteArray) (w : World) (hr : Kd.C Kd.string w A l.length l) (hp : ∀ (W : World) (x : ByteArray), Below w.heap.size w W → Calls Try.prog g (#[.string x] ++ cb) W fun e w' => e = .returned (.bool (p x)) ∧ Below w.heap.size w w') :
  Calls Try.prog 168 #[.slice A l.length c, .func (.func g) #[] cb] w fun e w' => e = .returned (.int .i64 (Base.idxOf p l 0)) ∧ Below w.heap.size w w' := by
 have HR := Aside0.mk hr
 have HP := Aside0.mk hp
 clear hr hp
 go_enter Try.func168, Try.ntmps168
 go_wp2
 go_loopg [5, 8] l.length (fun gg _ v8 wr => ∃ kk : Nat, kk ≤ l.length ∧ l.length - kk ≤ gg ∧ v8 = .int .i64 kk ∧ Aside0 (Below w.heap.size w wr) ∧ Aside0 (∀ j, j < kk → p (Base.nth ByteArray.empty l j) = false))
 case atStart => exact ⟨0, Nat.zero_le _, by omega, rfl, ⟨Below.refl _ w⟩, ⟨fun j hj => absurd hj (Nat.not_lt_zero _)⟩⟩
 case round =>
  obtain ⟨kk, hkk, hg, rfl, HB, HA⟩ := hrel
  have hmax : l.length ≤ 9223372036854775807 := HR.out.2.1
  by_cases hlt : kk < l.length
  ·skip
   obtain ⟨ad, e, hx0⟩ := Kd.at_string HR.out (kk : Int) (by omega) (by omega)
   cases e
   replace hx0 := (HB.out.cell (World.block_lt_of_cell? w _ hx0)).trans hx0
   simp only [Int.toNat_natCast] at hx0
   have hcall := HP.out wr (rdOf ByteArray.empty l (kk : Int)) HB.out
   have HQ := Aside0.mk (show p (Base.nth ByteArray.empty l kk) = p (rdOf ByteArray.empty l (kk : Int)) from rfl)
   have hltz : (kk : Int) < (l.length : Int) := by omega
   generalize rdOf ByteArray.empty l (kk : Int) = y at *
   cases hq : p y with
   | true =>
    rw [hq] at hcall
    have HQ' := Aside0.mk (HQ.out.trans hq)
    clear HQ hq
    go_wp2_with fail
    refine hcall.mono ?_
    rintro e w' ⟨rfl, hb'⟩
    go_wp2
    go_ret
    refine ⟨?_, hb'⟩
    rw [Base.idxOf_hit ByteArray.empty p l kk hlt HA.out HQ'.out]
    rfl
   | false =>
    rw [hq] at hcall
    have HQ' := Aside0.mk (HQ.out.trans hq)
    clear HQ hq
    go_wp2_with fail
    refine hcall.mono ?_
    rintro e w' ⟨rfl, hb'⟩
    have HB' := Aside0.mk hb'
    clear hb'
    go_wp2
    go_roundg (l.length - (kk + 1))
    case measure => omega
    case rel =>
     refine ⟨kk + 1, by omega, by omega, by go_num, HB', ⟨fun j hj => ?_⟩⟩
     by_cases e : j = kk
     ·subst e
      exact HQ'.out
     ·exact HA.out j (by omega)
  ·have hltz : ¬ (kk : Int) < (l.length : Int) := by omega
   obtain rfl : kk = l.length := by omega
   go_wp2
   go_ret
   refine ⟨?_, HB.out⟩
   rw [Base.idxOf_miss ByteArray.empty p l HA.out]
   rfl
theorem any_idxS (p : ByteArray → Bool) (l : List ByteArray) : decide (0 ≤ Base.idxOf p l 0) = l.any p := by
 rcases Base.idxOf_cases ByteArray.empty p l 0 with ⟨h1, h2⟩ | ⟨k, h1, h2, h3⟩
 ·have h1' : Base.idxOf p l 0 = -1 := h1
  rw [h1', show l.any p = (l.find? p).isSome from (List.isSome_find? ..).symm, h2]
  rfl
 ·have h2' : Base.idxOf p l 0 = ((0 + k : Nat) : Int) := h2
  rw [h2', show l.any p = (l.find? p).isSome from (List.isSome_find? ..).symm, h3, decide_eq_true (by omega)]
  rfl
set_option maxHeartbeats 800000 in
theorem containsFuncS_calls (g : Nat) (cb : Array Value) (eg : ∀ args w, (callFunc g args).run Try.prog w = .ok (.enter g args) w) (p : ByteArray → Bool) (A : Option Addr) (c : Nat) (l : List ByteArray) (w : World) (hr : Kd.C Kd.string w A l.length l) (hp : ∀ (W : World) (x : ByteArray), Below w.heap.size w W → Calls Try.prog g (#[.string x] ++ cb) W fun e w' => e = .returned (.bool (p x)) ∧ Below w.heap.size w w') :
  Calls Try.prog 157 #[.slice A l.length c, .func (.func g) #[] cb] w fun e w' => e = .returned (.bool (l.any p)) ∧ Below w.heap.size w w' := by
 have HI := Aside0.mk (indexFuncS_calls g cb eg p A c l w hr hp)
 have HA := Aside0.mk (any_idxS p l)
 clear hr hp
 go_enter Try.func157, Try.ntmps157
 go_wp2_with fail
 refine HI.out.mono ?_
 rintro e w2 ⟨rfl, hb⟩
 have HB := Aside0.mk hb
 clear hb
 generalize Base.idxOf p l 0 = q at *
 go_wp2
 go_ret
 exact ⟨by rw [← HA.out]; rfl, HB.out⟩
section
open Go.Proofs.Ytmgmaflfednngaa.Base
theorem Q2 (a b c : Int) : spec_l02Is.f a b c = some (inB a b c) := by
 unfold spec_l02Is.f inB
 by_cases h : b ≤ a <;> simp [h]
theorem Q5 (a b c : Int) : impl_in.f a b c = some (inB a b c) := by
 unfold impl_in.f inB
 by_cases h : b ≤ a <;> simp [h]
theorem spec_l02Mac_eq (a : Int) : spec_l02Mac.f a = some (macB a) := by simp [spec_l02Mac.f, Q2, macB]
theorem spec_l02Ip_eq (a : Int) : spec_l02Ip.f a = some (ipB a) := by simp [spec_l02Ip.f, Q2, ipB]
theorem spec_l02Vni_eq (a : Int) : spec_l02Vni.f a = some (vniB a) := by simp [spec_l02Vni.f, Q2, vniB]
theorem spec_l05Time_eq (a : Int) : spec_l05Time.f a = some (timeB a) := by simp [spec_l05Time.f, Q2, timeB]
theorem spec_IsGroup_eq (a : Int) : spec_IsGroup.f a = some (groupB a) := by
 simp [spec_IsGroup.f, spec_l02Mac_eq, groupB]
 cases macB a <;> simp
theorem impl_isMac_eq (a : Int) : impl_isMac.f a = some (macB a) := by simp [impl_isMac.f, Q5, macB]
theorem impl_isIp_eq (a : Int) : impl_isIp.f a = some (ipB a) := by simp [impl_isIp.f, Q5, ipB]
theorem impl_isVni_eq (a : Int) : impl_isVni.f a = some (vniB a) := by simp [impl_isVni.f, Q5, vniB]
theorem impl_isTime_eq (a : Int) : impl_isTime.f a = some (timeB a) := by simp [impl_isTime.f, Q5, timeB]
theorem impl_isHouse_eq (a : Int) : impl_isHouse.f a = some (houseB a) := by simp [impl_isHouse.f, Q5, houseB]
theorem impl_IsGroup_eq (a : Int) : impl_IsGroup.f a = some (groupB a) := by
 simp [impl_IsGroup.f, impl_isMac_eq, groupB]
 cases macB a <;> simp
theorem impl_isGuest_eq (a : Int) : impl_isGuest.f a = some (macB a && !groupB a) := by
 simp [impl_isGuest.f, impl_isMac_eq, impl_IsGroup_eq]
 cases macB a <;> simp
theorem cmp_Compare_eq (a b : Int) : cmp_Compare_int64.f a b = some (cmpI a b) := by
 simp only [cmp_Compare_int64.f, cmp_isNaN_int64.f, Option.bind_some, bne_self_eq_false, cmpI]
 simp only [Bool.false_eq_true, if_false]
 repeat' split
 all_goals rfl
theorem cmp_Or_eq (xs : List Int) (hn : xs.length ≤ 100) (k : Nat) (hk : xs.length < k) : cmp_Or_int.f k xs = some (firstNZ xs) := by
 have key : ∀ (d i k : Nat), i + d = xs.length → d < k → cmp_Or_int.l0 k 0 xs (xs.length : Int) (i : Int) = some (firstNZ (xs.drop i)) := by
  intro d
  induction d with
  | zero =>
   intro i k hd hk
   obtain ⟨k, rfl⟩ : ∃ m, k = m + 1 := ⟨k - 1, by omega⟩
   simp only [cmp_Or_int.l0]
   rw [if_neg (by omega), List.drop_of_length_le (by omega)]
   rfl
  | succ d ih =>
   intro i k hd hk
   obtain ⟨k, rfl⟩ : ∃ m, k = m + 1 := ⟨k - 1, by omega⟩
   simp only [cmp_Or_int.l0]
   rw [if_pos (by omega), if_pos (by omega), if_pos (by omega), show rd xs (i : Int) = nth 0 xs i from rfl, drop_nth 0 (by omega : i < xs.length), wrap_up (by omega : i < xs.length) (by omega), ih (i + 1) k (by omega) (by omega)]
   simp only [firstNZ]
   split <;> rfl
 exact key xs.length 0 k (by omega) hk
def routeB (k v m ip o s : Int) (st : Bool) : Bool := vniB v && houseB o && (if k = 2 then (macB m && !groupB m) && ipB ip && timeB s else decide (k = 3) && decide (m = 0) && decide (ip = 0) && decide (s = 0) && !st)
theorem spec_RouteRight_eq (k v m ip o s : Int) (st : Bool) (n : Nat) (hn : 1 ≤ n) : spec_RouteRight.f n k v m ip o s st = some (routeB k v m ip o s st) := by
 obtain ⟨n, rfl⟩ : ∃ q, n = q + 1 := ⟨n - 1, by omega⟩
 unfold spec_RouteRight.f routeB
 rw [spec_l02Vni_eq, Q2, show inB o 1 4 = houseB o from rfl]
 simp only [Option.bind_some, spec_RouteRight.j0, spec_l02Mac_eq, spec_IsGroup_eq, spec_l02Ip_eq, Q2, show inB s 0 1000000 = timeB s from rfl]
 cases vniB v <;> cases houseB o <;> simp
 by_cases h2 : k = 2
 ·cases macB m <;> cases groupB m <;> cases ipB ip <;> simp [h2]
 ·by_cases h3 : k = 3
  ·by_cases h4 : m = 0 <;> by_cases h5 : ip = 0 <;> by_cases h6 : s = 0 <;> simp [h3, h4, h5, h6]
  ·simp [h2, h3]
theorem impl_RouteRight_eq (k v m ip o s : Int) (st : Bool) (n : Nat) (hn : 1 ≤ n) : impl_RouteRight.f n k v m ip o s st = some (routeB k v m ip o s st) := by
 obtain ⟨n, rfl⟩ : ∃ q, n = q + 1 := ⟨n - 1, by omega⟩
 unfold impl_RouteRight.f routeB
 rw [impl_isVni_eq, impl_isHouse_eq]
 simp only [Option.bind_some, impl_RouteRight.j0, impl_isGuest_eq, impl_isIp_eq, impl_isTime_eq]
 cases vniB v <;> cases houseB o <;> simp
 by_cases h2 : k = 2
 ·cases macB m <;> cases groupB m <;> cases ipB ip <;> simp [h2]
 ·by_cases h3 : k = 3
  ·by_cases h4 : m = 0 <;> by_cases h5 : ip = 0 <;> by_cases h6 : s = 0 <;> simp [h3, h4, h5, h6]
  ·simp [h2, h3]
def peerB (a : Int) : Bool := inB a 1 9
def lessH (a b : S73) : Bool := if a.f0 = b.f0 then (if a.f2.f0 = b.f2.f0 then (if a.f2.f1 = b.f2.f1 then (if a.f2.f2 = b.f2.f2 then decide (a.f2.f4 < b.f2.f4) else decide (a.f2.f2 < b.f2.f2)) else decide (a.f2.f1 < b.f2.f1)) else decide (a.f2.f0 < b.f2.f0)) else decide (a.f0 < b.f0)
def rightH (a : S73) : Bool := peerB a.f0 && routeB a.f2.f0 a.f2.f1 a.f2.f2 a.f2.f3 a.f2.f4 a.f2.f5 a.f2.f6
def heldAt (xs : List S73) (j : Nat) : Bool := rightH (nth z73 xs j) && (j == 0 || lessH (nth z73 xs (j - 1)) (nth z73 xs j))
def ribRight (xs : List S73) : Bool := chk (heldAt xs) xs.length 0 && decide (xs.length ≤ 60)
theorem rdH (xs : List S73) (i : Nat) : Qk xs (i : Int) = nth z73 xs i := rfl
theorem spec_l06Less_eq (a b : S73) : spec_l06Less.f a.f0 a.f1 a.f2.f0 a.f2.f1 a.f2.f2 a.f2.f3 a.f2.f4 a.f2.f5 a.f2.f6 b.f0 b.f1 b.f2.f0 b.f2.f1 b.f2.f2 b.f2.f3 b.f2.f4 b.f2.f5 b.f2.f6 = some (lessH a b) := by
 unfold spec_l06Less.f lessH
 repeat' split
 all_goals rfl
theorem fnz_cons (a b : Int) (l : List Int) : (0 ≤ firstNZ (cmpI a b :: l)) ↔ (if a = b then 0 ≤ firstNZ l else ¬ a < b) := by
 have e : firstNZ (cmpI a b :: l) = if cmpI a b = 0 then firstNZ l else cmpI a b := rfl
 rw [e]
 unfold cmpI
 rcases Int.lt_trichotomy a b with h | h | h
 ·rw [if_pos h, if_neg (by omega), if_neg (by omega)]; simp [h]
 ·subst h; simp
 ·rw [if_neg (by omega), if_pos h, if_neg (by omega), if_neg (by omega)]; simp; omega
def ordH (a b : S73) : Int := firstNZ [cmpI a.f0 b.f0, cmpI a.f2.f0 b.f2.f0, cmpI a.f2.f1 b.f2.f1, cmpI a.f2.f2 b.f2.f2, cmpI a.f2.f4 b.f2.f4]
theorem impl_Held_order_eq (a b : S73) (k : Nat) (hk : 6 ≤ k) : impl_Held_order.f k a.f0 a.f1 a.f2.f0 a.f2.f1 a.f2.f2 a.f2.f3 a.f2.f4 a.f2.f5 a.f2.f6 b.f0 b.f1 b.f2.f0 b.f2.f1 b.f2.f2 b.f2.f3 b.f2.f4 b.f2.f5 b.f2.f6 = some (ordH a b) := by
 simp only [impl_Held_order.f, cmp_Compare_eq, Option.bind_some]
 rw [cmp_Or_eq _ (by simp) k (by simp; omega)]
 rfl
theorem ordH_neg (a b : S73) : (ordH a b ≥ 0) ↔ lessH a b = false := by
 show 0 ≤ ordH a b ↔ _
 unfold ordH lessH
 simp only [fnz_cons]
 have h0 : 0 ≤ firstNZ [] := by simp [firstNZ]
 repeat' split
 all_goals simp_all
theorem spec_RibRight_loop (xs : List S73) (hn : xs.length ≤ 9223372036854775807) : ∀ (d i k : Nat), i + d = xs.length → d + 1 < k → spec_RibRight.l0 k xs (i : Int) = some (chk (heldAt xs) d i && true) := by
 apply chk_loop 1 (fun k i => spec_RibRight.l0 k xs i)
 ·intro k i hc hi
  simp only [spec_RibRight.l0]
  rw [if_pos (by omega), if_pos (by omega), rdH, spec_l06Peer.f, Q2, Option.bind_some, show inB (nth z73 xs i).f0 1 9 = peerB (nth z73 xs i).f0 from rfl, spec_RouteRight_eq _ _ _ _ _ _ _ k hc]
  simp only [Option.bind_some]
  unfold heldAt rightH
  cases h1 : peerB (nth z73 xs i).f0 with
  | false => simp
  | true =>
   rw [if_pos rfl]
   cases h2 : routeB (nth z73 xs i).f2.f0 (nth z73 xs i).f2.f1 (nth z73 xs i).f2.f2 (nth z73 xs i).f2.f3 (nth z73 xs i).f2.f4 (nth z73 xs i).f2.f5 (nth z73 xs i).f2.f6 with
   | false => simp
   | true =>
    rw [if_pos rfl]
    by_cases h0 : i = 0
    ·subst h0
     rw [if_neg (by omega), if_pos (by simp), wrap_up hi hn]
    ·rw [if_pos (by omega), wrap_down (by omega) (by omega), if_pos (by omega), if_pos (by omega), rdH, wrap_up hi hn, spec_l06Less_eq, Option.bind_some]
     cases h3 : lessH (nth z73 xs (i - 1)) (nth z73 xs i) <;> simp [h0]
 ·intro k _
  simp only [spec_RibRight.l0]
  rw [if_neg (by omega)]
theorem spec_RibRight_eq (xs : List S73) (hn : xs.length ≤ 9223372036854775807) (k : Nat) (hk : xs.length + 6 < k) : spec_RibRight.f k xs = some (ribRight xs) := by
 unfold spec_RibRight.f ribRight
 by_cases h : xs.length ≤ 60
 ·rw [if_neg (by omega), show (0 : Int) = ((0 : Nat) : Int) from rfl, spec_RibRight_loop xs hn xs.length 0 k (by omega) (by omega)]
  simp [h]
 ·rw [if_pos (by omega)]
  simp [h]
theorem impl_RibRight_loop (xs : List S73) (hn : xs.length ≤ 9223372036854775807) : ∀ (d i k : Nat), i + d = xs.length → d + 6 < k → impl_RibRight.l0 k xs xs (xs.length : Int) (i : Int) = some (chk (heldAt xs) d i && decide (xs.length ≤ 60)) := by
 apply chk_loop 6 (fun k i => impl_RibRight.l0 k xs xs (xs.length : Int) i)
 ·intro k i hc hi
  simp only [impl_RibRight.l0]
  rw [if_pos (by omega), if_pos (by omega), if_pos (by omega), rdH, impl_isPeer.f, Q5, Option.bind_some, show inB (nth z73 xs i).f0 1 9 = peerB (nth z73 xs i).f0 from rfl, impl_RouteRight_eq _ _ _ _ _ _ _ k (by omega)]
  simp only [Option.bind_some]
  unfold heldAt rightH
  cases h1 : peerB (nth z73 xs i).f0 with
  | false => simp
  | true =>
   rw [if_pos rfl]
   cases h2 : routeB (nth z73 xs i).f2.f0 (nth z73 xs i).f2.f1 (nth z73 xs i).f2.f2 (nth z73 xs i).f2.f3 (nth z73 xs i).f2.f4 (nth z73 xs i).f2.f5 (nth z73 xs i).f2.f6 with
   | false => simp
   | true =>
    rw [if_pos rfl]
    by_cases h0 : i = 0
    ·subst h0
     rw [if_neg (by omega), if_pos (by simp), wrap_up hi hn]
    ·rw [if_pos (by omega), wrap_down (by omega) (by omega), if_pos (by omega), if_pos (by omega), rdH, wrap_up hi hn, impl_Held_order_eq _ _ k hc, Option.bind_some]
     have ho := ordH_neg (nth z73 xs (i - 1)) (nth z73 xs i)
     cases h3 : lessH (nth z73 xs (i - 1)) (nth z73 xs i) with
     | true => rw [if_neg (by rw [ho, h3]; simp)]; simp
     | false => rw [if_pos (by rw [ho, h3])]; simp [h0]
 ·intro k _
  simp only [impl_RibRight.l0]
  rw [if_neg (by omega)]
  simp only [Option.some.injEq, decide_eq_decide]
  omega
theorem impl_RibRight_eq (xs : List S73) (hn : xs.length ≤ 9223372036854775807) (k : Nat) (hk : xs.length + 6 < k) : impl_RibRight.f k xs = some (ribRight xs) := by
 unfold impl_RibRight.f ribRight
 rw [show (0 : Int) = ((0 : Nat) : Int) from rfl, impl_RibRight_loop xs hn xs.length 0 k (by omega) hk]
def toRoute (x : S40) : S42 := ⟨x.f0, x.f1, x.f2, x.f3, x.f4, x.f5, x.f6⟩
def toHeld (x : S76) : S73 := ⟨x.f0, x.f1, toRoute x.f2⟩
def pipeB (a b c d : Int) (l : List ByteArray) : Bool := inB a 1 1000000 && (timeB b && (timeB c && (timeB d && (decide (l.length ≤ 60) && (decide (c + l.length ≤ 1000000) && (l.all (fun t => decide (t.size ≤ 60)) && (decide (b > 0) || (decide (c = 0) && (decide (d = 0) && decide (l.length = 0))))))))))
def pipeS (x : S100) : Bool := pipeB x.f0 x.f1 x.f2 x.f3 x.f4
theorem rdP (xs : List S100) (i : Nat) : Qp xs (i : Int) = nth z100 xs i := rfl
theorem rdS (xs : List ByteArray) (i : Nat) : rdOf ByteArray.empty xs (i : Int) = nth ByteArray.empty xs i := rfl
theorem spec_PipeRight_loop (a b c d : Int) (l : List ByteArray) (hn : l.length ≤ 9223372036854775807) : ∀ (n i k : Nat), i + n = l.length → n + 0 < k → spec_PipeRight.l0 k (i : Int) a b c d l = some (chk (fun j => decide ((nth ByteArray.empty l j).size ≤ 60)) n i && (decide (b > 0) || (decide (c = 0) && (decide (d = 0) && decide (l.length = 0))))) := by
 apply chk_loop 0 (fun k i => spec_PipeRight.l0 k i a b c d l)
 ·intro k i _ hi
  simp only [spec_PipeRight.l0]
  rw [if_pos (by omega), if_pos (by omega), rdS, wrap_up hi hn]
  by_cases h : (nth ByteArray.empty l i).size ≤ 60
  ·rw [if_neg (by omega), if_pos (by simp [h])]
  ·rw [if_pos (by omega), if_neg (by simp [h])]
 ·intro k _
  simp only [spec_PipeRight.l0]
  rw [if_neg (by omega)]
  by_cases h1 : b > 0
  ·rw [if_pos h1]; simp [h1]
  ·rw [if_neg h1]
   by_cases h2 : c = 0
   ·rw [if_pos h2]
    by_cases h3 : d = 0
    ·rw [if_pos h3]
     simp only [h1, h2, h3, decide_true, decide_false, Bool.true_and, Bool.false_or, Option.some.injEq]
     rw [Bool.eq_iff_iff]
     simp only [beq_iff_eq, decide_eq_true_eq]
     omega
    ·rw [if_neg h3]; simp [h1, h3]
   ·rw [if_neg h2]; simp [h1, h2]
theorem spec_PipeRight_eq (a b c d : Int) (l : List ByteArray) (k : Nat) (hk : 63 < k) : spec_PipeRight.f k a b c d l = some (pipeB a b c d l) := by
 obtain ⟨k, rfl⟩ : ∃ q, k = q + 1 := ⟨k - 1, by omega⟩
 unfold spec_PipeRight.f pipeB
 rw [Q2, spec_l05Time_eq, spec_l05Time_eq, spec_l05Time_eq]
 simp only [Option.bind_some, spec_PipeRight.j0]
 cases inB a 1 1000000 with
 | false => simp
 | true =>
  cases timeB b with
  | false => simp
  | true =>
   cases hc : timeB c with
   | false => simp
   | true =>
    cases timeB d with
    | false => simp
    | true =>
     by_cases h : l.length ≤ 60
     ·have hcb : 0 ≤ c ∧ c ≤ 1000000 := by simpa [timeB, inB] using hc
      have hw : wrap64 (c + (l.length : Int)) = c + l.length := by unfold wrap64; omega
      rw [if_pos rfl, if_pos rfl, if_pos rfl, if_pos rfl, if_neg (by omega), hw, spec_l05Time_eq, Option.bind_some]
      have ht : timeB (c + l.length) = decide (c + l.length ≤ 1000000) := by
       simp only [timeB, inB, decide_eq_true (show (0 : Int) ≤ c + l.length by omega), Bool.true_and]
      rw [ht]
      by_cases h2 : c + (l.length : Int) ≤ 1000000
      ·rw [decide_eq_true h2, if_neg (by decide), show (0 : Int) = ((0 : Nat) : Int) from rfl, spec_PipeRight_loop a b c d l (by omega) l.length 0 k (by omega) (by omega), ← chk_all (fun t : ByteArray => decide (t.size ≤ 60)) ByteArray.empty l]
       simp [h]
      ·rw [decide_eq_false h2, if_pos (by decide)]
       simp [h]
     ·rw [if_pos rfl, if_pos rfl, if_pos rfl, if_pos rfl, if_pos (by omega)]
      simp [h]
def tellerB (a e : Int) (ps : List S100) (l : List S73) : Bool := inB a 1 2 && (inB e 1 1000000 && (decide (1 ≤ ps.length) && (decide (ps.length ≤ 4) && (ribRight l && (ps.all (fun x => pipeS x && decide (x.f0 ≤ e)) && l.all (fun x => decide (x.f0 ≤ (ps.length : Int)) && decide (x.f2.f4 = x.f0)))))))
theorem spec_TellerRight_rib (a e : Int) (ps : List S100) (l : List S73) (hn : l.length ≤ 9223372036854775807) (k : Nat) (hk : l.length < k) : spec_TellerRight.l1 k 0 a e ps l = some (l.all (fun x => decide (x.f0 ≤ (ps.length : Int)) && decide (x.f2.f4 = x.f0))) := by
 have := chk_loop 0 (fun k i => spec_TellerRight.l1 k i a e ps l) l.length (fun j => decide ((nth z73 l j).f0 ≤ (ps.length : Int)) && decide ((nth z73 l j).f2.f4 = (nth z73 l j).f0)) true ?_ ?_ l.length 0 k (by omega) (by omega)
 ·rw [Bool.and_true, chk_all (fun x : S73 => decide (x.f0 ≤ (ps.length : Int)) && decide (x.f2.f4 = x.f0)) z73 l] at this
  exact this
 ·intro k i _ hi
  simp only [spec_TellerRight.l1]
  rw [if_pos (by omega), if_pos (by omega), rdH, wrap_up hi hn]
  by_cases h : (nth z73 l i).f0 ≤ (ps.length : Int)
  ·rw [if_neg (by omega)]
   by_cases h2 : (nth z73 l i).f2.f4 = (nth z73 l i).f0
   ·rw [if_pos h2, if_pos (by simp [h, h2])]
   ·rw [if_neg h2, if_neg (by simp [h2])]
  ·rw [if_pos (by omega), if_neg (by simp [h])]
 ·intro k _
  simp only [spec_TellerRight.l1]
  rw [if_neg (by omega)]
theorem spec_TellerRight_pipes (a e : Int) (ps : List S100) (l : List S73) (hn : l.length ≤ 9223372036854775807) (hp : ps.length ≤ 9223372036854775807) (k : Nat) (hk : ps.length + (l.length + 64) < k) : spec_TellerRight.l0 k 0 a e ps l = some (ps.all (fun x => pipeS x && decide (x.f0 ≤ e)) && l.all (fun x => decide (x.f0 ≤ (ps.length : Int)) && decide (x.f2.f4 = x.f0))) := by
 have := chk_loop (l.length + 64) (fun k i => spec_TellerRight.l0 k i a e ps l) ps.length (fun j => pipeS (nth z100 ps j) && decide ((nth z100 ps j).f0 ≤ e)) (l.all (fun x => decide (x.f0 ≤ (ps.length : Int)) && decide (x.f2.f4 = x.f0))) ?_ ?_ ps.length 0 k (by omega) (by omega)
 ·rw [chk_all (fun x : S100 => pipeS x && decide (x.f0 ≤ e)) z100 ps] at this
  exact this
 ·intro k i hc hi
  simp only [spec_TellerRight.l0]
  rw [if_pos (by omega), if_pos (by omega), rdP, wrap_up hi hp, spec_PipeRight_eq _ _ _ _ _ k (by omega), Option.bind_some, show pipeB (nth z100 ps i).f0 (nth z100 ps i).f1 (nth z100 ps i).f2 (nth z100 ps i).f3 (nth z100 ps i).f4 = pipeS (nth z100 ps i) from rfl]
  cases pipeS (nth z100 ps i) with
  | false => rfl
  | true =>
   by_cases h : (nth z100 ps i).f0 ≤ e
   ·rw [if_pos rfl, if_neg (by omega), if_pos (by simp [h])]
   ·rw [if_pos rfl, if_pos (by omega), if_neg (by simp [h])]
 ·intro k hc
  simp only [spec_TellerRight.l0]
  rw [if_neg (by omega)]
  exact spec_TellerRight_rib a e ps l hn k (by omega)
theorem spec_TellerRight_eq (a e : Int) (ps : List S100) (l : List S73) (hn : l.length ≤ 9223372036854775807) (k : Nat) (hk : l.length + 80 < k) : spec_TellerRight.f k a e ps l = some (tellerB a e ps l) := by
 obtain ⟨k, rfl⟩ : ∃ q, k = q + 1 := ⟨k - 1, by omega⟩
 unfold spec_TellerRight.f tellerB
 rw [Q2, Q2, spec_RibRight_eq l hn _ (by omega)]
 simp only [Option.bind_some, spec_TellerRight.j0]
 cases inB a 1 2 with
 | false => simp
 | true =>
  cases inB e 1 1000000 with
  | false => simp
  | true =>
   rw [if_pos rfl, if_pos rfl]
   by_cases h1 : 1 ≤ ps.length
   ·rw [if_neg (by omega)]
    by_cases h2 : ps.length ≤ 4
    ·rw [if_neg (by omega)]
     cases ribRight l with
     | false => simp
     | true =>
      rw [if_neg (by decide), spec_TellerRight_pipes a e ps l hn (by omega) k (by omega)]
      simp [h1, h2]
    ·rw [if_pos (by omega)]; simp [h2]
   ·rw [if_pos (by omega)]; simp [h1]
theorem impl_TellerRight_rib (a e : Int) (ps : List S100) (l : List S73) (hn : l.length ≤ 9223372036854775807) (k : Nat) (hk : l.length < k) : impl_TellerRight.l1 k 0 a e ps l = some (l.all (fun x => decide (x.f0 ≤ (ps.length : Int)) && decide (x.f2.f4 = x.f0))) := by
 have := chk_loop 0 (fun k i => impl_TellerRight.l1 k i a e ps l) l.length (fun j => decide ((nth z73 l j).f0 ≤ (ps.length : Int)) && decide ((nth z73 l j).f2.f4 = (nth z73 l j).f0)) true ?_ ?_ l.length 0 k (by omega) (by omega)
 ·rw [Bool.and_true, chk_all (fun x : S73 => decide (x.f0 ≤ (ps.length : Int)) && decide (x.f2.f4 = x.f0)) z73 l] at this
  exact this
 ·intro k i _ hi
  simp only [impl_TellerRight.l1]
  rw [if_pos (by omega), if_pos (by omega), rdH, wrap_up hi hn]
  by_cases h : (nth z73 l i).f0 ≤ (ps.length : Int)
  ·rw [if_neg (by omega)]
   by_cases h2 : (nth z73 l i).f2.f4 = (nth z73 l i).f0
   ·rw [if_pos h2, if_pos (by simp [h, h2])]
   ·rw [if_neg h2, if_neg (by simp [h2])]
  ·rw [if_pos (by omega), if_neg (by simp [h])]
 ·intro k _
  simp only [impl_TellerRight.l1]
  rw [if_neg (by omega)]
theorem impl_TellerRight_pipes (a e : Int) (ps : List S100) (l : List S73) (hn : l.length ≤ 9223372036854775807) (hp : ps.length ≤ 9223372036854775807) (k : Nat) (hk : ps.length + (l.length + 64) < k) : impl_TellerRight.l0 k 0 a e ps l = some (ps.all (fun x => pipeS x && decide (x.f0 ≤ e)) && l.all (fun x => decide (x.f0 ≤ (ps.length : Int)) && decide (x.f2.f4 = x.f0))) := by
 have := chk_loop (l.length + 64) (fun k i => impl_TellerRight.l0 k i a e ps l) ps.length (fun j => pipeS (nth z100 ps j) && decide ((nth z100 ps j).f0 ≤ e)) (l.all (fun x => decide (x.f0 ≤ (ps.length : Int)) && decide (x.f2.f4 = x.f0))) ?_ ?_ ps.length 0 k (by omega) (by omega)
 ·rw [chk_all (fun x : S100 => pipeS x && decide (x.f0 ≤ e)) z100 ps] at this
  exact this
 ·intro k i hc hi
  simp only [impl_TellerRight.l0]
  rw [if_pos (by omega), if_pos (by omega), rdP, wrap_up hi hp, spec_PipeRight_eq _ _ _ _ _ k (by omega), Option.bind_some, show pipeB (nth z100 ps i).f0 (nth z100 ps i).f1 (nth z100 ps i).f2 (nth z100 ps i).f3 (nth z100 ps i).f4 = pipeS (nth z100 ps i) from rfl]
  cases pipeS (nth z100 ps i) with
  | false => rfl
  | true =>
   by_cases h : (nth z100 ps i).f0 ≤ e
   ·rw [if_pos rfl, if_neg (by omega), if_pos (by simp [h])]
   ·rw [if_pos rfl, if_pos (by omega), if_neg (by simp [h])]
 ·intro k hc
  simp only [impl_TellerRight.l0]
  rw [if_neg (by omega)]
  exact impl_TellerRight_rib a e ps l hn k (by omega)
theorem impl_TellerRight_eq (a e : Int) (ps : List S100) (l : List S73) (hn : l.length ≤ 9223372036854775807) (k : Nat) (hk : l.length + 80 < k) : impl_TellerRight.f k a e ps l = some (tellerB a e ps l) := by
 obtain ⟨k, rfl⟩ : ∃ q, k = q + 1 := ⟨k - 1, by omega⟩
 unfold impl_TellerRight.f tellerB
 rw [Q5, Q5, impl_RibRight_eq l hn _ (by omega)]
 simp only [Option.bind_some, impl_TellerRight.j0]
 cases inB a 1 2 with
 | false => simp
 | true =>
  cases inB e 1 1000000 with
  | false => simp
  | true =>
   rw [if_pos rfl, if_pos rfl]
   by_cases h1 : 1 ≤ ps.length
   ·rw [if_neg (by omega)]
    by_cases h2 : ps.length ≤ 4
    ·rw [if_neg (by omega)]
     cases ribRight l with
     | false => simp
     | true =>
      rw [if_neg (by decide), impl_TellerRight_pipes a e ps l hn (by omega) k (by omega)]
      simp [h1, h2]
    ·rw [if_pos (by omega)]; simp [h2]
   ·rw [if_pos (by omega)]; simp [h1]
def toPipe (x : S123) : S100 := ⟨x.f0, x.f1, x.f2, x.f3, x.f4⟩
theorem small_to (ps : List S123) (h : ∀ i, i < ps.length → (nth z123 ps i).f4.length ≤ 1048576) : ∀ i, i < (ps.map toPipe).length → (nth z100 (ps.map toPipe) i).f4.length ≤ 1048576 := by
 intro i hi
 have hi' : i < ps.length := by simpa using hi
 have := h i hi'
 rw [nth_lt hi'] at this
 rw [nth_lt hi]
 simpa [toPipe] using this
end
theorem pipeLong_calls (W : World) (x : ByteArray) (w : World) (hb : Below w.heap.size w W) : Calls Try.prog 158 (#[.string x] ++ #[]) W fun e w' => e = .returned (.bool (decide (60 < x.size))) ∧ Below w.heap.size w w' := by
 show Calls Try.prog 158 #[.string x] W _
 have HB := Aside0.mk hb
 clear hb
 go_enter Try.func158, Try.ntmps158
 go_wp2
 go_ret
 have hd : decide (60 < (x.size : Int)) = decide (60 < x.size) := by rw [decide_eq_decide]; omega
 exact ⟨by rw [← hd]; rfl, HB.out⟩
set_option maxHeartbeats 1600000 in
set_option maxRecDepth 100000 in
theorem pipeRight_calls (x0 x1 x2 x3 : Int) (l : List ByteArray) (A4 : Option Addr) (c4 : Nat) (w : World) (hr : Kd.C Kd.string w A4 l.length l) :
  Calls Try.prog 130 #[.agg #[.int .i64 x0, .int .i64 x1, .int .i64 x2, .int .i64 x3, .slice A4 l.length c4]] w fun e w' => e = .returned (.bool (pipeB x0 x1 x2 x3 l)) ∧ Below w.heap.size w w' := by
 have eg : ∀ args w, (callFunc 158 args).run Try.prog w = .ok (.enter 158 args) w := enters_of Try.func158 (by kernel_rfl) rfl
 have hmax := hr.2.1
 have HR := Aside0.mk hr
 have bk := blk_new w (.cells #[.int .i64 x0, .int .i64 x1, .int .i64 x2, .int .i64 x3, .slice A4 l.length c4] 100)
 have HB := Aside0.mk ((Below.refl _ w).alloc (Nat.le_refl _) (.cells #[.int .i64 x0, .int .i64 x1, .int .i64 x2, .int .i64 x3, .slice A4 l.length c4] 100))
 have P0 := Aside0.mk (show impl_isEpoch.f x0 = some (Base.inB x0 1 1000000) by simp [impl_isEpoch.f, Q5])
 have P1 := Aside0.mk (impl_isTime_eq x1)
 have P2 := Aside0.mk (impl_isTime_eq x2)
 have P3 := Aside0.mk (impl_isTime_eq x3)
 have BK := Aside0.mk bk
 have k0 := (Qa bk 0).trans rfl
 have k1 := (Qa bk 1).trans rfl
 have k2 := (Qa bk 2).trans rfl
 have k3 := (Qa bk 3).trans rfl
 have k4 := (Qa bk 4).trans rfl
 clear hr bk
 unfold pipeB
 cases h0 : Base.inB x0 1 1000000 with
 | false =>
  rw [h0] at P0
  clear h0
  rw [Bool.false_and]
  go_enter Try.func130, Try.ntmps130
  go_wp2_with (first | (go_at_call 91; refine (impl_isEpoch.calls _ _ _ P0.out).mono ?_; rintro e w2 ⟨rfl, ⟨n0, rfl⟩⟩))
  go_ret
  exact ⟨rfl, by repeat (first | (with_reducible first | exact HB.out | apply Qe | apply Qc | apply Qd) | exact HB.out)⟩
 | true =>
  rw [h0] at P0
  clear h0
  rw [Bool.true_and]
  cases h1 : Base.timeB x1 with
  | false =>
   rw [h1] at P1
   clear h1
   rw [Bool.false_and]
   go_enter Try.func130, Try.ntmps130
   go_wp2_with (first | (go_at_call 91; refine (impl_isEpoch.calls _ _ _ P0.out).mono ?_; rintro e w2 ⟨rfl, ⟨n0, rfl⟩⟩) | (go_at_call 114; (with_reducible refine (impl_isTime.calls x1 _ _ P1.out).mono ?_); rintro e w3 ⟨rfl, ⟨n1, rfl⟩⟩))
   go_ret
   exact ⟨rfl, by repeat (first | (with_reducible first | exact HB.out | apply Qe | apply Qc | apply Qd) | exact HB.out)⟩
  | true =>
   rw [h1] at P1
   clear h1
   rw [Bool.true_and]
   cases h2 : Base.timeB x2 with
   | false =>
    rw [h2] at P2
    clear h2
    rw [Bool.false_and]
    go_enter Try.func130, Try.ntmps130
    go_wp2_with (first | (go_at_call 91; refine (impl_isEpoch.calls _ _ _ P0.out).mono ?_; rintro e w2 ⟨rfl, ⟨n0, rfl⟩⟩) | (go_at_call 114; (with_reducible refine (impl_isTime.calls x1 _ _ P1.out).mono ?_); rintro e w3 ⟨rfl, ⟨n1, rfl⟩⟩) | (go_at_call 114; (with_reducible refine (impl_isTime.calls x2 _ _ P2.out).mono ?_); rintro e w4 ⟨rfl, ⟨n2, rfl⟩⟩))
    go_ret
    exact ⟨rfl, by repeat (first | (with_reducible first | exact HB.out | apply Qe | apply Qc | apply Qd) | exact HB.out)⟩
   | true =>
    rw [h2] at P2
    have hx2 : 0 ≤ x2 ∧ x2 ≤ 1000000 := by simpa [Base.timeB, Base.inB] using h2
    obtain ⟨hx2a, hx2b⟩ := hx2
    clear h2
    rw [Bool.true_and]
    cases h3 : Base.timeB x3 with
    | false =>
     rw [h3] at P3
     clear h3
     rw [Bool.false_and]
     go_enter Try.func130, Try.ntmps130
     go_wp2_with (first | (go_at_call 91; refine (impl_isEpoch.calls _ _ _ P0.out).mono ?_; rintro e w2 ⟨rfl, ⟨n0, rfl⟩⟩) | (go_at_call 114; (with_reducible refine (impl_isTime.calls x1 _ _ P1.out).mono ?_); rintro e w3 ⟨rfl, ⟨n1, rfl⟩⟩) | (go_at_call 114; (with_reducible refine (impl_isTime.calls x2 _ _ P2.out).mono ?_); rintro e w4 ⟨rfl, ⟨n2, rfl⟩⟩) | (go_at_call 114; (with_reducible refine (impl_isTime.calls x3 _ _ P3.out).mono ?_); rintro e w5 ⟨rfl, ⟨n3, rfl⟩⟩))
     go_ret
     exact ⟨rfl, by repeat (first | (with_reducible first | exact HB.out | apply Qe | apply Qc | apply Qd) | exact HB.out)⟩
    | true =>
     rw [h3] at P3
     clear h3
     rw [Bool.true_and]
     by_cases hl : l.length ≤ 60
     ·have hl1 : decide (60 < l.length) = false := decide_eq_false (by omega)
      have hl2 : decide (60 < (l.length : Int)) = false := decide_eq_false (by omega)
      have hw : IntKind.i64.wrap (x2 + (l.length : Int)) = x2 + l.length := (Qr _).trans (by unfold wrap64; omega)
      rw [decide_eq_true hl, Bool.true_and]
      by_cases hs : x2 + (l.length : Int) ≤ 1000000
      ·have hs1 : decide (1000000 < x2 + (l.length : Int)) = false := decide_eq_false (by omega)
       have hall : l.all (fun t => decide (t.size ≤ 60)) = !(l.any (fun t => decide (60 < t.size))) := by
        rw [List.not_any_eq_all_not]
        congr 1
        funext t
        rw [Bool.eq_iff_iff]
        simp
       rw [decide_eq_true hs, Bool.true_and, hall]
       clear hs hl hall
       cases ha : l.any (fun t => decide (60 < t.size)) with
       | true =>
        have HA := Aside0.mk ha
        clear ha
        rw [Bool.not_true, Bool.false_and]
        go_enter Try.func130, Try.ntmps130
        go_wp2_with (first | (go_at_call 91; refine (impl_isEpoch.calls _ _ _ P0.out).mono ?_; rintro e w2 ⟨rfl, ⟨n0, rfl⟩⟩) | (go_at_call 114; (with_reducible refine (impl_isTime.calls x1 _ _ P1.out).mono ?_); rintro e w3 ⟨rfl, ⟨n1, rfl⟩⟩) | (go_at_call 114; (with_reducible refine (impl_isTime.calls x2 _ _ P2.out).mono ?_); rintro e w4 ⟨rfl, ⟨n2, rfl⟩⟩) | (go_at_call 114; (with_reducible refine (impl_isTime.calls x3 _ _ P3.out).mono ?_); rintro e w5 ⟨rfl, ⟨n3, rfl⟩⟩) | (go_at_call 157; refine (containsFuncS_calls 158 #[] eg (fun t => decide (60 < t.size)) A4 c4 l _ (Kd.C_below HR.out (by repeat (first | (with_reducible first | exact HB.out | apply Qe | apply Qc | apply Qd) | exact HB.out))) (fun W x hb => pipeLong_calls W x _ hb)).mono ?_; rintro e w6 ⟨rfl, hb6⟩; have B6 := Aside0.mk (Qn (by repeat (first | (with_reducible first | exact HB.out | apply Qe | apply Qc | apply Qd) | exact HB.out)) hb6); have bk6 := Qo (by repeat (first | exact BK.out | apply Qg)) hb6; have q1 := (Qa bk6 1).trans rfl; have q2 := (Qa bk6 2).trans rfl; have q3 := (Qa bk6 3).trans rfl; have q4 := (Qa bk6 4).trans rfl; clear hb6 bk6; rw [HA.out]))
        go_ret
        exact ⟨rfl, B6.out⟩
       | false =>
        have HA := Aside0.mk ha
        clear ha
        rw [Bool.not_false, Bool.true_and]
        by_cases hb : 0 < x1
        ·have hb1 : decide (0 < x1) = true := decide_eq_true hb
         rw [show decide (x1 > 0) = true from hb1, Bool.true_or]
         clear hb
         go_enter Try.func130, Try.ntmps130
         go_wp2_with (first | (go_at_call 91; refine (impl_isEpoch.calls _ _ _ P0.out).mono ?_; rintro e w2 ⟨rfl, ⟨n0, rfl⟩⟩) | (go_at_call 114; (with_reducible refine (impl_isTime.calls x1 _ _ P1.out).mono ?_); rintro e w3 ⟨rfl, ⟨n1, rfl⟩⟩) | (go_at_call 114; (with_reducible refine (impl_isTime.calls x2 _ _ P2.out).mono ?_); rintro e w4 ⟨rfl, ⟨n2, rfl⟩⟩) | (go_at_call 114; (with_reducible refine (impl_isTime.calls x3 _ _ P3.out).mono ?_); rintro e w5 ⟨rfl, ⟨n3, rfl⟩⟩) | (go_at_call 157; refine (containsFuncS_calls 158 #[] eg (fun t => decide (60 < t.size)) A4 c4 l _ (Kd.C_below HR.out (by repeat (first | (with_reducible first | exact HB.out | apply Qe | apply Qc | apply Qd) | exact HB.out))) (fun W x hb => pipeLong_calls W x _ hb)).mono ?_; rintro e w6 ⟨rfl, hb6⟩; have B6 := Aside0.mk (Qn (by repeat (first | (with_reducible first | exact HB.out | apply Qe | apply Qc | apply Qd) | exact HB.out)) hb6); have bk6 := Qo (by repeat (first | exact BK.out | apply Qg)) hb6; have q1 := (Qa bk6 1).trans rfl; have q2 := (Qa bk6 2).trans rfl; have q3 := (Qa bk6 3).trans rfl; have q4 := (Qa bk6 4).trans rfl; clear hb6 bk6; rw [HA.out]))
         go_ret
         exact ⟨rfl, B6.out⟩
        ·have hb1 : decide (0 < x1) = false := decide_eq_false hb
         rw [show decide (x1 > 0) = false from hb1, Bool.false_or]
         clear hb
         by_cases hc : x2 = 0
         ·have hc1 : (x2 == 0) = true := beq_iff_eq.2 hc
          rw [decide_eq_true hc, Bool.true_and]
          clear hc
          by_cases hd : x3 = 0
          ·have hd1 : (x3 == 0) = true := beq_iff_eq.2 hd
           rw [decide_eq_true hd, Bool.true_and]
           clear hd
           by_cases he : l.length = 0
           ·have he1 : ((l.length : Int) == 0) = true := beq_iff_eq.2 (by omega)
            rw [decide_eq_true he]
            clear he
            go_enter Try.func130, Try.ntmps130
            go_wp2_with (first | (go_at_call 91; refine (impl_isEpoch.calls _ _ _ P0.out).mono ?_; rintro e w2 ⟨rfl, ⟨n0, rfl⟩⟩) | (go_at_call 114; (with_reducible refine (impl_isTime.calls x1 _ _ P1.out).mono ?_); rintro e w3 ⟨rfl, ⟨n1, rfl⟩⟩) | (go_at_call 114; (with_reducible refine (impl_isTime.calls x2 _ _ P2.out).mono ?_); rintro e w4 ⟨rfl, ⟨n2, rfl⟩⟩) | (go_at_call 114; (with_reducible refine (impl_isTime.calls x3 _ _ P3.out).mono ?_); rintro e w5 ⟨rfl, ⟨n3, rfl⟩⟩) | (go_at_call 157; refine (containsFuncS_calls 158 #[] eg (fun t => decide (60 < t.size)) A4 c4 l _ (Kd.C_below HR.out (by repeat (first | (with_reducible first | exact HB.out | apply Qe | apply Qc | apply Qd) | exact HB.out))) (fun W x hb => pipeLong_calls W x _ hb)).mono ?_; rintro e w6 ⟨rfl, hb6⟩; have B6 := Aside0.mk (Qn (by repeat (first | (with_reducible first | exact HB.out | apply Qe | apply Qc | apply Qd) | exact HB.out)) hb6); have bk6 := Qo (by repeat (first | exact BK.out | apply Qg)) hb6; have q1 := (Qa bk6 1).trans rfl; have q2 := (Qa bk6 2).trans rfl; have q3 := (Qa bk6 3).trans rfl; have q4 := (Qa bk6 4).trans rfl; clear hb6 bk6; rw [HA.out]))
            go_ret
            exact ⟨rfl, B6.out⟩
           ·have he1 : ((l.length : Int) == 0) = false := beq_eq_false_iff_ne.2 (by omega)
            rw [decide_eq_false he]
            clear he
            go_enter Try.func130, Try.ntmps130
            go_wp2_with (first | (go_at_call 91; refine (impl_isEpoch.calls _ _ _ P0.out).mono ?_; rintro e w2 ⟨rfl, ⟨n0, rfl⟩⟩) | (go_at_call 114; (with_reducible refine (impl_isTime.calls x1 _ _ P1.out).mono ?_); rintro e w3 ⟨rfl, ⟨n1, rfl⟩⟩) | (go_at_call 114; (with_reducible refine (impl_isTime.calls x2 _ _ P2.out).mono ?_); rintro e w4 ⟨rfl, ⟨n2, rfl⟩⟩) | (go_at_call 114; (with_reducible refine (impl_isTime.calls x3 _ _ P3.out).mono ?_); rintro e w5 ⟨rfl, ⟨n3, rfl⟩⟩) | (go_at_call 157; refine (containsFuncS_calls 158 #[] eg (fun t => decide (60 < t.size)) A4 c4 l _ (Kd.C_below HR.out (by repeat (first | (with_reducible first | exact HB.out | apply Qe | apply Qc | apply Qd) | exact HB.out))) (fun W x hb => pipeLong_calls W x _ hb)).mono ?_; rintro e w6 ⟨rfl, hb6⟩; have B6 := Aside0.mk (Qn (by repeat (first | (with_reducible first | exact HB.out | apply Qe | apply Qc | apply Qd) | exact HB.out)) hb6); have bk6 := Qo (by repeat (first | exact BK.out | apply Qg)) hb6; have q1 := (Qa bk6 1).trans rfl; have q2 := (Qa bk6 2).trans rfl; have q3 := (Qa bk6 3).trans rfl; have q4 := (Qa bk6 4).trans rfl; clear hb6 bk6; rw [HA.out]))
            go_ret
            exact ⟨rfl, B6.out⟩
          ·have hd1 : (x3 == 0) = false := beq_eq_false_iff_ne.2 hd
           rw [decide_eq_false hd, Bool.false_and]
           clear hd
           go_enter Try.func130, Try.ntmps130
           go_wp2_with (first | (go_at_call 91; refine (impl_isEpoch.calls _ _ _ P0.out).mono ?_; rintro e w2 ⟨rfl, ⟨n0, rfl⟩⟩) | (go_at_call 114; (with_reducible refine (impl_isTime.calls x1 _ _ P1.out).mono ?_); rintro e w3 ⟨rfl, ⟨n1, rfl⟩⟩) | (go_at_call 114; (with_reducible refine (impl_isTime.calls x2 _ _ P2.out).mono ?_); rintro e w4 ⟨rfl, ⟨n2, rfl⟩⟩) | (go_at_call 114; (with_reducible refine (impl_isTime.calls x3 _ _ P3.out).mono ?_); rintro e w5 ⟨rfl, ⟨n3, rfl⟩⟩) | (go_at_call 157; refine (containsFuncS_calls 158 #[] eg (fun t => decide (60 < t.size)) A4 c4 l _ (Kd.C_below HR.out (by repeat (first | (with_reducible first | exact HB.out | apply Qe | apply Qc | apply Qd) | exact HB.out))) (fun W x hb => pipeLong_calls W x _ hb)).mono ?_; rintro e w6 ⟨rfl, hb6⟩; have B6 := Aside0.mk (Qn (by repeat (first | (with_reducible first | exact HB.out | apply Qe | apply Qc | apply Qd) | exact HB.out)) hb6); have bk6 := Qo (by repeat (first | exact BK.out | apply Qg)) hb6; have q1 := (Qa bk6 1).trans rfl; have q2 := (Qa bk6 2).trans rfl; have q3 := (Qa bk6 3).trans rfl; have q4 := (Qa bk6 4).trans rfl; clear hb6 bk6; rw [HA.out]))
           go_ret
           exact ⟨rfl, B6.out⟩
         ·have hc1 : (x2 == 0) = false := beq_eq_false_iff_ne.2 hc
          rw [decide_eq_false hc, Bool.false_and]
          clear hc
          go_enter Try.func130, Try.ntmps130
          go_wp2_with (first | (go_at_call 91; refine (impl_isEpoch.calls _ _ _ P0.out).mono ?_; rintro e w2 ⟨rfl, ⟨n0, rfl⟩⟩) | (go_at_call 114; (with_reducible refine (impl_isTime.calls x1 _ _ P1.out).mono ?_); rintro e w3 ⟨rfl, ⟨n1, rfl⟩⟩) | (go_at_call 114; (with_reducible refine (impl_isTime.calls x2 _ _ P2.out).mono ?_); rintro e w4 ⟨rfl, ⟨n2, rfl⟩⟩) | (go_at_call 114; (with_reducible refine (impl_isTime.calls x3 _ _ P3.out).mono ?_); rintro e w5 ⟨rfl, ⟨n3, rfl⟩⟩) | (go_at_call 157; refine (containsFuncS_calls 158 #[] eg (fun t => decide (60 < t.size)) A4 c4 l _ (Kd.C_below HR.out (by repeat (first | (with_reducible first | exact HB.out | apply Qe | apply Qc | apply Qd) | exact HB.out))) (fun W x hb => pipeLong_calls W x _ hb)).mono ?_; rintro e w6 ⟨rfl, hb6⟩; have B6 := Aside0.mk (Qn (by repeat (first | (with_reducible first | exact HB.out | apply Qe | apply Qc | apply Qd) | exact HB.out)) hb6); have bk6 := Qo (by repeat (first | exact BK.out | apply Qg)) hb6; have q1 := (Qa bk6 1).trans rfl; have q2 := (Qa bk6 2).trans rfl; have q3 := (Qa bk6 3).trans rfl; have q4 := (Qa bk6 4).trans rfl; clear hb6 bk6; rw [HA.out]))
          go_ret
          exact ⟨rfl, B6.out⟩
      ·have hs1 : decide (1000000 < x2 + (l.length : Int)) = true := decide_eq_true (by omega)
       rw [decide_eq_false hs, Bool.false_and]
       clear hs hl
       go_enter Try.func130, Try.ntmps130
       go_wp2_with (first | (go_at_call 91; refine (impl_isEpoch.calls _ _ _ P0.out).mono ?_; rintro e w2 ⟨rfl, ⟨n0, rfl⟩⟩) | (go_at_call 114; (with_reducible refine (impl_isTime.calls x1 _ _ P1.out).mono ?_); rintro e w3 ⟨rfl, ⟨n1, rfl⟩⟩) | (go_at_call 114; (with_reducible refine (impl_isTime.calls x2 _ _ P2.out).mono ?_); rintro e w4 ⟨rfl, ⟨n2, rfl⟩⟩) | (go_at_call 114; (with_reducible refine (impl_isTime.calls x3 _ _ P3.out).mono ?_); rintro e w5 ⟨rfl, ⟨n3, rfl⟩⟩))
       go_ret
       exact ⟨rfl, by repeat (first | (with_reducible first | exact HB.out | apply Qe | apply Qc | apply Qd) | exact HB.out)⟩
     ·have hl1 : decide (60 < l.length) = true := decide_eq_true (by omega)
      have hl2 : decide (60 < (l.length : Int)) = true := decide_eq_true (by omega)
      rw [decide_eq_false hl, Bool.false_and]
      clear hl
      go_enter Try.func130, Try.ntmps130
      go_wp2_with (first | (go_at_call 91; refine (impl_isEpoch.calls _ _ _ P0.out).mono ?_; rintro e w2 ⟨rfl, ⟨n0, rfl⟩⟩) | (go_at_call 114; (with_reducible refine (impl_isTime.calls x1 _ _ P1.out).mono ?_); rintro e w3 ⟨rfl, ⟨n1, rfl⟩⟩) | (go_at_call 114; (with_reducible refine (impl_isTime.calls x2 _ _ P2.out).mono ?_); rintro e w4 ⟨rfl, ⟨n2, rfl⟩⟩) | (go_at_call 114; (with_reducible refine (impl_isTime.calls x3 _ _ P3.out).mono ?_); rintro e w5 ⟨rfl, ⟨n3, rfl⟩⟩))
      go_ret
      exact ⟨rfl, by repeat (first | (with_reducible first | exact HB.out | apply Qe | apply Qc | apply Qd) | exact HB.out)⟩
def pipeBad (e : Int) (x : S100) : Bool := !pipeS x || decide (x.f0 > e)
set_option maxHeartbeats 1600000 in
set_option maxRecDepth 100000 in
theorem pipeBad_pred (ep : Int) (b : Nat) (w : World) (hc : w.heap[b]? = some (.cells #[.int .i64 ep] 2 (0, 0))) :
  Base.PredK Try.prog 129 #[.pointer (some ⟨b, 0, none⟩)] k100 (pipeBad ep) w := by
 intro W x cs hs hk
 obtain ⟨A4, c4, rfl, hl4, h4⟩ := k100_open hk
 have hcW := Qo hc hs
 have HS := Aside0.mk hs
 have BB := Aside0.mk hcW
 have H4 := Aside0.mk h4
 clear hk hs h4 hcW hc
 obtain ⟨x0, x1, x2, x3, x4⟩ := x
 have HB := Aside0.mk ((Below.refl _ W).alloc (Nat.le_refl _) (.cells #[.int .i64 x0, .int .i64 x1, .int .i64 x2, .int .i64 x3, .slice A4 x4.length c4] 100))
 have BX := Aside0.mk (blk_new W (.cells #[.int .i64 x0, .int .i64 x1, .int .i64 x2, .int .i64 x3, .slice A4 x4.length c4] 100))
 have BA := Aside0.mk (Qh BB.out (.cells #[.int .i64 x0, .int .i64 x1, .int .i64 x2, .int .i64 x3, .slice A4 x4.length c4] 100))
 show Calls Try.prog 129 #[.agg #[.int .i64 x0, .int .i64 x1, .int .i64 x2, .int .i64 x3, .slice A4 x4.length c4], .pointer (some ⟨b, 0, none⟩)] W _
 have HC := Aside0.mk (Kd.C_below H4.out HB.out)
 have k0 := (Qa BX.out 0).trans rfl
 have k1 := (Qa BX.out 1).trans rfl
 have k2 := (Qa BX.out 2).trans rfl
 have k3 := (Qa BX.out 3).trans rfl
 have k4 := (Qa BX.out 4).trans rfl
 have HU := Aside0.mk (show pipeBad ep ⟨x0, x1, x2, x3, x4⟩ = (!pipeB x0 x1 x2 x3 x4 || decide (x0 > ep)) from rfl)
 go_enter Try.func129, Try.ntmps129
 go_wp2_with fail
 refine (pipeRight_calls x0 x1 x2 x3 x4 A4 c4 _ HC.out).mono ?_
 rintro e w2 ⟨rfl, hb⟩
 have HB2 := Aside0.mk (Qn HB.out hb)
 have BX2 := Aside0.mk (Qo BX.out hb)
 have BA2 := Aside0.mk (Qo BA.out hb)
 clear hb k0 k1 k2 k3 k4
 have k0 := (Qa BX2.out 0).trans rfl
 have b0 := (Qa BA2.out 0).trans rfl
 cases hp : pipeB x0 x1 x2 x3 x4 with
 | false =>
  have HP := Aside0.mk hp
  clear hp
  go_wp2
  go_ret
  exact ⟨by rw [HU.out, HP.out]; rfl, HS.out.trans (HB2.out.mono HS.out.size)⟩
 | true =>
  have HP := Aside0.mk hp
  clear hp
  by_cases hx : ep < x0
  ·have hx1 : decide (ep < x0) = true := decide_eq_true hx
   go_wp2
   go_ret
   exact ⟨by rw [HU.out, HP.out, show decide (x0 > ep) = true from hx1]; rfl, HS.out.trans (HB2.out.mono HS.out.size)⟩
  ·have hx1 : decide (ep < x0) = false := decide_eq_false hx
   go_wp2
   go_ret
   exact ⟨by rw [HU.out, HP.out, show decide (x0 > ep) = false from hx1]; rfl, HS.out.trans (HB2.out.mono HS.out.size)⟩
set_option maxHeartbeats 800000 in
theorem arePipes_calls (A : Option Addr) (c : Nat) (l : List S100) (ep : Int) (w : World) (hr : Kd.C k100 w A l.length l) :
  Calls Try.prog 92 #[.slice A l.length c, .int .i64 ep] w fun e w' => e = .returned (.bool (l.all (fun x => pipeS x && decide (x.f0 ≤ ep)))) ∧ Below w.heap.size w w' := by
 have eg : ∀ args w, (callFunc 129 args).run Try.prog w = .ok (.enter 129 args) w := enters_of Try.func129 (by kernel_rfl) rfl
 have B1 := Aside0.mk ((Below.refl _ w).alloc (Nat.le_refl _) (.cells #[.int .i64 ep] 2))
 have BK := Aside0.mk (blk_new w (.cells #[.int .i64 ep] 2))
 have HR := Aside0.mk hr
 have HA := Aside0.mk (show l.all (fun x => pipeS x && decide (x.f0 ≤ ep)) = !(l.any (pipeBad ep)) by
  rw [List.not_any_eq_all_not]
  congr 1
  funext x
  unfold pipeBad
  rw [Bool.not_or, Bool.not_not]
  congr 1
  rw [← decide_not, decide_eq_decide]
  omega)
 clear hr
 go_enter Try.func92, Try.ntmps92
 go_wp2_with fail
 refine (containsFuncP_calls 129 #[.pointer (some ⟨w.heap.size, 0, none⟩)] eg (pipeBad ep) A c l _ (Kd.C_below HR.out B1.out) (pipeBad_pred ep w.heap.size _ BK.out)).mono ?_
 rintro e w2 ⟨rfl, hb⟩
 have HB := Aside0.mk (Qn B1.out hb)
 clear hb
 generalize l.any (pipeBad ep) = q at *
 go_wp2
 go_ret
 exact ⟨by rw [HA.out]; rfl, HB.out⟩
def heldBad (n : Int) (x : S73) : Bool := decide (x.f0 > n) || decide (x.f0 ≠ x.f2.f4)
set_option maxHeartbeats 1600000 in
set_option maxRecDepth 100000 in
theorem heldBad_pred (i0 e0 : Int) (A2 A3 : Option Addr) (n2 c2 n3 c3 : Nat) (b : Nat) (w : World) (hc : w.heap[b]? = some (.cells #[.int .i64 i0, .int .i64 e0, .slice A2 n2 c2, .slice A3 n3 c3] 57 (0, 0))) :
  Base.PredK Try.prog 94 #[.pointer (some ⟨b, 0, none⟩)] k73 (heldBad n2) w := by
 intro W x cs hs hk
 obtain rfl := k73_open hk
 have HS := Aside0.mk hs
 have BB := Aside0.mk (Qo hc hs)
 clear hk hs hc
 have HB := Aside0.mk ((Below.refl _ W).alloc (Nat.le_refl _) (.cells [.int .i64 x.f0, .bool x.f1, .int .i64 x.f2.f0, .int .i64 x.f2.f1, .int .i64 x.f2.f2, .int .i64 x.f2.f3, .int .i64 x.f2.f4, .int .i64 x.f2.f5, .bool x.f2.f6].toArray 73))
 have BX := Aside0.mk (blk_new W (.cells [.int .i64 x.f0, .bool x.f1, .int .i64 x.f2.f0, .int .i64 x.f2.f1, .int .i64 x.f2.f2, .int .i64 x.f2.f3, .int .i64 x.f2.f4, .int .i64 x.f2.f5, .bool x.f2.f6].toArray 73))
 have BA := Aside0.mk (Qh BB.out (.cells [.int .i64 x.f0, .bool x.f1, .int .i64 x.f2.f0, .int .i64 x.f2.f1, .int .i64 x.f2.f2, .int .i64 x.f2.f3, .int .i64 x.f2.f4, .int .i64 x.f2.f5, .bool x.f2.f6].toArray 73))
 obtain ⟨x0, x1, ⟨x2, x3, x4, x5, x6, x7, x8⟩⟩ := x
 show Calls Try.prog 94 #[.agg #[.int .i64 x0, .bool x1, .int .i64 x2, .int .i64 x3, .int .i64 x4, .int .i64 x5, .int .i64 x6, .int .i64 x7, .bool x8], .pointer (some ⟨b, 0, none⟩)] W _
 have k0 := (Qa BX.out 0).trans rfl
 have k6 := (Qa BX.out 6).trans rfl
 have b2 := (Qa BA.out 2).trans rfl
 have HU := Aside0.mk (show heldBad n2 ⟨x0, x1, ⟨x2, x3, x4, x5, x6, x7, x8⟩⟩ = (decide (x0 > (n2 : Int)) || decide (x0 ≠ x6)) from rfl)
 by_cases hx : (n2 : Int) < x0
 ·have hx1 : decide ((n2 : Int) < x0) = true := decide_eq_true hx
  go_enter Try.func94, Try.ntmps94
  go_wp2
  go_ret
  exact ⟨by rw [HU.out, show decide (x0 > (n2 : Int)) = true from hx1]; rfl, HS.out.trans (HB.out.mono HS.out.size)⟩
 ·have hx1 : decide ((n2 : Int) < x0) = false := decide_eq_false hx
  by_cases hy : x0 = x6
  ·have hy1 : (x0 != x6) = false := bne_eq_false_iff_eq.2 hy
   have HY := Aside0.mk (show decide (x0 ≠ x6) = false from decide_eq_false (fun h => h hy))
   clear hy
   go_enter Try.func94, Try.ntmps94
   go_wp2
   go_ret
   exact ⟨by rw [HU.out, show decide (x0 > (n2 : Int)) = false from hx1, HY.out]; rfl, HS.out.trans (HB.out.mono HS.out.size)⟩
  ·have hy1 : (x0 != x6) = true := bne_iff_ne.2 hy
   have HY := Aside0.mk (show decide (x0 ≠ x6) = true from decide_eq_true hy)
   clear hy
   go_enter Try.func94, Try.ntmps94
   go_wp2
   go_ret
   exact ⟨by rw [HU.out, show decide (x0 > (n2 : Int)) = false from hx1, HY.out]; rfl, HS.out.trans (HB.out.mono HS.out.size)⟩
theorem tellerR_up (a e : Int) (ps : List S100) (l : List S73) (k : Nat) (t : Bool) (h : impl_TellerRight.f k a e ps l = some t) : ∀ n, impl_TellerRight.f (k + n) a e ps l = some t := by
 intro n
 induction n with
 | zero => exact h
 | succ n ih => exact impl_TellerRight.mono _ _ _ _ _ _ ih
theorem tellerR_is (a e : Int) (ps : List S100) (l : List S73) (hn : l.length ≤ 9223372036854775807) (k : Nat) (t : Bool) (h : impl_TellerRight.f k a e ps l = some t) : t = tellerB a e ps l := by
 have h1 := tellerR_up a e ps l k t h (l.length + 81)
 rw [impl_TellerRight_eq a e ps l hn _ (by omega)] at h1
 exact (Option.some.inj h1).symm
theorem tellerB_is (a e : Int) (ps : List S100) (l : List S73) : tellerB a e ps l = (Base.inB a 1 2 && (Base.inB e 1 1000000 && (Base.inB (ps.length : Int) 1 4 && (ps.all (fun x => pipeS x && decide (x.f0 ≤ e)) && (ribRight l && !(l.any (heldBad ps.length))))))) := by
 have h1 : Base.inB (ps.length : Int) 1 4 = (decide (1 ≤ ps.length) && decide (ps.length ≤ 4)) := by
  unfold Base.inB
  congr 1 <;> (rw [decide_eq_decide]; omega)
 have h2 : l.all (fun x => decide (x.f0 ≤ (ps.length : Int)) && decide (x.f2.f4 = x.f0)) = !(l.any (heldBad ps.length)) := by
  rw [List.not_any_eq_all_not]
  congr 1
  funext x
  unfold heldBad
  rw [Bool.not_or, ← decide_not, ← decide_not]
  congr 1
  ·rw [decide_eq_decide]; omega
  ·rw [decide_eq_decide]; omega
 unfold tellerB
 rw [h1, h2]
 generalize ps.all (fun x => pipeS x && decide (x.f0 ≤ e)) = q1
 generalize l.any (heldBad ps.length) = q2
 cases Base.inB a 1 2 <;> cases Base.inB e 1 1000000 <;> cases decide (1 ≤ ps.length) <;> cases decide (ps.length ≤ 4) <;> cases ribRight l <;> cases q1 <;> cases q2 <;> rfl
set_option maxHeartbeats 8000000 in
set_option maxRecDepth 100000 in
theorem impl_TellerRight.calls (k : Nat) (a0_0 : Int) (a0_1 : Int) (A0_2 : Option Addr) (c0_2 : Nat) (l0_2 : List (S100)) (A0_3 : Option Addr) (c0_3 : Nat) (l0_3 : List (S73)) (r : Bool) (w : World) (hr0_2 : Kd.C k100 w A0_2 l0_2.length l0_2) (hc0_2 : l0_2.length ≤ c0_2) (hr0_3 : Kd.C k73 w A0_3 l0_3.length l0_3) (hc0_3 : l0_3.length ≤ c0_3) (h : impl_TellerRight.f k a0_0 a0_1 l0_2 l0_3 = some r) :
  Calls Try.prog 46 #[.agg #[.int .i64 a0_0, .int .i64 a0_1, .slice A0_2 l0_2.length c0_2, .slice A0_3 l0_3.length c0_3]] w fun e w' => e = .returned (.bool r) ∧ Below w.heap.size w w' := by
 have eg : ∀ args w, (callFunc 94 args).run Try.prog w = .ok (.enter 94 args) w := enters_of Try.func94 (by kernel_rfl) rfl
 obtain rfl := tellerR_is a0_0 a0_1 l0_2 l0_3 hr0_3.2.1 k r h
 have HR2 := Aside0.mk hr0_2
 have HR3 := Aside0.mk hr0_3
 have HC3 := Aside0.mk hc0_3
 have hm2 := hr0_2.2.1
 have hm3 := hr0_3.2.1
 have HB := Aside0.mk ((Below.refl _ w).alloc (Nat.le_refl _) (.cells #[.int .i64 a0_0, .int .i64 a0_1, .slice A0_2 l0_2.length c0_2, .slice A0_3 l0_3.length c0_3] 57))
 have BK := Aside0.mk (blk_new w (.cells #[.int .i64 a0_0, .int .i64 a0_1, .slice A0_2 l0_2.length c0_2, .slice A0_3 l0_3.length c0_3] 57))
 have P0 := Aside0.mk (Q5 a0_0 1 2)
 have P1 := Aside0.mk (show impl_isEpoch.f a0_1 = some (Base.inB a0_1 1 1000000) by simp [impl_isEpoch.f, Q5])
 have P2 := Aside0.mk (Q5 (l0_2.length : Int) 1 4)
 have P4 := Aside0.mk (impl_RibRight_eq l0_3 hm3 (l0_3.length + 7) (by omega))
 have HT := Aside0.mk (tellerB_is a0_0 a0_1 l0_2 l0_3)
 have k0 := (Qa BK.out 0).trans rfl
 have k1 := (Qa BK.out 1).trans rfl
 have k2 := (Qa BK.out 2).trans rfl
 have k3 := (Qa BK.out 3).trans rfl
 have E3 := Aside0.mk (rfl : l0_2.all (fun x => pipeS x && decide (x.f0 ≤ a0_1)) = l0_2.all (fun x => pipeS x && decide (x.f0 ≤ a0_1)))
 have E5 := Aside0.mk (rfl : l0_3.any (heldBad l0_2.length) = l0_3.any (heldBad l0_2.length))
 clear hr0_2 hr0_3 hc0_2 hc0_3 h
 generalize Base.inB a0_0 1 2 = t0 at P0 HT
 generalize Base.inB a0_1 1 1000000 = t1 at P1 HT
 generalize Base.inB (l0_2.length : Int) 1 4 = t2 at P2 HT
 obtain ⟨t3, h3⟩ : ∃ t3, t3 = l0_2.all (fun x => pipeS x && decide (x.f0 ≤ a0_1)) := ⟨_, rfl⟩
 rw [← h3] at HT
 replace E3 := Aside0.mk h3.symm
 clear h3
 generalize ribRight l0_3 = t4 at P4 HT
 obtain ⟨t5, h5⟩ : ∃ t5, t5 = l0_3.any (heldBad l0_2.length) := ⟨_, rfl⟩
 rw [← h5] at HT
 replace E5 := Aside0.mk h5.symm
 clear h5
 cases t0 with
 | false =>
  go_enter Try.func46, Try.ntmps46
  go_wp2_with (first | (go_at_call 90; first | ((with_reducible refine (impl_in.calls a0_0 1 2 _ _ P0.out).mono ?_); rintro e w2 ⟨rfl, ⟨n0, rfl⟩⟩) | ((with_reducible refine (impl_in.calls (l0_2.length : Int) 1 4 _ _ P2.out).mono ?_); rintro e w4 ⟨rfl, ⟨n2, rfl⟩⟩)))
  go_ret
  exact ⟨by rw [HT.out]; rfl, by repeat (first | exact HB.out | apply Qc)⟩
 | true =>
  cases t1 with
  | false =>
   go_enter Try.func46, Try.ntmps46
   go_wp2_with (first | (go_at_call 90; first | ((with_reducible refine (impl_in.calls a0_0 1 2 _ _ P0.out).mono ?_); rintro e w2 ⟨rfl, ⟨n0, rfl⟩⟩) | ((with_reducible refine (impl_in.calls (l0_2.length : Int) 1 4 _ _ P2.out).mono ?_); rintro e w4 ⟨rfl, ⟨n2, rfl⟩⟩)) | (go_at_call 91; refine (impl_isEpoch.calls _ _ _ P1.out).mono ?_; rintro e w3 ⟨rfl, ⟨n1, rfl⟩⟩))
   go_ret
   exact ⟨by rw [HT.out]; rfl, by repeat (first | exact HB.out | apply Qc)⟩
  | true =>
   cases t2 with
   | false =>
    go_enter Try.func46, Try.ntmps46
    go_wp2_with (first | (go_at_call 90; first | ((with_reducible refine (impl_in.calls a0_0 1 2 _ _ P0.out).mono ?_); rintro e w2 ⟨rfl, ⟨n0, rfl⟩⟩) | ((with_reducible refine (impl_in.calls (l0_2.length : Int) 1 4 _ _ P2.out).mono ?_); rintro e w4 ⟨rfl, ⟨n2, rfl⟩⟩)) | (go_at_call 91; refine (impl_isEpoch.calls _ _ _ P1.out).mono ?_; rintro e w3 ⟨rfl, ⟨n1, rfl⟩⟩))
    go_ret
    exact ⟨by rw [HT.out]; rfl, by repeat (first | exact HB.out | apply Qc)⟩
   | true =>
    cases t3 with
    | false =>
     go_enter Try.func46, Try.ntmps46
     go_wp2_with (first | (go_at_call 90; first | ((with_reducible refine (impl_in.calls a0_0 1 2 _ _ P0.out).mono ?_); rintro e w2 ⟨rfl, ⟨n0, rfl⟩⟩) | ((with_reducible refine (impl_in.calls (l0_2.length : Int) 1 4 _ _ P2.out).mono ?_); rintro e w4 ⟨rfl, ⟨n2, rfl⟩⟩)) | (go_at_call 91; refine (impl_isEpoch.calls _ _ _ P1.out).mono ?_; rintro e w3 ⟨rfl, ⟨n1, rfl⟩⟩) | (go_at_call 92; refine (arePipes_calls _ _ l0_2 a0_1 _ (Kd.C_below HR2.out (by repeat (first | exact HB.out | apply Qc)))).mono ?_; rintro e w5 ⟨rfl, hb5⟩; have B5 := Aside0.mk (Qn (by repeat (first | exact HB.out | apply Qc)) hb5); have BK5 := Aside0.mk (Qo (by repeat (first | exact BK.out | apply Qg)) hb5); have q2 := (Qa BK5.out 2).trans rfl; have q3 := (Qa BK5.out 3).trans rfl; clear hb5; rw [E3.out]))
     go_ret
     exact ⟨by rw [HT.out]; rfl, B5.out⟩
    | true =>
     cases t4 with
     | false =>
      go_enter Try.func46, Try.ntmps46
      go_wp2_with (first | (go_at_call 90; first | ((with_reducible refine (impl_in.calls a0_0 1 2 _ _ P0.out).mono ?_); rintro e w2 ⟨rfl, ⟨n0, rfl⟩⟩) | ((with_reducible refine (impl_in.calls (l0_2.length : Int) 1 4 _ _ P2.out).mono ?_); rintro e w4 ⟨rfl, ⟨n2, rfl⟩⟩)) | (go_at_call 91; refine (impl_isEpoch.calls _ _ _ P1.out).mono ?_; rintro e w3 ⟨rfl, ⟨n1, rfl⟩⟩) | (go_at_call 92; refine (arePipes_calls _ _ l0_2 a0_1 _ (Kd.C_below HR2.out (by repeat (first | exact HB.out | apply Qc)))).mono ?_; rintro e w5 ⟨rfl, hb5⟩; have B5 := Aside0.mk (Qn (by repeat (first | exact HB.out | apply Qc)) hb5); have BK5 := Aside0.mk (Qo (by repeat (first | exact BK.out | apply Qg)) hb5); have q2 := (Qa BK5.out 2).trans rfl; have q3 := (Qa BK5.out 3).trans rfl; clear hb5; rw [E3.out]) | (go_at_call 57; refine (impl_RibRight.calls (l0_3.length + 7) _ _ l0_3 _ _ (Kd.C_below HR3.out B5.out) HC3.out P4.out).mono ?_; rintro e w6 ⟨rfl, hb6⟩; have B6 := Aside0.mk (Qn B5.out hb6); have BK6 := Aside0.mk (Qo BK5.out hb6); have p2 := (Qa BK6.out 2).trans rfl; have p3 := (Qa BK6.out 3).trans rfl; clear hb6))
      go_ret
      exact ⟨by rw [HT.out]; rfl, B6.out⟩
     | true =>
      go_enter Try.func46, Try.ntmps46
      go_wp2_with (first | (go_at_call 90; first | ((with_reducible refine (impl_in.calls a0_0 1 2 _ _ P0.out).mono ?_); rintro e w2 ⟨rfl, ⟨n0, rfl⟩⟩) | ((with_reducible refine (impl_in.calls (l0_2.length : Int) 1 4 _ _ P2.out).mono ?_); rintro e w4 ⟨rfl, ⟨n2, rfl⟩⟩)) | (go_at_call 91; refine (impl_isEpoch.calls _ _ _ P1.out).mono ?_; rintro e w3 ⟨rfl, ⟨n1, rfl⟩⟩) | (go_at_call 92; refine (arePipes_calls _ _ l0_2 a0_1 _ (Kd.C_below HR2.out (by repeat (first | exact HB.out | apply Qc)))).mono ?_; rintro e w5 ⟨rfl, hb5⟩; have B5 := Aside0.mk (Qn (by repeat (first | exact HB.out | apply Qc)) hb5); have BK5 := Aside0.mk (Qo (by repeat (first | exact BK.out | apply Qg)) hb5); have q2 := (Qa BK5.out 2).trans rfl; have q3 := (Qa BK5.out 3).trans rfl; clear hb5; rw [E3.out]) | (go_at_call 57; refine (impl_RibRight.calls (l0_3.length + 7) _ _ l0_3 _ _ (Kd.C_below HR3.out B5.out) HC3.out P4.out).mono ?_; rintro e w6 ⟨rfl, hb6⟩; have B6 := Aside0.mk (Qn B5.out hb6); have BK6 := Aside0.mk (Qo BK5.out hb6); have p2 := (Qa BK6.out 2).trans rfl; have p3 := (Qa BK6.out 3).trans rfl; clear hb6) | (go_at_call 93; refine (containsFunc_calls 94 #[.pointer (some ⟨w.heap.size, 0, none⟩)] eg (heldBad l0_2.length) _ _ l0_3 _ (Kd.C_below HR3.out B6.out) (heldBad_pred a0_0 a0_1 A0_2 A0_3 l0_2.length c0_2 l0_3.length c0_3 w.heap.size _ BK6.out)).mono ?_; rintro e w7 ⟨rfl, hb7⟩; have B7 := Aside0.mk (Qn B6.out hb7); clear hb7; rw [E5.out]))
      go_ret
      exact ⟨by rw [HT.out]; rfl, B7.out⟩
end Go.Proofs.Ytmgmaflfednngaa.PFnExactTellerRight
