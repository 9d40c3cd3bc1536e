-- A copy, made by trim.py (its own words shortened): not an official print.
import Derived.Test.YtmgmaflfednngaaZExactTellerNewPFnExactTellerNewx0
import Derived.Test.YtmgmaflfednngaaZExactTellerNewPFnExactTellerNewx2
import Derived.Test.YtmgmaflfednngaaZExactTellerNewPFnExactTellerNewx4
import Derived.Test.YtmgmaflfednngaaZExactTellerNewBase
import Derived.Test.YtmgmaflfednngaaZExactTellerNewSlices
import Derived.Test.YtmgmaflfednngaaZExactTellerNewInsert
import Derived.Shelf.RegionOpenPlain
namespace Go.Proofs.Ytmgmaflfednngaa.PFnExactTellerNew
open Go.RowKit Go.Proofs.YtmgmaflfednngaaW.PrintWords Go.Proofs.YtmgmaflfednngaaW.PrintLast Go.Proofs.YtmgmaflfednngaaW.PrintMore
attribute [local go_sem] max2_int min2_int max_two min_two max_three min_three max_four min_four   -- for this text's walks alone
set_option linter.unusedVariables false
set_option linter.unusedSimpArgs false
def impl_RibRight.l0 : Nat → List (S73) → List (S73) → Int → Int → Option (Bool)
 | 0, _, _, _, _ => none
 | k + 1, x0, x5, x6, x7 => if x7 < x6 then (if 0 ≤ x7 then (if x7 < (x5.length : Int) then ((impl_isPeer.f ((Qd x5 x7).f0)).bind fun t153 => (if t153 = true then ((impl_RouteRight.f k ((Qd x5 x7).f2.f0) ((Qd x5 x7).f2.f1) ((Qd x5 x7).f2.f2) ((Qd x5 x7).f2.f3) ((Qd x5 x7).f2.f4) ((Qd x5 x7).f2.f5) ((Qd x5 x7).f2.f6)).bind fun t154 => (if t154 = true then (if x7 > 0 then (if 0 ≤ (wrap64 (x7 - 1)) then (if (wrap64 (x7 - 1)) < (x0.length : Int) then ((impl_Held_order.f k ((Qd x0 (wrap64 (x7 - 1))).f0) ((Qd x0 (wrap64 (x7 - 1))).f1) ((Qd x0 (wrap64 (x7 - 1))).f2.f0) ((Qd x0 (wrap64 (x7 - 1))).f2.f1) ((Qd x0 (wrap64 (x7 - 1))).f2.f2) ((Qd x0 (wrap64 (x7 - 1))).f2.f3) ((Qd x0 (wrap64 (x7 - 1))).f2.f4) ((Qd x0 (wrap64 (x7 - 1))).f2.f5) ((Qd x0 (wrap64 (x7 - 1))).f2.f6) ((Qd x5 x7).f0) ((Qd x5 x7).f1) ((Qd x5 x7).f2.f0) ((Qd x5 x7).f2.f1) ((Qd x5 x7).f2.f2) ((Qd x5 x7).f2.f3) ((Qd x5 x7).f2.f4) ((Qd x5 x7).f2.f5) ((Qd x5 x7).f2.f6)).bind fun t156 => (if t156 ≥ 0 then (some false) else (impl_RibRight.l0 k x0 x5 x6 (wrap64 (x7 + 1))))) else (none)) else (none)) else (impl_RibRight.l0 k x0 x5 x6 (wrap64 (x7 + 1)))) else (some false))) else (some false))) else (none)) else (none)) else (some (decide ((x0.length : Int) ≤ 60)))
def impl_RibRight.f (k : Nat) (l0 : List (S73)) : Option (Bool) := impl_RibRight.l0 k l0 l0 (l0.length : Int) 0
theorem impl_RibRight.mono_l : ∀ k, (∀ y0 y1 y2 y3, LeO (impl_RibRight.l0 k y0 y1 y2 y3) (impl_RibRight.l0 (k + 1) y0 y1 y2 y3))
 | 0 => fun _ _ _ _ r h => by simp [impl_RibRight.l0] at h
 | k + 1 => by
  have ih0 := impl_RibRight.mono_l k
  ·intro y0 y1 y2 y3
   unfold impl_RibRight.l0
   repeat' first
   | (with_reducible exact ih0 _ _ _ _)
   | (with_reducible exact impl_Held_order.mono _ _ _ _ _ _ _ _ _ _ _ _ _ _ _ _ _ _ _)
   | (with_reducible exact impl_RouteRight.mono _ _ _ _ _ _ _ _)
   | (with_reducible exact LeO.refl _)
   | (with_reducible exact LeO.none _)
   | (with_reducible refine LeO.ite ?_ ?_)
   | (with_reducible refine LeO.bind ?_ (fun _ => ?_))
   | exact ih0 _ _ _ _
   | exact impl_Held_order.mono _ _ _ _ _ _ _ _ _ _ _ _ _ _ _ _ _ _ _
   | exact impl_RouteRight.mono _ _ _ _ _ _ _ _
   | exact LeO.none _
   | refine LeO.ite ?_ ?_
   | refine LeO.bind ?_ (fun _ => ?_)
theorem impl_RibRight.mono : ∀ a0 k, LeO (impl_RibRight.f k a0) (impl_RibRight.f (k + 1) a0) := by
 intro a0 k
 have ih0 := impl_RibRight.mono_l k
 unfold impl_RibRight.f
 repeat' first
   | (with_reducible exact ih0 _ _ _ _)
   | (with_reducible exact impl_Held_order.mono _ _ _ _ _ _ _ _ _ _ _ _ _ _ _ _ _ _ _)
   | (with_reducible exact impl_RouteRight.mono _ _ _ _ _ _ _ _)
   | (with_reducible exact LeO.refl _)
   | (with_reducible exact LeO.none _)
   | (with_reducible refine LeO.ite ?_ ?_)
   | (with_reducible refine LeO.bind ?_ (fun _ => ?_))
   | exact ih0 _ _ _ _
   | exact impl_Held_order.mono _ _ _ _ _ _ _ _ _ _ _ _ _ _ _ _ _ _ _
   | exact impl_RouteRight.mono _ _ _ _ _ _ _ _
   | exact LeO.none _
   | refine LeO.ite ?_ ?_
   | refine LeO.bind ?_ (fun _ => ?_)
set_option maxHeartbeats 8000000 in
set_option maxRecDepth 100000 in
theorem impl_RibRight.calls (k : Nat) (A0 : Option Addr) (c0 : Nat) (l0 : List (S73)) (r : Bool) (w : World) (hr0 : Kd.C k73 w A0 l0.length l0) (hc0 : l0.length ≤ c0) (h : impl_RibRight.f k l0 = some r) :
  Calls Try.prog 57 #[.slice A0 l0.length c0] w fun e w' => e = .returned (.bool r) ∧ Below w.heap.size w w' := by
 have HR := Aside0.mk hr0
 have HC := Aside0.mk hc0
 have HL := Aside0.mk hr0.2.1
 have HH := Aside0.mk (show impl_RibRight.l0 k l0 l0 (l0.length : Int) ((0 : Nat) : Int) = some r from h)
 have mixed : Try.prog.follows .mixedOrders = true := by kernel_rfl
 clear hr0 hc0 h
 go_enter Try.func57, Try.ntmps57
 go_wp2
 go_loopg [7] k (fun kq v7 w' => ∃ kk : Nat, v7 = .int .i64 kk ∧ kk ≤ l0.length ∧ Aside0 (impl_RibRight.l0 kq l0 l0 (l0.length : Int) (kk : Int) = some r) ∧ Aside0 (kq ≤ k) ∧ Aside0 (Below w.heap.size w w'))
 case atStart => exact ⟨0, rfl, Nat.zero_le _, HH, ⟨Nat.le_refl _⟩, ⟨Below.refl _ _⟩⟩
 case round =>
  obtain ⟨kk, rfl, hkk, HA, HK, HB⟩ := hrel
  cases gk with
  | zero => exact absurd HA.out (by simp [impl_RibRight.l0])
  | succ kr =>
   have H := HA.out
   clear HA HH
   rw [impl_RibRight.l0] at H
   by_cases hlt : kk < l0.length
   ·rw [if_pos (by omega), if_pos (by omega), if_pos (by omega)] at H
    have hltz : (kk : Int) < (l0.length : Int) := by omega
    have hnx : wrap64 ((kk : Int) + 1) = ((kk + 1 : Nat) : Int) := by have := HL.out; unfold wrap64; omega
    have hpv : wrap64 ((kk : Int) - 1) = (kk : Int) - 1 := by have := HL.out; unfold wrap64; omega
    rw [hnx, hpv] at H
    obtain ⟨tp, hp, H⟩ := Option.bind_eq_some_iff.mp H
    have HP := Aside0.mk hp
    obtain ⟨ad, e, hx0, hx1, hx2, hx3, hx4, hx5, hx6, hx7, hx8⟩ := Qw HR.out (kk : Int) (by omega) (by omega)
    cases e
    replace hx0 := (HB.out.cell (World.block_lt_of_cell? w _ hx0)).trans hx0
    replace hx1 := (HB.out.cell (World.block_lt_of_cell? w _ hx1)).trans hx1
    replace hx2 := (HB.out.cell (World.block_lt_of_cell? w _ hx2)).trans hx2
    replace hx3 := (HB.out.cell (World.block_lt_of_cell? w _ hx3)).trans hx3
    replace hx4 := (HB.out.cell (World.block_lt_of_cell? w _ hx4)).trans hx4
    replace hx5 := (HB.out.cell (World.block_lt_of_cell? w _ hx5)).trans hx5
    replace hx6 := (HB.out.cell (World.block_lt_of_cell? w _ hx6)).trans hx6
    replace hx7 := (HB.out.cell (World.block_lt_of_cell? w _ hx7)).trans hx7
    replace hx8 := (HB.out.cell (World.block_lt_of_cell? w _ hx8)).trans hx8
    simp only [Int.toNat_natCast] at hx0 hx1 hx2 hx3 hx4 hx5 hx6 hx7 hx8
    obtain ⟨y, hy⟩ : ∃ y, y = Qd l0 (kk : Int) := ⟨_, rfl⟩
    rw [← hy] at HP H hx0 hx1 hx2 hx3 hx4 hx5 hx6 hx7 hx8
    clear hp hy
    have bk := blk_new wr (.cells [.int .i64 y.f0, .bool y.f1, .int .i64 y.f2.f0, .int .i64 y.f2.f1, .int .i64 y.f2.f2, .int .i64 y.f2.f3, .int .i64 y.f2.f4, .int .i64 y.f2.f5, .bool y.f2.f6].toArray 73)
    have HBA := Aside0.mk (Qe HB.out (.cells [.int .i64 y.f0, .bool y.f1, .int .i64 y.f2.f0, .int .i64 y.f2.f1, .int .i64 y.f2.f2, .int .i64 y.f2.f3, .int .i64 y.f2.f4, .int .i64 y.f2.f5, .bool y.f2.f6].toArray 73))
    have BKA := Aside0.mk bk
    have f0 := Qc bk 0
    have f1 := Qc bk 1
    have f2 := Qc bk 2
    have f3 := Qc bk 3
    have f4 := Qc bk 4
    have f5 := Qc bk 5
    have f6 := Qc bk 6
    have f7 := Qc bk 7
    have f8 := Qc bk 8
    have k0 := (Qa bk 0).trans rfl
    have k1 := (Qa bk 1).trans rfl
    have k2 := (Qa bk 2).trans rfl
    have k3 := (Qa bk 3).trans rfl
    have k4 := (Qa bk 4).trans rfl
    have k5 := (Qa bk 5).trans rfl
    have k6 := (Qa bk 6).trans rfl
    have k7 := (Qa bk 7).trans rfl
    have k8 := (Qa bk 8).trans rfl
    clear bk f0 f1 f2 f3 f4 f5 f6 f7 f8
    cases tp with
    | false =>
     rw [if_neg (by decide)] at H
     obtain rfl := Option.some.inj H
     clear H
     go_wp2_with fail
     replace k0 := Base.cell_setD k0
     replace k1 := Base.cell_setD k1
     replace k2 := Base.cell_setD k2
     replace k3 := Base.cell_setD k3
     replace k4 := Base.cell_setD k4
     replace k5 := Base.cell_setD k5
     replace k6 := Base.cell_setD k6
     replace k7 := Base.cell_setD k7
     replace k8 := Base.cell_setD k8
     refine Base.wp_region_quiet_any (by assumption) (by kernel_rfl) ?_
     repeat (go_big_quiet_step (first | (go_at_call 102; exact Base.calls_quiet ((impl_isPeer.calls _ _ _ HP.out).mono fun _ _ ⟨h1, h2⟩ => ⟨h1, h2.below⟩))))
     refine wpQuiet_nil ?_
     intro _ hw'
     obtain ⟨⟨nq, osq⟩, hw''⟩ := hw'
     subst hw''
     have HB' := Aside0.mk (Base.below_setD HBA.out HBA.out.size nq osq)
     go_wp2
     go_ret
     exact ⟨rfl, HB'.out⟩
    | true =>
     rw [if_pos rfl] at H
     obtain ⟨tr, hr, H⟩ := Option.bind_eq_some_iff.mp H
     have HRt := Aside0.mk hr
     clear hr
     cases tr with
     | false =>
      rw [if_neg (by decide)] at H
      obtain rfl := Option.some.inj H
      clear H
      go_wp2_with fail
      replace k0 := Base.cell_setD k0
      replace k1 := Base.cell_setD k1
      replace k2 := Base.cell_setD k2
      replace k3 := Base.cell_setD k3
      replace k4 := Base.cell_setD k4
      replace k5 := Base.cell_setD k5
      replace k6 := Base.cell_setD k6
      replace k7 := Base.cell_setD k7
      replace k8 := Base.cell_setD k8
      refine Base.wp_region_quiet_any (by assumption) (by kernel_rfl) ?_
      repeat (go_big_quiet_step (first | (go_at_call 102; exact Base.calls_quiet ((impl_isPeer.calls _ _ _ HP.out).mono fun _ _ ⟨h1, h2⟩ => ⟨h1, h2.below⟩)) | (go_at_call 71; exact Base.calls_quiet (impl_RouteRight.calls _ _ _ _ _ _ _ _ _ _ HRt.out))))
      refine wpQuiet_nil ?_
      intro _ hw'
      obtain ⟨⟨nq, osq⟩, hw''⟩ := hw'
      subst hw''
      have HB' := Aside0.mk (Base.below_setD HBA.out HBA.out.size nq osq)
      go_wp2
      go_ret
      exact ⟨rfl, HB'.out⟩
     | true =>
      rw [if_pos rfl] at H
      by_cases h0 : kk = 0
      ·rw [if_neg (by omega)] at H
       have HN := Aside0.mk H
       have hgz : decide (0 < kk) = false := decide_eq_false (by omega)
       clear H h0
       go_wp2_with fail
       replace k0 := Base.cell_setD k0
       replace k1 := Base.cell_setD k1
       replace k2 := Base.cell_setD k2
       replace k3 := Base.cell_setD k3
       replace k4 := Base.cell_setD k4
       replace k5 := Base.cell_setD k5
       replace k6 := Base.cell_setD k6
       replace k7 := Base.cell_setD k7
       replace k8 := Base.cell_setD k8
       refine Base.wp_region_quiet_any (by assumption) (by kernel_rfl) ?_
       repeat (go_big_quiet_step (first | (go_at_call 102; exact Base.calls_quiet ((impl_isPeer.calls _ _ _ HP.out).mono fun _ _ ⟨h1, h2⟩ => ⟨h1, h2.below⟩)) | (go_at_call 71; exact Base.calls_quiet (impl_RouteRight.calls _ _ _ _ _ _ _ _ _ _ HRt.out))))
       refine wpQuiet_nil ?_
       intro _ hw'
       obtain ⟨⟨nq, osq⟩, hw''⟩ := hw'
       subst hw''
       have HB' := Aside0.mk (Base.below_setD HBA.out HBA.out.size nq osq)
       go_wp2
       go_roundg kr
       case measure => have := HK.out; omega
       case rel => exact ⟨kk + 1, by go_num, by omega, HN, ⟨by have := HK.out; omega⟩, HB'⟩
      ·rw [if_pos (by omega), if_pos (by omega), if_pos (by omega)] at H
       obtain ⟨to_, ho, H⟩ := Option.bind_eq_some_iff.mp H
       have HO := Aside0.mk ho
       have hgz : decide (0 < kk) = true := decide_eq_true (by omega)
       have hgz1 : (0 : Int) ≤ (kk : Int) - 1 := by omega
       have hgz2 : (kk : Int) - 1 < (l0.length : Int) := by omega
       obtain ⟨adz, ez, z0, z1, z2, z3, z4, z5, z6, z7, z8⟩ := Qw HR.out ((kk : Int) - 1) (by omega) (by omega)
       cases ez
       replace z0 := (HBA.out.cell (World.block_lt_of_cell? w _ z0)).trans z0
       replace z1 := (HBA.out.cell (World.block_lt_of_cell? w _ z1)).trans z1
       replace z2 := (HBA.out.cell (World.block_lt_of_cell? w _ z2)).trans z2
       replace z3 := (HBA.out.cell (World.block_lt_of_cell? w _ z3)).trans z3
       replace z4 := (HBA.out.cell (World.block_lt_of_cell? w _ z4)).trans z4
       replace z5 := (HBA.out.cell (World.block_lt_of_cell? w _ z5)).trans z5
       replace z6 := (HBA.out.cell (World.block_lt_of_cell? w _ z6)).trans z6
       replace z7 := (HBA.out.cell (World.block_lt_of_cell? w _ z7)).trans z7
       replace z8 := (HBA.out.cell (World.block_lt_of_cell? w _ z8)).trans z8
       try simp only [Int.toNat_natCast] at z0 z1 z2 z3 z4 z5 z6 z7 z8
       simp only [show ((kk : Int) - 1).toNat = kk - 1 by omega] at z0 z1 z2 z3 z4 z5 z6 z7 z8
       replace z0 := Base.cell_setD z0
       replace z1 := Base.cell_setD z1
       replace z2 := Base.cell_setD z2
       replace z3 := Base.cell_setD z3
       replace z4 := Base.cell_setD z4
       replace z5 := Base.cell_setD z5
       replace z6 := Base.cell_setD z6
       replace z7 := Base.cell_setD z7
       replace z8 := Base.cell_setD z8
       have hwr : IntKind.i64.wrap ((kk : Int) - 1) = (kk : Int) - 1 := (Qu _).trans hpv
       clear h0 ho hpv
       by_cases ht : to_ ≥ 0
       ·rw [if_pos ht] at H
        obtain rfl := Option.some.inj H
        have ht0 : (0 : Int) ≤ to_ := ht
        clear H ht
        go_wp2_with fail
        replace k0 := Base.cell_setD k0
        replace k1 := Base.cell_setD k1
        replace k2 := Base.cell_setD k2
        replace k3 := Base.cell_setD k3
        replace k4 := Base.cell_setD k4
        replace k5 := Base.cell_setD k5
        replace k6 := Base.cell_setD k6
        replace k7 := Base.cell_setD k7
        replace k8 := Base.cell_setD k8
        refine Base.wp_region_quiet_any (by assumption) (by kernel_rfl) ?_
        repeat (go_big_quiet_step (first | (go_at_call 102; exact Base.calls_quiet ((impl_isPeer.calls _ _ _ HP.out).mono fun _ _ ⟨h1, h2⟩ => ⟨h1, h2.below⟩)) | (go_at_call 71; exact Base.calls_quiet (impl_RouteRight.calls _ _ _ _ _ _ _ _ _ _ HRt.out)) | (go_at_call 103; exact Base.calls_quiet (impl_Held_order.calls _ _ _ _ _ _ _ _ _ _ _ _ _ _ _ _ _ _ _ _ _ HO.out))))
        refine wpQuiet_nil ?_
        intro _ hw'
        obtain ⟨⟨nq, osq⟩, hw''⟩ := hw'
        subst hw''
        have HB' := Aside0.mk (Base.below_setD HBA.out HBA.out.size nq osq)
        go_wp2
        go_ret
        exact ⟨rfl, HB'.out⟩
       ·rw [if_neg ht] at H
        have HN := Aside0.mk H
        have ht0 : ¬ (0 : Int) ≤ to_ := by omega
        clear H ht
        go_wp2_with fail
        replace k0 := Base.cell_setD k0
        replace k1 := Base.cell_setD k1
        replace k2 := Base.cell_setD k2
        replace k3 := Base.cell_setD k3
        replace k4 := Base.cell_setD k4
        replace k5 := Base.cell_setD k5
        replace k6 := Base.cell_setD k6
        replace k7 := Base.cell_setD k7
        replace k8 := Base.cell_setD k8
        refine Base.wp_region_quiet_any (by assumption) (by kernel_rfl) ?_
        repeat (go_big_quiet_step (first | (go_at_call 102; exact Base.calls_quiet ((impl_isPeer.calls _ _ _ HP.out).mono fun _ _ ⟨h1, h2⟩ => ⟨h1, h2.below⟩)) | (go_at_call 71; exact Base.calls_quiet (impl_RouteRight.calls _ _ _ _ _ _ _ _ _ _ HRt.out)) | (go_at_call 103; exact Base.calls_quiet (impl_Held_order.calls _ _ _ _ _ _ _ _ _ _ _ _ _ _ _ _ _ _ _ _ _ HO.out))))
        refine wpQuiet_nil ?_
        intro _ hw'
        obtain ⟨⟨nq, osq⟩, hw''⟩ := hw'
        subst hw''
        have HB' := Aside0.mk (Base.below_setD HBA.out HBA.out.size nq osq)
        go_wp2
        go_roundg kr
        case measure => have := HK.out; omega
        case rel => exact ⟨kk + 1, by go_num, by omega, HN, ⟨by have := HK.out; omega⟩, HB'⟩
   ·rw [if_neg (by omega)] at H
    have hltz : ¬ (kk : Int) < (l0.length : Int) := by omega
    obtain rfl := Option.some.inj H
    clear H
    go_wp2
    go_ret
    exact ⟨rfl, HB.out⟩
end Go.Proofs.Ytmgmaflfednngaa.PFnExactTellerNew
