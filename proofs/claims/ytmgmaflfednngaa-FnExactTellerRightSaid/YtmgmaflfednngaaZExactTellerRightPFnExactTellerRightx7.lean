-- A copy, made by trim.py (its own words shortened): not an official print.
import Derived.Test.YtmgmaflfednngaaZExactTellerRightPFnExactTellerRightx0
import Derived.Test.YtmgmaflfednngaaZExactTellerRightPFnExactTellerRightx4
import Derived.Test.YtmgmaflfednngaaZExactTellerRightPFnExactTellerRightx5
import Derived.Test.YtmgmaflfednngaaZExactTellerRightPFnExactTellerRightx6
import Derived.Test.YtmgmaflfednngaaZExactTellerRightBase
import Derived.Test.YtmgmaflfednngaaZExactTellerRightSlices
import Derived.Test.YtmgmaflfednngaaZExactTellerRightInsert
import Derived.Shelf.RegionOpenPlain
namespace Go.Proofs.Ytmgmaflfednngaa.PFnExactTellerRight
open Go.RowKit Go.Proofs.YtmgmaflfednngaaW.PrintWords Go.Proofs.YtmgmaflfednngaaW.PrintLast Go.Proofs.YtmgmaflfednngaaW.PrintMore
attribute [local go_sem] max2_int min2_int max_two min_two max_three min_three max_four min_four   -- for this text's walks alone
set_option linter.unusedVariables false
set_option linter.unusedSimpArgs false
def spec_RibRight.l0 : Nat → List (S73) → Int → Option (Bool)
 | 0, _, _ => none
 | k + 1, x0, x3 => if x3 < (x0.length : Int) then (if 0 ≤ x3 then ((spec_l06Peer.f ((Qk x0 x3).f0)).bind fun t205 => (if t205 = true then ((spec_RouteRight.f k ((Qk x0 x3).f2.f0) ((Qk x0 x3).f2.f1) ((Qk x0 x3).f2.f2) ((Qk x0 x3).f2.f3) ((Qk x0 x3).f2.f4) ((Qk x0 x3).f2.f5) ((Qk x0 x3).f2.f6)).bind fun t207 => (if t207 = true then (if x3 > 0 then (if 0 ≤ (wrap64 (x3 - 1)) then (if (wrap64 (x3 - 1)) < (x0.length : Int) then ((spec_l06Less.f ((Qk x0 (wrap64 (x3 - 1))).f0) ((Qk x0 (wrap64 (x3 - 1))).f1) ((Qk x0 (wrap64 (x3 - 1))).f2.f0) ((Qk x0 (wrap64 (x3 - 1))).f2.f1) ((Qk x0 (wrap64 (x3 - 1))).f2.f2) ((Qk x0 (wrap64 (x3 - 1))).f2.f3) ((Qk x0 (wrap64 (x3 - 1))).f2.f4) ((Qk x0 (wrap64 (x3 - 1))).f2.f5) ((Qk x0 (wrap64 (x3 - 1))).f2.f6) ((Qk x0 x3).f0) ((Qk x0 x3).f1) ((Qk x0 x3).f2.f0) ((Qk x0 x3).f2.f1) ((Qk x0 x3).f2.f2) ((Qk x0 x3).f2.f3) ((Qk x0 x3).f2.f4) ((Qk x0 x3).f2.f5) ((Qk x0 x3).f2.f6)).bind fun t210 => (if t210 = true then (spec_RibRight.l0 k x0 (wrap64 (x3 + 1))) else (some false))) else (none)) else (none)) else (spec_RibRight.l0 k x0 (wrap64 (x3 + 1)))) else (some false))) else (some false))) else (none)) else (some true)
def spec_RibRight.f (k : Nat) (l0 : List (S73)) : Option (Bool) := if (l0.length : Int) > 60 then (some false) else (spec_RibRight.l0 k l0 0)
theorem spec_RibRight.mono_l : ∀ k, (∀ y0 y1, LeO (spec_RibRight.l0 k y0 y1) (spec_RibRight.l0 (k + 1) y0 y1))
 | 0 => fun _ _ r h => by simp [spec_RibRight.l0] at h
 | k + 1 => by
  have ih0 := spec_RibRight.mono_l k
  ·intro y0 y1
   unfold spec_RibRight.l0
   repeat' first
   | (with_reducible exact ih0 _ _)
   | (with_reducible exact spec_RouteRight.mono _ _ _ _ _ _ _ _)
   | (with_reducible exact LeO.refl _)
   | (with_reducible exact LeO.none _)
   | (with_reducible refine LeO.ite ?_ ?_)
   | (with_reducible refine LeO.bind ?_ (fun _ => ?_))
   | exact ih0 _ _
   | exact spec_RouteRight.mono _ _ _ _ _ _ _ _
   | exact LeO.none _
   | refine LeO.ite ?_ ?_
   | refine LeO.bind ?_ (fun _ => ?_)
theorem spec_RibRight.mono : ∀ a0 k, LeO (spec_RibRight.f k a0) (spec_RibRight.f (k + 1) a0) := by
 intro a0 k
 have ih0 := spec_RibRight.mono_l k
 unfold spec_RibRight.f
 repeat' first
   | (with_reducible exact ih0 _ _)
   | (with_reducible exact spec_RouteRight.mono _ _ _ _ _ _ _ _)
   | (with_reducible exact LeO.refl _)
   | (with_reducible exact LeO.none _)
   | (with_reducible refine LeO.ite ?_ ?_)
   | (with_reducible refine LeO.bind ?_ (fun _ => ?_))
   | exact ih0 _ _
   | exact spec_RouteRight.mono _ _ _ _ _ _ _ _
   | exact LeO.none _
   | refine LeO.ite ?_ ?_
   | refine LeO.bind ?_ (fun _ => ?_)
set_option maxHeartbeats 8000000 in
set_option maxRecDepth 100000 in
theorem spec_RibRight.calls (k : Nat) (A0 : Option Addr) (c0 : Nat) (l0 : List (S73)) (r : Bool) (w : World) (hr0 : Kd.C k73 w A0 l0.length l0) (hc0 : l0.length ≤ c0) (h : spec_RibRight.f k l0 = some r) :
  Calls Try.prog 54 #[.slice A0 l0.length c0] w fun e w' => e = .returned (.bool r) ∧ Below w.heap.size w w' := by
 have HR := Aside0.mk hr0
 have HC := Aside0.mk hc0
 have HL := Aside0.mk hr0.2.1
 have mixed : Try.prog.follows .mixedOrders = true := by kernel_rfl
 clear hr0 hc0
 unfold spec_RibRight.f at h
 by_cases h60 : (l0.length : Int) > 60
 ·rw [if_pos h60] at h
  obtain rfl := Option.some.inj h
  have hgt : (60 : Int) < (l0.length : Int) := h60
  clear h h60
  go_enter Try.func54, Try.ntmps54
  go_wp2
  go_ret
  exact ⟨rfl, Below.refl _ _⟩
 rw [if_neg h60] at h
 have HH := Aside0.mk (show spec_RibRight.l0 k l0 ((0 : Nat) : Int) = some r from h)
 have hgt : ¬ (60 : Int) < (l0.length : Int) := h60
 clear h h60
 go_enter Try.func54, Try.ntmps54
 go_wp2
 go_loopg [3] k (fun kq v3 w' => ∃ kk : Nat, v3 = .int .i64 kk ∧ kk ≤ l0.length ∧ Aside0 (spec_RibRight.l0 kq l0 (kk : Int) = some r) ∧ Aside0 (kq ≤ k) ∧ Aside0 (Below w.heap.size w w'))
 case atStart => exact ⟨0, rfl, Nat.zero_le _, HH, ⟨Nat.le_refl _⟩, ⟨Below.refl _ _⟩⟩
 case round =>
  obtain ⟨kk, rfl, hkk, HA, HK, HB⟩ := hrel
  cases gk with
  | zero => exact absurd HA.out (by simp [spec_RibRight.l0])
  | succ kr =>
   have H := HA.out
   clear HA HH
   rw [spec_RibRight.l0] at H
   by_cases hlt : kk < l0.length
   ·rw [if_pos (by omega), if_pos (by omega)] at H
    have hltz : (kk : Int) < (l0.length : Int) := by omega
    have hnx : wrap64 ((kk : Int) + 1) = ((kk + 1 : Nat) : Int) := by have := HL.out; unfold wrap64; omega
    have hpv : wrap64 ((kk : Int) - 1) = (kk : Int) - 1 := by have := HL.out; unfold wrap64; omega
    rw [hnx, hpv] at H
    obtain ⟨tp, hp, H⟩ := Option.bind_eq_some_iff.mp H
    have HP := Aside0.mk hp
    obtain ⟨ad, e, hx0, hx1, hx2, hx3, hx4, hx5, hx6, hx7, hx8⟩ := at_T73 HR.out (kk : Int) (by omega) (by omega)
    cases e
    replace hx0 := (HB.out.cell (World.block_lt_of_cell? w _ hx0)).trans hx0
    replace hx1 := (HB.out.cell (World.block_lt_of_cell? w _ hx1)).trans hx1
    replace hx2 := (HB.out.cell (World.block_lt_of_cell? w _ hx2)).trans hx2
    replace hx3 := (HB.out.cell (World.block_lt_of_cell? w _ hx3)).trans hx3
    replace hx4 := (HB.out.cell (World.block_lt_of_cell? w _ hx4)).trans hx4
    replace hx5 := (HB.out.cell (World.block_lt_of_cell? w _ hx5)).trans hx5
    replace hx6 := (HB.out.cell (World.block_lt_of_cell? w _ hx6)).trans hx6
    replace hx7 := (HB.out.cell (World.block_lt_of_cell? w _ hx7)).trans hx7
    replace hx8 := (HB.out.cell (World.block_lt_of_cell? w _ hx8)).trans hx8
    simp only [Int.toNat_natCast] at hx0 hx1 hx2 hx3 hx4 hx5 hx6 hx7 hx8
    obtain ⟨y, hy⟩ : ∃ y, y = Qk l0 (kk : Int) := ⟨_, rfl⟩
    rw [← hy] at HP H hx0 hx1 hx2 hx3 hx4 hx5 hx6 hx7 hx8
    clear hp hy
    replace hx0 := Base.cell_setD hx0
    replace hx1 := Base.cell_setD hx1
    replace hx2 := Base.cell_setD hx2
    replace hx3 := Base.cell_setD hx3
    replace hx4 := Base.cell_setD hx4
    replace hx5 := Base.cell_setD hx5
    replace hx6 := Base.cell_setD hx6
    replace hx7 := Base.cell_setD hx7
    replace hx8 := Base.cell_setD hx8
    cases tp with
    | false =>
     rw [if_neg (by decide)] at H
     obtain rfl := Option.some.inj H
     clear H
     go_wp2_with fail
     refine Base.wp_region_quiet_any (by assumption) (by kernel_rfl) ?_
     repeat (go_big_quiet_step (first | (go_at_call 62; exact Base.calls_quiet ((spec_l06Peer.calls _ _ _ HP.out).mono fun _ _ ⟨h1, h2⟩ => ⟨h1, h2.below⟩))))
     refine wpQuiet_nil ?_
     intro _ hw'
     obtain ⟨⟨nq, osq⟩, hw''⟩ := hw'
     subst hw''
     have HB' := Aside0.mk (Base.below_setD HB.out HB.out.size nq osq)
     go_wp2
     go_ret
     exact ⟨rfl, HB'.out⟩
    | true =>
     rw [if_pos rfl] at H
     obtain ⟨tr, hr, H⟩ := Option.bind_eq_some_iff.mp H
     have HRt := Aside0.mk hr
     clear hr
     cases tr with
     | false =>
      rw [if_neg (by decide)] at H
      obtain rfl := Option.some.inj H
      clear H
      go_wp2_with fail
      refine Base.wp_region_quiet_any (by assumption) (by kernel_rfl) ?_
      repeat (go_big_quiet_step (first | (go_at_call 62; exact Base.calls_quiet ((spec_l06Peer.calls _ _ _ HP.out).mono fun _ _ ⟨h1, h2⟩ => ⟨h1, h2.below⟩)) | (go_at_call 69; exact Base.calls_quiet (spec_RouteRight.calls _ _ _ _ _ _ _ _ _ _ HRt.out))))
      refine wpQuiet_nil ?_
      intro _ hw'
      obtain ⟨⟨nq, osq⟩, hw''⟩ := hw'
      subst hw''
      have HB' := Aside0.mk (Base.below_setD HB.out HB.out.size nq osq)
      go_wp2
      go_ret
      exact ⟨rfl, HB'.out⟩
     | true =>
      rw [if_pos rfl] at H
      by_cases h0 : kk = 0
      ·rw [if_neg (by omega)] at H
       have HN := Aside0.mk H
       have hgz : decide (0 < kk) = false := decide_eq_false (by omega)
       clear H h0
       go_wp2_with fail
       refine Base.wp_region_quiet_any (by assumption) (by kernel_rfl) ?_
       repeat (go_big_quiet_step (first | (go_at_call 62; exact Base.calls_quiet ((spec_l06Peer.calls _ _ _ HP.out).mono fun _ _ ⟨h1, h2⟩ => ⟨h1, h2.below⟩)) | (go_at_call 69; exact Base.calls_quiet (spec_RouteRight.calls _ _ _ _ _ _ _ _ _ _ HRt.out))))
       refine wpQuiet_nil ?_
       intro _ hw'
       obtain ⟨⟨nq, osq⟩, hw''⟩ := hw'
       subst hw''
       have HB' := Aside0.mk (Base.below_setD HB.out HB.out.size nq osq)
       go_wp2
       go_roundg kr
       case measure => have := HK.out; omega
       case rel => exact ⟨kk + 1, by go_num, by omega, HN, ⟨by have := HK.out; omega⟩, HB'⟩
      ·rw [if_pos (by omega), if_pos (by omega), if_pos (by omega)] at H
       obtain ⟨to_, ho, H⟩ := Option.bind_eq_some_iff.mp H
       have HO := Aside0.mk ho
       have hgz : decide (0 < kk) = true := decide_eq_true (by omega)
       have hgz1 : (0 : Int) ≤ (kk : Int) - 1 := by omega
       have hgz2 : (kk : Int) - 1 < (l0.length : Int) := by omega
       obtain ⟨adz, ez, z0, z1, z2, z3, z4, z5, z6, z7, z8⟩ := at_T73 HR.out ((kk : Int) - 1) (by omega) (by omega)
       cases ez
       replace z0 := (HB.out.cell (World.block_lt_of_cell? w _ z0)).trans z0
       replace z1 := (HB.out.cell (World.block_lt_of_cell? w _ z1)).trans z1
       replace z2 := (HB.out.cell (World.block_lt_of_cell? w _ z2)).trans z2
       replace z3 := (HB.out.cell (World.block_lt_of_cell? w _ z3)).trans z3
       replace z4 := (HB.out.cell (World.block_lt_of_cell? w _ z4)).trans z4
       replace z5 := (HB.out.cell (World.block_lt_of_cell? w _ z5)).trans z5
       replace z6 := (HB.out.cell (World.block_lt_of_cell? w _ z6)).trans z6
       replace z7 := (HB.out.cell (World.block_lt_of_cell? w _ z7)).trans z7
       replace z8 := (HB.out.cell (World.block_lt_of_cell? w _ z8)).trans z8
       try simp only [Int.toNat_natCast] at z0 z1 z2 z3 z4 z5 z6 z7 z8
       simp only [show ((kk : Int) - 1).toNat = kk - 1 by omega] at z0 z1 z2 z3 z4 z5 z6 z7 z8
       replace z0 := Base.cell_setD z0
       replace z1 := Base.cell_setD z1
       replace z2 := Base.cell_setD z2
       replace z3 := Base.cell_setD z3
       replace z4 := Base.cell_setD z4
       replace z5 := Base.cell_setD z5
       replace z6 := Base.cell_setD z6
       replace z7 := Base.cell_setD z7
       replace z8 := Base.cell_setD z8
       have hwr : IntKind.i64.wrap ((kk : Int) - 1) = (kk : Int) - 1 := (Qr _).trans hpv
       clear h0 ho hpv
       cases to_ with
       | false =>
        rw [if_neg (by decide)] at H
        obtain rfl := Option.some.inj H
        clear H
        go_wp2_with fail
        refine Base.wp_region_quiet_any (by assumption) (by kernel_rfl) ?_
        repeat (go_big_quiet_step (first | (go_at_call 62; exact Base.calls_quiet ((spec_l06Peer.calls _ _ _ HP.out).mono fun _ _ ⟨h1, h2⟩ => ⟨h1, h2.below⟩)) | (go_at_call 69; exact Base.calls_quiet (spec_RouteRight.calls _ _ _ _ _ _ _ _ _ _ HRt.out)) | (go_at_call 101; exact Base.calls_quiet (spec_l06Less.calls _ _ _ _ _ _ _ _ _ _ _ _ _ _ _ _ _ _ _ _ HO.out))))
        refine wpQuiet_nil ?_
        intro _ hw'
        obtain ⟨⟨nq, osq⟩, hw''⟩ := hw'
        subst hw''
        have HB' := Aside0.mk (Base.below_setD HB.out HB.out.size nq osq)
        go_wp2
        go_ret
        exact ⟨rfl, HB'.out⟩
       | true =>
        rw [if_pos rfl] at H
        have HN := Aside0.mk H
        clear H
        go_wp2_with fail
        refine Base.wp_region_quiet_any (by assumption) (by kernel_rfl) ?_
        repeat (go_big_quiet_step (first | (go_at_call 62; exact Base.calls_quiet ((spec_l06Peer.calls _ _ _ HP.out).mono fun _ _ ⟨h1, h2⟩ => ⟨h1, h2.below⟩)) | (go_at_call 69; exact Base.calls_quiet (spec_RouteRight.calls _ _ _ _ _ _ _ _ _ _ HRt.out)) | (go_at_call 101; exact Base.calls_quiet (spec_l06Less.calls _ _ _ _ _ _ _ _ _ _ _ _ _ _ _ _ _ _ _ _ HO.out))))
        refine wpQuiet_nil ?_
        intro _ hw'
        obtain ⟨⟨nq, osq⟩, hw''⟩ := hw'
        subst hw''
        have HB' := Aside0.mk (Base.below_setD HB.out HB.out.size nq osq)
        go_wp2
        go_roundg kr
        case measure => have := HK.out; omega
        case rel => exact ⟨kk + 1, by go_num, by omega, HN, ⟨by have := HK.out; omega⟩, HB'⟩
   ·rw [if_neg (by omega)] at H
    have hltz : ¬ (kk : Int) < (l0.length : Int) := by omega
    obtain rfl := Option.some.inj H
    clear H
    go_wp2
    go_ret
    exact ⟨rfl, HB.out⟩
end Go.Proofs.Ytmgmaflfednngaa.PFnExactTellerRight
