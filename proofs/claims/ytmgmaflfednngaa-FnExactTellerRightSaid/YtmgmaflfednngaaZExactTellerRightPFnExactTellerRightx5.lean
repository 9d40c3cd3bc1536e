-- A copy, made by trim.py (its own words shortened): not an official print.
import Derived.Test.YtmgmaflfednngaaZExactTellerRightPFnExactTellerRightx0
import Derived.Test.YtmgmaflfednngaaZExactTellerRightPFnExactTellerRightx4
namespace Go.Proofs.Ytmgmaflfednngaa.PFnExactTellerRight
open Go.RowKit Go.Proofs.YtmgmaflfednngaaW.PrintWords Go.Proofs.YtmgmaflfednngaaW.PrintLast Go.Proofs.YtmgmaflfednngaaW.PrintMore
attribute [local go_sem] max2_int min2_int max_two min_two max_three min_three max_four min_four   -- for this text's walks alone
set_option linter.unusedVariables false
set_option linter.unusedSimpArgs false
def spec_IsGroup.f (a0 : Int) : Option (Bool) := (spec_l02Mac.f a0).bind fun t191 => (if t191 = true then (some ((Go.bits .and .i64 (a0 / 1099511627776) 1) == 1)) else (some false))
set_option maxHeartbeats 8000000 in
set_option maxRecDepth 100000 in
theorem spec_IsGroup.calls (a0 : Int) (r : Bool) (w : World) (h : spec_IsGroup.f a0 = some r) :
  Calls Try.prog 108 #[.int .i64 a0] w fun e w' => e = .returned (.bool r) ∧ Drawn0 w w' := by
 have H : ((spec_l02Mac.f a0).bind fun t191 => (if t191 = true then (some ((Go.bits .and .i64 (a0 / 1099511627776) 1) == 1)) else (some false))) = some r := h
 clear h
 replace H := Option.bind_eq_some_iff.mp H
 obtain ⟨t191, A20, H⟩ := H
 replace H : (if t191 = true then (some ((Go.bits .and .i64 (a0 / 1099511627776) 1) == 1)) else (some false)) = some r := H
 have A2 := Aside0.mk A20
 clear A20
 by_cases c3 : t191 = true
 ·subst c3
  have H1 : (some ((Go.bits .and .i64 (a0 / 1099511627776) 1) == 1)) = some r := by rw [if_pos rfl] at H; exact H
  clear H
  have H := H1
  clear H1
  obtain rfl := Option.some.inj H
  go_enter Try.func108, Try.ntmps108
  go_wp2_with (first | ((with_reducible refine Qq (f := 107) rfl ?_); refine Qy (some 4) rfl rfl Try.func107 (by kernel_rfl) rfl #[.int .i64 a0] rfl (by (try simp only [List.map_toArray, List.map_cons, List.map_nil]); first | done | rfl | (simp only [List.length_drop, List.length_take]; rfl)) ?_; (with_reducible refine (spec_l02Mac.calls a0 true _ A2.out).mono ?_); rintro e w' ⟨rfl, ⟨nd, rfl⟩⟩; refine ⟨_, rfl, ?_⟩))
  go_ret
  exact ⟨by first | rfl | (simp; done) | (simp [*]; done), by repeat (first | exact Drawn0.refl _ | apply Drawn0.step)⟩
 ·replace c3 := Bool.eq_false_iff.mpr c3
  subst c3
  have H1 : (some false) = some r := by rw [if_neg (show ¬ (false = true) by decide)] at H; exact H
  clear H
  have H := H1
  clear H1
  obtain rfl := Option.some.inj H
  go_enter Try.func108, Try.ntmps108
  go_wp2_with (first | ((with_reducible refine Qq (f := 107) rfl ?_); refine Qy (some 4) rfl rfl Try.func107 (by kernel_rfl) rfl #[.int .i64 a0] rfl (by (try simp only [List.map_toArray, List.map_cons, List.map_nil]); first | done | rfl | (simp only [List.length_drop, List.length_take]; rfl)) ?_; (with_reducible refine (spec_l02Mac.calls a0 false _ A2.out).mono ?_); rintro e w' ⟨rfl, ⟨nd, rfl⟩⟩; refine ⟨_, rfl, ?_⟩))
  go_ret
  exact ⟨by first | rfl | (simp; done) | (simp [*]; done), by repeat (first | exact Drawn0.refl _ | apply Drawn0.step)⟩
def spec_l02Ip.f (a0 : Int) : Option (Bool) := (spec_l02Is.f a0 0 4294967295).bind fun t192 => (some t192)
set_option maxHeartbeats 8000000 in
set_option maxRecDepth 100000 in
theorem spec_l02Ip.calls (a0 : Int) (r : Bool) (w : World) (h : spec_l02Ip.f a0 = some r) :
  Calls Try.prog 109 #[.int .i64 a0] w fun e w' => e = .returned (.bool r) ∧ Drawn0 w w' := by
 have H : ((spec_l02Is.f a0 0 4294967295).bind fun t192 => (some t192)) = some r := h
 clear h
 replace H := Option.bind_eq_some_iff.mp H
 obtain ⟨t192, A20, H⟩ := H
 replace H : (some t192) = some r := H
 have A2 := Aside0.mk A20
 clear A20
 obtain rfl := Option.some.inj H
 go_enter Try.func109, Try.ntmps109
 go_wp2_with (first | ((with_reducible refine Qq (f := 88) rfl ?_); refine Qy (some 4) rfl rfl Try.func88 (by kernel_rfl) rfl #[.int .i64 a0, .int .i64 0, .int .i64 4294967295] rfl (by (try simp only [List.map_toArray, List.map_cons, List.map_nil]); first | done | rfl | (simp only [List.length_drop, List.length_take]; rfl)) ?_; (with_reducible refine (spec_l02Is.calls a0 0 4294967295 t192 _ A2.out).mono ?_); rintro e w' ⟨rfl, ⟨nd, rfl⟩⟩; refine ⟨_, rfl, ?_⟩))
 go_ret
 exact ⟨by first | rfl | (simp; done) | (simp [*]; done), by repeat (first | exact Drawn0.refl _ | apply Drawn0.step)⟩
def spec_RouteRight.j0 : Nat → Bool → Int → Int → Int → Int → Int → Int → Bool → Option (Bool)
 | 0, _, _, _, _, _, _, _, _ => none
 | k + 1, x12, x194000, x194001, x194002, x194003, x194004, x194005, x194006 => if x12 = true then (some false) else (if x194000 = 2 then ((spec_l02Mac.f x194002).bind fun t196 => (if t196 = true then ((spec_IsGroup.f x194002).bind fun t197 => (if t197 = true then (some false) else ((spec_l02Ip.f x194003).bind fun t198 => (if t198 = true then ((spec_l02Is.f x194005 0 1000000).bind fun t199 => (some t199)) else (some false))))) else (some false))) else (if x194000 = 3 then (if x194002 = 0 then (if x194003 = 0 then (if x194005 = 0 then (some (!x194006)) else (some false)) else (some false)) else (some false)) else (some false)))
def spec_RouteRight.f (k : Nat) (a0_0 : Int) (a0_1 : Int) (a0_2 : Int) (a0_3 : Int) (a0_4 : Int) (a0_5 : Int) (a0_6 : Bool) : Option (Bool) := (spec_l02Vni.f a0_1).bind fun t194 => (if t194 = true then ((spec_l02Is.f a0_4 1 4).bind fun t195 => (spec_RouteRight.j0 k (!t195) a0_0 a0_1 a0_2 a0_3 a0_4 a0_5 a0_6)) else (spec_RouteRight.j0 k true a0_0 a0_1 a0_2 a0_3 a0_4 a0_5 a0_6))
theorem spec_RouteRight.mono_l : ∀ k, (∀ y0 y1 y2 y3 y4 y5 y6 y7, LeO (spec_RouteRight.j0 k y0 y1 y2 y3 y4 y5 y6 y7) (spec_RouteRight.j0 (k + 1) y0 y1 y2 y3 y4 y5 y6 y7))
 | 0 => fun _ _ _ _ _ _ _ _ r h => by simp [spec_RouteRight.j0] at h
 | k + 1 => by
  have ih0 := spec_RouteRight.mono_l k
  ·intro y0 y1 y2 y3 y4 y5 y6 y7
   unfold spec_RouteRight.j0
   repeat' first
   | (with_reducible exact ih0 _ _ _ _ _ _ _ _)
   | (with_reducible exact LeO.refl _)
   | (with_reducible exact LeO.none _)
   | (with_reducible refine LeO.ite ?_ ?_)
   | (with_reducible refine LeO.bind ?_ (fun _ => ?_))
   | exact ih0 _ _ _ _ _ _ _ _
   | exact LeO.none _
   | refine LeO.ite ?_ ?_
   | refine LeO.bind ?_ (fun _ => ?_)
theorem spec_RouteRight.mono : ∀ a0 a1 a2 a3 a4 a5 a6 k, LeO (spec_RouteRight.f k a0 a1 a2 a3 a4 a5 a6) (spec_RouteRight.f (k + 1) a0 a1 a2 a3 a4 a5 a6) := by
 intro a0 a1 a2 a3 a4 a5 a6 k
 have ih0 := spec_RouteRight.mono_l k
 unfold spec_RouteRight.f
 repeat' first
   | (with_reducible exact ih0 _ _ _ _ _ _ _ _)
   | (with_reducible exact LeO.refl _)
   | (with_reducible exact LeO.none _)
   | (with_reducible refine LeO.ite ?_ ?_)
   | (with_reducible refine LeO.bind ?_ (fun _ => ?_))
   | exact ih0 _ _ _ _ _ _ _ _
   | exact LeO.none _
   | refine LeO.ite ?_ ?_
   | refine LeO.bind ?_ (fun _ => ?_)
set_option maxHeartbeats 8000000 in
set_option maxRecDepth 100000 in
theorem spec_RouteRight.calls (k : Nat) (a0_0 : Int) (a0_1 : Int) (a0_2 : Int) (a0_3 : Int) (a0_4 : Int) (a0_5 : Int) (a0_6 : Bool) (r : Bool) (w : World) (h : spec_RouteRight.f k a0_0 a0_1 a0_2 a0_3 a0_4 a0_5 a0_6 = some r) :
  Calls Try.prog 69 #[.agg #[.int .i64 a0_0, .int .i64 a0_1, .int .i64 a0_2, .int .i64 a0_3, .int .i64 a0_4, .int .i64 a0_5, .bool a0_6]] w fun e w' => e = .returned (.bool r) ∧ Below w.heap.size w w' := by
 have hu42 := Try.underlying42
 have HB := Aside0.mk (Below.refl w.heap.size w)
 have H : ((spec_l02Vni.f a0_1).bind fun t194 => (if t194 = true then ((spec_l02Is.f a0_4 1 4).bind fun t195 => (spec_RouteRight.j0 k (!t195) a0_0 a0_1 a0_2 a0_3 a0_4 a0_5 a0_6)) else (spec_RouteRight.j0 k true a0_0 a0_1 a0_2 a0_3 a0_4 a0_5 a0_6))) = some r := h
 clear h
 have HC2 := Aside0.mk H
 clear H
 go_enter Try.func69, Try.ntmps69
 go_upto_region 1 with (first | ((with_reducible refine Qw (N := 1) rfl ?_); refine Qu ?hg (N := 1) ?hd (cs := #[.int .i64 a0_0, .int .i64 a0_1, .int .i64 a0_2, .int .i64 a0_3, .int .i64 a0_4, .int .i64 a0_5, .bool a0_6]) (t := 42) ?hr ?_; (case hd => rfl); (case hg => rfl); (case hr => first | (go_simp; done) | (go_simp; rfl)); intro gb193 hg w3 hbox hb; have n0_ := Aside0.mk (Qn (by repeat (first | (with_reducible first | exact HB.out | apply Qe | apply Qc | apply Qd) | exact HB.out)) hb); have n1_ := Aside0.mk (hbox); have n2_ := Aside0.mk ((by rw [hg]; exact (Qj (by repeat (first | (with_reducible first | exact HB.out | apply Qe | apply Qc | apply Qd) | exact HB.out))) : w.heap.size ≤ gb193)); have n3_ := Aside0.mk ((by rw [hg]; exact (Qj (by repeat (first | (with_reducible first | exact HB.out | apply Qe | apply Qc | apply Qd) | exact HB.out))) : w.heap.size ≤ gb193)); clear HB; have HB := n0_; have BK193 := n1_; have GW193 := n2_; have GE193 := n3_; clear n0_ n1_ n2_ n3_; clear hb hbox hg))
 (try simp only [Act.put, List.setIfInBounds_toArray, List.set_cons_zero, List.set_cons_succ])
 go_cut [12] (fun v12 wc => ∃ (kq : Nat) (x12_1 : Bool), v12 = .bool x12_1 ∧ Aside0 (spec_RouteRight.j0 kq x12_1 a0_0 a0_1 a0_2 a0_3 a0_4 a0_5 a0_6 = some r) ∧ Aside0 (kq ≤ k) ∧ Aside0 (wc.heap[gb193]? = some (.cells #[.int .i64 a0_0, .int .i64 a0_1, .int .i64 a0_2, .int .i64 a0_3, .int .i64 a0_4, .int .i64 a0_5, .bool a0_6] 42 (0, 0))) ∧ Aside0 (Below w.heap.size w wc))
 case first =>
  have H := HC2.out
  clear HC2
  replace H := Option.bind_eq_some_iff.mp H
  obtain ⟨t194, A40, H⟩ := H
  replace H : (if t194 = true then ((spec_l02Is.f a0_4 1 4).bind fun t195 => (spec_RouteRight.j0 k (!t195) a0_0 a0_1 a0_2 a0_3 a0_4 a0_5 a0_6)) else (spec_RouteRight.j0 k true a0_0 a0_1 a0_2 a0_3 a0_4 a0_5 a0_6)) = some r := H
  have A4 := Aside0.mk A40
  clear A40
  by_cases c5 : t194 = true
  ·subst c5
   have H1 : ((spec_l02Is.f a0_4 1 4).bind fun t195 => (spec_RouteRight.j0 k (!t195) a0_0 a0_1 a0_2 a0_3 a0_4 a0_5 a0_6)) = some r := by rw [if_pos rfl] at H; exact H
   clear H
   have H := H1
   clear H1
   replace H := Option.bind_eq_some_iff.mp H
   obtain ⟨t195, A60, H⟩ := H
   replace H : (spec_RouteRight.j0 k (!t195) a0_0 a0_1 a0_2 a0_3 a0_4 a0_5 a0_6) = some r := H
   have A6 := Aside0.mk A60
   clear A60
   have H' := Aside0.mk H
   clear H
   have hcz7_0 : w3.cell? ⟨gb193, 0, none⟩ = some (.int .i64 a0_0) := (Qa BK193.out 0).trans rfl
   have hcz7_1 : w3.cell? ⟨gb193, 1, none⟩ = some (.int .i64 a0_1) := (Qa BK193.out 1).trans rfl
   have hcz7_2 : w3.cell? ⟨gb193, 2, none⟩ = some (.int .i64 a0_2) := (Qa BK193.out 2).trans rfl
   have hcz7_3 : w3.cell? ⟨gb193, 3, none⟩ = some (.int .i64 a0_3) := (Qa BK193.out 3).trans rfl
   have hcz7_4 : w3.cell? ⟨gb193, 4, none⟩ = some (.int .i64 a0_4) := (Qa BK193.out 4).trans rfl
   have hcz7_5 : w3.cell? ⟨gb193, 5, none⟩ = some (.int .i64 a0_5) := (Qa BK193.out 5).trans rfl
   have hcz7_6 : w3.cell? ⟨gb193, 6, none⟩ = some (.bool a0_6) := (Qa BK193.out 6).trans rfl
   have hfz7_0 := Qb BK193.out 0
   have hfz7_1 := Qb BK193.out 1
   have hfz7_2 := Qb BK193.out 2
   have hfz7_3 := Qb BK193.out 3
   have hfz7_4 := Qb BK193.out 4
   have hfz7_5 := Qb BK193.out 5
   have hfz7_6 := Qb BK193.out 6
   go_wp2_with (first | ((with_reducible refine Qq (f := 75) rfl ?_); refine Qy (some 5) rfl rfl Try.func75 (by kernel_rfl) rfl #[.int .i64 a0_1] rfl (by (try simp only [List.map_toArray, List.map_cons, List.map_nil]); first | done | rfl | (simp only [List.length_drop, List.length_take]; rfl)) ?_; (with_reducible refine (spec_l02Vni.calls a0_1 true _ A4.out).mono ?_); rintro e w' ⟨rfl, ⟨nd, rfl⟩⟩; refine ⟨_, rfl, ?_⟩) | (go_at_call 88; (with_reducible refine (spec_l02Is.calls a0_4 1 4 t195 _ A6.out).mono ?_); rintro e w' ⟨rfl, ⟨nd, rfl⟩⟩))
   go_meet
   case rel => exact ⟨_, (!t195), (by first | rfl | (simp; done) | (simp [*]; done)), H', ⟨by first | omega | exact Nat.le_refl _⟩, ⟨by (with_reducible repeat (first | refine Qg ?_ _ | refine Qi ?_ | refine Qh ?_ _)); exact BK193.out⟩, ⟨by repeat (first | (with_reducible first | exact HB.out | apply Qe | apply Qc | apply Qd | refine Qf ?_ GE193.out) | exact HB.out)⟩⟩
  ·replace c5 := Bool.eq_false_iff.mpr c5
   subst c5
   have H1 : (spec_RouteRight.j0 k true a0_0 a0_1 a0_2 a0_3 a0_4 a0_5 a0_6) = some r := by rw [if_neg (show ¬ (false = true) by decide)] at H; exact H
   clear H
   have H := H1
   clear H1
   have H' := Aside0.mk H
   clear H
   have hcz8_0 : w3.cell? ⟨gb193, 0, none⟩ = some (.int .i64 a0_0) := (Qa BK193.out 0).trans rfl
   have hcz8_1 : w3.cell? ⟨gb193, 1, none⟩ = some (.int .i64 a0_1) := (Qa BK193.out 1).trans rfl
   have hcz8_2 : w3.cell? ⟨gb193, 2, none⟩ = some (.int .i64 a0_2) := (Qa BK193.out 2).trans rfl
   have hcz8_3 : w3.cell? ⟨gb193, 3, none⟩ = some (.int .i64 a0_3) := (Qa BK193.out 3).trans rfl
   have hcz8_4 : w3.cell? ⟨gb193, 4, none⟩ = some (.int .i64 a0_4) := (Qa BK193.out 4).trans rfl
   have hcz8_5 : w3.cell? ⟨gb193, 5, none⟩ = some (.int .i64 a0_5) := (Qa BK193.out 5).trans rfl
   have hcz8_6 : w3.cell? ⟨gb193, 6, none⟩ = some (.bool a0_6) := (Qa BK193.out 6).trans rfl
   have hfz8_0 := Qb BK193.out 0
   have hfz8_1 := Qb BK193.out 1
   have hfz8_2 := Qb BK193.out 2
   have hfz8_3 := Qb BK193.out 3
   have hfz8_4 := Qb BK193.out 4
   have hfz8_5 := Qb BK193.out 5
   have hfz8_6 := Qb BK193.out 6
   go_wp2_with (first | ((with_reducible refine Qq (f := 75) rfl ?_); refine Qy (some 5) rfl rfl Try.func75 (by kernel_rfl) rfl #[.int .i64 a0_1] rfl (by (try simp only [List.map_toArray, List.map_cons, List.map_nil]); first | done | rfl | (simp only [List.length_drop, List.length_take]; rfl)) ?_; (with_reducible refine (spec_l02Vni.calls a0_1 false _ A4.out).mono ?_); rintro e w' ⟨rfl, ⟨nd, rfl⟩⟩; refine ⟨_, rfl, ?_⟩))
   go_meet
   case rel => exact ⟨_, (true), (by first | rfl | (simp; done) | (simp [*]; done)), H', ⟨by first | omega | exact Nat.le_refl _⟩, ⟨by (with_reducible repeat (first | refine Qg ?_ _ | refine Qi ?_ | refine Qh ?_ _)); exact BK193.out⟩, ⟨by repeat (first | (with_reducible first | exact HB.out | apply Qe | apply Qc | apply Qd | refine Qf ?_ GE193.out) | exact HB.out)⟩⟩
 case rest =>
  clear HC2
  try clear p2
  try clear c5
  try clear c6
  try clear c7
  try clear hcz7_0
  try clear hcz7_1
  try clear hcz7_2
  try clear hcz7_3
  try clear hcz7_4
  try clear hcz7_5
  try clear hcz7_6
  try clear hcz8_0
  try clear hcz8_1
  try clear hcz8_2
  try clear hcz8_3
  try clear hcz8_4
  try clear hcz8_5
  try clear hcz8_6
  try clear hfz7_0
  try clear hfz7_1
  try clear hfz7_2
  try clear hfz7_3
  try clear hfz7_4
  try clear hfz7_5
  try clear hfz7_6
  try clear hfz8_0
  try clear hfz8_1
  try clear hfz8_2
  try clear hfz8_3
  try clear hfz8_4
  try clear hfz8_5
  try clear hfz8_6
  obtain ⟨kq, x12_1, rfl, HA, HJ1, BK193, HB⟩ := hcut
  cases kq with
  | zero => exact absurd HA.out (by simp [spec_RouteRight.j0])
  | succ kj1 =>
   have H := HA.out
   clear HA
   simp only [spec_RouteRight.j0] at H
   by_cases c9 : x12_1 = true
   ·subst c9
    have H1 : (some false) = some r := by rw [if_pos rfl] at H; exact H
    clear H
    have H := H1
    clear H1
    obtain rfl := Option.some.inj H
    go_wp2
    go_ret
    exact ⟨by first | rfl | (simp [Qm, Ql] <;> rfl) | (simp [*, Qm, Ql] <;> rfl), by repeat (first | (with_reducible first | exact HB.out | apply Qe | apply Qc | apply Qd | refine Qf ?_ GE193.out) | exact HB.out)⟩
   ·replace c9 := Bool.eq_false_iff.mpr c9
    subst c9
    have H1 : (if a0_0 = 2 then ((spec_l02Mac.f a0_2).bind fun t196 => (if t196 = true then ((spec_IsGroup.f a0_2).bind fun t197 => (if t197 = true then (some false) else ((spec_l02Ip.f a0_3).bind fun t198 => (if t198 = true then ((spec_l02Is.f a0_5 0 1000000).bind fun t199 => (some t199)) else (some false))))) else (some false))) else (if a0_0 = 3 then (if a0_2 = 0 then (if a0_3 = 0 then (if a0_5 = 0 then (some (!a0_6)) else (some false)) else (some false)) else (some false)) else (some false))) = some r := by rw [if_neg (show ¬ (false = true) by decide)] at H; exact H
    clear H
    have H := H1
    clear H1
    by_cases c10 : a0_0 = 2
    ·rw [if_pos c10] at H
     have c10b0 : (a0_0 == 2) = true := beq_iff_eq.mpr c10
     have c10b1 : (a0_0 != 2) = false := bne_eq_false_iff_eq.mpr c10
     clear c10
     replace H := Option.bind_eq_some_iff.mp H
     obtain ⟨t196, A110, H⟩ := H
     replace H : (if t196 = true then ((spec_IsGroup.f a0_2).bind fun t197 => (if t197 = true then (some false) else ((spec_l02Ip.f a0_3).bind fun t198 => (if t198 = true then ((spec_l02Is.f a0_5 0 1000000).bind fun t199 => (some t199)) else (some false))))) else (some false)) = some r := H
     have A11 := Aside0.mk A110
     clear A110
     by_cases c12 : t196 = true
     ·subst c12
      have H1 : ((spec_IsGroup.f a0_2).bind fun t197 => (if t197 = true then (some false) else ((spec_l02Ip.f a0_3).bind fun t198 => (if t198 = true then ((spec_l02Is.f a0_5 0 1000000).bind fun t199 => (some t199)) else (some false))))) = some r := by rw [if_pos rfl] at H; exact H
      clear H
      have H := H1
      clear H1
      replace H := Option.bind_eq_some_iff.mp H
      obtain ⟨t197, A130, H⟩ := H
      replace H : (if t197 = true then (some false) else ((spec_l02Ip.f a0_3).bind fun t198 => (if t198 = true then ((spec_l02Is.f a0_5 0 1000000).bind fun t199 => (some t199)) else (some false)))) = some r := H
      have A13 := Aside0.mk A130
      clear A130
      by_cases c14 : t197 = true
      ·subst c14
       have H1 : (some false) = some r := by rw [if_pos rfl] at H; exact H
       clear H
       have H := H1
       clear H1
       obtain rfl := Option.some.inj H
       have hcz15_0 : wc.cell? ⟨gb193, 0, none⟩ = some (.int .i64 a0_0) := (Qa BK193.out 0).trans rfl
       have hcz15_1 : wc.cell? ⟨gb193, 1, none⟩ = some (.int .i64 a0_1) := (Qa BK193.out 1).trans rfl
       have hcz15_2 : wc.cell? ⟨gb193, 2, none⟩ = some (.int .i64 a0_2) := (Qa BK193.out 2).trans rfl
       have hcz15_3 : wc.cell? ⟨gb193, 3, none⟩ = some (.int .i64 a0_3) := (Qa BK193.out 3).trans rfl
       have hcz15_4 : wc.cell? ⟨gb193, 4, none⟩ = some (.int .i64 a0_4) := (Qa BK193.out 4).trans rfl
       have hcz15_5 : wc.cell? ⟨gb193, 5, none⟩ = some (.int .i64 a0_5) := (Qa BK193.out 5).trans rfl
       have hcz15_6 : wc.cell? ⟨gb193, 6, none⟩ = some (.bool a0_6) := (Qa BK193.out 6).trans rfl
       have hfz15_0 := Qb BK193.out 0
       have hfz15_1 := Qb BK193.out 1
       have hfz15_2 := Qb BK193.out 2
       have hfz15_3 := Qb BK193.out 3
       have hfz15_4 := Qb BK193.out 4
       have hfz15_5 := Qb BK193.out 5
       have hfz15_6 := Qb BK193.out 6
       go_wp2_with (first | ((with_reducible refine Qq (f := 107) rfl ?_); refine Qy (some 19) rfl rfl Try.func107 (by kernel_rfl) rfl #[.int .i64 a0_2] rfl (by (try simp only [List.map_toArray, List.map_cons, List.map_nil]); first | done | rfl | (simp only [List.length_drop, List.length_take]; rfl)) ?_; (with_reducible refine (spec_l02Mac.calls a0_2 true _ A11.out).mono ?_); rintro e w' ⟨rfl, ⟨nd, rfl⟩⟩; refine ⟨_, rfl, ?_⟩) | (go_at_call 108; (with_reducible refine (spec_IsGroup.calls a0_2 true _ A13.out).mono ?_); rintro e w' ⟨rfl, ⟨nd, rfl⟩⟩))
       go_ret
       exact ⟨by first | rfl | (simp [Qm, Ql] <;> rfl) | (simp [*, Qm, Ql] <;> rfl), by repeat (first | (with_reducible first | exact HB.out | apply Qe | apply Qc | apply Qd | refine Qf ?_ GE193.out) | exact HB.out)⟩
      ·replace c14 := Bool.eq_false_iff.mpr c14
       subst c14
       have H1 : ((spec_l02Ip.f a0_3).bind fun t198 => (if t198 = true then ((spec_l02Is.f a0_5 0 1000000).bind fun t199 => (some t199)) else (some false))) = some r := by rw [if_neg (show ¬ (false = true) by decide)] at H; exact H
       clear H
       have H := H1
       clear H1
       replace H := Option.bind_eq_some_iff.mp H
       obtain ⟨t198, A160, H⟩ := H
       replace H : (if t198 = true then ((spec_l02Is.f a0_5 0 1000000).bind fun t199 => (some t199)) else (some false)) = some r := H
       have A16 := Aside0.mk A160
       clear A160
       by_cases c17 : t198 = true
       ·subst c17
        have H1 : ((spec_l02Is.f a0_5 0 1000000).bind fun t199 => (some t199)) = some r := by rw [if_pos rfl] at H; exact H
        clear H
        have H := H1
        clear H1
        replace H := Option.bind_eq_some_iff.mp H
        obtain ⟨t199, A180, H⟩ := H
        replace H : (some t199) = some r := H
        have A18 := Aside0.mk A180
        clear A180
        obtain rfl := Option.some.inj H
        have hcz19_0 : wc.cell? ⟨gb193, 0, none⟩ = some (.int .i64 a0_0) := (Qa BK193.out 0).trans rfl
        have hcz19_1 : wc.cell? ⟨gb193, 1, none⟩ = some (.int .i64 a0_1) := (Qa BK193.out 1).trans rfl
        have hcz19_2 : wc.cell? ⟨gb193, 2, none⟩ = some (.int .i64 a0_2) := (Qa BK193.out 2).trans rfl
        have hcz19_3 : wc.cell? ⟨gb193, 3, none⟩ = some (.int .i64 a0_3) := (Qa BK193.out 3).trans rfl
        have hcz19_4 : wc.cell? ⟨gb193, 4, none⟩ = some (.int .i64 a0_4) := (Qa BK193.out 4).trans rfl
        have hcz19_5 : wc.cell? ⟨gb193, 5, none⟩ = some (.int .i64 a0_5) := (Qa BK193.out 5).trans rfl
        have hcz19_6 : wc.cell? ⟨gb193, 6, none⟩ = some (.bool a0_6) := (Qa BK193.out 6).trans rfl
        have hfz19_0 := Qb BK193.out 0
        have hfz19_1 := Qb BK193.out 1
        have hfz19_2 := Qb BK193.out 2
        have hfz19_3 := Qb BK193.out 3
        have hfz19_4 := Qb BK193.out 4
        have hfz19_5 := Qb BK193.out 5
        have hfz19_6 := Qb BK193.out 6
        go_wp2_with (first | ((with_reducible refine Qq (f := 107) rfl ?_); refine Qy (some 19) rfl rfl Try.func107 (by kernel_rfl) rfl #[.int .i64 a0_2] rfl (by (try simp only [List.map_toArray, List.map_cons, List.map_nil]); first | done | rfl | (simp only [List.length_drop, List.length_take]; rfl)) ?_; (with_reducible refine (spec_l02Mac.calls a0_2 true _ A11.out).mono ?_); rintro e w' ⟨rfl, ⟨nd, rfl⟩⟩; refine ⟨_, rfl, ?_⟩) | (go_at_call 108; (with_reducible refine (spec_IsGroup.calls a0_2 false _ A13.out).mono ?_); rintro e w' ⟨rfl, ⟨nd, rfl⟩⟩) | (go_at_call 109; (with_reducible refine (spec_l02Ip.calls a0_3 true _ A16.out).mono ?_); rintro e w' ⟨rfl, ⟨nd, rfl⟩⟩) | (go_at_call 88; (with_reducible refine (spec_l02Is.calls a0_5 0 1000000 t199 _ A18.out).mono ?_); rintro e w' ⟨rfl, ⟨nd, rfl⟩⟩))
        go_ret
        exact ⟨by first | rfl | (simp [Qm, Ql] <;> rfl) | (simp [*, Qm, Ql] <;> rfl), by repeat (first | (with_reducible first | exact HB.out | apply Qe | apply Qc | apply Qd | refine Qf ?_ GE193.out) | exact HB.out)⟩
       ·replace c17 := Bool.eq_false_iff.mpr c17
        subst c17
        have H1 : (some false) = some r := by rw [if_neg (show ¬ (false = true) by decide)] at H; exact H
        clear H
        have H := H1
        clear H1
        obtain rfl := Option.some.inj H
        have hcz20_0 : wc.cell? ⟨gb193, 0, none⟩ = some (.int .i64 a0_0) := (Qa BK193.out 0).trans rfl
        have hcz20_1 : wc.cell? ⟨gb193, 1, none⟩ = some (.int .i64 a0_1) := (Qa BK193.out 1).trans rfl
        have hcz20_2 : wc.cell? ⟨gb193, 2, none⟩ = some (.int .i64 a0_2) := (Qa BK193.out 2).trans rfl
        have hcz20_3 : wc.cell? ⟨gb193, 3, none⟩ = some (.int .i64 a0_3) := (Qa BK193.out 3).trans rfl
        have hcz20_4 : wc.cell? ⟨gb193, 4, none⟩ = some (.int .i64 a0_4) := (Qa BK193.out 4).trans rfl
        have hcz20_5 : wc.cell? ⟨gb193, 5, none⟩ = some (.int .i64 a0_5) := (Qa BK193.out 5).trans rfl
        have hcz20_6 : wc.cell? ⟨gb193, 6, none⟩ = some (.bool a0_6) := (Qa BK193.out 6).trans rfl
        have hfz20_0 := Qb BK193.out 0
        have hfz20_1 := Qb BK193.out 1
        have hfz20_2 := Qb BK193.out 2
        have hfz20_3 := Qb BK193.out 3
        have hfz20_4 := Qb BK193.out 4
        have hfz20_5 := Qb BK193.out 5
        have hfz20_6 := Qb BK193.out 6
        go_wp2_with (first | ((with_reducible refine Qq (f := 107) rfl ?_); refine Qy (some 19) rfl rfl Try.func107 (by kernel_rfl) rfl #[.int .i64 a0_2] rfl (by (try simp only [List.map_toArray, List.map_cons, List.map_nil]); first | done | rfl | (simp only [List.length_drop, List.length_take]; rfl)) ?_; (with_reducible refine (spec_l02Mac.calls a0_2 true _ A11.out).mono ?_); rintro e w' ⟨rfl, ⟨nd, rfl⟩⟩; refine ⟨_, rfl, ?_⟩) | (go_at_call 108; (with_reducible refine (spec_IsGroup.calls a0_2 false _ A13.out).mono ?_); rintro e w' ⟨rfl, ⟨nd, rfl⟩⟩) | (go_at_call 109; (with_reducible refine (spec_l02Ip.calls a0_3 false _ A16.out).mono ?_); rintro e w' ⟨rfl, ⟨nd, rfl⟩⟩))
        go_ret
        exact ⟨by first | rfl | (simp [Qm, Ql] <;> rfl) | (simp [*, Qm, Ql] <;> rfl), by repeat (first | (with_reducible first | exact HB.out | apply Qe | apply Qc | apply Qd | refine Qf ?_ GE193.out) | exact HB.out)⟩
     ·replace c12 := Bool.eq_false_iff.mpr c12
      subst c12
      have H1 : (some false) = some r := by rw [if_neg (show ¬ (false = true) by decide)] at H; exact H
      clear H
      have H := H1
      clear H1
      obtain rfl := Option.some.inj H
      have hcz21_0 : wc.cell? ⟨gb193, 0, none⟩ = some (.int .i64 a0_0) := (Qa BK193.out 0).trans rfl
      have hcz21_1 : wc.cell? ⟨gb193, 1, none⟩ = some (.int .i64 a0_1) := (Qa BK193.out 1).trans rfl
      have hcz21_2 : wc.cell? ⟨gb193, 2, none⟩ = some (.int .i64 a0_2) := (Qa BK193.out 2).trans rfl
      have hcz21_3 : wc.cell? ⟨gb193, 3, none⟩ = some (.int .i64 a0_3) := (Qa BK193.out 3).trans rfl
      have hcz21_4 : wc.cell? ⟨gb193, 4, none⟩ = some (.int .i64 a0_4) := (Qa BK193.out 4).trans rfl
      have hcz21_5 : wc.cell? ⟨gb193, 5, none⟩ = some (.int .i64 a0_5) := (Qa BK193.out 5).trans rfl
      have hcz21_6 : wc.cell? ⟨gb193, 6, none⟩ = some (.bool a0_6) := (Qa BK193.out 6).trans rfl
      have hfz21_0 := Qb BK193.out 0
      have hfz21_1 := Qb BK193.out 1
      have hfz21_2 := Qb BK193.out 2
      have hfz21_3 := Qb BK193.out 3
      have hfz21_4 := Qb BK193.out 4
      have hfz21_5 := Qb BK193.out 5
      have hfz21_6 := Qb BK193.out 6
      go_wp2_with (first | ((with_reducible refine Qq (f := 107) rfl ?_); refine Qy (some 19) rfl rfl Try.func107 (by kernel_rfl) rfl #[.int .i64 a0_2] rfl (by (try simp only [List.map_toArray, List.map_cons, List.map_nil]); first | done | rfl | (simp only [List.length_drop, List.length_take]; rfl)) ?_; (with_reducible refine (spec_l02Mac.calls a0_2 false _ A11.out).mono ?_); rintro e w' ⟨rfl, ⟨nd, rfl⟩⟩; refine ⟨_, rfl, ?_⟩))
      go_ret
      exact ⟨by first | rfl | (simp [Qm, Ql] <;> rfl) | (simp [*, Qm, Ql] <;> rfl), by repeat (first | (with_reducible first | exact HB.out | apply Qe | apply Qc | apply Qd | refine Qf ?_ GE193.out) | exact HB.out)⟩
    ·rw [if_neg c10] at H
     have c10b0 : (a0_0 == 2) = false := beq_eq_false_iff_ne.mpr c10
     have c10b1 : (a0_0 != 2) = true := bne_iff_ne.mpr c10
     by_cases c22 : a0_0 = 3
     ·rw [if_pos c22] at H
      have c22b0 : (a0_0 == 3) = true := beq_iff_eq.mpr c22
      have c22b1 : (a0_0 != 3) = false := bne_eq_false_iff_eq.mpr c22
      clear c22
      by_cases c23 : a0_2 = 0
      ·rw [if_pos c23] at H
       have c23b0 : (a0_2 == 0) = true := beq_iff_eq.mpr c23
       have c23b1 : (a0_2 != 0) = false := bne_eq_false_iff_eq.mpr c23
       clear c23
       by_cases c24 : a0_3 = 0
       ·rw [if_pos c24] at H
        have c24b0 : (a0_3 == 0) = true := beq_iff_eq.mpr c24
        have c24b1 : (a0_3 != 0) = false := bne_eq_false_iff_eq.mpr c24
        clear c24
        by_cases c25 : a0_5 = 0
        ·rw [if_pos c25] at H
         have c25b0 : (a0_5 == 0) = true := beq_iff_eq.mpr c25
         have c25b1 : (a0_5 != 0) = false := bne_eq_false_iff_eq.mpr c25
         clear c25
         obtain rfl := Option.some.inj H
         have hcz26_0 : wc.cell? ⟨gb193, 0, none⟩ = some (.int .i64 a0_0) := (Qa BK193.out 0).trans rfl
         have hcz26_1 : wc.cell? ⟨gb193, 1, none⟩ = some (.int .i64 a0_1) := (Qa BK193.out 1).trans rfl
         have hcz26_2 : wc.cell? ⟨gb193, 2, none⟩ = some (.int .i64 a0_2) := (Qa BK193.out 2).trans rfl
         have hcz26_3 : wc.cell? ⟨gb193, 3, none⟩ = some (.int .i64 a0_3) := (Qa BK193.out 3).trans rfl
         have hcz26_4 : wc.cell? ⟨gb193, 4, none⟩ = some (.int .i64 a0_4) := (Qa BK193.out 4).trans rfl
         have hcz26_5 : wc.cell? ⟨gb193, 5, none⟩ = some (.int .i64 a0_5) := (Qa BK193.out 5).trans rfl
         have hcz26_6 : wc.cell? ⟨gb193, 6, none⟩ = some (.bool a0_6) := (Qa BK193.out 6).trans rfl
         have hfz26_0 := Qb BK193.out 0
         have hfz26_1 := Qb BK193.out 1
         have hfz26_2 := Qb BK193.out 2
         have hfz26_3 := Qb BK193.out 3
         have hfz26_4 := Qb BK193.out 4
         have hfz26_5 := Qb BK193.out 5
         have hfz26_6 := Qb BK193.out 6
         go_wp2
         go_ret
         exact ⟨by first | rfl | (simp [Qm, Ql] <;> rfl) | (simp [*, Qm, Ql] <;> rfl), by repeat (first | (with_reducible first | exact HB.out | apply Qe | apply Qc | apply Qd | refine Qf ?_ GE193.out) | exact HB.out)⟩
        ·rw [if_neg c25] at H
         have c25b0 : (a0_5 == 0) = false := beq_eq_false_iff_ne.mpr c25
         have c25b1 : (a0_5 != 0) = true := bne_iff_ne.mpr c25
         obtain rfl := Option.some.inj H
         have hcz27_0 : wc.cell? ⟨gb193, 0, none⟩ = some (.int .i64 a0_0) := (Qa BK193.out 0).trans rfl
         have hcz27_1 : wc.cell? ⟨gb193, 1, none⟩ = some (.int .i64 a0_1) := (Qa BK193.out 1).trans rfl
         have hcz27_2 : wc.cell? ⟨gb193, 2, none⟩ = some (.int .i64 a0_2) := (Qa BK193.out 2).trans rfl
         have hcz27_3 : wc.cell? ⟨gb193, 3, none⟩ = some (.int .i64 a0_3) := (Qa BK193.out 3).trans rfl
         have hcz27_4 : wc.cell? ⟨gb193, 4, none⟩ = some (.int .i64 a0_4) := (Qa BK193.out 4).trans rfl
         have hcz27_5 : wc.cell? ⟨gb193, 5, none⟩ = some (.int .i64 a0_5) := (Qa BK193.out 5).trans rfl
         have hcz27_6 : wc.cell? ⟨gb193, 6, none⟩ = some (.bool a0_6) := (Qa BK193.out 6).trans rfl
         have hfz27_0 := Qb BK193.out 0
         have hfz27_1 := Qb BK193.out 1
         have hfz27_2 := Qb BK193.out 2
         have hfz27_3 := Qb BK193.out 3
         have hfz27_4 := Qb BK193.out 4
         have hfz27_5 := Qb BK193.out 5
         have hfz27_6 := Qb BK193.out 6
         go_wp2
         go_ret
         exact ⟨by first | rfl | (simp [Qm, Ql] <;> rfl) | (simp [*, Qm, Ql] <;> rfl), by repeat (first | (with_reducible first | exact HB.out | apply Qe | apply Qc | apply Qd | refine Qf ?_ GE193.out) | exact HB.out)⟩
       ·rw [if_neg c24] at H
        have c24b0 : (a0_3 == 0) = false := beq_eq_false_iff_ne.mpr c24
        have c24b1 : (a0_3 != 0) = true := bne_iff_ne.mpr c24
        obtain rfl := Option.some.inj H
        have hcz28_0 : wc.cell? ⟨gb193, 0, none⟩ = some (.int .i64 a0_0) := (Qa BK193.out 0).trans rfl
        have hcz28_1 : wc.cell? ⟨gb193, 1, none⟩ = some (.int .i64 a0_1) := (Qa BK193.out 1).trans rfl
        have hcz28_2 : wc.cell? ⟨gb193, 2, none⟩ = some (.int .i64 a0_2) := (Qa BK193.out 2).trans rfl
        have hcz28_3 : wc.cell? ⟨gb193, 3, none⟩ = some (.int .i64 a0_3) := (Qa BK193.out 3).trans rfl
        have hcz28_4 : wc.cell? ⟨gb193, 4, none⟩ = some (.int .i64 a0_4) := (Qa BK193.out 4).trans rfl
        have hcz28_5 : wc.cell? ⟨gb193, 5, none⟩ = some (.int .i64 a0_5) := (Qa BK193.out 5).trans rfl
        have hcz28_6 : wc.cell? ⟨gb193, 6, none⟩ = some (.bool a0_6) := (Qa BK193.out 6).trans rfl
        have hfz28_0 := Qb BK193.out 0
        have hfz28_1 := Qb BK193.out 1
        have hfz28_2 := Qb BK193.out 2
        have hfz28_3 := Qb BK193.out 3
        have hfz28_4 := Qb BK193.out 4
        have hfz28_5 := Qb BK193.out 5
        have hfz28_6 := Qb BK193.out 6
        go_wp2
        go_ret
        exact ⟨by first | rfl | (simp [Qm, Ql] <;> rfl) | (simp [*, Qm, Ql] <;> rfl), by repeat (first | (with_reducible first | exact HB.out | apply Qe | apply Qc | apply Qd | refine Qf ?_ GE193.out) | exact HB.out)⟩
      ·rw [if_neg c23] at H
       have c23b0 : (a0_2 == 0) = false := beq_eq_false_iff_ne.mpr c23
       have c23b1 : (a0_2 != 0) = true := bne_iff_ne.mpr c23
       obtain rfl := Option.some.inj H
       have hcz29_0 : wc.cell? ⟨gb193, 0, none⟩ = some (.int .i64 a0_0) := (Qa BK193.out 0).trans rfl
       have hcz29_1 : wc.cell? ⟨gb193, 1, none⟩ = some (.int .i64 a0_1) := (Qa BK193.out 1).trans rfl
       have hcz29_2 : wc.cell? ⟨gb193, 2, none⟩ = some (.int .i64 a0_2) := (Qa BK193.out 2).trans rfl
       have hcz29_3 : wc.cell? ⟨gb193, 3, none⟩ = some (.int .i64 a0_3) := (Qa BK193.out 3).trans rfl
       have hcz29_4 : wc.cell? ⟨gb193, 4, none⟩ = some (.int .i64 a0_4) := (Qa BK193.out 4).trans rfl
       have hcz29_5 : wc.cell? ⟨gb193, 5, none⟩ = some (.int .i64 a0_5) := (Qa BK193.out 5).trans rfl
       have hcz29_6 : wc.cell? ⟨gb193, 6, none⟩ = some (.bool a0_6) := (Qa BK193.out 6).trans rfl
       have hfz29_0 := Qb BK193.out 0
       have hfz29_1 := Qb BK193.out 1
       have hfz29_2 := Qb BK193.out 2
       have hfz29_3 := Qb BK193.out 3
       have hfz29_4 := Qb BK193.out 4
       have hfz29_5 := Qb BK193.out 5
       have hfz29_6 := Qb BK193.out 6
       go_wp2
       go_ret
       exact ⟨by first | rfl | (simp [Qm, Ql] <;> rfl) | (simp [*, Qm, Ql] <;> rfl), by repeat (first | (with_reducible first | exact HB.out | apply Qe | apply Qc | apply Qd | refine Qf ?_ GE193.out) | exact HB.out)⟩
     ·rw [if_neg c22] at H
      have c22b0 : (a0_0 == 3) = false := beq_eq_false_iff_ne.mpr c22
      have c22b1 : (a0_0 != 3) = true := bne_iff_ne.mpr c22
      obtain rfl := Option.some.inj H
      have hcz30_0 : wc.cell? ⟨gb193, 0, none⟩ = some (.int .i64 a0_0) := (Qa BK193.out 0).trans rfl
      have hcz30_1 : wc.cell? ⟨gb193, 1, none⟩ = some (.int .i64 a0_1) := (Qa BK193.out 1).trans rfl
      have hcz30_2 : wc.cell? ⟨gb193, 2, none⟩ = some (.int .i64 a0_2) := (Qa BK193.out 2).trans rfl
      have hcz30_3 : wc.cell? ⟨gb193, 3, none⟩ = some (.int .i64 a0_3) := (Qa BK193.out 3).trans rfl
      have hcz30_4 : wc.cell? ⟨gb193, 4, none⟩ = some (.int .i64 a0_4) := (Qa BK193.out 4).trans rfl
      have hcz30_5 : wc.cell? ⟨gb193, 5, none⟩ = some (.int .i64 a0_5) := (Qa BK193.out 5).trans rfl
      have hcz30_6 : wc.cell? ⟨gb193, 6, none⟩ = some (.bool a0_6) := (Qa BK193.out 6).trans rfl
      have hfz30_0 := Qb BK193.out 0
      have hfz30_1 := Qb BK193.out 1
      have hfz30_2 := Qb BK193.out 2
      have hfz30_3 := Qb BK193.out 3
      have hfz30_4 := Qb BK193.out 4
      have hfz30_5 := Qb BK193.out 5
      have hfz30_6 := Qb BK193.out 6
      go_wp2
      go_ret
      exact ⟨by first | rfl | (simp [Qm, Ql] <;> rfl) | (simp [*, Qm, Ql] <;> rfl), by repeat (first | (with_reducible first | exact HB.out | apply Qe | apply Qc | apply Qd | refine Qf ?_ GE193.out) | exact HB.out)⟩
end Go.Proofs.Ytmgmaflfednngaa.PFnExactTellerRight
