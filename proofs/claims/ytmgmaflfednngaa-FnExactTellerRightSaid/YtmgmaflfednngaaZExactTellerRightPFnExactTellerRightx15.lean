-- A copy, made by trim.py (its own words shortened): not an official print.
import Derived.Test.YtmgmaflfednngaaZExactTellerRightPFnExactTellerRightx0
import Derived.Test.YtmgmaflfednngaaZExactTellerRightPFnExactTellerRightx2
import Derived.Test.YtmgmaflfednngaaZExactTellerRightPFnExactTellerRightx3
import Derived.Test.YtmgmaflfednngaaZExactTellerRightPFnExactTellerRightx4
import Derived.Test.YtmgmaflfednngaaZExactTellerRightPFnExactTellerRightx9
import Derived.Test.YtmgmaflfednngaaZExactTellerRightPFnExactTellerRightx14
namespace Go.Proofs.Ytmgmaflfednngaa.PFnExactTellerRight
open Go.RowKit Go.Proofs.YtmgmaflfednngaaW.PrintWords Go.Proofs.YtmgmaflfednngaaW.PrintLast Go.Proofs.YtmgmaflfednngaaW.PrintMore
attribute [local go_sem] max2_int min2_int max_two min_two max_three min_three max_four min_four   -- for this text's walks alone
set_option linter.unusedVariables false
set_option linter.unusedSimpArgs false
def laws_FnExactTellerRight.f (k : Nat) (a0_0 : Int) (a0_1 : Int) (l0_2 : List (S123)) (l0_3 : List (S76)) : Option (Bool) := (laws_szTeller.f k a0_0 a0_1 l0_2 l0_3 1048576).bind fun t278 => (if t278 < 0 then (some true) else ((laws_toTeller.f k a0_0 a0_1 l0_2 l0_3).bind fun bt279 => ((spec_TellerRight.f k bt279.1 bt279.2.1 bt279.2.2.1 bt279.2.2.2).bind fun t287 => ((laws_toTeller.f k a0_0 a0_1 l0_2 l0_3).bind fun bt288 => ((impl_TellerRight.f k bt288.1 bt288.2.1 bt288.2.2.1 bt288.2.2.2).bind fun t297 => (if (t297 != t287) = true then (some false) else ((laws_toTeller.f k a0_0 a0_1 l0_2 l0_3).bind fun bt298 => ((laws_eqTeller.f k bt288.1 bt288.2.1 bt288.2.2.1 bt288.2.2.2 bt298.1 bt298.2.1 bt298.2.2.1 bt298.2.2.2).bind fun t306 => (if t306 = true then (some true) else (some false))))))))))
theorem laws_FnExactTellerRight.mono : ∀ a0 a1 a2 a3 k, LeO (laws_FnExactTellerRight.f k a0 a1 a2 a3) (laws_FnExactTellerRight.f (k + 1) a0 a1 a2 a3) := by
 intro a0 a1 a2 a3 k
 unfold laws_FnExactTellerRight.f
 repeat' first
   | (with_reducible exact impl_TellerRight.mono _ _ _ _ _)
   | (with_reducible exact laws_eqTeller.mono _ _ _ _ _ _ _ _ _)
   | (with_reducible exact laws_szTeller.mono _ _ _ _ _ _)
   | (with_reducible exact laws_toTeller.mono _ _ _ _ _)
   | (with_reducible exact spec_TellerRight.mono _ _ _ _ _)
   | (with_reducible exact LeO.refl _)
   | (with_reducible exact LeO.none _)
   | (with_reducible refine LeO.ite ?_ ?_)
   | (with_reducible refine LeO.bind ?_ (fun _ => ?_))
   | exact impl_TellerRight.mono _ _ _ _ _
   | exact laws_eqTeller.mono _ _ _ _ _ _ _ _ _
   | exact laws_szTeller.mono _ _ _ _ _ _
   | exact laws_toTeller.mono _ _ _ _ _
   | exact spec_TellerRight.mono _ _ _ _ _
   | exact LeO.none _
   | refine LeO.ite ?_ ?_
   | refine LeO.bind ?_ (fun _ => ?_)
set_option maxHeartbeats 8000000 in
set_option maxRecDepth 100000 in
theorem laws_FnExactTellerRight.calls_true (k : Nat) (a0_0 : Int) (a0_1 : Int) (A0_2 : Option Addr) (c0_2 : Nat) (l0_2 : List (S123)) (A0_3 : Option Addr) (c0_3 : Nat) (l0_3 : List (S76)) (w : World) (hr0_2 : Kd.C k123 w A0_2 l0_2.length l0_2) (hc0_2 : l0_2.length ≤ c0_2) (hr0_3 : Kd.C k76 w A0_3 l0_3.length l0_3) (hc0_3 : l0_3.length ≤ c0_3) (h : laws_FnExactTellerRight.f k a0_0 a0_1 l0_2 l0_3 = some true) :
  Calls Try.prog 10 #[.agg #[.int .i64 a0_0, .int .i64 a0_1, .slice A0_2 l0_2.length c0_2, .slice A0_3 l0_3.length c0_3]] w fun e w' => e = .returned (.bool true) ∧ Below w.heap.size w w' := by
 have hu52 := Try.underlying52
 have hu57 := Try.underlying57
 have HR0_2 := Aside0.mk hr0_2
 have HC0_2 := Aside0.mk hc0_2
 clear hr0_2 hc0_2
 have HR0_3 := Aside0.mk hr0_3
 have HC0_3 := Aside0.mk hc0_3
 clear hr0_3 hc0_3
 have HB := Aside0.mk (Below.refl w.heap.size w)
 have H : ((laws_szTeller.f k a0_0 a0_1 l0_2 l0_3 1048576).bind fun t278 => (if t278 < 0 then (some true) else ((laws_toTeller.f k a0_0 a0_1 l0_2 l0_3).bind fun bt279 => ((spec_TellerRight.f k bt279.1 bt279.2.1 bt279.2.2.1 bt279.2.2.2).bind fun t287 => ((laws_toTeller.f k a0_0 a0_1 l0_2 l0_3).bind fun bt288 => ((impl_TellerRight.f k bt288.1 bt288.2.1 bt288.2.2.1 bt288.2.2.2).bind fun t297 => (if (t297 != t287) = true then (some false) else ((laws_toTeller.f k a0_0 a0_1 l0_2 l0_3).bind fun bt298 => ((laws_eqTeller.f k bt288.1 bt288.2.1 bt288.2.2.1 bt288.2.2.2 bt298.1 bt298.2.1 bt298.2.2.1 bt298.2.2.2).bind fun t306 => (if t306 = true then (some true) else (some false))))))))))) = some true := h
 clear h
 replace H := Option.bind_eq_some_iff.mp H
 obtain ⟨t278, A20, H⟩ := H
 replace H : (if t278 < 0 then (some true) else ((laws_toTeller.f k a0_0 a0_1 l0_2 l0_3).bind fun bt279 => ((spec_TellerRight.f k bt279.1 bt279.2.1 bt279.2.2.1 bt279.2.2.2).bind fun t287 => ((laws_toTeller.f k a0_0 a0_1 l0_2 l0_3).bind fun bt288 => ((impl_TellerRight.f k bt288.1 bt288.2.1 bt288.2.2.1 bt288.2.2.2).bind fun t297 => (if (t297 != t287) = true then (some false) else ((laws_toTeller.f k a0_0 a0_1 l0_2 l0_3).bind fun bt298 => ((laws_eqTeller.f k bt288.1 bt288.2.1 bt288.2.2.1 bt288.2.2.2 bt298.1 bt298.2.1 bt298.2.2.1 bt298.2.2.2).bind fun t306 => (if t306 = true then (some true) else (some false)))))))))) = some true := H
 have A2 := Aside0.mk A20
 clear A20
 by_cases c3 : t278 < 0
 ·rw [if_pos c3] at H
  have c3b0 : decide (t278 < 0) = true := decide_eq_true c3
  clear c3
  clear H
  go_enter Try.func10, Try.ntmps10
  go_wp2_with (first | ((with_reducible refine Qw (N := 1) rfl ?_); refine Qu ?hg (N := 1) ?hd (cs := #[.int .i64 a0_0, .int .i64 a0_1, .slice A0_2 l0_2.length c0_2, .slice A0_3 l0_3.length c0_3]) (t := 52) ?hr ?_; (case hd => rfl); (case hg => rfl); (case hr => first | (go_simp; done) | (go_simp; rfl)); intro gb277 hg w4 hbox hb; have n0_ := Aside0.mk (Qn (by repeat (first | (with_reducible first | exact HB.out | apply Qe | apply Qc | apply Qd) | exact HB.out)) hb); have n1_ := Aside0.mk (hbox); have n2_ := Aside0.mk ((by rw [hg]; exact (Qj (by repeat (first | (with_reducible first | exact HB.out | apply Qe | apply Qc | apply Qd) | exact HB.out))) : w.heap.size ≤ gb277)); have n3_ := Aside0.mk ((by rw [hg]; exact (Qj (by repeat (first | (with_reducible first | exact HB.out | apply Qe | apply Qc | apply Qd) | exact HB.out))) : w.heap.size ≤ gb277)); clear HB; have HB := n0_; have BK277 := n1_; have GW277 := n2_; have GE277 := n3_; clear n0_ n1_ n2_ n3_; clear hb hbox hg; have hcz5_0 : w4.cell? ⟨gb277, 0, none⟩ = some (.int .i64 a0_0) := (Qa BK277.out 0).trans rfl; have hcz5_1 : w4.cell? ⟨gb277, 1, none⟩ = some (.int .i64 a0_1) := (Qa BK277.out 1).trans rfl; have hcz5_2 : w4.cell? ⟨gb277, 2, none⟩ = some (.slice A0_2 l0_2.length c0_2) := (Qa BK277.out 2).trans rfl; have hcz5_3 : w4.cell? ⟨gb277, 3, none⟩ = some (.slice A0_3 l0_3.length c0_3) := (Qa BK277.out 3).trans rfl; have hfz5_0 := Qb BK277.out 0; have hfz5_1 := Qb BK277.out 1; have hfz5_2 := Qb BK277.out 2; have hfz5_3 := Qb BK277.out 3) | ((with_reducible refine Qq (f := 39) rfl ?_); refine Qy (some 9) rfl rfl Try.func39 (by kernel_rfl) rfl #[.agg #[.int .i64 a0_0, .int .i64 a0_1, .slice A0_2 l0_2.length c0_2, .slice A0_3 l0_3.length c0_3], .int .i64 1048576] rfl (by (try simp only [List.map_toArray, List.map_cons, List.map_nil]); first | done | rfl | (simp only [List.length_drop, List.length_take]; rfl)) ?_; (with_reducible refine (laws_szTeller.calls k a0_0 a0_1 _ _ l0_2 _ _ l0_3 1048576 t278 _ ?side1 ?side2 ?side3 ?side4 A2.out).mono ?_); (case side1 => repeat (first | exact (Kd.C_below HR0_2.out HB.out) | (with_reducible refine Kd.C_alloc ?_ _) | (with_reducible refine Kd.C_drewN ?_ _) | (with_reducible refine Kd.C_drew ?_))); (case side2 => exact HC0_2.out); (case side3 => repeat (first | exact (Kd.C_below HR0_3.out HB.out) | (with_reducible refine Kd.C_alloc ?_ _) | (with_reducible refine Kd.C_drewN ?_ _) | (with_reducible refine Kd.C_drew ?_))); (case side4 => exact HC0_3.out); rintro e w6 ⟨rfl, hb⟩; refine ⟨_, rfl, ?_⟩; have n0_ := Aside0.mk (Qo (g := gb277) (o := .cells #[.int .i64 a0_0, .int .i64 a0_1, .slice A0_2 l0_2.length c0_2, .slice A0_3 l0_3.length c0_3] 52 (0, 0)) (by (with_reducible repeat (first | refine Qg ?_ _ | refine Qi ?_ | refine Qh ?_ _)); exact BK277.out) hb); have n1_ := Aside0.mk (Qn (by repeat (first | (with_reducible first | exact HB.out | apply Qe | apply Qc | apply Qd | refine Qf ?_ GE277.out) | exact HB.out)) hb); clear BK277; clear HB; have BK277 := n0_; have HB := n1_; clear n0_ n1_; (try clear hb); (try clear hb2); (try clear hk); (try clear hi)))
  go_ret
  exact ⟨by first | rfl | (simp [Qm, Ql] <;> rfl) | (simp [*, Qm, Ql] <;> rfl), by repeat (first | (with_reducible first | exact HB.out | apply Qe | apply Qc | apply Qd | refine Qf ?_ GE277.out) | exact HB.out)⟩
 ·rw [if_neg c3] at H
  have c3b0 : decide (t278 < 0) = false := decide_eq_false c3
  clear c3
  replace H := Option.bind_eq_some_iff.mp H
  obtain ⟨⟨t279, t280, t281, t284⟩, A70, H⟩ := H
  replace H : ((spec_TellerRight.f k t279 t280 t281 t284).bind fun t287 => ((laws_toTeller.f k a0_0 a0_1 l0_2 l0_3).bind fun bt288 => ((impl_TellerRight.f k bt288.1 bt288.2.1 bt288.2.2.1 bt288.2.2.2).bind fun t297 => (if (t297 != t287) = true then (some false) else ((laws_toTeller.f k a0_0 a0_1 l0_2 l0_3).bind fun bt298 => ((laws_eqTeller.f k bt288.1 bt288.2.1 bt288.2.2.1 bt288.2.2.2 bt298.1 bt298.2.1 bt298.2.2.1 bt298.2.2.2).bind fun t306 => (if t306 = true then (some true) else (some false)))))))) = some true := H
  have A7 := Aside0.mk A70
  clear A70
  replace H := Option.bind_eq_some_iff.mp H
  obtain ⟨t287, A80, H⟩ := H
  replace H : ((laws_toTeller.f k a0_0 a0_1 l0_2 l0_3).bind fun bt288 => ((impl_TellerRight.f k bt288.1 bt288.2.1 bt288.2.2.1 bt288.2.2.2).bind fun t297 => (if (t297 != t287) = true then (some false) else ((laws_toTeller.f k a0_0 a0_1 l0_2 l0_3).bind fun bt298 => ((laws_eqTeller.f k bt288.1 bt288.2.1 bt288.2.2.1 bt288.2.2.2 bt298.1 bt298.2.1 bt298.2.2.1 bt298.2.2.2).bind fun t306 => (if t306 = true then (some true) else (some false))))))) = some true := H
  have A8 := Aside0.mk A80
  clear A80
  replace H := Option.bind_eq_some_iff.mp H
  obtain ⟨⟨t288, t289, t290, t293⟩, A90, H⟩ := H
  replace H : ((impl_TellerRight.f k t288 t289 t290 t293).bind fun t297 => (if (t297 != t287) = true then (some false) else ((laws_toTeller.f k a0_0 a0_1 l0_2 l0_3).bind fun bt298 => ((laws_eqTeller.f k t288 t289 t290 t293 bt298.1 bt298.2.1 bt298.2.2.1 bt298.2.2.2).bind fun t306 => (if t306 = true then (some true) else (some false)))))) = some true := H
  have A9 := Aside0.mk A90
  clear A90
  replace H := Option.bind_eq_some_iff.mp H
  obtain ⟨t297, A100, H⟩ := H
  replace H : (if (t297 != t287) = true then (some false) else ((laws_toTeller.f k a0_0 a0_1 l0_2 l0_3).bind fun bt298 => ((laws_eqTeller.f k t288 t289 t290 t293 bt298.1 bt298.2.1 bt298.2.2.1 bt298.2.2.2).bind fun t306 => (if t306 = true then (some true) else (some false))))) = some true := H
  have A10 := Aside0.mk A100
  clear A100
  by_cases c11 : (t297 != t287) = true
  ·rw [if_pos c11] at H
   have c11b0 : (t297 != t287) = true := c11
   (try (have c11b1 : decide (t297 = t287) = false := by simpa using c11))
   (try (have c11b2 : (t297 == t287) = false := by simpa using c11))
   (try (have c11b3 : ¬ (t297 = t287) := by simpa using c11))
   clear c11
   exact absurd (Option.some.inj H) (by decide)
  ·rw [if_neg c11] at H
   have c11b0 : (t297 != t287) = false := by simpa using c11
   (try (have c11b1 : decide (t297 = t287) = true := by simpa using c11))
   (try (have c11b2 : (t297 == t287) = true := by simpa using c11))
   clear c11
   replace H := Option.bind_eq_some_iff.mp H
   obtain ⟨⟨t298, t299, t300, t303⟩, A280, H⟩ := H
   replace H : ((laws_eqTeller.f k t288 t289 t290 t293 t298 t299 t300 t303).bind fun t306 => (if t306 = true then (some true) else (some false))) = some true := H
   have A28 := Aside0.mk A280
   clear A280
   replace H := Option.bind_eq_some_iff.mp H
   obtain ⟨t306, A290, H⟩ := H
   replace H : (if t306 = true then (some true) else (some false)) = some true := H
   have A29 := Aside0.mk A290
   clear A290
   by_cases c30 : t306 = true
   ·subst c30
    have H1 : (some true) = some true := rfl
    clear H
    have H := H1
    clear H1
    clear H
    go_enter Try.func10, Try.ntmps10
    try go_wp2_with (first | ((with_reducible refine Qw (N := 1) rfl ?_); refine Qu ?hg (N := 1) ?hd (cs := #[.int .i64 a0_0, .int .i64 a0_1, .slice A0_2 l0_2.length c0_2, .slice A0_3 l0_3.length c0_3]) (t := 52) ?hr ?_; (case hd => rfl); (case hg => rfl); (case hr => first | (go_simp; done) | (go_simp; rfl)); intro gb277 hg w31 hbox hb; have n0_ := Aside0.mk (Qn (by repeat (first | (with_reducible first | exact HB.out | apply Qe | apply Qc | apply Qd) | exact HB.out)) hb); have n1_ := Aside0.mk (hbox); have n2_ := Aside0.mk ((by rw [hg]; exact (Qj (by repeat (first | (with_reducible first | exact HB.out | apply Qe | apply Qc | apply Qd) | exact HB.out))) : w.heap.size ≤ gb277)); have n3_ := Aside0.mk ((by rw [hg]; exact (Qj (by repeat (first | (with_reducible first | exact HB.out | apply Qe | apply Qc | apply Qd) | exact HB.out))) : w.heap.size ≤ gb277)); clear HB; have HB := n0_; have BK277 := n1_; have GW277 := n2_; have GE277 := n3_; clear n0_ n1_ n2_ n3_; clear hb hbox hg; have hcz32_0 : w31.cell? ⟨gb277, 0, none⟩ = some (.int .i64 a0_0) := (Qa BK277.out 0).trans rfl; have hcz32_1 : w31.cell? ⟨gb277, 1, none⟩ = some (.int .i64 a0_1) := (Qa BK277.out 1).trans rfl; have hcz32_2 : w31.cell? ⟨gb277, 2, none⟩ = some (.slice A0_2 l0_2.length c0_2) := (Qa BK277.out 2).trans rfl; have hcz32_3 : w31.cell? ⟨gb277, 3, none⟩ = some (.slice A0_3 l0_3.length c0_3) := (Qa BK277.out 3).trans rfl; have hfz32_0 := Qb BK277.out 0; have hfz32_1 := Qb BK277.out 1; have hfz32_2 := Qb BK277.out 2; have hfz32_3 := Qb BK277.out 3) | ((with_reducible refine Qq (f := 39) rfl ?_); refine Qy (some 9) rfl rfl Try.func39 (by kernel_rfl) rfl #[.agg #[.int .i64 a0_0, .int .i64 a0_1, .slice A0_2 l0_2.length c0_2, .slice A0_3 l0_3.length c0_3], .int .i64 1048576] rfl (by (try simp only [List.map_toArray, List.map_cons, List.map_nil]); first | done | rfl | (simp only [List.length_drop, List.length_take]; rfl)) ?_; (with_reducible refine (laws_szTeller.calls k a0_0 a0_1 _ _ l0_2 _ _ l0_3 1048576 t278 _ ?side1 ?side2 ?side3 ?side4 A2.out).mono ?_); (case side1 => repeat (first | exact (Kd.C_below HR0_2.out HB.out) | (with_reducible refine Kd.C_alloc ?_ _) | (with_reducible refine Kd.C_drewN ?_ _) | (with_reducible refine Kd.C_drew ?_))); (case side2 => exact HC0_2.out); (case side3 => repeat (first | exact (Kd.C_below HR0_3.out HB.out) | (with_reducible refine Kd.C_alloc ?_ _) | (with_reducible refine Kd.C_drewN ?_ _) | (with_reducible refine Kd.C_drew ?_))); (case side4 => exact HC0_3.out); rintro e w33 ⟨rfl, hb⟩; refine ⟨_, rfl, ?_⟩; have n0_ := Aside0.mk (Qo (g := gb277) (o := .cells #[.int .i64 a0_0, .int .i64 a0_1, .slice A0_2 l0_2.length c0_2, .slice A0_3 l0_3.length c0_3] 52 (0, 0)) (by (with_reducible repeat (first | refine Qg ?_ _ | refine Qi ?_ | refine Qh ?_ _)); exact BK277.out) hb); have n1_ := Aside0.mk (Qn (by repeat (first | (with_reducible first | exact HB.out | apply Qe | apply Qc | apply Qd | refine Qf ?_ GE277.out) | exact HB.out)) hb); clear BK277; clear HB; have BK277 := n0_; have HB := n1_; clear n0_ n1_; (try clear hb); (try clear hb2); (try clear hk); (try clear hi); have hcz34_0 : w33.cell? ⟨gb277, 0, none⟩ = some (.int .i64 a0_0) := (Qa BK277.out 0).trans rfl; have hcz34_1 : w33.cell? ⟨gb277, 1, none⟩ = some (.int .i64 a0_1) := (Qa BK277.out 1).trans rfl; have hcz34_2 : w33.cell? ⟨gb277, 2, none⟩ = some (.slice A0_2 l0_2.length c0_2) := (Qa BK277.out 2).trans rfl; have hcz34_3 : w33.cell? ⟨gb277, 3, none⟩ = some (.slice A0_3 l0_3.length c0_3) := (Qa BK277.out 3).trans rfl; have hfz34_0 := Qb BK277.out 0; have hfz34_1 := Qb BK277.out 1; have hfz34_2 := Qb BK277.out 2; have hfz34_3 := Qb BK277.out 3) | ((with_reducible refine Qq (f := 41) rfl ?_); refine Qy (some 13) rfl rfl Try.func41 (by kernel_rfl) rfl #[.agg #[.int .i64 a0_0, .int .i64 a0_1, .slice A0_2 l0_2.length c0_2, .slice A0_3 l0_3.length c0_3]] rfl (by (try simp only [List.map_toArray, List.map_cons, List.map_nil]); first | done | rfl | (simp only [List.length_drop, List.length_take]; rfl)) ?_; (with_reducible refine (laws_toTeller.calls k a0_0 a0_1 _ _ l0_2 _ _ l0_3 t279 t280 t281 t284 _ ?side1 ?side2 ?side3 ?side4 A7.out).mono ?_); (case side1 => repeat (first | exact (Kd.C_below HR0_2.out HB.out) | (with_reducible refine Kd.C_alloc ?_ _) | (with_reducible refine Kd.C_drewN ?_ _) | (with_reducible refine Kd.C_drew ?_))); (case side2 => exact HC0_2.out); (case side3 => repeat (first | exact (Kd.C_below HR0_3.out HB.out) | (with_reducible refine Kd.C_alloc ?_ _) | (with_reducible refine Kd.C_drewN ?_ _) | (with_reducible refine Kd.C_drew ?_))); (case side4 => exact HC0_3.out); rintro e w35 ⟨v282, v285, rfl, ho0, ho1, hb⟩; refine ⟨_, rfl, ?_⟩; have n0_ := Aside0.mk (Kd.S_lower ho0 (Qj (by repeat (first | (with_reducible first | exact HB.out | apply Qe | apply Qc | apply Qd | refine Qf ?_ GE277.out) | exact HB.out)))); have n1_ := Aside0.mk (Kd.R_lower ho1 (Qj (by repeat (first | (with_reducible first | exact HB.out | apply Qe | apply Qc | apply Qd | refine Qf ?_ GE277.out) | exact HB.out)))); have n2_ := Aside0.mk (Qo (g := gb277) (o := .cells #[.int .i64 a0_0, .int .i64 a0_1, .slice A0_2 l0_2.length c0_2, .slice A0_3 l0_3.length c0_3] 52 (0, 0)) (by (with_reducible repeat (first | refine Qg ?_ _ | refine Qi ?_ | refine Qh ?_ _)); exact BK277.out) hb); have n3_ := Aside0.mk (Qn (by repeat (first | (with_reducible first | exact HB.out | apply Qe | apply Qc | apply Qd | refine Qf ?_ GE277.out) | exact HB.out)) hb); clear BK277; clear HB; have HO283 := n0_; have HO286 := n1_; have BK277 := n2_; have HB := n3_; clear n0_ n1_ n2_ n3_; (try clear hb); (try clear hb2); (try clear hk); (try clear hi); (try clear ho0); (try clear ho1); obtain ⟨Ao36, co36, eo36⟩ := Kd.S_slice HO283.out; subst eo36; obtain ⟨Ao37, co37, eo37⟩ := Kd.R_slice HO286.out; subst eo37) | ((with_reducible refine Qq (f := 45) rfl ?_); refine Qy (some 14) rfl rfl Try.func45 (by kernel_rfl) rfl #[.agg #[.int .i64 t279, .int .i64 t280, .slice Ao36 t281.length co36, .slice Ao37 t284.length co37]] rfl (by (try simp only [List.map_toArray, List.map_cons, List.map_nil]); first | done | rfl | (simp only [List.length_drop, List.length_take]; rfl)) ?_; (with_reducible refine (spec_TellerRight.calls k t279 t280 _ _ t281 _ _ t284 t287 _ ?side1 ?side2 ?side3 ?side4 A8.out).mono ?_); (case side1 => repeat (first | exact (Kd.S_reads' HO283.out).2.2 | (with_reducible refine Kd.C_alloc ?_ _) | (with_reducible refine Kd.C_drewN ?_ _) | (with_reducible refine Kd.C_drew ?_))); (case side2 => exact (Kd.S_reads' HO283.out).2.1); (case side3 => repeat (first | exact (Kd.R_reads' HO286.out).2.2 | (with_reducible refine Kd.C_alloc ?_ _) | (with_reducible refine Kd.C_drewN ?_ _) | (with_reducible refine Kd.C_drew ?_))); (case side4 => exact (Kd.R_reads' HO286.out).2.1); rintro e w38 ⟨rfl, hb⟩; refine ⟨_, rfl, ?_⟩; have n0_ := Aside0.mk (Kd.S_below (by (with_reducible repeat (first | apply Kd.S_alloc | apply Kd.S_drewN | apply Kd.S_drew)); exact HO283.out) hb); have n1_ := Aside0.mk (Kd.R_below (by (with_reducible repeat (first | apply Kd.R_alloc | apply Kd.R_drewN | apply Kd.R_drew)); exact HO286.out) hb); have n2_ := Aside0.mk (Qo (g := gb277) (o := .cells #[.int .i64 a0_0, .int .i64 a0_1, .slice A0_2 l0_2.length c0_2, .slice A0_3 l0_3.length c0_3] 52 (0, 0)) (by (with_reducible repeat (first | refine Qg ?_ _ | refine Qi ?_ | refine Qh ?_ _)); exact BK277.out) hb); have n3_ := Aside0.mk (Qn (by repeat (first | (with_reducible first | exact HB.out | apply Qe | apply Qc | apply Qd | refine Qf ?_ GE277.out) | exact HB.out)) hb); clear HO283; clear HO286; clear BK277; clear HB; have HO283 := n0_; have HO286 := n1_; have BK277 := n2_; have HB := n3_; clear n0_ n1_ n2_ n3_; (try clear hb); (try clear hb2); (try clear hk); (try clear hi); have hcz39_0 : w38.cell? ⟨gb277, 0, none⟩ = some (.int .i64 a0_0) := (Qa BK277.out 0).trans rfl; have hcz39_1 : w38.cell? ⟨gb277, 1, none⟩ = some (.int .i64 a0_1) := (Qa BK277.out 1).trans rfl; have hcz39_2 : w38.cell? ⟨gb277, 2, none⟩ = some (.slice A0_2 l0_2.length c0_2) := (Qa BK277.out 2).trans rfl; have hcz39_3 : w38.cell? ⟨gb277, 3, none⟩ = some (.slice A0_3 l0_3.length c0_3) := (Qa BK277.out 3).trans rfl; have hfz39_0 := Qb BK277.out 0; have hfz39_1 := Qb BK277.out 1; have hfz39_2 := Qb BK277.out 2; have hfz39_3 := Qb BK277.out 3) | ((with_reducible refine Qq (f := 41) rfl ?_); refine Qy (some 16) rfl rfl Try.func41 (by kernel_rfl) rfl #[.agg #[.int .i64 a0_0, .int .i64 a0_1, .slice A0_2 l0_2.length c0_2, .slice A0_3 l0_3.length c0_3]] rfl (by (try simp only [List.map_toArray, List.map_cons, List.map_nil]); first | done | rfl | (simp only [List.length_drop, List.length_take]; rfl)) ?_; (with_reducible refine (laws_toTeller.calls k a0_0 a0_1 _ _ l0_2 _ _ l0_3 t288 t289 t290 t293 _ ?side1 ?side2 ?side3 ?side4 A9.out).mono ?_); (case side1 => repeat (first | exact (Kd.C_below HR0_2.out HB.out) | (with_reducible refine Kd.C_alloc ?_ _) | (with_reducible refine Kd.C_drewN ?_ _) | (with_reducible refine Kd.C_drew ?_))); (case side2 => exact HC0_2.out); (case side3 => repeat (first | exact (Kd.C_below HR0_3.out HB.out) | (with_reducible refine Kd.C_alloc ?_ _) | (with_reducible refine Kd.C_drewN ?_ _) | (with_reducible refine Kd.C_drew ?_))); (case side4 => exact HC0_3.out); rintro e w40 ⟨v291, v294, rfl, ho0, ho1, hb⟩; refine ⟨_, rfl, ?_⟩; have n0_ := Aside0.mk (Kd.S_elder' (by (with_reducible repeat (first | apply Kd.S_alloc | apply Kd.S_drewN | apply Kd.S_drew)); exact HO283.out) (Kd.S_base ho0) hb); have n1_ := Aside0.mk (Kd.R_elder' (by (with_reducible repeat (first | apply Kd.R_alloc | apply Kd.R_drewN | apply Kd.R_drew)); exact HO286.out) (Kd.R_base ho1) hb); have n2_ := Aside0.mk (Kd.S_lower (Kd.S_new' ho0 (Kd.S_lt (by (with_reducible repeat (first | apply Kd.S_alloc | apply Kd.S_drewN | apply Kd.S_drew)); exact HO283.out))) (Qj (by repeat (first | (with_reducible first | exact HB.out | apply Qe | apply Qc | apply Qd | refine Qf ?_ GE277.out) | exact HB.out)))); have n3_ := Aside0.mk (Kd.R_lower (Kd.R_new' ho1 (Kd.R_lt (by (with_reducible repeat (first | apply Kd.R_alloc | apply Kd.R_drewN | apply Kd.R_drew)); exact HO286.out))) (Qj (by repeat (first | (with_reducible first | exact HB.out | apply Qe | apply Qc | apply Qd | refine Qf ?_ GE277.out) | exact HB.out)))); have n4_ := Aside0.mk (Qo (g := gb277) (o := .cells #[.int .i64 a0_0, .int .i64 a0_1, .slice A0_2 l0_2.length c0_2, .slice A0_3 l0_3.length c0_3] 52 (0, 0)) (by (with_reducible repeat (first | refine Qg ?_ _ | refine Qi ?_ | refine Qh ?_ _)); exact BK277.out) hb); have n5_ := Aside0.mk (Qn (by repeat (first | (with_reducible first | exact HB.out | apply Qe | apply Qc | apply Qd | refine Qf ?_ GE277.out) | exact HB.out)) hb); clear HO283; clear HO286; clear BK277; clear HB; have HO283 := n0_; have HO286 := n1_; have HO292 := n2_; have HO295 := n3_; have BK277 := n4_; have HB := n5_; clear n0_ n1_ n2_ n3_ n4_ n5_; (try clear hb); (try clear hb2); (try clear hk); (try clear hi); (try clear ho0); (try clear ho1)) | ((with_reducible refine Qw (N := 5) rfl ?_); refine Qu ?hg (N := 5) ?hd (cs := #[.int .i64 0, .int .i64 0, .slice none 0 0, .slice none 0 0]) (t := 57) ?hr ?_; (case hd => rfl); (case hg => rfl); (case hr => first | (go_simp; done) | (go_simp; rfl)); intro gb296 hg w41 hbox hb; have n0_ := Aside0.mk (Kd.S_below (by (with_reducible repeat (first | apply Kd.S_alloc | apply Kd.S_drewN | apply Kd.S_drew)); exact HO283.out) hb); have n1_ := Aside0.mk (Kd.R_below (by (with_reducible repeat (first | apply Kd.R_alloc | apply Kd.R_drewN | apply Kd.R_drew)); exact HO286.out) hb); have n2_ := Aside0.mk (Kd.S_below (by (with_reducible repeat (first | apply Kd.S_alloc | apply Kd.S_drewN | apply Kd.S_drew)); exact HO292.out) hb); have n3_ := Aside0.mk (Kd.R_below (by (with_reducible repeat (first | apply Kd.R_alloc | apply Kd.R_drewN | apply Kd.R_drew)); exact HO295.out) hb); have n4_ := Aside0.mk (Qo (g := gb277) (o := .cells #[.int .i64 a0_0, .int .i64 a0_1, .slice A0_2 l0_2.length c0_2, .slice A0_3 l0_3.length c0_3] 52 (0, 0)) (by (with_reducible repeat (first | refine Qg ?_ _ | refine Qi ?_ | refine Qh ?_ _)); exact BK277.out) hb); have n5_ := Aside0.mk (Qn (by repeat (first | (with_reducible first | exact HB.out | apply Qe | apply Qc | apply Qd | refine Qf ?_ GE277.out) | exact HB.out)) hb); have n6_ := Aside0.mk (hbox); have n7_ := Aside0.mk ((by rw [hg]; exact (Qj (by repeat (first | (with_reducible first | exact HB.out | apply Qe | apply Qc | apply Qd | refine Qf ?_ GE277.out) | exact HB.out))) : w.heap.size ≤ gb296)); have n8_ := Aside0.mk ((by rw [hg]; exact (Qj (by repeat (first | (with_reducible first | exact HB.out | apply Qe | apply Qc | apply Qd | refine Qf ?_ GE277.out) | exact HB.out))) : w.heap.size ≤ gb296)); have n9_ := Aside0.mk ((by rw [hg]; exact Nat.ne_of_lt (Qv (g := gb277) (o := .cells #[.int .i64 a0_0, .int .i64 a0_1, .slice A0_2 l0_2.length c0_2, .slice A0_3 l0_3.length c0_3] 52 (0, 0)) (by (with_reducible repeat (first | refine Qg ?_ _ | refine Qi ?_ | refine Qh ?_ _)); exact BK277.out)) : gb277 ≠ gb296)); have n10_ := Aside0.mk ((by rw [hg]; exact Nat.ne_of_gt (Qv (g := gb277) (o := .cells #[.int .i64 a0_0, .int .i64 a0_1, .slice A0_2 l0_2.length c0_2, .slice A0_3 l0_3.length c0_3] 52 (0, 0)) (by (with_reducible repeat (first | refine Qg ?_ _ | refine Qi ?_ | refine Qh ?_ _)); exact BK277.out)) : gb296 ≠ gb277)); clear HO283; clear HO286; clear HO292; clear HO295; clear BK277; clear HB; have HO283 := n0_; have HO286 := n1_; have HO292 := n2_; have HO295 := n3_; have BK277 := n4_; have HB := n5_; have BK296 := n6_; have GW296 := n7_; have GE296 := n8_; have NB277_296 := n9_; have NB296_277 := n10_; clear n0_ n1_ n2_ n3_ n4_ n5_ n6_ n7_ n8_ n9_ n10_; clear hb hbox hg; have hnb42 := NB296_277.out; have hnc42 := NB277_296.out; have hcz43_0 : w41.cell? ⟨gb296, 0, none⟩ = some (.int .i64 0) := (Qa BK296.out 0).trans rfl; have hcz43_1 : w41.cell? ⟨gb296, 1, none⟩ = some (.int .i64 0) := (Qa BK296.out 1).trans rfl; have hcz43_2 : w41.cell? ⟨gb296, 2, none⟩ = some (.slice none 0 0) := (Qa BK296.out 2).trans rfl; have hcz43_3 : w41.cell? ⟨gb296, 3, none⟩ = some (.slice none 0 0) := (Qa BK296.out 3).trans rfl; have hfz43_0 := Qb BK296.out 0; have hfz43_1 := Qb BK296.out 1; have hfz43_2 := Qb BK296.out 2; have hfz43_3 := Qb BK296.out 3; obtain ⟨Ao44, co44, eo44⟩ := Kd.S_slice HO292.out; subst eo44; obtain ⟨Ao45, co45, eo45⟩ := Kd.R_slice HO295.out; subst eo45) | ((with_reducible refine Qq (f := 46) rfl ?_); refine Qy (some 18) rfl rfl Try.func46 (by kernel_rfl) rfl #[.agg #[.int .i64 t288, .int .i64 t289, .slice Ao44 t290.length co44, .slice Ao45 t293.length co45]] rfl (by (try simp only [List.map_toArray, List.map_cons, List.map_nil]); first | done | rfl | (simp only [List.length_drop, List.length_take]; rfl)) ?_; (with_reducible refine (impl_TellerRight.calls k t288 t289 _ _ t290 _ _ t293 t297 _ ?side1 ?side2 ?side3 ?side4 A10.out).mono ?_); (case side1 => refine (Kd.S_reads' (e := 100) (base := w.heap.size) (ok := fun k_ => (True ∧ some k_ ≠ (.slice Ao36 t281.length co36 : Value).ownBlock)) (n := t290.length) (c := co44) ?_).2.2; exact (by (with_reducible repeat (first | apply Kd.S_alloc | apply Kd.S_drewN | apply Kd.S_drew)); exact (Kd.S_mono (Kd.S_far (p := ⟨gb296, 3, none⟩) (Kd.S_far (p := ⟨gb296, 2, none⟩) (Kd.S_far (p := ⟨gb296, 1, none⟩) (Kd.S_far (p := ⟨gb296, 0, none⟩) (Kd.S_types HO292.out BK296.out (by decide)) (fun _ hk => hk.2) (.int .i64 t288)) (fun _ hk => hk.2) (.int .i64 t289)) (fun _ hk => hk.2) (.slice Ao44 t290.length co44)) (fun _ hk => hk.2) (.slice Ao45 t293.length co45)) (fun _ h_ => h_.1)))); (case side2 => exact (Kd.S_reads' HO292.out).2.1); (case side3 => refine (Kd.R_reads' (e := 73) (base := w.heap.size) (ok := fun k_ => (True ∧ some k_ ≠ (.slice Ao37 t284.length co37 : Value).ownBlock)) (n := t293.length) (c := co45) ?_).2.2; exact (by (with_reducible repeat (first | apply Kd.R_alloc | apply Kd.R_drewN | apply Kd.R_drew)); exact (Kd.R_mono (Kd.R_far (p := ⟨gb296, 3, none⟩) (Kd.R_far (p := ⟨gb296, 2, none⟩) (Kd.R_far (p := ⟨gb296, 1, none⟩) (Kd.R_far (p := ⟨gb296, 0, none⟩) (Kd.R_types HO295.out BK296.out (by decide)) (fun _ hk => hk.2) (.int .i64 t288)) (fun _ hk => hk.2) (.int .i64 t289)) (fun _ hk => hk.2) (.slice Ao44 t290.length co44)) (fun _ hk => hk.2) (.slice Ao45 t293.length co45)) (fun _ h_ => h_.1)))); (case side4 => exact (Kd.R_reads' HO295.out).2.1); rintro e w46 ⟨rfl, hb⟩; refine ⟨_, rfl, ?_⟩; have n0_ := Aside0.mk (Kd.S_below (by (with_reducible repeat (first | apply Kd.S_alloc | apply Kd.S_drewN | apply Kd.S_drew)); exact (Kd.S_mono (Kd.S_far (p := ⟨gb296, 3, none⟩) (Kd.S_far (p := ⟨gb296, 2, none⟩) (Kd.S_far (p := ⟨gb296, 1, none⟩) (Kd.S_far (p := ⟨gb296, 0, none⟩) (Kd.S_types HO283.out BK296.out (by decide)) (fun _ hk => hk.2) (.int .i64 t288)) (fun _ hk => hk.2) (.int .i64 t289)) (fun _ hk => hk.2) (.slice Ao44 t290.length co44)) (fun _ hk => hk.2) (.slice Ao45 t293.length co45)) (fun _ h_ => h_.1))) hb); have n1_ := Aside0.mk (Kd.R_below (by (with_reducible repeat (first | apply Kd.R_alloc | apply Kd.R_drewN | apply Kd.R_drew)); exact (Kd.R_mono (Kd.R_far (p := ⟨gb296, 3, none⟩) (Kd.R_far (p := ⟨gb296, 2, none⟩) (Kd.R_far (p := ⟨gb296, 1, none⟩) (Kd.R_far (p := ⟨gb296, 0, none⟩) (Kd.R_types HO286.out BK296.out (by decide)) (fun _ hk => hk.2) (.int .i64 t288)) (fun _ hk => hk.2) (.int .i64 t289)) (fun _ hk => hk.2) (.slice Ao44 t290.length co44)) (fun _ hk => hk.2) (.slice Ao45 t293.length co45)) (fun _ h_ => h_.1))) hb); have n2_ := Aside0.mk (Kd.S_below (by (with_reducible repeat (first | apply Kd.S_alloc | apply Kd.S_drewN | apply Kd.S_drew)); exact (Kd.S_mono (Kd.S_far (p := ⟨gb296, 3, none⟩) (Kd.S_far (p := ⟨gb296, 2, none⟩) (Kd.S_far (p := ⟨gb296, 1, none⟩) (Kd.S_far (p := ⟨gb296, 0, none⟩) (Kd.S_types HO292.out BK296.out (by decide)) (fun _ hk => hk.2) (.int .i64 t288)) (fun _ hk => hk.2) (.int .i64 t289)) (fun _ hk => hk.2) (.slice Ao44 t290.length co44)) (fun _ hk => hk.2) (.slice Ao45 t293.length co45)) (fun _ h_ => h_.1))) hb); have n3_ := Aside0.mk (Kd.R_below (by (with_reducible repeat (first | apply Kd.R_alloc | apply Kd.R_drewN | apply Kd.R_drew)); exact (Kd.R_mono (Kd.R_far (p := ⟨gb296, 3, none⟩) (Kd.R_far (p := ⟨gb296, 2, none⟩) (Kd.R_far (p := ⟨gb296, 1, none⟩) (Kd.R_far (p := ⟨gb296, 0, none⟩) (Kd.R_types HO295.out BK296.out (by decide)) (fun _ hk => hk.2) (.int .i64 t288)) (fun _ hk => hk.2) (.int .i64 t289)) (fun _ hk => hk.2) (.slice Ao44 t290.length co44)) (fun _ hk => hk.2) (.slice Ao45 t293.length co45)) (fun _ h_ => h_.1))) hb); have n4_ := Aside0.mk (Qo (g := gb277) (o := .cells #[.int .i64 a0_0, .int .i64 a0_1, .slice A0_2 l0_2.length c0_2, .slice A0_3 l0_3.length c0_3] 52 (0, 0)) (by (with_reducible repeat (first | refine Qg ?_ _ | refine Qi ?_ | refine Qh ?_ _)); refine Q4 ?_ NB277_296.out _; (with_reducible repeat (first | refine Qg ?_ _ | refine Qi ?_ | refine Qh ?_ _)); refine Q4 ?_ NB277_296.out _; (with_reducible repeat (first | refine Qg ?_ _ | refine Qi ?_ | refine Qh ?_ _)); refine Q4 ?_ NB277_296.out _; (with_reducible repeat (first | refine Qg ?_ _ | refine Qi ?_ | refine Qh ?_ _)); refine Q4 ?_ NB277_296.out _; (with_reducible repeat (first | refine Qg ?_ _ | refine Qi ?_ | refine Qh ?_ _)); exact BK277.out) hb); have n5_ := Aside0.mk (Qo (g := gb296) (o := .cells #[.int .i64 t288, .int .i64 t289, .slice Ao44 t290.length co44, .slice Ao45 t293.length co45] 57 (0, 0)) (by (with_reducible repeat (first | refine Qg ?_ _ | refine Qi ?_ | refine Qh ?_ _)); refine Q3 (cs := #[.int .i64 t288, .int .i64 t289, .slice Ao44 t290.length co44, .slice none 0 0]) ?_ 3 _ rfl; (with_reducible repeat (first | refine Qg ?_ _ | refine Qi ?_ | refine Qh ?_ _)); refine Q3 (cs := #[.int .i64 t288, .int .i64 t289, .slice none 0 0, .slice none 0 0]) ?_ 2 _ rfl; (with_reducible repeat (first | refine Qg ?_ _ | refine Qi ?_ | refine Qh ?_ _)); refine Q3 (cs := #[.int .i64 t288, .int .i64 0, .slice none 0 0, .slice none 0 0]) ?_ 1 _ rfl; (with_reducible repeat (first | refine Qg ?_ _ | refine Qi ?_ | refine Qh ?_ _)); refine Q3 (cs := #[.int .i64 0, .int .i64 0, .slice none 0 0, .slice none 0 0]) ?_ 0 _ rfl; (with_reducible repeat (first | refine Qg ?_ _ | refine Qi ?_ | refine Qh ?_ _)); exact BK296.out) hb); have n6_ := Aside0.mk (Qn (by repeat (first | (with_reducible first | exact HB.out | apply Qe | apply Qc | apply Qd | refine Qf ?_ GE277.out | refine Qf ?_ GE296.out) | exact HB.out)) hb); clear HO283; clear HO286; clear HO292; clear HO295; clear BK277; clear BK296; clear HB; have HO283 := n0_; have HO286 := n1_; have HO292 := n2_; have HO295 := n3_; have BK277 := n4_; have BK296 := n5_; have HB := n6_; clear n0_ n1_ n2_ n3_ n4_ n5_ n6_; (try clear hb); (try clear hb2); (try clear hk); (try clear hi)))
    have n0_ := Aside0.mk (Kd.S_drew HO283.out)
    have n1_ := Aside0.mk (Kd.R_drew HO286.out)
    have n2_ := Aside0.mk (Kd.S_drew HO292.out)
    have n3_ := Aside0.mk (Kd.R_drew HO295.out)
    have n4_ := Aside0.mk (Qi BK277.out)
    have n5_ := Aside0.mk (Qi BK296.out)
    have n6_ := Aside0.mk (Qd HB.out)
    clear HO283
    clear HO286
    clear HO292
    clear HO295
    clear BK277
    clear BK296
    clear HB
    have HO283 := n0_
    have HO286 := n1_
    have HO292 := n2_
    have HO295 := n3_
    have BK277 := n4_
    have BK296 := n5_
    have HB := n6_
    clear n0_ n1_ n2_ n3_ n4_ n5_ n6_
    refine start_ (n := 5) (S := fun w' => w'.cell? ⟨gb296, 0, none⟩ = some (.int .i64 t288) ∧ w'.cell? ⟨gb296, 1, none⟩ = some (.int .i64 t289) ∧ w'.cell? ⟨gb296, 2, none⟩ = some (.slice Ao44 t290.length co44) ∧ w'.cell? ⟨gb296, 3, none⟩ = some (.slice Ao45 t293.length co45) ∧ w'.cell? ⟨gb277, 0, none⟩ = some (.int .i64 a0_0) ∧ w'.cell? ⟨gb277, 1, none⟩ = some (.int .i64 a0_1) ∧ w'.cell? ⟨gb277, 2, none⟩ = some (.slice A0_2 l0_2.length c0_2) ∧ w'.cell? ⟨gb277, 3, none⟩ = some (.slice A0_3 l0_3.length c0_3)) (ds := []) #[false, false, false, false, false] (by kernel_rfl) rfl rfl ⟨(Qa BK296.out 0).trans rfl, (Qa BK296.out 1).trans rfl, (Qa BK296.out 2).trans rfl, (Qa BK296.out 3).trans rfl, (Qa BK277.out 0).trans rfl, (Qa BK277.out 1).trans rfl, (Qa BK277.out 2).trans rfl, (Qa BK277.out 3).trans rfl⟩ (fun hHeld => ?_)
    generalize w46.drew = w47 at HO283 HO286 HO292 HO295 BK277 BK296 HB hHeld ⊢
    refine take_ (i := 0) (N := some 22) (v := ?_) (a' := ?_) #[true, false, false, false, false] rfl rfl (by kernel_rfl) (fun _ _ _ h => h) (Or.inl ⟨by rfl, ?_⟩) hHeld ?_ ?_
    rotate_left
    ·rintro w' ⟨s0, s1, s2, s3, s4, s5, s6, s7⟩
     go_simp
     with_reducible rfl
    rotate_left
    ·simp only [Act.put, List.setIfInBounds_toArray, List.set_cons_zero, List.set_cons_succ, Qr, Qs]
     rfl
    refine take_ (i := 1) (N := some 23) (v := ?_) (a' := ?_) #[true, true, false, false, false] rfl rfl (by kernel_rfl) (fun _ _ _ h => h) (Or.inl ⟨by rfl, ?_⟩) hHeld ?_ ?_
    rotate_left
    ·rintro w' ⟨s0, s1, s2, s3, s4, s5, s6, s7⟩
     go_simp
     with_reducible rfl
    rotate_left
    ·simp only [Act.put, List.setIfInBounds_toArray, List.set_cons_zero, List.set_cons_succ, Qr, Qs]
     rfl
    refine one_ (i := 2) (N := some 24) #[true, true, true, false, false] rfl rfl (by kernel_rfl) (by decide) (fun K hK => ?_)
    refine goes_ Try.func41 (by kernel_rfl) rfl #[.agg #[.int .i64 a0_0, .int .i64 a0_1, .slice A0_2 l0_2.length c0_2, .slice A0_3 l0_3.length c0_3]] (by rfl) rfl rfl (by (try simp only [List.map_toArray, List.map_cons, List.map_nil]); first | done | rfl | (simp only [List.length_drop, List.length_take]; rfl)) ?_
    with_reducible refine (laws_toTeller.calls k a0_0 a0_1 _ _ l0_2 _ _ l0_3 t298 t299 t300 t303 _ ?side1 ?side2 ?side3 ?side4 A28.out).mono ?_
    (case side1 => repeat (first | exact (Kd.C_below HR0_2.out HB.out) | (with_reducible refine Kd.C_alloc ?_ _) | (with_reducible refine Kd.C_drewN ?_ _) | (with_reducible refine Kd.C_drew ?_)))
    (case side2 => exact HC0_2.out)
    (case side3 => repeat (first | exact (Kd.C_below HR0_3.out HB.out) | (with_reducible refine Kd.C_alloc ?_ _) | (with_reducible refine Kd.C_drewN ?_ _) | (with_reducible refine Kd.C_drew ?_)))
    (case side4 => exact HC0_3.out)
    rintro e w48 ⟨v301, v304, rfl, ho0, ho1, hb⟩
    refine ⟨_, rfl, ?_⟩
    have n0_ := Aside0.mk (Kd.S_elder' (by (with_reducible repeat (first | apply Kd.S_alloc | apply Kd.S_drewN | apply Kd.S_drew)); exact HO283.out) (Kd.S_base ho0) hb)
    have n1_ := Aside0.mk (Kd.R_elder' (by (with_reducible repeat (first | apply Kd.R_alloc | apply Kd.R_drewN | apply Kd.R_drew)); exact HO286.out) (Kd.R_base ho1) hb)
    have n2_ := Aside0.mk (Kd.S_elder' (by (with_reducible repeat (first | apply Kd.S_alloc | apply Kd.S_drewN | apply Kd.S_drew)); exact HO292.out) (Kd.S_base ho0) hb)
    have n3_ := Aside0.mk (Kd.R_elder' (by (with_reducible repeat (first | apply Kd.R_alloc | apply Kd.R_drewN | apply Kd.R_drew)); exact HO295.out) (Kd.R_base ho1) hb)
    have n4_ := Aside0.mk (Kd.S_lower (Kd.S_new' (Kd.S_new' ho0 (Kd.S_lt (by (with_reducible repeat (first | apply Kd.S_alloc | apply Kd.S_drewN | apply Kd.S_drew)); exact HO283.out))) (Kd.S_lt (by (with_reducible repeat (first | apply Kd.S_alloc | apply Kd.S_drewN | apply Kd.S_drew)); exact HO292.out))) (Qj (by repeat (first | (with_reducible first | exact HB.out | apply Qe | apply Qc | apply Qd | refine Qf ?_ GE277.out | refine Qf ?_ GE296.out) | exact HB.out))))
    have n5_ := Aside0.mk (Kd.R_lower (Kd.R_new' (Kd.R_new' ho1 (Kd.R_lt (by (with_reducible repeat (first | apply Kd.R_alloc | apply Kd.R_drewN | apply Kd.R_drew)); exact HO286.out))) (Kd.R_lt (by (with_reducible repeat (first | apply Kd.R_alloc | apply Kd.R_drewN | apply Kd.R_drew)); exact HO295.out))) (Qj (by repeat (first | (with_reducible first | exact HB.out | apply Qe | apply Qc | apply Qd | refine Qf ?_ GE277.out | refine Qf ?_ GE296.out) | exact HB.out))))
    have n6_ := Aside0.mk (Qo (g := gb277) (o := .cells #[.int .i64 a0_0, .int .i64 a0_1, .slice A0_2 l0_2.length c0_2, .slice A0_3 l0_3.length c0_3] 52 (0, 0)) (by (with_reducible repeat (first | refine Qg ?_ _ | refine Qi ?_ | refine Qh ?_ _)); exact BK277.out) hb)
    have n7_ := Aside0.mk (Qo (g := gb296) (o := .cells #[.int .i64 t288, .int .i64 t289, .slice Ao44 t290.length co44, .slice Ao45 t293.length co45] 57 (0, 0)) (by (with_reducible repeat (first | refine Qg ?_ _ | refine Qi ?_ | refine Qh ?_ _)); exact BK296.out) hb)
    have n8_ := Aside0.mk (Qn (by repeat (first | (with_reducible first | exact HB.out | apply Qe | apply Qc | apply Qd | refine Qf ?_ GE277.out | refine Qf ?_ GE296.out) | exact HB.out)) hb)
    clear HO283
    clear HO286
    clear HO292
    clear HO295
    clear BK277
    clear BK296
    clear HB
    have HO283 := n0_
    have HO286 := n1_
    have HO292 := n2_
    have HO295 := n3_
    have HO302 := n4_
    have HO305 := n5_
    have BK277 := n6_
    have BK296 := n7_
    have HB := n8_
    clear n0_ n1_ n2_ n3_ n4_ n5_ n6_ n7_ n8_
    (try clear hb)
    (try clear hb2)
    (try clear hk)
    (try clear hi)
    (try clear ho0)
    (try clear ho1)
    obtain ⟨Ao49, co49, eo49⟩ := Kd.S_slice HO302.out
    (first | subst eo49 | (injection eo49 with f1_ f2_ f3_; have f4_ := f1_.symm; have f5_ := f3_.symm; clear f1_ f2_ f3_; subst f4_; subst f5_))
    obtain ⟨Ao50, co50, eo50⟩ := Kd.R_slice HO305.out
    (first | subst eo50 | (injection eo50 with f1_ f2_ f3_; have f4_ := f1_.symm; have f5_ := f3_.symm; clear f1_ f2_ f3_; subst f4_; subst f5_))
    refine hK.out _ _ ⟨(Qa BK296.out 0).trans rfl, (Qa BK296.out 1).trans rfl, (Qa BK296.out 2).trans rfl, (Qa BK296.out 3).trans rfl, (Qa BK277.out 0).trans rfl, (Qa BK277.out 1).trans rfl, (Qa BK277.out 2).trans rfl, (Qa BK277.out 3).trans rfl⟩ (fun hHeld => ?_)
    clear hK K
    refine norm_ (a' := ?_) ?_ ?_
    rotate_left
    ·show Act.put _ (some 24) _ = _
     simp only [Act.put, List.setIfInBounds_toArray, List.set_cons_zero, List.set_cons_succ, Qr, Qs]
     rfl
    refine one_ (i := 3) (N := some 25) #[true, true, true, true, false] rfl rfl (by kernel_rfl) (by decide) (fun K hK => ?_)
    refine goes_ Try.func43 (by kernel_rfl) rfl #[.agg #[.int .i64 t288, .int .i64 t289, .slice Ao44 t290.length co44, .slice Ao45 t293.length co45], .agg #[.int .i64 t298, .int .i64 t299, .slice Ao49 t300.length co49, .slice Ao50 t303.length co50]] (by rfl) rfl rfl (by (try simp only [List.map_toArray, List.map_cons, List.map_nil]); first | done | rfl | (simp only [List.length_drop, List.length_take]; rfl)) ?_
    with_reducible refine (laws_eqTeller.calls k t288 t289 _ _ t290 _ _ t293 t298 t299 _ _ t300 _ _ t303 true _ ?side1 ?side2 ?side3 ?side4 ?side5 ?side6 ?side7 ?side8 A29.out).mono ?_
    (case side1 => repeat (first | exact (Kd.S_reads' HO292.out).2.2 | (with_reducible refine Kd.C_alloc ?_ _) | (with_reducible refine Kd.C_drewN ?_ _) | (with_reducible refine Kd.C_drew ?_)))
    (case side2 => exact (Kd.S_reads' HO292.out).2.1)
    (case side3 => repeat (first | exact (Kd.R_reads' HO295.out).2.2 | (with_reducible refine Kd.C_alloc ?_ _) | (with_reducible refine Kd.C_drewN ?_ _) | (with_reducible refine Kd.C_drew ?_)))
    (case side4 => exact (Kd.R_reads' HO295.out).2.1)
    (case side5 => repeat (first | exact (Kd.S_reads' HO302.out).2.2 | (with_reducible refine Kd.C_alloc ?_ _) | (with_reducible refine Kd.C_drewN ?_ _) | (with_reducible refine Kd.C_drew ?_)))
    (case side6 => exact (Kd.S_reads' HO302.out).2.1)
    (case side7 => repeat (first | exact (Kd.R_reads' HO305.out).2.2 | (with_reducible refine Kd.C_alloc ?_ _) | (with_reducible refine Kd.C_drewN ?_ _) | (with_reducible refine Kd.C_drew ?_)))
    (case side8 => exact (Kd.R_reads' HO305.out).2.1)
    rintro e w51 ⟨rfl, hb⟩
    refine ⟨_, rfl, ?_⟩
    have n0_ := Aside0.mk (Kd.S_below (by (with_reducible repeat (first | apply Kd.S_alloc | apply Kd.S_drewN | apply Kd.S_drew)); exact HO283.out) hb)
    have n1_ := Aside0.mk (Kd.R_below (by (with_reducible repeat (first | apply Kd.R_alloc | apply Kd.R_drewN | apply Kd.R_drew)); exact HO286.out) hb)
    have n2_ := Aside0.mk (Kd.S_below (by (with_reducible repeat (first | apply Kd.S_alloc | apply Kd.S_drewN | apply Kd.S_drew)); exact HO292.out) hb)
    have n3_ := Aside0.mk (Kd.R_below (by (with_reducible repeat (first | apply Kd.R_alloc | apply Kd.R_drewN | apply Kd.R_drew)); exact HO295.out) hb)
    have n4_ := Aside0.mk (Kd.S_below (by (with_reducible repeat (first | apply Kd.S_alloc | apply Kd.S_drewN | apply Kd.S_drew)); exact HO302.out) hb)
    have n5_ := Aside0.mk (Kd.R_below (by (with_reducible repeat (first | apply Kd.R_alloc | apply Kd.R_drewN | apply Kd.R_drew)); exact HO305.out) hb)
    have n6_ := Aside0.mk (Qo (g := gb277) (o := .cells #[.int .i64 a0_0, .int .i64 a0_1, .slice A0_2 l0_2.length c0_2, .slice A0_3 l0_3.length c0_3] 52 (0, 0)) (by (with_reducible repeat (first | refine Qg ?_ _ | refine Qi ?_ | refine Qh ?_ _)); exact BK277.out) hb)
    have n7_ := Aside0.mk (Qo (g := gb296) (o := .cells #[.int .i64 t288, .int .i64 t289, .slice Ao44 t290.length co44, .slice Ao45 t293.length co45] 57 (0, 0)) (by (with_reducible repeat (first | refine Qg ?_ _ | refine Qi ?_ | refine Qh ?_ _)); exact BK296.out) hb)
    have n8_ := Aside0.mk (Qn (by repeat (first | (with_reducible first | exact HB.out | apply Qe | apply Qc | apply Qd | refine Qf ?_ GE277.out | refine Qf ?_ GE296.out) | exact HB.out)) hb)
    clear HO283
    clear HO286
    clear HO292
    clear HO295
    clear HO302
    clear HO305
    clear BK277
    clear BK296
    clear HB
    have HO283 := n0_
    have HO286 := n1_
    have HO292 := n2_
    have HO295 := n3_
    have HO302 := n4_
    have HO305 := n5_
    have BK277 := n6_
    have BK296 := n7_
    have HB := n8_
    clear n0_ n1_ n2_ n3_ n4_ n5_ n6_ n7_ n8_
    (try clear hb)
    (try clear hb2)
    (try clear hk)
    (try clear hi)
    refine hK.out _ _ ⟨(Qa BK296.out 0).trans rfl, (Qa BK296.out 1).trans rfl, (Qa BK296.out 2).trans rfl, (Qa BK296.out 3).trans rfl, (Qa BK277.out 0).trans rfl, (Qa BK277.out 1).trans rfl, (Qa BK277.out 2).trans rfl, (Qa BK277.out 3).trans rfl⟩ (fun hHeld => ?_)
    clear hK K
    refine norm_ (a' := ?_) ?_ ?_
    rotate_left
    ·show Act.put _ (some 25) _ = _
     simp only [Act.put, List.setIfInBounds_toArray, List.set_cons_zero, List.set_cons_succ, Qr, Qs]
     rfl
    refine Qx (i := 4) (N := some 26) (v := ?_) (a' := ?_) #[true, true, true, true, true] rfl rfl (by kernel_rfl) (fun _ _ _ h => h) (Or.inl ⟨by rfl, ?_⟩) ?_ ?_
    rotate_left
    ·intro w'
     go_simp
     with_reducible rfl
    rotate_left
    ·simp only [Act.put, List.setIfInBounds_toArray, List.set_cons_zero, List.set_cons_succ, Qr, Qs]
     rfl
    refine done_ (by kernel_rfl) ?_
    try go_wp2
    go_ret
    exact ⟨by first | rfl | (simp [Qm, Ql] <;> rfl) | (simp [*, Qm, Ql] <;> rfl), by repeat (first | (with_reducible first | exact HB.out | apply Qe | apply Qc | apply Qd | refine Qf ?_ GE277.out | refine Qf ?_ GE296.out) | exact HB.out)⟩
   ·replace c30 := Bool.eq_false_iff.mpr c30
    subst c30
    have H1 : (some false) = some true := by rw [if_neg (show ¬ (false = true) by decide)] at H; exact H
    clear H
    have H := H1
    clear H1
    exact absurd (Option.some.inj H) (by decide)
end Go.Proofs.Ytmgmaflfednngaa.PFnExactTellerRight
