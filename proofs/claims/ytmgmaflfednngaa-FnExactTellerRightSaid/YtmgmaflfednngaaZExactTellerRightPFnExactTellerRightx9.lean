-- A copy, made by trim.py (its own words shortened): not an official print.
import Derived.Test.YtmgmaflfednngaaZExactTellerRightPFnExactTellerRightx0
import Derived.Test.YtmgmaflfednngaaZExactTellerRightPFnExactTellerRightx4
import Derived.Test.YtmgmaflfednngaaZExactTellerRightPFnExactTellerRightx7
import Derived.Test.YtmgmaflfednngaaZExactTellerRightPFnExactTellerRightx8
namespace Go.Proofs.Ytmgmaflfednngaa.PFnExactTellerRight
open Go.RowKit Go.Proofs.YtmgmaflfednngaaW.PrintWords Go.Proofs.YtmgmaflfednngaaW.PrintLast Go.Proofs.YtmgmaflfednngaaW.PrintMore
attribute [local go_sem] max2_int min2_int max_two min_two max_three min_three max_four min_four   -- for this text's walks alone
set_option linter.unusedVariables false
set_option linter.unusedSimpArgs false
mutual
def spec_TellerRight.j0 : Nat → Bool → Int → Int → List (S100) → List (S73) → Option (Bool)
 | 0, _, _, _, _, _ => none
 | k + 1, x32, x220000, x220001, x220002, x220003 => if x32 = true then (some false) else (spec_TellerRight.l0 k 0 x220000 x220001 x220002 x220003)
def spec_TellerRight.l0 : Nat → Int → Int → Int → List (S100) → List (S73) → Option (Bool)
 | 0, _, _, _, _, _ => none
 | k + 1, x3, x220000, x220001, x220002, x220003 => if x3 < (x220002.length : Int) then (if 0 ≤ x3 then ((spec_PipeRight.f k ((Qp x220002 x3).f0) ((Qp x220002 x3).f1) ((Qp x220002 x3).f2) ((Qp x220002 x3).f3) ((Qp x220002 x3).f4)).bind fun t224 => (if t224 = true then (if ((Qp x220002 x3).f0) > x220001 then (some false) else (spec_TellerRight.l0 k (wrap64 (x3 + 1)) x220000 x220001 x220002 x220003)) else (some false))) else (none)) else (spec_TellerRight.l1 k 0 x220000 x220001 x220002 x220003)
def spec_TellerRight.l1 : Nat → Int → Int → Int → List (S100) → List (S73) → Option (Bool)
 | 0, _, _, _, _, _ => none
 | k + 1, x4, x220000, x220001, x220002, x220003 => if x4 < (x220003.length : Int) then (if 0 ≤ x4 then (if ((Qk x220003 x4).f0) > (x220002.length : Int) then (some false) else (if ((Qk x220003 x4).f2.f4) = ((Qk x220003 x4).f0) then (spec_TellerRight.l1 k (wrap64 (x4 + 1)) x220000 x220001 x220002 x220003) else (some false))) else (none)) else (some true)
end
def spec_TellerRight.f (k : Nat) (a0_0 : Int) (a0_1 : Int) (l0_2 : List (S100)) (l0_3 : List (S73)) : Option (Bool) := (spec_l02Is.f a0_0 1 2).bind fun t220 => (if t220 = true then ((spec_l02Is.f a0_1 1 1000000).bind fun t221 => (if t221 = true then (if (l0_2.length : Int) < 1 then (spec_TellerRight.j0 k true a0_0 a0_1 l0_2 l0_3) else (if (l0_2.length : Int) > 4 then (spec_TellerRight.j0 k true a0_0 a0_1 l0_2 l0_3) else ((spec_RibRight.f k l0_3).bind fun t222 => (spec_TellerRight.j0 k (!t222) a0_0 a0_1 l0_2 l0_3)))) else (spec_TellerRight.j0 k true a0_0 a0_1 l0_2 l0_3))) else (spec_TellerRight.j0 k true a0_0 a0_1 l0_2 l0_3))
theorem spec_TellerRight.mono_l : ∀ k, (∀ y0 y1 y2 y3 y4, LeO (spec_TellerRight.j0 k y0 y1 y2 y3 y4) (spec_TellerRight.j0 (k + 1) y0 y1 y2 y3 y4)) ∧ (∀ y0 y1 y2 y3 y4, LeO (spec_TellerRight.l0 k y0 y1 y2 y3 y4) (spec_TellerRight.l0 (k + 1) y0 y1 y2 y3 y4)) ∧ (∀ y0 y1 y2 y3 y4, LeO (spec_TellerRight.l1 k y0 y1 y2 y3 y4) (spec_TellerRight.l1 (k + 1) y0 y1 y2 y3 y4))
 | 0 => ⟨fun _ _ _ _ _ r h => by simp [spec_TellerRight.j0] at h, fun _ _ _ _ _ r h => by simp [spec_TellerRight.l0] at h, fun _ _ _ _ _ r h => by simp [spec_TellerRight.l1] at h⟩
 | k + 1 => by
  obtain ⟨ih0, ih1, ih2⟩ := spec_TellerRight.mono_l k
  refine ⟨?_, ?_, ?_⟩
  ·intro y0 y1 y2 y3 y4
   unfold spec_TellerRight.j0
   repeat' first
   | (with_reducible exact ih0 _ _ _ _ _)
   | (with_reducible exact ih1 _ _ _ _ _)
   | (with_reducible exact ih2 _ _ _ _ _)
   | (with_reducible exact spec_PipeRight.mono _ _ _ _ _ _)
   | (with_reducible exact spec_RibRight.mono _ _)
   | (with_reducible exact LeO.refl _)
   | (with_reducible exact LeO.none _)
   | (with_reducible refine LeO.ite ?_ ?_)
   | (with_reducible refine LeO.bind ?_ (fun _ => ?_))
   | exact ih0 _ _ _ _ _
   | exact ih1 _ _ _ _ _
   | exact ih2 _ _ _ _ _
   | exact spec_PipeRight.mono _ _ _ _ _ _
   | exact spec_RibRight.mono _ _
   | exact LeO.none _
   | refine LeO.ite ?_ ?_
   | refine LeO.bind ?_ (fun _ => ?_)
  ·intro y0 y1 y2 y3 y4
   unfold spec_TellerRight.l0
   repeat' first
   | (with_reducible exact ih0 _ _ _ _ _)
   | (with_reducible exact ih1 _ _ _ _ _)
   | (with_reducible exact ih2 _ _ _ _ _)
   | (with_reducible exact spec_PipeRight.mono _ _ _ _ _ _)
   | (with_reducible exact spec_RibRight.mono _ _)
   | (with_reducible exact LeO.refl _)
   | (with_reducible exact LeO.none _)
   | (with_reducible refine LeO.ite ?_ ?_)
   | (with_reducible refine LeO.bind ?_ (fun _ => ?_))
   | exact ih0 _ _ _ _ _
   | exact ih1 _ _ _ _ _
   | exact ih2 _ _ _ _ _
   | exact spec_PipeRight.mono _ _ _ _ _ _
   | exact spec_RibRight.mono _ _
   | exact LeO.none _
   | refine LeO.ite ?_ ?_
   | refine LeO.bind ?_ (fun _ => ?_)
  ·intro y0 y1 y2 y3 y4
   unfold spec_TellerRight.l1
   repeat' first
   | (with_reducible exact ih0 _ _ _ _ _)
   | (with_reducible exact ih1 _ _ _ _ _)
   | (with_reducible exact ih2 _ _ _ _ _)
   | (with_reducible exact spec_PipeRight.mono _ _ _ _ _ _)
   | (with_reducible exact spec_RibRight.mono _ _)
   | (with_reducible exact LeO.refl _)
   | (with_reducible exact LeO.none _)
   | (with_reducible refine LeO.ite ?_ ?_)
   | (with_reducible refine LeO.bind ?_ (fun _ => ?_))
   | exact ih0 _ _ _ _ _
   | exact ih1 _ _ _ _ _
   | exact ih2 _ _ _ _ _
   | exact spec_PipeRight.mono _ _ _ _ _ _
   | exact spec_RibRight.mono _ _
   | exact LeO.none _
   | refine LeO.ite ?_ ?_
   | refine LeO.bind ?_ (fun _ => ?_)
theorem spec_TellerRight.mono : ∀ a0 a1 a2 a3 k, LeO (spec_TellerRight.f k a0 a1 a2 a3) (spec_TellerRight.f (k + 1) a0 a1 a2 a3) := by
 intro a0 a1 a2 a3 k
 obtain ⟨ih0, ih1, ih2⟩ := spec_TellerRight.mono_l k
 unfold spec_TellerRight.f
 repeat' first
   | (with_reducible exact ih0 _ _ _ _ _)
   | (with_reducible exact ih1 _ _ _ _ _)
   | (with_reducible exact ih2 _ _ _ _ _)
   | (with_reducible exact spec_PipeRight.mono _ _ _ _ _ _)
   | (with_reducible exact spec_RibRight.mono _ _)
   | (with_reducible exact LeO.refl _)
   | (with_reducible exact LeO.none _)
   | (with_reducible refine LeO.ite ?_ ?_)
   | (with_reducible refine LeO.bind ?_ (fun _ => ?_))
   | exact ih0 _ _ _ _ _
   | exact ih1 _ _ _ _ _
   | exact ih2 _ _ _ _ _
   | exact spec_PipeRight.mono _ _ _ _ _ _
   | exact spec_RibRight.mono _ _
   | exact LeO.none _
   | refine LeO.ite ?_ ?_
   | refine LeO.bind ?_ (fun _ => ?_)
def spec_TellerRight.T6 : Bool × List (List Nat × List Nat) := (true, [([], []), ([0], [0]), ([], []), ([1, 2], [1, 2]), ([3], [3]), ([4], [4]), ([5], [5]), ([6, 5], [6]), ([7], [7]), ([8, 7], [7, 8]), ([7], [7]), ([9, 10, 7], [7, 9, 10]), ([11, 7], [7, 11]), ([12, 7], [7, 12]), ([7], [7]), ([14, 7], [7, 14]), ([13, 15, 7], [7, 13, 15]), ([7, 16], [7, 16])])
def spec_TellerRight.B6 : List Nat := [0, 1, 0, 7, 15, 31, 63, 127, 255, 511, 255, 2047, 4095, 8191, 255, 16639, 65535, 131071]
theorem spec_TellerRight.tab6 : rtab .any (opsOf Try.f45 6) = spec_TellerRight.T6 := by kernel_rfl
theorem spec_TellerRight.bits6 : waitsOk spec_TellerRight.T6.2 spec_TellerRight.B6 = true := by kernel_rfl
def spec_TellerRight.T11 : Bool × List (List Nat × List Nat) := (true, [([], []), ([0], [0]), ([], []), ([1, 2], [1, 2]), ([3], [3]), ([4], [4]), ([], []), ([6], [6]), ([7], [7]), ([5, 8], [5, 8]), ([9], [9]), ([10], [10]), ([11, 10], [10, 11]), ([10], [10]), ([12, 13, 10], [10, 12, 13]), ([14, 10], [10, 14]), ([15, 10], [10, 15]), ([16, 10], [10, 16]), ([10], [10]), ([18, 10], [10, 18]), ([10], [10]), ([19, 20, 10], [10, 19, 20]), ([21, 10], [10, 21]), ([22, 10], [10, 22]), ([17, 23, 10], [10, 17, 23]), ([10, 24], [10, 24])])
def spec_TellerRight.B11 : List Nat := [0, 1, 0, 7, 15, 31, 0, 64, 192, 511, 1023, 2047, 4095, 2047, 16383, 32767, 65535, 131071, 2047, 264191, 2047, 1837055, 3934207, 8128511, 16777215, 33554431]
theorem spec_TellerRight.tab11 : rtab .any (opsOf Try.f45 11) = spec_TellerRight.T11 := by kernel_rfl
theorem spec_TellerRight.bits11 : waitsOk spec_TellerRight.T11.2 spec_TellerRight.B11 = true := by kernel_rfl
set_option maxHeartbeats 8000000 in
set_option maxRecDepth 100000 in
theorem spec_TellerRight.calls (k : Nat) (a0_0 : Int) (a0_1 : Int) (A0_2 : Option Addr) (c0_2 : Nat) (l0_2 : List (S100)) (A0_3 : Option Addr) (c0_3 : Nat) (l0_3 : List (S73)) (r : Bool) (w : World) (hr0_2 : Kd.C k100 w A0_2 l0_2.length l0_2) (hc0_2 : l0_2.length ≤ c0_2) (hr0_3 : Kd.C k73 w A0_3 l0_3.length l0_3) (hc0_3 : l0_3.length ≤ c0_3) (h : spec_TellerRight.f k a0_0 a0_1 l0_2 l0_3 = some r) :
  Calls Try.prog 45 #[.agg #[.int .i64 a0_0, .int .i64 a0_1, .slice A0_2 l0_2.length c0_2, .slice A0_3 l0_3.length c0_3]] w fun e w' => e = .returned (.bool r) ∧ Below w.heap.size w w' := by
 have hu57 := Try.underlying57
 have hu100 := Try.underlying100
 have HR0_2 := Aside0.mk hr0_2
 have HC0_2 := Aside0.mk hc0_2
 clear hr0_2 hc0_2
 have HR0_3 := Aside0.mk hr0_3
 have HC0_3 := Aside0.mk hc0_3
 clear hr0_3 hc0_3
 have HB := Aside0.mk (Below.refl w.heap.size w)
 have H : ((spec_l02Is.f a0_0 1 2).bind fun t220 => (if t220 = true then ((spec_l02Is.f a0_1 1 1000000).bind fun t221 => (if t221 = true then (if (l0_2.length : Int) < 1 then (spec_TellerRight.j0 k true a0_0 a0_1 l0_2 l0_3) else (if (l0_2.length : Int) > 4 then (spec_TellerRight.j0 k true a0_0 a0_1 l0_2 l0_3) else ((spec_RibRight.f k l0_3).bind fun t222 => (spec_TellerRight.j0 k (!t222) a0_0 a0_1 l0_2 l0_3)))) else (spec_TellerRight.j0 k true a0_0 a0_1 l0_2 l0_3))) else (spec_TellerRight.j0 k true a0_0 a0_1 l0_2 l0_3))) = some r := h
 clear h
 have HC2 := Aside0.mk H
 clear H
 go_enter Try.func45, Try.ntmps45
 go_upto_region 1 with (first | ((with_reducible refine Qw (N := 1) rfl ?_); (try (refine gate_guard (by rfl) ?_; dsimp only)); refine Qu ?hg (N := 1) ?hd (cs := #[.int .i64 a0_0, .int .i64 a0_1, .slice A0_2 l0_2.length c0_2, .slice A0_3 l0_3.length c0_3]) (t := 57) ?hr ?_; (case hd => rfl); (case hg => rfl); (case hr => first | (go_simp; done) | (go_simp; rfl)); intro gb219 hg w3 hbox hb; have n0_ := Aside0.mk (Qn (by repeat (first | (with_reducible first | exact HB.out | apply Qe | apply Qc | apply Qd) | exact HB.out)) hb); have n1_ := Aside0.mk (hbox); have n2_ := Aside0.mk ((by rw [hg]; exact (Qj (by repeat (first | (with_reducible first | exact HB.out | apply Qe | apply Qc | apply Qd) | exact HB.out))) : w.heap.size ≤ gb219)); have n3_ := Aside0.mk ((by rw [hg]; exact (Qj (by repeat (first | (with_reducible first | exact HB.out | apply Qe | apply Qc | apply Qd) | exact HB.out))) : w.heap.size ≤ gb219)); clear HB; have HB := n0_; have BK219 := n1_; have GW219 := n2_; have GE219 := n3_; clear n0_ n1_ n2_ n3_; clear hb hbox hg))
 (try simp only [Act.put, List.setIfInBounds_toArray, List.set_cons_zero, List.set_cons_succ])
 go_cut [32] (fun v32 wc => ∃ (kq : Nat) (x32_1 : Bool), v32 = .bool x32_1 ∧ Aside0 (spec_TellerRight.j0 kq x32_1 a0_0 a0_1 l0_2 l0_3 = some r) ∧ Aside0 (kq ≤ k) ∧ Aside0 (wc.heap[gb219]? = some (.cells #[.int .i64 a0_0, .int .i64 a0_1, (.slice A0_2 l0_2.length c0_2), (.slice A0_3 l0_3.length c0_3)] 57 (0, 0))) ∧ Aside0 (Below w.heap.size w wc))
 case first =>
  have H := HC2.out
  clear HC2
  replace H := Option.bind_eq_some_iff.mp H
  obtain ⟨t220, A40, H⟩ := H
  replace H : (if t220 = true then ((spec_l02Is.f a0_1 1 1000000).bind fun t221 => (if t221 = true then (if (l0_2.length : Int) < 1 then (spec_TellerRight.j0 k true a0_0 a0_1 l0_2 l0_3) else (if (l0_2.length : Int) > 4 then (spec_TellerRight.j0 k true a0_0 a0_1 l0_2 l0_3) else ((spec_RibRight.f k l0_3).bind fun t222 => (spec_TellerRight.j0 k (!t222) a0_0 a0_1 l0_2 l0_3)))) else (spec_TellerRight.j0 k true a0_0 a0_1 l0_2 l0_3))) else (spec_TellerRight.j0 k true a0_0 a0_1 l0_2 l0_3)) = some r := H
  have A4 := Aside0.mk A40
  clear A40
  by_cases c5 : t220 = true
  ·subst c5
   have H1 : ((spec_l02Is.f a0_1 1 1000000).bind fun t221 => (if t221 = true then (if (l0_2.length : Int) < 1 then (spec_TellerRight.j0 k true a0_0 a0_1 l0_2 l0_3) else (if (l0_2.length : Int) > 4 then (spec_TellerRight.j0 k true a0_0 a0_1 l0_2 l0_3) else ((spec_RibRight.f k l0_3).bind fun t222 => (spec_TellerRight.j0 k (!t222) a0_0 a0_1 l0_2 l0_3)))) else (spec_TellerRight.j0 k true a0_0 a0_1 l0_2 l0_3))) = some r := by rw [if_pos rfl] at H; exact H
   clear H
   have H := H1
   clear H1
   replace H := Option.bind_eq_some_iff.mp H
   obtain ⟨t221, A60, H⟩ := H
   replace H : (if t221 = true then (if (l0_2.length : Int) < 1 then (spec_TellerRight.j0 k true a0_0 a0_1 l0_2 l0_3) else (if (l0_2.length : Int) > 4 then (spec_TellerRight.j0 k true a0_0 a0_1 l0_2 l0_3) else ((spec_RibRight.f k l0_3).bind fun t222 => (spec_TellerRight.j0 k (!t222) a0_0 a0_1 l0_2 l0_3)))) else (spec_TellerRight.j0 k true a0_0 a0_1 l0_2 l0_3)) = some r := H
   have A6 := Aside0.mk A60
   clear A60
   by_cases c7 : t221 = true
   ·subst c7
    have H1 : (if (l0_2.length : Int) < 1 then (spec_TellerRight.j0 k true a0_0 a0_1 l0_2 l0_3) else (if (l0_2.length : Int) > 4 then (spec_TellerRight.j0 k true a0_0 a0_1 l0_2 l0_3) else ((spec_RibRight.f k l0_3).bind fun t222 => (spec_TellerRight.j0 k (!t222) a0_0 a0_1 l0_2 l0_3)))) = some r := by rw [if_pos rfl] at H; exact H
    clear H
    have H := H1
    clear H1
    by_cases c8 : (l0_2.length : Int) < 1
    ·rw [if_pos c8] at H
     have c8b0 : decide ((l0_2.length : Int) < 1) = true := decide_eq_true c8
     have c8b1 : decide (l0_2.length < 1) = true := decide_eq_true (by omega)
     clear c8
     (first | rw [c8b0] | (simp only [Qr, Qs]; rw [c8b0]) | skip)
     have H' := Aside0.mk H
     clear H
     have hcz9_0 : w3.cell? ⟨gb219, 0, none⟩ = some (.int .i64 a0_0) := (Qa BK219.out 0).trans rfl
     have hcz9_1 : w3.cell? ⟨gb219, 1, none⟩ = some (.int .i64 a0_1) := (Qa BK219.out 1).trans rfl
     have hcz9_2 : w3.cell? ⟨gb219, 2, none⟩ = some (.slice A0_2 l0_2.length c0_2) := (Qa BK219.out 2).trans rfl
     have hcz9_3 : w3.cell? ⟨gb219, 3, none⟩ = some (.slice A0_3 l0_3.length c0_3) := (Qa BK219.out 3).trans rfl
     have hfz9_0 := Qb BK219.out 0
     have hfz9_1 := Qb BK219.out 1
     have hfz9_2 := Qb BK219.out 2
     have hfz9_3 := Qb BK219.out 3
     go_wp2_with (first | ((with_reducible refine Qq (f := 88) rfl ?_); refine Qy (some 7) rfl rfl Try.func88 (by kernel_rfl) rfl #[.int .i64 a0_0, .int .i64 1, .int .i64 2] rfl (by (try simp only [List.map_toArray, List.map_cons, List.map_nil]); first | done | rfl | (simp only [List.length_drop, List.length_take]; rfl)) ?_; (with_reducible refine (spec_l02Is.calls a0_0 1 2 true _ A4.out).mono ?_); rintro e w' ⟨rfl, ⟨nd, rfl⟩⟩; refine ⟨_, rfl, ?_⟩) | (go_at_call 88; (with_reducible refine (spec_l02Is.calls a0_1 1 1000000 true _ A6.out).mono ?_); rintro e w' ⟨rfl, ⟨nd, rfl⟩⟩))
     go_meet
     case rel => exact ⟨_, (true), (by first | rfl | (simp; done) | (simp [*]; done)), H', ⟨by first | omega | exact Nat.le_refl _⟩, ⟨by (with_reducible repeat (first | refine Qg ?_ _ | refine Qi ?_ | refine Qh ?_ _)); exact BK219.out⟩, ⟨by repeat (first | (with_reducible first | exact HB.out | apply Qe | apply Qc | apply Qd | refine Qf ?_ GE219.out) | exact HB.out)⟩⟩
    ·rw [if_neg c8] at H
     have c8b0 : decide ((l0_2.length : Int) < 1) = false := decide_eq_false c8
     have c8b1 : decide (l0_2.length < 1) = false := decide_eq_false (by omega)
     clear c8
     (first | rw [c8b0] | (simp only [Qr, Qs]; rw [c8b0]) | skip)
     by_cases c10 : (l0_2.length : Int) > 4
     ·rw [if_pos c10] at H
      have c10b0 : decide (4 < (l0_2.length : Int)) = true := decide_eq_true c10
      have c10b1 : decide (4 < l0_2.length) = true := decide_eq_true (by omega)
      clear c10
      have H' := Aside0.mk H
      clear H
      have hcz11_0 : w3.cell? ⟨gb219, 0, none⟩ = some (.int .i64 a0_0) := (Qa BK219.out 0).trans rfl
      have hcz11_1 : w3.cell? ⟨gb219, 1, none⟩ = some (.int .i64 a0_1) := (Qa BK219.out 1).trans rfl
      have hcz11_2 : w3.cell? ⟨gb219, 2, none⟩ = some (.slice A0_2 l0_2.length c0_2) := (Qa BK219.out 2).trans rfl
      have hcz11_3 : w3.cell? ⟨gb219, 3, none⟩ = some (.slice A0_3 l0_3.length c0_3) := (Qa BK219.out 3).trans rfl
      have hfz11_0 := Qb BK219.out 0
      have hfz11_1 := Qb BK219.out 1
      have hfz11_2 := Qb BK219.out 2
      have hfz11_3 := Qb BK219.out 3
      go_wp2_with (first | ((with_reducible refine Qq (f := 88) rfl ?_); refine Qy (some 7) rfl rfl Try.func88 (by kernel_rfl) rfl #[.int .i64 a0_0, .int .i64 1, .int .i64 2] rfl (by (try simp only [List.map_toArray, List.map_cons, List.map_nil]); first | done | rfl | (simp only [List.length_drop, List.length_take]; rfl)) ?_; (with_reducible refine (spec_l02Is.calls a0_0 1 2 true _ A4.out).mono ?_); rintro e w' ⟨rfl, ⟨nd, rfl⟩⟩; refine ⟨_, rfl, ?_⟩) | (go_at_call 88; (with_reducible refine (spec_l02Is.calls a0_1 1 1000000 true _ A6.out).mono ?_); rintro e w' ⟨rfl, ⟨nd, rfl⟩⟩))
      go_meet
      case rel => exact ⟨_, (true), (by first | rfl | (simp; done) | (simp [*]; done)), H', ⟨by first | omega | exact Nat.le_refl _⟩, ⟨by (with_reducible repeat (first | refine Qg ?_ _ | refine Qi ?_ | refine Qh ?_ _)); exact BK219.out⟩, ⟨by repeat (first | (with_reducible first | exact HB.out | apply Qe | apply Qc | apply Qd | refine Qf ?_ GE219.out) | exact HB.out)⟩⟩
     ·rw [if_neg c10] at H
      have c10b0 : decide (4 < (l0_2.length : Int)) = false := decide_eq_false c10
      have c10b1 : decide (4 < l0_2.length) = false := decide_eq_false (by omega)
      clear c10
      replace H := Option.bind_eq_some_iff.mp H
      obtain ⟨t222, A120, H⟩ := H
      replace H : (spec_TellerRight.j0 k (!t222) a0_0 a0_1 l0_2 l0_3) = some r := H
      have A12 := Aside0.mk A120
      clear A120
      have H' := Aside0.mk H
      clear H
      have hcz13_0 : w3.cell? ⟨gb219, 0, none⟩ = some (.int .i64 a0_0) := (Qa BK219.out 0).trans rfl
      have hcz13_1 : w3.cell? ⟨gb219, 1, none⟩ = some (.int .i64 a0_1) := (Qa BK219.out 1).trans rfl
      have hcz13_2 : w3.cell? ⟨gb219, 2, none⟩ = some (.slice A0_2 l0_2.length c0_2) := (Qa BK219.out 2).trans rfl
      have hcz13_3 : w3.cell? ⟨gb219, 3, none⟩ = some (.slice A0_3 l0_3.length c0_3) := (Qa BK219.out 3).trans rfl
      have hfz13_0 := Qb BK219.out 0
      have hfz13_1 := Qb BK219.out 1
      have hfz13_2 := Qb BK219.out 2
      have hfz13_3 := Qb BK219.out 3
      go_wp2_with (first | ((with_reducible refine Qq (f := 88) rfl ?_); refine Qy (some 7) rfl rfl Try.func88 (by kernel_rfl) rfl #[.int .i64 a0_0, .int .i64 1, .int .i64 2] rfl (by (try simp only [List.map_toArray, List.map_cons, List.map_nil]); first | done | rfl | (simp only [List.length_drop, List.length_take]; rfl)) ?_; (with_reducible refine (spec_l02Is.calls a0_0 1 2 true _ A4.out).mono ?_); rintro e w' ⟨rfl, ⟨nd, rfl⟩⟩; refine ⟨_, rfl, ?_⟩) | (go_at_call 88; (with_reducible refine (spec_l02Is.calls a0_1 1 1000000 true _ A6.out).mono ?_); rintro e w' ⟨rfl, ⟨nd, rfl⟩⟩) | (go_at_call 54; (with_reducible refine (spec_RibRight.calls k _ _ l0_3 t222 _ ?side1 ?side2 A12.out).mono ?_); (case side1 => repeat (first | exact (Kd.C_below HR0_3.out (by repeat (first | (with_reducible first | exact HB.out | apply Qe | apply Qc | apply Qd | refine Qf ?_ GE219.out) | exact HB.out))) | (with_reducible refine Kd.C_alloc ?_ _) | (with_reducible refine Kd.C_drewN ?_ _) | (with_reducible refine Kd.C_drew ?_))); (case side2 => exact HC0_3.out); rintro e w14 ⟨rfl, hb⟩; have n0_ := Aside0.mk (Qo (g := gb219) (o := .cells #[.int .i64 a0_0, .int .i64 a0_1, .slice A0_2 l0_2.length c0_2, .slice A0_3 l0_3.length c0_3] 57 (0, 0)) (by (with_reducible repeat (first | refine Qg ?_ _ | refine Qi ?_ | refine Qh ?_ _)); exact BK219.out) hb); have n1_ := Aside0.mk (Qn (by repeat (first | (with_reducible first | exact HB.out | apply Qe | apply Qc | apply Qd | refine Qf ?_ GE219.out) | exact HB.out)) hb); clear BK219; clear HB; have BK219 := n0_; have HB := n1_; clear n0_ n1_; (try clear hb); (try clear hb2); (try clear hk); (try clear hi)))
      go_meet
      case rel => exact ⟨_, (!t222), (by first | rfl | (simp; done) | (simp [*]; done)), H', ⟨by first | omega | exact Nat.le_refl _⟩, ⟨by (with_reducible repeat (first | refine Qg ?_ _ | refine Qi ?_ | refine Qh ?_ _)); exact BK219.out⟩, ⟨by repeat (first | (with_reducible first | exact HB.out | apply Qe | apply Qc | apply Qd | refine Qf ?_ GE219.out) | exact HB.out)⟩⟩
   ·replace c7 := Bool.eq_false_iff.mpr c7
    subst c7
    have H1 : (spec_TellerRight.j0 k true a0_0 a0_1 l0_2 l0_3) = some r := by rw [if_neg (show ¬ (false = true) by decide)] at H; exact H
    clear H
    have H := H1
    clear H1
    have H' := Aside0.mk H
    clear H
    have hcz15_0 : w3.cell? ⟨gb219, 0, none⟩ = some (.int .i64 a0_0) := (Qa BK219.out 0).trans rfl
    have hcz15_1 : w3.cell? ⟨gb219, 1, none⟩ = some (.int .i64 a0_1) := (Qa BK219.out 1).trans rfl
    have hcz15_2 : w3.cell? ⟨gb219, 2, none⟩ = some (.slice A0_2 l0_2.length c0_2) := (Qa BK219.out 2).trans rfl
    have hcz15_3 : w3.cell? ⟨gb219, 3, none⟩ = some (.slice A0_3 l0_3.length c0_3) := (Qa BK219.out 3).trans rfl
    have hfz15_0 := Qb BK219.out 0
    have hfz15_1 := Qb BK219.out 1
    have hfz15_2 := Qb BK219.out 2
    have hfz15_3 := Qb BK219.out 3
    go_wp2_with (first | ((with_reducible refine Qq (f := 88) rfl ?_); refine Qy (some 7) rfl rfl Try.func88 (by kernel_rfl) rfl #[.int .i64 a0_0, .int .i64 1, .int .i64 2] rfl (by (try simp only [List.map_toArray, List.map_cons, List.map_nil]); first | done | rfl | (simp only [List.length_drop, List.length_take]; rfl)) ?_; (with_reducible refine (spec_l02Is.calls a0_0 1 2 true _ A4.out).mono ?_); rintro e w' ⟨rfl, ⟨nd, rfl⟩⟩; refine ⟨_, rfl, ?_⟩) | (go_at_call 88; (with_reducible refine (spec_l02Is.calls a0_1 1 1000000 false _ A6.out).mono ?_); rintro e w' ⟨rfl, ⟨nd, rfl⟩⟩))
    go_meet
    case rel => exact ⟨_, (true), (by first | rfl | (simp; done) | (simp [*]; done)), H', ⟨by first | omega | exact Nat.le_refl _⟩, ⟨by (with_reducible repeat (first | refine Qg ?_ _ | refine Qi ?_ | refine Qh ?_ _)); exact BK219.out⟩, ⟨by repeat (first | (with_reducible first | exact HB.out | apply Qe | apply Qc | apply Qd | refine Qf ?_ GE219.out) | exact HB.out)⟩⟩
  ·replace c5 := Bool.eq_false_iff.mpr c5
   subst c5
   have H1 : (spec_TellerRight.j0 k true a0_0 a0_1 l0_2 l0_3) = some r := by rw [if_neg (show ¬ (false = true) by decide)] at H; exact H
   clear H
   have H := H1
   clear H1
   have H' := Aside0.mk H
   clear H
   have hcz16_0 : w3.cell? ⟨gb219, 0, none⟩ = some (.int .i64 a0_0) := (Qa BK219.out 0).trans rfl
   have hcz16_1 : w3.cell? ⟨gb219, 1, none⟩ = some (.int .i64 a0_1) := (Qa BK219.out 1).trans rfl
   have hcz16_2 : w3.cell? ⟨gb219, 2, none⟩ = some (.slice A0_2 l0_2.length c0_2) := (Qa BK219.out 2).trans rfl
   have hcz16_3 : w3.cell? ⟨gb219, 3, none⟩ = some (.slice A0_3 l0_3.length c0_3) := (Qa BK219.out 3).trans rfl
   have hfz16_0 := Qb BK219.out 0
   have hfz16_1 := Qb BK219.out 1
   have hfz16_2 := Qb BK219.out 2
   have hfz16_3 := Qb BK219.out 3
   go_wp2_with (first | ((with_reducible refine Qq (f := 88) rfl ?_); refine Qy (some 7) rfl rfl Try.func88 (by kernel_rfl) rfl #[.int .i64 a0_0, .int .i64 1, .int .i64 2] rfl (by (try simp only [List.map_toArray, List.map_cons, List.map_nil]); first | done | rfl | (simp only [List.length_drop, List.length_take]; rfl)) ?_; (with_reducible refine (spec_l02Is.calls a0_0 1 2 false _ A4.out).mono ?_); rintro e w' ⟨rfl, ⟨nd, rfl⟩⟩; refine ⟨_, rfl, ?_⟩))
   go_meet
   case rel => exact ⟨_, (true), (by first | rfl | (simp; done) | (simp [*]; done)), H', ⟨by first | omega | exact Nat.le_refl _⟩, ⟨by (with_reducible repeat (first | refine Qg ?_ _ | refine Qi ?_ | refine Qh ?_ _)); exact BK219.out⟩, ⟨by repeat (first | (with_reducible first | exact HB.out | apply Qe | apply Qc | apply Qd | refine Qf ?_ GE219.out) | exact HB.out)⟩⟩
 case rest =>
  clear HC2
  try clear c1
  try clear p2
  try clear c4
  try clear c5
  try clear c7
  try clear c8
  try clear c8b0
  try clear c8b1
  try clear c10
  try clear c10b0
  try clear c10b1
  try clear hcz11_0
  try clear hcz11_1
  try clear hcz11_2
  try clear hcz11_3
  try clear hcz13_0
  try clear hcz13_1
  try clear hcz13_2
  try clear hcz13_3
  try clear hcz15_0
  try clear hcz15_1
  try clear hcz15_2
  try clear hcz15_3
  try clear hcz16_0
  try clear hcz16_1
  try clear hcz16_2
  try clear hcz16_3
  try clear hcz9_0
  try clear hcz9_1
  try clear hcz9_2
  try clear hcz9_3
  try clear hfz11_0
  try clear hfz11_1
  try clear hfz11_2
  try clear hfz11_3
  try clear hfz13_0
  try clear hfz13_1
  try clear hfz13_2
  try clear hfz13_3
  try clear hfz15_0
  try clear hfz15_1
  try clear hfz15_2
  try clear hfz15_3
  try clear hfz16_0
  try clear hfz16_1
  try clear hfz16_2
  try clear hfz16_3
  try clear hfz9_0
  try clear hfz9_1
  try clear hfz9_2
  try clear hfz9_3
  obtain ⟨kq, x32_1, rfl, HA, HJ1, BK219, HB⟩ := hcut
  cases kq with
  | zero => exact absurd HA.out (by simp [spec_TellerRight.j0])
  | succ kj1 =>
   have H := HA.out
   clear HA
   simp only [spec_TellerRight.j0] at H
   by_cases c17 : x32_1 = true
   ·subst c17
    have H1 : (some false) = some r := by rw [if_pos rfl] at H; exact H
    clear H
    have H := H1
    clear H1
    obtain rfl := Option.some.inj H
    go_wp2
    go_ret
    exact ⟨by first | rfl | (simp [Qm, Ql] <;> rfl) | (simp [*, Qm, Ql] <;> rfl), by repeat (first | (with_reducible first | exact HB.out | apply Qe | apply Qc | apply Qd | refine Qf ?_ GE219.out) | exact HB.out)⟩
   ·replace c17 := Bool.eq_false_iff.mpr c17
    subst c17
    have H1 : (spec_TellerRight.l0 kj1 0 a0_0 a0_1 l0_2 l0_3) = some r := by rw [if_neg (show ¬ (false = true) by decide)] at H; exact H
    clear H
    have H := H1
    clear H1
    have H' := Aside0.mk H
    clear H
    go_wp2
    go_loopg [3] kj1 (fun kq v3 w' => ∃ (x3_2 : Int), v3 = .int .i64 x3_2 ∧ Aside0 (spec_TellerRight.l0 kq x3_2 a0_0 a0_1 l0_2 l0_3 = some r) ∧ Aside0 (kq ≤ kj1) ∧ Aside0 (w'.heap[gb219]? = some (.cells #[.int .i64 a0_0, .int .i64 a0_1, (.slice A0_2 l0_2.length c0_2), (.slice A0_3 l0_3.length c0_3)] 57 (0, 0))) ∧ Aside0 (Below w.heap.size w w'))
    case atStart => exact ⟨(0), (by first | rfl | (simp; done) | (simp [*]; done)), H', ⟨Nat.le_refl _⟩, ⟨by (with_reducible repeat (first | refine Qg ?_ _ | refine Qi ?_ | refine Qh ?_ _)); exact BK219.out⟩, ⟨by repeat (first | (with_reducible first | exact HB.out | apply Qe | apply Qc | apply Qd | refine Qf ?_ GE219.out) | exact HB.out)⟩⟩
    case round =>
     clear H'
     try clear c1
     try clear p2
     try clear c4
     try clear c5
     try clear c7
     try clear c8
     try clear c8b0
     try clear c8b1
     try clear c10
     try clear c10b0
     try clear c10b1
     try clear c17
     try clear hcz11_0
     try clear hcz11_1
     try clear hcz11_2
     try clear hcz11_3
     try clear hcz13_0
     try clear hcz13_1
     try clear hcz13_2
     try clear hcz13_3
     try clear hcz15_0
     try clear hcz15_1
     try clear hcz15_2
     try clear hcz15_3
     try clear hcz16_0
     try clear hcz16_1
     try clear hcz16_2
     try clear hcz16_3
     try clear hcz9_0
     try clear hcz9_1
     try clear hcz9_2
     try clear hcz9_3
     try clear hfz11_0
     try clear hfz11_1
     try clear hfz11_2
     try clear hfz11_3
     try clear hfz13_0
     try clear hfz13_1
     try clear hfz13_2
     try clear hfz13_3
     try clear hfz15_0
     try clear hfz15_1
     try clear hfz15_2
     try clear hfz15_3
     try clear hfz16_0
     try clear hfz16_1
     try clear hfz16_2
     try clear hfz16_3
     try clear hfz9_0
     try clear hfz9_1
     try clear hfz9_2
     try clear hfz9_3
     try clear p2
     obtain ⟨x3_2, rfl, HA, HK2, BK219, HB⟩ := hrel
     cases gk with
     | zero => exact absurd HA.out (by simp [spec_TellerRight.l0])
     | succ k2 =>
      have H := HA.out
      clear HA
      simp only [spec_TellerRight.l0] at H
      by_cases c18 : x3_2 < (l0_2.length : Int)
      ·rw [if_pos c18] at H
       have c18b0 : decide (x3_2 < (l0_2.length : Int)) = true := decide_eq_true c18
       clear c18
       by_cases c19 : 0 ≤ x3_2
       ·rw [if_pos c19] at H
        have c19b0 : decide (0 ≤ x3_2) = true := decide_eq_true c19
        clear c19
        replace H := Option.bind_eq_some_iff.mp H
        obtain ⟨t224, A200, H⟩ := H
        replace H : (if t224 = true then (if ((Qp l0_2 x3_2).f0) > a0_1 then (some false) else (spec_TellerRight.l0 k2 (wrap64 (x3_2 + 1)) a0_0 a0_1 l0_2 l0_3)) else (some false)) = some r := H
        have A20 := Aside0.mk A200
        clear A200
        by_cases c21 : t224 = true
        ·subst c21
         have H1 : (if ((Qp l0_2 x3_2).f0) > a0_1 then (some false) else (spec_TellerRight.l0 k2 (wrap64 (x3_2 + 1)) a0_0 a0_1 l0_2 l0_3)) = some r := by rw [if_pos rfl] at H; exact H
         clear H
         have H := H1
         clear H1
         by_cases c22 : ((Qp l0_2 x3_2).f0) > a0_1
         ·rw [if_pos c22] at H
          have c22b0 : decide (a0_1 < ((Qp l0_2 x3_2).f0)) = true := decide_eq_true c22
          clear c22
          obtain rfl := Option.some.inj H
          have hcz23_0 : wr.cell? ⟨gb219, 0, none⟩ = some (.int .i64 a0_0) := (Qa BK219.out 0).trans rfl
          have hcz23_1 : wr.cell? ⟨gb219, 1, none⟩ = some (.int .i64 a0_1) := (Qa BK219.out 1).trans rfl
          have hcz23_2 : wr.cell? ⟨gb219, 2, none⟩ = some (.slice A0_2 l0_2.length c0_2) := (Qa BK219.out 2).trans rfl
          have hcz23_3 : wr.cell? ⟨gb219, 3, none⟩ = some (.slice A0_3 l0_3.length c0_3) := (Qa BK219.out 3).trans rfl
          have hfz23_0 := Qb BK219.out 0
          have hfz23_1 := Qb BK219.out 1
          have hfz23_2 := Qb BK219.out 2
          have hfz23_3 := Qb BK219.out 3
          try go_wp2
          have n0_ := Aside0.mk (Qi BK219.out)
          have n1_ := Aside0.mk (Qd HB.out)
          clear BK219
          clear HB
          have BK219 := n0_
          have HB := n1_
          clear n0_ n1_
          have p223 : 0 ≤ (x3_2 : Int) := of_decide_eq_true (by assumption)
          have q223 : x3_2 < (l0_2.length : Int) := of_decide_eq_true (by assumption)
          obtain ⟨ad223, A223_4, c223_4, e223, hx223_0, hx223_1, hx223_2, hx223_3, hx223_4, hl223_4, hi223_4⟩ := at_T100 HR0_2.out x3_2 p223 q223
          have hw223_4 := hx223_4
          have hw223_3 := hx223_3
          have hw223_2 := hx223_2
          have hw223_1 := hx223_1
          have hw223_0 := hx223_0
          cases e223
          replace hx223_0 := (HB.out.cell (World.block_lt_of_cell? w _ hx223_0)).trans hx223_0
          replace hx223_1 := (HB.out.cell (World.block_lt_of_cell? w _ hx223_1)).trans hx223_1
          replace hx223_2 := (HB.out.cell (World.block_lt_of_cell? w _ hx223_2)).trans hx223_2
          replace hx223_3 := (HB.out.cell (World.block_lt_of_cell? w _ hx223_3)).trans hx223_3
          replace hx223_4 := (HB.out.cell (World.block_lt_of_cell? w _ hx223_4)).trans hx223_4
          have HR223_4 := Aside0.mk hi223_4
          have HC223_4 := Aside0.mk hl223_4
          clear hi223_4 hl223_4
          replace p223 := eq_true p223
          replace q223 := eq_true q223
          have p225 : 0 ≤ (x3_2 : Int) := of_decide_eq_true (by assumption)
          have q225 : x3_2 < (l0_2.length : Int) := of_decide_eq_true (by assumption)
          obtain ⟨ad225, A225_4, c225_4, e225, hx225_0, hx225_1, hx225_2, hx225_3, hx225_4, hl225_4, hi225_4⟩ := at_T100 HR0_2.out x3_2 p225 q225
          have hw225_4 := hx225_4
          have hw225_3 := hx225_3
          have hw225_2 := hx225_2
          have hw225_1 := hx225_1
          have hw225_0 := hx225_0
          obtain rfl : ad223 = ad225 := (by injection e225)
          replace hx225_0 := (HB.out.cell (World.block_lt_of_cell? w _ hx225_0)).trans hx225_0
          replace hx225_1 := (HB.out.cell (World.block_lt_of_cell? w _ hx225_1)).trans hx225_1
          replace hx225_2 := (HB.out.cell (World.block_lt_of_cell? w _ hx225_2)).trans hx225_2
          replace hx225_3 := (HB.out.cell (World.block_lt_of_cell? w _ hx225_3)).trans hx225_3
          replace hx225_4 := (HB.out.cell (World.block_lt_of_cell? w _ hx225_4)).trans hx225_4
          have HR225_4 := Aside0.mk hi225_4
          have HC225_4 := Aside0.mk hl225_4
          clear hi225_4 hl225_4
          replace p225 := eq_true p225
          replace q225 := eq_true q225
          refine start_ (n := 18) (S := fun w' => w'.cell? ⟨gb219, 0, none⟩ = some (.int .i64 a0_0) ∧ w'.cell? ⟨gb219, 1, none⟩ = some (.int .i64 a0_1) ∧ w'.cell? ⟨gb219, 2, none⟩ = some (.slice (some ad223) l0_2.length c0_2) ∧ w'.cell? ⟨gb219, 3, none⟩ = some (.slice A0_3 l0_3.length c0_3) ∧ w'.cell? (ad223.add ((x3_2).toNat * 5)) = some (.int .i64 ((Qp l0_2 x3_2).f0)) ∧ w'.cell? ⟨(ad223.add ((x3_2).toNat * 5)).block, (ad223.add ((x3_2).toNat * 5)).off + 1, none⟩ = some (.int .i64 ((Qp l0_2 x3_2).f1)) ∧ w'.cell? ⟨(ad223.add ((x3_2).toNat * 5)).block, (ad223.add ((x3_2).toNat * 5)).off + 2, none⟩ = some (.int .i64 ((Qp l0_2 x3_2).f2)) ∧ w'.cell? ⟨(ad223.add ((x3_2).toNat * 5)).block, (ad223.add ((x3_2).toNat * 5)).off + 3, none⟩ = some (.int .i64 ((Qp l0_2 x3_2).f3)) ∧ w'.cell? ⟨(ad223.add ((x3_2).toNat * 5)).block, (ad223.add ((x3_2).toNat * 5)).off + 4, none⟩ = some (.slice A223_4 ((Qp l0_2 x3_2).f4).length c223_4) ∧ w'.cell? (ad223.add ((x3_2).toNat * 5)) = some (.int .i64 ((Qp l0_2 x3_2).f0)) ∧ w'.cell? ⟨(ad223.add ((x3_2).toNat * 5)).block, (ad223.add ((x3_2).toNat * 5)).off + 1, none⟩ = some (.int .i64 ((Qp l0_2 x3_2).f1)) ∧ w'.cell? ⟨(ad223.add ((x3_2).toNat * 5)).block, (ad223.add ((x3_2).toNat * 5)).off + 2, none⟩ = some (.int .i64 ((Qp l0_2 x3_2).f2)) ∧ w'.cell? ⟨(ad223.add ((x3_2).toNat * 5)).block, (ad223.add ((x3_2).toNat * 5)).off + 3, none⟩ = some (.int .i64 ((Qp l0_2 x3_2).f3)) ∧ w'.cell? ⟨(ad223.add ((x3_2).toNat * 5)).block, (ad223.add ((x3_2).toNat * 5)).off + 4, none⟩ = some (.slice A225_4 ((Qp l0_2 x3_2).f4).length c225_4)) (ds := []) #[false, false, false, false, false, false, false, false, false, false, false, false, false, false, false, false, false, false] (by kernel_rfl) rfl rfl ⟨(Qa BK219.out 0).trans rfl, (Qa BK219.out 1).trans rfl, (Qa BK219.out 2).trans rfl, (Qa BK219.out 3).trans rfl, ((HB.out.cell (World.block_lt_of_cell? w _ hw223_0)).trans hw223_0), ((HB.out.cell (World.block_lt_of_cell? w _ hw223_1)).trans hw223_1), ((HB.out.cell (World.block_lt_of_cell? w _ hw223_2)).trans hw223_2), ((HB.out.cell (World.block_lt_of_cell? w _ hw223_3)).trans hw223_3), ((HB.out.cell (World.block_lt_of_cell? w _ hw223_4)).trans hw223_4), ((HB.out.cell (World.block_lt_of_cell? w _ hw225_0)).trans hw225_0), ((HB.out.cell (World.block_lt_of_cell? w _ hw225_1)).trans hw225_1), ((HB.out.cell (World.block_lt_of_cell? w _ hw225_2)).trans hw225_2), ((HB.out.cell (World.block_lt_of_cell? w _ hw225_3)).trans hw225_3), ((HB.out.cell (World.block_lt_of_cell? w _ hw225_4)).trans hw225_4)⟩ (fun hHeld => ?_); refine with_tabW spec_TellerRight.tab6 spec_TellerRight.bits6 (fun HT_ HW_ => ?_)
          generalize wr.drew = w24 at BK219 HB HR223_4 HR225_4 hx223_0 hx223_1 hx223_2 hx223_3 hx223_4 hx225_0 hx225_1 hx225_2 hx225_3 hx225_4 hHeld ⊢
          refine Qx (i := 0) (N := some 40) (v := ?_) (a' := ?_) #[true, false, false, false, false, false, false, false, false, false, false, false, false, false, false, false, false, false] rfl rfl (Qt HT_.out (by kernel_rfl)) (fun _ _ _ h => h) (Or.inl ⟨by rfl, ?_⟩) ?_ ?_
          rotate_left
          ·intro w'
           go_simp
           with_reducible rfl
          rotate_left
          ·simp only [Act.put, List.setIfInBounds_toArray, List.set_cons_zero, List.set_cons_succ, Qr, Qs]
           rfl
          refine Qx (i := 2) (N := some 42) (v := ?_) (a' := ?_) #[true, false, true, false, false, false, false, false, false, false, false, false, false, false, false, false, false, false] rfl rfl (Qt HT_.out (by kernel_rfl)) (fun _ _ _ h => h) (Or.inl ⟨by rfl, ?_⟩) ?_ ?_
          rotate_left
          ·intro w'
           go_simp
           with_reducible rfl
          rotate_left
          ·simp only [Act.put, List.setIfInBounds_toArray, List.set_cons_zero, List.set_cons_succ, Qr, Qs]
           rfl
          refine take_ (i := 1) (N := some 41) (v := ?_) (a' := ?_) #[true, true, true, false, false, false, false, false, false, false, false, false, false, false, false, false, false, false] rfl rfl (Qz HT_.out HW_.out (by kernel_rfl)) (fun _ _ _ h => h) (Or.inl ⟨by rfl, ?_⟩) hHeld ?_ ?_
          rotate_left
          ·rintro w' ⟨s0, s1, s2, s3, s4, s5, s6, s7, s8, s9, s10, s11, s12, s13⟩
           go_simp
           with_reducible rfl
          rotate_left
          ·simp only [Act.put, List.setIfInBounds_toArray, List.set_cons_zero, List.set_cons_succ, Qr, Qs]
           rfl
          refine Qx (i := 3) (N := some 43) (v := ?_) (a' := ?_) #[true, true, true, true, false, false, false, false, false, false, false, false, false, false, false, false, false, false] rfl rfl (Qt HT_.out (by kernel_rfl)) (fun _ _ _ h => h) (Or.inl ⟨by rfl, ?_⟩) ?_ ?_
          rotate_left
          ·intro w'
           go_simp
           with_reducible rfl
          rotate_left
          ·simp only [Act.put, List.setIfInBounds_toArray, List.set_cons_zero, List.set_cons_succ, Qr, Qs]
           rfl
          refine take_ (i := 4) (N := some 44) (v := ?_) (a' := ?_) #[true, true, true, true, true, false, false, false, false, false, false, false, false, false, false, false, false, false] rfl rfl (Qz HT_.out HW_.out (by kernel_rfl)) (fun _ _ _ h => h) (Or.inl ⟨by rfl, ?_⟩) hHeld ?_ ?_
          rotate_left
          ·rintro w' ⟨s0, s1, s2, s3, s4, s5, s6, s7, s8, s9, s10, s11, s12, s13⟩
           go_simp
           with_reducible rfl
          rotate_left
          ·simp only [Act.put, List.setIfInBounds_toArray, List.set_cons_zero, List.set_cons_succ, Qr, Qs]
           rfl
          refine one_ (i := 5) (N := some 45) #[true, true, true, true, true, true, false, false, false, false, false, false, false, false, false, false, false, false] rfl rfl (one_of HT_.out (by kernel_rfl)) (by decide) (fun K hK => ?_)
          refine goes_ Try.func89 (by kernel_rfl) rfl #[.agg #[.int .i64 ((Qp l0_2 x3_2).f0), .int .i64 ((Qp l0_2 x3_2).f1), .int .i64 ((Qp l0_2 x3_2).f2), .int .i64 ((Qp l0_2 x3_2).f3), .slice A223_4 ((Qp l0_2 x3_2).f4).length c223_4]] (by rfl) rfl rfl (by (try simp only [List.map_toArray, List.map_cons, List.map_nil]); first | done | rfl | (simp only [List.length_drop, List.length_take]; rfl)) ?_
          with_reducible refine (spec_PipeRight.calls k2 ((Qp l0_2 x3_2).f0) ((Qp l0_2 x3_2).f1) ((Qp l0_2 x3_2).f2) ((Qp l0_2 x3_2).f3) _ _ ((Qp l0_2 x3_2).f4) true _ ?side1 ?side2 A20.out).mono ?_
          (case side1 => repeat (first | exact (Kd.C_below HR223_4.out HB.out) | (with_reducible refine Kd.C_alloc ?_ _) | (with_reducible refine Kd.C_drewN ?_ _) | (with_reducible refine Kd.C_drew ?_)))
          (case side2 => exact HC223_4.out)
          rintro e w25 ⟨rfl, hb⟩
          refine ⟨_, rfl, ?_⟩
          have n0_ := Aside0.mk (Qo (g := gb219) (o := .cells #[.int .i64 a0_0, .int .i64 a0_1, .slice (some ad223) l0_2.length c0_2, .slice A0_3 l0_3.length c0_3] 57 (0, 0)) (by (with_reducible repeat (first | refine Qg ?_ _ | refine Qi ?_ | refine Qh ?_ _)); exact BK219.out) hb)
          have n1_ := Aside0.mk (Qn (by repeat (first | (with_reducible first | exact HB.out | apply Qe | apply Qc | apply Qd | refine Qf ?_ GE219.out) | exact HB.out)) hb)
          clear BK219
          clear HB
          have BK219 := n0_
          have HB := n1_
          clear n0_ n1_
          (try clear hb)
          (try clear hb2)
          (try clear hk)
          (try clear hi)
          refine hK.out _ _ ⟨(Qa BK219.out 0).trans rfl, (Qa BK219.out 1).trans rfl, (Qa BK219.out 2).trans rfl, (Qa BK219.out 3).trans rfl, ((HB.out.cell (World.block_lt_of_cell? w _ hw223_0)).trans hw223_0), ((HB.out.cell (World.block_lt_of_cell? w _ hw223_1)).trans hw223_1), ((HB.out.cell (World.block_lt_of_cell? w _ hw223_2)).trans hw223_2), ((HB.out.cell (World.block_lt_of_cell? w _ hw223_3)).trans hw223_3), ((HB.out.cell (World.block_lt_of_cell? w _ hw223_4)).trans hw223_4), ((HB.out.cell (World.block_lt_of_cell? w _ hw225_0)).trans hw225_0), ((HB.out.cell (World.block_lt_of_cell? w _ hw225_1)).trans hw225_1), ((HB.out.cell (World.block_lt_of_cell? w _ hw225_2)).trans hw225_2), ((HB.out.cell (World.block_lt_of_cell? w _ hw225_3)).trans hw225_3), ((HB.out.cell (World.block_lt_of_cell? w _ hw225_4)).trans hw225_4)⟩ (fun hHeld => ?_)
          clear hK K
          refine norm_ (a' := ?_) ?_ ?_
          rotate_left
          ·show Act.put _ (some 45) _ = _
           simp only [Act.put, List.setIfInBounds_toArray, List.set_cons_zero, List.set_cons_succ, Qr, Qs]
           rfl
          refine Qx (i := 6) (N := some 46) (v := ?_) (a' := ?_) #[true, true, true, true, true, true, true, false, false, false, false, false, false, false, false, false, false, false] rfl rfl (Qt HT_.out (by kernel_rfl)) (fun _ _ _ h => h) (Or.inl ⟨by rfl, ?_⟩) ?_ ?_
          rotate_left
          ·intro w'
           go_simp
           with_reducible rfl
          rotate_left
          ·simp only [Act.put, List.setIfInBounds_toArray, List.set_cons_zero, List.set_cons_succ, Qr, Qs]
           rfl
          refine Qx (i := 7) (N := some 47) (v := ?_) (a' := ?_) #[true, true, true, true, true, true, true, true, false, false, false, false, false, false, false, false, false, false] rfl rfl (Qt HT_.out (by kernel_rfl)) (fun _ _ _ h => h) (Or.inl ⟨by rfl, ?_⟩) ?_ ?_
          rotate_left
          ·intro w'
           go_simp
           with_reducible rfl
          rotate_left
          ·simp only [Act.put, List.setIfInBounds_toArray, List.set_cons_zero, List.set_cons_succ, Qr, Qs]
           rfl
          refine Qx (i := 8) (N := some 48) (v := ?_) (a' := ?_) #[true, true, true, true, true, true, true, true, true, false, false, false, false, false, false, false, false, false] rfl rfl (Qt HT_.out (by kernel_rfl)) (fun _ _ _ h => h) (Or.inl ⟨by rfl, ?_⟩) ?_ ?_
          rotate_left
          ·intro w'
           go_simp
           with_reducible rfl
          rotate_left
          ·simp only [Act.put, List.setIfInBounds_toArray, List.set_cons_zero, List.set_cons_succ, Qr, Qs]
           rfl
          refine Qx (i := 10) (N := some 50) (v := ?_) (a' := ?_) #[true, true, true, true, true, true, true, true, true, false, true, false, false, false, false, false, false, false] rfl rfl (Qt HT_.out (by kernel_rfl)) (fun _ _ _ h => h) (Or.inl ⟨by rfl, ?_⟩) ?_ ?_
          rotate_left
          ·intro w'
           go_simp
           with_reducible rfl
          rotate_left
          ·simp only [Act.put, List.setIfInBounds_toArray, List.set_cons_zero, List.set_cons_succ, Qr, Qs]
           rfl
          refine Qx (i := 14) (N := some 54) (v := ?_) (a' := ?_) #[true, true, true, true, true, true, true, true, true, false, true, false, false, false, true, false, false, false] rfl rfl (Qt HT_.out (by kernel_rfl)) (fun _ _ _ h => h) (Or.inl ⟨by rfl, ?_⟩) ?_ ?_
          rotate_left
          ·intro w'
           go_simp
           with_reducible rfl
          rotate_left
          ·simp only [Act.put, List.setIfInBounds_toArray, List.set_cons_zero, List.set_cons_succ, Qr, Qs]
           rfl
          refine take_ (i := 9) (N := some 49) (v := ?_) (a' := ?_) #[true, true, true, true, true, true, true, true, true, true, true, false, false, false, true, false, false, false] rfl rfl (Qz HT_.out HW_.out (by kernel_rfl)) (fun _ _ _ h => h) (Or.inl ⟨by rfl, ?_⟩) hHeld ?_ ?_
          rotate_left
          ·rintro w' ⟨s0, s1, s2, s3, s4, s5, s6, s7, s8, s9, s10, s11, s12, s13⟩
           go_simp
           with_reducible rfl
          rotate_left
          ·simp only [Act.put, List.setIfInBounds_toArray, List.set_cons_zero, List.set_cons_succ, Qr, Qs]
           rfl
          refine Qx (i := 11) (N := some 51) (v := ?_) (a' := ?_) #[true, true, true, true, true, true, true, true, true, true, true, true, false, false, true, false, false, false] rfl rfl (Qt HT_.out (by kernel_rfl)) (fun _ _ _ h => h) (Or.inl ⟨by rfl, ?_⟩) ?_ ?_
          rotate_left
          ·intro w'
           go_simp
           with_reducible rfl
          rotate_left
          ·simp only [Act.put, List.setIfInBounds_toArray, List.set_cons_zero, List.set_cons_succ, Qr, Qs]
           rfl
          refine Qx (i := 12) (N := some 52) (v := ?_) (a' := ?_) #[true, true, true, true, true, true, true, true, true, true, true, true, true, false, true, false, false, false] rfl rfl (Qt HT_.out (by kernel_rfl)) (fun _ _ _ h => h) (Or.inl ⟨by rfl, ?_⟩) ?_ ?_
          rotate_left
          ·intro w'
           go_simp
           with_reducible rfl
          rotate_left
          ·simp only [Act.put, List.setIfInBounds_toArray, List.set_cons_zero, List.set_cons_succ, Qr, Qs]
           rfl
          refine take_ (i := 13) (N := some 53) (v := ?_) (a' := ?_) #[true, true, true, true, true, true, true, true, true, true, true, true, true, true, true, false, false, false] rfl rfl (Qz HT_.out HW_.out (by kernel_rfl)) (fun _ _ _ h => h) (Or.inl ⟨by rfl, ?_⟩) hHeld ?_ ?_
          rotate_left
          ·rintro w' ⟨s0, s1, s2, s3, s4, s5, s6, s7, s8, s9, s10, s11, s12, s13⟩
           go_simp
           with_reducible rfl
          rotate_left
          ·simp only [Act.put, List.setIfInBounds_toArray, List.set_cons_zero, List.set_cons_succ, Qr, Qs]
           rfl
          refine take_ (i := 15) (N := some 55) (v := ?_) (a' := ?_) #[true, true, true, true, true, true, true, true, true, true, true, true, true, true, true, true, false, false] rfl rfl (Qz HT_.out HW_.out (by kernel_rfl)) (fun _ _ _ h => h) (Or.inl ⟨by rfl, ?_⟩) hHeld ?_ ?_
          rotate_left
          ·rintro w' ⟨s0, s1, s2, s3, s4, s5, s6, s7, s8, s9, s10, s11, s12, s13⟩
           go_simp
           with_reducible rfl
          rotate_left
          ·simp only [Act.put, List.setIfInBounds_toArray, List.set_cons_zero, List.set_cons_succ, Qr, Qs]
           rfl
          refine Qx (i := 16) (N := some 56) (v := ?_) (a' := ?_) #[true, true, true, true, true, true, true, true, true, true, true, true, true, true, true, true, true, false] rfl rfl (Qt HT_.out (by kernel_rfl)) (fun _ _ _ h => h) (Or.inl ⟨by rfl, ?_⟩) ?_ ?_
          rotate_left
          ·intro w'
           go_simp
           with_reducible rfl
          rotate_left
          ·simp only [Act.put, List.setIfInBounds_toArray, List.set_cons_zero, List.set_cons_succ, Qr, Qs]
           rfl
          refine Qx (i := 17) (N := some 57) (v := ?_) (a' := ?_) #[true, true, true, true, true, true, true, true, true, true, true, true, true, true, true, true, true, true] rfl rfl (Qt HT_.out (by kernel_rfl)) (fun _ _ _ h => h) (Or.inl ⟨by rfl, ?_⟩) ?_ ?_
          rotate_left
          ·intro w'
           go_simp
           with_reducible rfl
          rotate_left
          ·simp only [Act.put, List.setIfInBounds_toArray, List.set_cons_zero, List.set_cons_succ, Qr, Qs]
           rfl
          refine done_ (done_of HT_.out (by kernel_rfl)) ?_
          try go_wp2
          go_ret
          exact ⟨by first | rfl | (simp [Qm, Ql] <;> rfl) | (simp [*, Qm, Ql] <;> rfl), by repeat (first | (with_reducible first | exact HB.out | apply Qe | apply Qc | apply Qd | refine Qf ?_ GE219.out) | exact HB.out)⟩
         ·rw [if_neg c22] at H
          have c22b0 : decide (a0_1 < ((Qp l0_2 x3_2).f0)) = false := decide_eq_false c22
          clear c22
          have H' := Aside0.mk H
          clear H
          have hcz26_0 : wr.cell? ⟨gb219, 0, none⟩ = some (.int .i64 a0_0) := (Qa BK219.out 0).trans rfl
          have hcz26_1 : wr.cell? ⟨gb219, 1, none⟩ = some (.int .i64 a0_1) := (Qa BK219.out 1).trans rfl
          have hcz26_2 : wr.cell? ⟨gb219, 2, none⟩ = some (.slice A0_2 l0_2.length c0_2) := (Qa BK219.out 2).trans rfl
          have hcz26_3 : wr.cell? ⟨gb219, 3, none⟩ = some (.slice A0_3 l0_3.length c0_3) := (Qa BK219.out 3).trans rfl
          have hfz26_0 := Qb BK219.out 0
          have hfz26_1 := Qb BK219.out 1
          have hfz26_2 := Qb BK219.out 2
          have hfz26_3 := Qb BK219.out 3
          try go_wp2
          have n0_ := Aside0.mk (Qi BK219.out)
          have n1_ := Aside0.mk (Qd HB.out)
          clear BK219
          clear HB
          have BK219 := n0_
          have HB := n1_
          clear n0_ n1_
          have p223 : 0 ≤ (x3_2 : Int) := of_decide_eq_true (by assumption)
          have q223 : x3_2 < (l0_2.length : Int) := of_decide_eq_true (by assumption)
          obtain ⟨ad223, A223_4, c223_4, e223, hx223_0, hx223_1, hx223_2, hx223_3, hx223_4, hl223_4, hi223_4⟩ := at_T100 HR0_2.out x3_2 p223 q223
          have hw223_4 := hx223_4
          have hw223_3 := hx223_3
          have hw223_2 := hx223_2
          have hw223_1 := hx223_1
          have hw223_0 := hx223_0
          cases e223
          replace hx223_0 := (HB.out.cell (World.block_lt_of_cell? w _ hx223_0)).trans hx223_0
          replace hx223_1 := (HB.out.cell (World.block_lt_of_cell? w _ hx223_1)).trans hx223_1
          replace hx223_2 := (HB.out.cell (World.block_lt_of_cell? w _ hx223_2)).trans hx223_2
          replace hx223_3 := (HB.out.cell (World.block_lt_of_cell? w _ hx223_3)).trans hx223_3
          replace hx223_4 := (HB.out.cell (World.block_lt_of_cell? w _ hx223_4)).trans hx223_4
          have HR223_4 := Aside0.mk hi223_4
          have HC223_4 := Aside0.mk hl223_4
          clear hi223_4 hl223_4
          replace p223 := eq_true p223
          replace q223 := eq_true q223
          have p225 : 0 ≤ (x3_2 : Int) := of_decide_eq_true (by assumption)
          have q225 : x3_2 < (l0_2.length : Int) := of_decide_eq_true (by assumption)
          obtain ⟨ad225, A225_4, c225_4, e225, hx225_0, hx225_1, hx225_2, hx225_3, hx225_4, hl225_4, hi225_4⟩ := at_T100 HR0_2.out x3_2 p225 q225
          have hw225_4 := hx225_4
          have hw225_3 := hx225_3
          have hw225_2 := hx225_2
          have hw225_1 := hx225_1
          have hw225_0 := hx225_0
          obtain rfl : ad223 = ad225 := (by injection e225)
          replace hx225_0 := (HB.out.cell (World.block_lt_of_cell? w _ hx225_0)).trans hx225_0
          replace hx225_1 := (HB.out.cell (World.block_lt_of_cell? w _ hx225_1)).trans hx225_1
          replace hx225_2 := (HB.out.cell (World.block_lt_of_cell? w _ hx225_2)).trans hx225_2
          replace hx225_3 := (HB.out.cell (World.block_lt_of_cell? w _ hx225_3)).trans hx225_3
          replace hx225_4 := (HB.out.cell (World.block_lt_of_cell? w _ hx225_4)).trans hx225_4
          have HR225_4 := Aside0.mk hi225_4
          have HC225_4 := Aside0.mk hl225_4
          clear hi225_4 hl225_4
          replace p225 := eq_true p225
          replace q225 := eq_true q225
          refine start_ (n := 18) (S := fun w' => w'.cell? ⟨gb219, 0, none⟩ = some (.int .i64 a0_0) ∧ w'.cell? ⟨gb219, 1, none⟩ = some (.int .i64 a0_1) ∧ w'.cell? ⟨gb219, 2, none⟩ = some (.slice (some ad223) l0_2.length c0_2) ∧ w'.cell? ⟨gb219, 3, none⟩ = some (.slice A0_3 l0_3.length c0_3) ∧ w'.cell? (ad223.add ((x3_2).toNat * 5)) = some (.int .i64 ((Qp l0_2 x3_2).f0)) ∧ w'.cell? ⟨(ad223.add ((x3_2).toNat * 5)).block, (ad223.add ((x3_2).toNat * 5)).off + 1, none⟩ = some (.int .i64 ((Qp l0_2 x3_2).f1)) ∧ w'.cell? ⟨(ad223.add ((x3_2).toNat * 5)).block, (ad223.add ((x3_2).toNat * 5)).off + 2, none⟩ = some (.int .i64 ((Qp l0_2 x3_2).f2)) ∧ w'.cell? ⟨(ad223.add ((x3_2).toNat * 5)).block, (ad223.add ((x3_2).toNat * 5)).off + 3, none⟩ = some (.int .i64 ((Qp l0_2 x3_2).f3)) ∧ w'.cell? ⟨(ad223.add ((x3_2).toNat * 5)).block, (ad223.add ((x3_2).toNat * 5)).off + 4, none⟩ = some (.slice A223_4 ((Qp l0_2 x3_2).f4).length c223_4) ∧ w'.cell? (ad223.add ((x3_2).toNat * 5)) = some (.int .i64 ((Qp l0_2 x3_2).f0)) ∧ w'.cell? ⟨(ad223.add ((x3_2).toNat * 5)).block, (ad223.add ((x3_2).toNat * 5)).off + 1, none⟩ = some (.int .i64 ((Qp l0_2 x3_2).f1)) ∧ w'.cell? ⟨(ad223.add ((x3_2).toNat * 5)).block, (ad223.add ((x3_2).toNat * 5)).off + 2, none⟩ = some (.int .i64 ((Qp l0_2 x3_2).f2)) ∧ w'.cell? ⟨(ad223.add ((x3_2).toNat * 5)).block, (ad223.add ((x3_2).toNat * 5)).off + 3, none⟩ = some (.int .i64 ((Qp l0_2 x3_2).f3)) ∧ w'.cell? ⟨(ad223.add ((x3_2).toNat * 5)).block, (ad223.add ((x3_2).toNat * 5)).off + 4, none⟩ = some (.slice A225_4 ((Qp l0_2 x3_2).f4).length c225_4)) (ds := []) #[false, false, false, false, false, false, false, false, false, false, false, false, false, false, false, false, false, false] (by kernel_rfl) rfl rfl ⟨(Qa BK219.out 0).trans rfl, (Qa BK219.out 1).trans rfl, (Qa BK219.out 2).trans rfl, (Qa BK219.out 3).trans rfl, ((HB.out.cell (World.block_lt_of_cell? w _ hw223_0)).trans hw223_0), ((HB.out.cell (World.block_lt_of_cell? w _ hw223_1)).trans hw223_1), ((HB.out.cell (World.block_lt_of_cell? w _ hw223_2)).trans hw223_2), ((HB.out.cell (World.block_lt_of_cell? w _ hw223_3)).trans hw223_3), ((HB.out.cell (World.block_lt_of_cell? w _ hw223_4)).trans hw223_4), ((HB.out.cell (World.block_lt_of_cell? w _ hw225_0)).trans hw225_0), ((HB.out.cell (World.block_lt_of_cell? w _ hw225_1)).trans hw225_1), ((HB.out.cell (World.block_lt_of_cell? w _ hw225_2)).trans hw225_2), ((HB.out.cell (World.block_lt_of_cell? w _ hw225_3)).trans hw225_3), ((HB.out.cell (World.block_lt_of_cell? w _ hw225_4)).trans hw225_4)⟩ (fun hHeld => ?_); refine with_tabW spec_TellerRight.tab6 spec_TellerRight.bits6 (fun HT_ HW_ => ?_)
          generalize wr.drew = w27 at BK219 HB HR223_4 HR225_4 hx223_0 hx223_1 hx223_2 hx223_3 hx223_4 hx225_0 hx225_1 hx225_2 hx225_3 hx225_4 hHeld ⊢
          refine Qx (i := 0) (N := some 40) (v := ?_) (a' := ?_) #[true, false, false, false, false, false, false, false, false, false, false, false, false, false, false, false, false, false] rfl rfl (Qt HT_.out (by kernel_rfl)) (fun _ _ _ h => h) (Or.inl ⟨by rfl, ?_⟩) ?_ ?_
          rotate_left
          ·intro w'
           go_simp
           with_reducible rfl
          rotate_left
          ·simp only [Act.put, List.setIfInBounds_toArray, List.set_cons_zero, List.set_cons_succ, Qr, Qs]
           rfl
          refine Qx (i := 2) (N := some 42) (v := ?_) (a' := ?_) #[true, false, true, false, false, false, false, false, false, false, false, false, false, false, false, false, false, false] rfl rfl (Qt HT_.out (by kernel_rfl)) (fun _ _ _ h => h) (Or.inl ⟨by rfl, ?_⟩) ?_ ?_
          rotate_left
          ·intro w'
           go_simp
           with_reducible rfl
          rotate_left
          ·simp only [Act.put, List.setIfInBounds_toArray, List.set_cons_zero, List.set_cons_succ, Qr, Qs]
           rfl
          refine take_ (i := 1) (N := some 41) (v := ?_) (a' := ?_) #[true, true, true, false, false, false, false, false, false, false, false, false, false, false, false, false, false, false] rfl rfl (Qz HT_.out HW_.out (by kernel_rfl)) (fun _ _ _ h => h) (Or.inl ⟨by rfl, ?_⟩) hHeld ?_ ?_
          rotate_left
          ·rintro w' ⟨s0, s1, s2, s3, s4, s5, s6, s7, s8, s9, s10, s11, s12, s13⟩
           go_simp
           with_reducible rfl
          rotate_left
          ·simp only [Act.put, List.setIfInBounds_toArray, List.set_cons_zero, List.set_cons_succ, Qr, Qs]
           rfl
          refine Qx (i := 3) (N := some 43) (v := ?_) (a' := ?_) #[true, true, true, true, false, false, false, false, false, false, false, false, false, false, false, false, false, false] rfl rfl (Qt HT_.out (by kernel_rfl)) (fun _ _ _ h => h) (Or.inl ⟨by rfl, ?_⟩) ?_ ?_
          rotate_left
          ·intro w'
           go_simp
           with_reducible rfl
          rotate_left
          ·simp only [Act.put, List.setIfInBounds_toArray, List.set_cons_zero, List.set_cons_succ, Qr, Qs]
           rfl
          refine take_ (i := 4) (N := some 44) (v := ?_) (a' := ?_) #[true, true, true, true, true, false, false, false, false, false, false, false, false, false, false, false, false, false] rfl rfl (Qz HT_.out HW_.out (by kernel_rfl)) (fun _ _ _ h => h) (Or.inl ⟨by rfl, ?_⟩) hHeld ?_ ?_
          rotate_left
          ·rintro w' ⟨s0, s1, s2, s3, s4, s5, s6, s7, s8, s9, s10, s11, s12, s13⟩
           go_simp
           with_reducible rfl
          rotate_left
          ·simp only [Act.put, List.setIfInBounds_toArray, List.set_cons_zero, List.set_cons_succ, Qr, Qs]
           rfl
          refine one_ (i := 5) (N := some 45) #[true, true, true, true, true, true, false, false, false, false, false, false, false, false, false, false, false, false] rfl rfl (one_of HT_.out (by kernel_rfl)) (by decide) (fun K hK => ?_)
          refine goes_ Try.func89 (by kernel_rfl) rfl #[.agg #[.int .i64 ((Qp l0_2 x3_2).f0), .int .i64 ((Qp l0_2 x3_2).f1), .int .i64 ((Qp l0_2 x3_2).f2), .int .i64 ((Qp l0_2 x3_2).f3), .slice A223_4 ((Qp l0_2 x3_2).f4).length c223_4]] (by rfl) rfl rfl (by (try simp only [List.map_toArray, List.map_cons, List.map_nil]); first | done | rfl | (simp only [List.length_drop, List.length_take]; rfl)) ?_
          with_reducible refine (spec_PipeRight.calls k2 ((Qp l0_2 x3_2).f0) ((Qp l0_2 x3_2).f1) ((Qp l0_2 x3_2).f2) ((Qp l0_2 x3_2).f3) _ _ ((Qp l0_2 x3_2).f4) true _ ?side1 ?side2 A20.out).mono ?_
          (case side1 => repeat (first | exact (Kd.C_below HR223_4.out HB.out) | (with_reducible refine Kd.C_alloc ?_ _) | (with_reducible refine Kd.C_drewN ?_ _) | (with_reducible refine Kd.C_drew ?_)))
          (case side2 => exact HC223_4.out)
          rintro e w28 ⟨rfl, hb⟩
          refine ⟨_, rfl, ?_⟩
          have n0_ := Aside0.mk (Qo (g := gb219) (o := .cells #[.int .i64 a0_0, .int .i64 a0_1, .slice (some ad223) l0_2.length c0_2, .slice A0_3 l0_3.length c0_3] 57 (0, 0)) (by (with_reducible repeat (first | refine Qg ?_ _ | refine Qi ?_ | refine Qh ?_ _)); exact BK219.out) hb)
          have n1_ := Aside0.mk (Qn (by repeat (first | (with_reducible first | exact HB.out | apply Qe | apply Qc | apply Qd | refine Qf ?_ GE219.out) | exact HB.out)) hb)
          clear BK219
          clear HB
          have BK219 := n0_
          have HB := n1_
          clear n0_ n1_
          (try clear hb)
          (try clear hb2)
          (try clear hk)
          (try clear hi)
          refine hK.out _ _ ⟨(Qa BK219.out 0).trans rfl, (Qa BK219.out 1).trans rfl, (Qa BK219.out 2).trans rfl, (Qa BK219.out 3).trans rfl, ((HB.out.cell (World.block_lt_of_cell? w _ hw223_0)).trans hw223_0), ((HB.out.cell (World.block_lt_of_cell? w _ hw223_1)).trans hw223_1), ((HB.out.cell (World.block_lt_of_cell? w _ hw223_2)).trans hw223_2), ((HB.out.cell (World.block_lt_of_cell? w _ hw223_3)).trans hw223_3), ((HB.out.cell (World.block_lt_of_cell? w _ hw223_4)).trans hw223_4), ((HB.out.cell (World.block_lt_of_cell? w _ hw225_0)).trans hw225_0), ((HB.out.cell (World.block_lt_of_cell? w _ hw225_1)).trans hw225_1), ((HB.out.cell (World.block_lt_of_cell? w _ hw225_2)).trans hw225_2), ((HB.out.cell (World.block_lt_of_cell? w _ hw225_3)).trans hw225_3), ((HB.out.cell (World.block_lt_of_cell? w _ hw225_4)).trans hw225_4)⟩ (fun hHeld => ?_)
          clear hK K
          refine norm_ (a' := ?_) ?_ ?_
          rotate_left
          ·show Act.put _ (some 45) _ = _
           simp only [Act.put, List.setIfInBounds_toArray, List.set_cons_zero, List.set_cons_succ, Qr, Qs]
           rfl
          refine Qx (i := 6) (N := some 46) (v := ?_) (a' := ?_) #[true, true, true, true, true, true, true, false, false, false, false, false, false, false, false, false, false, false] rfl rfl (Qt HT_.out (by kernel_rfl)) (fun _ _ _ h => h) (Or.inl ⟨by rfl, ?_⟩) ?_ ?_
          rotate_left
          ·intro w'
           go_simp
           with_reducible rfl
          rotate_left
          ·simp only [Act.put, List.setIfInBounds_toArray, List.set_cons_zero, List.set_cons_succ, Qr, Qs]
           rfl
          refine Qx (i := 7) (N := some 47) (v := ?_) (a' := ?_) #[true, true, true, true, true, true, true, true, false, false, false, false, false, false, false, false, false, false] rfl rfl (Qt HT_.out (by kernel_rfl)) (fun _ _ _ h => h) (Or.inl ⟨by rfl, ?_⟩) ?_ ?_
          rotate_left
          ·intro w'
           go_simp
           with_reducible rfl
          rotate_left
          ·simp only [Act.put, List.setIfInBounds_toArray, List.set_cons_zero, List.set_cons_succ, Qr, Qs]
           rfl
          refine Qx (i := 8) (N := some 48) (v := ?_) (a' := ?_) #[true, true, true, true, true, true, true, true, true, false, false, false, false, false, false, false, false, false] rfl rfl (Qt HT_.out (by kernel_rfl)) (fun _ _ _ h => h) (Or.inl ⟨by rfl, ?_⟩) ?_ ?_
          rotate_left
          ·intro w'
           go_simp
           with_reducible rfl
          rotate_left
          ·simp only [Act.put, List.setIfInBounds_toArray, List.set_cons_zero, List.set_cons_succ, Qr, Qs]
           rfl
          refine Qx (i := 10) (N := some 50) (v := ?_) (a' := ?_) #[true, true, true, true, true, true, true, true, true, false, true, false, false, false, false, false, false, false] rfl rfl (Qt HT_.out (by kernel_rfl)) (fun _ _ _ h => h) (Or.inl ⟨by rfl, ?_⟩) ?_ ?_
          rotate_left
          ·intro w'
           go_simp
           with_reducible rfl
          rotate_left
          ·simp only [Act.put, List.setIfInBounds_toArray, List.set_cons_zero, List.set_cons_succ, Qr, Qs]
           rfl
          refine Qx (i := 14) (N := some 54) (v := ?_) (a' := ?_) #[true, true, true, true, true, true, true, true, true, false, true, false, false, false, true, false, false, false] rfl rfl (Qt HT_.out (by kernel_rfl)) (fun _ _ _ h => h) (Or.inl ⟨by rfl, ?_⟩) ?_ ?_
          rotate_left
          ·intro w'
           go_simp
           with_reducible rfl
          rotate_left
          ·simp only [Act.put, List.setIfInBounds_toArray, List.set_cons_zero, List.set_cons_succ, Qr, Qs]
           rfl
          refine take_ (i := 9) (N := some 49) (v := ?_) (a' := ?_) #[true, true, true, true, true, true, true, true, true, true, true, false, false, false, true, false, false, false] rfl rfl (Qz HT_.out HW_.out (by kernel_rfl)) (fun _ _ _ h => h) (Or.inl ⟨by rfl, ?_⟩) hHeld ?_ ?_
          rotate_left
          ·rintro w' ⟨s0, s1, s2, s3, s4, s5, s6, s7, s8, s9, s10, s11, s12, s13⟩
           go_simp
           with_reducible rfl
          rotate_left
          ·simp only [Act.put, List.setIfInBounds_toArray, List.set_cons_zero, List.set_cons_succ, Qr, Qs]
           rfl
          refine Qx (i := 11) (N := some 51) (v := ?_) (a' := ?_) #[true, true, true, true, true, true, true, true, true, true, true, true, false, false, true, false, false, false] rfl rfl (Qt HT_.out (by kernel_rfl)) (fun _ _ _ h => h) (Or.inl ⟨by rfl, ?_⟩) ?_ ?_
          rotate_left
          ·intro w'
           go_simp
           with_reducible rfl
          rotate_left
          ·simp only [Act.put, List.setIfInBounds_toArray, List.set_cons_zero, List.set_cons_succ, Qr, Qs]
           rfl
          refine Qx (i := 12) (N := some 52) (v := ?_) (a' := ?_) #[true, true, true, true, true, true, true, true, true, true, true, true, true, false, true, false, false, false] rfl rfl (Qt HT_.out (by kernel_rfl)) (fun _ _ _ h => h) (Or.inl ⟨by rfl, ?_⟩) ?_ ?_
          rotate_left
          ·intro w'
           go_simp
           with_reducible rfl
          rotate_left
          ·simp only [Act.put, List.setIfInBounds_toArray, List.set_cons_zero, List.set_cons_succ, Qr, Qs]
           rfl
          refine take_ (i := 13) (N := some 53) (v := ?_) (a' := ?_) #[true, true, true, true, true, true, true, true, true, true, true, true, true, true, true, false, false, false] rfl rfl (Qz HT_.out HW_.out (by kernel_rfl)) (fun _ _ _ h => h) (Or.inl ⟨by rfl, ?_⟩) hHeld ?_ ?_
          rotate_left
          ·rintro w' ⟨s0, s1, s2, s3, s4, s5, s6, s7, s8, s9, s10, s11, s12, s13⟩
           go_simp
           with_reducible rfl
          rotate_left
          ·simp only [Act.put, List.setIfInBounds_toArray, List.set_cons_zero, List.set_cons_succ, Qr, Qs]
           rfl
          refine take_ (i := 15) (N := some 55) (v := ?_) (a' := ?_) #[true, true, true, true, true, true, true, true, true, true, true, true, true, true, true, true, false, false] rfl rfl (Qz HT_.out HW_.out (by kernel_rfl)) (fun _ _ _ h => h) (Or.inl ⟨by rfl, ?_⟩) hHeld ?_ ?_
          rotate_left
          ·rintro w' ⟨s0, s1, s2, s3, s4, s5, s6, s7, s8, s9, s10, s11, s12, s13⟩
           go_simp
           with_reducible rfl
          rotate_left
          ·simp only [Act.put, List.setIfInBounds_toArray, List.set_cons_zero, List.set_cons_succ, Qr, Qs]
           rfl
          refine Qx (i := 16) (N := some 56) (v := ?_) (a' := ?_) #[true, true, true, true, true, true, true, true, true, true, true, true, true, true, true, true, true, false] rfl rfl (Qt HT_.out (by kernel_rfl)) (fun _ _ _ h => h) (Or.inl ⟨by rfl, ?_⟩) ?_ ?_
          rotate_left
          ·intro w'
           go_simp
           with_reducible rfl
          rotate_left
          ·simp only [Act.put, List.setIfInBounds_toArray, List.set_cons_zero, List.set_cons_succ, Qr, Qs]
           rfl
          refine Qx (i := 17) (N := some 57) (v := ?_) (a' := ?_) #[true, true, true, true, true, true, true, true, true, true, true, true, true, true, true, true, true, true] rfl rfl (Qt HT_.out (by kernel_rfl)) (fun _ _ _ h => h) (Or.inl ⟨by rfl, ?_⟩) ?_ ?_
          rotate_left
          ·intro w'
           go_simp
           with_reducible rfl
          rotate_left
          ·simp only [Act.put, List.setIfInBounds_toArray, List.set_cons_zero, List.set_cons_succ, Qr, Qs]
           rfl
          refine done_ (done_of HT_.out (by kernel_rfl)) ?_
          try go_wp2
          go_roundg k2
          case measure => have := HJ1.out; have := HK2.out; omega
          case rel => exact ⟨(wrap64 (x3_2 + 1)), (by first | rfl | (simp; done) | (simp [*]; done)), H', ⟨by have := HJ1.out; have := HK2.out; omega⟩, ⟨by (with_reducible repeat (first | refine Qg ?_ _ | refine Qi ?_ | refine Qh ?_ _)); exact BK219.out⟩, ⟨by repeat (first | (with_reducible first | exact HB.out | apply Qe | apply Qc | apply Qd | refine Qf ?_ GE219.out) | exact HB.out)⟩⟩
        ·replace c21 := Bool.eq_false_iff.mpr c21
         subst c21
         have H1 : (some false) = some r := by rw [if_neg (show ¬ (false = true) by decide)] at H; exact H
         clear H
         have H := H1
         clear H1
         obtain rfl := Option.some.inj H
         have hcz29_0 : wr.cell? ⟨gb219, 0, none⟩ = some (.int .i64 a0_0) := (Qa BK219.out 0).trans rfl
         have hcz29_1 : wr.cell? ⟨gb219, 1, none⟩ = some (.int .i64 a0_1) := (Qa BK219.out 1).trans rfl
         have hcz29_2 : wr.cell? ⟨gb219, 2, none⟩ = some (.slice A0_2 l0_2.length c0_2) := (Qa BK219.out 2).trans rfl
         have hcz29_3 : wr.cell? ⟨gb219, 3, none⟩ = some (.slice A0_3 l0_3.length c0_3) := (Qa BK219.out 3).trans rfl
         have hfz29_0 := Qb BK219.out 0
         have hfz29_1 := Qb BK219.out 1
         have hfz29_2 := Qb BK219.out 2
         have hfz29_3 := Qb BK219.out 3
         try go_wp2
         have n0_ := Aside0.mk (Qi BK219.out)
         have n1_ := Aside0.mk (Qd HB.out)
         clear BK219
         clear HB
         have BK219 := n0_
         have HB := n1_
         clear n0_ n1_
         have p223 : 0 ≤ (x3_2 : Int) := of_decide_eq_true (by assumption)
         have q223 : x3_2 < (l0_2.length : Int) := of_decide_eq_true (by assumption)
         obtain ⟨ad223, A223_4, c223_4, e223, hx223_0, hx223_1, hx223_2, hx223_3, hx223_4, hl223_4, hi223_4⟩ := at_T100 HR0_2.out x3_2 p223 q223
         have hw223_4 := hx223_4
         have hw223_3 := hx223_3
         have hw223_2 := hx223_2
         have hw223_1 := hx223_1
         have hw223_0 := hx223_0
         cases e223
         replace hx223_0 := (HB.out.cell (World.block_lt_of_cell? w _ hx223_0)).trans hx223_0
         replace hx223_1 := (HB.out.cell (World.block_lt_of_cell? w _ hx223_1)).trans hx223_1
         replace hx223_2 := (HB.out.cell (World.block_lt_of_cell? w _ hx223_2)).trans hx223_2
         replace hx223_3 := (HB.out.cell (World.block_lt_of_cell? w _ hx223_3)).trans hx223_3
         replace hx223_4 := (HB.out.cell (World.block_lt_of_cell? w _ hx223_4)).trans hx223_4
         have HR223_4 := Aside0.mk hi223_4
         have HC223_4 := Aside0.mk hl223_4
         clear hi223_4 hl223_4
         replace p223 := eq_true p223
         replace q223 := eq_true q223
         refine start_ (n := 18) (S := fun w' => w'.cell? ⟨gb219, 0, none⟩ = some (.int .i64 a0_0) ∧ w'.cell? ⟨gb219, 1, none⟩ = some (.int .i64 a0_1) ∧ w'.cell? ⟨gb219, 2, none⟩ = some (.slice (some ad223) l0_2.length c0_2) ∧ w'.cell? ⟨gb219, 3, none⟩ = some (.slice A0_3 l0_3.length c0_3) ∧ w'.cell? (ad223.add ((x3_2).toNat * 5)) = some (.int .i64 ((Qp l0_2 x3_2).f0)) ∧ w'.cell? ⟨(ad223.add ((x3_2).toNat * 5)).block, (ad223.add ((x3_2).toNat * 5)).off + 1, none⟩ = some (.int .i64 ((Qp l0_2 x3_2).f1)) ∧ w'.cell? ⟨(ad223.add ((x3_2).toNat * 5)).block, (ad223.add ((x3_2).toNat * 5)).off + 2, none⟩ = some (.int .i64 ((Qp l0_2 x3_2).f2)) ∧ w'.cell? ⟨(ad223.add ((x3_2).toNat * 5)).block, (ad223.add ((x3_2).toNat * 5)).off + 3, none⟩ = some (.int .i64 ((Qp l0_2 x3_2).f3)) ∧ w'.cell? ⟨(ad223.add ((x3_2).toNat * 5)).block, (ad223.add ((x3_2).toNat * 5)).off + 4, none⟩ = some (.slice A223_4 ((Qp l0_2 x3_2).f4).length c223_4)) (ds := []) #[false, false, false, false, false, false, false, false, false, false, false, false, false, false, false, false, false, false] (by kernel_rfl) rfl rfl ⟨(Qa BK219.out 0).trans rfl, (Qa BK219.out 1).trans rfl, (Qa BK219.out 2).trans rfl, (Qa BK219.out 3).trans rfl, ((HB.out.cell (World.block_lt_of_cell? w _ hw223_0)).trans hw223_0), ((HB.out.cell (World.block_lt_of_cell? w _ hw223_1)).trans hw223_1), ((HB.out.cell (World.block_lt_of_cell? w _ hw223_2)).trans hw223_2), ((HB.out.cell (World.block_lt_of_cell? w _ hw223_3)).trans hw223_3), ((HB.out.cell (World.block_lt_of_cell? w _ hw223_4)).trans hw223_4)⟩ (fun hHeld => ?_); refine with_tabW spec_TellerRight.tab6 spec_TellerRight.bits6 (fun HT_ HW_ => ?_)
         generalize wr.drew = w30 at BK219 HB HR223_4 hx223_0 hx223_1 hx223_2 hx223_3 hx223_4 hHeld ⊢
         refine Qx (i := 0) (N := some 40) (v := ?_) (a' := ?_) #[true, false, false, false, false, false, false, false, false, false, false, false, false, false, false, false, false, false] rfl rfl (Qt HT_.out (by kernel_rfl)) (fun _ _ _ h => h) (Or.inl ⟨by rfl, ?_⟩) ?_ ?_
         rotate_left
         ·intro w'
          go_simp
          with_reducible rfl
         rotate_left
         ·simp only [Act.put, List.setIfInBounds_toArray, List.set_cons_zero, List.set_cons_succ, Qr, Qs]
          rfl
         refine Qx (i := 2) (N := some 42) (v := ?_) (a' := ?_) #[true, false, true, false, false, false, false, false, false, false, false, false, false, false, false, false, false, false] rfl rfl (Qt HT_.out (by kernel_rfl)) (fun _ _ _ h => h) (Or.inl ⟨by rfl, ?_⟩) ?_ ?_
         rotate_left
         ·intro w'
          go_simp
          with_reducible rfl
         rotate_left
         ·simp only [Act.put, List.setIfInBounds_toArray, List.set_cons_zero, List.set_cons_succ, Qr, Qs]
          rfl
         refine take_ (i := 1) (N := some 41) (v := ?_) (a' := ?_) #[true, true, true, false, false, false, false, false, false, false, false, false, false, false, false, false, false, false] rfl rfl (Qz HT_.out HW_.out (by kernel_rfl)) (fun _ _ _ h => h) (Or.inl ⟨by rfl, ?_⟩) hHeld ?_ ?_
         rotate_left
         ·rintro w' ⟨s0, s1, s2, s3, s4, s5, s6, s7, s8⟩
          go_simp
          with_reducible rfl
         rotate_left
         ·simp only [Act.put, List.setIfInBounds_toArray, List.set_cons_zero, List.set_cons_succ, Qr, Qs]
          rfl
         refine Qx (i := 3) (N := some 43) (v := ?_) (a' := ?_) #[true, true, true, true, false, false, false, false, false, false, false, false, false, false, false, false, false, false] rfl rfl (Qt HT_.out (by kernel_rfl)) (fun _ _ _ h => h) (Or.inl ⟨by rfl, ?_⟩) ?_ ?_
         rotate_left
         ·intro w'
          go_simp
          with_reducible rfl
         rotate_left
         ·simp only [Act.put, List.setIfInBounds_toArray, List.set_cons_zero, List.set_cons_succ, Qr, Qs]
          rfl
         refine take_ (i := 4) (N := some 44) (v := ?_) (a' := ?_) #[true, true, true, true, true, false, false, false, false, false, false, false, false, false, false, false, false, false] rfl rfl (Qz HT_.out HW_.out (by kernel_rfl)) (fun _ _ _ h => h) (Or.inl ⟨by rfl, ?_⟩) hHeld ?_ ?_
         rotate_left
         ·rintro w' ⟨s0, s1, s2, s3, s4, s5, s6, s7, s8⟩
          go_simp
          with_reducible rfl
         rotate_left
         ·simp only [Act.put, List.setIfInBounds_toArray, List.set_cons_zero, List.set_cons_succ, Qr, Qs]
          rfl
         refine one_ (i := 5) (N := some 45) #[true, true, true, true, true, true, false, false, false, false, false, false, false, false, false, false, false, false] rfl rfl (one_of HT_.out (by kernel_rfl)) (by decide) (fun K hK => ?_)
         refine goes_ Try.func89 (by kernel_rfl) rfl #[.agg #[.int .i64 ((Qp l0_2 x3_2).f0), .int .i64 ((Qp l0_2 x3_2).f1), .int .i64 ((Qp l0_2 x3_2).f2), .int .i64 ((Qp l0_2 x3_2).f3), .slice A223_4 ((Qp l0_2 x3_2).f4).length c223_4]] (by rfl) rfl rfl (by (try simp only [List.map_toArray, List.map_cons, List.map_nil]); first | done | rfl | (simp only [List.length_drop, List.length_take]; rfl)) ?_
         with_reducible refine (spec_PipeRight.calls k2 ((Qp l0_2 x3_2).f0) ((Qp l0_2 x3_2).f1) ((Qp l0_2 x3_2).f2) ((Qp l0_2 x3_2).f3) _ _ ((Qp l0_2 x3_2).f4) false _ ?side1 ?side2 A20.out).mono ?_
         (case side1 => repeat (first | exact (Kd.C_below HR223_4.out HB.out) | (with_reducible refine Kd.C_alloc ?_ _) | (with_reducible refine Kd.C_drewN ?_ _) | (with_reducible refine Kd.C_drew ?_)))
         (case side2 => exact HC223_4.out)
         rintro e w31 ⟨rfl, hb⟩
         refine ⟨_, rfl, ?_⟩
         have n0_ := Aside0.mk (Qo (g := gb219) (o := .cells #[.int .i64 a0_0, .int .i64 a0_1, .slice (some ad223) l0_2.length c0_2, .slice A0_3 l0_3.length c0_3] 57 (0, 0)) (by (with_reducible repeat (first | refine Qg ?_ _ | refine Qi ?_ | refine Qh ?_ _)); exact BK219.out) hb)
         have n1_ := Aside0.mk (Qn (by repeat (first | (with_reducible first | exact HB.out | apply Qe | apply Qc | apply Qd | refine Qf ?_ GE219.out) | exact HB.out)) hb)
         clear BK219
         clear HB
         have BK219 := n0_
         have HB := n1_
         clear n0_ n1_
         (try clear hb)
         (try clear hb2)
         (try clear hk)
         (try clear hi)
         refine hK.out _ _ ⟨(Qa BK219.out 0).trans rfl, (Qa BK219.out 1).trans rfl, (Qa BK219.out 2).trans rfl, (Qa BK219.out 3).trans rfl, ((HB.out.cell (World.block_lt_of_cell? w _ hw223_0)).trans hw223_0), ((HB.out.cell (World.block_lt_of_cell? w _ hw223_1)).trans hw223_1), ((HB.out.cell (World.block_lt_of_cell? w _ hw223_2)).trans hw223_2), ((HB.out.cell (World.block_lt_of_cell? w _ hw223_3)).trans hw223_3), ((HB.out.cell (World.block_lt_of_cell? w _ hw223_4)).trans hw223_4)⟩ (fun hHeld => ?_)
         clear hK K
         refine norm_ (a' := ?_) ?_ ?_
         rotate_left
         ·show Act.put _ (some 45) _ = _
          simp only [Act.put, List.setIfInBounds_toArray, List.set_cons_zero, List.set_cons_succ, Qr, Qs]
          rfl
         refine Qx (i := 6) (N := some 46) (v := ?_) (a' := ?_) #[true, true, true, true, true, true, true, false, false, false, false, false, false, false, false, false, false, false] rfl rfl (Qt HT_.out (by kernel_rfl)) (fun _ _ _ h => h) (Or.inl ⟨by rfl, ?_⟩) ?_ ?_
         rotate_left
         ·intro w'
          go_simp
          with_reducible rfl
         rotate_left
         ·simp only [Act.put, List.setIfInBounds_toArray, List.set_cons_zero, List.set_cons_succ, Qr, Qs]
          rfl
         refine Qx (i := 7) (N := some 47) (v := ?_) (a' := ?_) #[true, true, true, true, true, true, true, true, false, false, false, false, false, false, false, false, false, false] rfl rfl (Qt HT_.out (by kernel_rfl)) (fun _ _ _ h => h) (Or.inl ⟨by rfl, ?_⟩) ?_ ?_
         rotate_left
         ·intro w'
          go_simp
          with_reducible rfl
         rotate_left
         ·simp only [Act.put, List.setIfInBounds_toArray, List.set_cons_zero, List.set_cons_succ, Qr, Qs]
          rfl
         refine Qx (i := 8) (N := some 48) (v := undef) (a' := ?_) #[true, true, true, true, true, true, true, true, true, false, false, false, false, false, false, false, false, false] rfl rfl (Qt HT_.out (by kernel_rfl)) (fun _ _ _ h => h) (Or.inr ⟨by rfl, rfl⟩) ?_ ?_
         rotate_left
         ·simp only [Act.put, List.setIfInBounds_toArray, List.set_cons_zero, List.set_cons_succ, Qr, Qs]
          rfl
         refine Qx (i := 9) (N := some 49) (v := undef) (a' := ?_) #[true, true, true, true, true, true, true, true, true, true, false, false, false, false, false, false, false, false] rfl rfl (Qt HT_.out (by kernel_rfl)) (fun _ _ _ h => h) (Or.inr ⟨by rfl, rfl⟩) ?_ ?_
         rotate_left
         ·simp only [Act.put, List.setIfInBounds_toArray, List.set_cons_zero, List.set_cons_succ, Qr, Qs]
          rfl
         refine Qx (i := 10) (N := some 50) (v := undef) (a' := ?_) #[true, true, true, true, true, true, true, true, true, true, true, false, false, false, false, false, false, false] rfl rfl (Qt HT_.out (by kernel_rfl)) (fun _ _ _ h => h) (Or.inr ⟨by rfl, rfl⟩) ?_ ?_
         rotate_left
         ·simp only [Act.put, List.setIfInBounds_toArray, List.set_cons_zero, List.set_cons_succ, Qr, Qs]
          rfl
         refine Qx (i := 11) (N := some 51) (v := undef) (a' := ?_) #[true, true, true, true, true, true, true, true, true, true, true, true, false, false, false, false, false, false] rfl rfl (Qt HT_.out (by kernel_rfl)) (fun _ _ _ h => h) (Or.inr ⟨by rfl, rfl⟩) ?_ ?_
         rotate_left
         ·simp only [Act.put, List.setIfInBounds_toArray, List.set_cons_zero, List.set_cons_succ, Qr, Qs]
          rfl
         refine Qx (i := 12) (N := some 52) (v := undef) (a' := ?_) #[true, true, true, true, true, true, true, true, true, true, true, true, true, false, false, false, false, false] rfl rfl (Qt HT_.out (by kernel_rfl)) (fun _ _ _ h => h) (Or.inr ⟨by rfl, rfl⟩) ?_ ?_
         rotate_left
         ·simp only [Act.put, List.setIfInBounds_toArray, List.set_cons_zero, List.set_cons_succ, Qr, Qs]
          rfl
         refine Qx (i := 13) (N := some 53) (v := undef) (a' := ?_) #[true, true, true, true, true, true, true, true, true, true, true, true, true, true, false, false, false, false] rfl rfl (Qt HT_.out (by kernel_rfl)) (fun _ _ _ h => h) (Or.inr ⟨by rfl, rfl⟩) ?_ ?_
         rotate_left
         ·simp only [Act.put, List.setIfInBounds_toArray, List.set_cons_zero, List.set_cons_succ, Qr, Qs]
          rfl
         refine Qx (i := 14) (N := some 54) (v := undef) (a' := ?_) #[true, true, true, true, true, true, true, true, true, true, true, true, true, true, true, false, false, false] rfl rfl (Qt HT_.out (by kernel_rfl)) (fun _ _ _ h => h) (Or.inr ⟨by rfl, rfl⟩) ?_ ?_
         rotate_left
         ·simp only [Act.put, List.setIfInBounds_toArray, List.set_cons_zero, List.set_cons_succ, Qr, Qs]
          rfl
         refine Qx (i := 15) (N := some 55) (v := undef) (a' := ?_) #[true, true, true, true, true, true, true, true, true, true, true, true, true, true, true, true, false, false] rfl rfl (Qt HT_.out (by kernel_rfl)) (fun _ _ _ h => h) (Or.inr ⟨by rfl, rfl⟩) ?_ ?_
         rotate_left
         ·simp only [Act.put, List.setIfInBounds_toArray, List.set_cons_zero, List.set_cons_succ, Qr, Qs]
          rfl
         refine Qx (i := 16) (N := some 56) (v := undef) (a' := ?_) #[true, true, true, true, true, true, true, true, true, true, true, true, true, true, true, true, true, false] rfl rfl (Qt HT_.out (by kernel_rfl)) (fun _ _ _ h => h) (Or.inr ⟨by rfl, rfl⟩) ?_ ?_
         rotate_left
         ·simp only [Act.put, List.setIfInBounds_toArray, List.set_cons_zero, List.set_cons_succ, Qr, Qs]
          rfl
         refine Qx (i := 17) (N := some 57) (v := ?_) (a' := ?_) #[true, true, true, true, true, true, true, true, true, true, true, true, true, true, true, true, true, true] rfl rfl (Qt HT_.out (by kernel_rfl)) (fun _ _ _ h => h) (Or.inl ⟨by rfl, ?_⟩) ?_ ?_
         rotate_left
         ·intro w'
          go_simp
          with_reducible rfl
         rotate_left
         ·simp only [Act.put, List.setIfInBounds_toArray, List.set_cons_zero, List.set_cons_succ, Qr, Qs]
          rfl
         refine done_ (done_of HT_.out (by kernel_rfl)) ?_
         try go_wp2
         go_ret
         exact ⟨by first | rfl | (simp [Qm, Ql] <;> rfl) | (simp [*, Qm, Ql] <;> rfl), by repeat (first | (with_reducible first | exact HB.out | apply Qe | apply Qc | apply Qd | refine Qf ?_ GE219.out) | exact HB.out)⟩
       ·rw [if_neg c19] at H
        exact absurd H (by simp)
      ·rw [if_neg c18] at H
       have c18b0 : decide (x3_2 < (l0_2.length : Int)) = false := decide_eq_false c18
       clear c18
       have H' := Aside0.mk H
       clear H
       have hcz32_0 : wr.cell? ⟨gb219, 0, none⟩ = some (.int .i64 a0_0) := (Qa BK219.out 0).trans rfl
       have hcz32_1 : wr.cell? ⟨gb219, 1, none⟩ = some (.int .i64 a0_1) := (Qa BK219.out 1).trans rfl
       have hcz32_2 : wr.cell? ⟨gb219, 2, none⟩ = some (.slice A0_2 l0_2.length c0_2) := (Qa BK219.out 2).trans rfl
       have hcz32_3 : wr.cell? ⟨gb219, 3, none⟩ = some (.slice A0_3 l0_3.length c0_3) := (Qa BK219.out 3).trans rfl
       have hfz32_0 := Qb BK219.out 0
       have hfz32_1 := Qb BK219.out 1
       have hfz32_2 := Qb BK219.out 2
       have hfz32_3 := Qb BK219.out 3
       go_wp2
       go_loopg [4] k2 (fun kq v4 w' => ∃ (x4_3 : Int), v4 = .int .i64 x4_3 ∧ Aside0 (spec_TellerRight.l1 kq x4_3 a0_0 a0_1 l0_2 l0_3 = some r) ∧ Aside0 (kq ≤ k2) ∧ Aside0 (w'.heap[gb219]? = some (.cells #[.int .i64 a0_0, .int .i64 a0_1, (.slice A0_2 l0_2.length c0_2), (.slice A0_3 l0_3.length c0_3)] 57 (0, 0))) ∧ Aside0 (Below w.heap.size w w'))
       case atStart => exact ⟨(0), (by first | rfl | (simp; done) | (simp [*]; done)), H', ⟨Nat.le_refl _⟩, ⟨by (with_reducible repeat (first | refine Qg ?_ _ | refine Qi ?_ | refine Qh ?_ _)); exact BK219.out⟩, ⟨by repeat (first | (with_reducible first | exact HB.out | apply Qe | apply Qc | apply Qd | refine Qf ?_ GE219.out) | exact HB.out)⟩⟩
       case round =>
        clear H'
        try clear c1
        try clear c2
        try clear p2
        try clear q2
        try clear hx2
        try clear p6
        try clear c8
        try clear c18
        try clear c18b0
        try clear c19
        try clear c21
        try clear c22
        try clear c22b0
        try clear p22
        try clear q22
        try clear hx22
        try clear hcz26_0
        try clear hcz26_1
        try clear hcz26_2
        try clear hcz26_3
        try clear hcz29_0
        try clear hcz29_1
        try clear hcz29_2
        try clear hcz29_3
        try clear hcz32_0
        try clear hcz32_1
        try clear hcz32_2
        try clear hcz32_3
        try clear hfz26_0
        try clear hfz26_1
        try clear hfz26_2
        try clear hfz26_3
        try clear hfz29_0
        try clear hfz29_1
        try clear hfz29_2
        try clear hfz29_3
        try clear hfz32_0
        try clear hfz32_1
        try clear hfz32_2
        try clear hfz32_3
        try clear hx223_0
        try clear hx223_1
        try clear hx223_2
        try clear hx223_3
        try clear hx223_4
        try clear hx225_0
        try clear hx225_1
        try clear hx225_2
        try clear hx225_3
        try clear hx225_4
        try clear p223
        try clear p225
        try clear q223
        try clear q225
        obtain ⟨x4_3, rfl, HA, HK3, BK219, HB⟩ := hrel
        cases gk with
        | zero => exact absurd HA.out (by simp [spec_TellerRight.l1])
        | succ k3 =>
         have H := HA.out
         clear HA
         simp only [spec_TellerRight.l1] at H
         by_cases c33 : x4_3 < (l0_3.length : Int)
         ·rw [if_pos c33] at H
          have c33b0 : decide (x4_3 < (l0_3.length : Int)) = true := decide_eq_true c33
          clear c33
          by_cases c34 : 0 ≤ x4_3
          ·rw [if_pos c34] at H
           have c34b0 : decide (0 ≤ x4_3) = true := decide_eq_true c34
           clear c34
           by_cases c35 : ((Qk l0_3 x4_3).f0) > (l0_2.length : Int)
           ·rw [if_pos c35] at H
            have c35b0 : decide ((l0_2.length : Int) < ((Qk l0_3 x4_3).f0)) = true := decide_eq_true c35
            clear c35
            obtain rfl := Option.some.inj H
            have hcz36_0 : wr.cell? ⟨gb219, 0, none⟩ = some (.int .i64 a0_0) := (Qa BK219.out 0).trans rfl
            have hcz36_1 : wr.cell? ⟨gb219, 1, none⟩ = some (.int .i64 a0_1) := (Qa BK219.out 1).trans rfl
            have hcz36_2 : wr.cell? ⟨gb219, 2, none⟩ = some (.slice A0_2 l0_2.length c0_2) := (Qa BK219.out 2).trans rfl
            have hcz36_3 : wr.cell? ⟨gb219, 3, none⟩ = some (.slice A0_3 l0_3.length c0_3) := (Qa BK219.out 3).trans rfl
            have hfz36_0 := Qb BK219.out 0
            have hfz36_1 := Qb BK219.out 1
            have hfz36_2 := Qb BK219.out 2
            have hfz36_3 := Qb BK219.out 3
            try go_wp2
            have n0_ := Aside0.mk (Qi BK219.out)
            have n1_ := Aside0.mk (Qd HB.out)
            clear BK219
            clear HB
            have BK219 := n0_
            have HB := n1_
            clear n0_ n1_
            have p226 : 0 ≤ (x4_3 : Int) := of_decide_eq_true (by assumption)
            have q226 : x4_3 < (l0_3.length : Int) := of_decide_eq_true (by assumption)
            obtain ⟨ad226, e226, hx226_0, hx226_1, hx226_2, hx226_3, hx226_4, hx226_5, hx226_6, hx226_7, hx226_8⟩ := at_T73 HR0_3.out x4_3 p226 q226
            have hw226_8 := hx226_8
            have hw226_7 := hx226_7
            have hw226_6 := hx226_6
            have hw226_5 := hx226_5
            have hw226_4 := hx226_4
            have hw226_3 := hx226_3
            have hw226_2 := hx226_2
            have hw226_1 := hx226_1
            have hw226_0 := hx226_0
            cases e226
            replace hx226_0 := (HB.out.cell (World.block_lt_of_cell? w _ hx226_0)).trans hx226_0
            replace hx226_1 := (HB.out.cell (World.block_lt_of_cell? w _ hx226_1)).trans hx226_1
            replace hx226_2 := (HB.out.cell (World.block_lt_of_cell? w _ hx226_2)).trans hx226_2
            replace hx226_3 := (HB.out.cell (World.block_lt_of_cell? w _ hx226_3)).trans hx226_3
            replace hx226_4 := (HB.out.cell (World.block_lt_of_cell? w _ hx226_4)).trans hx226_4
            replace hx226_5 := (HB.out.cell (World.block_lt_of_cell? w _ hx226_5)).trans hx226_5
            replace hx226_6 := (HB.out.cell (World.block_lt_of_cell? w _ hx226_6)).trans hx226_6
            replace hx226_7 := (HB.out.cell (World.block_lt_of_cell? w _ hx226_7)).trans hx226_7
            replace hx226_8 := (HB.out.cell (World.block_lt_of_cell? w _ hx226_8)).trans hx226_8
            replace p226 := eq_true p226
            replace q226 := eq_true q226
            refine start_ (n := 26) (S := fun w' => w'.cell? ⟨gb219, 0, none⟩ = some (.int .i64 a0_0) ∧ w'.cell? ⟨gb219, 1, none⟩ = some (.int .i64 a0_1) ∧ w'.cell? ⟨gb219, 2, none⟩ = some (.slice A0_2 l0_2.length c0_2) ∧ w'.cell? ⟨gb219, 3, none⟩ = some (.slice (some ad226) l0_3.length c0_3) ∧ w'.cell? (ad226.add ((x4_3).toNat * 9)) = some (.int .i64 ((Qk l0_3 x4_3).f0)) ∧ w'.cell? ⟨(ad226.add ((x4_3).toNat * 9)).block, (ad226.add ((x4_3).toNat * 9)).off + 1, none⟩ = some (.bool ((Qk l0_3 x4_3).f1)) ∧ w'.cell? ⟨(ad226.add ((x4_3).toNat * 9)).block, (ad226.add ((x4_3).toNat * 9)).off + 2, none⟩ = some (.int .i64 ((Qk l0_3 x4_3).f2.f0)) ∧ w'.cell? ⟨(ad226.add ((x4_3).toNat * 9)).block, (ad226.add ((x4_3).toNat * 9)).off + 3, none⟩ = some (.int .i64 ((Qk l0_3 x4_3).f2.f1)) ∧ w'.cell? ⟨(ad226.add ((x4_3).toNat * 9)).block, (ad226.add ((x4_3).toNat * 9)).off + 4, none⟩ = some (.int .i64 ((Qk l0_3 x4_3).f2.f2)) ∧ w'.cell? ⟨(ad226.add ((x4_3).toNat * 9)).block, (ad226.add ((x4_3).toNat * 9)).off + 5, none⟩ = some (.int .i64 ((Qk l0_3 x4_3).f2.f3)) ∧ w'.cell? ⟨(ad226.add ((x4_3).toNat * 9)).block, (ad226.add ((x4_3).toNat * 9)).off + 6, none⟩ = some (.int .i64 ((Qk l0_3 x4_3).f2.f4)) ∧ w'.cell? ⟨(ad226.add ((x4_3).toNat * 9)).block, (ad226.add ((x4_3).toNat * 9)).off + 7, none⟩ = some (.int .i64 ((Qk l0_3 x4_3).f2.f5)) ∧ w'.cell? ⟨(ad226.add ((x4_3).toNat * 9)).block, (ad226.add ((x4_3).toNat * 9)).off + 8, none⟩ = some (.bool ((Qk l0_3 x4_3).f2.f6))) (ds := []) #[false, false, false, false, false, false, false, false, false, false, false, false, false, false, false, false, false, false, false, false, false, false, false, false, false, false] (by kernel_rfl) rfl rfl ⟨(Qa BK219.out 0).trans rfl, (Qa BK219.out 1).trans rfl, (Qa BK219.out 2).trans rfl, (Qa BK219.out 3).trans rfl, ((HB.out.cell (World.block_lt_of_cell? w _ hw226_0)).trans hw226_0), ((HB.out.cell (World.block_lt_of_cell? w _ hw226_1)).trans hw226_1), ((HB.out.cell (World.block_lt_of_cell? w _ hw226_2)).trans hw226_2), ((HB.out.cell (World.block_lt_of_cell? w _ hw226_3)).trans hw226_3), ((HB.out.cell (World.block_lt_of_cell? w _ hw226_4)).trans hw226_4), ((HB.out.cell (World.block_lt_of_cell? w _ hw226_5)).trans hw226_5), ((HB.out.cell (World.block_lt_of_cell? w _ hw226_6)).trans hw226_6), ((HB.out.cell (World.block_lt_of_cell? w _ hw226_7)).trans hw226_7), ((HB.out.cell (World.block_lt_of_cell? w _ hw226_8)).trans hw226_8)⟩ (fun hHeld => ?_); refine with_tabW spec_TellerRight.tab11 spec_TellerRight.bits11 (fun HT_ HW_ => ?_)
            generalize wr.drew = w37 at BK219 HB hx226_0 hx226_1 hx226_2 hx226_3 hx226_4 hx226_5 hx226_6 hx226_7 hx226_8 hHeld ⊢
            refine Qx (i := 0) (N := some 65) (v := ?_) (a' := ?_) #[true, false, false, false, false, false, false, false, false, false, false, false, false, false, false, false, false, false, false, false, false, false, false, false, false, false] rfl rfl (Qt HT_.out (by kernel_rfl)) (fun _ _ _ h => h) (Or.inl ⟨by rfl, ?_⟩) ?_ ?_
            rotate_left
            ·intro w'
             go_simp
             with_reducible rfl
            rotate_left
            ·simp only [Act.put, List.setIfInBounds_toArray, List.set_cons_zero, List.set_cons_succ, Qr, Qs]
             rfl
            refine Qx (i := 2) (N := some 67) (v := ?_) (a' := ?_) #[true, false, true, false, false, false, false, false, false, false, false, false, false, false, false, false, false, false, false, false, false, false, false, false, false, false] rfl rfl (Qt HT_.out (by kernel_rfl)) (fun _ _ _ h => h) (Or.inl ⟨by rfl, ?_⟩) ?_ ?_
            rotate_left
            ·intro w'
             go_simp
             with_reducible rfl
            rotate_left
            ·simp only [Act.put, List.setIfInBounds_toArray, List.set_cons_zero, List.set_cons_succ, Qr, Qs]
             rfl
            refine Qx (i := 6) (N := some 71) (v := ?_) (a' := ?_) #[true, false, true, false, false, false, true, false, false, false, false, false, false, false, false, false, false, false, false, false, false, false, false, false, false, false] rfl rfl (Qt HT_.out (by kernel_rfl)) (fun _ _ _ h => h) (Or.inl ⟨by rfl, ?_⟩) ?_ ?_
            rotate_left
            ·intro w'
             go_simp
             with_reducible rfl
            rotate_left
            ·simp only [Act.put, List.setIfInBounds_toArray, List.set_cons_zero, List.set_cons_succ, Qr, Qs]
             rfl
            refine take_ (i := 1) (N := some 66) (v := ?_) (a' := ?_) #[true, true, true, false, false, false, true, false, false, false, false, false, false, false, false, false, false, false, false, false, false, false, false, false, false, false] rfl rfl (Qz HT_.out HW_.out (by kernel_rfl)) (fun _ _ _ h => h) (Or.inl ⟨by rfl, ?_⟩) hHeld ?_ ?_
            rotate_left
            ·rintro w' ⟨s0, s1, s2, s3, s4, s5, s6, s7, s8, s9, s10, s11, s12⟩
             go_simp
             with_reducible rfl
            rotate_left
            ·simp only [Act.put, List.setIfInBounds_toArray, List.set_cons_zero, List.set_cons_succ, Qr, Qs]
             rfl
            refine Qx (i := 3) (N := some 68) (v := ?_) (a' := ?_) #[true, true, true, true, false, false, true, false, false, false, false, false, false, false, false, false, false, false, false, false, false, false, false, false, false, false] rfl rfl (Qt HT_.out (by kernel_rfl)) (fun _ _ _ h => h) (Or.inl ⟨by rfl, ?_⟩) ?_ ?_
            rotate_left
            ·intro w'
             go_simp
             with_reducible rfl
            rotate_left
            ·simp only [Act.put, List.setIfInBounds_toArray, List.set_cons_zero, List.set_cons_succ, Qr, Qs]
             rfl
            refine Qx (i := 4) (N := some 69) (v := ?_) (a' := ?_) #[true, true, true, true, true, false, true, false, false, false, false, false, false, false, false, false, false, false, false, false, false, false, false, false, false, false] rfl rfl (Qt HT_.out (by kernel_rfl)) (fun _ _ _ h => h) (Or.inl ⟨by rfl, ?_⟩) ?_ ?_
            rotate_left
            ·intro w'
             go_simp
             with_reducible rfl
            rotate_left
            ·simp only [Act.put, List.setIfInBounds_toArray, List.set_cons_zero, List.set_cons_succ, Qr, Qs]
             rfl
            refine take_ (i := 5) (N := some 70) (v := ?_) (a' := ?_) #[true, true, true, true, true, true, true, false, false, false, false, false, false, false, false, false, false, false, false, false, false, false, false, false, false, false] rfl rfl (Qz HT_.out HW_.out (by kernel_rfl)) (fun _ _ _ h => h) (Or.inl ⟨by rfl, ?_⟩) hHeld ?_ ?_
            rotate_left
            ·rintro w' ⟨s0, s1, s2, s3, s4, s5, s6, s7, s8, s9, s10, s11, s12⟩
             go_simp
             with_reducible rfl
            rotate_left
            ·simp only [Act.put, List.setIfInBounds_toArray, List.set_cons_zero, List.set_cons_succ, Qr, Qs]
             rfl
            refine take_ (i := 7) (N := some 72) (v := ?_) (a' := ?_) #[true, true, true, true, true, true, true, true, false, false, false, false, false, false, false, false, false, false, false, false, false, false, false, false, false, false] rfl rfl (Qz HT_.out HW_.out (by kernel_rfl)) (fun _ _ _ h => h) (Or.inl ⟨by rfl, ?_⟩) hHeld ?_ ?_
            rotate_left
            ·rintro w' ⟨s0, s1, s2, s3, s4, s5, s6, s7, s8, s9, s10, s11, s12⟩
             go_simp
             with_reducible rfl
            rotate_left
            ·simp only [Act.put, List.setIfInBounds_toArray, List.set_cons_zero, List.set_cons_succ, Qr, Qs]
             rfl
            refine Qx (i := 8) (N := some 73) (v := ?_) (a' := ?_) #[true, true, true, true, true, true, true, true, true, false, false, false, false, false, false, false, false, false, false, false, false, false, false, false, false, false] rfl rfl (Qt HT_.out (by kernel_rfl)) (fun _ _ _ h => h) (Or.inl ⟨by rfl, ?_⟩) ?_ ?_
            rotate_left
            ·intro w'
             go_simp
             with_reducible rfl
            rotate_left
            ·simp only [Act.put, List.setIfInBounds_toArray, List.set_cons_zero, List.set_cons_succ, Qr, Qs]
             rfl
            refine Qx (i := 9) (N := some 74) (v := ?_) (a' := ?_) #[true, true, true, true, true, true, true, true, true, true, false, false, false, false, false, false, false, false, false, false, false, false, false, false, false, false] rfl rfl (Qt HT_.out (by kernel_rfl)) (fun _ _ _ h => h) (Or.inl ⟨by rfl, ?_⟩) ?_ ?_
            rotate_left
            ·intro w'
             go_simp
             with_reducible rfl
            rotate_left
            ·simp only [Act.put, List.setIfInBounds_toArray, List.set_cons_zero, List.set_cons_succ, Qr, Qs]
             rfl
            refine Qx (i := 10) (N := some 75) (v := ?_) (a' := ?_) #[true, true, true, true, true, true, true, true, true, true, true, false, false, false, false, false, false, false, false, false, false, false, false, false, false, false] rfl rfl (Qt HT_.out (by kernel_rfl)) (fun _ _ _ h => h) (Or.inl ⟨by rfl, ?_⟩) ?_ ?_
            rotate_left
            ·intro w'
             go_simp
             with_reducible rfl
            rotate_left
            ·simp only [Act.put, List.setIfInBounds_toArray, List.set_cons_zero, List.set_cons_succ, Qr, Qs]
             rfl
            refine Qx (i := 11) (N := some 76) (v := undef) (a' := ?_) #[true, true, true, true, true, true, true, true, true, true, true, true, false, false, false, false, false, false, false, false, false, false, false, false, false, false] rfl rfl (Qt HT_.out (by kernel_rfl)) (fun _ _ _ h => h) (Or.inr ⟨by rfl, rfl⟩) ?_ ?_
            rotate_left
            ·simp only [Act.put, List.setIfInBounds_toArray, List.set_cons_zero, List.set_cons_succ, Qr, Qs]
             rfl
            refine Qx (i := 12) (N := some 77) (v := undef) (a' := ?_) #[true, true, true, true, true, true, true, true, true, true, true, true, true, false, false, false, false, false, false, false, false, false, false, false, false, false] rfl rfl (Qt HT_.out (by kernel_rfl)) (fun _ _ _ h => h) (Or.inr ⟨by rfl, rfl⟩) ?_ ?_
            rotate_left
            ·simp only [Act.put, List.setIfInBounds_toArray, List.set_cons_zero, List.set_cons_succ, Qr, Qs]
             rfl
            refine Qx (i := 13) (N := some 78) (v := undef) (a' := ?_) #[true, true, true, true, true, true, true, true, true, true, true, true, true, true, false, false, false, false, false, false, false, false, false, false, false, false] rfl rfl (Qt HT_.out (by kernel_rfl)) (fun _ _ _ h => h) (Or.inr ⟨by rfl, rfl⟩) ?_ ?_
            rotate_left
            ·simp only [Act.put, List.setIfInBounds_toArray, List.set_cons_zero, List.set_cons_succ, Qr, Qs]
             rfl
            refine Qx (i := 14) (N := some 79) (v := undef) (a' := ?_) #[true, true, true, true, true, true, true, true, true, true, true, true, true, true, true, false, false, false, false, false, false, false, false, false, false, false] rfl rfl (Qt HT_.out (by kernel_rfl)) (fun _ _ _ h => h) (Or.inr ⟨by rfl, rfl⟩) ?_ ?_
            rotate_left
            ·simp only [Act.put, List.setIfInBounds_toArray, List.set_cons_zero, List.set_cons_succ, Qr, Qs]
             rfl
            refine Qx (i := 15) (N := some 80) (v := undef) (a' := ?_) #[true, true, true, true, true, true, true, true, true, true, true, true, true, true, true, true, false, false, false, false, false, false, false, false, false, false] rfl rfl (Qt HT_.out (by kernel_rfl)) (fun _ _ _ h => h) (Or.inr ⟨by rfl, rfl⟩) ?_ ?_
            rotate_left
            ·simp only [Act.put, List.setIfInBounds_toArray, List.set_cons_zero, List.set_cons_succ, Qr, Qs]
             rfl
            refine Qx (i := 16) (N := some 81) (v := undef) (a' := ?_) #[true, true, true, true, true, true, true, true, true, true, true, true, true, true, true, true, true, false, false, false, false, false, false, false, false, false] rfl rfl (Qt HT_.out (by kernel_rfl)) (fun _ _ _ h => h) (Or.inr ⟨by rfl, rfl⟩) ?_ ?_
            rotate_left
            ·simp only [Act.put, List.setIfInBounds_toArray, List.set_cons_zero, List.set_cons_succ, Qr, Qs]
             rfl
            refine Qx (i := 17) (N := some 82) (v := undef) (a' := ?_) #[true, true, true, true, true, true, true, true, true, true, true, true, true, true, true, true, true, true, false, false, false, false, false, false, false, false] rfl rfl (Qt HT_.out (by kernel_rfl)) (fun _ _ _ h => h) (Or.inr ⟨by rfl, rfl⟩) ?_ ?_
            rotate_left
            ·simp only [Act.put, List.setIfInBounds_toArray, List.set_cons_zero, List.set_cons_succ, Qr, Qs]
             rfl
            refine Qx (i := 18) (N := some 83) (v := undef) (a' := ?_) #[true, true, true, true, true, true, true, true, true, true, true, true, true, true, true, true, true, true, true, false, false, false, false, false, false, false] rfl rfl (Qt HT_.out (by kernel_rfl)) (fun _ _ _ h => h) (Or.inr ⟨by rfl, rfl⟩) ?_ ?_
            rotate_left
            ·simp only [Act.put, List.setIfInBounds_toArray, List.set_cons_zero, List.set_cons_succ, Qr, Qs]
             rfl
            refine Qx (i := 19) (N := some 84) (v := undef) (a' := ?_) #[true, true, true, true, true, true, true, true, true, true, true, true, true, true, true, true, true, true, true, true, false, false, false, false, false, false] rfl rfl (Qt HT_.out (by kernel_rfl)) (fun _ _ _ h => h) (Or.inr ⟨by rfl, rfl⟩) ?_ ?_
            rotate_left
            ·simp only [Act.put, List.setIfInBounds_toArray, List.set_cons_zero, List.set_cons_succ, Qr, Qs]
             rfl
            refine Qx (i := 20) (N := some 85) (v := undef) (a' := ?_) #[true, true, true, true, true, true, true, true, true, true, true, true, true, true, true, true, true, true, true, true, true, false, false, false, false, false] rfl rfl (Qt HT_.out (by kernel_rfl)) (fun _ _ _ h => h) (Or.inr ⟨by rfl, rfl⟩) ?_ ?_
            rotate_left
            ·simp only [Act.put, List.setIfInBounds_toArray, List.set_cons_zero, List.set_cons_succ, Qr, Qs]
             rfl
            refine Qx (i := 21) (N := some 86) (v := undef) (a' := ?_) #[true, true, true, true, true, true, true, true, true, true, true, true, true, true, true, true, true, true, true, true, true, true, false, false, false, false] rfl rfl (Qt HT_.out (by kernel_rfl)) (fun _ _ _ h => h) (Or.inr ⟨by rfl, rfl⟩) ?_ ?_
            rotate_left
            ·simp only [Act.put, List.setIfInBounds_toArray, List.set_cons_zero, List.set_cons_succ, Qr, Qs]
             rfl
            refine Qx (i := 22) (N := some 87) (v := undef) (a' := ?_) #[true, true, true, true, true, true, true, true, true, true, true, true, true, true, true, true, true, true, true, true, true, true, true, false, false, false] rfl rfl (Qt HT_.out (by kernel_rfl)) (fun _ _ _ h => h) (Or.inr ⟨by rfl, rfl⟩) ?_ ?_
            rotate_left
            ·simp only [Act.put, List.setIfInBounds_toArray, List.set_cons_zero, List.set_cons_succ, Qr, Qs]
             rfl
            refine Qx (i := 23) (N := some 88) (v := undef) (a' := ?_) #[true, true, true, true, true, true, true, true, true, true, true, true, true, true, true, true, true, true, true, true, true, true, true, true, false, false] rfl rfl (Qt HT_.out (by kernel_rfl)) (fun _ _ _ h => h) (Or.inr ⟨by rfl, rfl⟩) ?_ ?_
            rotate_left
            ·simp only [Act.put, List.setIfInBounds_toArray, List.set_cons_zero, List.set_cons_succ, Qr, Qs]
             rfl
            refine Qx (i := 24) (N := some 89) (v := undef) (a' := ?_) #[true, true, true, true, true, true, true, true, true, true, true, true, true, true, true, true, true, true, true, true, true, true, true, true, true, false] rfl rfl (Qt HT_.out (by kernel_rfl)) (fun _ _ _ h => h) (Or.inr ⟨by rfl, rfl⟩) ?_ ?_
            rotate_left
            ·simp only [Act.put, List.setIfInBounds_toArray, List.set_cons_zero, List.set_cons_succ, Qr, Qs]
             rfl
            refine Qx (i := 25) (N := some 90) (v := ?_) (a' := ?_) #[true, true, true, true, true, true, true, true, true, true, true, true, true, true, true, true, true, true, true, true, true, true, true, true, true, true] rfl rfl (Qt HT_.out (by kernel_rfl)) (fun _ _ _ h => h) (Or.inl ⟨by rfl, ?_⟩) ?_ ?_
            rotate_left
            ·intro w'
             go_simp
             with_reducible rfl
            rotate_left
            ·simp only [Act.put, List.setIfInBounds_toArray, List.set_cons_zero, List.set_cons_succ, Qr, Qs]
             rfl
            refine done_ (done_of HT_.out (by kernel_rfl)) ?_
            try go_wp2
            go_ret
            exact ⟨by first | rfl | (simp [Qm, Ql] <;> rfl) | (simp [*, Qm, Ql] <;> rfl), by repeat (first | (with_reducible first | exact HB.out | apply Qe | apply Qc | apply Qd | refine Qf ?_ GE219.out) | exact HB.out)⟩
           ·rw [if_neg c35] at H
            have c35b0 : decide ((l0_2.length : Int) < ((Qk l0_3 x4_3).f0)) = false := decide_eq_false c35
            clear c35
            by_cases c38 : ((Qk l0_3 x4_3).f2.f4) = ((Qk l0_3 x4_3).f0)
            ·rw [if_pos c38] at H
             have c38b0 : (((Qk l0_3 x4_3).f2.f4) == ((Qk l0_3 x4_3).f0)) = true := beq_iff_eq.mpr c38
             have c38b1 : (((Qk l0_3 x4_3).f2.f4) != ((Qk l0_3 x4_3).f0)) = false := bne_eq_false_iff_eq.mpr c38
             clear c38
             have H' := Aside0.mk H
             clear H
             have hcz39_0 : wr.cell? ⟨gb219, 0, none⟩ = some (.int .i64 a0_0) := (Qa BK219.out 0).trans rfl
             have hcz39_1 : wr.cell? ⟨gb219, 1, none⟩ = some (.int .i64 a0_1) := (Qa BK219.out 1).trans rfl
             have hcz39_2 : wr.cell? ⟨gb219, 2, none⟩ = some (.slice A0_2 l0_2.length c0_2) := (Qa BK219.out 2).trans rfl
             have hcz39_3 : wr.cell? ⟨gb219, 3, none⟩ = some (.slice A0_3 l0_3.length c0_3) := (Qa BK219.out 3).trans rfl
             have hfz39_0 := Qb BK219.out 0
             have hfz39_1 := Qb BK219.out 1
             have hfz39_2 := Qb BK219.out 2
             have hfz39_3 := Qb BK219.out 3
             try go_wp2
             have n0_ := Aside0.mk (Qi BK219.out)
             have n1_ := Aside0.mk (Qd HB.out)
             clear BK219
             clear HB
             have BK219 := n0_
             have HB := n1_
             clear n0_ n1_
             have p226 : 0 ≤ (x4_3 : Int) := of_decide_eq_true (by assumption)
             have q226 : x4_3 < (l0_3.length : Int) := of_decide_eq_true (by assumption)
             obtain ⟨ad226, e226, hx226_0, hx226_1, hx226_2, hx226_3, hx226_4, hx226_5, hx226_6, hx226_7, hx226_8⟩ := at_T73 HR0_3.out x4_3 p226 q226
             have hw226_8 := hx226_8
             have hw226_7 := hx226_7
             have hw226_6 := hx226_6
             have hw226_5 := hx226_5
             have hw226_4 := hx226_4
             have hw226_3 := hx226_3
             have hw226_2 := hx226_2
             have hw226_1 := hx226_1
             have hw226_0 := hx226_0
             cases e226
             replace hx226_0 := (HB.out.cell (World.block_lt_of_cell? w _ hx226_0)).trans hx226_0
             replace hx226_1 := (HB.out.cell (World.block_lt_of_cell? w _ hx226_1)).trans hx226_1
             replace hx226_2 := (HB.out.cell (World.block_lt_of_cell? w _ hx226_2)).trans hx226_2
             replace hx226_3 := (HB.out.cell (World.block_lt_of_cell? w _ hx226_3)).trans hx226_3
             replace hx226_4 := (HB.out.cell (World.block_lt_of_cell? w _ hx226_4)).trans hx226_4
             replace hx226_5 := (HB.out.cell (World.block_lt_of_cell? w _ hx226_5)).trans hx226_5
             replace hx226_6 := (HB.out.cell (World.block_lt_of_cell? w _ hx226_6)).trans hx226_6
             replace hx226_7 := (HB.out.cell (World.block_lt_of_cell? w _ hx226_7)).trans hx226_7
             replace hx226_8 := (HB.out.cell (World.block_lt_of_cell? w _ hx226_8)).trans hx226_8
             replace p226 := eq_true p226
             replace q226 := eq_true q226
             have p227 : 0 ≤ (x4_3 : Int) := of_decide_eq_true (by assumption)
             have q227 : x4_3 < (l0_3.length : Int) := of_decide_eq_true (by assumption)
             obtain ⟨ad227, e227, hx227_0, hx227_1, hx227_2, hx227_3, hx227_4, hx227_5, hx227_6, hx227_7, hx227_8⟩ := at_T73 HR0_3.out x4_3 p227 q227
             have hw227_8 := hx227_8
             have hw227_7 := hx227_7
             have hw227_6 := hx227_6
             have hw227_5 := hx227_5
             have hw227_4 := hx227_4
             have hw227_3 := hx227_3
             have hw227_2 := hx227_2
             have hw227_1 := hx227_1
             have hw227_0 := hx227_0
             obtain rfl : ad226 = ad227 := (by injection e227)
             replace hx227_0 := (HB.out.cell (World.block_lt_of_cell? w _ hx227_0)).trans hx227_0
             replace hx227_1 := (HB.out.cell (World.block_lt_of_cell? w _ hx227_1)).trans hx227_1
             replace hx227_2 := (HB.out.cell (World.block_lt_of_cell? w _ hx227_2)).trans hx227_2
             replace hx227_3 := (HB.out.cell (World.block_lt_of_cell? w _ hx227_3)).trans hx227_3
             replace hx227_4 := (HB.out.cell (World.block_lt_of_cell? w _ hx227_4)).trans hx227_4
             replace hx227_5 := (HB.out.cell (World.block_lt_of_cell? w _ hx227_5)).trans hx227_5
             replace hx227_6 := (HB.out.cell (World.block_lt_of_cell? w _ hx227_6)).trans hx227_6
             replace hx227_7 := (HB.out.cell (World.block_lt_of_cell? w _ hx227_7)).trans hx227_7
             replace hx227_8 := (HB.out.cell (World.block_lt_of_cell? w _ hx227_8)).trans hx227_8
             replace p227 := eq_true p227
             replace q227 := eq_true q227
             have p228 : 0 ≤ (x4_3 : Int) := of_decide_eq_true (by assumption)
             have q228 : x4_3 < (l0_3.length : Int) := of_decide_eq_true (by assumption)
             obtain ⟨ad228, e228, hx228_0, hx228_1, hx228_2, hx228_3, hx228_4, hx228_5, hx228_6, hx228_7, hx228_8⟩ := at_T73 HR0_3.out x4_3 p228 q228
             have hw228_8 := hx228_8
             have hw228_7 := hx228_7
             have hw228_6 := hx228_6
             have hw228_5 := hx228_5
             have hw228_4 := hx228_4
             have hw228_3 := hx228_3
             have hw228_2 := hx228_2
             have hw228_1 := hx228_1
             have hw228_0 := hx228_0
             obtain rfl : ad226 = ad228 := (by injection e228)
             replace hx228_0 := (HB.out.cell (World.block_lt_of_cell? w _ hx228_0)).trans hx228_0
             replace hx228_1 := (HB.out.cell (World.block_lt_of_cell? w _ hx228_1)).trans hx228_1
             replace hx228_2 := (HB.out.cell (World.block_lt_of_cell? w _ hx228_2)).trans hx228_2
             replace hx228_3 := (HB.out.cell (World.block_lt_of_cell? w _ hx228_3)).trans hx228_3
             replace hx228_4 := (HB.out.cell (World.block_lt_of_cell? w _ hx228_4)).trans hx228_4
             replace hx228_5 := (HB.out.cell (World.block_lt_of_cell? w _ hx228_5)).trans hx228_5
             replace hx228_6 := (HB.out.cell (World.block_lt_of_cell? w _ hx228_6)).trans hx228_6
             replace hx228_7 := (HB.out.cell (World.block_lt_of_cell? w _ hx228_7)).trans hx228_7
             replace hx228_8 := (HB.out.cell (World.block_lt_of_cell? w _ hx228_8)).trans hx228_8
             replace p228 := eq_true p228
             replace q228 := eq_true q228
             refine start_ (n := 26) (S := fun w' => w'.cell? ⟨gb219, 0, none⟩ = some (.int .i64 a0_0) ∧ w'.cell? ⟨gb219, 1, none⟩ = some (.int .i64 a0_1) ∧ w'.cell? ⟨gb219, 2, none⟩ = some (.slice A0_2 l0_2.length c0_2) ∧ w'.cell? ⟨gb219, 3, none⟩ = some (.slice (some ad226) l0_3.length c0_3) ∧ w'.cell? (ad226.add ((x4_3).toNat * 9)) = some (.int .i64 ((Qk l0_3 x4_3).f0)) ∧ w'.cell? ⟨(ad226.add ((x4_3).toNat * 9)).block, (ad226.add ((x4_3).toNat * 9)).off + 1, none⟩ = some (.bool ((Qk l0_3 x4_3).f1)) ∧ w'.cell? ⟨(ad226.add ((x4_3).toNat * 9)).block, (ad226.add ((x4_3).toNat * 9)).off + 2, none⟩ = some (.int .i64 ((Qk l0_3 x4_3).f2.f0)) ∧ w'.cell? ⟨(ad226.add ((x4_3).toNat * 9)).block, (ad226.add ((x4_3).toNat * 9)).off + 3, none⟩ = some (.int .i64 ((Qk l0_3 x4_3).f2.f1)) ∧ w'.cell? ⟨(ad226.add ((x4_3).toNat * 9)).block, (ad226.add ((x4_3).toNat * 9)).off + 4, none⟩ = some (.int .i64 ((Qk l0_3 x4_3).f2.f2)) ∧ w'.cell? ⟨(ad226.add ((x4_3).toNat * 9)).block, (ad226.add ((x4_3).toNat * 9)).off + 5, none⟩ = some (.int .i64 ((Qk l0_3 x4_3).f2.f3)) ∧ w'.cell? ⟨(ad226.add ((x4_3).toNat * 9)).block, (ad226.add ((x4_3).toNat * 9)).off + 6, none⟩ = some (.int .i64 ((Qk l0_3 x4_3).f2.f4)) ∧ w'.cell? ⟨(ad226.add ((x4_3).toNat * 9)).block, (ad226.add ((x4_3).toNat * 9)).off + 7, none⟩ = some (.int .i64 ((Qk l0_3 x4_3).f2.f5)) ∧ w'.cell? ⟨(ad226.add ((x4_3).toNat * 9)).block, (ad226.add ((x4_3).toNat * 9)).off + 8, none⟩ = some (.bool ((Qk l0_3 x4_3).f2.f6)) ∧ w'.cell? (ad226.add ((x4_3).toNat * 9)) = some (.int .i64 ((Qk l0_3 x4_3).f0)) ∧ w'.cell? ⟨(ad226.add ((x4_3).toNat * 9)).block, (ad226.add ((x4_3).toNat * 9)).off + 1, none⟩ = some (.bool ((Qk l0_3 x4_3).f1)) ∧ w'.cell? ⟨(ad226.add ((x4_3).toNat * 9)).block, (ad226.add ((x4_3).toNat * 9)).off + 2, none⟩ = some (.int .i64 ((Qk l0_3 x4_3).f2.f0)) ∧ w'.cell? ⟨(ad226.add ((x4_3).toNat * 9)).block, (ad226.add ((x4_3).toNat * 9)).off + 3, none⟩ = some (.int .i64 ((Qk l0_3 x4_3).f2.f1)) ∧ w'.cell? ⟨(ad226.add ((x4_3).toNat * 9)).block, (ad226.add ((x4_3).toNat * 9)).off + 4, none⟩ = some (.int .i64 ((Qk l0_3 x4_3).f2.f2)) ∧ w'.cell? ⟨(ad226.add ((x4_3).toNat * 9)).block, (ad226.add ((x4_3).toNat * 9)).off + 5, none⟩ = some (.int .i64 ((Qk l0_3 x4_3).f2.f3)) ∧ w'.cell? ⟨(ad226.add ((x4_3).toNat * 9)).block, (ad226.add ((x4_3).toNat * 9)).off + 6, none⟩ = some (.int .i64 ((Qk l0_3 x4_3).f2.f4)) ∧ w'.cell? ⟨(ad226.add ((x4_3).toNat * 9)).block, (ad226.add ((x4_3).toNat * 9)).off + 7, none⟩ = some (.int .i64 ((Qk l0_3 x4_3).f2.f5)) ∧ w'.cell? ⟨(ad226.add ((x4_3).toNat * 9)).block, (ad226.add ((x4_3).toNat * 9)).off + 8, none⟩ = some (.bool ((Qk l0_3 x4_3).f2.f6)) ∧ w'.cell? (ad226.add ((x4_3).toNat * 9)) = some (.int .i64 ((Qk l0_3 x4_3).f0)) ∧ w'.cell? ⟨(ad226.add ((x4_3).toNat * 9)).block, (ad226.add ((x4_3).toNat * 9)).off + 1, none⟩ = some (.bool ((Qk l0_3 x4_3).f1)) ∧ w'.cell? ⟨(ad226.add ((x4_3).toNat * 9)).block, (ad226.add ((x4_3).toNat * 9)).off + 2, none⟩ = some (.int .i64 ((Qk l0_3 x4_3).f2.f0)) ∧ w'.cell? ⟨(ad226.add ((x4_3).toNat * 9)).block, (ad226.add ((x4_3).toNat * 9)).off + 3, none⟩ = some (.int .i64 ((Qk l0_3 x4_3).f2.f1)) ∧ w'.cell? ⟨(ad226.add ((x4_3).toNat * 9)).block, (ad226.add ((x4_3).toNat * 9)).off + 4, none⟩ = some (.int .i64 ((Qk l0_3 x4_3).f2.f2)) ∧ w'.cell? ⟨(ad226.add ((x4_3).toNat * 9)).block, (ad226.add ((x4_3).toNat * 9)).off + 5, none⟩ = some (.int .i64 ((Qk l0_3 x4_3).f2.f3)) ∧ w'.cell? ⟨(ad226.add ((x4_3).toNat * 9)).block, (ad226.add ((x4_3).toNat * 9)).off + 6, none⟩ = some (.int .i64 ((Qk l0_3 x4_3).f2.f4)) ∧ w'.cell? ⟨(ad226.add ((x4_3).toNat * 9)).block, (ad226.add ((x4_3).toNat * 9)).off + 7, none⟩ = some (.int .i64 ((Qk l0_3 x4_3).f2.f5)) ∧ w'.cell? ⟨(ad226.add ((x4_3).toNat * 9)).block, (ad226.add ((x4_3).toNat * 9)).off + 8, none⟩ = some (.bool ((Qk l0_3 x4_3).f2.f6))) (ds := []) #[false, false, false, false, false, false, false, false, false, false, false, false, false, false, false, false, false, false, false, false, false, false, false, false, false, false] (by kernel_rfl) rfl rfl ⟨(Qa BK219.out 0).trans rfl, (Qa BK219.out 1).trans rfl, (Qa BK219.out 2).trans rfl, (Qa BK219.out 3).trans rfl, ((HB.out.cell (World.block_lt_of_cell? w _ hw226_0)).trans hw226_0), ((HB.out.cell (World.block_lt_of_cell? w _ hw226_1)).trans hw226_1), ((HB.out.cell (World.block_lt_of_cell? w _ hw226_2)).trans hw226_2), ((HB.out.cell (World.block_lt_of_cell? w _ hw226_3)).trans hw226_3), ((HB.out.cell (World.block_lt_of_cell? w _ hw226_4)).trans hw226_4), ((HB.out.cell (World.block_lt_of_cell? w _ hw226_5)).trans hw226_5), ((HB.out.cell (World.block_lt_of_cell? w _ hw226_6)).trans hw226_6), ((HB.out.cell (World.block_lt_of_cell? w _ hw226_7)).trans hw226_7), ((HB.out.cell (World.block_lt_of_cell? w _ hw226_8)).trans hw226_8), ((HB.out.cell (World.block_lt_of_cell? w _ hw227_0)).trans hw227_0), ((HB.out.cell (World.block_lt_of_cell? w _ hw227_1)).trans hw227_1), ((HB.out.cell (World.block_lt_of_cell? w _ hw227_2)).trans hw227_2), ((HB.out.cell (World.block_lt_of_cell? w _ hw227_3)).trans hw227_3), ((HB.out.cell (World.block_lt_of_cell? w _ hw227_4)).trans hw227_4), ((HB.out.cell (World.block_lt_of_cell? w _ hw227_5)).trans hw227_5), ((HB.out.cell (World.block_lt_of_cell? w _ hw227_6)).trans hw227_6), ((HB.out.cell (World.block_lt_of_cell? w _ hw227_7)).trans hw227_7), ((HB.out.cell (World.block_lt_of_cell? w _ hw227_8)).trans hw227_8), ((HB.out.cell (World.block_lt_of_cell? w _ hw228_0)).trans hw228_0), ((HB.out.cell (World.block_lt_of_cell? w _ hw228_1)).trans hw228_1), ((HB.out.cell (World.block_lt_of_cell? w _ hw228_2)).trans hw228_2), ((HB.out.cell (World.block_lt_of_cell? w _ hw228_3)).trans hw228_3), ((HB.out.cell (World.block_lt_of_cell? w _ hw228_4)).trans hw228_4), ((HB.out.cell (World.block_lt_of_cell? w _ hw228_5)).trans hw228_5), ((HB.out.cell (World.block_lt_of_cell? w _ hw228_6)).trans hw228_6), ((HB.out.cell (World.block_lt_of_cell? w _ hw228_7)).trans hw228_7), ((HB.out.cell (World.block_lt_of_cell? w _ hw228_8)).trans hw228_8)⟩ (fun hHeld => ?_); refine with_tabW spec_TellerRight.tab11 spec_TellerRight.bits11 (fun HT_ HW_ => ?_)
             generalize wr.drew = w40 at BK219 HB hx226_0 hx226_1 hx226_2 hx226_3 hx226_4 hx226_5 hx226_6 hx226_7 hx226_8 hx227_0 hx227_1 hx227_2 hx227_3 hx227_4 hx227_5 hx227_6 hx227_7 hx227_8 hx228_0 hx228_1 hx228_2 hx228_3 hx228_4 hx228_5 hx228_6 hx228_7 hx228_8 hHeld ⊢
             refine Qx (i := 0) (N := some 65) (v := ?_) (a' := ?_) #[true, false, false, false, false, false, false, false, false, false, false, false, false, false, false, false, false, false, false, false, false, false, false, false, false, false] rfl rfl (Qt HT_.out (by kernel_rfl)) (fun _ _ _ h => h) (Or.inl ⟨by rfl, ?_⟩) ?_ ?_
             rotate_left
             ·intro w'
              go_simp
              with_reducible rfl
             rotate_left
             ·simp only [Act.put, List.setIfInBounds_toArray, List.set_cons_zero, List.set_cons_succ, Qr, Qs]
              rfl
             refine Qx (i := 2) (N := some 67) (v := ?_) (a' := ?_) #[true, false, true, false, false, false, false, false, false, false, false, false, false, false, false, false, false, false, false, false, false, false, false, false, false, false] rfl rfl (Qt HT_.out (by kernel_rfl)) (fun _ _ _ h => h) (Or.inl ⟨by rfl, ?_⟩) ?_ ?_
             rotate_left
             ·intro w'
              go_simp
              with_reducible rfl
             rotate_left
             ·simp only [Act.put, List.setIfInBounds_toArray, List.set_cons_zero, List.set_cons_succ, Qr, Qs]
              rfl
             refine Qx (i := 6) (N := some 71) (v := ?_) (a' := ?_) #[true, false, true, false, false, false, true, false, false, false, false, false, false, false, false, false, false, false, false, false, false, false, false, false, false, false] rfl rfl (Qt HT_.out (by kernel_rfl)) (fun _ _ _ h => h) (Or.inl ⟨by rfl, ?_⟩) ?_ ?_
             rotate_left
             ·intro w'
              go_simp
              with_reducible rfl
             rotate_left
             ·simp only [Act.put, List.setIfInBounds_toArray, List.set_cons_zero, List.set_cons_succ, Qr, Qs]
              rfl
             refine take_ (i := 1) (N := some 66) (v := ?_) (a' := ?_) #[true, true, true, false, false, false, true, false, false, false, false, false, false, false, false, false, false, false, false, false, false, false, false, false, false, false] rfl rfl (Qz HT_.out HW_.out (by kernel_rfl)) (fun _ _ _ h => h) (Or.inl ⟨by rfl, ?_⟩) hHeld ?_ ?_
             rotate_left
             ·rintro w' ⟨s0, s1, s2, s3, s4, s5, s6, s7, s8, s9, s10, s11, s12, s13, s14, s15, s16, s17, s18, s19, s20, s21, s22, s23, s24, s25, s26, s27, s28, s29, s30⟩
              go_simp
              with_reducible rfl
             rotate_left
             ·simp only [Act.put, List.setIfInBounds_toArray, List.set_cons_zero, List.set_cons_succ, Qr, Qs]
              rfl
             refine Qx (i := 3) (N := some 68) (v := ?_) (a' := ?_) #[true, true, true, true, false, false, true, false, false, false, false, false, false, false, false, false, false, false, false, false, false, false, false, false, false, false] rfl rfl (Qt HT_.out (by kernel_rfl)) (fun _ _ _ h => h) (Or.inl ⟨by rfl, ?_⟩) ?_ ?_
             rotate_left
             ·intro w'
              go_simp
              with_reducible rfl
             rotate_left
             ·simp only [Act.put, List.setIfInBounds_toArray, List.set_cons_zero, List.set_cons_succ, Qr, Qs]
              rfl
             refine Qx (i := 4) (N := some 69) (v := ?_) (a' := ?_) #[true, true, true, true, true, false, true, false, false, false, false, false, false, false, false, false, false, false, false, false, false, false, false, false, false, false] rfl rfl (Qt HT_.out (by kernel_rfl)) (fun _ _ _ h => h) (Or.inl ⟨by rfl, ?_⟩) ?_ ?_
             rotate_left
             ·intro w'
              go_simp
              with_reducible rfl
             rotate_left
             ·simp only [Act.put, List.setIfInBounds_toArray, List.set_cons_zero, List.set_cons_succ, Qr, Qs]
              rfl
             refine take_ (i := 5) (N := some 70) (v := ?_) (a' := ?_) #[true, true, true, true, true, true, true, false, false, false, false, false, false, false, false, false, false, false, false, false, false, false, false, false, false, false] rfl rfl (Qz HT_.out HW_.out (by kernel_rfl)) (fun _ _ _ h => h) (Or.inl ⟨by rfl, ?_⟩) hHeld ?_ ?_
             rotate_left
             ·rintro w' ⟨s0, s1, s2, s3, s4, s5, s6, s7, s8, s9, s10, s11, s12, s13, s14, s15, s16, s17, s18, s19, s20, s21, s22, s23, s24, s25, s26, s27, s28, s29, s30⟩
              go_simp
              with_reducible rfl
             rotate_left
             ·simp only [Act.put, List.setIfInBounds_toArray, List.set_cons_zero, List.set_cons_succ, Qr, Qs]
              rfl
             refine take_ (i := 7) (N := some 72) (v := ?_) (a' := ?_) #[true, true, true, true, true, true, true, true, false, false, false, false, false, false, false, false, false, false, false, false, false, false, false, false, false, false] rfl rfl (Qz HT_.out HW_.out (by kernel_rfl)) (fun _ _ _ h => h) (Or.inl ⟨by rfl, ?_⟩) hHeld ?_ ?_
             rotate_left
             ·rintro w' ⟨s0, s1, s2, s3, s4, s5, s6, s7, s8, s9, s10, s11, s12, s13, s14, s15, s16, s17, s18, s19, s20, s21, s22, s23, s24, s25, s26, s27, s28, s29, s30⟩
              go_simp
              with_reducible rfl
             rotate_left
             ·simp only [Act.put, List.setIfInBounds_toArray, List.set_cons_zero, List.set_cons_succ, Qr, Qs]
              rfl
             refine Qx (i := 8) (N := some 73) (v := ?_) (a' := ?_) #[true, true, true, true, true, true, true, true, true, false, false, false, false, false, false, false, false, false, false, false, false, false, false, false, false, false] rfl rfl (Qt HT_.out (by kernel_rfl)) (fun _ _ _ h => h) (Or.inl ⟨by rfl, ?_⟩) ?_ ?_
             rotate_left
             ·intro w'
              go_simp
              with_reducible rfl
             rotate_left
             ·simp only [Act.put, List.setIfInBounds_toArray, List.set_cons_zero, List.set_cons_succ, Qr, Qs]
              rfl
             refine Qx (i := 9) (N := some 74) (v := ?_) (a' := ?_) #[true, true, true, true, true, true, true, true, true, true, false, false, false, false, false, false, false, false, false, false, false, false, false, false, false, false] rfl rfl (Qt HT_.out (by kernel_rfl)) (fun _ _ _ h => h) (Or.inl ⟨by rfl, ?_⟩) ?_ ?_
             rotate_left
             ·intro w'
              go_simp
              with_reducible rfl
             rotate_left
             ·simp only [Act.put, List.setIfInBounds_toArray, List.set_cons_zero, List.set_cons_succ, Qr, Qs]
              rfl
             refine Qx (i := 10) (N := some 75) (v := ?_) (a' := ?_) #[true, true, true, true, true, true, true, true, true, true, true, false, false, false, false, false, false, false, false, false, false, false, false, false, false, false] rfl rfl (Qt HT_.out (by kernel_rfl)) (fun _ _ _ h => h) (Or.inl ⟨by rfl, ?_⟩) ?_ ?_
             rotate_left
             ·intro w'
              go_simp
              with_reducible rfl
             rotate_left
             ·simp only [Act.put, List.setIfInBounds_toArray, List.set_cons_zero, List.set_cons_succ, Qr, Qs]
              rfl
             refine Qx (i := 11) (N := some 76) (v := ?_) (a' := ?_) #[true, true, true, true, true, true, true, true, true, true, true, true, false, false, false, false, false, false, false, false, false, false, false, false, false, false] rfl rfl (Qt HT_.out (by kernel_rfl)) (fun _ _ _ h => h) (Or.inl ⟨by rfl, ?_⟩) ?_ ?_
             rotate_left
             ·intro w'
              go_simp
              with_reducible rfl
             rotate_left
             ·simp only [Act.put, List.setIfInBounds_toArray, List.set_cons_zero, List.set_cons_succ, Qr, Qs]
              rfl
             refine Qx (i := 13) (N := some 78) (v := ?_) (a' := ?_) #[true, true, true, true, true, true, true, true, true, true, true, true, false, true, false, false, false, false, false, false, false, false, false, false, false, false] rfl rfl (Qt HT_.out (by kernel_rfl)) (fun _ _ _ h => h) (Or.inl ⟨by rfl, ?_⟩) ?_ ?_
             rotate_left
             ·intro w'
              go_simp
              with_reducible rfl
             rotate_left
             ·simp only [Act.put, List.setIfInBounds_toArray, List.set_cons_zero, List.set_cons_succ, Qr, Qs]
              rfl
             refine Qx (i := 18) (N := some 83) (v := ?_) (a' := ?_) #[true, true, true, true, true, true, true, true, true, true, true, true, false, true, false, false, false, false, true, false, false, false, false, false, false, false] rfl rfl (Qt HT_.out (by kernel_rfl)) (fun _ _ _ h => h) (Or.inl ⟨by rfl, ?_⟩) ?_ ?_
             rotate_left
             ·intro w'
              go_simp
              with_reducible rfl
             rotate_left
             ·simp only [Act.put, List.setIfInBounds_toArray, List.set_cons_zero, List.set_cons_succ, Qr, Qs]
              rfl
             refine Qx (i := 20) (N := some 85) (v := ?_) (a' := ?_) #[true, true, true, true, true, true, true, true, true, true, true, true, false, true, false, false, false, false, true, false, true, false, false, false, false, false] rfl rfl (Qt HT_.out (by kernel_rfl)) (fun _ _ _ h => h) (Or.inl ⟨by rfl, ?_⟩) ?_ ?_
             rotate_left
             ·intro w'
              go_simp
              with_reducible rfl
             rotate_left
             ·simp only [Act.put, List.setIfInBounds_toArray, List.set_cons_zero, List.set_cons_succ, Qr, Qs]
              rfl
             refine take_ (i := 12) (N := some 77) (v := ?_) (a' := ?_) #[true, true, true, true, true, true, true, true, true, true, true, true, true, true, false, false, false, false, true, false, true, false, false, false, false, false] rfl rfl (Qz HT_.out HW_.out (by kernel_rfl)) (fun _ _ _ h => h) (Or.inl ⟨by rfl, ?_⟩) hHeld ?_ ?_
             rotate_left
             ·rintro w' ⟨s0, s1, s2, s3, s4, s5, s6, s7, s8, s9, s10, s11, s12, s13, s14, s15, s16, s17, s18, s19, s20, s21, s22, s23, s24, s25, s26, s27, s28, s29, s30⟩
              go_simp
              with_reducible rfl
             rotate_left
             ·simp only [Act.put, List.setIfInBounds_toArray, List.set_cons_zero, List.set_cons_succ, Qr, Qs]
              rfl
             refine Qx (i := 14) (N := some 79) (v := ?_) (a' := ?_) #[true, true, true, true, true, true, true, true, true, true, true, true, true, true, true, false, false, false, true, false, true, false, false, false, false, false] rfl rfl (Qt HT_.out (by kernel_rfl)) (fun _ _ _ h => h) (Or.inl ⟨by rfl, ?_⟩) ?_ ?_
             rotate_left
             ·intro w'
              go_simp
              with_reducible rfl
             rotate_left
             ·simp only [Act.put, List.setIfInBounds_toArray, List.set_cons_zero, List.set_cons_succ, Qr, Qs]
              rfl
             refine Qx (i := 15) (N := some 80) (v := ?_) (a' := ?_) #[true, true, true, true, true, true, true, true, true, true, true, true, true, true, true, true, false, false, true, false, true, false, false, false, false, false] rfl rfl (Qt HT_.out (by kernel_rfl)) (fun _ _ _ h => h) (Or.inl ⟨by rfl, ?_⟩) ?_ ?_
             rotate_left
             ·intro w'
              go_simp
              with_reducible rfl
             rotate_left
             ·simp only [Act.put, List.setIfInBounds_toArray, List.set_cons_zero, List.set_cons_succ, Qr, Qs]
              rfl
             refine Qx (i := 16) (N := some 81) (v := ?_) (a' := ?_) #[true, true, true, true, true, true, true, true, true, true, true, true, true, true, true, true, true, false, true, false, true, false, false, false, false, false] rfl rfl (Qt HT_.out (by kernel_rfl)) (fun _ _ _ h => h) (Or.inl ⟨by rfl, ?_⟩) ?_ ?_
             rotate_left
             ·intro w'
              go_simp
              with_reducible rfl
             rotate_left
             ·simp only [Act.put, List.setIfInBounds_toArray, List.set_cons_zero, List.set_cons_succ, Qr, Qs]
              rfl
             refine take_ (i := 17) (N := some 82) (v := ?_) (a' := ?_) #[true, true, true, true, true, true, true, true, true, true, true, true, true, true, true, true, true, true, true, false, true, false, false, false, false, false] rfl rfl (Qz HT_.out HW_.out (by kernel_rfl)) (fun _ _ _ h => h) (Or.inl ⟨by rfl, ?_⟩) hHeld ?_ ?_
             rotate_left
             ·rintro w' ⟨s0, s1, s2, s3, s4, s5, s6, s7, s8, s9, s10, s11, s12, s13, s14, s15, s16, s17, s18, s19, s20, s21, s22, s23, s24, s25, s26, s27, s28, s29, s30⟩
              go_simp
              with_reducible rfl
             rotate_left
             ·simp only [Act.put, List.setIfInBounds_toArray, List.set_cons_zero, List.set_cons_succ, Qr, Qs]
              rfl
             refine take_ (i := 19) (N := some 84) (v := ?_) (a' := ?_) #[true, true, true, true, true, true, true, true, true, true, true, true, true, true, true, true, true, true, true, true, true, false, false, false, false, false] rfl rfl (Qz HT_.out HW_.out (by kernel_rfl)) (fun _ _ _ h => h) (Or.inl ⟨by rfl, ?_⟩) hHeld ?_ ?_
             rotate_left
             ·rintro w' ⟨s0, s1, s2, s3, s4, s5, s6, s7, s8, s9, s10, s11, s12, s13, s14, s15, s16, s17, s18, s19, s20, s21, s22, s23, s24, s25, s26, s27, s28, s29, s30⟩
              go_simp
              with_reducible rfl
             rotate_left
             ·simp only [Act.put, List.setIfInBounds_toArray, List.set_cons_zero, List.set_cons_succ, Qr, Qs]
              rfl
             refine Qx (i := 21) (N := some 86) (v := ?_) (a' := ?_) #[true, true, true, true, true, true, true, true, true, true, true, true, true, true, true, true, true, true, true, true, true, true, false, false, false, false] rfl rfl (Qt HT_.out (by kernel_rfl)) (fun _ _ _ h => h) (Or.inl ⟨by rfl, ?_⟩) ?_ ?_
             rotate_left
             ·intro w'
              go_simp
              with_reducible rfl
             rotate_left
             ·simp only [Act.put, List.setIfInBounds_toArray, List.set_cons_zero, List.set_cons_succ, Qr, Qs]
              rfl
             refine Qx (i := 22) (N := some 87) (v := ?_) (a' := ?_) #[true, true, true, true, true, true, true, true, true, true, true, true, true, true, true, true, true, true, true, true, true, true, true, false, false, false] rfl rfl (Qt HT_.out (by kernel_rfl)) (fun _ _ _ h => h) (Or.inl ⟨by rfl, ?_⟩) ?_ ?_
             rotate_left
             ·intro w'
              go_simp
              with_reducible rfl
             rotate_left
             ·simp only [Act.put, List.setIfInBounds_toArray, List.set_cons_zero, List.set_cons_succ, Qr, Qs]
              rfl
             refine take_ (i := 23) (N := some 88) (v := ?_) (a' := ?_) #[true, true, true, true, true, true, true, true, true, true, true, true, true, true, true, true, true, true, true, true, true, true, true, true, false, false] rfl rfl (Qz HT_.out HW_.out (by kernel_rfl)) (fun _ _ _ h => h) (Or.inl ⟨by rfl, ?_⟩) hHeld ?_ ?_
             rotate_left
             ·rintro w' ⟨s0, s1, s2, s3, s4, s5, s6, s7, s8, s9, s10, s11, s12, s13, s14, s15, s16, s17, s18, s19, s20, s21, s22, s23, s24, s25, s26, s27, s28, s29, s30⟩
              go_simp
              with_reducible rfl
             rotate_left
             ·simp only [Act.put, List.setIfInBounds_toArray, List.set_cons_zero, List.set_cons_succ, Qr, Qs]
              rfl
             refine Qx (i := 24) (N := some 89) (v := ?_) (a' := ?_) #[true, true, true, true, true, true, true, true, true, true, true, true, true, true, true, true, true, true, true, true, true, true, true, true, true, false] rfl rfl (Qt HT_.out (by kernel_rfl)) (fun _ _ _ h => h) (Or.inl ⟨by rfl, ?_⟩) ?_ ?_
             rotate_left
             ·intro w'
              go_simp
              with_reducible rfl
             rotate_left
             ·simp only [Act.put, List.setIfInBounds_toArray, List.set_cons_zero, List.set_cons_succ, Qr, Qs]
              rfl
             refine Qx (i := 25) (N := some 90) (v := ?_) (a' := ?_) #[true, true, true, true, true, true, true, true, true, true, true, true, true, true, true, true, true, true, true, true, true, true, true, true, true, true] rfl rfl (Qt HT_.out (by kernel_rfl)) (fun _ _ _ h => h) (Or.inl ⟨by rfl, ?_⟩) ?_ ?_
             rotate_left
             ·intro w'
              go_simp
              with_reducible rfl
             rotate_left
             ·simp only [Act.put, List.setIfInBounds_toArray, List.set_cons_zero, List.set_cons_succ, Qr, Qs]
              rfl
             refine done_ (done_of HT_.out (by kernel_rfl)) ?_
             try go_wp2
             go_roundg k3
             case measure => have := HJ1.out; have := HK2.out; have := HK3.out; omega
             case rel => exact ⟨(wrap64 (x4_3 + 1)), (by first | rfl | (simp; done) | (simp [*]; done)), H', ⟨by have := HJ1.out; have := HK2.out; have := HK3.out; omega⟩, ⟨by (with_reducible repeat (first | refine Qg ?_ _ | refine Qi ?_ | refine Qh ?_ _)); exact BK219.out⟩, ⟨by repeat (first | (with_reducible first | exact HB.out | apply Qe | apply Qc | apply Qd | refine Qf ?_ GE219.out) | exact HB.out)⟩⟩
            ·rw [if_neg c38] at H
             have c38b0 : (((Qk l0_3 x4_3).f2.f4) == ((Qk l0_3 x4_3).f0)) = false := beq_eq_false_iff_ne.mpr c38
             have c38b1 : (((Qk l0_3 x4_3).f2.f4) != ((Qk l0_3 x4_3).f0)) = true := bne_iff_ne.mpr c38
             obtain rfl := Option.some.inj H
             have hcz41_0 : wr.cell? ⟨gb219, 0, none⟩ = some (.int .i64 a0_0) := (Qa BK219.out 0).trans rfl
             have hcz41_1 : wr.cell? ⟨gb219, 1, none⟩ = some (.int .i64 a0_1) := (Qa BK219.out 1).trans rfl
             have hcz41_2 : wr.cell? ⟨gb219, 2, none⟩ = some (.slice A0_2 l0_2.length c0_2) := (Qa BK219.out 2).trans rfl
             have hcz41_3 : wr.cell? ⟨gb219, 3, none⟩ = some (.slice A0_3 l0_3.length c0_3) := (Qa BK219.out 3).trans rfl
             have hfz41_0 := Qb BK219.out 0
             have hfz41_1 := Qb BK219.out 1
             have hfz41_2 := Qb BK219.out 2
             have hfz41_3 := Qb BK219.out 3
             try go_wp2
             have n0_ := Aside0.mk (Qi BK219.out)
             have n1_ := Aside0.mk (Qd HB.out)
             clear BK219
             clear HB
             have BK219 := n0_
             have HB := n1_
             clear n0_ n1_
             have p226 : 0 ≤ (x4_3 : Int) := of_decide_eq_true (by assumption)
             have q226 : x4_3 < (l0_3.length : Int) := of_decide_eq_true (by assumption)
             obtain ⟨ad226, e226, hx226_0, hx226_1, hx226_2, hx226_3, hx226_4, hx226_5, hx226_6, hx226_7, hx226_8⟩ := at_T73 HR0_3.out x4_3 p226 q226
             have hw226_8 := hx226_8
             have hw226_7 := hx226_7
             have hw226_6 := hx226_6
             have hw226_5 := hx226_5
             have hw226_4 := hx226_4
             have hw226_3 := hx226_3
             have hw226_2 := hx226_2
             have hw226_1 := hx226_1
             have hw226_0 := hx226_0
             cases e226
             replace hx226_0 := (HB.out.cell (World.block_lt_of_cell? w _ hx226_0)).trans hx226_0
             replace hx226_1 := (HB.out.cell (World.block_lt_of_cell? w _ hx226_1)).trans hx226_1
             replace hx226_2 := (HB.out.cell (World.block_lt_of_cell? w _ hx226_2)).trans hx226_2
             replace hx226_3 := (HB.out.cell (World.block_lt_of_cell? w _ hx226_3)).trans hx226_3
             replace hx226_4 := (HB.out.cell (World.block_lt_of_cell? w _ hx226_4)).trans hx226_4
             replace hx226_5 := (HB.out.cell (World.block_lt_of_cell? w _ hx226_5)).trans hx226_5
             replace hx226_6 := (HB.out.cell (World.block_lt_of_cell? w _ hx226_6)).trans hx226_6
             replace hx226_7 := (HB.out.cell (World.block_lt_of_cell? w _ hx226_7)).trans hx226_7
             replace hx226_8 := (HB.out.cell (World.block_lt_of_cell? w _ hx226_8)).trans hx226_8
             replace p226 := eq_true p226
             replace q226 := eq_true q226
             have p227 : 0 ≤ (x4_3 : Int) := of_decide_eq_true (by assumption)
             have q227 : x4_3 < (l0_3.length : Int) := of_decide_eq_true (by assumption)
             obtain ⟨ad227, e227, hx227_0, hx227_1, hx227_2, hx227_3, hx227_4, hx227_5, hx227_6, hx227_7, hx227_8⟩ := at_T73 HR0_3.out x4_3 p227 q227
             have hw227_8 := hx227_8
             have hw227_7 := hx227_7
             have hw227_6 := hx227_6
             have hw227_5 := hx227_5
             have hw227_4 := hx227_4
             have hw227_3 := hx227_3
             have hw227_2 := hx227_2
             have hw227_1 := hx227_1
             have hw227_0 := hx227_0
             obtain rfl : ad226 = ad227 := (by injection e227)
             replace hx227_0 := (HB.out.cell (World.block_lt_of_cell? w _ hx227_0)).trans hx227_0
             replace hx227_1 := (HB.out.cell (World.block_lt_of_cell? w _ hx227_1)).trans hx227_1
             replace hx227_2 := (HB.out.cell (World.block_lt_of_cell? w _ hx227_2)).trans hx227_2
             replace hx227_3 := (HB.out.cell (World.block_lt_of_cell? w _ hx227_3)).trans hx227_3
             replace hx227_4 := (HB.out.cell (World.block_lt_of_cell? w _ hx227_4)).trans hx227_4
             replace hx227_5 := (HB.out.cell (World.block_lt_of_cell? w _ hx227_5)).trans hx227_5
             replace hx227_6 := (HB.out.cell (World.block_lt_of_cell? w _ hx227_6)).trans hx227_6
             replace hx227_7 := (HB.out.cell (World.block_lt_of_cell? w _ hx227_7)).trans hx227_7
             replace hx227_8 := (HB.out.cell (World.block_lt_of_cell? w _ hx227_8)).trans hx227_8
             replace p227 := eq_true p227
             replace q227 := eq_true q227
             have p228 : 0 ≤ (x4_3 : Int) := of_decide_eq_true (by assumption)
             have q228 : x4_3 < (l0_3.length : Int) := of_decide_eq_true (by assumption)
             obtain ⟨ad228, e228, hx228_0, hx228_1, hx228_2, hx228_3, hx228_4, hx228_5, hx228_6, hx228_7, hx228_8⟩ := at_T73 HR0_3.out x4_3 p228 q228
             have hw228_8 := hx228_8
             have hw228_7 := hx228_7
             have hw228_6 := hx228_6
             have hw228_5 := hx228_5
             have hw228_4 := hx228_4
             have hw228_3 := hx228_3
             have hw228_2 := hx228_2
             have hw228_1 := hx228_1
             have hw228_0 := hx228_0
             obtain rfl : ad226 = ad228 := (by injection e228)
             replace hx228_0 := (HB.out.cell (World.block_lt_of_cell? w _ hx228_0)).trans hx228_0
             replace hx228_1 := (HB.out.cell (World.block_lt_of_cell? w _ hx228_1)).trans hx228_1
             replace hx228_2 := (HB.out.cell (World.block_lt_of_cell? w _ hx228_2)).trans hx228_2
             replace hx228_3 := (HB.out.cell (World.block_lt_of_cell? w _ hx228_3)).trans hx228_3
             replace hx228_4 := (HB.out.cell (World.block_lt_of_cell? w _ hx228_4)).trans hx228_4
             replace hx228_5 := (HB.out.cell (World.block_lt_of_cell? w _ hx228_5)).trans hx228_5
             replace hx228_6 := (HB.out.cell (World.block_lt_of_cell? w _ hx228_6)).trans hx228_6
             replace hx228_7 := (HB.out.cell (World.block_lt_of_cell? w _ hx228_7)).trans hx228_7
             replace hx228_8 := (HB.out.cell (World.block_lt_of_cell? w _ hx228_8)).trans hx228_8
             replace p228 := eq_true p228
             replace q228 := eq_true q228
             refine start_ (n := 26) (S := fun w' => w'.cell? ⟨gb219, 0, none⟩ = some (.int .i64 a0_0) ∧ w'.cell? ⟨gb219, 1, none⟩ = some (.int .i64 a0_1) ∧ w'.cell? ⟨gb219, 2, none⟩ = some (.slice A0_2 l0_2.length c0_2) ∧ w'.cell? ⟨gb219, 3, none⟩ = some (.slice (some ad226) l0_3.length c0_3) ∧ w'.cell? (ad226.add ((x4_3).toNat * 9)) = some (.int .i64 ((Qk l0_3 x4_3).f0)) ∧ w'.cell? ⟨(ad226.add ((x4_3).toNat * 9)).block, (ad226.add ((x4_3).toNat * 9)).off + 1, none⟩ = some (.bool ((Qk l0_3 x4_3).f1)) ∧ w'.cell? ⟨(ad226.add ((x4_3).toNat * 9)).block, (ad226.add ((x4_3).toNat * 9)).off + 2, none⟩ = some (.int .i64 ((Qk l0_3 x4_3).f2.f0)) ∧ w'.cell? ⟨(ad226.add ((x4_3).toNat * 9)).block, (ad226.add ((x4_3).toNat * 9)).off + 3, none⟩ = some (.int .i64 ((Qk l0_3 x4_3).f2.f1)) ∧ w'.cell? ⟨(ad226.add ((x4_3).toNat * 9)).block, (ad226.add ((x4_3).toNat * 9)).off + 4, none⟩ = some (.int .i64 ((Qk l0_3 x4_3).f2.f2)) ∧ w'.cell? ⟨(ad226.add ((x4_3).toNat * 9)).block, (ad226.add ((x4_3).toNat * 9)).off + 5, none⟩ = some (.int .i64 ((Qk l0_3 x4_3).f2.f3)) ∧ w'.cell? ⟨(ad226.add ((x4_3).toNat * 9)).block, (ad226.add ((x4_3).toNat * 9)).off + 6, none⟩ = some (.int .i64 ((Qk l0_3 x4_3).f2.f4)) ∧ w'.cell? ⟨(ad226.add ((x4_3).toNat * 9)).block, (ad226.add ((x4_3).toNat * 9)).off + 7, none⟩ = some (.int .i64 ((Qk l0_3 x4_3).f2.f5)) ∧ w'.cell? ⟨(ad226.add ((x4_3).toNat * 9)).block, (ad226.add ((x4_3).toNat * 9)).off + 8, none⟩ = some (.bool ((Qk l0_3 x4_3).f2.f6)) ∧ w'.cell? (ad226.add ((x4_3).toNat * 9)) = some (.int .i64 ((Qk l0_3 x4_3).f0)) ∧ w'.cell? ⟨(ad226.add ((x4_3).toNat * 9)).block, (ad226.add ((x4_3).toNat * 9)).off + 1, none⟩ = some (.bool ((Qk l0_3 x4_3).f1)) ∧ w'.cell? ⟨(ad226.add ((x4_3).toNat * 9)).block, (ad226.add ((x4_3).toNat * 9)).off + 2, none⟩ = some (.int .i64 ((Qk l0_3 x4_3).f2.f0)) ∧ w'.cell? ⟨(ad226.add ((x4_3).toNat * 9)).block, (ad226.add ((x4_3).toNat * 9)).off + 3, none⟩ = some (.int .i64 ((Qk l0_3 x4_3).f2.f1)) ∧ w'.cell? ⟨(ad226.add ((x4_3).toNat * 9)).block, (ad226.add ((x4_3).toNat * 9)).off + 4, none⟩ = some (.int .i64 ((Qk l0_3 x4_3).f2.f2)) ∧ w'.cell? ⟨(ad226.add ((x4_3).toNat * 9)).block, (ad226.add ((x4_3).toNat * 9)).off + 5, none⟩ = some (.int .i64 ((Qk l0_3 x4_3).f2.f3)) ∧ w'.cell? ⟨(ad226.add ((x4_3).toNat * 9)).block, (ad226.add ((x4_3).toNat * 9)).off + 6, none⟩ = some (.int .i64 ((Qk l0_3 x4_3).f2.f4)) ∧ w'.cell? ⟨(ad226.add ((x4_3).toNat * 9)).block, (ad226.add ((x4_3).toNat * 9)).off + 7, none⟩ = some (.int .i64 ((Qk l0_3 x4_3).f2.f5)) ∧ w'.cell? ⟨(ad226.add ((x4_3).toNat * 9)).block, (ad226.add ((x4_3).toNat * 9)).off + 8, none⟩ = some (.bool ((Qk l0_3 x4_3).f2.f6)) ∧ w'.cell? (ad226.add ((x4_3).toNat * 9)) = some (.int .i64 ((Qk l0_3 x4_3).f0)) ∧ w'.cell? ⟨(ad226.add ((x4_3).toNat * 9)).block, (ad226.add ((x4_3).toNat * 9)).off + 1, none⟩ = some (.bool ((Qk l0_3 x4_3).f1)) ∧ w'.cell? ⟨(ad226.add ((x4_3).toNat * 9)).block, (ad226.add ((x4_3).toNat * 9)).off + 2, none⟩ = some (.int .i64 ((Qk l0_3 x4_3).f2.f0)) ∧ w'.cell? ⟨(ad226.add ((x4_3).toNat * 9)).block, (ad226.add ((x4_3).toNat * 9)).off + 3, none⟩ = some (.int .i64 ((Qk l0_3 x4_3).f2.f1)) ∧ w'.cell? ⟨(ad226.add ((x4_3).toNat * 9)).block, (ad226.add ((x4_3).toNat * 9)).off + 4, none⟩ = some (.int .i64 ((Qk l0_3 x4_3).f2.f2)) ∧ w'.cell? ⟨(ad226.add ((x4_3).toNat * 9)).block, (ad226.add ((x4_3).toNat * 9)).off + 5, none⟩ = some (.int .i64 ((Qk l0_3 x4_3).f2.f3)) ∧ w'.cell? ⟨(ad226.add ((x4_3).toNat * 9)).block, (ad226.add ((x4_3).toNat * 9)).off + 6, none⟩ = some (.int .i64 ((Qk l0_3 x4_3).f2.f4)) ∧ w'.cell? ⟨(ad226.add ((x4_3).toNat * 9)).block, (ad226.add ((x4_3).toNat * 9)).off + 7, none⟩ = some (.int .i64 ((Qk l0_3 x4_3).f2.f5)) ∧ w'.cell? ⟨(ad226.add ((x4_3).toNat * 9)).block, (ad226.add ((x4_3).toNat * 9)).off + 8, none⟩ = some (.bool ((Qk l0_3 x4_3).f2.f6))) (ds := []) #[false, false, false, false, false, false, false, false, false, false, false, false, false, false, false, false, false, false, false, false, false, false, false, false, false, false] (by kernel_rfl) rfl rfl ⟨(Qa BK219.out 0).trans rfl, (Qa BK219.out 1).trans rfl, (Qa BK219.out 2).trans rfl, (Qa BK219.out 3).trans rfl, ((HB.out.cell (World.block_lt_of_cell? w _ hw226_0)).trans hw226_0), ((HB.out.cell (World.block_lt_of_cell? w _ hw226_1)).trans hw226_1), ((HB.out.cell (World.block_lt_of_cell? w _ hw226_2)).trans hw226_2), ((HB.out.cell (World.block_lt_of_cell? w _ hw226_3)).trans hw226_3), ((HB.out.cell (World.block_lt_of_cell? w _ hw226_4)).trans hw226_4), ((HB.out.cell (World.block_lt_of_cell? w _ hw226_5)).trans hw226_5), ((HB.out.cell (World.block_lt_of_cell? w _ hw226_6)).trans hw226_6), ((HB.out.cell (World.block_lt_of_cell? w _ hw226_7)).trans hw226_7), ((HB.out.cell (World.block_lt_of_cell? w _ hw226_8)).trans hw226_8), ((HB.out.cell (World.block_lt_of_cell? w _ hw227_0)).trans hw227_0), ((HB.out.cell (World.block_lt_of_cell? w _ hw227_1)).trans hw227_1), ((HB.out.cell (World.block_lt_of_cell? w _ hw227_2)).trans hw227_2), ((HB.out.cell (World.block_lt_of_cell? w _ hw227_3)).trans hw227_3), ((HB.out.cell (World.block_lt_of_cell? w _ hw227_4)).trans hw227_4), ((HB.out.cell (World.block_lt_of_cell? w _ hw227_5)).trans hw227_5), ((HB.out.cell (World.block_lt_of_cell? w _ hw227_6)).trans hw227_6), ((HB.out.cell (World.block_lt_of_cell? w _ hw227_7)).trans hw227_7), ((HB.out.cell (World.block_lt_of_cell? w _ hw227_8)).trans hw227_8), ((HB.out.cell (World.block_lt_of_cell? w _ hw228_0)).trans hw228_0), ((HB.out.cell (World.block_lt_of_cell? w _ hw228_1)).trans hw228_1), ((HB.out.cell (World.block_lt_of_cell? w _ hw228_2)).trans hw228_2), ((HB.out.cell (World.block_lt_of_cell? w _ hw228_3)).trans hw228_3), ((HB.out.cell (World.block_lt_of_cell? w _ hw228_4)).trans hw228_4), ((HB.out.cell (World.block_lt_of_cell? w _ hw228_5)).trans hw228_5), ((HB.out.cell (World.block_lt_of_cell? w _ hw228_6)).trans hw228_6), ((HB.out.cell (World.block_lt_of_cell? w _ hw228_7)).trans hw228_7), ((HB.out.cell (World.block_lt_of_cell? w _ hw228_8)).trans hw228_8)⟩ (fun hHeld => ?_); refine with_tabW spec_TellerRight.tab11 spec_TellerRight.bits11 (fun HT_ HW_ => ?_)
             generalize wr.drew = w42 at BK219 HB hx226_0 hx226_1 hx226_2 hx226_3 hx226_4 hx226_5 hx226_6 hx226_7 hx226_8 hx227_0 hx227_1 hx227_2 hx227_3 hx227_4 hx227_5 hx227_6 hx227_7 hx227_8 hx228_0 hx228_1 hx228_2 hx228_3 hx228_4 hx228_5 hx228_6 hx228_7 hx228_8 hHeld ⊢
             refine Qx (i := 0) (N := some 65) (v := ?_) (a' := ?_) #[true, false, false, false, false, false, false, false, false, false, false, false, false, false, false, false, false, false, false, false, false, false, false, false, false, false] rfl rfl (Qt HT_.out (by kernel_rfl)) (fun _ _ _ h => h) (Or.inl ⟨by rfl, ?_⟩) ?_ ?_
             rotate_left
             ·intro w'
              go_simp
              with_reducible rfl
             rotate_left
             ·simp only [Act.put, List.setIfInBounds_toArray, List.set_cons_zero, List.set_cons_succ, Qr, Qs]
              rfl
             refine Qx (i := 2) (N := some 67) (v := ?_) (a' := ?_) #[true, false, true, false, false, false, false, false, false, false, false, false, false, false, false, false, false, false, false, false, false, false, false, false, false, false] rfl rfl (Qt HT_.out (by kernel_rfl)) (fun _ _ _ h => h) (Or.inl ⟨by rfl, ?_⟩) ?_ ?_
             rotate_left
             ·intro w'
              go_simp
              with_reducible rfl
             rotate_left
             ·simp only [Act.put, List.setIfInBounds_toArray, List.set_cons_zero, List.set_cons_succ, Qr, Qs]
              rfl
             refine Qx (i := 6) (N := some 71) (v := ?_) (a' := ?_) #[true, false, true, false, false, false, true, false, false, false, false, false, false, false, false, false, false, false, false, false, false, false, false, false, false, false] rfl rfl (Qt HT_.out (by kernel_rfl)) (fun _ _ _ h => h) (Or.inl ⟨by rfl, ?_⟩) ?_ ?_
             rotate_left
             ·intro w'
              go_simp
              with_reducible rfl
             rotate_left
             ·simp only [Act.put, List.setIfInBounds_toArray, List.set_cons_zero, List.set_cons_succ, Qr, Qs]
              rfl
             refine take_ (i := 1) (N := some 66) (v := ?_) (a' := ?_) #[true, true, true, false, false, false, true, false, false, false, false, false, false, false, false, false, false, false, false, false, false, false, false, false, false, false] rfl rfl (Qz HT_.out HW_.out (by kernel_rfl)) (fun _ _ _ h => h) (Or.inl ⟨by rfl, ?_⟩) hHeld ?_ ?_
             rotate_left
             ·rintro w' ⟨s0, s1, s2, s3, s4, s5, s6, s7, s8, s9, s10, s11, s12, s13, s14, s15, s16, s17, s18, s19, s20, s21, s22, s23, s24, s25, s26, s27, s28, s29, s30⟩
              go_simp
              with_reducible rfl
             rotate_left
             ·simp only [Act.put, List.setIfInBounds_toArray, List.set_cons_zero, List.set_cons_succ, Qr, Qs]
              rfl
             refine Qx (i := 3) (N := some 68) (v := ?_) (a' := ?_) #[true, true, true, true, false, false, true, false, false, false, false, false, false, false, false, false, false, false, false, false, false, false, false, false, false, false] rfl rfl (Qt HT_.out (by kernel_rfl)) (fun _ _ _ h => h) (Or.inl ⟨by rfl, ?_⟩) ?_ ?_
             rotate_left
             ·intro w'
              go_simp
              with_reducible rfl
             rotate_left
             ·simp only [Act.put, List.setIfInBounds_toArray, List.set_cons_zero, List.set_cons_succ, Qr, Qs]
              rfl
             refine Qx (i := 4) (N := some 69) (v := ?_) (a' := ?_) #[true, true, true, true, true, false, true, false, false, false, false, false, false, false, false, false, false, false, false, false, false, false, false, false, false, false] rfl rfl (Qt HT_.out (by kernel_rfl)) (fun _ _ _ h => h) (Or.inl ⟨by rfl, ?_⟩) ?_ ?_
             rotate_left
             ·intro w'
              go_simp
              with_reducible rfl
             rotate_left
             ·simp only [Act.put, List.setIfInBounds_toArray, List.set_cons_zero, List.set_cons_succ, Qr, Qs]
              rfl
             refine take_ (i := 5) (N := some 70) (v := ?_) (a' := ?_) #[true, true, true, true, true, true, true, false, false, false, false, false, false, false, false, false, false, false, false, false, false, false, false, false, false, false] rfl rfl (Qz HT_.out HW_.out (by kernel_rfl)) (fun _ _ _ h => h) (Or.inl ⟨by rfl, ?_⟩) hHeld ?_ ?_
             rotate_left
             ·rintro w' ⟨s0, s1, s2, s3, s4, s5, s6, s7, s8, s9, s10, s11, s12, s13, s14, s15, s16, s17, s18, s19, s20, s21, s22, s23, s24, s25, s26, s27, s28, s29, s30⟩
              go_simp
              with_reducible rfl
             rotate_left
             ·simp only [Act.put, List.setIfInBounds_toArray, List.set_cons_zero, List.set_cons_succ, Qr, Qs]
              rfl
             refine take_ (i := 7) (N := some 72) (v := ?_) (a' := ?_) #[true, true, true, true, true, true, true, true, false, false, false, false, false, false, false, false, false, false, false, false, false, false, false, false, false, false] rfl rfl (Qz HT_.out HW_.out (by kernel_rfl)) (fun _ _ _ h => h) (Or.inl ⟨by rfl, ?_⟩) hHeld ?_ ?_
             rotate_left
             ·rintro w' ⟨s0, s1, s2, s3, s4, s5, s6, s7, s8, s9, s10, s11, s12, s13, s14, s15, s16, s17, s18, s19, s20, s21, s22, s23, s24, s25, s26, s27, s28, s29, s30⟩
              go_simp
              with_reducible rfl
             rotate_left
             ·simp only [Act.put, List.setIfInBounds_toArray, List.set_cons_zero, List.set_cons_succ, Qr, Qs]
              rfl
             refine Qx (i := 8) (N := some 73) (v := ?_) (a' := ?_) #[true, true, true, true, true, true, true, true, true, false, false, false, false, false, false, false, false, false, false, false, false, false, false, false, false, false] rfl rfl (Qt HT_.out (by kernel_rfl)) (fun _ _ _ h => h) (Or.inl ⟨by rfl, ?_⟩) ?_ ?_
             rotate_left
             ·intro w'
              go_simp
              with_reducible rfl
             rotate_left
             ·simp only [Act.put, List.setIfInBounds_toArray, List.set_cons_zero, List.set_cons_succ, Qr, Qs]
              rfl
             refine Qx (i := 9) (N := some 74) (v := ?_) (a' := ?_) #[true, true, true, true, true, true, true, true, true, true, false, false, false, false, false, false, false, false, false, false, false, false, false, false, false, false] rfl rfl (Qt HT_.out (by kernel_rfl)) (fun _ _ _ h => h) (Or.inl ⟨by rfl, ?_⟩) ?_ ?_
             rotate_left
             ·intro w'
              go_simp
              with_reducible rfl
             rotate_left
             ·simp only [Act.put, List.setIfInBounds_toArray, List.set_cons_zero, List.set_cons_succ, Qr, Qs]
              rfl
             refine Qx (i := 10) (N := some 75) (v := ?_) (a' := ?_) #[true, true, true, true, true, true, true, true, true, true, true, false, false, false, false, false, false, false, false, false, false, false, false, false, false, false] rfl rfl (Qt HT_.out (by kernel_rfl)) (fun _ _ _ h => h) (Or.inl ⟨by rfl, ?_⟩) ?_ ?_
             rotate_left
             ·intro w'
              go_simp
              with_reducible rfl
             rotate_left
             ·simp only [Act.put, List.setIfInBounds_toArray, List.set_cons_zero, List.set_cons_succ, Qr, Qs]
              rfl
             refine Qx (i := 11) (N := some 76) (v := ?_) (a' := ?_) #[true, true, true, true, true, true, true, true, true, true, true, true, false, false, false, false, false, false, false, false, false, false, false, false, false, false] rfl rfl (Qt HT_.out (by kernel_rfl)) (fun _ _ _ h => h) (Or.inl ⟨by rfl, ?_⟩) ?_ ?_
             rotate_left
             ·intro w'
              go_simp
              with_reducible rfl
             rotate_left
             ·simp only [Act.put, List.setIfInBounds_toArray, List.set_cons_zero, List.set_cons_succ, Qr, Qs]
              rfl
             refine Qx (i := 13) (N := some 78) (v := ?_) (a' := ?_) #[true, true, true, true, true, true, true, true, true, true, true, true, false, true, false, false, false, false, false, false, false, false, false, false, false, false] rfl rfl (Qt HT_.out (by kernel_rfl)) (fun _ _ _ h => h) (Or.inl ⟨by rfl, ?_⟩) ?_ ?_
             rotate_left
             ·intro w'
              go_simp
              with_reducible rfl
             rotate_left
             ·simp only [Act.put, List.setIfInBounds_toArray, List.set_cons_zero, List.set_cons_succ, Qr, Qs]
              rfl
             refine Qx (i := 18) (N := some 83) (v := ?_) (a' := ?_) #[true, true, true, true, true, true, true, true, true, true, true, true, false, true, false, false, false, false, true, false, false, false, false, false, false, false] rfl rfl (Qt HT_.out (by kernel_rfl)) (fun _ _ _ h => h) (Or.inl ⟨by rfl, ?_⟩) ?_ ?_
             rotate_left
             ·intro w'
              go_simp
              with_reducible rfl
             rotate_left
             ·simp only [Act.put, List.setIfInBounds_toArray, List.set_cons_zero, List.set_cons_succ, Qr, Qs]
              rfl
             refine Qx (i := 20) (N := some 85) (v := ?_) (a' := ?_) #[true, true, true, true, true, true, true, true, true, true, true, true, false, true, false, false, false, false, true, false, true, false, false, false, false, false] rfl rfl (Qt HT_.out (by kernel_rfl)) (fun _ _ _ h => h) (Or.inl ⟨by rfl, ?_⟩) ?_ ?_
             rotate_left
             ·intro w'
              go_simp
              with_reducible rfl
             rotate_left
             ·simp only [Act.put, List.setIfInBounds_toArray, List.set_cons_zero, List.set_cons_succ, Qr, Qs]
              rfl
             refine take_ (i := 12) (N := some 77) (v := ?_) (a' := ?_) #[true, true, true, true, true, true, true, true, true, true, true, true, true, true, false, false, false, false, true, false, true, false, false, false, false, false] rfl rfl (Qz HT_.out HW_.out (by kernel_rfl)) (fun _ _ _ h => h) (Or.inl ⟨by rfl, ?_⟩) hHeld ?_ ?_
             rotate_left
             ·rintro w' ⟨s0, s1, s2, s3, s4, s5, s6, s7, s8, s9, s10, s11, s12, s13, s14, s15, s16, s17, s18, s19, s20, s21, s22, s23, s24, s25, s26, s27, s28, s29, s30⟩
              go_simp
              with_reducible rfl
             rotate_left
             ·simp only [Act.put, List.setIfInBounds_toArray, List.set_cons_zero, List.set_cons_succ, Qr, Qs]
              rfl
             refine Qx (i := 14) (N := some 79) (v := ?_) (a' := ?_) #[true, true, true, true, true, true, true, true, true, true, true, true, true, true, true, false, false, false, true, false, true, false, false, false, false, false] rfl rfl (Qt HT_.out (by kernel_rfl)) (fun _ _ _ h => h) (Or.inl ⟨by rfl, ?_⟩) ?_ ?_
             rotate_left
             ·intro w'
              go_simp
              with_reducible rfl
             rotate_left
             ·simp only [Act.put, List.setIfInBounds_toArray, List.set_cons_zero, List.set_cons_succ, Qr, Qs]
              rfl
             refine Qx (i := 15) (N := some 80) (v := ?_) (a' := ?_) #[true, true, true, true, true, true, true, true, true, true, true, true, true, true, true, true, false, false, true, false, true, false, false, false, false, false] rfl rfl (Qt HT_.out (by kernel_rfl)) (fun _ _ _ h => h) (Or.inl ⟨by rfl, ?_⟩) ?_ ?_
             rotate_left
             ·intro w'
              go_simp
              with_reducible rfl
             rotate_left
             ·simp only [Act.put, List.setIfInBounds_toArray, List.set_cons_zero, List.set_cons_succ, Qr, Qs]
              rfl
             refine Qx (i := 16) (N := some 81) (v := ?_) (a' := ?_) #[true, true, true, true, true, true, true, true, true, true, true, true, true, true, true, true, true, false, true, false, true, false, false, false, false, false] rfl rfl (Qt HT_.out (by kernel_rfl)) (fun _ _ _ h => h) (Or.inl ⟨by rfl, ?_⟩) ?_ ?_
             rotate_left
             ·intro w'
              go_simp
              with_reducible rfl
             rotate_left
             ·simp only [Act.put, List.setIfInBounds_toArray, List.set_cons_zero, List.set_cons_succ, Qr, Qs]
              rfl
             refine take_ (i := 17) (N := some 82) (v := ?_) (a' := ?_) #[true, true, true, true, true, true, true, true, true, true, true, true, true, true, true, true, true, true, true, false, true, false, false, false, false, false] rfl rfl (Qz HT_.out HW_.out (by kernel_rfl)) (fun _ _ _ h => h) (Or.inl ⟨by rfl, ?_⟩) hHeld ?_ ?_
             rotate_left
             ·rintro w' ⟨s0, s1, s2, s3, s4, s5, s6, s7, s8, s9, s10, s11, s12, s13, s14, s15, s16, s17, s18, s19, s20, s21, s22, s23, s24, s25, s26, s27, s28, s29, s30⟩
              go_simp
              with_reducible rfl
             rotate_left
             ·simp only [Act.put, List.setIfInBounds_toArray, List.set_cons_zero, List.set_cons_succ, Qr, Qs]
              rfl
             refine take_ (i := 19) (N := some 84) (v := ?_) (a' := ?_) #[true, true, true, true, true, true, true, true, true, true, true, true, true, true, true, true, true, true, true, true, true, false, false, false, false, false] rfl rfl (Qz HT_.out HW_.out (by kernel_rfl)) (fun _ _ _ h => h) (Or.inl ⟨by rfl, ?_⟩) hHeld ?_ ?_
             rotate_left
             ·rintro w' ⟨s0, s1, s2, s3, s4, s5, s6, s7, s8, s9, s10, s11, s12, s13, s14, s15, s16, s17, s18, s19, s20, s21, s22, s23, s24, s25, s26, s27, s28, s29, s30⟩
              go_simp
              with_reducible rfl
             rotate_left
             ·simp only [Act.put, List.setIfInBounds_toArray, List.set_cons_zero, List.set_cons_succ, Qr, Qs]
              rfl
             refine Qx (i := 21) (N := some 86) (v := ?_) (a' := ?_) #[true, true, true, true, true, true, true, true, true, true, true, true, true, true, true, true, true, true, true, true, true, true, false, false, false, false] rfl rfl (Qt HT_.out (by kernel_rfl)) (fun _ _ _ h => h) (Or.inl ⟨by rfl, ?_⟩) ?_ ?_
             rotate_left
             ·intro w'
              go_simp
              with_reducible rfl
             rotate_left
             ·simp only [Act.put, List.setIfInBounds_toArray, List.set_cons_zero, List.set_cons_succ, Qr, Qs]
              rfl
             refine Qx (i := 22) (N := some 87) (v := ?_) (a' := ?_) #[true, true, true, true, true, true, true, true, true, true, true, true, true, true, true, true, true, true, true, true, true, true, true, false, false, false] rfl rfl (Qt HT_.out (by kernel_rfl)) (fun _ _ _ h => h) (Or.inl ⟨by rfl, ?_⟩) ?_ ?_
             rotate_left
             ·intro w'
              go_simp
              with_reducible rfl
             rotate_left
             ·simp only [Act.put, List.setIfInBounds_toArray, List.set_cons_zero, List.set_cons_succ, Qr, Qs]
              rfl
             refine take_ (i := 23) (N := some 88) (v := ?_) (a' := ?_) #[true, true, true, true, true, true, true, true, true, true, true, true, true, true, true, true, true, true, true, true, true, true, true, true, false, false] rfl rfl (Qz HT_.out HW_.out (by kernel_rfl)) (fun _ _ _ h => h) (Or.inl ⟨by rfl, ?_⟩) hHeld ?_ ?_
             rotate_left
             ·rintro w' ⟨s0, s1, s2, s3, s4, s5, s6, s7, s8, s9, s10, s11, s12, s13, s14, s15, s16, s17, s18, s19, s20, s21, s22, s23, s24, s25, s26, s27, s28, s29, s30⟩
              go_simp
              with_reducible rfl
             rotate_left
             ·simp only [Act.put, List.setIfInBounds_toArray, List.set_cons_zero, List.set_cons_succ, Qr, Qs]
              rfl
             refine Qx (i := 24) (N := some 89) (v := ?_) (a' := ?_) #[true, true, true, true, true, true, true, true, true, true, true, true, true, true, true, true, true, true, true, true, true, true, true, true, true, false] rfl rfl (Qt HT_.out (by kernel_rfl)) (fun _ _ _ h => h) (Or.inl ⟨by rfl, ?_⟩) ?_ ?_
             rotate_left
             ·intro w'
              go_simp
              with_reducible rfl
             rotate_left
             ·simp only [Act.put, List.setIfInBounds_toArray, List.set_cons_zero, List.set_cons_succ, Qr, Qs]
              rfl
             refine Qx (i := 25) (N := some 90) (v := ?_) (a' := ?_) #[true, true, true, true, true, true, true, true, true, true, true, true, true, true, true, true, true, true, true, true, true, true, true, true, true, true] rfl rfl (Qt HT_.out (by kernel_rfl)) (fun _ _ _ h => h) (Or.inl ⟨by rfl, ?_⟩) ?_ ?_
             rotate_left
             ·intro w'
              go_simp
              with_reducible rfl
             rotate_left
             ·simp only [Act.put, List.setIfInBounds_toArray, List.set_cons_zero, List.set_cons_succ, Qr, Qs]
              rfl
             refine done_ (done_of HT_.out (by kernel_rfl)) ?_
             try go_wp2
             go_ret
             exact ⟨by first | rfl | (simp [Qm, Ql] <;> rfl) | (simp [*, Qm, Ql] <;> rfl), by repeat (first | (with_reducible first | exact HB.out | apply Qe | apply Qc | apply Qd | refine Qf ?_ GE219.out) | exact HB.out)⟩
          ·rw [if_neg c34] at H
           exact absurd H (by simp)
         ·rw [if_neg c33] at H
          have c33b0 : decide (x4_3 < (l0_3.length : Int)) = false := decide_eq_false c33
          clear c33
          obtain rfl := Option.some.inj H
          have hcz43_0 : wr.cell? ⟨gb219, 0, none⟩ = some (.int .i64 a0_0) := (Qa BK219.out 0).trans rfl
          have hcz43_1 : wr.cell? ⟨gb219, 1, none⟩ = some (.int .i64 a0_1) := (Qa BK219.out 1).trans rfl
          have hcz43_2 : wr.cell? ⟨gb219, 2, none⟩ = some (.slice A0_2 l0_2.length c0_2) := (Qa BK219.out 2).trans rfl
          have hcz43_3 : wr.cell? ⟨gb219, 3, none⟩ = some (.slice A0_3 l0_3.length c0_3) := (Qa BK219.out 3).trans rfl
          have hfz43_0 := Qb BK219.out 0
          have hfz43_1 := Qb BK219.out 1
          have hfz43_2 := Qb BK219.out 2
          have hfz43_3 := Qb BK219.out 3
          go_wp2
          go_ret
          exact ⟨by first | rfl | (simp [Qm, Ql] <;> rfl) | (simp [*, Qm, Ql] <;> rfl), by repeat (first | (with_reducible first | exact HB.out | apply Qe | apply Qc | apply Qd | refine Qf ?_ GE219.out) | exact HB.out)⟩
end Go.Proofs.Ytmgmaflfednngaa.PFnExactTellerRight
