-- A copy, made by trim.py (its own words shortened): not an official print.
import Derived.Test.YtmgmaflfednngaaZExactTellerRightPFnExactTellerRightx0
import Derived.Test.YtmgmaflfednngaaZExactTellerRightPFnExactTellerRightx4
namespace Go.Proofs.Ytmgmaflfednngaa.PFnExactTellerRight
open Go.RowKit Go.Proofs.YtmgmaflfednngaaW.PrintWords Go.Proofs.YtmgmaflfednngaaW.PrintLast Go.Proofs.YtmgmaflfednngaaW.PrintMore
attribute [local go_sem] max2_int min2_int max_two min_two max_three min_three max_four min_four   -- for this text's walks alone
set_option linter.unusedVariables false
set_option linter.unusedSimpArgs false
def spec_l05Time.f (a0 : Int) : Option (Bool) := (spec_l02Is.f a0 0 1000000).bind fun t211 => (some t211)
set_option maxHeartbeats 8000000 in
set_option maxRecDepth 100000 in
theorem spec_l05Time.calls (a0 : Int) (r : Bool) (w : World) (h : spec_l05Time.f a0 = some r) :
  Calls Try.prog 127 #[.int .i64 a0] w fun e w' => e = .returned (.bool r) ∧ Drawn0 w w' := by
 have H : ((spec_l02Is.f a0 0 1000000).bind fun t211 => (some t211)) = some r := h
 clear h
 replace H := Option.bind_eq_some_iff.mp H
 obtain ⟨t211, A20, H⟩ := H
 replace H : (some t211) = some r := H
 have A2 := Aside0.mk A20
 clear A20
 obtain rfl := Option.some.inj H
 go_enter Try.func127, Try.ntmps127
 go_wp2_with (first | ((with_reducible refine Qq (f := 88) rfl ?_); refine Qy (some 4) rfl rfl Try.func88 (by kernel_rfl) rfl #[.int .i64 a0, .int .i64 0, .int .i64 1000000] rfl (by (try simp only [List.map_toArray, List.map_cons, List.map_nil]); first | done | rfl | (simp only [List.length_drop, List.length_take]; rfl)) ?_; (with_reducible refine (spec_l02Is.calls a0 0 1000000 t211 _ A2.out).mono ?_); rintro e w' ⟨rfl, ⟨nd, rfl⟩⟩; refine ⟨_, rfl, ?_⟩))
 go_ret
 exact ⟨by first | rfl | (simp; done) | (simp [*]; done), by repeat (first | exact Drawn0.refl _ | apply Drawn0.step)⟩
mutual
def spec_PipeRight.j0 : Nat → Bool → Int → Int → Int → Int → List ByteArray → Option (Bool)
 | 0, _, _, _, _, _, _ => none
 | k + 1, x41, x213000, x213001, x213002, x213003, x213004 => if x41 = true then (some false) else (spec_PipeRight.l0 k 0 x213000 x213001 x213002 x213003 x213004)
def spec_PipeRight.l0 : Nat → Int → Int → Int → Int → Int → List ByteArray → Option (Bool)
 | 0, _, _, _, _, _, _ => none
 | k + 1, x3, x213000, x213001, x213002, x213003, x213004 => if x3 < (x213004.length : Int) then (if 0 ≤ x3 then (if ((rdOf ByteArray.empty x213004 x3).size : Int) > 60 then (some false) else (spec_PipeRight.l0 k (wrap64 (x3 + 1)) x213000 x213001 x213002 x213003 x213004)) else (none)) else (if x213001 > 0 then (some true) else (if x213002 = 0 then (if x213003 = 0 then (some ((x213004.length : Int) == 0)) else (some false)) else (some false)))
end
def spec_PipeRight.f (k : Nat) (a0_0 : Int) (a0_1 : Int) (a0_2 : Int) (a0_3 : Int) (l0_4 : List ByteArray) : Option (Bool) := (spec_l02Is.f a0_0 1 1000000).bind fun t213 => (if t213 = true then ((spec_l05Time.f a0_1).bind fun t214 => (if t214 = true then ((spec_l05Time.f a0_2).bind fun t215 => (if t215 = true then ((spec_l05Time.f a0_3).bind fun t216 => (if t216 = true then (if (l0_4.length : Int) > 60 then (spec_PipeRight.j0 k true a0_0 a0_1 a0_2 a0_3 l0_4) else ((spec_l05Time.f (wrap64 (a0_2 + (l0_4.length : Int)))).bind fun t217 => (spec_PipeRight.j0 k (!t217) a0_0 a0_1 a0_2 a0_3 l0_4))) else (spec_PipeRight.j0 k true a0_0 a0_1 a0_2 a0_3 l0_4))) else (spec_PipeRight.j0 k true a0_0 a0_1 a0_2 a0_3 l0_4))) else (spec_PipeRight.j0 k true a0_0 a0_1 a0_2 a0_3 l0_4))) else (spec_PipeRight.j0 k true a0_0 a0_1 a0_2 a0_3 l0_4))
theorem spec_PipeRight.mono_l : ∀ k, (∀ y0 y1 y2 y3 y4 y5, LeO (spec_PipeRight.j0 k y0 y1 y2 y3 y4 y5) (spec_PipeRight.j0 (k + 1) y0 y1 y2 y3 y4 y5)) ∧ (∀ y0 y1 y2 y3 y4 y5, LeO (spec_PipeRight.l0 k y0 y1 y2 y3 y4 y5) (spec_PipeRight.l0 (k + 1) y0 y1 y2 y3 y4 y5))
 | 0 => ⟨fun _ _ _ _ _ _ r h => by simp [spec_PipeRight.j0] at h, fun _ _ _ _ _ _ r h => by simp [spec_PipeRight.l0] at h⟩
 | k + 1 => by
  obtain ⟨ih0, ih1⟩ := spec_PipeRight.mono_l k
  refine ⟨?_, ?_⟩
  ·intro y0 y1 y2 y3 y4 y5
   unfold spec_PipeRight.j0
   repeat' first
   | (with_reducible exact ih0 _ _ _ _ _ _)
   | (with_reducible exact ih1 _ _ _ _ _ _)
   | (with_reducible exact LeO.refl _)
   | (with_reducible exact LeO.none _)
   | (with_reducible refine LeO.ite ?_ ?_)
   | (with_reducible refine LeO.bind ?_ (fun _ => ?_))
   | exact ih0 _ _ _ _ _ _
   | exact ih1 _ _ _ _ _ _
   | exact LeO.none _
   | refine LeO.ite ?_ ?_
   | refine LeO.bind ?_ (fun _ => ?_)
  ·intro y0 y1 y2 y3 y4 y5
   unfold spec_PipeRight.l0
   repeat' first
   | (with_reducible exact ih0 _ _ _ _ _ _)
   | (with_reducible exact ih1 _ _ _ _ _ _)
   | (with_reducible exact LeO.refl _)
   | (with_reducible exact LeO.none _)
   | (with_reducible refine LeO.ite ?_ ?_)
   | (with_reducible refine LeO.bind ?_ (fun _ => ?_))
   | exact ih0 _ _ _ _ _ _
   | exact ih1 _ _ _ _ _ _
   | exact LeO.none _
   | refine LeO.ite ?_ ?_
   | refine LeO.bind ?_ (fun _ => ?_)
theorem spec_PipeRight.mono : ∀ a0 a1 a2 a3 a4 k, LeO (spec_PipeRight.f k a0 a1 a2 a3 a4) (spec_PipeRight.f (k + 1) a0 a1 a2 a3 a4) := by
 intro a0 a1 a2 a3 a4 k
 obtain ⟨ih0, ih1⟩ := spec_PipeRight.mono_l k
 unfold spec_PipeRight.f
 repeat' first
   | (with_reducible exact ih0 _ _ _ _ _ _)
   | (with_reducible exact ih1 _ _ _ _ _ _)
   | (with_reducible exact LeO.refl _)
   | (with_reducible exact LeO.none _)
   | (with_reducible refine LeO.ite ?_ ?_)
   | (with_reducible refine LeO.bind ?_ (fun _ => ?_))
   | exact ih0 _ _ _ _ _ _
   | exact ih1 _ _ _ _ _ _
   | exact LeO.none _
   | refine LeO.ite ?_ ?_
   | refine LeO.bind ?_ (fun _ => ?_)
set_option maxHeartbeats 8000000 in
set_option maxRecDepth 100000 in
theorem spec_PipeRight.calls (k : Nat) (a0_0 : Int) (a0_1 : Int) (a0_2 : Int) (a0_3 : Int) (A0_4 : Option Addr) (c0_4 : Nat) (l0_4 : List ByteArray) (r : Bool) (w : World) (hr0_4 : Kd.C Kd.string w A0_4 l0_4.length l0_4) (hc0_4 : l0_4.length ≤ c0_4) (h : spec_PipeRight.f k a0_0 a0_1 a0_2 a0_3 l0_4 = some r) :
  Calls Try.prog 89 #[.agg #[.int .i64 a0_0, .int .i64 a0_1, .int .i64 a0_2, .int .i64 a0_3, .slice A0_4 l0_4.length c0_4]] w fun e w' => e = .returned (.bool r) ∧ Below w.heap.size w w' := by
 have hu100 := Try.underlying100
 have HR0_4 := Aside0.mk hr0_4
 have HC0_4 := Aside0.mk hc0_4
 clear hr0_4 hc0_4
 have HB := Aside0.mk (Below.refl w.heap.size w)
 have H : ((spec_l02Is.f a0_0 1 1000000).bind fun t213 => (if t213 = true then ((spec_l05Time.f a0_1).bind fun t214 => (if t214 = true then ((spec_l05Time.f a0_2).bind fun t215 => (if t215 = true then ((spec_l05Time.f a0_3).bind fun t216 => (if t216 = true then (if (l0_4.length : Int) > 60 then (spec_PipeRight.j0 k true a0_0 a0_1 a0_2 a0_3 l0_4) else ((spec_l05Time.f (wrap64 (a0_2 + (l0_4.length : Int)))).bind fun t217 => (spec_PipeRight.j0 k (!t217) a0_0 a0_1 a0_2 a0_3 l0_4))) else (spec_PipeRight.j0 k true a0_0 a0_1 a0_2 a0_3 l0_4))) else (spec_PipeRight.j0 k true a0_0 a0_1 a0_2 a0_3 l0_4))) else (spec_PipeRight.j0 k true a0_0 a0_1 a0_2 a0_3 l0_4))) else (spec_PipeRight.j0 k true a0_0 a0_1 a0_2 a0_3 l0_4))) = some r := h
 clear h
 have HC2 := Aside0.mk H
 clear H
 go_enter Try.func89, Try.ntmps89
 go_upto_region 1 with (first | ((with_reducible refine Qw (N := 1) rfl ?_); (try (refine gate_guard (by rfl) ?_; dsimp only)); refine Qu ?hg (N := 1) ?hd (cs := #[.int .i64 a0_0, .int .i64 a0_1, .int .i64 a0_2, .int .i64 a0_3, .slice A0_4 l0_4.length c0_4]) (t := 100) ?hr ?_; (case hd => rfl); (case hg => rfl); (case hr => first | (go_simp; done) | (go_simp; rfl)); intro gb212 hg w3 hbox hb; have n0_ := Aside0.mk (Qn (by repeat (first | (with_reducible first | exact HB.out | apply Qe | apply Qc | apply Qd) | exact HB.out)) hb); have n1_ := Aside0.mk (hbox); have n2_ := Aside0.mk ((by rw [hg]; exact (Qj (by repeat (first | (with_reducible first | exact HB.out | apply Qe | apply Qc | apply Qd) | exact HB.out))) : w.heap.size ≤ gb212)); have n3_ := Aside0.mk ((by rw [hg]; exact (Qj (by repeat (first | (with_reducible first | exact HB.out | apply Qe | apply Qc | apply Qd) | exact HB.out))) : w.heap.size ≤ gb212)); clear HB; have HB := n0_; have BK212 := n1_; have GW212 := n2_; have GE212 := n3_; clear n0_ n1_ n2_ n3_; clear hb hbox hg))
 (try simp only [Act.put, List.setIfInBounds_toArray, List.set_cons_zero, List.set_cons_succ])
 go_cut [41] (fun v41 wc => ∃ (kq : Nat) (x41_1 : Bool), v41 = .bool x41_1 ∧ Aside0 (spec_PipeRight.j0 kq x41_1 a0_0 a0_1 a0_2 a0_3 l0_4 = some r) ∧ Aside0 (kq ≤ k) ∧ Aside0 (wc.heap[gb212]? = some (.cells #[.int .i64 a0_0, .int .i64 a0_1, .int .i64 a0_2, .int .i64 a0_3, (.slice A0_4 l0_4.length c0_4)] 100 (0, 0))) ∧ Aside0 (Below w.heap.size w wc))
 case first =>
  have H := HC2.out
  clear HC2
  replace H := Option.bind_eq_some_iff.mp H
  obtain ⟨t213, A40, H⟩ := H
  replace H : (if t213 = true then ((spec_l05Time.f a0_1).bind fun t214 => (if t214 = true then ((spec_l05Time.f a0_2).bind fun t215 => (if t215 = true then ((spec_l05Time.f a0_3).bind fun t216 => (if t216 = true then (if (l0_4.length : Int) > 60 then (spec_PipeRight.j0 k true a0_0 a0_1 a0_2 a0_3 l0_4) else ((spec_l05Time.f (wrap64 (a0_2 + (l0_4.length : Int)))).bind fun t217 => (spec_PipeRight.j0 k (!t217) a0_0 a0_1 a0_2 a0_3 l0_4))) else (spec_PipeRight.j0 k true a0_0 a0_1 a0_2 a0_3 l0_4))) else (spec_PipeRight.j0 k true a0_0 a0_1 a0_2 a0_3 l0_4))) else (spec_PipeRight.j0 k true a0_0 a0_1 a0_2 a0_3 l0_4))) else (spec_PipeRight.j0 k true a0_0 a0_1 a0_2 a0_3 l0_4)) = some r := H
  have A4 := Aside0.mk A40
  clear A40
  by_cases c5 : t213 = true
  ·subst c5
   have H1 : ((spec_l05Time.f a0_1).bind fun t214 => (if t214 = true then ((spec_l05Time.f a0_2).bind fun t215 => (if t215 = true then ((spec_l05Time.f a0_3).bind fun t216 => (if t216 = true then (if (l0_4.length : Int) > 60 then (spec_PipeRight.j0 k true a0_0 a0_1 a0_2 a0_3 l0_4) else ((spec_l05Time.f (wrap64 (a0_2 + (l0_4.length : Int)))).bind fun t217 => (spec_PipeRight.j0 k (!t217) a0_0 a0_1 a0_2 a0_3 l0_4))) else (spec_PipeRight.j0 k true a0_0 a0_1 a0_2 a0_3 l0_4))) else (spec_PipeRight.j0 k true a0_0 a0_1 a0_2 a0_3 l0_4))) else (spec_PipeRight.j0 k true a0_0 a0_1 a0_2 a0_3 l0_4))) = some r := by rw [if_pos rfl] at H; exact H
   clear H
   have H := H1
   clear H1
   replace H := Option.bind_eq_some_iff.mp H
   obtain ⟨t214, A60, H⟩ := H
   replace H : (if t214 = true then ((spec_l05Time.f a0_2).bind fun t215 => (if t215 = true then ((spec_l05Time.f a0_3).bind fun t216 => (if t216 = true then (if (l0_4.length : Int) > 60 then (spec_PipeRight.j0 k true a0_0 a0_1 a0_2 a0_3 l0_4) else ((spec_l05Time.f (wrap64 (a0_2 + (l0_4.length : Int)))).bind fun t217 => (spec_PipeRight.j0 k (!t217) a0_0 a0_1 a0_2 a0_3 l0_4))) else (spec_PipeRight.j0 k true a0_0 a0_1 a0_2 a0_3 l0_4))) else (spec_PipeRight.j0 k true a0_0 a0_1 a0_2 a0_3 l0_4))) else (spec_PipeRight.j0 k true a0_0 a0_1 a0_2 a0_3 l0_4)) = some r := H
   have A6 := Aside0.mk A60
   clear A60
   by_cases c7 : t214 = true
   ·subst c7
    have H1 : ((spec_l05Time.f a0_2).bind fun t215 => (if t215 = true then ((spec_l05Time.f a0_3).bind fun t216 => (if t216 = true then (if (l0_4.length : Int) > 60 then (spec_PipeRight.j0 k true a0_0 a0_1 a0_2 a0_3 l0_4) else ((spec_l05Time.f (wrap64 (a0_2 + (l0_4.length : Int)))).bind fun t217 => (spec_PipeRight.j0 k (!t217) a0_0 a0_1 a0_2 a0_3 l0_4))) else (spec_PipeRight.j0 k true a0_0 a0_1 a0_2 a0_3 l0_4))) else (spec_PipeRight.j0 k true a0_0 a0_1 a0_2 a0_3 l0_4))) = some r := by rw [if_pos rfl] at H; exact H
    clear H
    have H := H1
    clear H1
    replace H := Option.bind_eq_some_iff.mp H
    obtain ⟨t215, A80, H⟩ := H
    replace H : (if t215 = true then ((spec_l05Time.f a0_3).bind fun t216 => (if t216 = true then (if (l0_4.length : Int) > 60 then (spec_PipeRight.j0 k true a0_0 a0_1 a0_2 a0_3 l0_4) else ((spec_l05Time.f (wrap64 (a0_2 + (l0_4.length : Int)))).bind fun t217 => (spec_PipeRight.j0 k (!t217) a0_0 a0_1 a0_2 a0_3 l0_4))) else (spec_PipeRight.j0 k true a0_0 a0_1 a0_2 a0_3 l0_4))) else (spec_PipeRight.j0 k true a0_0 a0_1 a0_2 a0_3 l0_4)) = some r := H
    have A8 := Aside0.mk A80
    clear A80
    by_cases c9 : t215 = true
    ·subst c9
     have H1 : ((spec_l05Time.f a0_3).bind fun t216 => (if t216 = true then (if (l0_4.length : Int) > 60 then (spec_PipeRight.j0 k true a0_0 a0_1 a0_2 a0_3 l0_4) else ((spec_l05Time.f (wrap64 (a0_2 + (l0_4.length : Int)))).bind fun t217 => (spec_PipeRight.j0 k (!t217) a0_0 a0_1 a0_2 a0_3 l0_4))) else (spec_PipeRight.j0 k true a0_0 a0_1 a0_2 a0_3 l0_4))) = some r := by rw [if_pos rfl] at H; exact H
     clear H
     have H := H1
     clear H1
     replace H := Option.bind_eq_some_iff.mp H
     obtain ⟨t216, A100, H⟩ := H
     replace H : (if t216 = true then (if (l0_4.length : Int) > 60 then (spec_PipeRight.j0 k true a0_0 a0_1 a0_2 a0_3 l0_4) else ((spec_l05Time.f (wrap64 (a0_2 + (l0_4.length : Int)))).bind fun t217 => (spec_PipeRight.j0 k (!t217) a0_0 a0_1 a0_2 a0_3 l0_4))) else (spec_PipeRight.j0 k true a0_0 a0_1 a0_2 a0_3 l0_4)) = some r := H
     have A10 := Aside0.mk A100
     clear A100
     by_cases c11 : t216 = true
     ·subst c11
      have H1 : (if (l0_4.length : Int) > 60 then (spec_PipeRight.j0 k true a0_0 a0_1 a0_2 a0_3 l0_4) else ((spec_l05Time.f (wrap64 (a0_2 + (l0_4.length : Int)))).bind fun t217 => (spec_PipeRight.j0 k (!t217) a0_0 a0_1 a0_2 a0_3 l0_4))) = some r := by rw [if_pos rfl] at H; exact H
      clear H
      have H := H1
      clear H1
      by_cases c12 : (l0_4.length : Int) > 60
      ·rw [if_pos c12] at H
       have c12b0 : decide (60 < (l0_4.length : Int)) = true := decide_eq_true c12
       have c12b1 : decide (60 < l0_4.length) = true := decide_eq_true (by omega)
       clear c12
       (first | rw [c12b0] | (simp only [Qr, Qs]; rw [c12b0]) | skip)
       have H' := Aside0.mk H
       clear H
       have hcz13_0 : w3.cell? ⟨gb212, 0, none⟩ = some (.int .i64 a0_0) := (Qa BK212.out 0).trans rfl
       have hcz13_1 : w3.cell? ⟨gb212, 1, none⟩ = some (.int .i64 a0_1) := (Qa BK212.out 1).trans rfl
       have hcz13_2 : w3.cell? ⟨gb212, 2, none⟩ = some (.int .i64 a0_2) := (Qa BK212.out 2).trans rfl
       have hcz13_3 : w3.cell? ⟨gb212, 3, none⟩ = some (.int .i64 a0_3) := (Qa BK212.out 3).trans rfl
       have hcz13_4 : w3.cell? ⟨gb212, 4, none⟩ = some (.slice A0_4 l0_4.length c0_4) := (Qa BK212.out 4).trans rfl
       have hfz13_0 := Qb BK212.out 0
       have hfz13_1 := Qb BK212.out 1
       have hfz13_2 := Qb BK212.out 2
       have hfz13_3 := Qb BK212.out 3
       have hfz13_4 := Qb BK212.out 4
       go_wp2_with (first | ((with_reducible refine Qq (f := 88) rfl ?_); refine Qy (some 6) rfl rfl Try.func88 (by kernel_rfl) rfl #[.int .i64 a0_0, .int .i64 1, .int .i64 1000000] rfl (by (try simp only [List.map_toArray, List.map_cons, List.map_nil]); first | done | rfl | (simp only [List.length_drop, List.length_take]; rfl)) ?_; (with_reducible refine (spec_l02Is.calls a0_0 1 1000000 true _ A4.out).mono ?_); rintro e w' ⟨rfl, ⟨nd, rfl⟩⟩; refine ⟨_, rfl, ?_⟩) | (go_at_call 127; (with_reducible refine (spec_l05Time.calls a0_1 true _ A6.out).mono ?_); rintro e w' ⟨rfl, ⟨nd, rfl⟩⟩) | (go_at_call 127; (with_reducible refine (spec_l05Time.calls a0_2 true _ A8.out).mono ?_); rintro e w' ⟨rfl, ⟨nd, rfl⟩⟩) | (go_at_call 127; (with_reducible refine (spec_l05Time.calls a0_3 true _ A10.out).mono ?_); rintro e w' ⟨rfl, ⟨nd, rfl⟩⟩))
       go_meet
       case rel => exact ⟨_, (true), (by first | rfl | (simp; done) | (simp [*]; done)), H', ⟨by first | omega | exact Nat.le_refl _⟩, ⟨by (with_reducible repeat (first | refine Qg ?_ _ | refine Qi ?_ | refine Qh ?_ _)); exact BK212.out⟩, ⟨by repeat (first | (with_reducible first | exact HB.out | apply Qe | apply Qc | apply Qd | refine Qf ?_ GE212.out) | exact HB.out)⟩⟩
      ·rw [if_neg c12] at H
       have c12b0 : decide (60 < (l0_4.length : Int)) = false := decide_eq_false c12
       have c12b1 : decide (60 < l0_4.length) = false := decide_eq_false (by omega)
       clear c12
       (first | rw [c12b0] | (simp only [Qr, Qs]; rw [c12b0]) | skip)
       replace H := Option.bind_eq_some_iff.mp H
       obtain ⟨t217, A140, H⟩ := H
       replace H : (spec_PipeRight.j0 k (!t217) a0_0 a0_1 a0_2 a0_3 l0_4) = some r := H
       have A14 := Aside0.mk A140
       clear A140
       have H' := Aside0.mk H
       clear H
       have hcz15_0 : w3.cell? ⟨gb212, 0, none⟩ = some (.int .i64 a0_0) := (Qa BK212.out 0).trans rfl
       have hcz15_1 : w3.cell? ⟨gb212, 1, none⟩ = some (.int .i64 a0_1) := (Qa BK212.out 1).trans rfl
       have hcz15_2 : w3.cell? ⟨gb212, 2, none⟩ = some (.int .i64 a0_2) := (Qa BK212.out 2).trans rfl
       have hcz15_3 : w3.cell? ⟨gb212, 3, none⟩ = some (.int .i64 a0_3) := (Qa BK212.out 3).trans rfl
       have hcz15_4 : w3.cell? ⟨gb212, 4, none⟩ = some (.slice A0_4 l0_4.length c0_4) := (Qa BK212.out 4).trans rfl
       have hfz15_0 := Qb BK212.out 0
       have hfz15_1 := Qb BK212.out 1
       have hfz15_2 := Qb BK212.out 2
       have hfz15_3 := Qb BK212.out 3
       have hfz15_4 := Qb BK212.out 4
       go_wp2_with (first | ((with_reducible refine Qq (f := 88) rfl ?_); refine Qy (some 6) rfl rfl Try.func88 (by kernel_rfl) rfl #[.int .i64 a0_0, .int .i64 1, .int .i64 1000000] rfl (by (try simp only [List.map_toArray, List.map_cons, List.map_nil]); first | done | rfl | (simp only [List.length_drop, List.length_take]; rfl)) ?_; (with_reducible refine (spec_l02Is.calls a0_0 1 1000000 true _ A4.out).mono ?_); rintro e w' ⟨rfl, ⟨nd, rfl⟩⟩; refine ⟨_, rfl, ?_⟩) | (go_at_call 127; (with_reducible refine (spec_l05Time.calls a0_1 true _ A6.out).mono ?_); rintro e w' ⟨rfl, ⟨nd, rfl⟩⟩) | (go_at_call 127; (with_reducible refine (spec_l05Time.calls a0_2 true _ A8.out).mono ?_); rintro e w' ⟨rfl, ⟨nd, rfl⟩⟩) | (go_at_call 127; (with_reducible refine (spec_l05Time.calls a0_3 true _ A10.out).mono ?_); rintro e w' ⟨rfl, ⟨nd, rfl⟩⟩) | (go_at_call 127; (with_reducible refine (spec_l05Time.calls (wrap64 (a0_2 + (l0_4.length : Int))) t217 _ A14.out).mono ?_); rintro e w' ⟨rfl, ⟨nd, rfl⟩⟩))
       go_meet
       case rel => exact ⟨_, (!t217), (by first | rfl | (simp; done) | (simp [*]; done)), H', ⟨by first | omega | exact Nat.le_refl _⟩, ⟨by (with_reducible repeat (first | refine Qg ?_ _ | refine Qi ?_ | refine Qh ?_ _)); exact BK212.out⟩, ⟨by repeat (first | (with_reducible first | exact HB.out | apply Qe | apply Qc | apply Qd | refine Qf ?_ GE212.out) | exact HB.out)⟩⟩
     ·replace c11 := Bool.eq_false_iff.mpr c11
      subst c11
      have H1 : (spec_PipeRight.j0 k true a0_0 a0_1 a0_2 a0_3 l0_4) = some r := by rw [if_neg (show ¬ (false = true) by decide)] at H; exact H
      clear H
      have H := H1
      clear H1
      have H' := Aside0.mk H
      clear H
      have hcz16_0 : w3.cell? ⟨gb212, 0, none⟩ = some (.int .i64 a0_0) := (Qa BK212.out 0).trans rfl
      have hcz16_1 : w3.cell? ⟨gb212, 1, none⟩ = some (.int .i64 a0_1) := (Qa BK212.out 1).trans rfl
      have hcz16_2 : w3.cell? ⟨gb212, 2, none⟩ = some (.int .i64 a0_2) := (Qa BK212.out 2).trans rfl
      have hcz16_3 : w3.cell? ⟨gb212, 3, none⟩ = some (.int .i64 a0_3) := (Qa BK212.out 3).trans rfl
      have hcz16_4 : w3.cell? ⟨gb212, 4, none⟩ = some (.slice A0_4 l0_4.length c0_4) := (Qa BK212.out 4).trans rfl
      have hfz16_0 := Qb BK212.out 0
      have hfz16_1 := Qb BK212.out 1
      have hfz16_2 := Qb BK212.out 2
      have hfz16_3 := Qb BK212.out 3
      have hfz16_4 := Qb BK212.out 4
      go_wp2_with (first | ((with_reducible refine Qq (f := 88) rfl ?_); refine Qy (some 6) rfl rfl Try.func88 (by kernel_rfl) rfl #[.int .i64 a0_0, .int .i64 1, .int .i64 1000000] rfl (by (try simp only [List.map_toArray, List.map_cons, List.map_nil]); first | done | rfl | (simp only [List.length_drop, List.length_take]; rfl)) ?_; (with_reducible refine (spec_l02Is.calls a0_0 1 1000000 true _ A4.out).mono ?_); rintro e w' ⟨rfl, ⟨nd, rfl⟩⟩; refine ⟨_, rfl, ?_⟩) | (go_at_call 127; (with_reducible refine (spec_l05Time.calls a0_1 true _ A6.out).mono ?_); rintro e w' ⟨rfl, ⟨nd, rfl⟩⟩) | (go_at_call 127; (with_reducible refine (spec_l05Time.calls a0_2 true _ A8.out).mono ?_); rintro e w' ⟨rfl, ⟨nd, rfl⟩⟩) | (go_at_call 127; (with_reducible refine (spec_l05Time.calls a0_3 false _ A10.out).mono ?_); rintro e w' ⟨rfl, ⟨nd, rfl⟩⟩))
      go_meet
      case rel => exact ⟨_, (true), (by first | rfl | (simp; done) | (simp [*]; done)), H', ⟨by first | omega | exact Nat.le_refl _⟩, ⟨by (with_reducible repeat (first | refine Qg ?_ _ | refine Qi ?_ | refine Qh ?_ _)); exact BK212.out⟩, ⟨by repeat (first | (with_reducible first | exact HB.out | apply Qe | apply Qc | apply Qd | refine Qf ?_ GE212.out) | exact HB.out)⟩⟩
    ·replace c9 := Bool.eq_false_iff.mpr c9
     subst c9
     have H1 : (spec_PipeRight.j0 k true a0_0 a0_1 a0_2 a0_3 l0_4) = some r := by rw [if_neg (show ¬ (false = true) by decide)] at H; exact H
     clear H
     have H := H1
     clear H1
     have H' := Aside0.mk H
     clear H
     have hcz17_0 : w3.cell? ⟨gb212, 0, none⟩ = some (.int .i64 a0_0) := (Qa BK212.out 0).trans rfl
     have hcz17_1 : w3.cell? ⟨gb212, 1, none⟩ = some (.int .i64 a0_1) := (Qa BK212.out 1).trans rfl
     have hcz17_2 : w3.cell? ⟨gb212, 2, none⟩ = some (.int .i64 a0_2) := (Qa BK212.out 2).trans rfl
     have hcz17_3 : w3.cell? ⟨gb212, 3, none⟩ = some (.int .i64 a0_3) := (Qa BK212.out 3).trans rfl
     have hcz17_4 : w3.cell? ⟨gb212, 4, none⟩ = some (.slice A0_4 l0_4.length c0_4) := (Qa BK212.out 4).trans rfl
     have hfz17_0 := Qb BK212.out 0
     have hfz17_1 := Qb BK212.out 1
     have hfz17_2 := Qb BK212.out 2
     have hfz17_3 := Qb BK212.out 3
     have hfz17_4 := Qb BK212.out 4
     go_wp2_with (first | ((with_reducible refine Qq (f := 88) rfl ?_); refine Qy (some 6) rfl rfl Try.func88 (by kernel_rfl) rfl #[.int .i64 a0_0, .int .i64 1, .int .i64 1000000] rfl (by (try simp only [List.map_toArray, List.map_cons, List.map_nil]); first | done | rfl | (simp only [List.length_drop, List.length_take]; rfl)) ?_; (with_reducible refine (spec_l02Is.calls a0_0 1 1000000 true _ A4.out).mono ?_); rintro e w' ⟨rfl, ⟨nd, rfl⟩⟩; refine ⟨_, rfl, ?_⟩) | (go_at_call 127; (with_reducible refine (spec_l05Time.calls a0_1 true _ A6.out).mono ?_); rintro e w' ⟨rfl, ⟨nd, rfl⟩⟩) | (go_at_call 127; (with_reducible refine (spec_l05Time.calls a0_2 false _ A8.out).mono ?_); rintro e w' ⟨rfl, ⟨nd, rfl⟩⟩))
     go_meet
     case rel => exact ⟨_, (true), (by first | rfl | (simp; done) | (simp [*]; done)), H', ⟨by first | omega | exact Nat.le_refl _⟩, ⟨by (with_reducible repeat (first | refine Qg ?_ _ | refine Qi ?_ | refine Qh ?_ _)); exact BK212.out⟩, ⟨by repeat (first | (with_reducible first | exact HB.out | apply Qe | apply Qc | apply Qd | refine Qf ?_ GE212.out) | exact HB.out)⟩⟩
   ·replace c7 := Bool.eq_false_iff.mpr c7
    subst c7
    have H1 : (spec_PipeRight.j0 k true a0_0 a0_1 a0_2 a0_3 l0_4) = some r := by rw [if_neg (show ¬ (false = true) by decide)] at H; exact H
    clear H
    have H := H1
    clear H1
    have H' := Aside0.mk H
    clear H
    have hcz18_0 : w3.cell? ⟨gb212, 0, none⟩ = some (.int .i64 a0_0) := (Qa BK212.out 0).trans rfl
    have hcz18_1 : w3.cell? ⟨gb212, 1, none⟩ = some (.int .i64 a0_1) := (Qa BK212.out 1).trans rfl
    have hcz18_2 : w3.cell? ⟨gb212, 2, none⟩ = some (.int .i64 a0_2) := (Qa BK212.out 2).trans rfl
    have hcz18_3 : w3.cell? ⟨gb212, 3, none⟩ = some (.int .i64 a0_3) := (Qa BK212.out 3).trans rfl
    have hcz18_4 : w3.cell? ⟨gb212, 4, none⟩ = some (.slice A0_4 l0_4.length c0_4) := (Qa BK212.out 4).trans rfl
    have hfz18_0 := Qb BK212.out 0
    have hfz18_1 := Qb BK212.out 1
    have hfz18_2 := Qb BK212.out 2
    have hfz18_3 := Qb BK212.out 3
    have hfz18_4 := Qb BK212.out 4
    go_wp2_with (first | ((with_reducible refine Qq (f := 88) rfl ?_); refine Qy (some 6) rfl rfl Try.func88 (by kernel_rfl) rfl #[.int .i64 a0_0, .int .i64 1, .int .i64 1000000] rfl (by (try simp only [List.map_toArray, List.map_cons, List.map_nil]); first | done | rfl | (simp only [List.length_drop, List.length_take]; rfl)) ?_; (with_reducible refine (spec_l02Is.calls a0_0 1 1000000 true _ A4.out).mono ?_); rintro e w' ⟨rfl, ⟨nd, rfl⟩⟩; refine ⟨_, rfl, ?_⟩) | (go_at_call 127; (with_reducible refine (spec_l05Time.calls a0_1 false _ A6.out).mono ?_); rintro e w' ⟨rfl, ⟨nd, rfl⟩⟩))
    go_meet
    case rel => exact ⟨_, (true), (by first | rfl | (simp; done) | (simp [*]; done)), H', ⟨by first | omega | exact Nat.le_refl _⟩, ⟨by (with_reducible repeat (first | refine Qg ?_ _ | refine Qi ?_ | refine Qh ?_ _)); exact BK212.out⟩, ⟨by repeat (first | (with_reducible first | exact HB.out | apply Qe | apply Qc | apply Qd | refine Qf ?_ GE212.out) | exact HB.out)⟩⟩
  ·replace c5 := Bool.eq_false_iff.mpr c5
   subst c5
   have H1 : (spec_PipeRight.j0 k true a0_0 a0_1 a0_2 a0_3 l0_4) = some r := by rw [if_neg (show ¬ (false = true) by decide)] at H; exact H
   clear H
   have H := H1
   clear H1
   have H' := Aside0.mk H
   clear H
   have hcz19_0 : w3.cell? ⟨gb212, 0, none⟩ = some (.int .i64 a0_0) := (Qa BK212.out 0).trans rfl
   have hcz19_1 : w3.cell? ⟨gb212, 1, none⟩ = some (.int .i64 a0_1) := (Qa BK212.out 1).trans rfl
   have hcz19_2 : w3.cell? ⟨gb212, 2, none⟩ = some (.int .i64 a0_2) := (Qa BK212.out 2).trans rfl
   have hcz19_3 : w3.cell? ⟨gb212, 3, none⟩ = some (.int .i64 a0_3) := (Qa BK212.out 3).trans rfl
   have hcz19_4 : w3.cell? ⟨gb212, 4, none⟩ = some (.slice A0_4 l0_4.length c0_4) := (Qa BK212.out 4).trans rfl
   have hfz19_0 := Qb BK212.out 0
   have hfz19_1 := Qb BK212.out 1
   have hfz19_2 := Qb BK212.out 2
   have hfz19_3 := Qb BK212.out 3
   have hfz19_4 := Qb BK212.out 4
   go_wp2_with (first | ((with_reducible refine Qq (f := 88) rfl ?_); refine Qy (some 6) rfl rfl Try.func88 (by kernel_rfl) rfl #[.int .i64 a0_0, .int .i64 1, .int .i64 1000000] rfl (by (try simp only [List.map_toArray, List.map_cons, List.map_nil]); first | done | rfl | (simp only [List.length_drop, List.length_take]; rfl)) ?_; (with_reducible refine (spec_l02Is.calls a0_0 1 1000000 false _ A4.out).mono ?_); rintro e w' ⟨rfl, ⟨nd, rfl⟩⟩; refine ⟨_, rfl, ?_⟩))
   go_meet
   case rel => exact ⟨_, (true), (by first | rfl | (simp; done) | (simp [*]; done)), H', ⟨by first | omega | exact Nat.le_refl _⟩, ⟨by (with_reducible repeat (first | refine Qg ?_ _ | refine Qi ?_ | refine Qh ?_ _)); exact BK212.out⟩, ⟨by repeat (first | (with_reducible first | exact HB.out | apply Qe | apply Qc | apply Qd | refine Qf ?_ GE212.out) | exact HB.out)⟩⟩
 case rest =>
  clear HC2
  try clear c1
  try clear p2
  try clear c5
  try clear p6
  try clear c7
  try clear c8
  try clear c9
  try clear c11
  try clear c12
  try clear c12b0
  try clear c12b1
  try clear hcz13_0
  try clear hcz13_1
  try clear hcz13_2
  try clear hcz13_3
  try clear hcz13_4
  try clear hcz15_0
  try clear hcz15_1
  try clear hcz15_2
  try clear hcz15_3
  try clear hcz15_4
  try clear hcz16_0
  try clear hcz16_1
  try clear hcz16_2
  try clear hcz16_3
  try clear hcz16_4
  try clear hcz17_0
  try clear hcz17_1
  try clear hcz17_2
  try clear hcz17_3
  try clear hcz17_4
  try clear hcz18_0
  try clear hcz18_1
  try clear hcz18_2
  try clear hcz18_3
  try clear hcz18_4
  try clear hcz19_0
  try clear hcz19_1
  try clear hcz19_2
  try clear hcz19_3
  try clear hcz19_4
  try clear hfz13_0
  try clear hfz13_1
  try clear hfz13_2
  try clear hfz13_3
  try clear hfz13_4
  try clear hfz15_0
  try clear hfz15_1
  try clear hfz15_2
  try clear hfz15_3
  try clear hfz15_4
  try clear hfz16_0
  try clear hfz16_1
  try clear hfz16_2
  try clear hfz16_3
  try clear hfz16_4
  try clear hfz17_0
  try clear hfz17_1
  try clear hfz17_2
  try clear hfz17_3
  try clear hfz17_4
  try clear hfz18_0
  try clear hfz18_1
  try clear hfz18_2
  try clear hfz18_3
  try clear hfz18_4
  try clear hfz19_0
  try clear hfz19_1
  try clear hfz19_2
  try clear hfz19_3
  try clear hfz19_4
  obtain ⟨kq, x41_1, rfl, HA, HJ1, BK212, HB⟩ := hcut
  cases kq with
  | zero => exact absurd HA.out (by simp [spec_PipeRight.j0])
  | succ kj1 =>
   have H := HA.out
   clear HA
   simp only [spec_PipeRight.j0] at H
   by_cases c20 : x41_1 = true
   ·subst c20
    have H1 : (some false) = some r := by rw [if_pos rfl] at H; exact H
    clear H
    have H := H1
    clear H1
    obtain rfl := Option.some.inj H
    go_wp2
    go_ret
    exact ⟨by first | rfl | (simp [Qm, Ql] <;> rfl) | (simp [*, Qm, Ql] <;> rfl), by repeat (first | (with_reducible first | exact HB.out | apply Qe | apply Qc | apply Qd | refine Qf ?_ GE212.out) | exact HB.out)⟩
   ·replace c20 := Bool.eq_false_iff.mpr c20
    subst c20
    have H1 : (spec_PipeRight.l0 kj1 0 a0_0 a0_1 a0_2 a0_3 l0_4) = some r := by rw [if_neg (show ¬ (false = true) by decide)] at H; exact H
    clear H
    have H := H1
    clear H1
    have H' := Aside0.mk H
    clear H
    go_wp2
    go_loopg [3] kj1 (fun kq v3 w' => ∃ (x3_2 : Int), v3 = .int .i64 x3_2 ∧ Aside0 (spec_PipeRight.l0 kq x3_2 a0_0 a0_1 a0_2 a0_3 l0_4 = some r) ∧ Aside0 (kq ≤ kj1) ∧ Aside0 (w'.heap[gb212]? = some (.cells #[.int .i64 a0_0, .int .i64 a0_1, .int .i64 a0_2, .int .i64 a0_3, (.slice A0_4 l0_4.length c0_4)] 100 (0, 0))) ∧ Aside0 (Below w.heap.size w w'))
    case atStart => exact ⟨(0), (by first | rfl | (simp; done) | (simp [*]; done)), H', ⟨Nat.le_refl _⟩, ⟨by (with_reducible repeat (first | refine Qg ?_ _ | refine Qi ?_ | refine Qh ?_ _)); exact BK212.out⟩, ⟨by repeat (first | (with_reducible first | exact HB.out | apply Qe | apply Qc | apply Qd | refine Qf ?_ GE212.out) | exact HB.out)⟩⟩
    case round =>
     clear H'
     try clear c1
     try clear c2
     try clear p2
     try clear c5
     try clear p6
     try clear c7
     try clear c8
     try clear c9
     try clear c11
     try clear c12
     try clear c12b0
     try clear c12b1
     try clear c20
     try clear hcz13_0
     try clear hcz13_1
     try clear hcz13_2
     try clear hcz13_3
     try clear hcz13_4
     try clear hcz15_0
     try clear hcz15_1
     try clear hcz15_2
     try clear hcz15_3
     try clear hcz15_4
     try clear hcz16_0
     try clear hcz16_1
     try clear hcz16_2
     try clear hcz16_3
     try clear hcz16_4
     try clear hcz17_0
     try clear hcz17_1
     try clear hcz17_2
     try clear hcz17_3
     try clear hcz17_4
     try clear hcz18_0
     try clear hcz18_1
     try clear hcz18_2
     try clear hcz18_3
     try clear hcz18_4
     try clear hcz19_0
     try clear hcz19_1
     try clear hcz19_2
     try clear hcz19_3
     try clear hcz19_4
     try clear hfz13_0
     try clear hfz13_1
     try clear hfz13_2
     try clear hfz13_3
     try clear hfz13_4
     try clear hfz15_0
     try clear hfz15_1
     try clear hfz15_2
     try clear hfz15_3
     try clear hfz15_4
     try clear hfz16_0
     try clear hfz16_1
     try clear hfz16_2
     try clear hfz16_3
     try clear hfz16_4
     try clear hfz17_0
     try clear hfz17_1
     try clear hfz17_2
     try clear hfz17_3
     try clear hfz17_4
     try clear hfz18_0
     try clear hfz18_1
     try clear hfz18_2
     try clear hfz18_3
     try clear hfz18_4
     try clear hfz19_0
     try clear hfz19_1
     try clear hfz19_2
     try clear hfz19_3
     try clear hfz19_4
     try clear p2
     try clear p6
     obtain ⟨x3_2, rfl, HA, HK2, BK212, HB⟩ := hrel
     cases gk with
     | zero => exact absurd HA.out (by simp [spec_PipeRight.l0])
     | succ k2 =>
      have H := HA.out
      clear HA
      simp only [spec_PipeRight.l0] at H
      by_cases c21 : x3_2 < (l0_4.length : Int)
      ·rw [if_pos c21] at H
       have c21b0 : decide (x3_2 < (l0_4.length : Int)) = true := decide_eq_true c21
       clear c21
       by_cases c22 : 0 ≤ x3_2
       ·rw [if_pos c22] at H
        have c22b0 : decide (0 ≤ x3_2) = true := decide_eq_true c22
        clear c22
        by_cases c23 : ((rdOf ByteArray.empty l0_4 x3_2).size : Int) > 60
        ·rw [if_pos c23] at H
         have c23b0 : decide (60 < ((rdOf ByteArray.empty l0_4 x3_2).size : Int)) = true := decide_eq_true c23
         have c23b1 : decide (60 < (rdOf ByteArray.empty l0_4 x3_2).size) = true := decide_eq_true (by omega)
         clear c23
         obtain rfl := Option.some.inj H
         have hcz24_0 : wr.cell? ⟨gb212, 0, none⟩ = some (.int .i64 a0_0) := (Qa BK212.out 0).trans rfl
         have hcz24_1 : wr.cell? ⟨gb212, 1, none⟩ = some (.int .i64 a0_1) := (Qa BK212.out 1).trans rfl
         have hcz24_2 : wr.cell? ⟨gb212, 2, none⟩ = some (.int .i64 a0_2) := (Qa BK212.out 2).trans rfl
         have hcz24_3 : wr.cell? ⟨gb212, 3, none⟩ = some (.int .i64 a0_3) := (Qa BK212.out 3).trans rfl
         have hcz24_4 : wr.cell? ⟨gb212, 4, none⟩ = some (.slice A0_4 l0_4.length c0_4) := (Qa BK212.out 4).trans rfl
         have hfz24_0 := Qb BK212.out 0
         have hfz24_1 := Qb BK212.out 1
         have hfz24_2 := Qb BK212.out 2
         have hfz24_3 := Qb BK212.out 3
         have hfz24_4 := Qb BK212.out 4
         have p218 : 0 ≤ (x3_2 : Int) := of_decide_eq_true (by assumption)
         have q218 : x3_2 < (l0_4.length : Int) := of_decide_eq_true (by assumption)
         obtain ⟨ad218, e218, hx218_0⟩ := Kd.at_string HR0_4.out x3_2 p218 q218
         cases e218
         replace hx218_0 := (HB.out.cell (World.block_lt_of_cell? w _ hx218_0)).trans hx218_0
         replace p218 := eq_true p218
         replace q218 := eq_true q218
         go_wp2
         go_ret
         exact ⟨by first | rfl | (simp [Qm, Ql] <;> rfl) | (simp [*, Qm, Ql] <;> rfl), by repeat (first | (with_reducible first | exact HB.out | apply Qe | apply Qc | apply Qd | refine Qf ?_ GE212.out) | exact HB.out)⟩
        ·rw [if_neg c23] at H
         have c23b0 : decide (60 < ((rdOf ByteArray.empty l0_4 x3_2).size : Int)) = false := decide_eq_false c23
         have c23b1 : decide (60 < (rdOf ByteArray.empty l0_4 x3_2).size) = false := decide_eq_false (by omega)
         clear c23
         have H' := Aside0.mk H
         clear H
         have hcz25_0 : wr.cell? ⟨gb212, 0, none⟩ = some (.int .i64 a0_0) := (Qa BK212.out 0).trans rfl
         have hcz25_1 : wr.cell? ⟨gb212, 1, none⟩ = some (.int .i64 a0_1) := (Qa BK212.out 1).trans rfl
         have hcz25_2 : wr.cell? ⟨gb212, 2, none⟩ = some (.int .i64 a0_2) := (Qa BK212.out 2).trans rfl
         have hcz25_3 : wr.cell? ⟨gb212, 3, none⟩ = some (.int .i64 a0_3) := (Qa BK212.out 3).trans rfl
         have hcz25_4 : wr.cell? ⟨gb212, 4, none⟩ = some (.slice A0_4 l0_4.length c0_4) := (Qa BK212.out 4).trans rfl
         have hfz25_0 := Qb BK212.out 0
         have hfz25_1 := Qb BK212.out 1
         have hfz25_2 := Qb BK212.out 2
         have hfz25_3 := Qb BK212.out 3
         have hfz25_4 := Qb BK212.out 4
         have p218 : 0 ≤ (x3_2 : Int) := of_decide_eq_true (by assumption)
         have q218 : x3_2 < (l0_4.length : Int) := of_decide_eq_true (by assumption)
         obtain ⟨ad218, e218, hx218_0⟩ := Kd.at_string HR0_4.out x3_2 p218 q218
         cases e218
         replace hx218_0 := (HB.out.cell (World.block_lt_of_cell? w _ hx218_0)).trans hx218_0
         replace p218 := eq_true p218
         replace q218 := eq_true q218
         go_wp2
         go_roundg k2
         case measure => have := HJ1.out; have := HK2.out; omega
         case rel => exact ⟨(wrap64 (x3_2 + 1)), (by first | rfl | (simp; done) | (simp [*]; done)), H', ⟨by have := HJ1.out; have := HK2.out; omega⟩, ⟨by (with_reducible repeat (first | refine Qg ?_ _ | refine Qi ?_ | refine Qh ?_ _)); exact BK212.out⟩, ⟨by repeat (first | (with_reducible first | exact HB.out | apply Qe | apply Qc | apply Qd | refine Qf ?_ GE212.out) | exact HB.out)⟩⟩
       ·rw [if_neg c22] at H
        exact absurd H (by simp)
      ·rw [if_neg c21] at H
       have c21b0 : decide (x3_2 < (l0_4.length : Int)) = false := decide_eq_false c21
       clear c21
       by_cases c26 : a0_1 > 0
       ·rw [if_pos c26] at H
        have c26b0 : decide (0 < a0_1) = true := decide_eq_true c26
        clear c26
        obtain rfl := Option.some.inj H
        have hcz27_0 : wr.cell? ⟨gb212, 0, none⟩ = some (.int .i64 a0_0) := (Qa BK212.out 0).trans rfl
        have hcz27_1 : wr.cell? ⟨gb212, 1, none⟩ = some (.int .i64 a0_1) := (Qa BK212.out 1).trans rfl
        have hcz27_2 : wr.cell? ⟨gb212, 2, none⟩ = some (.int .i64 a0_2) := (Qa BK212.out 2).trans rfl
        have hcz27_3 : wr.cell? ⟨gb212, 3, none⟩ = some (.int .i64 a0_3) := (Qa BK212.out 3).trans rfl
        have hcz27_4 : wr.cell? ⟨gb212, 4, none⟩ = some (.slice A0_4 l0_4.length c0_4) := (Qa BK212.out 4).trans rfl
        have hfz27_0 := Qb BK212.out 0
        have hfz27_1 := Qb BK212.out 1
        have hfz27_2 := Qb BK212.out 2
        have hfz27_3 := Qb BK212.out 3
        have hfz27_4 := Qb BK212.out 4
        go_wp2
        go_ret
        exact ⟨by first | rfl | (simp [Qm, Ql] <;> rfl) | (simp [*, Qm, Ql] <;> rfl), by repeat (first | (with_reducible first | exact HB.out | apply Qe | apply Qc | apply Qd | refine Qf ?_ GE212.out) | exact HB.out)⟩
       ·rw [if_neg c26] at H
        have c26b0 : decide (0 < a0_1) = false := decide_eq_false c26
        clear c26
        by_cases c28 : a0_2 = 0
        ·rw [if_pos c28] at H
         have c28b0 : (a0_2 == 0) = true := beq_iff_eq.mpr c28
         have c28b1 : (a0_2 != 0) = false := bne_eq_false_iff_eq.mpr c28
         clear c28
         by_cases c29 : a0_3 = 0
         ·rw [if_pos c29] at H
          have c29b0 : (a0_3 == 0) = true := beq_iff_eq.mpr c29
          have c29b1 : (a0_3 != 0) = false := bne_eq_false_iff_eq.mpr c29
          clear c29
          obtain rfl := Option.some.inj H
          have hcz30_0 : wr.cell? ⟨gb212, 0, none⟩ = some (.int .i64 a0_0) := (Qa BK212.out 0).trans rfl
          have hcz30_1 : wr.cell? ⟨gb212, 1, none⟩ = some (.int .i64 a0_1) := (Qa BK212.out 1).trans rfl
          have hcz30_2 : wr.cell? ⟨gb212, 2, none⟩ = some (.int .i64 a0_2) := (Qa BK212.out 2).trans rfl
          have hcz30_3 : wr.cell? ⟨gb212, 3, none⟩ = some (.int .i64 a0_3) := (Qa BK212.out 3).trans rfl
          have hcz30_4 : wr.cell? ⟨gb212, 4, none⟩ = some (.slice A0_4 l0_4.length c0_4) := (Qa BK212.out 4).trans rfl
          have hfz30_0 := Qb BK212.out 0
          have hfz30_1 := Qb BK212.out 1
          have hfz30_2 := Qb BK212.out 2
          have hfz30_3 := Qb BK212.out 3
          have hfz30_4 := Qb BK212.out 4
          go_wp2
          go_ret
          exact ⟨by first | rfl | (simp [Qm, Ql] <;> rfl) | (simp [*, Qm, Ql] <;> rfl), by repeat (first | (with_reducible first | exact HB.out | apply Qe | apply Qc | apply Qd | refine Qf ?_ GE212.out) | exact HB.out)⟩
         ·rw [if_neg c29] at H
          have c29b0 : (a0_3 == 0) = false := beq_eq_false_iff_ne.mpr c29
          have c29b1 : (a0_3 != 0) = true := bne_iff_ne.mpr c29
          obtain rfl := Option.some.inj H
          have hcz31_0 : wr.cell? ⟨gb212, 0, none⟩ = some (.int .i64 a0_0) := (Qa BK212.out 0).trans rfl
          have hcz31_1 : wr.cell? ⟨gb212, 1, none⟩ = some (.int .i64 a0_1) := (Qa BK212.out 1).trans rfl
          have hcz31_2 : wr.cell? ⟨gb212, 2, none⟩ = some (.int .i64 a0_2) := (Qa BK212.out 2).trans rfl
          have hcz31_3 : wr.cell? ⟨gb212, 3, none⟩ = some (.int .i64 a0_3) := (Qa BK212.out 3).trans rfl
          have hcz31_4 : wr.cell? ⟨gb212, 4, none⟩ = some (.slice A0_4 l0_4.length c0_4) := (Qa BK212.out 4).trans rfl
          have hfz31_0 := Qb BK212.out 0
          have hfz31_1 := Qb BK212.out 1
          have hfz31_2 := Qb BK212.out 2
          have hfz31_3 := Qb BK212.out 3
          have hfz31_4 := Qb BK212.out 4
          go_wp2
          go_ret
          exact ⟨by first | rfl | (simp [Qm, Ql] <;> rfl) | (simp [*, Qm, Ql] <;> rfl), by repeat (first | (with_reducible first | exact HB.out | apply Qe | apply Qc | apply Qd | refine Qf ?_ GE212.out) | exact HB.out)⟩
        ·rw [if_neg c28] at H
         have c28b0 : (a0_2 == 0) = false := beq_eq_false_iff_ne.mpr c28
         have c28b1 : (a0_2 != 0) = true := bne_iff_ne.mpr c28
         obtain rfl := Option.some.inj H
         have hcz32_0 : wr.cell? ⟨gb212, 0, none⟩ = some (.int .i64 a0_0) := (Qa BK212.out 0).trans rfl
         have hcz32_1 : wr.cell? ⟨gb212, 1, none⟩ = some (.int .i64 a0_1) := (Qa BK212.out 1).trans rfl
         have hcz32_2 : wr.cell? ⟨gb212, 2, none⟩ = some (.int .i64 a0_2) := (Qa BK212.out 2).trans rfl
         have hcz32_3 : wr.cell? ⟨gb212, 3, none⟩ = some (.int .i64 a0_3) := (Qa BK212.out 3).trans rfl
         have hcz32_4 : wr.cell? ⟨gb212, 4, none⟩ = some (.slice A0_4 l0_4.length c0_4) := (Qa BK212.out 4).trans rfl
         have hfz32_0 := Qb BK212.out 0
         have hfz32_1 := Qb BK212.out 1
         have hfz32_2 := Qb BK212.out 2
         have hfz32_3 := Qb BK212.out 3
         have hfz32_4 := Qb BK212.out 4
         go_wp2
         go_ret
         exact ⟨by first | rfl | (simp [Qm, Ql] <;> rfl) | (simp [*, Qm, Ql] <;> rfl), by repeat (first | (with_reducible first | exact HB.out | apply Qe | apply Qc | apply Qd | refine Qf ?_ GE212.out) | exact HB.out)⟩
end Go.Proofs.Ytmgmaflfednngaa.PFnExactTellerRight
