-- A copy, made by trim.py (its own words shortened): not an official print.
import Derived.Test.YtmgmaflfednngaaZExactRibPutPFnExactRibPutx0
import Derived.Test.YtmgmaflfednngaaZExactRibPutPFnExactRibPutx4
namespace Go.Proofs.Ytmgmaflfednngaa.PFnExactRibPut
open Go.RowKit Go.Proofs.YtmgmaflfednngaaW.PrintWords Go.Proofs.YtmgmaflfednngaaW.PrintLast Go.Proofs.YtmgmaflfednngaaW.PrintMore
attribute [local go_sem] max2_int min2_int max_two min_two max_three min_three max_four min_four   -- for this text's walks alone
set_option linter.unusedVariables false
set_option linter.unusedSimpArgs false
def laws_heldHeldS.l0 : Nat → List (S73) → Int → Int → Option (Int)
 | 0, _, _, _ => none
 | k + 1, x0, x1, x5 => if x5 < (x0.length : Int) then (if 0 ≤ x5 then (if ((Qf x0 x5).f0) = x1 then (if (((Qf x0 x5).f1) != ((Int.tmod (wrap64 (x1 + 1)) 3) == 0)) = true then (some (-1)) else (if ((Qf x0 x5).f2.f0) = (wrap64 ((wrap64 (x1 + 1)) + 1)) then (if ((Qf x0 x5).f2.f1) = (wrap64 ((wrap64 ((wrap64 (x1 + 1)) + 1)) + 1)) then (if ((Qf x0 x5).f2.f2) = (wrap64 ((wrap64 ((wrap64 ((wrap64 (x1 + 1)) + 1)) + 1)) + 1)) then (if ((Qf x0 x5).f2.f3) = (wrap64 ((wrap64 ((wrap64 ((wrap64 ((wrap64 (x1 + 1)) + 1)) + 1)) + 1)) + 1)) then (if ((Qf x0 x5).f2.f4) = (wrap64 ((wrap64 ((wrap64 ((wrap64 ((wrap64 ((wrap64 (x1 + 1)) + 1)) + 1)) + 1)) + 1)) + 1)) then (if ((Qf x0 x5).f2.f5) = (wrap64 ((wrap64 ((wrap64 ((wrap64 ((wrap64 ((wrap64 ((wrap64 (x1 + 1)) + 1)) + 1)) + 1)) + 1)) + 1)) + 1)) then (if (((Qf x0 x5).f2.f6) != ((Int.tmod (wrap64 ((wrap64 ((wrap64 ((wrap64 ((wrap64 ((wrap64 ((wrap64 ((wrap64 (x1 + 1)) + 1)) + 1)) + 1)) + 1)) + 1)) + 1)) + 1)) 3) == 0)) = true then (some (-1)) else (laws_heldHeldS.l0 k x0 (wrap64 ((wrap64 ((wrap64 ((wrap64 ((wrap64 ((wrap64 ((wrap64 ((wrap64 ((wrap64 (x1 + 1)) + 1)) + 1)) + 1)) + 1)) + 1)) + 1)) + 1)) + 1)) (wrap64 (x5 + 1)))) else (some (-1))) else (some (-1))) else (some (-1))) else (some (-1))) else (some (-1))) else (some (-1)))) else (some (-1))) else (none)) else (some x1)
def laws_heldHeldS.f (k : Nat) (l0 : List (S73)) (a1 : Int) : Option (Int) := laws_heldHeldS.l0 k l0 a1 0
theorem laws_heldHeldS.mono_l : ∀ k, (∀ y0 y1 y2, LeO (laws_heldHeldS.l0 k y0 y1 y2) (laws_heldHeldS.l0 (k + 1) y0 y1 y2))
 | 0 => fun _ _ _ r h => by simp [laws_heldHeldS.l0] at h
 | k + 1 => by
  have ih0 := laws_heldHeldS.mono_l k
  ·intro y0 y1 y2
   unfold laws_heldHeldS.l0
   repeat' first
   | (with_reducible exact ih0 _ _ _)
   | (with_reducible exact LeO.refl _)
   | (with_reducible exact LeO.none _)
   | (with_reducible refine LeO.ite ?_ ?_)
   | (with_reducible refine LeO.bind ?_ (fun _ => ?_))
   | exact ih0 _ _ _
   | exact LeO.none _
   | refine LeO.ite ?_ ?_
   | refine LeO.bind ?_ (fun _ => ?_)
theorem laws_heldHeldS.mono : ∀ a0 a1 k, LeO (laws_heldHeldS.f k a0 a1) (laws_heldHeldS.f (k + 1) a0 a1) := by
 intro a0 a1 k
 have ih0 := laws_heldHeldS.mono_l k
 unfold laws_heldHeldS.f
 repeat' first
   | (with_reducible exact ih0 _ _ _)
   | (with_reducible exact LeO.refl _)
   | (with_reducible exact LeO.none _)
   | (with_reducible refine LeO.ite ?_ ?_)
   | (with_reducible refine LeO.bind ?_ (fun _ => ?_))
   | exact ih0 _ _ _
   | exact LeO.none _
   | refine LeO.ite ?_ ?_
   | refine LeO.bind ?_ (fun _ => ?_)
set_option maxHeartbeats 8000000 in
set_option maxRecDepth 100000 in
theorem laws_heldHeldS.calls (k : Nat) (A0 : Option Addr) (c0 : Nat) (l0 : List (S73)) (a1 : Int) (r : Int) (w : World) (hr0 : Kd.C k73 w A0 l0.length l0) (hc0 : l0.length ≤ c0) (h : laws_heldHeldS.f k l0 a1 = some r) :
  Calls Try.prog 66 #[.slice A0 l0.length c0, .int .i64 a1] w fun e w' => e = .returned (.int .i64 r) ∧ Drawn0 w w' := by
 have HR0 := Aside0.mk hr0
 have HC0 := Aside0.mk hc0
 clear hr0 hc0
 have H : (laws_heldHeldS.l0 k l0 a1 0) = some r := h
 clear h
 have H' := Aside0.mk H
 clear H
 go_enter Try.func66, Try.ntmps66
 go_wp2
 go_loopg [1, 5] k (fun kq v1 v5 w' => ∃ (x1_1 : Int) (x5_1 : Int), v1 = .int .i64 x1_1 ∧ v5 = .int .i64 x5_1 ∧ Aside0 (laws_heldHeldS.l0 kq l0 x1_1 x5_1 = some r) ∧ Aside0 (kq ≤ k) ∧ Drawn0 w w')
 case atStart => exact ⟨(a1), (0), (by first | rfl | (simp; done) | (simp [*]; done)), (by first | rfl | (simp; done) | (simp [*]; done)), H', ⟨Nat.le_refl _⟩, by repeat (first | exact Drawn0.refl _ | apply Drawn0.step)⟩
 case round =>
  clear H'
  try clear p2
  obtain ⟨x1_1, x5_1, rfl, rfl, HA, HK1, ⟨m1, rfl⟩⟩ := hrel
  cases gk with
  | zero => exact absurd HA.out (by simp [laws_heldHeldS.l0])
  | succ k1 =>
   have H := HA.out
   clear HA
   simp only [laws_heldHeldS.l0] at H
   by_cases c3 : x5_1 < (l0.length : Int)
   ·rw [if_pos c3] at H
    have c3b0 : decide (x5_1 < (l0.length : Int)) = true := decide_eq_true c3
    clear c3
    by_cases c4 : 0 ≤ x5_1
    ·rw [if_pos c4] at H
     have c4b0 : decide (0 ≤ x5_1) = true := decide_eq_true c4
     clear c4
     by_cases c5 : ((Qf l0 x5_1).f0) = x1_1
     ·rw [if_pos c5] at H
      have c5b0 : (((Qf l0 x5_1).f0) == x1_1) = true := beq_iff_eq.mpr c5
      have c5b1 : (((Qf l0 x5_1).f0) != x1_1) = false := bne_eq_false_iff_eq.mpr c5
      clear c5
      by_cases c6 : (((Qf l0 x5_1).f1) != ((Int.tmod (wrap64 (x1_1 + 1)) 3) == 0)) = true
      ·rw [if_pos c6] at H
       have c6b0 : (((Qf l0 x5_1).f1) != ((Int.tmod (wrap64 (x1_1 + 1)) 3) == 0)) = true := c6
       (try (have c6b1 : decide (((Qf l0 x5_1).f1) = ((Int.tmod (wrap64 (x1_1 + 1)) 3) == 0)) = false := by simpa using c6))
       (try (have c6b2 : (((Qf l0 x5_1).f1) == ((Int.tmod (wrap64 (x1_1 + 1)) 3) == 0)) = false := by simpa using c6))
       (try (have c6b3 : ¬ (((Qf l0 x5_1).f1) = ((Int.tmod (wrap64 (x1_1 + 1)) 3) == 0)) := by simpa using c6))
       clear c6
       obtain rfl := Option.some.inj H
       have p171 : 0 ≤ (x5_1 : Int) := of_decide_eq_true (by assumption)
       have q171 : x5_1 < (l0.length : Int) := of_decide_eq_true (by assumption)
       obtain ⟨ad171, e171, hx171_0, hx171_1, hx171_2, hx171_3, hx171_4, hx171_5, hx171_6, hx171_7, hx171_8⟩ := Q1 HR0.out x5_1 p171 q171
       cases e171
       replace p171 := eq_true p171
       replace q171 := eq_true q171
       have p172 : 0 ≤ (x5_1 : Int) := of_decide_eq_true (by assumption)
       have q172 : x5_1 < (l0.length : Int) := of_decide_eq_true (by assumption)
       obtain ⟨ad172, e172, hx172_0, hx172_1, hx172_2, hx172_3, hx172_4, hx172_5, hx172_6, hx172_7, hx172_8⟩ := Q1 HR0.out x5_1 p172 q172
       obtain rfl : ad171 = ad172 := (by injection e172)
       replace p172 := eq_true p172
       replace q172 := eq_true q172
       go_wp2
       go_ret
       exact ⟨by first | rfl | (simp; done) | (simp [*]; done), by repeat (first | exact Drawn0.refl _ | apply Drawn0.step)⟩
      ·rw [if_neg c6] at H
       have c6b0 : (((Qf l0 x5_1).f1) != ((Int.tmod (wrap64 (x1_1 + 1)) 3) == 0)) = false := by simpa using c6
       (try (have c6b1 : decide (((Qf l0 x5_1).f1) = ((Int.tmod (wrap64 (x1_1 + 1)) 3) == 0)) = true := by simpa using c6))
       (try (have c6b2 : (((Qf l0 x5_1).f1) == ((Int.tmod (wrap64 (x1_1 + 1)) 3) == 0)) = true := by simpa using c6))
       clear c6
       by_cases c7 : ((Qf l0 x5_1).f2.f0) = (wrap64 ((wrap64 (x1_1 + 1)) + 1))
       ·rw [if_pos c7] at H
        have c7b0 : (((Qf l0 x5_1).f2.f0) == (wrap64 ((wrap64 (x1_1 + 1)) + 1))) = true := beq_iff_eq.mpr c7
        have c7b1 : (((Qf l0 x5_1).f2.f0) != (wrap64 ((wrap64 (x1_1 + 1)) + 1))) = false := bne_eq_false_iff_eq.mpr c7
        clear c7
        by_cases c8 : ((Qf l0 x5_1).f2.f1) = (wrap64 ((wrap64 ((wrap64 (x1_1 + 1)) + 1)) + 1))
        ·rw [if_pos c8] at H
         have c8b0 : (((Qf l0 x5_1).f2.f1) == (wrap64 ((wrap64 ((wrap64 (x1_1 + 1)) + 1)) + 1))) = true := beq_iff_eq.mpr c8
         have c8b1 : (((Qf l0 x5_1).f2.f1) != (wrap64 ((wrap64 ((wrap64 (x1_1 + 1)) + 1)) + 1))) = false := bne_eq_false_iff_eq.mpr c8
         clear c8
         by_cases c9 : ((Qf l0 x5_1).f2.f2) = (wrap64 ((wrap64 ((wrap64 ((wrap64 (x1_1 + 1)) + 1)) + 1)) + 1))
         ·rw [if_pos c9] at H
          have c9b0 : (((Qf l0 x5_1).f2.f2) == (wrap64 ((wrap64 ((wrap64 ((wrap64 (x1_1 + 1)) + 1)) + 1)) + 1))) = true := beq_iff_eq.mpr c9
          have c9b1 : (((Qf l0 x5_1).f2.f2) != (wrap64 ((wrap64 ((wrap64 ((wrap64 (x1_1 + 1)) + 1)) + 1)) + 1))) = false := bne_eq_false_iff_eq.mpr c9
          clear c9
          by_cases c10 : ((Qf l0 x5_1).f2.f3) = (wrap64 ((wrap64 ((wrap64 ((wrap64 ((wrap64 (x1_1 + 1)) + 1)) + 1)) + 1)) + 1))
          ·rw [if_pos c10] at H
           have c10b0 : (((Qf l0 x5_1).f2.f3) == (wrap64 ((wrap64 ((wrap64 ((wrap64 ((wrap64 (x1_1 + 1)) + 1)) + 1)) + 1)) + 1))) = true := beq_iff_eq.mpr c10
           have c10b1 : (((Qf l0 x5_1).f2.f3) != (wrap64 ((wrap64 ((wrap64 ((wrap64 ((wrap64 (x1_1 + 1)) + 1)) + 1)) + 1)) + 1))) = false := bne_eq_false_iff_eq.mpr c10
           clear c10
           by_cases c11 : ((Qf l0 x5_1).f2.f4) = (wrap64 ((wrap64 ((wrap64 ((wrap64 ((wrap64 ((wrap64 (x1_1 + 1)) + 1)) + 1)) + 1)) + 1)) + 1))
           ·rw [if_pos c11] at H
            have c11b0 : (((Qf l0 x5_1).f2.f4) == (wrap64 ((wrap64 ((wrap64 ((wrap64 ((wrap64 ((wrap64 (x1_1 + 1)) + 1)) + 1)) + 1)) + 1)) + 1))) = true := beq_iff_eq.mpr c11
            have c11b1 : (((Qf l0 x5_1).f2.f4) != (wrap64 ((wrap64 ((wrap64 ((wrap64 ((wrap64 ((wrap64 (x1_1 + 1)) + 1)) + 1)) + 1)) + 1)) + 1))) = false := bne_eq_false_iff_eq.mpr c11
            clear c11
            by_cases c12 : ((Qf l0 x5_1).f2.f5) = (wrap64 ((wrap64 ((wrap64 ((wrap64 ((wrap64 ((wrap64 ((wrap64 (x1_1 + 1)) + 1)) + 1)) + 1)) + 1)) + 1)) + 1))
            ·rw [if_pos c12] at H
             have c12b0 : (((Qf l0 x5_1).f2.f5) == (wrap64 ((wrap64 ((wrap64 ((wrap64 ((wrap64 ((wrap64 ((wrap64 (x1_1 + 1)) + 1)) + 1)) + 1)) + 1)) + 1)) + 1))) = true := beq_iff_eq.mpr c12
             have c12b1 : (((Qf l0 x5_1).f2.f5) != (wrap64 ((wrap64 ((wrap64 ((wrap64 ((wrap64 ((wrap64 ((wrap64 (x1_1 + 1)) + 1)) + 1)) + 1)) + 1)) + 1)) + 1))) = false := bne_eq_false_iff_eq.mpr c12
             clear c12
             by_cases c13 : (((Qf l0 x5_1).f2.f6) != ((Int.tmod (wrap64 ((wrap64 ((wrap64 ((wrap64 ((wrap64 ((wrap64 ((wrap64 ((wrap64 (x1_1 + 1)) + 1)) + 1)) + 1)) + 1)) + 1)) + 1)) + 1)) 3) == 0)) = true
             ·rw [if_pos c13] at H
              have c13b0 : (((Qf l0 x5_1).f2.f6) != ((Int.tmod (wrap64 ((wrap64 ((wrap64 ((wrap64 ((wrap64 ((wrap64 ((wrap64 ((wrap64 (x1_1 + 1)) + 1)) + 1)) + 1)) + 1)) + 1)) + 1)) + 1)) 3) == 0)) = true := c13
              (try (have c13b1 : decide (((Qf l0 x5_1).f2.f6) = ((Int.tmod (wrap64 ((wrap64 ((wrap64 ((wrap64 ((wrap64 ((wrap64 ((wrap64 ((wrap64 (x1_1 + 1)) + 1)) + 1)) + 1)) + 1)) + 1)) + 1)) + 1)) 3) == 0)) = false := by simpa using c13))
              (try (have c13b2 : (((Qf l0 x5_1).f2.f6) == ((Int.tmod (wrap64 ((wrap64 ((wrap64 ((wrap64 ((wrap64 ((wrap64 ((wrap64 ((wrap64 (x1_1 + 1)) + 1)) + 1)) + 1)) + 1)) + 1)) + 1)) + 1)) 3) == 0)) = false := by simpa using c13))
              (try (have c13b3 : ¬ (((Qf l0 x5_1).f2.f6) = ((Int.tmod (wrap64 ((wrap64 ((wrap64 ((wrap64 ((wrap64 ((wrap64 ((wrap64 ((wrap64 (x1_1 + 1)) + 1)) + 1)) + 1)) + 1)) + 1)) + 1)) + 1)) 3) == 0)) := by simpa using c13))
              clear c13
              obtain rfl := Option.some.inj H
              have p171 : 0 ≤ (x5_1 : Int) := of_decide_eq_true (by assumption)
              have q171 : x5_1 < (l0.length : Int) := of_decide_eq_true (by assumption)
              obtain ⟨ad171, e171, hx171_0, hx171_1, hx171_2, hx171_3, hx171_4, hx171_5, hx171_6, hx171_7, hx171_8⟩ := Q1 HR0.out x5_1 p171 q171
              cases e171
              replace p171 := eq_true p171
              replace q171 := eq_true q171
              have p172 : 0 ≤ (x5_1 : Int) := of_decide_eq_true (by assumption)
              have q172 : x5_1 < (l0.length : Int) := of_decide_eq_true (by assumption)
              obtain ⟨ad172, e172, hx172_0, hx172_1, hx172_2, hx172_3, hx172_4, hx172_5, hx172_6, hx172_7, hx172_8⟩ := Q1 HR0.out x5_1 p172 q172
              obtain rfl : ad171 = ad172 := (by injection e172)
              replace p172 := eq_true p172
              replace q172 := eq_true q172
              have p173 : 0 ≤ (x5_1 : Int) := of_decide_eq_true (by assumption)
              have q173 : x5_1 < (l0.length : Int) := of_decide_eq_true (by assumption)
              obtain ⟨ad173, e173, hx173_0, hx173_1, hx173_2, hx173_3, hx173_4, hx173_5, hx173_6, hx173_7, hx173_8⟩ := Q1 HR0.out x5_1 p173 q173
              obtain rfl : ad171 = ad173 := (by injection e173)
              replace p173 := eq_true p173
              replace q173 := eq_true q173
              have p174 : 0 ≤ (x5_1 : Int) := of_decide_eq_true (by assumption)
              have q174 : x5_1 < (l0.length : Int) := of_decide_eq_true (by assumption)
              obtain ⟨ad174, e174, hx174_0, hx174_1, hx174_2, hx174_3, hx174_4, hx174_5, hx174_6, hx174_7, hx174_8⟩ := Q1 HR0.out x5_1 p174 q174
              obtain rfl : ad171 = ad174 := (by injection e174)
              replace p174 := eq_true p174
              replace q174 := eq_true q174
              have p175 : 0 ≤ (x5_1 : Int) := of_decide_eq_true (by assumption)
              have q175 : x5_1 < (l0.length : Int) := of_decide_eq_true (by assumption)
              obtain ⟨ad175, e175, hx175_0, hx175_1, hx175_2, hx175_3, hx175_4, hx175_5, hx175_6, hx175_7, hx175_8⟩ := Q1 HR0.out x5_1 p175 q175
              obtain rfl : ad171 = ad175 := (by injection e175)
              replace p175 := eq_true p175
              replace q175 := eq_true q175
              have p176 : 0 ≤ (x5_1 : Int) := of_decide_eq_true (by assumption)
              have q176 : x5_1 < (l0.length : Int) := of_decide_eq_true (by assumption)
              obtain ⟨ad176, e176, hx176_0, hx176_1, hx176_2, hx176_3, hx176_4, hx176_5, hx176_6, hx176_7, hx176_8⟩ := Q1 HR0.out x5_1 p176 q176
              obtain rfl : ad171 = ad176 := (by injection e176)
              replace p176 := eq_true p176
              replace q176 := eq_true q176
              have p177 : 0 ≤ (x5_1 : Int) := of_decide_eq_true (by assumption)
              have q177 : x5_1 < (l0.length : Int) := of_decide_eq_true (by assumption)
              obtain ⟨ad177, e177, hx177_0, hx177_1, hx177_2, hx177_3, hx177_4, hx177_5, hx177_6, hx177_7, hx177_8⟩ := Q1 HR0.out x5_1 p177 q177
              obtain rfl : ad171 = ad177 := (by injection e177)
              replace p177 := eq_true p177
              replace q177 := eq_true q177
              have p178 : 0 ≤ (x5_1 : Int) := of_decide_eq_true (by assumption)
              have q178 : x5_1 < (l0.length : Int) := of_decide_eq_true (by assumption)
              obtain ⟨ad178, e178, hx178_0, hx178_1, hx178_2, hx178_3, hx178_4, hx178_5, hx178_6, hx178_7, hx178_8⟩ := Q1 HR0.out x5_1 p178 q178
              obtain rfl : ad171 = ad178 := (by injection e178)
              replace p178 := eq_true p178
              replace q178 := eq_true q178
              have p179 : 0 ≤ (x5_1 : Int) := of_decide_eq_true (by assumption)
              have q179 : x5_1 < (l0.length : Int) := of_decide_eq_true (by assumption)
              obtain ⟨ad179, e179, hx179_0, hx179_1, hx179_2, hx179_3, hx179_4, hx179_5, hx179_6, hx179_7, hx179_8⟩ := Q1 HR0.out x5_1 p179 q179
              obtain rfl : ad171 = ad179 := (by injection e179)
              replace p179 := eq_true p179
              replace q179 := eq_true q179
              go_wp2
              go_ret
              exact ⟨by first | rfl | (simp; done) | (simp [*]; done), by repeat (first | exact Drawn0.refl _ | apply Drawn0.step)⟩
             ·rw [if_neg c13] at H
              have c13b0 : (((Qf l0 x5_1).f2.f6) != ((Int.tmod (wrap64 ((wrap64 ((wrap64 ((wrap64 ((wrap64 ((wrap64 ((wrap64 ((wrap64 (x1_1 + 1)) + 1)) + 1)) + 1)) + 1)) + 1)) + 1)) + 1)) 3) == 0)) = false := by simpa using c13
              (try (have c13b1 : decide (((Qf l0 x5_1).f2.f6) = ((Int.tmod (wrap64 ((wrap64 ((wrap64 ((wrap64 ((wrap64 ((wrap64 ((wrap64 ((wrap64 (x1_1 + 1)) + 1)) + 1)) + 1)) + 1)) + 1)) + 1)) + 1)) 3) == 0)) = true := by simpa using c13))
              (try (have c13b2 : (((Qf l0 x5_1).f2.f6) == ((Int.tmod (wrap64 ((wrap64 ((wrap64 ((wrap64 ((wrap64 ((wrap64 ((wrap64 ((wrap64 (x1_1 + 1)) + 1)) + 1)) + 1)) + 1)) + 1)) + 1)) + 1)) 3) == 0)) = true := by simpa using c13))
              clear c13
              have H' := Aside0.mk H
              clear H
              have p171 : 0 ≤ (x5_1 : Int) := of_decide_eq_true (by assumption)
              have q171 : x5_1 < (l0.length : Int) := of_decide_eq_true (by assumption)
              obtain ⟨ad171, e171, hx171_0, hx171_1, hx171_2, hx171_3, hx171_4, hx171_5, hx171_6, hx171_7, hx171_8⟩ := Q1 HR0.out x5_1 p171 q171
              cases e171
              replace p171 := eq_true p171
              replace q171 := eq_true q171
              have p172 : 0 ≤ (x5_1 : Int) := of_decide_eq_true (by assumption)
              have q172 : x5_1 < (l0.length : Int) := of_decide_eq_true (by assumption)
              obtain ⟨ad172, e172, hx172_0, hx172_1, hx172_2, hx172_3, hx172_4, hx172_5, hx172_6, hx172_7, hx172_8⟩ := Q1 HR0.out x5_1 p172 q172
              obtain rfl : ad171 = ad172 := (by injection e172)
              replace p172 := eq_true p172
              replace q172 := eq_true q172
              have p173 : 0 ≤ (x5_1 : Int) := of_decide_eq_true (by assumption)
              have q173 : x5_1 < (l0.length : Int) := of_decide_eq_true (by assumption)
              obtain ⟨ad173, e173, hx173_0, hx173_1, hx173_2, hx173_3, hx173_4, hx173_5, hx173_6, hx173_7, hx173_8⟩ := Q1 HR0.out x5_1 p173 q173
              obtain rfl : ad171 = ad173 := (by injection e173)
              replace p173 := eq_true p173
              replace q173 := eq_true q173
              have p174 : 0 ≤ (x5_1 : Int) := of_decide_eq_true (by assumption)
              have q174 : x5_1 < (l0.length : Int) := of_decide_eq_true (by assumption)
              obtain ⟨ad174, e174, hx174_0, hx174_1, hx174_2, hx174_3, hx174_4, hx174_5, hx174_6, hx174_7, hx174_8⟩ := Q1 HR0.out x5_1 p174 q174
              obtain rfl : ad171 = ad174 := (by injection e174)
              replace p174 := eq_true p174
              replace q174 := eq_true q174
              have p175 : 0 ≤ (x5_1 : Int) := of_decide_eq_true (by assumption)
              have q175 : x5_1 < (l0.length : Int) := of_decide_eq_true (by assumption)
              obtain ⟨ad175, e175, hx175_0, hx175_1, hx175_2, hx175_3, hx175_4, hx175_5, hx175_6, hx175_7, hx175_8⟩ := Q1 HR0.out x5_1 p175 q175
              obtain rfl : ad171 = ad175 := (by injection e175)
              replace p175 := eq_true p175
              replace q175 := eq_true q175
              have p176 : 0 ≤ (x5_1 : Int) := of_decide_eq_true (by assumption)
              have q176 : x5_1 < (l0.length : Int) := of_decide_eq_true (by assumption)
              obtain ⟨ad176, e176, hx176_0, hx176_1, hx176_2, hx176_3, hx176_4, hx176_5, hx176_6, hx176_7, hx176_8⟩ := Q1 HR0.out x5_1 p176 q176
              obtain rfl : ad171 = ad176 := (by injection e176)
              replace p176 := eq_true p176
              replace q176 := eq_true q176
              have p177 : 0 ≤ (x5_1 : Int) := of_decide_eq_true (by assumption)
              have q177 : x5_1 < (l0.length : Int) := of_decide_eq_true (by assumption)
              obtain ⟨ad177, e177, hx177_0, hx177_1, hx177_2, hx177_3, hx177_4, hx177_5, hx177_6, hx177_7, hx177_8⟩ := Q1 HR0.out x5_1 p177 q177
              obtain rfl : ad171 = ad177 := (by injection e177)
              replace p177 := eq_true p177
              replace q177 := eq_true q177
              have p178 : 0 ≤ (x5_1 : Int) := of_decide_eq_true (by assumption)
              have q178 : x5_1 < (l0.length : Int) := of_decide_eq_true (by assumption)
              obtain ⟨ad178, e178, hx178_0, hx178_1, hx178_2, hx178_3, hx178_4, hx178_5, hx178_6, hx178_7, hx178_8⟩ := Q1 HR0.out x5_1 p178 q178
              obtain rfl : ad171 = ad178 := (by injection e178)
              replace p178 := eq_true p178
              replace q178 := eq_true q178
              have p179 : 0 ≤ (x5_1 : Int) := of_decide_eq_true (by assumption)
              have q179 : x5_1 < (l0.length : Int) := of_decide_eq_true (by assumption)
              obtain ⟨ad179, e179, hx179_0, hx179_1, hx179_2, hx179_3, hx179_4, hx179_5, hx179_6, hx179_7, hx179_8⟩ := Q1 HR0.out x5_1 p179 q179
              obtain rfl : ad171 = ad179 := (by injection e179)
              replace p179 := eq_true p179
              replace q179 := eq_true q179
              go_wp2
              go_roundg k1
              case measure => have := HK1.out; omega
              case rel => exact ⟨(wrap64 ((wrap64 ((wrap64 ((wrap64 ((wrap64 ((wrap64 ((wrap64 ((wrap64 ((wrap64 (x1_1 + 1)) + 1)) + 1)) + 1)) + 1)) + 1)) + 1)) + 1)) + 1)), (wrap64 (x5_1 + 1)), (by first | rfl | (simp; done) | (simp [*]; done)), (by first | rfl | (simp; done) | (simp [*]; done)), H', ⟨by have := HK1.out; omega⟩, by repeat (first | exact Drawn0.refl _ | apply Drawn0.step)⟩
            ·rw [if_neg c12] at H
             have c12b0 : (((Qf l0 x5_1).f2.f5) == (wrap64 ((wrap64 ((wrap64 ((wrap64 ((wrap64 ((wrap64 ((wrap64 (x1_1 + 1)) + 1)) + 1)) + 1)) + 1)) + 1)) + 1))) = false := beq_eq_false_iff_ne.mpr c12
             have c12b1 : (((Qf l0 x5_1).f2.f5) != (wrap64 ((wrap64 ((wrap64 ((wrap64 ((wrap64 ((wrap64 ((wrap64 (x1_1 + 1)) + 1)) + 1)) + 1)) + 1)) + 1)) + 1))) = true := bne_iff_ne.mpr c12
             obtain rfl := Option.some.inj H
             have p171 : 0 ≤ (x5_1 : Int) := of_decide_eq_true (by assumption)
             have q171 : x5_1 < (l0.length : Int) := of_decide_eq_true (by assumption)
             obtain ⟨ad171, e171, hx171_0, hx171_1, hx171_2, hx171_3, hx171_4, hx171_5, hx171_6, hx171_7, hx171_8⟩ := Q1 HR0.out x5_1 p171 q171
             cases e171
             replace p171 := eq_true p171
             replace q171 := eq_true q171
             have p172 : 0 ≤ (x5_1 : Int) := of_decide_eq_true (by assumption)
             have q172 : x5_1 < (l0.length : Int) := of_decide_eq_true (by assumption)
             obtain ⟨ad172, e172, hx172_0, hx172_1, hx172_2, hx172_3, hx172_4, hx172_5, hx172_6, hx172_7, hx172_8⟩ := Q1 HR0.out x5_1 p172 q172
             obtain rfl : ad171 = ad172 := (by injection e172)
             replace p172 := eq_true p172
             replace q172 := eq_true q172
             have p173 : 0 ≤ (x5_1 : Int) := of_decide_eq_true (by assumption)
             have q173 : x5_1 < (l0.length : Int) := of_decide_eq_true (by assumption)
             obtain ⟨ad173, e173, hx173_0, hx173_1, hx173_2, hx173_3, hx173_4, hx173_5, hx173_6, hx173_7, hx173_8⟩ := Q1 HR0.out x5_1 p173 q173
             obtain rfl : ad171 = ad173 := (by injection e173)
             replace p173 := eq_true p173
             replace q173 := eq_true q173
             have p174 : 0 ≤ (x5_1 : Int) := of_decide_eq_true (by assumption)
             have q174 : x5_1 < (l0.length : Int) := of_decide_eq_true (by assumption)
             obtain ⟨ad174, e174, hx174_0, hx174_1, hx174_2, hx174_3, hx174_4, hx174_5, hx174_6, hx174_7, hx174_8⟩ := Q1 HR0.out x5_1 p174 q174
             obtain rfl : ad171 = ad174 := (by injection e174)
             replace p174 := eq_true p174
             replace q174 := eq_true q174
             have p175 : 0 ≤ (x5_1 : Int) := of_decide_eq_true (by assumption)
             have q175 : x5_1 < (l0.length : Int) := of_decide_eq_true (by assumption)
             obtain ⟨ad175, e175, hx175_0, hx175_1, hx175_2, hx175_3, hx175_4, hx175_5, hx175_6, hx175_7, hx175_8⟩ := Q1 HR0.out x5_1 p175 q175
             obtain rfl : ad171 = ad175 := (by injection e175)
             replace p175 := eq_true p175
             replace q175 := eq_true q175
             have p176 : 0 ≤ (x5_1 : Int) := of_decide_eq_true (by assumption)
             have q176 : x5_1 < (l0.length : Int) := of_decide_eq_true (by assumption)
             obtain ⟨ad176, e176, hx176_0, hx176_1, hx176_2, hx176_3, hx176_4, hx176_5, hx176_6, hx176_7, hx176_8⟩ := Q1 HR0.out x5_1 p176 q176
             obtain rfl : ad171 = ad176 := (by injection e176)
             replace p176 := eq_true p176
             replace q176 := eq_true q176
             have p177 : 0 ≤ (x5_1 : Int) := of_decide_eq_true (by assumption)
             have q177 : x5_1 < (l0.length : Int) := of_decide_eq_true (by assumption)
             obtain ⟨ad177, e177, hx177_0, hx177_1, hx177_2, hx177_3, hx177_4, hx177_5, hx177_6, hx177_7, hx177_8⟩ := Q1 HR0.out x5_1 p177 q177
             obtain rfl : ad171 = ad177 := (by injection e177)
             replace p177 := eq_true p177
             replace q177 := eq_true q177
             have p178 : 0 ≤ (x5_1 : Int) := of_decide_eq_true (by assumption)
             have q178 : x5_1 < (l0.length : Int) := of_decide_eq_true (by assumption)
             obtain ⟨ad178, e178, hx178_0, hx178_1, hx178_2, hx178_3, hx178_4, hx178_5, hx178_6, hx178_7, hx178_8⟩ := Q1 HR0.out x5_1 p178 q178
             obtain rfl : ad171 = ad178 := (by injection e178)
             replace p178 := eq_true p178
             replace q178 := eq_true q178
             go_wp2
             go_ret
             exact ⟨by first | rfl | (simp; done) | (simp [*]; done), by repeat (first | exact Drawn0.refl _ | apply Drawn0.step)⟩
           ·rw [if_neg c11] at H
            have c11b0 : (((Qf l0 x5_1).f2.f4) == (wrap64 ((wrap64 ((wrap64 ((wrap64 ((wrap64 ((wrap64 (x1_1 + 1)) + 1)) + 1)) + 1)) + 1)) + 1))) = false := beq_eq_false_iff_ne.mpr c11
            have c11b1 : (((Qf l0 x5_1).f2.f4) != (wrap64 ((wrap64 ((wrap64 ((wrap64 ((wrap64 ((wrap64 (x1_1 + 1)) + 1)) + 1)) + 1)) + 1)) + 1))) = true := bne_iff_ne.mpr c11
            obtain rfl := Option.some.inj H
            have p171 : 0 ≤ (x5_1 : Int) := of_decide_eq_true (by assumption)
            have q171 : x5_1 < (l0.length : Int) := of_decide_eq_true (by assumption)
            obtain ⟨ad171, e171, hx171_0, hx171_1, hx171_2, hx171_3, hx171_4, hx171_5, hx171_6, hx171_7, hx171_8⟩ := Q1 HR0.out x5_1 p171 q171
            cases e171
            replace p171 := eq_true p171
            replace q171 := eq_true q171
            have p172 : 0 ≤ (x5_1 : Int) := of_decide_eq_true (by assumption)
            have q172 : x5_1 < (l0.length : Int) := of_decide_eq_true (by assumption)
            obtain ⟨ad172, e172, hx172_0, hx172_1, hx172_2, hx172_3, hx172_4, hx172_5, hx172_6, hx172_7, hx172_8⟩ := Q1 HR0.out x5_1 p172 q172
            obtain rfl : ad171 = ad172 := (by injection e172)
            replace p172 := eq_true p172
            replace q172 := eq_true q172
            have p173 : 0 ≤ (x5_1 : Int) := of_decide_eq_true (by assumption)
            have q173 : x5_1 < (l0.length : Int) := of_decide_eq_true (by assumption)
            obtain ⟨ad173, e173, hx173_0, hx173_1, hx173_2, hx173_3, hx173_4, hx173_5, hx173_6, hx173_7, hx173_8⟩ := Q1 HR0.out x5_1 p173 q173
            obtain rfl : ad171 = ad173 := (by injection e173)
            replace p173 := eq_true p173
            replace q173 := eq_true q173
            have p174 : 0 ≤ (x5_1 : Int) := of_decide_eq_true (by assumption)
            have q174 : x5_1 < (l0.length : Int) := of_decide_eq_true (by assumption)
            obtain ⟨ad174, e174, hx174_0, hx174_1, hx174_2, hx174_3, hx174_4, hx174_5, hx174_6, hx174_7, hx174_8⟩ := Q1 HR0.out x5_1 p174 q174
            obtain rfl : ad171 = ad174 := (by injection e174)
            replace p174 := eq_true p174
            replace q174 := eq_true q174
            have p175 : 0 ≤ (x5_1 : Int) := of_decide_eq_true (by assumption)
            have q175 : x5_1 < (l0.length : Int) := of_decide_eq_true (by assumption)
            obtain ⟨ad175, e175, hx175_0, hx175_1, hx175_2, hx175_3, hx175_4, hx175_5, hx175_6, hx175_7, hx175_8⟩ := Q1 HR0.out x5_1 p175 q175
            obtain rfl : ad171 = ad175 := (by injection e175)
            replace p175 := eq_true p175
            replace q175 := eq_true q175
            have p176 : 0 ≤ (x5_1 : Int) := of_decide_eq_true (by assumption)
            have q176 : x5_1 < (l0.length : Int) := of_decide_eq_true (by assumption)
            obtain ⟨ad176, e176, hx176_0, hx176_1, hx176_2, hx176_3, hx176_4, hx176_5, hx176_6, hx176_7, hx176_8⟩ := Q1 HR0.out x5_1 p176 q176
            obtain rfl : ad171 = ad176 := (by injection e176)
            replace p176 := eq_true p176
            replace q176 := eq_true q176
            have p177 : 0 ≤ (x5_1 : Int) := of_decide_eq_true (by assumption)
            have q177 : x5_1 < (l0.length : Int) := of_decide_eq_true (by assumption)
            obtain ⟨ad177, e177, hx177_0, hx177_1, hx177_2, hx177_3, hx177_4, hx177_5, hx177_6, hx177_7, hx177_8⟩ := Q1 HR0.out x5_1 p177 q177
            obtain rfl : ad171 = ad177 := (by injection e177)
            replace p177 := eq_true p177
            replace q177 := eq_true q177
            go_wp2
            go_ret
            exact ⟨by first | rfl | (simp; done) | (simp [*]; done), by repeat (first | exact Drawn0.refl _ | apply Drawn0.step)⟩
          ·rw [if_neg c10] at H
           have c10b0 : (((Qf l0 x5_1).f2.f3) == (wrap64 ((wrap64 ((wrap64 ((wrap64 ((wrap64 (x1_1 + 1)) + 1)) + 1)) + 1)) + 1))) = false := beq_eq_false_iff_ne.mpr c10
           have c10b1 : (((Qf l0 x5_1).f2.f3) != (wrap64 ((wrap64 ((wrap64 ((wrap64 ((wrap64 (x1_1 + 1)) + 1)) + 1)) + 1)) + 1))) = true := bne_iff_ne.mpr c10
           obtain rfl := Option.some.inj H
           have p171 : 0 ≤ (x5_1 : Int) := of_decide_eq_true (by assumption)
           have q171 : x5_1 < (l0.length : Int) := of_decide_eq_true (by assumption)
           obtain ⟨ad171, e171, hx171_0, hx171_1, hx171_2, hx171_3, hx171_4, hx171_5, hx171_6, hx171_7, hx171_8⟩ := Q1 HR0.out x5_1 p171 q171
           cases e171
           replace p171 := eq_true p171
           replace q171 := eq_true q171
           have p172 : 0 ≤ (x5_1 : Int) := of_decide_eq_true (by assumption)
           have q172 : x5_1 < (l0.length : Int) := of_decide_eq_true (by assumption)
           obtain ⟨ad172, e172, hx172_0, hx172_1, hx172_2, hx172_3, hx172_4, hx172_5, hx172_6, hx172_7, hx172_8⟩ := Q1 HR0.out x5_1 p172 q172
           obtain rfl : ad171 = ad172 := (by injection e172)
           replace p172 := eq_true p172
           replace q172 := eq_true q172
           have p173 : 0 ≤ (x5_1 : Int) := of_decide_eq_true (by assumption)
           have q173 : x5_1 < (l0.length : Int) := of_decide_eq_true (by assumption)
           obtain ⟨ad173, e173, hx173_0, hx173_1, hx173_2, hx173_3, hx173_4, hx173_5, hx173_6, hx173_7, hx173_8⟩ := Q1 HR0.out x5_1 p173 q173
           obtain rfl : ad171 = ad173 := (by injection e173)
           replace p173 := eq_true p173
           replace q173 := eq_true q173
           have p174 : 0 ≤ (x5_1 : Int) := of_decide_eq_true (by assumption)
           have q174 : x5_1 < (l0.length : Int) := of_decide_eq_true (by assumption)
           obtain ⟨ad174, e174, hx174_0, hx174_1, hx174_2, hx174_3, hx174_4, hx174_5, hx174_6, hx174_7, hx174_8⟩ := Q1 HR0.out x5_1 p174 q174
           obtain rfl : ad171 = ad174 := (by injection e174)
           replace p174 := eq_true p174
           replace q174 := eq_true q174
           have p175 : 0 ≤ (x5_1 : Int) := of_decide_eq_true (by assumption)
           have q175 : x5_1 < (l0.length : Int) := of_decide_eq_true (by assumption)
           obtain ⟨ad175, e175, hx175_0, hx175_1, hx175_2, hx175_3, hx175_4, hx175_5, hx175_6, hx175_7, hx175_8⟩ := Q1 HR0.out x5_1 p175 q175
           obtain rfl : ad171 = ad175 := (by injection e175)
           replace p175 := eq_true p175
           replace q175 := eq_true q175
           have p176 : 0 ≤ (x5_1 : Int) := of_decide_eq_true (by assumption)
           have q176 : x5_1 < (l0.length : Int) := of_decide_eq_true (by assumption)
           obtain ⟨ad176, e176, hx176_0, hx176_1, hx176_2, hx176_3, hx176_4, hx176_5, hx176_6, hx176_7, hx176_8⟩ := Q1 HR0.out x5_1 p176 q176
           obtain rfl : ad171 = ad176 := (by injection e176)
           replace p176 := eq_true p176
           replace q176 := eq_true q176
           go_wp2
           go_ret
           exact ⟨by first | rfl | (simp; done) | (simp [*]; done), by repeat (first | exact Drawn0.refl _ | apply Drawn0.step)⟩
         ·rw [if_neg c9] at H
          have c9b0 : (((Qf l0 x5_1).f2.f2) == (wrap64 ((wrap64 ((wrap64 ((wrap64 (x1_1 + 1)) + 1)) + 1)) + 1))) = false := beq_eq_false_iff_ne.mpr c9
          have c9b1 : (((Qf l0 x5_1).f2.f2) != (wrap64 ((wrap64 ((wrap64 ((wrap64 (x1_1 + 1)) + 1)) + 1)) + 1))) = true := bne_iff_ne.mpr c9
          obtain rfl := Option.some.inj H
          have p171 : 0 ≤ (x5_1 : Int) := of_decide_eq_true (by assumption)
          have q171 : x5_1 < (l0.length : Int) := of_decide_eq_true (by assumption)
          obtain ⟨ad171, e171, hx171_0, hx171_1, hx171_2, hx171_3, hx171_4, hx171_5, hx171_6, hx171_7, hx171_8⟩ := Q1 HR0.out x5_1 p171 q171
          cases e171
          replace p171 := eq_true p171
          replace q171 := eq_true q171
          have p172 : 0 ≤ (x5_1 : Int) := of_decide_eq_true (by assumption)
          have q172 : x5_1 < (l0.length : Int) := of_decide_eq_true (by assumption)
          obtain ⟨ad172, e172, hx172_0, hx172_1, hx172_2, hx172_3, hx172_4, hx172_5, hx172_6, hx172_7, hx172_8⟩ := Q1 HR0.out x5_1 p172 q172
          obtain rfl : ad171 = ad172 := (by injection e172)
          replace p172 := eq_true p172
          replace q172 := eq_true q172
          have p173 : 0 ≤ (x5_1 : Int) := of_decide_eq_true (by assumption)
          have q173 : x5_1 < (l0.length : Int) := of_decide_eq_true (by assumption)
          obtain ⟨ad173, e173, hx173_0, hx173_1, hx173_2, hx173_3, hx173_4, hx173_5, hx173_6, hx173_7, hx173_8⟩ := Q1 HR0.out x5_1 p173 q173
          obtain rfl : ad171 = ad173 := (by injection e173)
          replace p173 := eq_true p173
          replace q173 := eq_true q173
          have p174 : 0 ≤ (x5_1 : Int) := of_decide_eq_true (by assumption)
          have q174 : x5_1 < (l0.length : Int) := of_decide_eq_true (by assumption)
          obtain ⟨ad174, e174, hx174_0, hx174_1, hx174_2, hx174_3, hx174_4, hx174_5, hx174_6, hx174_7, hx174_8⟩ := Q1 HR0.out x5_1 p174 q174
          obtain rfl : ad171 = ad174 := (by injection e174)
          replace p174 := eq_true p174
          replace q174 := eq_true q174
          have p175 : 0 ≤ (x5_1 : Int) := of_decide_eq_true (by assumption)
          have q175 : x5_1 < (l0.length : Int) := of_decide_eq_true (by assumption)
          obtain ⟨ad175, e175, hx175_0, hx175_1, hx175_2, hx175_3, hx175_4, hx175_5, hx175_6, hx175_7, hx175_8⟩ := Q1 HR0.out x5_1 p175 q175
          obtain rfl : ad171 = ad175 := (by injection e175)
          replace p175 := eq_true p175
          replace q175 := eq_true q175
          go_wp2
          go_ret
          exact ⟨by first | rfl | (simp; done) | (simp [*]; done), by repeat (first | exact Drawn0.refl _ | apply Drawn0.step)⟩
        ·rw [if_neg c8] at H
         have c8b0 : (((Qf l0 x5_1).f2.f1) == (wrap64 ((wrap64 ((wrap64 (x1_1 + 1)) + 1)) + 1))) = false := beq_eq_false_iff_ne.mpr c8
         have c8b1 : (((Qf l0 x5_1).f2.f1) != (wrap64 ((wrap64 ((wrap64 (x1_1 + 1)) + 1)) + 1))) = true := bne_iff_ne.mpr c8
         obtain rfl := Option.some.inj H
         have p171 : 0 ≤ (x5_1 : Int) := of_decide_eq_true (by assumption)
         have q171 : x5_1 < (l0.length : Int) := of_decide_eq_true (by assumption)
         obtain ⟨ad171, e171, hx171_0, hx171_1, hx171_2, hx171_3, hx171_4, hx171_5, hx171_6, hx171_7, hx171_8⟩ := Q1 HR0.out x5_1 p171 q171
         cases e171
         replace p171 := eq_true p171
         replace q171 := eq_true q171
         have p172 : 0 ≤ (x5_1 : Int) := of_decide_eq_true (by assumption)
         have q172 : x5_1 < (l0.length : Int) := of_decide_eq_true (by assumption)
         obtain ⟨ad172, e172, hx172_0, hx172_1, hx172_2, hx172_3, hx172_4, hx172_5, hx172_6, hx172_7, hx172_8⟩ := Q1 HR0.out x5_1 p172 q172
         obtain rfl : ad171 = ad172 := (by injection e172)
         replace p172 := eq_true p172
         replace q172 := eq_true q172
         have p173 : 0 ≤ (x5_1 : Int) := of_decide_eq_true (by assumption)
         have q173 : x5_1 < (l0.length : Int) := of_decide_eq_true (by assumption)
         obtain ⟨ad173, e173, hx173_0, hx173_1, hx173_2, hx173_3, hx173_4, hx173_5, hx173_6, hx173_7, hx173_8⟩ := Q1 HR0.out x5_1 p173 q173
         obtain rfl : ad171 = ad173 := (by injection e173)
         replace p173 := eq_true p173
         replace q173 := eq_true q173
         have p174 : 0 ≤ (x5_1 : Int) := of_decide_eq_true (by assumption)
         have q174 : x5_1 < (l0.length : Int) := of_decide_eq_true (by assumption)
         obtain ⟨ad174, e174, hx174_0, hx174_1, hx174_2, hx174_3, hx174_4, hx174_5, hx174_6, hx174_7, hx174_8⟩ := Q1 HR0.out x5_1 p174 q174
         obtain rfl : ad171 = ad174 := (by injection e174)
         replace p174 := eq_true p174
         replace q174 := eq_true q174
         go_wp2
         go_ret
         exact ⟨by first | rfl | (simp; done) | (simp [*]; done), by repeat (first | exact Drawn0.refl _ | apply Drawn0.step)⟩
       ·rw [if_neg c7] at H
        have c7b0 : (((Qf l0 x5_1).f2.f0) == (wrap64 ((wrap64 (x1_1 + 1)) + 1))) = false := beq_eq_false_iff_ne.mpr c7
        have c7b1 : (((Qf l0 x5_1).f2.f0) != (wrap64 ((wrap64 (x1_1 + 1)) + 1))) = true := bne_iff_ne.mpr c7
        obtain rfl := Option.some.inj H
        have p171 : 0 ≤ (x5_1 : Int) := of_decide_eq_true (by assumption)
        have q171 : x5_1 < (l0.length : Int) := of_decide_eq_true (by assumption)
        obtain ⟨ad171, e171, hx171_0, hx171_1, hx171_2, hx171_3, hx171_4, hx171_5, hx171_6, hx171_7, hx171_8⟩ := Q1 HR0.out x5_1 p171 q171
        cases e171
        replace p171 := eq_true p171
        replace q171 := eq_true q171
        have p172 : 0 ≤ (x5_1 : Int) := of_decide_eq_true (by assumption)
        have q172 : x5_1 < (l0.length : Int) := of_decide_eq_true (by assumption)
        obtain ⟨ad172, e172, hx172_0, hx172_1, hx172_2, hx172_3, hx172_4, hx172_5, hx172_6, hx172_7, hx172_8⟩ := Q1 HR0.out x5_1 p172 q172
        obtain rfl : ad171 = ad172 := (by injection e172)
        replace p172 := eq_true p172
        replace q172 := eq_true q172
        have p173 : 0 ≤ (x5_1 : Int) := of_decide_eq_true (by assumption)
        have q173 : x5_1 < (l0.length : Int) := of_decide_eq_true (by assumption)
        obtain ⟨ad173, e173, hx173_0, hx173_1, hx173_2, hx173_3, hx173_4, hx173_5, hx173_6, hx173_7, hx173_8⟩ := Q1 HR0.out x5_1 p173 q173
        obtain rfl : ad171 = ad173 := (by injection e173)
        replace p173 := eq_true p173
        replace q173 := eq_true q173
        go_wp2
        go_ret
        exact ⟨by first | rfl | (simp; done) | (simp [*]; done), by repeat (first | exact Drawn0.refl _ | apply Drawn0.step)⟩
     ·rw [if_neg c5] at H
      have c5b0 : (((Qf l0 x5_1).f0) == x1_1) = false := beq_eq_false_iff_ne.mpr c5
      have c5b1 : (((Qf l0 x5_1).f0) != x1_1) = true := bne_iff_ne.mpr c5
      obtain rfl := Option.some.inj H
      have p171 : 0 ≤ (x5_1 : Int) := of_decide_eq_true (by assumption)
      have q171 : x5_1 < (l0.length : Int) := of_decide_eq_true (by assumption)
      obtain ⟨ad171, e171, hx171_0, hx171_1, hx171_2, hx171_3, hx171_4, hx171_5, hx171_6, hx171_7, hx171_8⟩ := Q1 HR0.out x5_1 p171 q171
      cases e171
      replace p171 := eq_true p171
      replace q171 := eq_true q171
      go_wp2
      go_ret
      exact ⟨by first | rfl | (simp; done) | (simp [*]; done), by repeat (first | exact Drawn0.refl _ | apply Drawn0.step)⟩
    ·rw [if_neg c4] at H
     exact absurd H (by simp)
   ·rw [if_neg c3] at H
    have c3b0 : decide (x5_1 < (l0.length : Int)) = false := decide_eq_false c3
    clear c3
    obtain rfl := Option.some.inj H
    go_wp2
    go_ret
    exact ⟨by first | rfl | (simp; done) | (simp [*]; done), by repeat (first | exact Drawn0.refl _ | apply Drawn0.step)⟩
def laws_heldRibOut.f (k : Nat) (l0_0 : List (S73)) (l0_1 : List (S42)) (a0_2 : Int) (a1 : Int) : Option (Int) := (laws_heldHeldS.f k l0_0 a1).bind fun t181 => (if t181 < 0 then (some (-1)) else ((laws_heldRouteS.f k l0_1 t181).bind fun t182 => (if t182 < 0 then (some (-1)) else (some t182))))
theorem laws_heldRibOut.mono : ∀ a0 a1 a2 a3 k, LeO (laws_heldRibOut.f k a0 a1 a2 a3) (laws_heldRibOut.f (k + 1) a0 a1 a2 a3) := by
 intro a0 a1 a2 a3 k
 unfold laws_heldRibOut.f
 repeat' first
   | (with_reducible exact laws_heldHeldS.mono _ _ _)
   | (with_reducible exact laws_heldRouteS.mono _ _ _)
   | (with_reducible exact LeO.refl _)
   | (with_reducible exact LeO.none _)
   | (with_reducible refine LeO.ite ?_ ?_)
   | (with_reducible refine LeO.bind ?_ (fun _ => ?_))
   | exact laws_heldHeldS.mono _ _ _
   | exact laws_heldRouteS.mono _ _ _
   | exact LeO.none _
   | refine LeO.ite ?_ ?_
   | refine LeO.bind ?_ (fun _ => ?_)
set_option maxHeartbeats 8000000 in
set_option maxRecDepth 100000 in
theorem laws_heldRibOut.calls (k : Nat) (A0_0 : Option Addr) (c0_0 : Nat) (l0_0 : List (S73)) (A0_1 : Option Addr) (c0_1 : Nat) (l0_1 : List (S42)) (a0_2 : Int) (a1 : Int) (r : Int) (w : World) (hr0_0 : Kd.C k73 w A0_0 l0_0.length l0_0) (hc0_0 : l0_0.length ≤ c0_0) (hr0_1 : Kd.C k42 w A0_1 l0_1.length l0_1) (hc0_1 : l0_1.length ≤ c0_1) (h : laws_heldRibOut.f k l0_0 l0_1 a0_2 a1 = some r) :
  Calls Try.prog 26 #[.agg #[.slice A0_0 l0_0.length c0_0, .slice A0_1 l0_1.length c0_1, .int .i64 a0_2], .int .i64 a1] w fun e w' => e = .returned (.int .i64 r) ∧ Below w.heap.size w w' := by
 have hu34 := Try.underlying34
 have HR0_0 := Aside0.mk hr0_0
 have HC0_0 := Aside0.mk hc0_0
 clear hr0_0 hc0_0
 have HR0_1 := Aside0.mk hr0_1
 have HC0_1 := Aside0.mk hc0_1
 clear hr0_1 hc0_1
 have HB := Aside0.mk (Below.refl w.heap.size w)
 have H : ((laws_heldHeldS.f k l0_0 a1).bind fun t181 => (if t181 < 0 then (some (-1)) else ((laws_heldRouteS.f k l0_1 t181).bind fun t182 => (if t182 < 0 then (some (-1)) else (some t182))))) = some r := h
 clear h
 replace H := Option.bind_eq_some_iff.mp H
 obtain ⟨t181, A30, H⟩ := H
 replace H : (if t181 < 0 then (some (-1)) else ((laws_heldRouteS.f k l0_1 t181).bind fun t182 => (if t182 < 0 then (some (-1)) else (some t182)))) = some r := H
 have A3 := Aside0.mk A30
 clear A30
 by_cases c4 : t181 < 0
 ·rw [if_pos c4] at H
  have c4b0 : decide (t181 < 0) = true := decide_eq_true c4
  clear c4
  obtain rfl := Option.some.inj H
  go_enter Try.func26, Try.ntmps26
  go_wp2_with (first | ((with_reducible refine Qw (N := 2) rfl ?_); refine Qu ?hg (N := 2) ?hd (cs := #[.slice A0_0 l0_0.length c0_0, .slice A0_1 l0_1.length c0_1, .int .i64 a0_2]) (t := 34) ?hr ?_; (case hd => rfl); (case hg => rfl); (case hr => first | (go_simp; done) | (go_simp; rfl)); intro gb180 hg w5 hbox hb; have n0_ := Aside0.mk (Qn (by repeat (first | (with_reducible first | exact HB.out | apply Qg | apply Qb | apply Qe) | exact HB.out)) hb); have n1_ := Aside0.mk (hbox); have n2_ := Aside0.mk ((by rw [hg]; exact (Ql (by repeat (first | (with_reducible first | exact HB.out | apply Qg | apply Qb | apply Qe) | exact HB.out))) : w.heap.size ≤ gb180)); have n3_ := Aside0.mk ((by rw [hg]; exact (Ql (by repeat (first | (with_reducible first | exact HB.out | apply Qg | apply Qb | apply Qe) | exact HB.out))) : w.heap.size ≤ gb180)); clear HB; have HB := n0_; have BK180 := n1_; have GW180 := n2_; have GE180 := n3_; clear n0_ n1_ n2_ n3_; clear hb hbox hg; have hcz6_0 : w5.cell? ⟨gb180, 0, none⟩ = some (.slice A0_0 l0_0.length c0_0) := (Qa BK180.out 0).trans rfl; have hcz6_1 : w5.cell? ⟨gb180, 1, none⟩ = some (.slice A0_1 l0_1.length c0_1) := (Qa BK180.out 1).trans rfl; have hcz6_2 : w5.cell? ⟨gb180, 2, none⟩ = some (.int .i64 a0_2) := (Qa BK180.out 2).trans rfl; have hfz6_0 := Qd BK180.out 0; have hfz6_1 := Qd BK180.out 1; have hfz6_2 := Qd BK180.out 2) | ((with_reducible refine Qq (f := 66) rfl ?_); refine Qx (some 8) rfl rfl Try.func66 (by kernel_rfl) rfl #[.slice A0_0 l0_0.length c0_0, .int .i64 a1] rfl (by (try simp only [List.map_toArray, List.map_cons, List.map_nil]); first | done | rfl | (simp only [List.length_drop, List.length_take]; rfl)) ?_; (with_reducible refine (laws_heldHeldS.calls k _ _ l0_0 a1 t181 _ ?side1 ?side2 A3.out).mono ?_); (case side1 => repeat (first | exact (Kd.C_below HR0_0.out HB.out) | (with_reducible refine Kd.C_alloc ?_ _) | (with_reducible refine Kd.C_drewN ?_ _) | (with_reducible refine Kd.C_drew ?_))); (case side2 => exact HC0_0.out); rintro e w' ⟨rfl, ⟨nd, rfl⟩⟩; refine ⟨_, rfl, ?_⟩))
  go_ret
  exact ⟨by first | rfl | (simp [Qp, Qo] <;> rfl) | (simp [*, Qp, Qo] <;> rfl), by repeat (first | (with_reducible first | exact HB.out | apply Qg | apply Qb | apply Qe | refine Qc ?_ GE180.out) | exact HB.out)⟩
 ·rw [if_neg c4] at H
  have c4b0 : decide (t181 < 0) = false := decide_eq_false c4
  clear c4
  replace H := Option.bind_eq_some_iff.mp H
  obtain ⟨t182, A70, H⟩ := H
  replace H : (if t182 < 0 then (some (-1)) else (some t182)) = some r := H
  have A7 := Aside0.mk A70
  clear A70
  by_cases c8 : t182 < 0
  ·rw [if_pos c8] at H
   have c8b0 : decide (t182 < 0) = true := decide_eq_true c8
   clear c8
   obtain rfl := Option.some.inj H
   go_enter Try.func26, Try.ntmps26
   go_wp2_with (first | ((with_reducible refine Qw (N := 2) rfl ?_); refine Qu ?hg (N := 2) ?hd (cs := #[.slice A0_0 l0_0.length c0_0, .slice A0_1 l0_1.length c0_1, .int .i64 a0_2]) (t := 34) ?hr ?_; (case hd => rfl); (case hg => rfl); (case hr => first | (go_simp; done) | (go_simp; rfl)); intro gb180 hg w9 hbox hb; have n0_ := Aside0.mk (Qn (by repeat (first | (with_reducible first | exact HB.out | apply Qg | apply Qb | apply Qe) | exact HB.out)) hb); have n1_ := Aside0.mk (hbox); have n2_ := Aside0.mk ((by rw [hg]; exact (Ql (by repeat (first | (with_reducible first | exact HB.out | apply Qg | apply Qb | apply Qe) | exact HB.out))) : w.heap.size ≤ gb180)); have n3_ := Aside0.mk ((by rw [hg]; exact (Ql (by repeat (first | (with_reducible first | exact HB.out | apply Qg | apply Qb | apply Qe) | exact HB.out))) : w.heap.size ≤ gb180)); clear HB; have HB := n0_; have BK180 := n1_; have GW180 := n2_; have GE180 := n3_; clear n0_ n1_ n2_ n3_; clear hb hbox hg; have hcz10_0 : w9.cell? ⟨gb180, 0, none⟩ = some (.slice A0_0 l0_0.length c0_0) := (Qa BK180.out 0).trans rfl; have hcz10_1 : w9.cell? ⟨gb180, 1, none⟩ = some (.slice A0_1 l0_1.length c0_1) := (Qa BK180.out 1).trans rfl; have hcz10_2 : w9.cell? ⟨gb180, 2, none⟩ = some (.int .i64 a0_2) := (Qa BK180.out 2).trans rfl; have hfz10_0 := Qd BK180.out 0; have hfz10_1 := Qd BK180.out 1; have hfz10_2 := Qd BK180.out 2) | ((with_reducible refine Qq (f := 66) rfl ?_); refine Qx (some 8) rfl rfl Try.func66 (by kernel_rfl) rfl #[.slice A0_0 l0_0.length c0_0, .int .i64 a1] rfl (by (try simp only [List.map_toArray, List.map_cons, List.map_nil]); first | done | rfl | (simp only [List.length_drop, List.length_take]; rfl)) ?_; (with_reducible refine (laws_heldHeldS.calls k _ _ l0_0 a1 t181 _ ?side1 ?side2 A3.out).mono ?_); (case side1 => repeat (first | exact (Kd.C_below HR0_0.out HB.out) | (with_reducible refine Kd.C_alloc ?_ _) | (with_reducible refine Kd.C_drewN ?_ _) | (with_reducible refine Kd.C_drew ?_))); (case side2 => exact HC0_0.out); rintro e w' ⟨rfl, ⟨nd, rfl⟩⟩; refine ⟨_, rfl, ?_⟩) | ((with_reducible refine Qq (f := 21) rfl ?_); refine Qx (some 14) rfl rfl Try.func21 (by kernel_rfl) rfl #[.slice A0_1 l0_1.length c0_1, .int .i64 t181] rfl (by (try simp only [List.map_toArray, List.map_cons, List.map_nil]); first | done | rfl | (simp only [List.length_drop, List.length_take]; rfl)) ?_; (with_reducible refine (laws_heldRouteS.calls k _ _ l0_1 t181 t182 _ ?side1 ?side2 A7.out).mono ?_); (case side1 => repeat (first | exact (Kd.C_below HR0_1.out (by repeat (first | (with_reducible first | exact HB.out | apply Qg | apply Qb | apply Qe | refine Qc ?_ GE180.out) | exact HB.out))) | (with_reducible refine Kd.C_alloc ?_ _) | (with_reducible refine Kd.C_drewN ?_ _) | (with_reducible refine Kd.C_drew ?_))); (case side2 => exact HC0_1.out); rintro e w' ⟨rfl, ⟨nd, rfl⟩⟩; refine ⟨_, rfl, ?_⟩))
   go_ret
   exact ⟨by first | rfl | (simp [Qp, Qo] <;> rfl) | (simp [*, Qp, Qo] <;> rfl), by repeat (first | (with_reducible first | exact HB.out | apply Qg | apply Qb | apply Qe | refine Qc ?_ GE180.out) | exact HB.out)⟩
  ·rw [if_neg c8] at H
   have c8b0 : decide (t182 < 0) = false := decide_eq_false c8
   clear c8
   obtain rfl := Option.some.inj H
   go_enter Try.func26, Try.ntmps26
   go_wp2_with (first | ((with_reducible refine Qw (N := 2) rfl ?_); refine Qu ?hg (N := 2) ?hd (cs := #[.slice A0_0 l0_0.length c0_0, .slice A0_1 l0_1.length c0_1, .int .i64 a0_2]) (t := 34) ?hr ?_; (case hd => rfl); (case hg => rfl); (case hr => first | (go_simp; done) | (go_simp; rfl)); intro gb180 hg w11 hbox hb; have n0_ := Aside0.mk (Qn (by repeat (first | (with_reducible first | exact HB.out | apply Qg | apply Qb | apply Qe) | exact HB.out)) hb); have n1_ := Aside0.mk (hbox); have n2_ := Aside0.mk ((by rw [hg]; exact (Ql (by repeat (first | (with_reducible first | exact HB.out | apply Qg | apply Qb | apply Qe) | exact HB.out))) : w.heap.size ≤ gb180)); have n3_ := Aside0.mk ((by rw [hg]; exact (Ql (by repeat (first | (with_reducible first | exact HB.out | apply Qg | apply Qb | apply Qe) | exact HB.out))) : w.heap.size ≤ gb180)); clear HB; have HB := n0_; have BK180 := n1_; have GW180 := n2_; have GE180 := n3_; clear n0_ n1_ n2_ n3_; clear hb hbox hg; have hcz12_0 : w11.cell? ⟨gb180, 0, none⟩ = some (.slice A0_0 l0_0.length c0_0) := (Qa BK180.out 0).trans rfl; have hcz12_1 : w11.cell? ⟨gb180, 1, none⟩ = some (.slice A0_1 l0_1.length c0_1) := (Qa BK180.out 1).trans rfl; have hcz12_2 : w11.cell? ⟨gb180, 2, none⟩ = some (.int .i64 a0_2) := (Qa BK180.out 2).trans rfl; have hfz12_0 := Qd BK180.out 0; have hfz12_1 := Qd BK180.out 1; have hfz12_2 := Qd BK180.out 2) | ((with_reducible refine Qq (f := 66) rfl ?_); refine Qx (some 8) rfl rfl Try.func66 (by kernel_rfl) rfl #[.slice A0_0 l0_0.length c0_0, .int .i64 a1] rfl (by (try simp only [List.map_toArray, List.map_cons, List.map_nil]); first | done | rfl | (simp only [List.length_drop, List.length_take]; rfl)) ?_; (with_reducible refine (laws_heldHeldS.calls k _ _ l0_0 a1 t181 _ ?side1 ?side2 A3.out).mono ?_); (case side1 => repeat (first | exact (Kd.C_below HR0_0.out HB.out) | (with_reducible refine Kd.C_alloc ?_ _) | (with_reducible refine Kd.C_drewN ?_ _) | (with_reducible refine Kd.C_drew ?_))); (case side2 => exact HC0_0.out); rintro e w' ⟨rfl, ⟨nd, rfl⟩⟩; refine ⟨_, rfl, ?_⟩) | ((with_reducible refine Qq (f := 21) rfl ?_); refine Qx (some 14) rfl rfl Try.func21 (by kernel_rfl) rfl #[.slice A0_1 l0_1.length c0_1, .int .i64 t181] rfl (by (try simp only [List.map_toArray, List.map_cons, List.map_nil]); first | done | rfl | (simp only [List.length_drop, List.length_take]; rfl)) ?_; (with_reducible refine (laws_heldRouteS.calls k _ _ l0_1 t181 t182 _ ?side1 ?side2 A7.out).mono ?_); (case side1 => repeat (first | exact (Kd.C_below HR0_1.out (by repeat (first | (with_reducible first | exact HB.out | apply Qg | apply Qb | apply Qe | refine Qc ?_ GE180.out) | exact HB.out))) | (with_reducible refine Kd.C_alloc ?_ _) | (with_reducible refine Kd.C_drewN ?_ _) | (with_reducible refine Kd.C_drew ?_))); (case side2 => exact HC0_1.out); rintro e w' ⟨rfl, ⟨nd, rfl⟩⟩; refine ⟨_, rfl, ?_⟩))
   go_ret
   exact ⟨by first | rfl | (simp [Qp, Qo] <;> rfl) | (simp [*, Qp, Qo] <;> rfl), by repeat (first | (with_reducible first | exact HB.out | apply Qg | apply Qb | apply Qe | refine Qc ?_ GE180.out) | exact HB.out)⟩
def spec_l02Is.f (a0 : Int) (a1 : Int) (a2 : Int) : Option (Bool) := if a0 ≥ a1 then (some (decide (a0 ≤ a2))) else (some false)
set_option maxHeartbeats 8000000 in
set_option maxRecDepth 100000 in
theorem spec_l02Is.calls (a0 : Int) (a1 : Int) (a2 : Int) (r : Bool) (w : World) (h : spec_l02Is.f a0 a1 a2 = some r) :
  Calls Try.prog 88 #[.int .i64 a0, .int .i64 a1, .int .i64 a2] w fun e w' => e = .returned (.bool r) ∧ Drawn0 w w' := by
 have H : (if a0 ≥ a1 then (some (decide (a0 ≤ a2))) else (some false)) = some r := h
 clear h
 by_cases c4 : a0 ≥ a1
 ·rw [if_pos c4] at H
  have c4b0 : decide (a1 ≤ a0) = true := decide_eq_true c4
  clear c4
  obtain rfl := Option.some.inj H
  go_enter Try.func88, Try.ntmps88
  go_wp2
  go_ret
  exact ⟨by first | rfl | (simp; done) | (simp [*]; done), by repeat (first | exact Drawn0.refl _ | apply Drawn0.step)⟩
 ·rw [if_neg c4] at H
  have c4b0 : decide (a1 ≤ a0) = false := decide_eq_false c4
  clear c4
  obtain rfl := Option.some.inj H
  go_enter Try.func88, Try.ntmps88
  go_wp2
  go_ret
  exact ⟨by first | rfl | (simp; done) | (simp [*]; done), by repeat (first | exact Drawn0.refl _ | apply Drawn0.step)⟩
def spec_l06Peer.f (a0 : Int) : Option (Bool) := (spec_l02Is.f a0 1 9).bind fun t183 => (some t183)
set_option maxHeartbeats 8000000 in
set_option maxRecDepth 100000 in
theorem spec_l06Peer.calls (a0 : Int) (r : Bool) (w : World) (h : spec_l06Peer.f a0 = some r) :
  Calls Try.prog 62 #[.int .i64 a0] w fun e w' => e = .returned (.bool r) ∧ Drawn0 w w' := by
 have H : ((spec_l02Is.f a0 1 9).bind fun t183 => (some t183)) = some r := h
 clear h
 replace H := Option.bind_eq_some_iff.mp H
 obtain ⟨t183, A20, H⟩ := H
 replace H : (some t183) = some r := H
 have A2 := Aside0.mk A20
 clear A20
 obtain rfl := Option.some.inj H
 go_enter Try.func62, Try.ntmps62
 go_wp2_with (first | ((with_reducible refine Qq (f := 88) rfl ?_); refine Qx (some 4) rfl rfl Try.func88 (by kernel_rfl) rfl #[.int .i64 a0, .int .i64 1, .int .i64 9] rfl (by (try simp only [List.map_toArray, List.map_cons, List.map_nil]); first | done | rfl | (simp only [List.length_drop, List.length_take]; rfl)) ?_; (with_reducible refine (spec_l02Is.calls a0 1 9 t183 _ A2.out).mono ?_); rintro e w' ⟨rfl, ⟨nd, rfl⟩⟩; refine ⟨_, rfl, ?_⟩))
 go_ret
 exact ⟨by first | rfl | (simp; done) | (simp [*]; done), by repeat (first | exact Drawn0.refl _ | apply Drawn0.step)⟩
def spec_l02Vni.f (a0 : Int) : Option (Bool) := (spec_l02Is.f a0 1 16777215).bind fun t184 => (some t184)
set_option maxHeartbeats 8000000 in
set_option maxRecDepth 100000 in
theorem spec_l02Vni.calls (a0 : Int) (r : Bool) (w : World) (h : spec_l02Vni.f a0 = some r) :
  Calls Try.prog 75 #[.int .i64 a0] w fun e w' => e = .returned (.bool r) ∧ Drawn0 w w' := by
 have H : ((spec_l02Is.f a0 1 16777215).bind fun t184 => (some t184)) = some r := h
 clear h
 replace H := Option.bind_eq_some_iff.mp H
 obtain ⟨t184, A20, H⟩ := H
 replace H : (some t184) = some r := H
 have A2 := Aside0.mk A20
 clear A20
 obtain rfl := Option.some.inj H
 go_enter Try.func75, Try.ntmps75
 go_wp2_with (first | ((with_reducible refine Qq (f := 88) rfl ?_); refine Qx (some 4) rfl rfl Try.func88 (by kernel_rfl) rfl #[.int .i64 a0, .int .i64 1, .int .i64 16777215] rfl (by (try simp only [List.map_toArray, List.map_cons, List.map_nil]); first | done | rfl | (simp only [List.length_drop, List.length_take]; rfl)) ?_; (with_reducible refine (spec_l02Is.calls a0 1 16777215 t184 _ A2.out).mono ?_); rintro e w' ⟨rfl, ⟨nd, rfl⟩⟩; refine ⟨_, rfl, ?_⟩))
 go_ret
 exact ⟨by first | rfl | (simp; done) | (simp [*]; done), by repeat (first | exact Drawn0.refl _ | apply Drawn0.step)⟩
def spec_l02Mac.f (a0 : Int) : Option (Bool) := (spec_l02Is.f a0 0 281474976710655).bind fun t185 => (some t185)
set_option maxHeartbeats 8000000 in
set_option maxRecDepth 100000 in
theorem spec_l02Mac.calls (a0 : Int) (r : Bool) (w : World) (h : spec_l02Mac.f a0 = some r) :
  Calls Try.prog 107 #[.int .i64 a0] w fun e w' => e = .returned (.bool r) ∧ Drawn0 w w' := by
 have H : ((spec_l02Is.f a0 0 281474976710655).bind fun t185 => (some t185)) = some r := h
 clear h
 replace H := Option.bind_eq_some_iff.mp H
 obtain ⟨t185, A20, H⟩ := H
 replace H : (some t185) = some r := H
 have A2 := Aside0.mk A20
 clear A20
 obtain rfl := Option.some.inj H
 go_enter Try.func107, Try.ntmps107
 go_wp2_with (first | ((with_reducible refine Qq (f := 88) rfl ?_); refine Qx (some 4) rfl rfl Try.func88 (by kernel_rfl) rfl #[.int .i64 a0, .int .i64 0, .int .i64 281474976710655] rfl (by (try simp only [List.map_toArray, List.map_cons, List.map_nil]); first | done | rfl | (simp only [List.length_drop, List.length_take]; rfl)) ?_; (with_reducible refine (spec_l02Is.calls a0 0 281474976710655 t185 _ A2.out).mono ?_); rintro e w' ⟨rfl, ⟨nd, rfl⟩⟩; refine ⟨_, rfl, ?_⟩))
 go_ret
 exact ⟨by first | rfl | (simp; done) | (simp [*]; done), by repeat (first | exact Drawn0.refl _ | apply Drawn0.step)⟩
def spec_IsGroup.f (a0 : Int) : Option (Bool) := (spec_l02Mac.f a0).bind fun t186 => (if t186 = true then (some ((Go.bits .and .i64 (a0 / 1099511627776) 1) == 1)) else (some false))
set_option maxHeartbeats 8000000 in
set_option maxRecDepth 100000 in
theorem spec_IsGroup.calls (a0 : Int) (r : Bool) (w : World) (h : spec_IsGroup.f a0 = some r) :
  Calls Try.prog 108 #[.int .i64 a0] w fun e w' => e = .returned (.bool r) ∧ Drawn0 w w' := by
 have H : ((spec_l02Mac.f a0).bind fun t186 => (if t186 = true then (some ((Go.bits .and .i64 (a0 / 1099511627776) 1) == 1)) else (some false))) = some r := h
 clear h
 replace H := Option.bind_eq_some_iff.mp H
 obtain ⟨t186, A20, H⟩ := H
 replace H : (if t186 = true then (some ((Go.bits .and .i64 (a0 / 1099511627776) 1) == 1)) else (some false)) = some r := H
 have A2 := Aside0.mk A20
 clear A20
 by_cases c3 : t186 = true
 ·subst c3
  have H1 : (some ((Go.bits .and .i64 (a0 / 1099511627776) 1) == 1)) = some r := by rw [if_pos rfl] at H; exact H
  clear H
  have H := H1
  clear H1
  obtain rfl := Option.some.inj H
  go_enter Try.func108, Try.ntmps108
  go_wp2_with (first | ((with_reducible refine Qq (f := 107) rfl ?_); refine Qx (some 4) rfl rfl Try.func107 (by kernel_rfl) rfl #[.int .i64 a0] rfl (by (try simp only [List.map_toArray, List.map_cons, List.map_nil]); first | done | rfl | (simp only [List.length_drop, List.length_take]; rfl)) ?_; (with_reducible refine (spec_l02Mac.calls a0 true _ A2.out).mono ?_); rintro e w' ⟨rfl, ⟨nd, rfl⟩⟩; refine ⟨_, rfl, ?_⟩))
  go_ret
  exact ⟨by first | rfl | (simp; done) | (simp [*]; done), by repeat (first | exact Drawn0.refl _ | apply Drawn0.step)⟩
 ·replace c3 := Bool.eq_false_iff.mpr c3
  subst c3
  have H1 : (some false) = some r := by rw [if_neg (show ¬ (false = true) by decide)] at H; exact H
  clear H
  have H := H1
  clear H1
  obtain rfl := Option.some.inj H
  go_enter Try.func108, Try.ntmps108
  go_wp2_with (first | ((with_reducible refine Qq (f := 107) rfl ?_); refine Qx (some 4) rfl rfl Try.func107 (by kernel_rfl) rfl #[.int .i64 a0] rfl (by (try simp only [List.map_toArray, List.map_cons, List.map_nil]); first | done | rfl | (simp only [List.length_drop, List.length_take]; rfl)) ?_; (with_reducible refine (spec_l02Mac.calls a0 false _ A2.out).mono ?_); rintro e w' ⟨rfl, ⟨nd, rfl⟩⟩; refine ⟨_, rfl, ?_⟩))
  go_ret
  exact ⟨by first | rfl | (simp; done) | (simp [*]; done), by repeat (first | exact Drawn0.refl _ | apply Drawn0.step)⟩
def spec_l02Ip.f (a0 : Int) : Option (Bool) := (spec_l02Is.f a0 0 4294967295).bind fun t187 => (some t187)
set_option maxHeartbeats 8000000 in
set_option maxRecDepth 100000 in
theorem spec_l02Ip.calls (a0 : Int) (r : Bool) (w : World) (h : spec_l02Ip.f a0 = some r) :
  Calls Try.prog 109 #[.int .i64 a0] w fun e w' => e = .returned (.bool r) ∧ Drawn0 w w' := by
 have H : ((spec_l02Is.f a0 0 4294967295).bind fun t187 => (some t187)) = some r := h
 clear h
 replace H := Option.bind_eq_some_iff.mp H
 obtain ⟨t187, A20, H⟩ := H
 replace H : (some t187) = some r := H
 have A2 := Aside0.mk A20
 clear A20
 obtain rfl := Option.some.inj H
 go_enter Try.func109, Try.ntmps109
 go_wp2_with (first | ((with_reducible refine Qq (f := 88) rfl ?_); refine Qx (some 4) rfl rfl Try.func88 (by kernel_rfl) rfl #[.int .i64 a0, .int .i64 0, .int .i64 4294967295] rfl (by (try simp only [List.map_toArray, List.map_cons, List.map_nil]); first | done | rfl | (simp only [List.length_drop, List.length_take]; rfl)) ?_; (with_reducible refine (spec_l02Is.calls a0 0 4294967295 t187 _ A2.out).mono ?_); rintro e w' ⟨rfl, ⟨nd, rfl⟩⟩; refine ⟨_, rfl, ?_⟩))
 go_ret
 exact ⟨by first | rfl | (simp; done) | (simp [*]; done), by repeat (first | exact Drawn0.refl _ | apply Drawn0.step)⟩
end Go.Proofs.Ytmgmaflfednngaa.PFnExactRibPut
