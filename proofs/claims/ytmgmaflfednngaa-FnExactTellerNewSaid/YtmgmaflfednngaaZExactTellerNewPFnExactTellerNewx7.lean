-- A copy, made by trim.py (its own words shortened): not an official print.
import Derived.Test.YtmgmaflfednngaaZExactTellerNewPFnExactTellerNewx0
import Derived.Test.YtmgmaflfednngaaZExactTellerNewPFnExactTellerNewx6
namespace Go.Proofs.Ytmgmaflfednngaa.PFnExactTellerNew
open Go.RowKit Go.Proofs.YtmgmaflfednngaaW.PrintWords Go.Proofs.YtmgmaflfednngaaW.PrintLast Go.Proofs.YtmgmaflfednngaaW.PrintMore
attribute [local go_sem] max2_int min2_int max_two min_two max_three min_three max_four min_four   -- for this text's walks alone
set_option linter.unusedVariables false
set_option linter.unusedSimpArgs false
def laws_eqHeldS.l0 : Nat → List (S73) → List (S73) → Int → Option (Bool)
 | 0, _, _, _ => none
 | k + 1, x0, x1, x5 => if x5 < (x0.length : Int) then (if 0 ≤ x5 then (if x5 < (x1.length : Int) then ((laws_eqHeld.f ((Qd x0 x5).f0) ((Qd x0 x5).f1) ((Qd x0 x5).f2.f0) ((Qd x0 x5).f2.f1) ((Qd x0 x5).f2.f2) ((Qd x0 x5).f2.f3) ((Qd x0 x5).f2.f4) ((Qd x0 x5).f2.f5) ((Qd x0 x5).f2.f6) ((Qd x1 x5).f0) ((Qd x1 x5).f1) ((Qd x1 x5).f2.f0) ((Qd x1 x5).f2.f1) ((Qd x1 x5).f2.f2) ((Qd x1 x5).f2.f3) ((Qd x1 x5).f2.f4) ((Qd x1 x5).f2.f5) ((Qd x1 x5).f2.f6)).bind fun t190 => (if t190 = true then (laws_eqHeldS.l0 k x0 x1 (wrap64 (x5 + 1))) else (some false))) else (none)) else (none)) else (some true)
def laws_eqHeldS.f (k : Nat) (l0 : List (S73)) (l1 : List (S73)) : Option (Bool) := if (l0.length : Int) = (l1.length : Int) then (laws_eqHeldS.l0 k l0 l1 0) else (some false)
theorem laws_eqHeldS.mono_l : ∀ k, (∀ y0 y1 y2, LeO (laws_eqHeldS.l0 k y0 y1 y2) (laws_eqHeldS.l0 (k + 1) y0 y1 y2))
 | 0 => fun _ _ _ r h => by simp [laws_eqHeldS.l0] at h
 | k + 1 => by
  have ih0 := laws_eqHeldS.mono_l k
  ·intro y0 y1 y2
   unfold laws_eqHeldS.l0
   repeat' first
   | (with_reducible exact ih0 _ _ _)
   | (with_reducible exact LeO.refl _)
   | (with_reducible exact LeO.none _)
   | (with_reducible refine LeO.ite ?_ ?_)
   | (with_reducible refine LeO.bind ?_ (fun _ => ?_))
   | exact ih0 _ _ _
   | exact LeO.none _
   | refine LeO.ite ?_ ?_
   | refine LeO.bind ?_ (fun _ => ?_)
theorem laws_eqHeldS.mono : ∀ a0 a1 k, LeO (laws_eqHeldS.f k a0 a1) (laws_eqHeldS.f (k + 1) a0 a1) := by
 intro a0 a1 k
 have ih0 := laws_eqHeldS.mono_l k
 unfold laws_eqHeldS.f
 repeat' first
   | (with_reducible exact ih0 _ _ _)
   | (with_reducible exact LeO.refl _)
   | (with_reducible exact LeO.none _)
   | (with_reducible refine LeO.ite ?_ ?_)
   | (with_reducible refine LeO.bind ?_ (fun _ => ?_))
   | exact ih0 _ _ _
   | exact LeO.none _
   | refine LeO.ite ?_ ?_
   | refine LeO.bind ?_ (fun _ => ?_)
def laws_eqHeldS.T6 : Bool × List (List Nat × List Nat) := (true, [([], []), ([], []), ([0, 1], [0, 1]), ([2], [2]), ([], []), ([], []), ([4, 5], [4, 5]), ([6], [6]), ([3, 7], [3, 7]), ([8], [8])])
def laws_eqHeldS.B6 : List Nat := [0, 0, 3, 7, 0, 0, 48, 112, 255, 511]
theorem laws_eqHeldS.tab6 : rtab .any (opsOf Try.f18 6) = laws_eqHeldS.T6 := by kernel_rfl
theorem laws_eqHeldS.bits6 : waitsOk laws_eqHeldS.T6.2 laws_eqHeldS.B6 = true := by kernel_rfl
set_option maxHeartbeats 8000000 in
set_option maxRecDepth 100000 in
theorem laws_eqHeldS.calls (k : Nat) (A0 : Option Addr) (c0 : Nat) (l0 : List (S73)) (A1 : Option Addr) (c1 : Nat) (l1 : List (S73)) (r : Bool) (w : World) (hr0 : Kd.C k73 w A0 l0.length l0) (hc0 : l0.length ≤ c0) (hr1 : Kd.C k73 w A1 l1.length l1) (hc1 : l1.length ≤ c1) (h : laws_eqHeldS.f k l0 l1 = some r) :
  Calls Try.prog 18 #[.slice A0 l0.length c0, .slice A1 l1.length c1] w fun e w' => e = .returned (.bool r) ∧ Below w.heap.size w w' := by
 have hu73 := Try.underlying73
 have HR0 := Aside0.mk hr0
 have HC0 := Aside0.mk hc0
 clear hr0 hc0
 have HR1 := Aside0.mk hr1
 have HC1 := Aside0.mk hc1
 clear hr1 hc1
 have HB := Aside0.mk (Below.refl w.heap.size w)
 have H : (if (l0.length : Int) = (l1.length : Int) then (laws_eqHeldS.l0 k l0 l1 0) else (some false)) = some r := h
 clear h
 by_cases c3 : (l0.length : Int) = (l1.length : Int)
 ·rw [if_pos c3] at H
  have c3b0 : ((l0.length : Int) == (l1.length : Int)) = true := beq_iff_eq.mpr c3
  have c3b1 : ((l0.length : Int) != (l1.length : Int)) = false := bne_eq_false_iff_eq.mpr c3
  have c3b2 : (l0.length == l1.length) = true := by first | simpa using c3 | (simp at c3 ⊢; omega)
  clear c3
  have H' := Aside0.mk H
  clear H
  go_enter Try.func18, Try.ntmps18
  go_wp2
  go_loopg [5] k (fun kq v5 w' => ∃ (x5_1 : Int), v5 = .int .i64 x5_1 ∧ Aside0 (laws_eqHeldS.l0 kq l0 l1 x5_1 = some r) ∧ Aside0 (kq ≤ k) ∧ Aside0 (Below w.heap.size w w'))
  case atStart => exact ⟨(0), (by first | rfl | (simp; done) | (simp [*]; done)), H', ⟨Nat.le_refl _⟩, ⟨by repeat (first | (with_reducible first | exact HB.out | apply Qe | apply Qb | apply Qf) | exact HB.out)⟩⟩
  case round =>
   clear H'
   try clear c1
   try clear p2
   try clear c3
   try clear c3b0
   try clear c3b1
   try clear c3b2
   obtain ⟨x5_1, rfl, HA, HK1, HB⟩ := hrel
   cases gk with
   | zero => exact absurd HA.out (by simp [laws_eqHeldS.l0])
   | succ k1 =>
    have H := HA.out
    clear HA
    simp only [laws_eqHeldS.l0] at H
    by_cases c4 : x5_1 < (l0.length : Int)
    ·rw [if_pos c4] at H
     have c4b0 : decide (x5_1 < (l0.length : Int)) = true := decide_eq_true c4
     clear c4
     by_cases c5 : 0 ≤ x5_1
     ·rw [if_pos c5] at H
      have c5b0 : decide (0 ≤ x5_1) = true := decide_eq_true c5
      clear c5
      by_cases c6 : x5_1 < (l1.length : Int)
      ·rw [if_pos c6] at H
       have c6b0 : decide (x5_1 < (l1.length : Int)) = true := decide_eq_true c6
       clear c6
       replace H := Option.bind_eq_some_iff.mp H
       obtain ⟨t190, A70, H⟩ := H
       replace H : (if t190 = true then (laws_eqHeldS.l0 k1 l0 l1 (wrap64 (x5_1 + 1))) else (some false)) = some r := H
       have A7 := Aside0.mk A70
       clear A70
       by_cases c8 : t190 = true
       ·subst c8
        have H1 : (laws_eqHeldS.l0 k1 l0 l1 (wrap64 (x5_1 + 1))) = some r := by rw [if_pos rfl] at H; exact H
        clear H
        have H := H1
        clear H1
        have H' := Aside0.mk H
        clear H
        try go_wp2
        have n0_ := Aside0.mk (Qf HB.out)
        clear HB
        have HB := n0_
        clear n0_
        have p188 : 0 ≤ (x5_1 : Int) := of_decide_eq_true (by assumption)
        have q188 : x5_1 < (l0.length : Int) := of_decide_eq_true (by assumption)
        obtain ⟨ad188, e188, hx188_0, hx188_1, hx188_2, hx188_3, hx188_4, hx188_5, hx188_6, hx188_7, hx188_8⟩ := Qw HR0.out x5_1 p188 q188
        have hw188_8 := hx188_8
        have hw188_7 := hx188_7
        have hw188_6 := hx188_6
        have hw188_5 := hx188_5
        have hw188_4 := hx188_4
        have hw188_3 := hx188_3
        have hw188_2 := hx188_2
        have hw188_1 := hx188_1
        have hw188_0 := hx188_0
        cases e188
        replace hx188_0 := (HB.out.cell (World.block_lt_of_cell? w _ hx188_0)).trans hx188_0
        replace hx188_1 := (HB.out.cell (World.block_lt_of_cell? w _ hx188_1)).trans hx188_1
        replace hx188_2 := (HB.out.cell (World.block_lt_of_cell? w _ hx188_2)).trans hx188_2
        replace hx188_3 := (HB.out.cell (World.block_lt_of_cell? w _ hx188_3)).trans hx188_3
        replace hx188_4 := (HB.out.cell (World.block_lt_of_cell? w _ hx188_4)).trans hx188_4
        replace hx188_5 := (HB.out.cell (World.block_lt_of_cell? w _ hx188_5)).trans hx188_5
        replace hx188_6 := (HB.out.cell (World.block_lt_of_cell? w _ hx188_6)).trans hx188_6
        replace hx188_7 := (HB.out.cell (World.block_lt_of_cell? w _ hx188_7)).trans hx188_7
        replace hx188_8 := (HB.out.cell (World.block_lt_of_cell? w _ hx188_8)).trans hx188_8
        replace p188 := eq_true p188
        replace q188 := eq_true q188
        have p189 : 0 ≤ (x5_1 : Int) := of_decide_eq_true (by assumption)
        have q189 : x5_1 < (l1.length : Int) := of_decide_eq_true (by assumption)
        obtain ⟨ad189, e189, hx189_0, hx189_1, hx189_2, hx189_3, hx189_4, hx189_5, hx189_6, hx189_7, hx189_8⟩ := Qw HR1.out x5_1 p189 q189
        have hw189_8 := hx189_8
        have hw189_7 := hx189_7
        have hw189_6 := hx189_6
        have hw189_5 := hx189_5
        have hw189_4 := hx189_4
        have hw189_3 := hx189_3
        have hw189_2 := hx189_2
        have hw189_1 := hx189_1
        have hw189_0 := hx189_0
        cases e189
        replace hx189_0 := (HB.out.cell (World.block_lt_of_cell? w _ hx189_0)).trans hx189_0
        replace hx189_1 := (HB.out.cell (World.block_lt_of_cell? w _ hx189_1)).trans hx189_1
        replace hx189_2 := (HB.out.cell (World.block_lt_of_cell? w _ hx189_2)).trans hx189_2
        replace hx189_3 := (HB.out.cell (World.block_lt_of_cell? w _ hx189_3)).trans hx189_3
        replace hx189_4 := (HB.out.cell (World.block_lt_of_cell? w _ hx189_4)).trans hx189_4
        replace hx189_5 := (HB.out.cell (World.block_lt_of_cell? w _ hx189_5)).trans hx189_5
        replace hx189_6 := (HB.out.cell (World.block_lt_of_cell? w _ hx189_6)).trans hx189_6
        replace hx189_7 := (HB.out.cell (World.block_lt_of_cell? w _ hx189_7)).trans hx189_7
        replace hx189_8 := (HB.out.cell (World.block_lt_of_cell? w _ hx189_8)).trans hx189_8
        replace p189 := eq_true p189
        replace q189 := eq_true q189
        refine start_ (n := 10) (S := fun w' => w'.cell? (ad188.add ((x5_1).toNat * 9)) = some (.int .i64 ((Qd l0 x5_1).f0)) ∧ w'.cell? ⟨(ad188.add ((x5_1).toNat * 9)).block, (ad188.add ((x5_1).toNat * 9)).off + 1, none⟩ = some (.bool ((Qd l0 x5_1).f1)) ∧ w'.cell? ⟨(ad188.add ((x5_1).toNat * 9)).block, (ad188.add ((x5_1).toNat * 9)).off + 2, none⟩ = some (.int .i64 ((Qd l0 x5_1).f2.f0)) ∧ w'.cell? ⟨(ad188.add ((x5_1).toNat * 9)).block, (ad188.add ((x5_1).toNat * 9)).off + 3, none⟩ = some (.int .i64 ((Qd l0 x5_1).f2.f1)) ∧ w'.cell? ⟨(ad188.add ((x5_1).toNat * 9)).block, (ad188.add ((x5_1).toNat * 9)).off + 4, none⟩ = some (.int .i64 ((Qd l0 x5_1).f2.f2)) ∧ w'.cell? ⟨(ad188.add ((x5_1).toNat * 9)).block, (ad188.add ((x5_1).toNat * 9)).off + 5, none⟩ = some (.int .i64 ((Qd l0 x5_1).f2.f3)) ∧ w'.cell? ⟨(ad188.add ((x5_1).toNat * 9)).block, (ad188.add ((x5_1).toNat * 9)).off + 6, none⟩ = some (.int .i64 ((Qd l0 x5_1).f2.f4)) ∧ w'.cell? ⟨(ad188.add ((x5_1).toNat * 9)).block, (ad188.add ((x5_1).toNat * 9)).off + 7, none⟩ = some (.int .i64 ((Qd l0 x5_1).f2.f5)) ∧ w'.cell? ⟨(ad188.add ((x5_1).toNat * 9)).block, (ad188.add ((x5_1).toNat * 9)).off + 8, none⟩ = some (.bool ((Qd l0 x5_1).f2.f6)) ∧ w'.cell? (ad189.add ((x5_1).toNat * 9)) = some (.int .i64 ((Qd l1 x5_1).f0)) ∧ w'.cell? ⟨(ad189.add ((x5_1).toNat * 9)).block, (ad189.add ((x5_1).toNat * 9)).off + 1, none⟩ = some (.bool ((Qd l1 x5_1).f1)) ∧ w'.cell? ⟨(ad189.add ((x5_1).toNat * 9)).block, (ad189.add ((x5_1).toNat * 9)).off + 2, none⟩ = some (.int .i64 ((Qd l1 x5_1).f2.f0)) ∧ w'.cell? ⟨(ad189.add ((x5_1).toNat * 9)).block, (ad189.add ((x5_1).toNat * 9)).off + 3, none⟩ = some (.int .i64 ((Qd l1 x5_1).f2.f1)) ∧ w'.cell? ⟨(ad189.add ((x5_1).toNat * 9)).block, (ad189.add ((x5_1).toNat * 9)).off + 4, none⟩ = some (.int .i64 ((Qd l1 x5_1).f2.f2)) ∧ w'.cell? ⟨(ad189.add ((x5_1).toNat * 9)).block, (ad189.add ((x5_1).toNat * 9)).off + 5, none⟩ = some (.int .i64 ((Qd l1 x5_1).f2.f3)) ∧ w'.cell? ⟨(ad189.add ((x5_1).toNat * 9)).block, (ad189.add ((x5_1).toNat * 9)).off + 6, none⟩ = some (.int .i64 ((Qd l1 x5_1).f2.f4)) ∧ w'.cell? ⟨(ad189.add ((x5_1).toNat * 9)).block, (ad189.add ((x5_1).toNat * 9)).off + 7, none⟩ = some (.int .i64 ((Qd l1 x5_1).f2.f5)) ∧ w'.cell? ⟨(ad189.add ((x5_1).toNat * 9)).block, (ad189.add ((x5_1).toNat * 9)).off + 8, none⟩ = some (.bool ((Qd l1 x5_1).f2.f6))) (ds := []) #[false, false, false, false, false, false, false, false, false, false] (by kernel_rfl) rfl rfl ⟨((HB.out.cell (World.block_lt_of_cell? w _ hw188_0)).trans hw188_0), ((HB.out.cell (World.block_lt_of_cell? w _ hw188_1)).trans hw188_1), ((HB.out.cell (World.block_lt_of_cell? w _ hw188_2)).trans hw188_2), ((HB.out.cell (World.block_lt_of_cell? w _ hw188_3)).trans hw188_3), ((HB.out.cell (World.block_lt_of_cell? w _ hw188_4)).trans hw188_4), ((HB.out.cell (World.block_lt_of_cell? w _ hw188_5)).trans hw188_5), ((HB.out.cell (World.block_lt_of_cell? w _ hw188_6)).trans hw188_6), ((HB.out.cell (World.block_lt_of_cell? w _ hw188_7)).trans hw188_7), ((HB.out.cell (World.block_lt_of_cell? w _ hw188_8)).trans hw188_8), ((HB.out.cell (World.block_lt_of_cell? w _ hw189_0)).trans hw189_0), ((HB.out.cell (World.block_lt_of_cell? w _ hw189_1)).trans hw189_1), ((HB.out.cell (World.block_lt_of_cell? w _ hw189_2)).trans hw189_2), ((HB.out.cell (World.block_lt_of_cell? w _ hw189_3)).trans hw189_3), ((HB.out.cell (World.block_lt_of_cell? w _ hw189_4)).trans hw189_4), ((HB.out.cell (World.block_lt_of_cell? w _ hw189_5)).trans hw189_5), ((HB.out.cell (World.block_lt_of_cell? w _ hw189_6)).trans hw189_6), ((HB.out.cell (World.block_lt_of_cell? w _ hw189_7)).trans hw189_7), ((HB.out.cell (World.block_lt_of_cell? w _ hw189_8)).trans hw189_8)⟩ (fun hHeld => ?_); refine with_tabW laws_eqHeldS.tab6 laws_eqHeldS.bits6 (fun HT_ HW_ => ?_)
        generalize wr.drew = w9 at HB hx188_0 hx188_1 hx188_2 hx188_3 hx188_4 hx188_5 hx188_6 hx188_7 hx188_8 hx189_0 hx189_1 hx189_2 hx189_3 hx189_4 hx189_5 hx189_6 hx189_7 hx189_8 hHeld ⊢
        refine Q1 (i := 0) (N := some 17) (v := ?_) (a' := ?_) #[true, false, false, false, false, false, false, false, false, false] rfl rfl (Q0 HT_.out (by kernel_rfl)) (fun _ _ _ h => h) (Or.inl ⟨by rfl, ?_⟩) ?_ ?_
        rotate_left
        ·intro w'
         go_simp
         with_reducible rfl
        rotate_left
        ·simp only [Act.put, List.setIfInBounds_toArray, List.set_cons_zero, List.set_cons_succ, Qu, Qv]
         rfl
        refine Q1 (i := 1) (N := some 18) (v := ?_) (a' := ?_) #[true, true, false, false, false, false, false, false, false, false] rfl rfl (Q0 HT_.out (by kernel_rfl)) (fun _ _ _ h => h) (Or.inl ⟨by rfl, ?_⟩) ?_ ?_
        rotate_left
        ·intro w'
         go_simp
         with_reducible rfl
        rotate_left
        ·simp only [Act.put, List.setIfInBounds_toArray, List.set_cons_zero, List.set_cons_succ, Qu, Qv]
         rfl
        refine Q1 (i := 2) (N := some 19) (v := ?_) (a' := ?_) #[true, true, true, false, false, false, false, false, false, false] rfl rfl (Q0 HT_.out (by kernel_rfl)) (fun _ _ _ h => h) (Or.inl ⟨by rfl, ?_⟩) ?_ ?_
        rotate_left
        ·intro w'
         go_simp
         with_reducible rfl
        rotate_left
        ·simp only [Act.put, List.setIfInBounds_toArray, List.set_cons_zero, List.set_cons_succ, Qu, Qv]
         rfl
        refine Q1 (i := 4) (N := some 21) (v := ?_) (a' := ?_) #[true, true, true, false, true, false, false, false, false, false] rfl rfl (Q0 HT_.out (by kernel_rfl)) (fun _ _ _ h => h) (Or.inl ⟨by rfl, ?_⟩) ?_ ?_
        rotate_left
        ·intro w'
         go_simp
         with_reducible rfl
        rotate_left
        ·simp only [Act.put, List.setIfInBounds_toArray, List.set_cons_zero, List.set_cons_succ, Qu, Qv]
         rfl
        refine Q1 (i := 5) (N := some 22) (v := ?_) (a' := ?_) #[true, true, true, false, true, true, false, false, false, false] rfl rfl (Q0 HT_.out (by kernel_rfl)) (fun _ _ _ h => h) (Or.inl ⟨by rfl, ?_⟩) ?_ ?_
        rotate_left
        ·intro w'
         go_simp
         with_reducible rfl
        rotate_left
        ·simp only [Act.put, List.setIfInBounds_toArray, List.set_cons_zero, List.set_cons_succ, Qu, Qv]
         rfl
        refine Q1 (i := 6) (N := some 23) (v := ?_) (a' := ?_) #[true, true, true, false, true, true, true, false, false, false] rfl rfl (Q0 HT_.out (by kernel_rfl)) (fun _ _ _ h => h) (Or.inl ⟨by rfl, ?_⟩) ?_ ?_
        rotate_left
        ·intro w'
         go_simp
         with_reducible rfl
        rotate_left
        ·simp only [Act.put, List.setIfInBounds_toArray, List.set_cons_zero, List.set_cons_succ, Qu, Qv]
         rfl
        refine take_ (i := 3) (N := some 20) (v := ?_) (a' := ?_) #[true, true, true, true, true, true, true, false, false, false] rfl rfl (take_ofW HT_.out HW_.out (by kernel_rfl)) (fun _ _ _ h => h) (Or.inl ⟨by rfl, ?_⟩) hHeld ?_ ?_
        rotate_left
        ·rintro w' ⟨s0, s1, s2, s3, s4, s5, s6, s7, s8, s9, s10, s11, s12, s13, s14, s15, s16, s17⟩
         go_simp
         with_reducible rfl
        rotate_left
        ·simp only [Act.put, List.setIfInBounds_toArray, List.set_cons_zero, List.set_cons_succ, Qu, Qv]
         rfl
        refine take_ (i := 7) (N := some 24) (v := ?_) (a' := ?_) #[true, true, true, true, true, true, true, true, false, false] rfl rfl (take_ofW HT_.out HW_.out (by kernel_rfl)) (fun _ _ _ h => h) (Or.inl ⟨by rfl, ?_⟩) hHeld ?_ ?_
        rotate_left
        ·rintro w' ⟨s0, s1, s2, s3, s4, s5, s6, s7, s8, s9, s10, s11, s12, s13, s14, s15, s16, s17⟩
         go_simp
         with_reducible rfl
        rotate_left
        ·simp only [Act.put, List.setIfInBounds_toArray, List.set_cons_zero, List.set_cons_succ, Qu, Qv]
         rfl
        refine one_ (i := 8) (N := some 25) #[true, true, true, true, true, true, true, true, true, false] rfl rfl (one_of HT_.out (by kernel_rfl)) (by decide) (fun K hK => ?_)
        refine goes_ Try.func60 (by kernel_rfl) rfl #[.agg #[.int .i64 ((Qd l0 x5_1).f0), .bool ((Qd l0 x5_1).f1), .int .i64 ((Qd l0 x5_1).f2.f0), .int .i64 ((Qd l0 x5_1).f2.f1), .int .i64 ((Qd l0 x5_1).f2.f2), .int .i64 ((Qd l0 x5_1).f2.f3), .int .i64 ((Qd l0 x5_1).f2.f4), .int .i64 ((Qd l0 x5_1).f2.f5), .bool ((Qd l0 x5_1).f2.f6)], .agg #[.int .i64 ((Qd l1 x5_1).f0), .bool ((Qd l1 x5_1).f1), .int .i64 ((Qd l1 x5_1).f2.f0), .int .i64 ((Qd l1 x5_1).f2.f1), .int .i64 ((Qd l1 x5_1).f2.f2), .int .i64 ((Qd l1 x5_1).f2.f3), .int .i64 ((Qd l1 x5_1).f2.f4), .int .i64 ((Qd l1 x5_1).f2.f5), .bool ((Qd l1 x5_1).f2.f6)]] (by rfl) rfl rfl (by (try simp only [List.map_toArray, List.map_cons, List.map_nil]); first | done | rfl | (simp only [List.length_drop, List.length_take]; rfl)) ?_
        with_reducible refine (laws_eqHeld.calls ((Qd l0 x5_1).f0) ((Qd l0 x5_1).f1) ((Qd l0 x5_1).f2.f0) ((Qd l0 x5_1).f2.f1) ((Qd l0 x5_1).f2.f2) ((Qd l0 x5_1).f2.f3) ((Qd l0 x5_1).f2.f4) ((Qd l0 x5_1).f2.f5) ((Qd l0 x5_1).f2.f6) ((Qd l1 x5_1).f0) ((Qd l1 x5_1).f1) ((Qd l1 x5_1).f2.f0) ((Qd l1 x5_1).f2.f1) ((Qd l1 x5_1).f2.f2) ((Qd l1 x5_1).f2.f3) ((Qd l1 x5_1).f2.f4) ((Qd l1 x5_1).f2.f5) ((Qd l1 x5_1).f2.f6) true _ A7.out).mono ?_
        rintro e w10 ⟨rfl, hb⟩
        refine ⟨_, rfl, ?_⟩
        have n0_ := Aside0.mk (Ql (by repeat (first | (with_reducible first | exact HB.out | apply Qe | apply Qb | apply Qf) | exact HB.out)) hb)
        clear HB
        have HB := n0_
        clear n0_
        (try clear hb)
        (try clear hb2)
        (try clear hk)
        (try clear hi)
        refine hK.out _ _ ⟨((HB.out.cell (World.block_lt_of_cell? w _ hw188_0)).trans hw188_0), ((HB.out.cell (World.block_lt_of_cell? w _ hw188_1)).trans hw188_1), ((HB.out.cell (World.block_lt_of_cell? w _ hw188_2)).trans hw188_2), ((HB.out.cell (World.block_lt_of_cell? w _ hw188_3)).trans hw188_3), ((HB.out.cell (World.block_lt_of_cell? w _ hw188_4)).trans hw188_4), ((HB.out.cell (World.block_lt_of_cell? w _ hw188_5)).trans hw188_5), ((HB.out.cell (World.block_lt_of_cell? w _ hw188_6)).trans hw188_6), ((HB.out.cell (World.block_lt_of_cell? w _ hw188_7)).trans hw188_7), ((HB.out.cell (World.block_lt_of_cell? w _ hw188_8)).trans hw188_8), ((HB.out.cell (World.block_lt_of_cell? w _ hw189_0)).trans hw189_0), ((HB.out.cell (World.block_lt_of_cell? w _ hw189_1)).trans hw189_1), ((HB.out.cell (World.block_lt_of_cell? w _ hw189_2)).trans hw189_2), ((HB.out.cell (World.block_lt_of_cell? w _ hw189_3)).trans hw189_3), ((HB.out.cell (World.block_lt_of_cell? w _ hw189_4)).trans hw189_4), ((HB.out.cell (World.block_lt_of_cell? w _ hw189_5)).trans hw189_5), ((HB.out.cell (World.block_lt_of_cell? w _ hw189_6)).trans hw189_6), ((HB.out.cell (World.block_lt_of_cell? w _ hw189_7)).trans hw189_7), ((HB.out.cell (World.block_lt_of_cell? w _ hw189_8)).trans hw189_8)⟩ (fun hHeld => ?_)
        clear hK K
        refine norm_ (a' := ?_) ?_ ?_
        rotate_left
        ·show Act.put _ (some 25) _ = _
         simp only [Act.put, List.setIfInBounds_toArray, List.set_cons_zero, List.set_cons_succ, Qu, Qv]
         rfl
        refine Q1 (i := 9) (N := some 26) (v := ?_) (a' := ?_) #[true, true, true, true, true, true, true, true, true, true] rfl rfl (Q0 HT_.out (by kernel_rfl)) (fun _ _ _ h => h) (Or.inl ⟨by rfl, ?_⟩) ?_ ?_
        rotate_left
        ·intro w'
         go_simp
         with_reducible rfl
        rotate_left
        ·simp only [Act.put, List.setIfInBounds_toArray, List.set_cons_zero, List.set_cons_succ, Qu, Qv]
         rfl
        refine done_ (done_of HT_.out (by kernel_rfl)) ?_
        try go_wp2
        go_roundg k1
        case measure => have := HK1.out; omega
        case rel => exact ⟨(wrap64 (x5_1 + 1)), (by first | rfl | (simp; done) | (simp [*]; done)), H', ⟨by have := HK1.out; omega⟩, ⟨by repeat (first | (with_reducible first | exact HB.out | apply Qe | apply Qb | apply Qf) | exact HB.out)⟩⟩
       ·replace c8 := Bool.eq_false_iff.mpr c8
        subst c8
        have H1 : (some false) = some r := by rw [if_neg (show ¬ (false = true) by decide)] at H; exact H
        clear H
        have H := H1
        clear H1
        obtain rfl := Option.some.inj H
        try go_wp2
        have n0_ := Aside0.mk (Qf HB.out)
        clear HB
        have HB := n0_
        clear n0_
        have p188 : 0 ≤ (x5_1 : Int) := of_decide_eq_true (by assumption)
        have q188 : x5_1 < (l0.length : Int) := of_decide_eq_true (by assumption)
        obtain ⟨ad188, e188, hx188_0, hx188_1, hx188_2, hx188_3, hx188_4, hx188_5, hx188_6, hx188_7, hx188_8⟩ := Qw HR0.out x5_1 p188 q188
        have hw188_8 := hx188_8
        have hw188_7 := hx188_7
        have hw188_6 := hx188_6
        have hw188_5 := hx188_5
        have hw188_4 := hx188_4
        have hw188_3 := hx188_3
        have hw188_2 := hx188_2
        have hw188_1 := hx188_1
        have hw188_0 := hx188_0
        cases e188
        replace hx188_0 := (HB.out.cell (World.block_lt_of_cell? w _ hx188_0)).trans hx188_0
        replace hx188_1 := (HB.out.cell (World.block_lt_of_cell? w _ hx188_1)).trans hx188_1
        replace hx188_2 := (HB.out.cell (World.block_lt_of_cell? w _ hx188_2)).trans hx188_2
        replace hx188_3 := (HB.out.cell (World.block_lt_of_cell? w _ hx188_3)).trans hx188_3
        replace hx188_4 := (HB.out.cell (World.block_lt_of_cell? w _ hx188_4)).trans hx188_4
        replace hx188_5 := (HB.out.cell (World.block_lt_of_cell? w _ hx188_5)).trans hx188_5
        replace hx188_6 := (HB.out.cell (World.block_lt_of_cell? w _ hx188_6)).trans hx188_6
        replace hx188_7 := (HB.out.cell (World.block_lt_of_cell? w _ hx188_7)).trans hx188_7
        replace hx188_8 := (HB.out.cell (World.block_lt_of_cell? w _ hx188_8)).trans hx188_8
        replace p188 := eq_true p188
        replace q188 := eq_true q188
        have p189 : 0 ≤ (x5_1 : Int) := of_decide_eq_true (by assumption)
        have q189 : x5_1 < (l1.length : Int) := of_decide_eq_true (by assumption)
        obtain ⟨ad189, e189, hx189_0, hx189_1, hx189_2, hx189_3, hx189_4, hx189_5, hx189_6, hx189_7, hx189_8⟩ := Qw HR1.out x5_1 p189 q189
        have hw189_8 := hx189_8
        have hw189_7 := hx189_7
        have hw189_6 := hx189_6
        have hw189_5 := hx189_5
        have hw189_4 := hx189_4
        have hw189_3 := hx189_3
        have hw189_2 := hx189_2
        have hw189_1 := hx189_1
        have hw189_0 := hx189_0
        cases e189
        replace hx189_0 := (HB.out.cell (World.block_lt_of_cell? w _ hx189_0)).trans hx189_0
        replace hx189_1 := (HB.out.cell (World.block_lt_of_cell? w _ hx189_1)).trans hx189_1
        replace hx189_2 := (HB.out.cell (World.block_lt_of_cell? w _ hx189_2)).trans hx189_2
        replace hx189_3 := (HB.out.cell (World.block_lt_of_cell? w _ hx189_3)).trans hx189_3
        replace hx189_4 := (HB.out.cell (World.block_lt_of_cell? w _ hx189_4)).trans hx189_4
        replace hx189_5 := (HB.out.cell (World.block_lt_of_cell? w _ hx189_5)).trans hx189_5
        replace hx189_6 := (HB.out.cell (World.block_lt_of_cell? w _ hx189_6)).trans hx189_6
        replace hx189_7 := (HB.out.cell (World.block_lt_of_cell? w _ hx189_7)).trans hx189_7
        replace hx189_8 := (HB.out.cell (World.block_lt_of_cell? w _ hx189_8)).trans hx189_8
        replace p189 := eq_true p189
        replace q189 := eq_true q189
        refine start_ (n := 10) (S := fun w' => w'.cell? (ad188.add ((x5_1).toNat * 9)) = some (.int .i64 ((Qd l0 x5_1).f0)) ∧ w'.cell? ⟨(ad188.add ((x5_1).toNat * 9)).block, (ad188.add ((x5_1).toNat * 9)).off + 1, none⟩ = some (.bool ((Qd l0 x5_1).f1)) ∧ w'.cell? ⟨(ad188.add ((x5_1).toNat * 9)).block, (ad188.add ((x5_1).toNat * 9)).off + 2, none⟩ = some (.int .i64 ((Qd l0 x5_1).f2.f0)) ∧ w'.cell? ⟨(ad188.add ((x5_1).toNat * 9)).block, (ad188.add ((x5_1).toNat * 9)).off + 3, none⟩ = some (.int .i64 ((Qd l0 x5_1).f2.f1)) ∧ w'.cell? ⟨(ad188.add ((x5_1).toNat * 9)).block, (ad188.add ((x5_1).toNat * 9)).off + 4, none⟩ = some (.int .i64 ((Qd l0 x5_1).f2.f2)) ∧ w'.cell? ⟨(ad188.add ((x5_1).toNat * 9)).block, (ad188.add ((x5_1).toNat * 9)).off + 5, none⟩ = some (.int .i64 ((Qd l0 x5_1).f2.f3)) ∧ w'.cell? ⟨(ad188.add ((x5_1).toNat * 9)).block, (ad188.add ((x5_1).toNat * 9)).off + 6, none⟩ = some (.int .i64 ((Qd l0 x5_1).f2.f4)) ∧ w'.cell? ⟨(ad188.add ((x5_1).toNat * 9)).block, (ad188.add ((x5_1).toNat * 9)).off + 7, none⟩ = some (.int .i64 ((Qd l0 x5_1).f2.f5)) ∧ w'.cell? ⟨(ad188.add ((x5_1).toNat * 9)).block, (ad188.add ((x5_1).toNat * 9)).off + 8, none⟩ = some (.bool ((Qd l0 x5_1).f2.f6)) ∧ w'.cell? (ad189.add ((x5_1).toNat * 9)) = some (.int .i64 ((Qd l1 x5_1).f0)) ∧ w'.cell? ⟨(ad189.add ((x5_1).toNat * 9)).block, (ad189.add ((x5_1).toNat * 9)).off + 1, none⟩ = some (.bool ((Qd l1 x5_1).f1)) ∧ w'.cell? ⟨(ad189.add ((x5_1).toNat * 9)).block, (ad189.add ((x5_1).toNat * 9)).off + 2, none⟩ = some (.int .i64 ((Qd l1 x5_1).f2.f0)) ∧ w'.cell? ⟨(ad189.add ((x5_1).toNat * 9)).block, (ad189.add ((x5_1).toNat * 9)).off + 3, none⟩ = some (.int .i64 ((Qd l1 x5_1).f2.f1)) ∧ w'.cell? ⟨(ad189.add ((x5_1).toNat * 9)).block, (ad189.add ((x5_1).toNat * 9)).off + 4, none⟩ = some (.int .i64 ((Qd l1 x5_1).f2.f2)) ∧ w'.cell? ⟨(ad189.add ((x5_1).toNat * 9)).block, (ad189.add ((x5_1).toNat * 9)).off + 5, none⟩ = some (.int .i64 ((Qd l1 x5_1).f2.f3)) ∧ w'.cell? ⟨(ad189.add ((x5_1).toNat * 9)).block, (ad189.add ((x5_1).toNat * 9)).off + 6, none⟩ = some (.int .i64 ((Qd l1 x5_1).f2.f4)) ∧ w'.cell? ⟨(ad189.add ((x5_1).toNat * 9)).block, (ad189.add ((x5_1).toNat * 9)).off + 7, none⟩ = some (.int .i64 ((Qd l1 x5_1).f2.f5)) ∧ w'.cell? ⟨(ad189.add ((x5_1).toNat * 9)).block, (ad189.add ((x5_1).toNat * 9)).off + 8, none⟩ = some (.bool ((Qd l1 x5_1).f2.f6))) (ds := []) #[false, false, false, false, false, false, false, false, false, false] (by kernel_rfl) rfl rfl ⟨((HB.out.cell (World.block_lt_of_cell? w _ hw188_0)).trans hw188_0), ((HB.out.cell (World.block_lt_of_cell? w _ hw188_1)).trans hw188_1), ((HB.out.cell (World.block_lt_of_cell? w _ hw188_2)).trans hw188_2), ((HB.out.cell (World.block_lt_of_cell? w _ hw188_3)).trans hw188_3), ((HB.out.cell (World.block_lt_of_cell? w _ hw188_4)).trans hw188_4), ((HB.out.cell (World.block_lt_of_cell? w _ hw188_5)).trans hw188_5), ((HB.out.cell (World.block_lt_of_cell? w _ hw188_6)).trans hw188_6), ((HB.out.cell (World.block_lt_of_cell? w _ hw188_7)).trans hw188_7), ((HB.out.cell (World.block_lt_of_cell? w _ hw188_8)).trans hw188_8), ((HB.out.cell (World.block_lt_of_cell? w _ hw189_0)).trans hw189_0), ((HB.out.cell (World.block_lt_of_cell? w _ hw189_1)).trans hw189_1), ((HB.out.cell (World.block_lt_of_cell? w _ hw189_2)).trans hw189_2), ((HB.out.cell (World.block_lt_of_cell? w _ hw189_3)).trans hw189_3), ((HB.out.cell (World.block_lt_of_cell? w _ hw189_4)).trans hw189_4), ((HB.out.cell (World.block_lt_of_cell? w _ hw189_5)).trans hw189_5), ((HB.out.cell (World.block_lt_of_cell? w _ hw189_6)).trans hw189_6), ((HB.out.cell (World.block_lt_of_cell? w _ hw189_7)).trans hw189_7), ((HB.out.cell (World.block_lt_of_cell? w _ hw189_8)).trans hw189_8)⟩ (fun hHeld => ?_); refine with_tabW laws_eqHeldS.tab6 laws_eqHeldS.bits6 (fun HT_ HW_ => ?_)
        generalize wr.drew = w11 at HB hx188_0 hx188_1 hx188_2 hx188_3 hx188_4 hx188_5 hx188_6 hx188_7 hx188_8 hx189_0 hx189_1 hx189_2 hx189_3 hx189_4 hx189_5 hx189_6 hx189_7 hx189_8 hHeld ⊢
        refine Q1 (i := 0) (N := some 17) (v := ?_) (a' := ?_) #[true, false, false, false, false, false, false, false, false, false] rfl rfl (Q0 HT_.out (by kernel_rfl)) (fun _ _ _ h => h) (Or.inl ⟨by rfl, ?_⟩) ?_ ?_
        rotate_left
        ·intro w'
         go_simp
         with_reducible rfl
        rotate_left
        ·simp only [Act.put, List.setIfInBounds_toArray, List.set_cons_zero, List.set_cons_succ, Qu, Qv]
         rfl
        refine Q1 (i := 1) (N := some 18) (v := ?_) (a' := ?_) #[true, true, false, false, false, false, false, false, false, false] rfl rfl (Q0 HT_.out (by kernel_rfl)) (fun _ _ _ h => h) (Or.inl ⟨by rfl, ?_⟩) ?_ ?_
        rotate_left
        ·intro w'
         go_simp
         with_reducible rfl
        rotate_left
        ·simp only [Act.put, List.setIfInBounds_toArray, List.set_cons_zero, List.set_cons_succ, Qu, Qv]
         rfl
        refine Q1 (i := 2) (N := some 19) (v := ?_) (a' := ?_) #[true, true, true, false, false, false, false, false, false, false] rfl rfl (Q0 HT_.out (by kernel_rfl)) (fun _ _ _ h => h) (Or.inl ⟨by rfl, ?_⟩) ?_ ?_
        rotate_left
        ·intro w'
         go_simp
         with_reducible rfl
        rotate_left
        ·simp only [Act.put, List.setIfInBounds_toArray, List.set_cons_zero, List.set_cons_succ, Qu, Qv]
         rfl
        refine Q1 (i := 4) (N := some 21) (v := ?_) (a' := ?_) #[true, true, true, false, true, false, false, false, false, false] rfl rfl (Q0 HT_.out (by kernel_rfl)) (fun _ _ _ h => h) (Or.inl ⟨by rfl, ?_⟩) ?_ ?_
        rotate_left
        ·intro w'
         go_simp
         with_reducible rfl
        rotate_left
        ·simp only [Act.put, List.setIfInBounds_toArray, List.set_cons_zero, List.set_cons_succ, Qu, Qv]
         rfl
        refine Q1 (i := 5) (N := some 22) (v := ?_) (a' := ?_) #[true, true, true, false, true, true, false, false, false, false] rfl rfl (Q0 HT_.out (by kernel_rfl)) (fun _ _ _ h => h) (Or.inl ⟨by rfl, ?_⟩) ?_ ?_
        rotate_left
        ·intro w'
         go_simp
         with_reducible rfl
        rotate_left
        ·simp only [Act.put, List.setIfInBounds_toArray, List.set_cons_zero, List.set_cons_succ, Qu, Qv]
         rfl
        refine Q1 (i := 6) (N := some 23) (v := ?_) (a' := ?_) #[true, true, true, false, true, true, true, false, false, false] rfl rfl (Q0 HT_.out (by kernel_rfl)) (fun _ _ _ h => h) (Or.inl ⟨by rfl, ?_⟩) ?_ ?_
        rotate_left
        ·intro w'
         go_simp
         with_reducible rfl
        rotate_left
        ·simp only [Act.put, List.setIfInBounds_toArray, List.set_cons_zero, List.set_cons_succ, Qu, Qv]
         rfl
        refine take_ (i := 3) (N := some 20) (v := ?_) (a' := ?_) #[true, true, true, true, true, true, true, false, false, false] rfl rfl (take_ofW HT_.out HW_.out (by kernel_rfl)) (fun _ _ _ h => h) (Or.inl ⟨by rfl, ?_⟩) hHeld ?_ ?_
        rotate_left
        ·rintro w' ⟨s0, s1, s2, s3, s4, s5, s6, s7, s8, s9, s10, s11, s12, s13, s14, s15, s16, s17⟩
         go_simp
         with_reducible rfl
        rotate_left
        ·simp only [Act.put, List.setIfInBounds_toArray, List.set_cons_zero, List.set_cons_succ, Qu, Qv]
         rfl
        refine take_ (i := 7) (N := some 24) (v := ?_) (a' := ?_) #[true, true, true, true, true, true, true, true, false, false] rfl rfl (take_ofW HT_.out HW_.out (by kernel_rfl)) (fun _ _ _ h => h) (Or.inl ⟨by rfl, ?_⟩) hHeld ?_ ?_
        rotate_left
        ·rintro w' ⟨s0, s1, s2, s3, s4, s5, s6, s7, s8, s9, s10, s11, s12, s13, s14, s15, s16, s17⟩
         go_simp
         with_reducible rfl
        rotate_left
        ·simp only [Act.put, List.setIfInBounds_toArray, List.set_cons_zero, List.set_cons_succ, Qu, Qv]
         rfl
        refine one_ (i := 8) (N := some 25) #[true, true, true, true, true, true, true, true, true, false] rfl rfl (one_of HT_.out (by kernel_rfl)) (by decide) (fun K hK => ?_)
        refine goes_ Try.func60 (by kernel_rfl) rfl #[.agg #[.int .i64 ((Qd l0 x5_1).f0), .bool ((Qd l0 x5_1).f1), .int .i64 ((Qd l0 x5_1).f2.f0), .int .i64 ((Qd l0 x5_1).f2.f1), .int .i64 ((Qd l0 x5_1).f2.f2), .int .i64 ((Qd l0 x5_1).f2.f3), .int .i64 ((Qd l0 x5_1).f2.f4), .int .i64 ((Qd l0 x5_1).f2.f5), .bool ((Qd l0 x5_1).f2.f6)], .agg #[.int .i64 ((Qd l1 x5_1).f0), .bool ((Qd l1 x5_1).f1), .int .i64 ((Qd l1 x5_1).f2.f0), .int .i64 ((Qd l1 x5_1).f2.f1), .int .i64 ((Qd l1 x5_1).f2.f2), .int .i64 ((Qd l1 x5_1).f2.f3), .int .i64 ((Qd l1 x5_1).f2.f4), .int .i64 ((Qd l1 x5_1).f2.f5), .bool ((Qd l1 x5_1).f2.f6)]] (by rfl) rfl rfl (by (try simp only [List.map_toArray, List.map_cons, List.map_nil]); first | done | rfl | (simp only [List.length_drop, List.length_take]; rfl)) ?_
        with_reducible refine (laws_eqHeld.calls ((Qd l0 x5_1).f0) ((Qd l0 x5_1).f1) ((Qd l0 x5_1).f2.f0) ((Qd l0 x5_1).f2.f1) ((Qd l0 x5_1).f2.f2) ((Qd l0 x5_1).f2.f3) ((Qd l0 x5_1).f2.f4) ((Qd l0 x5_1).f2.f5) ((Qd l0 x5_1).f2.f6) ((Qd l1 x5_1).f0) ((Qd l1 x5_1).f1) ((Qd l1 x5_1).f2.f0) ((Qd l1 x5_1).f2.f1) ((Qd l1 x5_1).f2.f2) ((Qd l1 x5_1).f2.f3) ((Qd l1 x5_1).f2.f4) ((Qd l1 x5_1).f2.f5) ((Qd l1 x5_1).f2.f6) false _ A7.out).mono ?_
        rintro e w12 ⟨rfl, hb⟩
        refine ⟨_, rfl, ?_⟩
        have n0_ := Aside0.mk (Ql (by repeat (first | (with_reducible first | exact HB.out | apply Qe | apply Qb | apply Qf) | exact HB.out)) hb)
        clear HB
        have HB := n0_
        clear n0_
        (try clear hb)
        (try clear hb2)
        (try clear hk)
        (try clear hi)
        refine hK.out _ _ ⟨((HB.out.cell (World.block_lt_of_cell? w _ hw188_0)).trans hw188_0), ((HB.out.cell (World.block_lt_of_cell? w _ hw188_1)).trans hw188_1), ((HB.out.cell (World.block_lt_of_cell? w _ hw188_2)).trans hw188_2), ((HB.out.cell (World.block_lt_of_cell? w _ hw188_3)).trans hw188_3), ((HB.out.cell (World.block_lt_of_cell? w _ hw188_4)).trans hw188_4), ((HB.out.cell (World.block_lt_of_cell? w _ hw188_5)).trans hw188_5), ((HB.out.cell (World.block_lt_of_cell? w _ hw188_6)).trans hw188_6), ((HB.out.cell (World.block_lt_of_cell? w _ hw188_7)).trans hw188_7), ((HB.out.cell (World.block_lt_of_cell? w _ hw188_8)).trans hw188_8), ((HB.out.cell (World.block_lt_of_cell? w _ hw189_0)).trans hw189_0), ((HB.out.cell (World.block_lt_of_cell? w _ hw189_1)).trans hw189_1), ((HB.out.cell (World.block_lt_of_cell? w _ hw189_2)).trans hw189_2), ((HB.out.cell (World.block_lt_of_cell? w _ hw189_3)).trans hw189_3), ((HB.out.cell (World.block_lt_of_cell? w _ hw189_4)).trans hw189_4), ((HB.out.cell (World.block_lt_of_cell? w _ hw189_5)).trans hw189_5), ((HB.out.cell (World.block_lt_of_cell? w _ hw189_6)).trans hw189_6), ((HB.out.cell (World.block_lt_of_cell? w _ hw189_7)).trans hw189_7), ((HB.out.cell (World.block_lt_of_cell? w _ hw189_8)).trans hw189_8)⟩ (fun hHeld => ?_)
        clear hK K
        refine norm_ (a' := ?_) ?_ ?_
        rotate_left
        ·show Act.put _ (some 25) _ = _
         simp only [Act.put, List.setIfInBounds_toArray, List.set_cons_zero, List.set_cons_succ, Qu, Qv]
         rfl
        refine Q1 (i := 9) (N := some 26) (v := ?_) (a' := ?_) #[true, true, true, true, true, true, true, true, true, true] rfl rfl (Q0 HT_.out (by kernel_rfl)) (fun _ _ _ h => h) (Or.inl ⟨by rfl, ?_⟩) ?_ ?_
        rotate_left
        ·intro w'
         go_simp
         with_reducible rfl
        rotate_left
        ·simp only [Act.put, List.setIfInBounds_toArray, List.set_cons_zero, List.set_cons_succ, Qu, Qv]
         rfl
        refine done_ (done_of HT_.out (by kernel_rfl)) ?_
        try go_wp2
        go_ret
        exact ⟨by first | rfl | (simp [Qn, Qm] <;> rfl) | (simp [*, Qn, Qm] <;> rfl), by repeat (first | (with_reducible first | exact HB.out | apply Qe | apply Qb | apply Qf) | exact HB.out)⟩
      ·rw [if_neg c6] at H
       exact absurd H (by simp)
     ·rw [if_neg c5] at H
      exact absurd H (by simp)
    ·rw [if_neg c4] at H
     have c4b0 : decide (x5_1 < (l0.length : Int)) = false := decide_eq_false c4
     clear c4
     obtain rfl := Option.some.inj H
     go_wp2
     go_ret
     exact ⟨by first | rfl | (simp [Qn, Qm] <;> rfl) | (simp [*, Qn, Qm] <;> rfl), by repeat (first | (with_reducible first | exact HB.out | apply Qe | apply Qb | apply Qf) | exact HB.out)⟩
 ·rw [if_neg c3] at H
  have c3b0 : ((l0.length : Int) == (l1.length : Int)) = false := beq_eq_false_iff_ne.mpr c3
  have c3b1 : ((l0.length : Int) != (l1.length : Int)) = true := bne_iff_ne.mpr c3
  have c3b2 : (l0.length == l1.length) = false := by first | simpa using c3 | (simp at c3 ⊢; omega)
  obtain rfl := Option.some.inj H
  go_enter Try.func18, Try.ntmps18
  go_wp2
  go_ret
  exact ⟨by first | rfl | (simp [Qn, Qm] <;> rfl) | (simp [*, Qn, Qm] <;> rfl), by repeat (first | (with_reducible first | exact HB.out | apply Qe | apply Qb | apply Qf) | exact HB.out)⟩
def laws_eqStringS.l0 : Nat → List ByteArray → List ByteArray → Int → Option (Bool)
 | 0, _, _, _ => none
 | k + 1, x0, x1, x5 => if x5 < (x0.length : Int) then (if 0 ≤ x5 then (if x5 < (x1.length : Int) then (if (rdOf ByteArray.empty x0 x5).toList = (rdOf ByteArray.empty x1 x5).toList then (laws_eqStringS.l0 k x0 x1 (wrap64 (x5 + 1))) else (some false)) else (none)) else (none)) else (some true)
def laws_eqStringS.f (k : Nat) (l0 : List ByteArray) (l1 : List ByteArray) : Option (Bool) := if (l0.length : Int) = (l1.length : Int) then (laws_eqStringS.l0 k l0 l1 0) else (some false)
theorem laws_eqStringS.mono_l : ∀ k, (∀ y0 y1 y2, LeO (laws_eqStringS.l0 k y0 y1 y2) (laws_eqStringS.l0 (k + 1) y0 y1 y2))
 | 0 => fun _ _ _ r h => by simp [laws_eqStringS.l0] at h
 | k + 1 => by
  have ih0 := laws_eqStringS.mono_l k
  ·intro y0 y1 y2
   unfold laws_eqStringS.l0
   repeat' first
   | (with_reducible exact ih0 _ _ _)
   | (with_reducible exact LeO.refl _)
   | (with_reducible exact LeO.none _)
   | (with_reducible refine LeO.ite ?_ ?_)
   | (with_reducible refine LeO.bind ?_ (fun _ => ?_))
   | exact ih0 _ _ _
   | exact LeO.none _
   | refine LeO.ite ?_ ?_
   | refine LeO.bind ?_ (fun _ => ?_)
theorem laws_eqStringS.mono : ∀ a0 a1 k, LeO (laws_eqStringS.f k a0 a1) (laws_eqStringS.f (k + 1) a0 a1) := by
 intro a0 a1 k
 have ih0 := laws_eqStringS.mono_l k
 unfold laws_eqStringS.f
 repeat' first
   | (with_reducible exact ih0 _ _ _)
   | (with_reducible exact LeO.refl _)
   | (with_reducible exact LeO.none _)
   | (with_reducible refine LeO.ite ?_ ?_)
   | (with_reducible refine LeO.bind ?_ (fun _ => ?_))
   | exact ih0 _ _ _
   | exact LeO.none _
   | refine LeO.ite ?_ ?_
   | refine LeO.bind ?_ (fun _ => ?_)
set_option maxHeartbeats 8000000 in
set_option maxRecDepth 100000 in
theorem laws_eqStringS.calls (k : Nat) (A0 : Option Addr) (c0 : Nat) (l0 : List ByteArray) (A1 : Option Addr) (c1 : Nat) (l1 : List ByteArray) (r : Bool) (w : World) (hr0 : Kd.C Kd.string w A0 l0.length l0) (hc0 : l0.length ≤ c0) (hr1 : Kd.C Kd.string w A1 l1.length l1) (hc1 : l1.length ≤ c1) (h : laws_eqStringS.f k l0 l1 = some r) :
  Calls Try.prog 154 #[.slice A0 l0.length c0, .slice A1 l1.length c1] w fun e w' => e = .returned (.bool r) ∧ Drawn0 w w' := by
 have HR0 := Aside0.mk hr0
 have HC0 := Aside0.mk hc0
 clear hr0 hc0
 have HR1 := Aside0.mk hr1
 have HC1 := Aside0.mk hc1
 clear hr1 hc1
 have H : (if (l0.length : Int) = (l1.length : Int) then (laws_eqStringS.l0 k l0 l1 0) else (some false)) = some r := h
 clear h
 by_cases c3 : (l0.length : Int) = (l1.length : Int)
 ·rw [if_pos c3] at H
  have c3b0 : ((l0.length : Int) == (l1.length : Int)) = true := beq_iff_eq.mpr c3
  have c3b1 : ((l0.length : Int) != (l1.length : Int)) = false := bne_eq_false_iff_eq.mpr c3
  have c3b2 : (l0.length == l1.length) = true := by first | simpa using c3 | (simp at c3 ⊢; omega)
  clear c3
  have H' := Aside0.mk H
  clear H
  go_enter Try.func154, Try.ntmps154
  go_wp2
  repeat (go_quiet (fail); try go_wp2)
  go_loopg [5] k (fun kq v5 w' => ∃ (x5_1 : Int), v5 = .int .i64 x5_1 ∧ Aside0 (laws_eqStringS.l0 kq l0 l1 x5_1 = some r) ∧ Aside0 (kq ≤ k) ∧ Drawn0 w w')
  case atStart => exact ⟨(0), (by first | rfl | (simp; done) | (simp [*]; done)), H', ⟨Nat.le_refl _⟩, by repeat (first | exact Drawn0.refl _ | apply Drawn0.step)⟩
  case round =>
   clear H'
   try clear c1
   try clear p2
   try clear c3
   try clear c3b0
   try clear c3b1
   try clear c3b2
   obtain ⟨x5_1, rfl, HA, HK1, ⟨m1, rfl⟩⟩ := hrel
   cases gk with
   | zero => exact absurd HA.out (by simp [laws_eqStringS.l0])
   | succ k1 =>
    have H := HA.out
    clear HA
    simp only [laws_eqStringS.l0] at H
    by_cases c4 : x5_1 < (l0.length : Int)
    ·rw [if_pos c4] at H
     have c4b0 : decide (x5_1 < (l0.length : Int)) = true := decide_eq_true c4
     clear c4
     by_cases c5 : 0 ≤ x5_1
     ·rw [if_pos c5] at H
      have c5b0 : decide (0 ≤ x5_1) = true := decide_eq_true c5
      clear c5
      by_cases c6 : x5_1 < (l1.length : Int)
      ·rw [if_pos c6] at H
       have c6b0 : decide (x5_1 < (l1.length : Int)) = true := decide_eq_true c6
       clear c6
       by_cases c7 : (rdOf ByteArray.empty l0 x5_1).toList = (rdOf ByteArray.empty l1 x5_1).toList
       ·rw [if_pos c7] at H
        have c7b0 : ((rdOf ByteArray.empty l0 x5_1).toList == (rdOf ByteArray.empty l1 x5_1).toList) = true := beq_iff_eq.mpr c7
        have c7b1 : ((rdOf ByteArray.empty l0 x5_1).toList != (rdOf ByteArray.empty l1 x5_1).toList) = false := bne_eq_false_iff_eq.mpr c7
        clear c7
        have H' := Aside0.mk H
        clear H
        have p191 : 0 ≤ (x5_1 : Int) := of_decide_eq_true (by assumption)
        have q191 : x5_1 < (l0.length : Int) := of_decide_eq_true (by assumption)
        obtain ⟨ad191, e191, hx191_0⟩ := Kd.at_string HR0.out x5_1 p191 q191
        cases e191
        replace p191 := eq_true p191
        replace q191 := eq_true q191
        have p192 : 0 ≤ (x5_1 : Int) := of_decide_eq_true (by assumption)
        have q192 : x5_1 < (l1.length : Int) := of_decide_eq_true (by assumption)
        obtain ⟨ad192, e192, hx192_0⟩ := Kd.at_string HR1.out x5_1 p192 q192
        cases e192
        replace p192 := eq_true p192
        replace q192 := eq_true q192
        go_wp2
        repeat (go_quiet (fail); try go_wp2)
        go_roundg k1
        case measure => have := HK1.out; omega
        case rel => exact ⟨(wrap64 (x5_1 + 1)), (by first | rfl | (simp; done) | (simp [*]; done)), H', ⟨by have := HK1.out; omega⟩, by repeat (first | exact Drawn0.refl _ | apply Drawn0.step)⟩
       ·rw [if_neg c7] at H
        have c7b0 : ((rdOf ByteArray.empty l0 x5_1).toList == (rdOf ByteArray.empty l1 x5_1).toList) = false := beq_eq_false_iff_ne.mpr c7
        have c7b1 : ((rdOf ByteArray.empty l0 x5_1).toList != (rdOf ByteArray.empty l1 x5_1).toList) = true := bne_iff_ne.mpr c7
        obtain rfl := Option.some.inj H
        have p191 : 0 ≤ (x5_1 : Int) := of_decide_eq_true (by assumption)
        have q191 : x5_1 < (l0.length : Int) := of_decide_eq_true (by assumption)
        obtain ⟨ad191, e191, hx191_0⟩ := Kd.at_string HR0.out x5_1 p191 q191
        cases e191
        replace p191 := eq_true p191
        replace q191 := eq_true q191
        have p192 : 0 ≤ (x5_1 : Int) := of_decide_eq_true (by assumption)
        have q192 : x5_1 < (l1.length : Int) := of_decide_eq_true (by assumption)
        obtain ⟨ad192, e192, hx192_0⟩ := Kd.at_string HR1.out x5_1 p192 q192
        cases e192
        replace p192 := eq_true p192
        replace q192 := eq_true q192
        go_wp2
        repeat (go_quiet (fail); try go_wp2)
        go_ret
        exact ⟨by first | rfl | (simp; done) | (simp [*]; done), by repeat (first | exact Drawn0.refl _ | apply Drawn0.step)⟩
      ·rw [if_neg c6] at H
       exact absurd H (by simp)
     ·rw [if_neg c5] at H
      exact absurd H (by simp)
    ·rw [if_neg c4] at H
     have c4b0 : decide (x5_1 < (l0.length : Int)) = false := decide_eq_false c4
     clear c4
     obtain rfl := Option.some.inj H
     go_wp2
     repeat (go_quiet (fail); try go_wp2)
     go_ret
     exact ⟨by first | rfl | (simp; done) | (simp [*]; done), by repeat (first | exact Drawn0.refl _ | apply Drawn0.step)⟩
 ·rw [if_neg c3] at H
  have c3b0 : ((l0.length : Int) == (l1.length : Int)) = false := beq_eq_false_iff_ne.mpr c3
  have c3b1 : ((l0.length : Int) != (l1.length : Int)) = true := bne_iff_ne.mpr c3
  have c3b2 : (l0.length == l1.length) = false := by first | simpa using c3 | (simp at c3 ⊢; omega)
  obtain rfl := Option.some.inj H
  go_enter Try.func154, Try.ntmps154
  go_wp2
  repeat (go_quiet (fail); try go_wp2)
  go_ret
  exact ⟨by first | rfl | (simp; done) | (simp [*]; done), by repeat (first | exact Drawn0.refl _ | apply Drawn0.step)⟩
def laws_eqPipe.f (k : Nat) (a0_0 : Int) (a0_1 : Int) (a0_2 : Int) (a0_3 : Int) (l0_4 : List ByteArray) (a1_0 : Int) (a1_1 : Int) (a1_2 : Int) (a1_3 : Int) (l1_4 : List ByteArray) : Option (Bool) := if a0_0 = a1_0 then (if a0_1 = a1_1 then (if a0_2 = a1_2 then (if a0_3 = a1_3 then ((laws_eqStringS.f k l0_4 l1_4).bind fun t195 => (if t195 = true then (some true) else (some false))) else (some false)) else (some false)) else (some false)) else (some false)
theorem laws_eqPipe.mono : ∀ a0 a1 a2 a3 a4 a5 a6 a7 a8 a9 k, LeO (laws_eqPipe.f k a0 a1 a2 a3 a4 a5 a6 a7 a8 a9) (laws_eqPipe.f (k + 1) a0 a1 a2 a3 a4 a5 a6 a7 a8 a9) := by
 intro a0 a1 a2 a3 a4 a5 a6 a7 a8 a9 k
 unfold laws_eqPipe.f
 repeat' first
   | (with_reducible exact laws_eqStringS.mono _ _ _)
   | (with_reducible exact LeO.refl _)
   | (with_reducible exact LeO.none _)
   | (with_reducible refine LeO.ite ?_ ?_)
   | (with_reducible refine LeO.bind ?_ (fun _ => ?_))
   | exact laws_eqStringS.mono _ _ _
   | exact LeO.none _
   | refine LeO.ite ?_ ?_
   | refine LeO.bind ?_ (fun _ => ?_)
set_option maxHeartbeats 8000000 in
set_option maxRecDepth 100000 in
theorem laws_eqPipe.calls (k : Nat) (a0_0 : Int) (a0_1 : Int) (a0_2 : Int) (a0_3 : Int) (A0_4 : Option Addr) (c0_4 : Nat) (l0_4 : List ByteArray) (a1_0 : Int) (a1_1 : Int) (a1_2 : Int) (a1_3 : Int) (A1_4 : Option Addr) (c1_4 : Nat) (l1_4 : List ByteArray) (r : Bool) (w : World) (hr0_4 : Kd.C Kd.string w A0_4 l0_4.length l0_4) (hc0_4 : l0_4.length ≤ c0_4) (hr1_4 : Kd.C Kd.string w A1_4 l1_4.length l1_4) (hc1_4 : l1_4.length ≤ c1_4) (h : laws_eqPipe.f k a0_0 a0_1 a0_2 a0_3 l0_4 a1_0 a1_1 a1_2 a1_3 l1_4 = some r) :
  Calls Try.prog 125 #[.agg #[.int .i64 a0_0, .int .i64 a0_1, .int .i64 a0_2, .int .i64 a0_3, .slice A0_4 l0_4.length c0_4], .agg #[.int .i64 a1_0, .int .i64 a1_1, .int .i64 a1_2, .int .i64 a1_3, .slice A1_4 l1_4.length c1_4]] w fun e w' => e = .returned (.bool r) ∧ Below w.heap.size w w' := by
 have hu100 := Try.underlying100
 have HR0_4 := Aside0.mk hr0_4
 have HC0_4 := Aside0.mk hc0_4
 clear hr0_4 hc0_4
 have HR1_4 := Aside0.mk hr1_4
 have HC1_4 := Aside0.mk hc1_4
 clear hr1_4 hc1_4
 have HB := Aside0.mk (Below.refl w.heap.size w)
 have H : (if a0_0 = a1_0 then (if a0_1 = a1_1 then (if a0_2 = a1_2 then (if a0_3 = a1_3 then ((laws_eqStringS.f k l0_4 l1_4).bind fun t195 => (if t195 = true then (some true) else (some false))) else (some false)) else (some false)) else (some false)) else (some false)) = some r := h
 clear h
 by_cases c3 : a0_0 = a1_0
 ·rw [if_pos c3] at H
  have c3b0 : (a0_0 == a1_0) = true := beq_iff_eq.mpr c3
  have c3b1 : (a0_0 != a1_0) = false := bne_eq_false_iff_eq.mpr c3
  clear c3
  by_cases c4 : a0_1 = a1_1
  ·rw [if_pos c4] at H
   have c4b0 : (a0_1 == a1_1) = true := beq_iff_eq.mpr c4
   have c4b1 : (a0_1 != a1_1) = false := bne_eq_false_iff_eq.mpr c4
   clear c4
   by_cases c5 : a0_2 = a1_2
   ·rw [if_pos c5] at H
    have c5b0 : (a0_2 == a1_2) = true := beq_iff_eq.mpr c5
    have c5b1 : (a0_2 != a1_2) = false := bne_eq_false_iff_eq.mpr c5
    clear c5
    by_cases c6 : a0_3 = a1_3
    ·rw [if_pos c6] at H
     have c6b0 : (a0_3 == a1_3) = true := beq_iff_eq.mpr c6
     have c6b1 : (a0_3 != a1_3) = false := bne_eq_false_iff_eq.mpr c6
     clear c6
     replace H := Option.bind_eq_some_iff.mp H
     obtain ⟨t195, A70, H⟩ := H
     replace H : (if t195 = true then (some true) else (some false)) = some r := H
     have A7 := Aside0.mk A70
     clear A70
     by_cases c8 : t195 = true
     ·subst c8
      have H1 : (some true) = some r := by rw [if_pos rfl] at H; exact H
      clear H
      have H := H1
      clear H1
      obtain rfl := Option.some.inj H
      go_enter Try.func125, Try.ntmps125
      go_wp2_with (first | ((with_reducible refine Qs (N := 2) rfl ?_); refine Qr ?hg (N := 2) ?hd (cs := #[.int .i64 a0_0, .int .i64 a0_1, .int .i64 a0_2, .int .i64 a0_3, .slice A0_4 l0_4.length c0_4]) (t := 100) ?hr ?_; (case hd => rfl); (case hg => rfl); (case hr => first | (go_simp; done) | (go_simp; rfl)); intro gb193 hg w9 hbox hb; have n0_ := Aside0.mk (Ql (by repeat (first | (with_reducible first | exact HB.out | apply Qe | apply Qb | apply Qf) | exact HB.out)) hb); have n1_ := Aside0.mk (hbox); have n2_ := Aside0.mk ((by rw [hg]; exact (Qk (by repeat (first | (with_reducible first | exact HB.out | apply Qe | apply Qb | apply Qf) | exact HB.out))) : w.heap.size ≤ gb193)); have n3_ := Aside0.mk ((by rw [hg]; exact (Qk (by repeat (first | (with_reducible first | exact HB.out | apply Qe | apply Qb | apply Qf) | exact HB.out))) : w.heap.size ≤ gb193)); clear HB; have HB := n0_; have BK193 := n1_; have GW193 := n2_; have GE193 := n3_; clear n0_ n1_ n2_ n3_; clear hb hbox hg) | ((with_reducible refine Qs (N := 3) rfl ?_); refine Qr ?hg (N := 3) ?hd (cs := #[.int .i64 a1_0, .int .i64 a1_1, .int .i64 a1_2, .int .i64 a1_3, .slice A1_4 l1_4.length c1_4]) (t := 100) ?hr ?_; (case hd => rfl); (case hg => rfl); (case hr => first | (go_simp; done) | (go_simp; rfl)); intro gb194 hg w10 hbox hb; have n0_ := Aside0.mk (Qo (g := gb193) (o := .cells #[.int .i64 a0_0, .int .i64 a0_1, .int .i64 a0_2, .int .i64 a0_3, .slice A0_4 l0_4.length c0_4] 100 (0, 0)) (by (with_reducible repeat (first | refine Qh ?_ _ | refine Qj ?_ | refine Qi ?_ _)); exact BK193.out) hb); have n1_ := Aside0.mk (Ql (by repeat (first | (with_reducible first | exact HB.out | apply Qe | apply Qb | apply Qf | refine Qg ?_ GE193.out) | exact HB.out)) hb); have n2_ := Aside0.mk (hbox); have n3_ := Aside0.mk ((by rw [hg]; exact (Qk (by repeat (first | (with_reducible first | exact HB.out | apply Qe | apply Qb | apply Qf | refine Qg ?_ GE193.out) | exact HB.out))) : w.heap.size ≤ gb194)); have n4_ := Aside0.mk ((by rw [hg]; exact (Qk (by repeat (first | (with_reducible first | exact HB.out | apply Qe | apply Qb | apply Qf | refine Qg ?_ GE193.out) | exact HB.out))) : w.heap.size ≤ gb194)); have n5_ := Aside0.mk ((by rw [hg]; exact Nat.ne_of_lt (Qt (g := gb193) (o := .cells #[.int .i64 a0_0, .int .i64 a0_1, .int .i64 a0_2, .int .i64 a0_3, .slice A0_4 l0_4.length c0_4] 100 (0, 0)) (by (with_reducible repeat (first | refine Qh ?_ _ | refine Qj ?_ | refine Qi ?_ _)); exact BK193.out)) : gb193 ≠ gb194)); have n6_ := Aside0.mk ((by rw [hg]; exact Nat.ne_of_gt (Qt (g := gb193) (o := .cells #[.int .i64 a0_0, .int .i64 a0_1, .int .i64 a0_2, .int .i64 a0_3, .slice A0_4 l0_4.length c0_4] 100 (0, 0)) (by (with_reducible repeat (first | refine Qh ?_ _ | refine Qj ?_ | refine Qi ?_ _)); exact BK193.out)) : gb194 ≠ gb193)); clear BK193; clear HB; have BK193 := n0_; have HB := n1_; have BK194 := n2_; have GW194 := n3_; have GE194 := n4_; have NB193_194 := n5_; have NB194_193 := n6_; clear n0_ n1_ n2_ n3_ n4_ n5_ n6_; clear hb hbox hg; have hnb11 := NB193_194.out; have hnc11 := NB194_193.out; have hcz12_0 : w10.cell? ⟨gb193, 0, none⟩ = some (.int .i64 a0_0) := (Qa BK193.out 0).trans rfl; have hcz12_1 : w10.cell? ⟨gb193, 1, none⟩ = some (.int .i64 a0_1) := (Qa BK193.out 1).trans rfl; have hcz12_2 : w10.cell? ⟨gb193, 2, none⟩ = some (.int .i64 a0_2) := (Qa BK193.out 2).trans rfl; have hcz12_3 : w10.cell? ⟨gb193, 3, none⟩ = some (.int .i64 a0_3) := (Qa BK193.out 3).trans rfl; have hcz12_4 : w10.cell? ⟨gb193, 4, none⟩ = some (.slice A0_4 l0_4.length c0_4) := (Qa BK193.out 4).trans rfl; have hfz12_0 := Qc BK193.out 0; have hfz12_1 := Qc BK193.out 1; have hfz12_2 := Qc BK193.out 2; have hfz12_3 := Qc BK193.out 3; have hfz12_4 := Qc BK193.out 4; have hcz13_0 : w10.cell? ⟨gb194, 0, none⟩ = some (.int .i64 a1_0) := (Qa BK194.out 0).trans rfl; have hcz13_1 : w10.cell? ⟨gb194, 1, none⟩ = some (.int .i64 a1_1) := (Qa BK194.out 1).trans rfl; have hcz13_2 : w10.cell? ⟨gb194, 2, none⟩ = some (.int .i64 a1_2) := (Qa BK194.out 2).trans rfl; have hcz13_3 : w10.cell? ⟨gb194, 3, none⟩ = some (.int .i64 a1_3) := (Qa BK194.out 3).trans rfl; have hcz13_4 : w10.cell? ⟨gb194, 4, none⟩ = some (.slice A1_4 l1_4.length c1_4) := (Qa BK194.out 4).trans rfl; have hfz13_0 := Qc BK194.out 0; have hfz13_1 := Qc BK194.out 1; have hfz13_2 := Qc BK194.out 2; have hfz13_3 := Qc BK194.out 3; have hfz13_4 := Qc BK194.out 4) | ((with_reducible refine Qq (f := 154) rfl ?_); refine Qy (some 29) rfl rfl Try.func154 (by kernel_rfl) rfl #[.slice A0_4 l0_4.length c0_4, .slice A1_4 l1_4.length c1_4] rfl (by (try simp only [List.map_toArray, List.map_cons, List.map_nil]); first | done | rfl | (simp only [List.length_drop, List.length_take]; rfl)) ?_; (with_reducible refine (laws_eqStringS.calls k _ _ l0_4 _ _ l1_4 true _ ?side1 ?side2 ?side3 ?side4 A7.out).mono ?_); (case side1 => repeat (first | exact (Kd.C_below HR0_4.out HB.out) | (with_reducible refine Kd.C_alloc ?_ _) | (with_reducible refine Kd.C_drewN ?_ _) | (with_reducible refine Kd.C_drew ?_))); (case side2 => exact HC0_4.out); (case side3 => repeat (first | exact (Kd.C_below HR1_4.out HB.out) | (with_reducible refine Kd.C_alloc ?_ _) | (with_reducible refine Kd.C_drewN ?_ _) | (with_reducible refine Kd.C_drew ?_))); (case side4 => exact HC1_4.out); rintro e w' ⟨rfl, ⟨nd, rfl⟩⟩; refine ⟨_, rfl, ?_⟩))
      go_ret
      exact ⟨by first | rfl | (simp [Qn, Qm] <;> rfl) | (simp [*, Qn, Qm] <;> rfl), by repeat (first | (with_reducible first | exact HB.out | apply Qe | apply Qb | apply Qf | refine Qg ?_ GE193.out | refine Qg ?_ GE194.out) | exact HB.out)⟩
     ·replace c8 := Bool.eq_false_iff.mpr c8
      subst c8
      have H1 : (some false) = some r := by rw [if_neg (show ¬ (false = true) by decide)] at H; exact H
      clear H
      have H := H1
      clear H1
      obtain rfl := Option.some.inj H
      go_enter Try.func125, Try.ntmps125
      go_wp2_with (first | ((with_reducible refine Qs (N := 2) rfl ?_); refine Qr ?hg (N := 2) ?hd (cs := #[.int .i64 a0_0, .int .i64 a0_1, .int .i64 a0_2, .int .i64 a0_3, .slice A0_4 l0_4.length c0_4]) (t := 100) ?hr ?_; (case hd => rfl); (case hg => rfl); (case hr => first | (go_simp; done) | (go_simp; rfl)); intro gb193 hg w14 hbox hb; have n0_ := Aside0.mk (Ql (by repeat (first | (with_reducible first | exact HB.out | apply Qe | apply Qb | apply Qf) | exact HB.out)) hb); have n1_ := Aside0.mk (hbox); have n2_ := Aside0.mk ((by rw [hg]; exact (Qk (by repeat (first | (with_reducible first | exact HB.out | apply Qe | apply Qb | apply Qf) | exact HB.out))) : w.heap.size ≤ gb193)); have n3_ := Aside0.mk ((by rw [hg]; exact (Qk (by repeat (first | (with_reducible first | exact HB.out | apply Qe | apply Qb | apply Qf) | exact HB.out))) : w.heap.size ≤ gb193)); clear HB; have HB := n0_; have BK193 := n1_; have GW193 := n2_; have GE193 := n3_; clear n0_ n1_ n2_ n3_; clear hb hbox hg) | ((with_reducible refine Qs (N := 3) rfl ?_); refine Qr ?hg (N := 3) ?hd (cs := #[.int .i64 a1_0, .int .i64 a1_1, .int .i64 a1_2, .int .i64 a1_3, .slice A1_4 l1_4.length c1_4]) (t := 100) ?hr ?_; (case hd => rfl); (case hg => rfl); (case hr => first | (go_simp; done) | (go_simp; rfl)); intro gb194 hg w15 hbox hb; have n0_ := Aside0.mk (Qo (g := gb193) (o := .cells #[.int .i64 a0_0, .int .i64 a0_1, .int .i64 a0_2, .int .i64 a0_3, .slice A0_4 l0_4.length c0_4] 100 (0, 0)) (by (with_reducible repeat (first | refine Qh ?_ _ | refine Qj ?_ | refine Qi ?_ _)); exact BK193.out) hb); have n1_ := Aside0.mk (Ql (by repeat (first | (with_reducible first | exact HB.out | apply Qe | apply Qb | apply Qf | refine Qg ?_ GE193.out) | exact HB.out)) hb); have n2_ := Aside0.mk (hbox); have n3_ := Aside0.mk ((by rw [hg]; exact (Qk (by repeat (first | (with_reducible first | exact HB.out | apply Qe | apply Qb | apply Qf | refine Qg ?_ GE193.out) | exact HB.out))) : w.heap.size ≤ gb194)); have n4_ := Aside0.mk ((by rw [hg]; exact (Qk (by repeat (first | (with_reducible first | exact HB.out | apply Qe | apply Qb | apply Qf | refine Qg ?_ GE193.out) | exact HB.out))) : w.heap.size ≤ gb194)); have n5_ := Aside0.mk ((by rw [hg]; exact Nat.ne_of_lt (Qt (g := gb193) (o := .cells #[.int .i64 a0_0, .int .i64 a0_1, .int .i64 a0_2, .int .i64 a0_3, .slice A0_4 l0_4.length c0_4] 100 (0, 0)) (by (with_reducible repeat (first | refine Qh ?_ _ | refine Qj ?_ | refine Qi ?_ _)); exact BK193.out)) : gb193 ≠ gb194)); have n6_ := Aside0.mk ((by rw [hg]; exact Nat.ne_of_gt (Qt (g := gb193) (o := .cells #[.int .i64 a0_0, .int .i64 a0_1, .int .i64 a0_2, .int .i64 a0_3, .slice A0_4 l0_4.length c0_4] 100 (0, 0)) (by (with_reducible repeat (first | refine Qh ?_ _ | refine Qj ?_ | refine Qi ?_ _)); exact BK193.out)) : gb194 ≠ gb193)); clear BK193; clear HB; have BK193 := n0_; have HB := n1_; have BK194 := n2_; have GW194 := n3_; have GE194 := n4_; have NB193_194 := n5_; have NB194_193 := n6_; clear n0_ n1_ n2_ n3_ n4_ n5_ n6_; clear hb hbox hg; have hnb16 := NB193_194.out; have hnc16 := NB194_193.out; have hcz17_0 : w15.cell? ⟨gb193, 0, none⟩ = some (.int .i64 a0_0) := (Qa BK193.out 0).trans rfl; have hcz17_1 : w15.cell? ⟨gb193, 1, none⟩ = some (.int .i64 a0_1) := (Qa BK193.out 1).trans rfl; have hcz17_2 : w15.cell? ⟨gb193, 2, none⟩ = some (.int .i64 a0_2) := (Qa BK193.out 2).trans rfl; have hcz17_3 : w15.cell? ⟨gb193, 3, none⟩ = some (.int .i64 a0_3) := (Qa BK193.out 3).trans rfl; have hcz17_4 : w15.cell? ⟨gb193, 4, none⟩ = some (.slice A0_4 l0_4.length c0_4) := (Qa BK193.out 4).trans rfl; have hfz17_0 := Qc BK193.out 0; have hfz17_1 := Qc BK193.out 1; have hfz17_2 := Qc BK193.out 2; have hfz17_3 := Qc BK193.out 3; have hfz17_4 := Qc BK193.out 4; have hcz18_0 : w15.cell? ⟨gb194, 0, none⟩ = some (.int .i64 a1_0) := (Qa BK194.out 0).trans rfl; have hcz18_1 : w15.cell? ⟨gb194, 1, none⟩ = some (.int .i64 a1_1) := (Qa BK194.out 1).trans rfl; have hcz18_2 : w15.cell? ⟨gb194, 2, none⟩ = some (.int .i64 a1_2) := (Qa BK194.out 2).trans rfl; have hcz18_3 : w15.cell? ⟨gb194, 3, none⟩ = some (.int .i64 a1_3) := (Qa BK194.out 3).trans rfl; have hcz18_4 : w15.cell? ⟨gb194, 4, none⟩ = some (.slice A1_4 l1_4.length c1_4) := (Qa BK194.out 4).trans rfl; have hfz18_0 := Qc BK194.out 0; have hfz18_1 := Qc BK194.out 1; have hfz18_2 := Qc BK194.out 2; have hfz18_3 := Qc BK194.out 3; have hfz18_4 := Qc BK194.out 4) | ((with_reducible refine Qq (f := 154) rfl ?_); refine Qy (some 29) rfl rfl Try.func154 (by kernel_rfl) rfl #[.slice A0_4 l0_4.length c0_4, .slice A1_4 l1_4.length c1_4] rfl (by (try simp only [List.map_toArray, List.map_cons, List.map_nil]); first | done | rfl | (simp only [List.length_drop, List.length_take]; rfl)) ?_; (with_reducible refine (laws_eqStringS.calls k _ _ l0_4 _ _ l1_4 false _ ?side1 ?side2 ?side3 ?side4 A7.out).mono ?_); (case side1 => repeat (first | exact (Kd.C_below HR0_4.out HB.out) | (with_reducible refine Kd.C_alloc ?_ _) | (with_reducible refine Kd.C_drewN ?_ _) | (with_reducible refine Kd.C_drew ?_))); (case side2 => exact HC0_4.out); (case side3 => repeat (first | exact (Kd.C_below HR1_4.out HB.out) | (with_reducible refine Kd.C_alloc ?_ _) | (with_reducible refine Kd.C_drewN ?_ _) | (with_reducible refine Kd.C_drew ?_))); (case side4 => exact HC1_4.out); rintro e w' ⟨rfl, ⟨nd, rfl⟩⟩; refine ⟨_, rfl, ?_⟩))
      go_ret
      exact ⟨by first | rfl | (simp [Qn, Qm] <;> rfl) | (simp [*, Qn, Qm] <;> rfl), by repeat (first | (with_reducible first | exact HB.out | apply Qe | apply Qb | apply Qf | refine Qg ?_ GE193.out | refine Qg ?_ GE194.out) | exact HB.out)⟩
    ·rw [if_neg c6] at H
     have c6b0 : (a0_3 == a1_3) = false := beq_eq_false_iff_ne.mpr c6
     have c6b1 : (a0_3 != a1_3) = true := bne_iff_ne.mpr c6
     obtain rfl := Option.some.inj H
     go_enter Try.func125, Try.ntmps125
     go_wp2_with (first | ((with_reducible refine Qs (N := 2) rfl ?_); refine Qr ?hg (N := 2) ?hd (cs := #[.int .i64 a0_0, .int .i64 a0_1, .int .i64 a0_2, .int .i64 a0_3, .slice A0_4 l0_4.length c0_4]) (t := 100) ?hr ?_; (case hd => rfl); (case hg => rfl); (case hr => first | (go_simp; done) | (go_simp; rfl)); intro gb193 hg w19 hbox hb; have n0_ := Aside0.mk (Ql (by repeat (first | (with_reducible first | exact HB.out | apply Qe | apply Qb | apply Qf) | exact HB.out)) hb); have n1_ := Aside0.mk (hbox); have n2_ := Aside0.mk ((by rw [hg]; exact (Qk (by repeat (first | (with_reducible first | exact HB.out | apply Qe | apply Qb | apply Qf) | exact HB.out))) : w.heap.size ≤ gb193)); have n3_ := Aside0.mk ((by rw [hg]; exact (Qk (by repeat (first | (with_reducible first | exact HB.out | apply Qe | apply Qb | apply Qf) | exact HB.out))) : w.heap.size ≤ gb193)); clear HB; have HB := n0_; have BK193 := n1_; have GW193 := n2_; have GE193 := n3_; clear n0_ n1_ n2_ n3_; clear hb hbox hg) | ((with_reducible refine Qs (N := 3) rfl ?_); refine Qr ?hg (N := 3) ?hd (cs := #[.int .i64 a1_0, .int .i64 a1_1, .int .i64 a1_2, .int .i64 a1_3, .slice A1_4 l1_4.length c1_4]) (t := 100) ?hr ?_; (case hd => rfl); (case hg => rfl); (case hr => first | (go_simp; done) | (go_simp; rfl)); intro gb194 hg w20 hbox hb; have n0_ := Aside0.mk (Qo (g := gb193) (o := .cells #[.int .i64 a0_0, .int .i64 a0_1, .int .i64 a0_2, .int .i64 a0_3, .slice A0_4 l0_4.length c0_4] 100 (0, 0)) (by (with_reducible repeat (first | refine Qh ?_ _ | refine Qj ?_ | refine Qi ?_ _)); exact BK193.out) hb); have n1_ := Aside0.mk (Ql (by repeat (first | (with_reducible first | exact HB.out | apply Qe | apply Qb | apply Qf | refine Qg ?_ GE193.out) | exact HB.out)) hb); have n2_ := Aside0.mk (hbox); have n3_ := Aside0.mk ((by rw [hg]; exact (Qk (by repeat (first | (with_reducible first | exact HB.out | apply Qe | apply Qb | apply Qf | refine Qg ?_ GE193.out) | exact HB.out))) : w.heap.size ≤ gb194)); have n4_ := Aside0.mk ((by rw [hg]; exact (Qk (by repeat (first | (with_reducible first | exact HB.out | apply Qe | apply Qb | apply Qf | refine Qg ?_ GE193.out) | exact HB.out))) : w.heap.size ≤ gb194)); have n5_ := Aside0.mk ((by rw [hg]; exact Nat.ne_of_lt (Qt (g := gb193) (o := .cells #[.int .i64 a0_0, .int .i64 a0_1, .int .i64 a0_2, .int .i64 a0_3, .slice A0_4 l0_4.length c0_4] 100 (0, 0)) (by (with_reducible repeat (first | refine Qh ?_ _ | refine Qj ?_ | refine Qi ?_ _)); exact BK193.out)) : gb193 ≠ gb194)); have n6_ := Aside0.mk ((by rw [hg]; exact Nat.ne_of_gt (Qt (g := gb193) (o := .cells #[.int .i64 a0_0, .int .i64 a0_1, .int .i64 a0_2, .int .i64 a0_3, .slice A0_4 l0_4.length c0_4] 100 (0, 0)) (by (with_reducible repeat (first | refine Qh ?_ _ | refine Qj ?_ | refine Qi ?_ _)); exact BK193.out)) : gb194 ≠ gb193)); clear BK193; clear HB; have BK193 := n0_; have HB := n1_; have BK194 := n2_; have GW194 := n3_; have GE194 := n4_; have NB193_194 := n5_; have NB194_193 := n6_; clear n0_ n1_ n2_ n3_ n4_ n5_ n6_; clear hb hbox hg; have hnb21 := NB193_194.out; have hnc21 := NB194_193.out; have hcz22_0 : w20.cell? ⟨gb193, 0, none⟩ = some (.int .i64 a0_0) := (Qa BK193.out 0).trans rfl; have hcz22_1 : w20.cell? ⟨gb193, 1, none⟩ = some (.int .i64 a0_1) := (Qa BK193.out 1).trans rfl; have hcz22_2 : w20.cell? ⟨gb193, 2, none⟩ = some (.int .i64 a0_2) := (Qa BK193.out 2).trans rfl; have hcz22_3 : w20.cell? ⟨gb193, 3, none⟩ = some (.int .i64 a0_3) := (Qa BK193.out 3).trans rfl; have hcz22_4 : w20.cell? ⟨gb193, 4, none⟩ = some (.slice A0_4 l0_4.length c0_4) := (Qa BK193.out 4).trans rfl; have hfz22_0 := Qc BK193.out 0; have hfz22_1 := Qc BK193.out 1; have hfz22_2 := Qc BK193.out 2; have hfz22_3 := Qc BK193.out 3; have hfz22_4 := Qc BK193.out 4; have hcz23_0 : w20.cell? ⟨gb194, 0, none⟩ = some (.int .i64 a1_0) := (Qa BK194.out 0).trans rfl; have hcz23_1 : w20.cell? ⟨gb194, 1, none⟩ = some (.int .i64 a1_1) := (Qa BK194.out 1).trans rfl; have hcz23_2 : w20.cell? ⟨gb194, 2, none⟩ = some (.int .i64 a1_2) := (Qa BK194.out 2).trans rfl; have hcz23_3 : w20.cell? ⟨gb194, 3, none⟩ = some (.int .i64 a1_3) := (Qa BK194.out 3).trans rfl; have hcz23_4 : w20.cell? ⟨gb194, 4, none⟩ = some (.slice A1_4 l1_4.length c1_4) := (Qa BK194.out 4).trans rfl; have hfz23_0 := Qc BK194.out 0; have hfz23_1 := Qc BK194.out 1; have hfz23_2 := Qc BK194.out 2; have hfz23_3 := Qc BK194.out 3; have hfz23_4 := Qc BK194.out 4))
     go_ret
     exact ⟨by first | rfl | (simp [Qn, Qm] <;> rfl) | (simp [*, Qn, Qm] <;> rfl), by repeat (first | (with_reducible first | exact HB.out | apply Qe | apply Qb | apply Qf | refine Qg ?_ GE193.out | refine Qg ?_ GE194.out) | exact HB.out)⟩
   ·rw [if_neg c5] at H
    have c5b0 : (a0_2 == a1_2) = false := beq_eq_false_iff_ne.mpr c5
    have c5b1 : (a0_2 != a1_2) = true := bne_iff_ne.mpr c5
    obtain rfl := Option.some.inj H
    go_enter Try.func125, Try.ntmps125
    go_wp2_with (first | ((with_reducible refine Qs (N := 2) rfl ?_); refine Qr ?hg (N := 2) ?hd (cs := #[.int .i64 a0_0, .int .i64 a0_1, .int .i64 a0_2, .int .i64 a0_3, .slice A0_4 l0_4.length c0_4]) (t := 100) ?hr ?_; (case hd => rfl); (case hg => rfl); (case hr => first | (go_simp; done) | (go_simp; rfl)); intro gb193 hg w24 hbox hb; have n0_ := Aside0.mk (Ql (by repeat (first | (with_reducible first | exact HB.out | apply Qe | apply Qb | apply Qf) | exact HB.out)) hb); have n1_ := Aside0.mk (hbox); have n2_ := Aside0.mk ((by rw [hg]; exact (Qk (by repeat (first | (with_reducible first | exact HB.out | apply Qe | apply Qb | apply Qf) | exact HB.out))) : w.heap.size ≤ gb193)); have n3_ := Aside0.mk ((by rw [hg]; exact (Qk (by repeat (first | (with_reducible first | exact HB.out | apply Qe | apply Qb | apply Qf) | exact HB.out))) : w.heap.size ≤ gb193)); clear HB; have HB := n0_; have BK193 := n1_; have GW193 := n2_; have GE193 := n3_; clear n0_ n1_ n2_ n3_; clear hb hbox hg) | ((with_reducible refine Qs (N := 3) rfl ?_); refine Qr ?hg (N := 3) ?hd (cs := #[.int .i64 a1_0, .int .i64 a1_1, .int .i64 a1_2, .int .i64 a1_3, .slice A1_4 l1_4.length c1_4]) (t := 100) ?hr ?_; (case hd => rfl); (case hg => rfl); (case hr => first | (go_simp; done) | (go_simp; rfl)); intro gb194 hg w25 hbox hb; have n0_ := Aside0.mk (Qo (g := gb193) (o := .cells #[.int .i64 a0_0, .int .i64 a0_1, .int .i64 a0_2, .int .i64 a0_3, .slice A0_4 l0_4.length c0_4] 100 (0, 0)) (by (with_reducible repeat (first | refine Qh ?_ _ | refine Qj ?_ | refine Qi ?_ _)); exact BK193.out) hb); have n1_ := Aside0.mk (Ql (by repeat (first | (with_reducible first | exact HB.out | apply Qe | apply Qb | apply Qf | refine Qg ?_ GE193.out) | exact HB.out)) hb); have n2_ := Aside0.mk (hbox); have n3_ := Aside0.mk ((by rw [hg]; exact (Qk (by repeat (first | (with_reducible first | exact HB.out | apply Qe | apply Qb | apply Qf | refine Qg ?_ GE193.out) | exact HB.out))) : w.heap.size ≤ gb194)); have n4_ := Aside0.mk ((by rw [hg]; exact (Qk (by repeat (first | (with_reducible first | exact HB.out | apply Qe | apply Qb | apply Qf | refine Qg ?_ GE193.out) | exact HB.out))) : w.heap.size ≤ gb194)); have n5_ := Aside0.mk ((by rw [hg]; exact Nat.ne_of_lt (Qt (g := gb193) (o := .cells #[.int .i64 a0_0, .int .i64 a0_1, .int .i64 a0_2, .int .i64 a0_3, .slice A0_4 l0_4.length c0_4] 100 (0, 0)) (by (with_reducible repeat (first | refine Qh ?_ _ | refine Qj ?_ | refine Qi ?_ _)); exact BK193.out)) : gb193 ≠ gb194)); have n6_ := Aside0.mk ((by rw [hg]; exact Nat.ne_of_gt (Qt (g := gb193) (o := .cells #[.int .i64 a0_0, .int .i64 a0_1, .int .i64 a0_2, .int .i64 a0_3, .slice A0_4 l0_4.length c0_4] 100 (0, 0)) (by (with_reducible repeat (first | refine Qh ?_ _ | refine Qj ?_ | refine Qi ?_ _)); exact BK193.out)) : gb194 ≠ gb193)); clear BK193; clear HB; have BK193 := n0_; have HB := n1_; have BK194 := n2_; have GW194 := n3_; have GE194 := n4_; have NB193_194 := n5_; have NB194_193 := n6_; clear n0_ n1_ n2_ n3_ n4_ n5_ n6_; clear hb hbox hg; have hnb26 := NB193_194.out; have hnc26 := NB194_193.out; have hcz27_0 : w25.cell? ⟨gb193, 0, none⟩ = some (.int .i64 a0_0) := (Qa BK193.out 0).trans rfl; have hcz27_1 : w25.cell? ⟨gb193, 1, none⟩ = some (.int .i64 a0_1) := (Qa BK193.out 1).trans rfl; have hcz27_2 : w25.cell? ⟨gb193, 2, none⟩ = some (.int .i64 a0_2) := (Qa BK193.out 2).trans rfl; have hcz27_3 : w25.cell? ⟨gb193, 3, none⟩ = some (.int .i64 a0_3) := (Qa BK193.out 3).trans rfl; have hcz27_4 : w25.cell? ⟨gb193, 4, none⟩ = some (.slice A0_4 l0_4.length c0_4) := (Qa BK193.out 4).trans rfl; have hfz27_0 := Qc BK193.out 0; have hfz27_1 := Qc BK193.out 1; have hfz27_2 := Qc BK193.out 2; have hfz27_3 := Qc BK193.out 3; have hfz27_4 := Qc BK193.out 4; have hcz28_0 : w25.cell? ⟨gb194, 0, none⟩ = some (.int .i64 a1_0) := (Qa BK194.out 0).trans rfl; have hcz28_1 : w25.cell? ⟨gb194, 1, none⟩ = some (.int .i64 a1_1) := (Qa BK194.out 1).trans rfl; have hcz28_2 : w25.cell? ⟨gb194, 2, none⟩ = some (.int .i64 a1_2) := (Qa BK194.out 2).trans rfl; have hcz28_3 : w25.cell? ⟨gb194, 3, none⟩ = some (.int .i64 a1_3) := (Qa BK194.out 3).trans rfl; have hcz28_4 : w25.cell? ⟨gb194, 4, none⟩ = some (.slice A1_4 l1_4.length c1_4) := (Qa BK194.out 4).trans rfl; have hfz28_0 := Qc BK194.out 0; have hfz28_1 := Qc BK194.out 1; have hfz28_2 := Qc BK194.out 2; have hfz28_3 := Qc BK194.out 3; have hfz28_4 := Qc BK194.out 4))
    go_ret
    exact ⟨by first | rfl | (simp [Qn, Qm] <;> rfl) | (simp [*, Qn, Qm] <;> rfl), by repeat (first | (with_reducible first | exact HB.out | apply Qe | apply Qb | apply Qf | refine Qg ?_ GE193.out | refine Qg ?_ GE194.out) | exact HB.out)⟩
  ·rw [if_neg c4] at H
   have c4b0 : (a0_1 == a1_1) = false := beq_eq_false_iff_ne.mpr c4
   have c4b1 : (a0_1 != a1_1) = true := bne_iff_ne.mpr c4
   obtain rfl := Option.some.inj H
   go_enter Try.func125, Try.ntmps125
   go_wp2_with (first | ((with_reducible refine Qs (N := 2) rfl ?_); refine Qr ?hg (N := 2) ?hd (cs := #[.int .i64 a0_0, .int .i64 a0_1, .int .i64 a0_2, .int .i64 a0_3, .slice A0_4 l0_4.length c0_4]) (t := 100) ?hr ?_; (case hd => rfl); (case hg => rfl); (case hr => first | (go_simp; done) | (go_simp; rfl)); intro gb193 hg w29 hbox hb; have n0_ := Aside0.mk (Ql (by repeat (first | (with_reducible first | exact HB.out | apply Qe | apply Qb | apply Qf) | exact HB.out)) hb); have n1_ := Aside0.mk (hbox); have n2_ := Aside0.mk ((by rw [hg]; exact (Qk (by repeat (first | (with_reducible first | exact HB.out | apply Qe | apply Qb | apply Qf) | exact HB.out))) : w.heap.size ≤ gb193)); have n3_ := Aside0.mk ((by rw [hg]; exact (Qk (by repeat (first | (with_reducible first | exact HB.out | apply Qe | apply Qb | apply Qf) | exact HB.out))) : w.heap.size ≤ gb193)); clear HB; have HB := n0_; have BK193 := n1_; have GW193 := n2_; have GE193 := n3_; clear n0_ n1_ n2_ n3_; clear hb hbox hg) | ((with_reducible refine Qs (N := 3) rfl ?_); refine Qr ?hg (N := 3) ?hd (cs := #[.int .i64 a1_0, .int .i64 a1_1, .int .i64 a1_2, .int .i64 a1_3, .slice A1_4 l1_4.length c1_4]) (t := 100) ?hr ?_; (case hd => rfl); (case hg => rfl); (case hr => first | (go_simp; done) | (go_simp; rfl)); intro gb194 hg w30 hbox hb; have n0_ := Aside0.mk (Qo (g := gb193) (o := .cells #[.int .i64 a0_0, .int .i64 a0_1, .int .i64 a0_2, .int .i64 a0_3, .slice A0_4 l0_4.length c0_4] 100 (0, 0)) (by (with_reducible repeat (first | refine Qh ?_ _ | refine Qj ?_ | refine Qi ?_ _)); exact BK193.out) hb); have n1_ := Aside0.mk (Ql (by repeat (first | (with_reducible first | exact HB.out | apply Qe | apply Qb | apply Qf | refine Qg ?_ GE193.out) | exact HB.out)) hb); have n2_ := Aside0.mk (hbox); have n3_ := Aside0.mk ((by rw [hg]; exact (Qk (by repeat (first | (with_reducible first | exact HB.out | apply Qe | apply Qb | apply Qf | refine Qg ?_ GE193.out) | exact HB.out))) : w.heap.size ≤ gb194)); have n4_ := Aside0.mk ((by rw [hg]; exact (Qk (by repeat (first | (with_reducible first | exact HB.out | apply Qe | apply Qb | apply Qf | refine Qg ?_ GE193.out) | exact HB.out))) : w.heap.size ≤ gb194)); have n5_ := Aside0.mk ((by rw [hg]; exact Nat.ne_of_lt (Qt (g := gb193) (o := .cells #[.int .i64 a0_0, .int .i64 a0_1, .int .i64 a0_2, .int .i64 a0_3, .slice A0_4 l0_4.length c0_4] 100 (0, 0)) (by (with_reducible repeat (first | refine Qh ?_ _ | refine Qj ?_ | refine Qi ?_ _)); exact BK193.out)) : gb193 ≠ gb194)); have n6_ := Aside0.mk ((by rw [hg]; exact Nat.ne_of_gt (Qt (g := gb193) (o := .cells #[.int .i64 a0_0, .int .i64 a0_1, .int .i64 a0_2, .int .i64 a0_3, .slice A0_4 l0_4.length c0_4] 100 (0, 0)) (by (with_reducible repeat (first | refine Qh ?_ _ | refine Qj ?_ | refine Qi ?_ _)); exact BK193.out)) : gb194 ≠ gb193)); clear BK193; clear HB; have BK193 := n0_; have HB := n1_; have BK194 := n2_; have GW194 := n3_; have GE194 := n4_; have NB193_194 := n5_; have NB194_193 := n6_; clear n0_ n1_ n2_ n3_ n4_ n5_ n6_; clear hb hbox hg; have hnb31 := NB193_194.out; have hnc31 := NB194_193.out; have hcz32_0 : w30.cell? ⟨gb193, 0, none⟩ = some (.int .i64 a0_0) := (Qa BK193.out 0).trans rfl; have hcz32_1 : w30.cell? ⟨gb193, 1, none⟩ = some (.int .i64 a0_1) := (Qa BK193.out 1).trans rfl; have hcz32_2 : w30.cell? ⟨gb193, 2, none⟩ = some (.int .i64 a0_2) := (Qa BK193.out 2).trans rfl; have hcz32_3 : w30.cell? ⟨gb193, 3, none⟩ = some (.int .i64 a0_3) := (Qa BK193.out 3).trans rfl; have hcz32_4 : w30.cell? ⟨gb193, 4, none⟩ = some (.slice A0_4 l0_4.length c0_4) := (Qa BK193.out 4).trans rfl; have hfz32_0 := Qc BK193.out 0; have hfz32_1 := Qc BK193.out 1; have hfz32_2 := Qc BK193.out 2; have hfz32_3 := Qc BK193.out 3; have hfz32_4 := Qc BK193.out 4; have hcz33_0 : w30.cell? ⟨gb194, 0, none⟩ = some (.int .i64 a1_0) := (Qa BK194.out 0).trans rfl; have hcz33_1 : w30.cell? ⟨gb194, 1, none⟩ = some (.int .i64 a1_1) := (Qa BK194.out 1).trans rfl; have hcz33_2 : w30.cell? ⟨gb194, 2, none⟩ = some (.int .i64 a1_2) := (Qa BK194.out 2).trans rfl; have hcz33_3 : w30.cell? ⟨gb194, 3, none⟩ = some (.int .i64 a1_3) := (Qa BK194.out 3).trans rfl; have hcz33_4 : w30.cell? ⟨gb194, 4, none⟩ = some (.slice A1_4 l1_4.length c1_4) := (Qa BK194.out 4).trans rfl; have hfz33_0 := Qc BK194.out 0; have hfz33_1 := Qc BK194.out 1; have hfz33_2 := Qc BK194.out 2; have hfz33_3 := Qc BK194.out 3; have hfz33_4 := Qc BK194.out 4))
   go_ret
   exact ⟨by first | rfl | (simp [Qn, Qm] <;> rfl) | (simp [*, Qn, Qm] <;> rfl), by repeat (first | (with_reducible first | exact HB.out | apply Qe | apply Qb | apply Qf | refine Qg ?_ GE193.out | refine Qg ?_ GE194.out) | exact HB.out)⟩
 ·rw [if_neg c3] at H
  have c3b0 : (a0_0 == a1_0) = false := beq_eq_false_iff_ne.mpr c3
  have c3b1 : (a0_0 != a1_0) = true := bne_iff_ne.mpr c3
  obtain rfl := Option.some.inj H
  go_enter Try.func125, Try.ntmps125
  go_wp2_with (first | ((with_reducible refine Qs (N := 2) rfl ?_); refine Qr ?hg (N := 2) ?hd (cs := #[.int .i64 a0_0, .int .i64 a0_1, .int .i64 a0_2, .int .i64 a0_3, .slice A0_4 l0_4.length c0_4]) (t := 100) ?hr ?_; (case hd => rfl); (case hg => rfl); (case hr => first | (go_simp; done) | (go_simp; rfl)); intro gb193 hg w34 hbox hb; have n0_ := Aside0.mk (Ql (by repeat (first | (with_reducible first | exact HB.out | apply Qe | apply Qb | apply Qf) | exact HB.out)) hb); have n1_ := Aside0.mk (hbox); have n2_ := Aside0.mk ((by rw [hg]; exact (Qk (by repeat (first | (with_reducible first | exact HB.out | apply Qe | apply Qb | apply Qf) | exact HB.out))) : w.heap.size ≤ gb193)); have n3_ := Aside0.mk ((by rw [hg]; exact (Qk (by repeat (first | (with_reducible first | exact HB.out | apply Qe | apply Qb | apply Qf) | exact HB.out))) : w.heap.size ≤ gb193)); clear HB; have HB := n0_; have BK193 := n1_; have GW193 := n2_; have GE193 := n3_; clear n0_ n1_ n2_ n3_; clear hb hbox hg) | ((with_reducible refine Qs (N := 3) rfl ?_); refine Qr ?hg (N := 3) ?hd (cs := #[.int .i64 a1_0, .int .i64 a1_1, .int .i64 a1_2, .int .i64 a1_3, .slice A1_4 l1_4.length c1_4]) (t := 100) ?hr ?_; (case hd => rfl); (case hg => rfl); (case hr => first | (go_simp; done) | (go_simp; rfl)); intro gb194 hg w35 hbox hb; have n0_ := Aside0.mk (Qo (g := gb193) (o := .cells #[.int .i64 a0_0, .int .i64 a0_1, .int .i64 a0_2, .int .i64 a0_3, .slice A0_4 l0_4.length c0_4] 100 (0, 0)) (by (with_reducible repeat (first | refine Qh ?_ _ | refine Qj ?_ | refine Qi ?_ _)); exact BK193.out) hb); have n1_ := Aside0.mk (Ql (by repeat (first | (with_reducible first | exact HB.out | apply Qe | apply Qb | apply Qf | refine Qg ?_ GE193.out) | exact HB.out)) hb); have n2_ := Aside0.mk (hbox); have n3_ := Aside0.mk ((by rw [hg]; exact (Qk (by repeat (first | (with_reducible first | exact HB.out | apply Qe | apply Qb | apply Qf | refine Qg ?_ GE193.out) | exact HB.out))) : w.heap.size ≤ gb194)); have n4_ := Aside0.mk ((by rw [hg]; exact (Qk (by repeat (first | (with_reducible first | exact HB.out | apply Qe | apply Qb | apply Qf | refine Qg ?_ GE193.out) | exact HB.out))) : w.heap.size ≤ gb194)); have n5_ := Aside0.mk ((by rw [hg]; exact Nat.ne_of_lt (Qt (g := gb193) (o := .cells #[.int .i64 a0_0, .int .i64 a0_1, .int .i64 a0_2, .int .i64 a0_3, .slice A0_4 l0_4.length c0_4] 100 (0, 0)) (by (with_reducible repeat (first | refine Qh ?_ _ | refine Qj ?_ | refine Qi ?_ _)); exact BK193.out)) : gb193 ≠ gb194)); have n6_ := Aside0.mk ((by rw [hg]; exact Nat.ne_of_gt (Qt (g := gb193) (o := .cells #[.int .i64 a0_0, .int .i64 a0_1, .int .i64 a0_2, .int .i64 a0_3, .slice A0_4 l0_4.length c0_4] 100 (0, 0)) (by (with_reducible repeat (first | refine Qh ?_ _ | refine Qj ?_ | refine Qi ?_ _)); exact BK193.out)) : gb194 ≠ gb193)); clear BK193; clear HB; have BK193 := n0_; have HB := n1_; have BK194 := n2_; have GW194 := n3_; have GE194 := n4_; have NB193_194 := n5_; have NB194_193 := n6_; clear n0_ n1_ n2_ n3_ n4_ n5_ n6_; clear hb hbox hg; have hnb36 := NB193_194.out; have hnc36 := NB194_193.out; have hcz37_0 : w35.cell? ⟨gb193, 0, none⟩ = some (.int .i64 a0_0) := (Qa BK193.out 0).trans rfl; have hcz37_1 : w35.cell? ⟨gb193, 1, none⟩ = some (.int .i64 a0_1) := (Qa BK193.out 1).trans rfl; have hcz37_2 : w35.cell? ⟨gb193, 2, none⟩ = some (.int .i64 a0_2) := (Qa BK193.out 2).trans rfl; have hcz37_3 : w35.cell? ⟨gb193, 3, none⟩ = some (.int .i64 a0_3) := (Qa BK193.out 3).trans rfl; have hcz37_4 : w35.cell? ⟨gb193, 4, none⟩ = some (.slice A0_4 l0_4.length c0_4) := (Qa BK193.out 4).trans rfl; have hfz37_0 := Qc BK193.out 0; have hfz37_1 := Qc BK193.out 1; have hfz37_2 := Qc BK193.out 2; have hfz37_3 := Qc BK193.out 3; have hfz37_4 := Qc BK193.out 4; have hcz38_0 : w35.cell? ⟨gb194, 0, none⟩ = some (.int .i64 a1_0) := (Qa BK194.out 0).trans rfl; have hcz38_1 : w35.cell? ⟨gb194, 1, none⟩ = some (.int .i64 a1_1) := (Qa BK194.out 1).trans rfl; have hcz38_2 : w35.cell? ⟨gb194, 2, none⟩ = some (.int .i64 a1_2) := (Qa BK194.out 2).trans rfl; have hcz38_3 : w35.cell? ⟨gb194, 3, none⟩ = some (.int .i64 a1_3) := (Qa BK194.out 3).trans rfl; have hcz38_4 : w35.cell? ⟨gb194, 4, none⟩ = some (.slice A1_4 l1_4.length c1_4) := (Qa BK194.out 4).trans rfl; have hfz38_0 := Qc BK194.out 0; have hfz38_1 := Qc BK194.out 1; have hfz38_2 := Qc BK194.out 2; have hfz38_3 := Qc BK194.out 3; have hfz38_4 := Qc BK194.out 4))
  go_ret
  exact ⟨by first | rfl | (simp [Qn, Qm] <;> rfl) | (simp [*, Qn, Qm] <;> rfl), by repeat (first | (with_reducible first | exact HB.out | apply Qe | apply Qb | apply Qf | refine Qg ?_ GE193.out | refine Qg ?_ GE194.out) | exact HB.out)⟩
end Go.Proofs.Ytmgmaflfednngaa.PFnExactTellerNew
