-- A copy, made by trim.py (its own words shortened): not an official print.
import Derived.Test.YtmgmaflfednngaaZExactTellerNewPFnExactTellerNewx0
import Derived.Test.YtmgmaflfednngaaZExactTellerNewPFnExactTellerNewx8
import Derived.Test.YtmgmaflfednngaaZExactTellerNewPFnExactTellerNewx9
namespace Go.Proofs.Ytmgmaflfednngaa.PFnExactTellerNew
open Go.RowKit Go.Proofs.YtmgmaflfednngaaW.PrintWords Go.Proofs.YtmgmaflfednngaaW.PrintLast Go.Proofs.YtmgmaflfednngaaW.PrintMore
attribute [local go_sem] max2_int min2_int max_two min_two max_three min_three max_four min_four   -- for this text's walks alone
set_option linter.unusedVariables false
set_option linter.unusedSimpArgs false
def laws_heldStringS.l0 : Nat → List ByteArray → Int → Int → Option (Int)
 | 0, _, _, _ => none
 | k + 1, x0, x1, x5 => if x5 < (x0.length : Int) then (if 0 ≤ x5 then ((laws_markText.f k x1).bind fun t232 => (if (rdOf ByteArray.empty x0 x5).toList = t232.toList then (laws_heldStringS.l0 k x0 (wrap64 (x1 + 1)) (wrap64 (x5 + 1))) else (some (-1)))) else (none)) else (some x1)
def laws_heldStringS.f (k : Nat) (l0 : List ByteArray) (a1 : Int) : Option (Int) := laws_heldStringS.l0 k l0 a1 0
theorem laws_heldStringS.mono_l : ∀ k, (∀ y0 y1 y2, LeO (laws_heldStringS.l0 k y0 y1 y2) (laws_heldStringS.l0 (k + 1) y0 y1 y2))
 | 0 => fun _ _ _ r h => by simp [laws_heldStringS.l0] at h
 | k + 1 => by
  have ih0 := laws_heldStringS.mono_l k
  ·intro y0 y1 y2
   unfold laws_heldStringS.l0
   repeat' first
   | (with_reducible exact ih0 _ _ _)
   | (with_reducible exact laws_markText.mono _ _)
   | (with_reducible exact LeO.refl _)
   | (with_reducible exact LeO.none _)
   | (with_reducible refine LeO.ite ?_ ?_)
   | (with_reducible refine LeO.bind ?_ (fun _ => ?_))
   | exact ih0 _ _ _
   | exact laws_markText.mono _ _
   | exact LeO.none _
   | refine LeO.ite ?_ ?_
   | refine LeO.bind ?_ (fun _ => ?_)
theorem laws_heldStringS.mono : ∀ a0 a1 k, LeO (laws_heldStringS.f k a0 a1) (laws_heldStringS.f (k + 1) a0 a1) := by
 intro a0 a1 k
 have ih0 := laws_heldStringS.mono_l k
 unfold laws_heldStringS.f
 repeat' first
   | (with_reducible exact ih0 _ _ _)
   | (with_reducible exact laws_markText.mono _ _)
   | (with_reducible exact LeO.refl _)
   | (with_reducible exact LeO.none _)
   | (with_reducible refine LeO.ite ?_ ?_)
   | (with_reducible refine LeO.bind ?_ (fun _ => ?_))
   | exact ih0 _ _ _
   | exact laws_markText.mono _ _
   | exact LeO.none _
   | refine LeO.ite ?_ ?_
   | refine LeO.bind ?_ (fun _ => ?_)
set_option maxHeartbeats 8000000 in
set_option maxRecDepth 100000 in
theorem laws_heldStringS.calls (k : Nat) (A0 : Option Addr) (c0 : Nat) (l0 : List ByteArray) (a1 : Int) (r : Int) (w : World) (hr0 : Kd.C Kd.string w A0 l0.length l0) (hc0 : l0.length ≤ c0) (h : laws_heldStringS.f k l0 a1 = some r) :
  Calls Try.prog 159 #[.slice A0 l0.length c0, .int .i64 a1] w fun e w' => e = .returned (.int .i64 r) ∧ Below w.heap.size w w' := by
 have HR0 := Aside0.mk hr0
 have HC0 := Aside0.mk hc0
 clear hr0 hc0
 have HB := Aside0.mk (Below.refl w.heap.size w)
 have H : (laws_heldStringS.l0 k l0 a1 0) = some r := h
 clear h
 have H' := Aside0.mk H
 clear H
 go_enter Try.func159, Try.ntmps159
 go_wp2
 go_loopg [1, 5] k (fun kq v1 v5 w' => ∃ (x1_1 : Int) (x5_1 : Int), v1 = .int .i64 x1_1 ∧ v5 = .int .i64 x5_1 ∧ Aside0 (laws_heldStringS.l0 kq l0 x1_1 x5_1 = some r) ∧ Aside0 (kq ≤ k) ∧ Aside0 (Below w.heap.size w w'))
 case atStart => exact ⟨(a1), (0), (by first | rfl | (simp; done) | (simp [*]; done)), (by first | rfl | (simp; done) | (simp [*]; done)), H', ⟨Nat.le_refl _⟩, ⟨by repeat (first | (with_reducible first | exact HB.out | apply Qe | apply Qb | apply Qf) | exact HB.out)⟩⟩
 case round =>
  clear H'
  try clear c1
  try clear p2
  obtain ⟨x1_1, x5_1, rfl, rfl, HA, HK1, HB⟩ := hrel
  cases gk with
  | zero => exact absurd HA.out (by simp [laws_heldStringS.l0])
  | succ k1 =>
   have H := HA.out
   clear HA
   simp only [laws_heldStringS.l0] at H
   by_cases c3 : x5_1 < (l0.length : Int)
   ·rw [if_pos c3] at H
    have c3b0 : decide (x5_1 < (l0.length : Int)) = true := decide_eq_true c3
    clear c3
    by_cases c4 : 0 ≤ x5_1
    ·rw [if_pos c4] at H
     have c4b0 : decide (0 ≤ x5_1) = true := decide_eq_true c4
     clear c4
     replace H := Option.bind_eq_some_iff.mp H
     obtain ⟨t232, A50, H⟩ := H
     replace H : (if (rdOf ByteArray.empty l0 x5_1).toList = t232.toList then (laws_heldStringS.l0 k1 l0 (wrap64 (x1_1 + 1)) (wrap64 (x5_1 + 1))) else (some (-1))) = some r := H
     have A5 := Aside0.mk A50
     clear A50
     by_cases c6 : (rdOf ByteArray.empty l0 x5_1).toList = t232.toList
     ·rw [if_pos c6] at H
      have c6b0 : ((rdOf ByteArray.empty l0 x5_1).toList == t232.toList) = true := beq_iff_eq.mpr c6
      have c6b1 : ((rdOf ByteArray.empty l0 x5_1).toList != t232.toList) = false := bne_eq_false_iff_eq.mpr c6
      clear c6
      have H' := Aside0.mk H
      clear H
      try go_wp2
      have n0_ := Aside0.mk (Qf HB.out)
      clear HB
      have HB := n0_
      clear n0_
      have p231 : 0 ≤ (x5_1 : Int) := of_decide_eq_true (by assumption)
      have q231 : x5_1 < (l0.length : Int) := of_decide_eq_true (by assumption)
      obtain ⟨ad231, e231, hx231_0⟩ := Kd.at_string HR0.out x5_1 p231 q231
      have hw231_0 := hx231_0
      cases e231
      replace hx231_0 := (HB.out.cell (World.block_lt_of_cell? w _ hx231_0)).trans hx231_0
      replace p231 := eq_true p231
      replace q231 := eq_true q231
      refine start_ (n := 7) (S := fun w' => w'.cell? (ad231.add (x5_1).toNat) = some (.string (rdOf ByteArray.empty l0 x5_1))) (ds := []) #[false, false, false, false, false, false, false] (by kernel_rfl) rfl rfl (((HB.out.cell (World.block_lt_of_cell? w _ hw231_0)).trans hw231_0)) (fun hHeld => ?_)
      generalize wr.drew = w7 at HB hx231_0 hHeld ⊢
      refine Q1 (i := 0) (N := some 12) (v := ?_) (a' := ?_) #[true, false, false, false, false, false, false] rfl rfl (by kernel_rfl) (fun _ _ _ h => h) (Or.inl ⟨by rfl, ?_⟩) ?_ ?_
      rotate_left
      ·intro w'
       go_simp
       with_reducible rfl
      rotate_left
      ·simp only [Act.put, List.setIfInBounds_toArray, List.set_cons_zero, List.set_cons_succ, Qu, Qv]
       rfl
      refine Q1 (i := 1) (N := some 13) (v := ?_) (a' := ?_) #[true, true, false, false, false, false, false] rfl rfl (by kernel_rfl) (fun _ _ _ h => h) (Or.inl ⟨by rfl, ?_⟩) ?_ ?_
      rotate_left
      ·intro w'
       go_simp
       with_reducible rfl
      rotate_left
      ·simp only [Act.put, List.setIfInBounds_toArray, List.set_cons_zero, List.set_cons_succ, Qu, Qv]
       rfl
      refine Q1 (i := 2) (N := some 14) (v := ?_) (a' := ?_) #[true, true, true, false, false, false, false] rfl rfl (by kernel_rfl) (fun _ _ _ h => h) (Or.inl ⟨by rfl, ?_⟩) ?_ ?_
      rotate_left
      ·intro w'
       go_simp
       with_reducible rfl
      rotate_left
      ·simp only [Act.put, List.setIfInBounds_toArray, List.set_cons_zero, List.set_cons_succ, Qu, Qv]
       rfl
      refine Q1 (i := 4) (N := some 16) (v := ?_) (a' := ?_) #[true, true, true, false, true, false, false] rfl rfl (by kernel_rfl) (fun _ _ _ h => h) (Or.inl ⟨by rfl, ?_⟩) ?_ ?_
      rotate_left
      ·intro w'
       go_simp
       with_reducible rfl
      rotate_left
      ·simp only [Act.put, List.setIfInBounds_toArray, List.set_cons_zero, List.set_cons_succ, Qu, Qv]
       rfl
      refine take_ (i := 3) (N := some 15) (v := ?_) (a' := ?_) #[true, true, true, true, true, false, false] rfl rfl (by kernel_rfl) (fun _ _ _ h => h) (Or.inl ⟨by rfl, ?_⟩) hHeld ?_ ?_
      rotate_left
      ·intro w' s0
       go_simp
       with_reducible rfl
      rotate_left
      ·simp only [Act.put, List.setIfInBounds_toArray, List.set_cons_zero, List.set_cons_succ, Qu, Qv]
       rfl
      refine one_ (i := 5) (N := some 17) #[true, true, true, true, true, true, false] rfl rfl (by kernel_rfl) (by decide) (fun K hK => ?_)
      refine goes_ Try.func155 (by kernel_rfl) rfl #[.int .i64 x1_1] (by rfl) rfl rfl (by (try simp only [List.map_toArray, List.map_cons, List.map_nil]); first | done | rfl | (simp only [List.length_drop, List.length_take]; rfl)) ?_
      with_reducible refine (laws_markText.calls k1 x1_1 t232 _ A5.out).mono ?_
      rintro e w8 ⟨rfl, hb⟩
      refine ⟨_, rfl, ?_⟩
      have n0_ := Aside0.mk (Ql (by repeat (first | (with_reducible first | exact HB.out | apply Qe | apply Qb | apply Qf) | exact HB.out)) hb)
      clear HB
      have HB := n0_
      clear n0_
      (try clear hb)
      (try clear hb2)
      (try clear hk)
      (try clear hi)
      refine hK.out _ _ (((HB.out.cell (World.block_lt_of_cell? w _ hw231_0)).trans hw231_0)) (fun hHeld => ?_)
      clear hK K
      refine norm_ (a' := ?_) ?_ ?_
      rotate_left
      ·show Act.put _ (some 17) _ = _
       simp only [Act.put, List.setIfInBounds_toArray, List.set_cons_zero, List.set_cons_succ, Qu, Qv]
       rfl
      refine Q1 (i := 6) (N := some 18) (v := ?_) (a' := ?_) #[true, true, true, true, true, true, true] rfl rfl (by kernel_rfl) (fun _ _ _ h => h) (Or.inl ⟨by rfl, ?_⟩) ?_ ?_
      rotate_left
      ·intro w'
       go_simp
       with_reducible rfl
      rotate_left
      ·simp only [Act.put, List.setIfInBounds_toArray, List.set_cons_zero, List.set_cons_succ, Qu, Qv]
       rfl
      refine done_ (by kernel_rfl) ?_
      try go_wp2
      go_roundg k1
      case measure => have := HK1.out; omega
      case rel => exact ⟨(wrap64 (x1_1 + 1)), (wrap64 (x5_1 + 1)), (by first | rfl | (simp; done) | (simp [*]; done)), (by first | rfl | (simp; done) | (simp [*]; done)), H', ⟨by have := HK1.out; omega⟩, ⟨by repeat (first | (with_reducible first | exact HB.out | apply Qe | apply Qb | apply Qf) | exact HB.out)⟩⟩
     ·rw [if_neg c6] at H
      have c6b0 : ((rdOf ByteArray.empty l0 x5_1).toList == t232.toList) = false := beq_eq_false_iff_ne.mpr c6
      have c6b1 : ((rdOf ByteArray.empty l0 x5_1).toList != t232.toList) = true := bne_iff_ne.mpr c6
      obtain rfl := Option.some.inj H
      try go_wp2
      have n0_ := Aside0.mk (Qf HB.out)
      clear HB
      have HB := n0_
      clear n0_
      have p231 : 0 ≤ (x5_1 : Int) := of_decide_eq_true (by assumption)
      have q231 : x5_1 < (l0.length : Int) := of_decide_eq_true (by assumption)
      obtain ⟨ad231, e231, hx231_0⟩ := Kd.at_string HR0.out x5_1 p231 q231
      have hw231_0 := hx231_0
      cases e231
      replace hx231_0 := (HB.out.cell (World.block_lt_of_cell? w _ hx231_0)).trans hx231_0
      replace p231 := eq_true p231
      replace q231 := eq_true q231
      refine start_ (n := 7) (S := fun w' => w'.cell? (ad231.add (x5_1).toNat) = some (.string (rdOf ByteArray.empty l0 x5_1))) (ds := []) #[false, false, false, false, false, false, false] (by kernel_rfl) rfl rfl (((HB.out.cell (World.block_lt_of_cell? w _ hw231_0)).trans hw231_0)) (fun hHeld => ?_)
      generalize wr.drew = w9 at HB hx231_0 hHeld ⊢
      refine Q1 (i := 0) (N := some 12) (v := ?_) (a' := ?_) #[true, false, false, false, false, false, false] rfl rfl (by kernel_rfl) (fun _ _ _ h => h) (Or.inl ⟨by rfl, ?_⟩) ?_ ?_
      rotate_left
      ·intro w'
       go_simp
       with_reducible rfl
      rotate_left
      ·simp only [Act.put, List.setIfInBounds_toArray, List.set_cons_zero, List.set_cons_succ, Qu, Qv]
       rfl
      refine Q1 (i := 1) (N := some 13) (v := ?_) (a' := ?_) #[true, true, false, false, false, false, false] rfl rfl (by kernel_rfl) (fun _ _ _ h => h) (Or.inl ⟨by rfl, ?_⟩) ?_ ?_
      rotate_left
      ·intro w'
       go_simp
       with_reducible rfl
      rotate_left
      ·simp only [Act.put, List.setIfInBounds_toArray, List.set_cons_zero, List.set_cons_succ, Qu, Qv]
       rfl
      refine Q1 (i := 2) (N := some 14) (v := ?_) (a' := ?_) #[true, true, true, false, false, false, false] rfl rfl (by kernel_rfl) (fun _ _ _ h => h) (Or.inl ⟨by rfl, ?_⟩) ?_ ?_
      rotate_left
      ·intro w'
       go_simp
       with_reducible rfl
      rotate_left
      ·simp only [Act.put, List.setIfInBounds_toArray, List.set_cons_zero, List.set_cons_succ, Qu, Qv]
       rfl
      refine Q1 (i := 4) (N := some 16) (v := ?_) (a' := ?_) #[true, true, true, false, true, false, false] rfl rfl (by kernel_rfl) (fun _ _ _ h => h) (Or.inl ⟨by rfl, ?_⟩) ?_ ?_
      rotate_left
      ·intro w'
       go_simp
       with_reducible rfl
      rotate_left
      ·simp only [Act.put, List.setIfInBounds_toArray, List.set_cons_zero, List.set_cons_succ, Qu, Qv]
       rfl
      refine take_ (i := 3) (N := some 15) (v := ?_) (a' := ?_) #[true, true, true, true, true, false, false] rfl rfl (by kernel_rfl) (fun _ _ _ h => h) (Or.inl ⟨by rfl, ?_⟩) hHeld ?_ ?_
      rotate_left
      ·intro w' s0
       go_simp
       with_reducible rfl
      rotate_left
      ·simp only [Act.put, List.setIfInBounds_toArray, List.set_cons_zero, List.set_cons_succ, Qu, Qv]
       rfl
      refine one_ (i := 5) (N := some 17) #[true, true, true, true, true, true, false] rfl rfl (by kernel_rfl) (by decide) (fun K hK => ?_)
      refine goes_ Try.func155 (by kernel_rfl) rfl #[.int .i64 x1_1] (by rfl) rfl rfl (by (try simp only [List.map_toArray, List.map_cons, List.map_nil]); first | done | rfl | (simp only [List.length_drop, List.length_take]; rfl)) ?_
      with_reducible refine (laws_markText.calls k1 x1_1 t232 _ A5.out).mono ?_
      rintro e w10 ⟨rfl, hb⟩
      refine ⟨_, rfl, ?_⟩
      have n0_ := Aside0.mk (Ql (by repeat (first | (with_reducible first | exact HB.out | apply Qe | apply Qb | apply Qf) | exact HB.out)) hb)
      clear HB
      have HB := n0_
      clear n0_
      (try clear hb)
      (try clear hb2)
      (try clear hk)
      (try clear hi)
      refine hK.out _ _ (((HB.out.cell (World.block_lt_of_cell? w _ hw231_0)).trans hw231_0)) (fun hHeld => ?_)
      clear hK K
      refine norm_ (a' := ?_) ?_ ?_
      rotate_left
      ·show Act.put _ (some 17) _ = _
       simp only [Act.put, List.setIfInBounds_toArray, List.set_cons_zero, List.set_cons_succ, Qu, Qv]
       rfl
      refine Q1 (i := 6) (N := some 18) (v := ?_) (a' := ?_) #[true, true, true, true, true, true, true] rfl rfl (by kernel_rfl) (fun _ _ _ h => h) (Or.inl ⟨by rfl, ?_⟩) ?_ ?_
      rotate_left
      ·intro w'
       go_simp
       with_reducible rfl
      rotate_left
      ·simp only [Act.put, List.setIfInBounds_toArray, List.set_cons_zero, List.set_cons_succ, Qu, Qv]
       rfl
      refine done_ (by kernel_rfl) ?_
      try go_wp2
      go_ret
      exact ⟨by first | rfl | (simp [Qn, Qm] <;> rfl) | (simp [*, Qn, Qm] <;> rfl), by repeat (first | (with_reducible first | exact HB.out | apply Qe | apply Qb | apply Qf) | exact HB.out)⟩
    ·rw [if_neg c4] at H
     exact absurd H (by simp)
   ·rw [if_neg c3] at H
    have c3b0 : decide (x5_1 < (l0.length : Int)) = false := decide_eq_false c3
    clear c3
    obtain rfl := Option.some.inj H
    go_wp2
    go_ret
    exact ⟨by first | rfl | (simp [Qn, Qm] <;> rfl) | (simp [*, Qn, Qm] <;> rfl), by repeat (first | (with_reducible first | exact HB.out | apply Qe | apply Qb | apply Qf) | exact HB.out)⟩
def laws_heldPipeS.l0 : Nat → List (S100) → Int → Int → Option (Int)
 | 0, _, _, _ => none
 | k + 1, x0, x1, x5 => if x5 < (x0.length : Int) then (if 0 ≤ x5 then (if ((Qp x0 x5).f0) = x1 then (if ((Qp x0 x5).f1) = (wrap64 (x1 + 1)) then (if ((Qp x0 x5).f2) = (wrap64 ((wrap64 (x1 + 1)) + 1)) then (if ((Qp x0 x5).f3) = (wrap64 ((wrap64 ((wrap64 (x1 + 1)) + 1)) + 1)) then ((laws_heldStringS.f k ((Qp x0 x5).f4) (wrap64 ((wrap64 ((wrap64 ((wrap64 (x1 + 1)) + 1)) + 1)) + 1))).bind fun t238 => (if t238 < 0 then (some (-1)) else (laws_heldPipeS.l0 k x0 t238 (wrap64 (x5 + 1))))) else (some (-1))) else (some (-1))) else (some (-1))) else (some (-1))) else (none)) else (some x1)
def laws_heldPipeS.f (k : Nat) (l0 : List (S100)) (a1 : Int) : Option (Int) := laws_heldPipeS.l0 k l0 a1 0
theorem laws_heldPipeS.mono_l : ∀ k, (∀ y0 y1 y2, LeO (laws_heldPipeS.l0 k y0 y1 y2) (laws_heldPipeS.l0 (k + 1) y0 y1 y2))
 | 0 => fun _ _ _ r h => by simp [laws_heldPipeS.l0] at h
 | k + 1 => by
  have ih0 := laws_heldPipeS.mono_l k
  ·intro y0 y1 y2
   unfold laws_heldPipeS.l0
   repeat' first
   | (with_reducible exact ih0 _ _ _)
   | (with_reducible exact laws_heldStringS.mono _ _ _)
   | (with_reducible exact LeO.refl _)
   | (with_reducible exact LeO.none _)
   | (with_reducible refine LeO.ite ?_ ?_)
   | (with_reducible refine LeO.bind ?_ (fun _ => ?_))
   | exact ih0 _ _ _
   | exact laws_heldStringS.mono _ _ _
   | exact LeO.none _
   | refine LeO.ite ?_ ?_
   | refine LeO.bind ?_ (fun _ => ?_)
theorem laws_heldPipeS.mono : ∀ a0 a1 k, LeO (laws_heldPipeS.f k a0 a1) (laws_heldPipeS.f (k + 1) a0 a1) := by
 intro a0 a1 k
 have ih0 := laws_heldPipeS.mono_l k
 unfold laws_heldPipeS.f
 repeat' first
   | (with_reducible exact ih0 _ _ _)
   | (with_reducible exact laws_heldStringS.mono _ _ _)
   | (with_reducible exact LeO.refl _)
   | (with_reducible exact LeO.none _)
   | (with_reducible refine LeO.ite ?_ ?_)
   | (with_reducible refine LeO.bind ?_ (fun _ => ?_))
   | exact ih0 _ _ _
   | exact laws_heldStringS.mono _ _ _
   | exact LeO.none _
   | refine LeO.ite ?_ ?_
   | refine LeO.bind ?_ (fun _ => ?_)
set_option maxHeartbeats 8000000 in
set_option maxRecDepth 100000 in
theorem laws_heldPipeS.calls (k : Nat) (A0 : Option Addr) (c0 : Nat) (l0 : List (S100)) (a1 : Int) (r : Int) (w : World) (hr0 : Kd.C k100 w A0 l0.length l0) (hc0 : l0.length ≤ c0) (h : laws_heldPipeS.f k l0 a1 = some r) :
  Calls Try.prog 133 #[.slice A0 l0.length c0, .int .i64 a1] w fun e w' => e = .returned (.int .i64 r) ∧ Below w.heap.size w w' := by
 have HR0 := Aside0.mk hr0
 have HC0 := Aside0.mk hc0
 clear hr0 hc0
 have HB := Aside0.mk (Below.refl w.heap.size w)
 have H : (laws_heldPipeS.l0 k l0 a1 0) = some r := h
 clear h
 have H' := Aside0.mk H
 clear H
 go_enter Try.func133, Try.ntmps133
 go_wp2
 go_loopg [1, 5] k (fun kq v1 v5 w' => ∃ (x1_1 : Int) (x5_1 : Int), v1 = .int .i64 x1_1 ∧ v5 = .int .i64 x5_1 ∧ Aside0 (laws_heldPipeS.l0 kq l0 x1_1 x5_1 = some r) ∧ Aside0 (kq ≤ k) ∧ Aside0 (Below w.heap.size w w'))
 case atStart => exact ⟨(a1), (0), (by first | rfl | (simp; done) | (simp [*]; done)), (by first | rfl | (simp; done) | (simp [*]; done)), H', ⟨Nat.le_refl _⟩, ⟨by repeat (first | (with_reducible first | exact HB.out | apply Qe | apply Qb | apply Qf) | exact HB.out)⟩⟩
 case round =>
  clear H'
  try clear c1
  try clear p2
  obtain ⟨x1_1, x5_1, rfl, rfl, HA, HK1, HB⟩ := hrel
  cases gk with
  | zero => exact absurd HA.out (by simp [laws_heldPipeS.l0])
  | succ k1 =>
   have H := HA.out
   clear HA
   simp only [laws_heldPipeS.l0] at H
   by_cases c3 : x5_1 < (l0.length : Int)
   ·rw [if_pos c3] at H
    have c3b0 : decide (x5_1 < (l0.length : Int)) = true := decide_eq_true c3
    clear c3
    by_cases c4 : 0 ≤ x5_1
    ·rw [if_pos c4] at H
     have c4b0 : decide (0 ≤ x5_1) = true := decide_eq_true c4
     clear c4
     by_cases c5 : ((Qp l0 x5_1).f0) = x1_1
     ·rw [if_pos c5] at H
      have c5b0 : (((Qp l0 x5_1).f0) == x1_1) = true := beq_iff_eq.mpr c5
      have c5b1 : (((Qp l0 x5_1).f0) != x1_1) = false := bne_eq_false_iff_eq.mpr c5
      clear c5
      by_cases c6 : ((Qp l0 x5_1).f1) = (wrap64 (x1_1 + 1))
      ·rw [if_pos c6] at H
       have c6b0 : (((Qp l0 x5_1).f1) == (wrap64 (x1_1 + 1))) = true := beq_iff_eq.mpr c6
       have c6b1 : (((Qp l0 x5_1).f1) != (wrap64 (x1_1 + 1))) = false := bne_eq_false_iff_eq.mpr c6
       clear c6
       by_cases c7 : ((Qp l0 x5_1).f2) = (wrap64 ((wrap64 (x1_1 + 1)) + 1))
       ·rw [if_pos c7] at H
        have c7b0 : (((Qp l0 x5_1).f2) == (wrap64 ((wrap64 (x1_1 + 1)) + 1))) = true := beq_iff_eq.mpr c7
        have c7b1 : (((Qp l0 x5_1).f2) != (wrap64 ((wrap64 (x1_1 + 1)) + 1))) = false := bne_eq_false_iff_eq.mpr c7
        clear c7
        by_cases c8 : ((Qp l0 x5_1).f3) = (wrap64 ((wrap64 ((wrap64 (x1_1 + 1)) + 1)) + 1))
        ·rw [if_pos c8] at H
         have c8b0 : (((Qp l0 x5_1).f3) == (wrap64 ((wrap64 ((wrap64 (x1_1 + 1)) + 1)) + 1))) = true := beq_iff_eq.mpr c8
         have c8b1 : (((Qp l0 x5_1).f3) != (wrap64 ((wrap64 ((wrap64 (x1_1 + 1)) + 1)) + 1))) = false := bne_eq_false_iff_eq.mpr c8
         clear c8
         replace H := Option.bind_eq_some_iff.mp H
         obtain ⟨t238, A90, H⟩ := H
         replace H : (if t238 < 0 then (some (-1)) else (laws_heldPipeS.l0 k1 l0 t238 (wrap64 (x5_1 + 1)))) = some r := H
         have A9 := Aside0.mk A90
         clear A90
         by_cases c10 : t238 < 0
         ·rw [if_pos c10] at H
          have c10b0 : decide (t238 < 0) = true := decide_eq_true c10
          clear c10
          obtain rfl := Option.some.inj H
          have p233 : 0 ≤ (x5_1 : Int) := of_decide_eq_true (by assumption)
          have q233 : x5_1 < (l0.length : Int) := of_decide_eq_true (by assumption)
          obtain ⟨ad233, A233_4, c233_4, e233, hx233_0, hx233_1, hx233_2, hx233_3, hx233_4, hl233_4, hi233_4⟩ := at_T100 HR0.out x5_1 p233 q233
          cases e233
          replace hx233_0 := (HB.out.cell (World.block_lt_of_cell? w _ hx233_0)).trans hx233_0
          replace hx233_1 := (HB.out.cell (World.block_lt_of_cell? w _ hx233_1)).trans hx233_1
          replace hx233_2 := (HB.out.cell (World.block_lt_of_cell? w _ hx233_2)).trans hx233_2
          replace hx233_3 := (HB.out.cell (World.block_lt_of_cell? w _ hx233_3)).trans hx233_3
          replace hx233_4 := (HB.out.cell (World.block_lt_of_cell? w _ hx233_4)).trans hx233_4
          have HR233_4 := Aside0.mk hi233_4
          have HC233_4 := Aside0.mk hl233_4
          clear hi233_4 hl233_4
          replace p233 := eq_true p233
          replace q233 := eq_true q233
          have p234 : 0 ≤ (x5_1 : Int) := of_decide_eq_true (by assumption)
          have q234 : x5_1 < (l0.length : Int) := of_decide_eq_true (by assumption)
          obtain ⟨ad234, A234_4, c234_4, e234, hx234_0, hx234_1, hx234_2, hx234_3, hx234_4, hl234_4, hi234_4⟩ := at_T100 HR0.out x5_1 p234 q234
          obtain rfl : ad233 = ad234 := (by injection e234)
          replace hx234_0 := (HB.out.cell (World.block_lt_of_cell? w _ hx234_0)).trans hx234_0
          replace hx234_1 := (HB.out.cell (World.block_lt_of_cell? w _ hx234_1)).trans hx234_1
          replace hx234_2 := (HB.out.cell (World.block_lt_of_cell? w _ hx234_2)).trans hx234_2
          replace hx234_3 := (HB.out.cell (World.block_lt_of_cell? w _ hx234_3)).trans hx234_3
          replace hx234_4 := (HB.out.cell (World.block_lt_of_cell? w _ hx234_4)).trans hx234_4
          have HR234_4 := Aside0.mk hi234_4
          have HC234_4 := Aside0.mk hl234_4
          clear hi234_4 hl234_4
          replace p234 := eq_true p234
          replace q234 := eq_true q234
          have ea_ := Option.some.inj (hx233_4.symm.trans hx234_4)
          injection ea_ with ea_ en_ ec_
          subst ea_
          subst ec_
          clear en_
          have p235 : 0 ≤ (x5_1 : Int) := of_decide_eq_true (by assumption)
          have q235 : x5_1 < (l0.length : Int) := of_decide_eq_true (by assumption)
          obtain ⟨ad235, A235_4, c235_4, e235, hx235_0, hx235_1, hx235_2, hx235_3, hx235_4, hl235_4, hi235_4⟩ := at_T100 HR0.out x5_1 p235 q235
          obtain rfl : ad233 = ad235 := (by injection e235)
          replace hx235_0 := (HB.out.cell (World.block_lt_of_cell? w _ hx235_0)).trans hx235_0
          replace hx235_1 := (HB.out.cell (World.block_lt_of_cell? w _ hx235_1)).trans hx235_1
          replace hx235_2 := (HB.out.cell (World.block_lt_of_cell? w _ hx235_2)).trans hx235_2
          replace hx235_3 := (HB.out.cell (World.block_lt_of_cell? w _ hx235_3)).trans hx235_3
          replace hx235_4 := (HB.out.cell (World.block_lt_of_cell? w _ hx235_4)).trans hx235_4
          have HR235_4 := Aside0.mk hi235_4
          have HC235_4 := Aside0.mk hl235_4
          clear hi235_4 hl235_4
          replace p235 := eq_true p235
          replace q235 := eq_true q235
          have ea_ := Option.some.inj (hx233_4.symm.trans hx235_4)
          injection ea_ with ea_ en_ ec_
          subst ea_
          subst ec_
          clear en_
          have p236 : 0 ≤ (x5_1 : Int) := of_decide_eq_true (by assumption)
          have q236 : x5_1 < (l0.length : Int) := of_decide_eq_true (by assumption)
          obtain ⟨ad236, A236_4, c236_4, e236, hx236_0, hx236_1, hx236_2, hx236_3, hx236_4, hl236_4, hi236_4⟩ := at_T100 HR0.out x5_1 p236 q236
          obtain rfl : ad233 = ad236 := (by injection e236)
          replace hx236_0 := (HB.out.cell (World.block_lt_of_cell? w _ hx236_0)).trans hx236_0
          replace hx236_1 := (HB.out.cell (World.block_lt_of_cell? w _ hx236_1)).trans hx236_1
          replace hx236_2 := (HB.out.cell (World.block_lt_of_cell? w _ hx236_2)).trans hx236_2
          replace hx236_3 := (HB.out.cell (World.block_lt_of_cell? w _ hx236_3)).trans hx236_3
          replace hx236_4 := (HB.out.cell (World.block_lt_of_cell? w _ hx236_4)).trans hx236_4
          have HR236_4 := Aside0.mk hi236_4
          have HC236_4 := Aside0.mk hl236_4
          clear hi236_4 hl236_4
          replace p236 := eq_true p236
          replace q236 := eq_true q236
          have ea_ := Option.some.inj (hx233_4.symm.trans hx236_4)
          injection ea_ with ea_ en_ ec_
          subst ea_
          subst ec_
          clear en_
          have p237 : 0 ≤ (x5_1 : Int) := of_decide_eq_true (by assumption)
          have q237 : x5_1 < (l0.length : Int) := of_decide_eq_true (by assumption)
          obtain ⟨ad237, A237_4, c237_4, e237, hx237_0, hx237_1, hx237_2, hx237_3, hx237_4, hl237_4, hi237_4⟩ := at_T100 HR0.out x5_1 p237 q237
          obtain rfl : ad233 = ad237 := (by injection e237)
          replace hx237_0 := (HB.out.cell (World.block_lt_of_cell? w _ hx237_0)).trans hx237_0
          replace hx237_1 := (HB.out.cell (World.block_lt_of_cell? w _ hx237_1)).trans hx237_1
          replace hx237_2 := (HB.out.cell (World.block_lt_of_cell? w _ hx237_2)).trans hx237_2
          replace hx237_3 := (HB.out.cell (World.block_lt_of_cell? w _ hx237_3)).trans hx237_3
          replace hx237_4 := (HB.out.cell (World.block_lt_of_cell? w _ hx237_4)).trans hx237_4
          have HR237_4 := Aside0.mk hi237_4
          have HC237_4 := Aside0.mk hl237_4
          clear hi237_4 hl237_4
          replace p237 := eq_true p237
          replace q237 := eq_true q237
          have ea_ := Option.some.inj (hx233_4.symm.trans hx237_4)
          injection ea_ with ea_ en_ ec_
          subst ea_
          subst ec_
          clear en_
          go_wp2_with (first | ((with_reducible refine Qq (f := 159) rfl ?_); refine Qy (some 54) rfl rfl Try.func159 (by kernel_rfl) rfl #[.slice A233_4 ((Qp l0 x5_1).f4).length c233_4, .int .i64 (wrap64 ((wrap64 ((wrap64 ((wrap64 (x1_1 + 1)) + 1)) + 1)) + 1))] rfl (by (try simp only [List.map_toArray, List.map_cons, List.map_nil]); first | done | rfl | (simp only [List.length_drop, List.length_take]; rfl)) ?_; (with_reducible refine (laws_heldStringS.calls k1 _ _ ((Qp l0 x5_1).f4) (wrap64 ((wrap64 ((wrap64 ((wrap64 (x1_1 + 1)) + 1)) + 1)) + 1)) t238 _ ?side1 ?side2 A9.out).mono ?_); (case side1 => repeat (first | exact (Kd.C_below HR237_4.out HB.out) | (with_reducible refine Kd.C_alloc ?_ _) | (with_reducible refine Kd.C_drewN ?_ _) | (with_reducible refine Kd.C_drew ?_))); (case side2 => exact HC237_4.out); rintro e w11 ⟨rfl, hb⟩; refine ⟨_, rfl, ?_⟩; have n0_ := Aside0.mk (Ql (by repeat (first | (with_reducible first | exact HB.out | apply Qe | apply Qb | apply Qf) | exact HB.out)) hb); clear HB; have HB := n0_; clear n0_; (try clear hb); (try clear hb2); (try clear hk); (try clear hi)))
          go_ret
          exact ⟨by first | rfl | (simp [Qn, Qm] <;> rfl) | (simp [*, Qn, Qm] <;> rfl), by repeat (first | (with_reducible first | exact HB.out | apply Qe | apply Qb | apply Qf) | exact HB.out)⟩
         ·rw [if_neg c10] at H
          have c10b0 : decide (t238 < 0) = false := decide_eq_false c10
          clear c10
          have H' := Aside0.mk H
          clear H
          have p233 : 0 ≤ (x5_1 : Int) := of_decide_eq_true (by assumption)
          have q233 : x5_1 < (l0.length : Int) := of_decide_eq_true (by assumption)
          obtain ⟨ad233, A233_4, c233_4, e233, hx233_0, hx233_1, hx233_2, hx233_3, hx233_4, hl233_4, hi233_4⟩ := at_T100 HR0.out x5_1 p233 q233
          cases e233
          replace hx233_0 := (HB.out.cell (World.block_lt_of_cell? w _ hx233_0)).trans hx233_0
          replace hx233_1 := (HB.out.cell (World.block_lt_of_cell? w _ hx233_1)).trans hx233_1
          replace hx233_2 := (HB.out.cell (World.block_lt_of_cell? w _ hx233_2)).trans hx233_2
          replace hx233_3 := (HB.out.cell (World.block_lt_of_cell? w _ hx233_3)).trans hx233_3
          replace hx233_4 := (HB.out.cell (World.block_lt_of_cell? w _ hx233_4)).trans hx233_4
          have HR233_4 := Aside0.mk hi233_4
          have HC233_4 := Aside0.mk hl233_4
          clear hi233_4 hl233_4
          replace p233 := eq_true p233
          replace q233 := eq_true q233
          have p234 : 0 ≤ (x5_1 : Int) := of_decide_eq_true (by assumption)
          have q234 : x5_1 < (l0.length : Int) := of_decide_eq_true (by assumption)
          obtain ⟨ad234, A234_4, c234_4, e234, hx234_0, hx234_1, hx234_2, hx234_3, hx234_4, hl234_4, hi234_4⟩ := at_T100 HR0.out x5_1 p234 q234
          obtain rfl : ad233 = ad234 := (by injection e234)
          replace hx234_0 := (HB.out.cell (World.block_lt_of_cell? w _ hx234_0)).trans hx234_0
          replace hx234_1 := (HB.out.cell (World.block_lt_of_cell? w _ hx234_1)).trans hx234_1
          replace hx234_2 := (HB.out.cell (World.block_lt_of_cell? w _ hx234_2)).trans hx234_2
          replace hx234_3 := (HB.out.cell (World.block_lt_of_cell? w _ hx234_3)).trans hx234_3
          replace hx234_4 := (HB.out.cell (World.block_lt_of_cell? w _ hx234_4)).trans hx234_4
          have HR234_4 := Aside0.mk hi234_4
          have HC234_4 := Aside0.mk hl234_4
          clear hi234_4 hl234_4
          replace p234 := eq_true p234
          replace q234 := eq_true q234
          have ea_ := Option.some.inj (hx233_4.symm.trans hx234_4)
          injection ea_ with ea_ en_ ec_
          subst ea_
          subst ec_
          clear en_
          have p235 : 0 ≤ (x5_1 : Int) := of_decide_eq_true (by assumption)
          have q235 : x5_1 < (l0.length : Int) := of_decide_eq_true (by assumption)
          obtain ⟨ad235, A235_4, c235_4, e235, hx235_0, hx235_1, hx235_2, hx235_3, hx235_4, hl235_4, hi235_4⟩ := at_T100 HR0.out x5_1 p235 q235
          obtain rfl : ad233 = ad235 := (by injection e235)
          replace hx235_0 := (HB.out.cell (World.block_lt_of_cell? w _ hx235_0)).trans hx235_0
          replace hx235_1 := (HB.out.cell (World.block_lt_of_cell? w _ hx235_1)).trans hx235_1
          replace hx235_2 := (HB.out.cell (World.block_lt_of_cell? w _ hx235_2)).trans hx235_2
          replace hx235_3 := (HB.out.cell (World.block_lt_of_cell? w _ hx235_3)).trans hx235_3
          replace hx235_4 := (HB.out.cell (World.block_lt_of_cell? w _ hx235_4)).trans hx235_4
          have HR235_4 := Aside0.mk hi235_4
          have HC235_4 := Aside0.mk hl235_4
          clear hi235_4 hl235_4
          replace p235 := eq_true p235
          replace q235 := eq_true q235
          have ea_ := Option.some.inj (hx233_4.symm.trans hx235_4)
          injection ea_ with ea_ en_ ec_
          subst ea_
          subst ec_
          clear en_
          have p236 : 0 ≤ (x5_1 : Int) := of_decide_eq_true (by assumption)
          have q236 : x5_1 < (l0.length : Int) := of_decide_eq_true (by assumption)
          obtain ⟨ad236, A236_4, c236_4, e236, hx236_0, hx236_1, hx236_2, hx236_3, hx236_4, hl236_4, hi236_4⟩ := at_T100 HR0.out x5_1 p236 q236
          obtain rfl : ad233 = ad236 := (by injection e236)
          replace hx236_0 := (HB.out.cell (World.block_lt_of_cell? w _ hx236_0)).trans hx236_0
          replace hx236_1 := (HB.out.cell (World.block_lt_of_cell? w _ hx236_1)).trans hx236_1
          replace hx236_2 := (HB.out.cell (World.block_lt_of_cell? w _ hx236_2)).trans hx236_2
          replace hx236_3 := (HB.out.cell (World.block_lt_of_cell? w _ hx236_3)).trans hx236_3
          replace hx236_4 := (HB.out.cell (World.block_lt_of_cell? w _ hx236_4)).trans hx236_4
          have HR236_4 := Aside0.mk hi236_4
          have HC236_4 := Aside0.mk hl236_4
          clear hi236_4 hl236_4
          replace p236 := eq_true p236
          replace q236 := eq_true q236
          have ea_ := Option.some.inj (hx233_4.symm.trans hx236_4)
          injection ea_ with ea_ en_ ec_
          subst ea_
          subst ec_
          clear en_
          have p237 : 0 ≤ (x5_1 : Int) := of_decide_eq_true (by assumption)
          have q237 : x5_1 < (l0.length : Int) := of_decide_eq_true (by assumption)
          obtain ⟨ad237, A237_4, c237_4, e237, hx237_0, hx237_1, hx237_2, hx237_3, hx237_4, hl237_4, hi237_4⟩ := at_T100 HR0.out x5_1 p237 q237
          obtain rfl : ad233 = ad237 := (by injection e237)
          replace hx237_0 := (HB.out.cell (World.block_lt_of_cell? w _ hx237_0)).trans hx237_0
          replace hx237_1 := (HB.out.cell (World.block_lt_of_cell? w _ hx237_1)).trans hx237_1
          replace hx237_2 := (HB.out.cell (World.block_lt_of_cell? w _ hx237_2)).trans hx237_2
          replace hx237_3 := (HB.out.cell (World.block_lt_of_cell? w _ hx237_3)).trans hx237_3
          replace hx237_4 := (HB.out.cell (World.block_lt_of_cell? w _ hx237_4)).trans hx237_4
          have HR237_4 := Aside0.mk hi237_4
          have HC237_4 := Aside0.mk hl237_4
          clear hi237_4 hl237_4
          replace p237 := eq_true p237
          replace q237 := eq_true q237
          have ea_ := Option.some.inj (hx233_4.symm.trans hx237_4)
          injection ea_ with ea_ en_ ec_
          subst ea_
          subst ec_
          clear en_
          go_wp2_with (first | ((with_reducible refine Qq (f := 159) rfl ?_); refine Qy (some 54) rfl rfl Try.func159 (by kernel_rfl) rfl #[.slice A233_4 ((Qp l0 x5_1).f4).length c233_4, .int .i64 (wrap64 ((wrap64 ((wrap64 ((wrap64 (x1_1 + 1)) + 1)) + 1)) + 1))] rfl (by (try simp only [List.map_toArray, List.map_cons, List.map_nil]); first | done | rfl | (simp only [List.length_drop, List.length_take]; rfl)) ?_; (with_reducible refine (laws_heldStringS.calls k1 _ _ ((Qp l0 x5_1).f4) (wrap64 ((wrap64 ((wrap64 ((wrap64 (x1_1 + 1)) + 1)) + 1)) + 1)) t238 _ ?side1 ?side2 A9.out).mono ?_); (case side1 => repeat (first | exact (Kd.C_below HR237_4.out HB.out) | (with_reducible refine Kd.C_alloc ?_ _) | (with_reducible refine Kd.C_drewN ?_ _) | (with_reducible refine Kd.C_drew ?_))); (case side2 => exact HC237_4.out); rintro e w12 ⟨rfl, hb⟩; refine ⟨_, rfl, ?_⟩; have n0_ := Aside0.mk (Ql (by repeat (first | (with_reducible first | exact HB.out | apply Qe | apply Qb | apply Qf) | exact HB.out)) hb); clear HB; have HB := n0_; clear n0_; (try clear hb); (try clear hb2); (try clear hk); (try clear hi)))
          go_roundg k1
          case measure => have := HK1.out; omega
          case rel => exact ⟨(t238), (wrap64 (x5_1 + 1)), (by first | rfl | (simp; done) | (simp [*]; done)), (by first | rfl | (simp; done) | (simp [*]; done)), H', ⟨by have := HK1.out; omega⟩, ⟨by repeat (first | (with_reducible first | exact HB.out | apply Qe | apply Qb | apply Qf) | exact HB.out)⟩⟩
        ·rw [if_neg c8] at H
         have c8b0 : (((Qp l0 x5_1).f3) == (wrap64 ((wrap64 ((wrap64 (x1_1 + 1)) + 1)) + 1))) = false := beq_eq_false_iff_ne.mpr c8
         have c8b1 : (((Qp l0 x5_1).f3) != (wrap64 ((wrap64 ((wrap64 (x1_1 + 1)) + 1)) + 1))) = true := bne_iff_ne.mpr c8
         obtain rfl := Option.some.inj H
         have p233 : 0 ≤ (x5_1 : Int) := of_decide_eq_true (by assumption)
         have q233 : x5_1 < (l0.length : Int) := of_decide_eq_true (by assumption)
         obtain ⟨ad233, A233_4, c233_4, e233, hx233_0, hx233_1, hx233_2, hx233_3, hx233_4, hl233_4, hi233_4⟩ := at_T100 HR0.out x5_1 p233 q233
         cases e233
         replace hx233_0 := (HB.out.cell (World.block_lt_of_cell? w _ hx233_0)).trans hx233_0
         replace hx233_1 := (HB.out.cell (World.block_lt_of_cell? w _ hx233_1)).trans hx233_1
         replace hx233_2 := (HB.out.cell (World.block_lt_of_cell? w _ hx233_2)).trans hx233_2
         replace hx233_3 := (HB.out.cell (World.block_lt_of_cell? w _ hx233_3)).trans hx233_3
         replace hx233_4 := (HB.out.cell (World.block_lt_of_cell? w _ hx233_4)).trans hx233_4
         have HR233_4 := Aside0.mk hi233_4
         have HC233_4 := Aside0.mk hl233_4
         clear hi233_4 hl233_4
         replace p233 := eq_true p233
         replace q233 := eq_true q233
         have p234 : 0 ≤ (x5_1 : Int) := of_decide_eq_true (by assumption)
         have q234 : x5_1 < (l0.length : Int) := of_decide_eq_true (by assumption)
         obtain ⟨ad234, A234_4, c234_4, e234, hx234_0, hx234_1, hx234_2, hx234_3, hx234_4, hl234_4, hi234_4⟩ := at_T100 HR0.out x5_1 p234 q234
         obtain rfl : ad233 = ad234 := (by injection e234)
         replace hx234_0 := (HB.out.cell (World.block_lt_of_cell? w _ hx234_0)).trans hx234_0
         replace hx234_1 := (HB.out.cell (World.block_lt_of_cell? w _ hx234_1)).trans hx234_1
         replace hx234_2 := (HB.out.cell (World.block_lt_of_cell? w _ hx234_2)).trans hx234_2
         replace hx234_3 := (HB.out.cell (World.block_lt_of_cell? w _ hx234_3)).trans hx234_3
         replace hx234_4 := (HB.out.cell (World.block_lt_of_cell? w _ hx234_4)).trans hx234_4
         have HR234_4 := Aside0.mk hi234_4
         have HC234_4 := Aside0.mk hl234_4
         clear hi234_4 hl234_4
         replace p234 := eq_true p234
         replace q234 := eq_true q234
         have ea_ := Option.some.inj (hx233_4.symm.trans hx234_4)
         injection ea_ with ea_ en_ ec_
         subst ea_
         subst ec_
         clear en_
         have p235 : 0 ≤ (x5_1 : Int) := of_decide_eq_true (by assumption)
         have q235 : x5_1 < (l0.length : Int) := of_decide_eq_true (by assumption)
         obtain ⟨ad235, A235_4, c235_4, e235, hx235_0, hx235_1, hx235_2, hx235_3, hx235_4, hl235_4, hi235_4⟩ := at_T100 HR0.out x5_1 p235 q235
         obtain rfl : ad233 = ad235 := (by injection e235)
         replace hx235_0 := (HB.out.cell (World.block_lt_of_cell? w _ hx235_0)).trans hx235_0
         replace hx235_1 := (HB.out.cell (World.block_lt_of_cell? w _ hx235_1)).trans hx235_1
         replace hx235_2 := (HB.out.cell (World.block_lt_of_cell? w _ hx235_2)).trans hx235_2
         replace hx235_3 := (HB.out.cell (World.block_lt_of_cell? w _ hx235_3)).trans hx235_3
         replace hx235_4 := (HB.out.cell (World.block_lt_of_cell? w _ hx235_4)).trans hx235_4
         have HR235_4 := Aside0.mk hi235_4
         have HC235_4 := Aside0.mk hl235_4
         clear hi235_4 hl235_4
         replace p235 := eq_true p235
         replace q235 := eq_true q235
         have ea_ := Option.some.inj (hx233_4.symm.trans hx235_4)
         injection ea_ with ea_ en_ ec_
         subst ea_
         subst ec_
         clear en_
         have p236 : 0 ≤ (x5_1 : Int) := of_decide_eq_true (by assumption)
         have q236 : x5_1 < (l0.length : Int) := of_decide_eq_true (by assumption)
         obtain ⟨ad236, A236_4, c236_4, e236, hx236_0, hx236_1, hx236_2, hx236_3, hx236_4, hl236_4, hi236_4⟩ := at_T100 HR0.out x5_1 p236 q236
         obtain rfl : ad233 = ad236 := (by injection e236)
         replace hx236_0 := (HB.out.cell (World.block_lt_of_cell? w _ hx236_0)).trans hx236_0
         replace hx236_1 := (HB.out.cell (World.block_lt_of_cell? w _ hx236_1)).trans hx236_1
         replace hx236_2 := (HB.out.cell (World.block_lt_of_cell? w _ hx236_2)).trans hx236_2
         replace hx236_3 := (HB.out.cell (World.block_lt_of_cell? w _ hx236_3)).trans hx236_3
         replace hx236_4 := (HB.out.cell (World.block_lt_of_cell? w _ hx236_4)).trans hx236_4
         have HR236_4 := Aside0.mk hi236_4
         have HC236_4 := Aside0.mk hl236_4
         clear hi236_4 hl236_4
         replace p236 := eq_true p236
         replace q236 := eq_true q236
         have ea_ := Option.some.inj (hx233_4.symm.trans hx236_4)
         injection ea_ with ea_ en_ ec_
         subst ea_
         subst ec_
         clear en_
         go_wp2
         go_ret
         exact ⟨by first | rfl | (simp [Qn, Qm] <;> rfl) | (simp [*, Qn, Qm] <;> rfl), by repeat (first | (with_reducible first | exact HB.out | apply Qe | apply Qb | apply Qf) | exact HB.out)⟩
       ·rw [if_neg c7] at H
        have c7b0 : (((Qp l0 x5_1).f2) == (wrap64 ((wrap64 (x1_1 + 1)) + 1))) = false := beq_eq_false_iff_ne.mpr c7
        have c7b1 : (((Qp l0 x5_1).f2) != (wrap64 ((wrap64 (x1_1 + 1)) + 1))) = true := bne_iff_ne.mpr c7
        obtain rfl := Option.some.inj H
        have p233 : 0 ≤ (x5_1 : Int) := of_decide_eq_true (by assumption)
        have q233 : x5_1 < (l0.length : Int) := of_decide_eq_true (by assumption)
        obtain ⟨ad233, A233_4, c233_4, e233, hx233_0, hx233_1, hx233_2, hx233_3, hx233_4, hl233_4, hi233_4⟩ := at_T100 HR0.out x5_1 p233 q233
        cases e233
        replace hx233_0 := (HB.out.cell (World.block_lt_of_cell? w _ hx233_0)).trans hx233_0
        replace hx233_1 := (HB.out.cell (World.block_lt_of_cell? w _ hx233_1)).trans hx233_1
        replace hx233_2 := (HB.out.cell (World.block_lt_of_cell? w _ hx233_2)).trans hx233_2
        replace hx233_3 := (HB.out.cell (World.block_lt_of_cell? w _ hx233_3)).trans hx233_3
        replace hx233_4 := (HB.out.cell (World.block_lt_of_cell? w _ hx233_4)).trans hx233_4
        have HR233_4 := Aside0.mk hi233_4
        have HC233_4 := Aside0.mk hl233_4
        clear hi233_4 hl233_4
        replace p233 := eq_true p233
        replace q233 := eq_true q233
        have p234 : 0 ≤ (x5_1 : Int) := of_decide_eq_true (by assumption)
        have q234 : x5_1 < (l0.length : Int) := of_decide_eq_true (by assumption)
        obtain ⟨ad234, A234_4, c234_4, e234, hx234_0, hx234_1, hx234_2, hx234_3, hx234_4, hl234_4, hi234_4⟩ := at_T100 HR0.out x5_1 p234 q234
        obtain rfl : ad233 = ad234 := (by injection e234)
        replace hx234_0 := (HB.out.cell (World.block_lt_of_cell? w _ hx234_0)).trans hx234_0
        replace hx234_1 := (HB.out.cell (World.block_lt_of_cell? w _ hx234_1)).trans hx234_1
        replace hx234_2 := (HB.out.cell (World.block_lt_of_cell? w _ hx234_2)).trans hx234_2
        replace hx234_3 := (HB.out.cell (World.block_lt_of_cell? w _ hx234_3)).trans hx234_3
        replace hx234_4 := (HB.out.cell (World.block_lt_of_cell? w _ hx234_4)).trans hx234_4
        have HR234_4 := Aside0.mk hi234_4
        have HC234_4 := Aside0.mk hl234_4
        clear hi234_4 hl234_4
        replace p234 := eq_true p234
        replace q234 := eq_true q234
        have ea_ := Option.some.inj (hx233_4.symm.trans hx234_4)
        injection ea_ with ea_ en_ ec_
        subst ea_
        subst ec_
        clear en_
        have p235 : 0 ≤ (x5_1 : Int) := of_decide_eq_true (by assumption)
        have q235 : x5_1 < (l0.length : Int) := of_decide_eq_true (by assumption)
        obtain ⟨ad235, A235_4, c235_4, e235, hx235_0, hx235_1, hx235_2, hx235_3, hx235_4, hl235_4, hi235_4⟩ := at_T100 HR0.out x5_1 p235 q235
        obtain rfl : ad233 = ad235 := (by injection e235)
        replace hx235_0 := (HB.out.cell (World.block_lt_of_cell? w _ hx235_0)).trans hx235_0
        replace hx235_1 := (HB.out.cell (World.block_lt_of_cell? w _ hx235_1)).trans hx235_1
        replace hx235_2 := (HB.out.cell (World.block_lt_of_cell? w _ hx235_2)).trans hx235_2
        replace hx235_3 := (HB.out.cell (World.block_lt_of_cell? w _ hx235_3)).trans hx235_3
        replace hx235_4 := (HB.out.cell (World.block_lt_of_cell? w _ hx235_4)).trans hx235_4
        have HR235_4 := Aside0.mk hi235_4
        have HC235_4 := Aside0.mk hl235_4
        clear hi235_4 hl235_4
        replace p235 := eq_true p235
        replace q235 := eq_true q235
        have ea_ := Option.some.inj (hx233_4.symm.trans hx235_4)
        injection ea_ with ea_ en_ ec_
        subst ea_
        subst ec_
        clear en_
        go_wp2
        go_ret
        exact ⟨by first | rfl | (simp [Qn, Qm] <;> rfl) | (simp [*, Qn, Qm] <;> rfl), by repeat (first | (with_reducible first | exact HB.out | apply Qe | apply Qb | apply Qf) | exact HB.out)⟩
      ·rw [if_neg c6] at H
       have c6b0 : (((Qp l0 x5_1).f1) == (wrap64 (x1_1 + 1))) = false := beq_eq_false_iff_ne.mpr c6
       have c6b1 : (((Qp l0 x5_1).f1) != (wrap64 (x1_1 + 1))) = true := bne_iff_ne.mpr c6
       obtain rfl := Option.some.inj H
       have p233 : 0 ≤ (x5_1 : Int) := of_decide_eq_true (by assumption)
       have q233 : x5_1 < (l0.length : Int) := of_decide_eq_true (by assumption)
       obtain ⟨ad233, A233_4, c233_4, e233, hx233_0, hx233_1, hx233_2, hx233_3, hx233_4, hl233_4, hi233_4⟩ := at_T100 HR0.out x5_1 p233 q233
       cases e233
       replace hx233_0 := (HB.out.cell (World.block_lt_of_cell? w _ hx233_0)).trans hx233_0
       replace hx233_1 := (HB.out.cell (World.block_lt_of_cell? w _ hx233_1)).trans hx233_1
       replace hx233_2 := (HB.out.cell (World.block_lt_of_cell? w _ hx233_2)).trans hx233_2
       replace hx233_3 := (HB.out.cell (World.block_lt_of_cell? w _ hx233_3)).trans hx233_3
       replace hx233_4 := (HB.out.cell (World.block_lt_of_cell? w _ hx233_4)).trans hx233_4
       have HR233_4 := Aside0.mk hi233_4
       have HC233_4 := Aside0.mk hl233_4
       clear hi233_4 hl233_4
       replace p233 := eq_true p233
       replace q233 := eq_true q233
       have p234 : 0 ≤ (x5_1 : Int) := of_decide_eq_true (by assumption)
       have q234 : x5_1 < (l0.length : Int) := of_decide_eq_true (by assumption)
       obtain ⟨ad234, A234_4, c234_4, e234, hx234_0, hx234_1, hx234_2, hx234_3, hx234_4, hl234_4, hi234_4⟩ := at_T100 HR0.out x5_1 p234 q234
       obtain rfl : ad233 = ad234 := (by injection e234)
       replace hx234_0 := (HB.out.cell (World.block_lt_of_cell? w _ hx234_0)).trans hx234_0
       replace hx234_1 := (HB.out.cell (World.block_lt_of_cell? w _ hx234_1)).trans hx234_1
       replace hx234_2 := (HB.out.cell (World.block_lt_of_cell? w _ hx234_2)).trans hx234_2
       replace hx234_3 := (HB.out.cell (World.block_lt_of_cell? w _ hx234_3)).trans hx234_3
       replace hx234_4 := (HB.out.cell (World.block_lt_of_cell? w _ hx234_4)).trans hx234_4
       have HR234_4 := Aside0.mk hi234_4
       have HC234_4 := Aside0.mk hl234_4
       clear hi234_4 hl234_4
       replace p234 := eq_true p234
       replace q234 := eq_true q234
       have ea_ := Option.some.inj (hx233_4.symm.trans hx234_4)
       injection ea_ with ea_ en_ ec_
       subst ea_
       subst ec_
       clear en_
       go_wp2
       go_ret
       exact ⟨by first | rfl | (simp [Qn, Qm] <;> rfl) | (simp [*, Qn, Qm] <;> rfl), by repeat (first | (with_reducible first | exact HB.out | apply Qe | apply Qb | apply Qf) | exact HB.out)⟩
     ·rw [if_neg c5] at H
      have c5b0 : (((Qp l0 x5_1).f0) == x1_1) = false := beq_eq_false_iff_ne.mpr c5
      have c5b1 : (((Qp l0 x5_1).f0) != x1_1) = true := bne_iff_ne.mpr c5
      obtain rfl := Option.some.inj H
      have p233 : 0 ≤ (x5_1 : Int) := of_decide_eq_true (by assumption)
      have q233 : x5_1 < (l0.length : Int) := of_decide_eq_true (by assumption)
      obtain ⟨ad233, A233_4, c233_4, e233, hx233_0, hx233_1, hx233_2, hx233_3, hx233_4, hl233_4, hi233_4⟩ := at_T100 HR0.out x5_1 p233 q233
      cases e233
      replace hx233_0 := (HB.out.cell (World.block_lt_of_cell? w _ hx233_0)).trans hx233_0
      replace hx233_1 := (HB.out.cell (World.block_lt_of_cell? w _ hx233_1)).trans hx233_1
      replace hx233_2 := (HB.out.cell (World.block_lt_of_cell? w _ hx233_2)).trans hx233_2
      replace hx233_3 := (HB.out.cell (World.block_lt_of_cell? w _ hx233_3)).trans hx233_3
      replace hx233_4 := (HB.out.cell (World.block_lt_of_cell? w _ hx233_4)).trans hx233_4
      have HR233_4 := Aside0.mk hi233_4
      have HC233_4 := Aside0.mk hl233_4
      clear hi233_4 hl233_4
      replace p233 := eq_true p233
      replace q233 := eq_true q233
      go_wp2
      go_ret
      exact ⟨by first | rfl | (simp [Qn, Qm] <;> rfl) | (simp [*, Qn, Qm] <;> rfl), by repeat (first | (with_reducible first | exact HB.out | apply Qe | apply Qb | apply Qf) | exact HB.out)⟩
    ·rw [if_neg c4] at H
     exact absurd H (by simp)
   ·rw [if_neg c3] at H
    have c3b0 : decide (x5_1 < (l0.length : Int)) = false := decide_eq_false c3
    clear c3
    obtain rfl := Option.some.inj H
    go_wp2
    go_ret
    exact ⟨by first | rfl | (simp [Qn, Qm] <;> rfl) | (simp [*, Qn, Qm] <;> rfl), by repeat (first | (with_reducible first | exact HB.out | apply Qe | apply Qb | apply Qf) | exact HB.out)⟩
def laws_heldTeller.f (k : Nat) (a0_0 : Int) (a0_1 : Int) (l0_2 : List (S100)) (l0_3 : List (S73)) (a1 : Int) : Option (Int) := (laws_heldPipeS.f k l0_2 a1).bind fun t240 => (if t240 < 0 then (some (-1)) else ((laws_heldHeldS.f k l0_3 t240).bind fun t241 => (if t241 < 0 then (some (-1)) else (some t241))))
theorem laws_heldTeller.mono : ∀ a0 a1 a2 a3 a4 k, LeO (laws_heldTeller.f k a0 a1 a2 a3 a4) (laws_heldTeller.f (k + 1) a0 a1 a2 a3 a4) := by
 intro a0 a1 a2 a3 a4 k
 unfold laws_heldTeller.f
 repeat' first
   | (with_reducible exact laws_heldHeldS.mono _ _ _)
   | (with_reducible exact laws_heldPipeS.mono _ _ _)
   | (with_reducible exact LeO.refl _)
   | (with_reducible exact LeO.none _)
   | (with_reducible refine LeO.ite ?_ ?_)
   | (with_reducible refine LeO.bind ?_ (fun _ => ?_))
   | exact laws_heldHeldS.mono _ _ _
   | exact laws_heldPipeS.mono _ _ _
   | exact LeO.none _
   | refine LeO.ite ?_ ?_
   | refine LeO.bind ?_ (fun _ => ?_)
set_option maxHeartbeats 8000000 in
set_option maxRecDepth 100000 in
theorem laws_heldTeller.calls (k : Nat) (a0_0 : Int) (a0_1 : Int) (A0_2 : Option Addr) (c0_2 : Nat) (l0_2 : List (S100)) (A0_3 : Option Addr) (c0_3 : Nat) (l0_3 : List (S73)) (a1 : Int) (r : Int) (w : World) (hr0_2 : Kd.C k100 w A0_2 l0_2.length l0_2) (hc0_2 : l0_2.length ≤ c0_2) (hr0_3 : Kd.C k73 w A0_3 l0_3.length l0_3) (hc0_3 : l0_3.length ≤ c0_3) (h : laws_heldTeller.f k a0_0 a0_1 l0_2 l0_3 a1 = some r) :
  Calls Try.prog 98 #[.agg #[.int .i64 a0_0, .int .i64 a0_1, .slice A0_2 l0_2.length c0_2, .slice A0_3 l0_3.length c0_3], .int .i64 a1] w fun e w' => e = .returned (.int .i64 r) ∧ Below w.heap.size w w' := by
 have hu57 := Try.underlying57
 have HR0_2 := Aside0.mk hr0_2
 have HC0_2 := Aside0.mk hc0_2
 clear hr0_2 hc0_2
 have HR0_3 := Aside0.mk hr0_3
 have HC0_3 := Aside0.mk hc0_3
 clear hr0_3 hc0_3
 have HB := Aside0.mk (Below.refl w.heap.size w)
 have H : ((laws_heldPipeS.f k l0_2 a1).bind fun t240 => (if t240 < 0 then (some (-1)) else ((laws_heldHeldS.f k l0_3 t240).bind fun t241 => (if t241 < 0 then (some (-1)) else (some t241))))) = some r := h
 clear h
 replace H := Option.bind_eq_some_iff.mp H
 obtain ⟨t240, A30, H⟩ := H
 replace H : (if t240 < 0 then (some (-1)) else ((laws_heldHeldS.f k l0_3 t240).bind fun t241 => (if t241 < 0 then (some (-1)) else (some t241)))) = some r := H
 have A3 := Aside0.mk A30
 clear A30
 by_cases c4 : t240 < 0
 ·rw [if_pos c4] at H
  have c4b0 : decide (t240 < 0) = true := decide_eq_true c4
  clear c4
  obtain rfl := Option.some.inj H
  go_enter Try.func98, Try.ntmps98
  go_wp2_with (first | ((with_reducible refine Qs (N := 2) rfl ?_); refine Qr ?hg (N := 2) ?hd (cs := #[.int .i64 a0_0, .int .i64 a0_1, .slice A0_2 l0_2.length c0_2, .slice A0_3 l0_3.length c0_3]) (t := 57) ?hr ?_; (case hd => rfl); (case hg => rfl); (case hr => first | (go_simp; done) | (go_simp; rfl)); intro gb239 hg w5 hbox hb; have n0_ := Aside0.mk (Ql (by repeat (first | (with_reducible first | exact HB.out | apply Qe | apply Qb | apply Qf) | exact HB.out)) hb); have n1_ := Aside0.mk (hbox); have n2_ := Aside0.mk ((by rw [hg]; exact (Qk (by repeat (first | (with_reducible first | exact HB.out | apply Qe | apply Qb | apply Qf) | exact HB.out))) : w.heap.size ≤ gb239)); have n3_ := Aside0.mk ((by rw [hg]; exact (Qk (by repeat (first | (with_reducible first | exact HB.out | apply Qe | apply Qb | apply Qf) | exact HB.out))) : w.heap.size ≤ gb239)); clear HB; have HB := n0_; have BK239 := n1_; have GW239 := n2_; have GE239 := n3_; clear n0_ n1_ n2_ n3_; clear hb hbox hg; have hcz6_0 : w5.cell? ⟨gb239, 0, none⟩ = some (.int .i64 a0_0) := (Qa BK239.out 0).trans rfl; have hcz6_1 : w5.cell? ⟨gb239, 1, none⟩ = some (.int .i64 a0_1) := (Qa BK239.out 1).trans rfl; have hcz6_2 : w5.cell? ⟨gb239, 2, none⟩ = some (.slice A0_2 l0_2.length c0_2) := (Qa BK239.out 2).trans rfl; have hcz6_3 : w5.cell? ⟨gb239, 3, none⟩ = some (.slice A0_3 l0_3.length c0_3) := (Qa BK239.out 3).trans rfl; have hfz6_0 := Qc BK239.out 0; have hfz6_1 := Qc BK239.out 1; have hfz6_2 := Qc BK239.out 2; have hfz6_3 := Qc BK239.out 3) | ((with_reducible refine Qq (f := 133) rfl ?_); refine Qy (some 8) rfl rfl Try.func133 (by kernel_rfl) rfl #[.slice A0_2 l0_2.length c0_2, .int .i64 a1] rfl (by (try simp only [List.map_toArray, List.map_cons, List.map_nil]); first | done | rfl | (simp only [List.length_drop, List.length_take]; rfl)) ?_; (with_reducible refine (laws_heldPipeS.calls k _ _ l0_2 a1 t240 _ ?side1 ?side2 A3.out).mono ?_); (case side1 => repeat (first | exact (Kd.C_below HR0_2.out HB.out) | (with_reducible refine Kd.C_alloc ?_ _) | (with_reducible refine Kd.C_drewN ?_ _) | (with_reducible refine Kd.C_drew ?_))); (case side2 => exact HC0_2.out); rintro e w7 ⟨rfl, hb⟩; refine ⟨_, rfl, ?_⟩; have n0_ := Aside0.mk (Qo (g := gb239) (o := .cells #[.int .i64 a0_0, .int .i64 a0_1, .slice A0_2 l0_2.length c0_2, .slice A0_3 l0_3.length c0_3] 57 (0, 0)) (by (with_reducible repeat (first | refine Qh ?_ _ | refine Qj ?_ | refine Qi ?_ _)); exact BK239.out) hb); have n1_ := Aside0.mk (Ql (by repeat (first | (with_reducible first | exact HB.out | apply Qe | apply Qb | apply Qf | refine Qg ?_ GE239.out) | exact HB.out)) hb); clear BK239; clear HB; have BK239 := n0_; have HB := n1_; clear n0_ n1_; (try clear hb); (try clear hb2); (try clear hk); (try clear hi)))
  go_ret
  exact ⟨by first | rfl | (simp [Qn, Qm] <;> rfl) | (simp [*, Qn, Qm] <;> rfl), by repeat (first | (with_reducible first | exact HB.out | apply Qe | apply Qb | apply Qf | refine Qg ?_ GE239.out) | exact HB.out)⟩
 ·rw [if_neg c4] at H
  have c4b0 : decide (t240 < 0) = false := decide_eq_false c4
  clear c4
  replace H := Option.bind_eq_some_iff.mp H
  obtain ⟨t241, A80, H⟩ := H
  replace H : (if t241 < 0 then (some (-1)) else (some t241)) = some r := H
  have A8 := Aside0.mk A80
  clear A80
  by_cases c9 : t241 < 0
  ·rw [if_pos c9] at H
   have c9b0 : decide (t241 < 0) = true := decide_eq_true c9
   clear c9
   obtain rfl := Option.some.inj H
   go_enter Try.func98, Try.ntmps98
   go_wp2_with (first | ((with_reducible refine Qs (N := 2) rfl ?_); refine Qr ?hg (N := 2) ?hd (cs := #[.int .i64 a0_0, .int .i64 a0_1, .slice A0_2 l0_2.length c0_2, .slice A0_3 l0_3.length c0_3]) (t := 57) ?hr ?_; (case hd => rfl); (case hg => rfl); (case hr => first | (go_simp; done) | (go_simp; rfl)); intro gb239 hg w10 hbox hb; have n0_ := Aside0.mk (Ql (by repeat (first | (with_reducible first | exact HB.out | apply Qe | apply Qb | apply Qf) | exact HB.out)) hb); have n1_ := Aside0.mk (hbox); have n2_ := Aside0.mk ((by rw [hg]; exact (Qk (by repeat (first | (with_reducible first | exact HB.out | apply Qe | apply Qb | apply Qf) | exact HB.out))) : w.heap.size ≤ gb239)); have n3_ := Aside0.mk ((by rw [hg]; exact (Qk (by repeat (first | (with_reducible first | exact HB.out | apply Qe | apply Qb | apply Qf) | exact HB.out))) : w.heap.size ≤ gb239)); clear HB; have HB := n0_; have BK239 := n1_; have GW239 := n2_; have GE239 := n3_; clear n0_ n1_ n2_ n3_; clear hb hbox hg; have hcz11_0 : w10.cell? ⟨gb239, 0, none⟩ = some (.int .i64 a0_0) := (Qa BK239.out 0).trans rfl; have hcz11_1 : w10.cell? ⟨gb239, 1, none⟩ = some (.int .i64 a0_1) := (Qa BK239.out 1).trans rfl; have hcz11_2 : w10.cell? ⟨gb239, 2, none⟩ = some (.slice A0_2 l0_2.length c0_2) := (Qa BK239.out 2).trans rfl; have hcz11_3 : w10.cell? ⟨gb239, 3, none⟩ = some (.slice A0_3 l0_3.length c0_3) := (Qa BK239.out 3).trans rfl; have hfz11_0 := Qc BK239.out 0; have hfz11_1 := Qc BK239.out 1; have hfz11_2 := Qc BK239.out 2; have hfz11_3 := Qc BK239.out 3) | ((with_reducible refine Qq (f := 133) rfl ?_); refine Qy (some 8) rfl rfl Try.func133 (by kernel_rfl) rfl #[.slice A0_2 l0_2.length c0_2, .int .i64 a1] rfl (by (try simp only [List.map_toArray, List.map_cons, List.map_nil]); first | done | rfl | (simp only [List.length_drop, List.length_take]; rfl)) ?_; (with_reducible refine (laws_heldPipeS.calls k _ _ l0_2 a1 t240 _ ?side1 ?side2 A3.out).mono ?_); (case side1 => repeat (first | exact (Kd.C_below HR0_2.out HB.out) | (with_reducible refine Kd.C_alloc ?_ _) | (with_reducible refine Kd.C_drewN ?_ _) | (with_reducible refine Kd.C_drew ?_))); (case side2 => exact HC0_2.out); rintro e w12 ⟨rfl, hb⟩; refine ⟨_, rfl, ?_⟩; have n0_ := Aside0.mk (Qo (g := gb239) (o := .cells #[.int .i64 a0_0, .int .i64 a0_1, .slice A0_2 l0_2.length c0_2, .slice A0_3 l0_3.length c0_3] 57 (0, 0)) (by (with_reducible repeat (first | refine Qh ?_ _ | refine Qj ?_ | refine Qi ?_ _)); exact BK239.out) hb); have n1_ := Aside0.mk (Ql (by repeat (first | (with_reducible first | exact HB.out | apply Qe | apply Qb | apply Qf | refine Qg ?_ GE239.out) | exact HB.out)) hb); clear BK239; clear HB; have BK239 := n0_; have HB := n1_; clear n0_ n1_; (try clear hb); (try clear hb2); (try clear hk); (try clear hi); have hcz13_0 : w12.cell? ⟨gb239, 0, none⟩ = some (.int .i64 a0_0) := (Qa BK239.out 0).trans rfl; have hcz13_1 : w12.cell? ⟨gb239, 1, none⟩ = some (.int .i64 a0_1) := (Qa BK239.out 1).trans rfl; have hcz13_2 : w12.cell? ⟨gb239, 2, none⟩ = some (.slice A0_2 l0_2.length c0_2) := (Qa BK239.out 2).trans rfl; have hcz13_3 : w12.cell? ⟨gb239, 3, none⟩ = some (.slice A0_3 l0_3.length c0_3) := (Qa BK239.out 3).trans rfl; have hfz13_0 := Qc BK239.out 0; have hfz13_1 := Qc BK239.out 1; have hfz13_2 := Qc BK239.out 2; have hfz13_3 := Qc BK239.out 3) | ((with_reducible refine Qq (f := 66) rfl ?_); refine Qy (some 14) rfl rfl Try.func66 (by kernel_rfl) rfl #[.slice A0_3 l0_3.length c0_3, .int .i64 t240] rfl (by (try simp only [List.map_toArray, List.map_cons, List.map_nil]); first | done | rfl | (simp only [List.length_drop, List.length_take]; rfl)) ?_; (with_reducible refine (laws_heldHeldS.calls k _ _ l0_3 t240 t241 _ ?side1 ?side2 A8.out).mono ?_); (case side1 => repeat (first | exact (Kd.C_below HR0_3.out HB.out) | (with_reducible refine Kd.C_alloc ?_ _) | (with_reducible refine Kd.C_drewN ?_ _) | (with_reducible refine Kd.C_drew ?_))); (case side2 => exact HC0_3.out); rintro e w' ⟨rfl, ⟨nd, rfl⟩⟩; refine ⟨_, rfl, ?_⟩))
   go_ret
   exact ⟨by first | rfl | (simp [Qn, Qm] <;> rfl) | (simp [*, Qn, Qm] <;> rfl), by repeat (first | (with_reducible first | exact HB.out | apply Qe | apply Qb | apply Qf | refine Qg ?_ GE239.out) | exact HB.out)⟩
  ·rw [if_neg c9] at H
   have c9b0 : decide (t241 < 0) = false := decide_eq_false c9
   clear c9
   obtain rfl := Option.some.inj H
   go_enter Try.func98, Try.ntmps98
   go_wp2_with (first | ((with_reducible refine Qs (N := 2) rfl ?_); refine Qr ?hg (N := 2) ?hd (cs := #[.int .i64 a0_0, .int .i64 a0_1, .slice A0_2 l0_2.length c0_2, .slice A0_3 l0_3.length c0_3]) (t := 57) ?hr ?_; (case hd => rfl); (case hg => rfl); (case hr => first | (go_simp; done) | (go_simp; rfl)); intro gb239 hg w14 hbox hb; have n0_ := Aside0.mk (Ql (by repeat (first | (with_reducible first | exact HB.out | apply Qe | apply Qb | apply Qf) | exact HB.out)) hb); have n1_ := Aside0.mk (hbox); have n2_ := Aside0.mk ((by rw [hg]; exact (Qk (by repeat (first | (with_reducible first | exact HB.out | apply Qe | apply Qb | apply Qf) | exact HB.out))) : w.heap.size ≤ gb239)); have n3_ := Aside0.mk ((by rw [hg]; exact (Qk (by repeat (first | (with_reducible first | exact HB.out | apply Qe | apply Qb | apply Qf) | exact HB.out))) : w.heap.size ≤ gb239)); clear HB; have HB := n0_; have BK239 := n1_; have GW239 := n2_; have GE239 := n3_; clear n0_ n1_ n2_ n3_; clear hb hbox hg; have hcz15_0 : w14.cell? ⟨gb239, 0, none⟩ = some (.int .i64 a0_0) := (Qa BK239.out 0).trans rfl; have hcz15_1 : w14.cell? ⟨gb239, 1, none⟩ = some (.int .i64 a0_1) := (Qa BK239.out 1).trans rfl; have hcz15_2 : w14.cell? ⟨gb239, 2, none⟩ = some (.slice A0_2 l0_2.length c0_2) := (Qa BK239.out 2).trans rfl; have hcz15_3 : w14.cell? ⟨gb239, 3, none⟩ = some (.slice A0_3 l0_3.length c0_3) := (Qa BK239.out 3).trans rfl; have hfz15_0 := Qc BK239.out 0; have hfz15_1 := Qc BK239.out 1; have hfz15_2 := Qc BK239.out 2; have hfz15_3 := Qc BK239.out 3) | ((with_reducible refine Qq (f := 133) rfl ?_); refine Qy (some 8) rfl rfl Try.func133 (by kernel_rfl) rfl #[.slice A0_2 l0_2.length c0_2, .int .i64 a1] rfl (by (try simp only [List.map_toArray, List.map_cons, List.map_nil]); first | done | rfl | (simp only [List.length_drop, List.length_take]; rfl)) ?_; (with_reducible refine (laws_heldPipeS.calls k _ _ l0_2 a1 t240 _ ?side1 ?side2 A3.out).mono ?_); (case side1 => repeat (first | exact (Kd.C_below HR0_2.out HB.out) | (with_reducible refine Kd.C_alloc ?_ _) | (with_reducible refine Kd.C_drewN ?_ _) | (with_reducible refine Kd.C_drew ?_))); (case side2 => exact HC0_2.out); rintro e w16 ⟨rfl, hb⟩; refine ⟨_, rfl, ?_⟩; have n0_ := Aside0.mk (Qo (g := gb239) (o := .cells #[.int .i64 a0_0, .int .i64 a0_1, .slice A0_2 l0_2.length c0_2, .slice A0_3 l0_3.length c0_3] 57 (0, 0)) (by (with_reducible repeat (first | refine Qh ?_ _ | refine Qj ?_ | refine Qi ?_ _)); exact BK239.out) hb); have n1_ := Aside0.mk (Ql (by repeat (first | (with_reducible first | exact HB.out | apply Qe | apply Qb | apply Qf | refine Qg ?_ GE239.out) | exact HB.out)) hb); clear BK239; clear HB; have BK239 := n0_; have HB := n1_; clear n0_ n1_; (try clear hb); (try clear hb2); (try clear hk); (try clear hi); have hcz17_0 : w16.cell? ⟨gb239, 0, none⟩ = some (.int .i64 a0_0) := (Qa BK239.out 0).trans rfl; have hcz17_1 : w16.cell? ⟨gb239, 1, none⟩ = some (.int .i64 a0_1) := (Qa BK239.out 1).trans rfl; have hcz17_2 : w16.cell? ⟨gb239, 2, none⟩ = some (.slice A0_2 l0_2.length c0_2) := (Qa BK239.out 2).trans rfl; have hcz17_3 : w16.cell? ⟨gb239, 3, none⟩ = some (.slice A0_3 l0_3.length c0_3) := (Qa BK239.out 3).trans rfl; have hfz17_0 := Qc BK239.out 0; have hfz17_1 := Qc BK239.out 1; have hfz17_2 := Qc BK239.out 2; have hfz17_3 := Qc BK239.out 3) | ((with_reducible refine Qq (f := 66) rfl ?_); refine Qy (some 14) rfl rfl Try.func66 (by kernel_rfl) rfl #[.slice A0_3 l0_3.length c0_3, .int .i64 t240] rfl (by (try simp only [List.map_toArray, List.map_cons, List.map_nil]); first | done | rfl | (simp only [List.length_drop, List.length_take]; rfl)) ?_; (with_reducible refine (laws_heldHeldS.calls k _ _ l0_3 t240 t241 _ ?side1 ?side2 A8.out).mono ?_); (case side1 => repeat (first | exact (Kd.C_below HR0_3.out HB.out) | (with_reducible refine Kd.C_alloc ?_ _) | (with_reducible refine Kd.C_drewN ?_ _) | (with_reducible refine Kd.C_drew ?_))); (case side2 => exact HC0_3.out); rintro e w' ⟨rfl, ⟨nd, rfl⟩⟩; refine ⟨_, rfl, ?_⟩))
   go_ret
   exact ⟨by first | rfl | (simp [Qn, Qm] <;> rfl) | (simp [*, Qn, Qm] <;> rfl), by repeat (first | (with_reducible first | exact HB.out | apply Qe | apply Qb | apply Qf | refine Qg ?_ GE239.out) | exact HB.out)⟩
def laws_heldTellerOut.f (k : Nat) (a0_0 : Int) (a0_1 : Int) (l0_2 : List (S100)) (l0_3 : List (S73)) (a0_4 : Int) (a1 : Int) : Option (Int) := (laws_heldTeller.f k a0_0 a0_1 l0_2 l0_3 a1).bind fun t243 => (if t243 < 0 then (some (-1)) else (some t243))
theorem laws_heldTellerOut.mono : ∀ a0 a1 a2 a3 a4 a5 k, LeO (laws_heldTellerOut.f k a0 a1 a2 a3 a4 a5) (laws_heldTellerOut.f (k + 1) a0 a1 a2 a3 a4 a5) := by
 intro a0 a1 a2 a3 a4 a5 k
 unfold laws_heldTellerOut.f
 repeat' first
   | (with_reducible exact laws_heldTeller.mono _ _ _ _ _ _)
   | (with_reducible exact LeO.refl _)
   | (with_reducible exact LeO.none _)
   | (with_reducible refine LeO.ite ?_ ?_)
   | (with_reducible refine LeO.bind ?_ (fun _ => ?_))
   | exact laws_heldTeller.mono _ _ _ _ _ _
   | exact LeO.none _
   | refine LeO.ite ?_ ?_
   | refine LeO.bind ?_ (fun _ => ?_)
set_option maxHeartbeats 8000000 in
set_option maxRecDepth 100000 in
theorem laws_heldTellerOut.calls (k : Nat) (a0_0 : Int) (a0_1 : Int) (A0_2 : Option Addr) (c0_2 : Nat) (l0_2 : List (S100)) (A0_3 : Option Addr) (c0_3 : Nat) (l0_3 : List (S73)) (a0_4 : Int) (a1 : Int) (r : Int) (w : World) (hr0_2 : Kd.C k100 w A0_2 l0_2.length l0_2) (hc0_2 : l0_2.length ≤ c0_2) (hr0_3 : Kd.C k73 w A0_3 l0_3.length l0_3) (hc0_3 : l0_3.length ≤ c0_3) (h : laws_heldTellerOut.f k a0_0 a0_1 l0_2 l0_3 a0_4 a1 = some r) :
  Calls Try.prog 51 #[.agg #[.int .i64 a0_0, .int .i64 a0_1, .slice A0_2 l0_2.length c0_2, .slice A0_3 l0_3.length c0_3, .int .i64 a0_4], .int .i64 a1] w fun e w' => e = .returned (.int .i64 r) ∧ Below w.heap.size w w' := by
 have hu65 := Try.underlying65
 have hu57 := Try.underlying57
 have HR0_2 := Aside0.mk hr0_2
 have HC0_2 := Aside0.mk hc0_2
 clear hr0_2 hc0_2
 have HR0_3 := Aside0.mk hr0_3
 have HC0_3 := Aside0.mk hc0_3
 clear hr0_3 hc0_3
 have HB := Aside0.mk (Below.refl w.heap.size w)
 have H : ((laws_heldTeller.f k a0_0 a0_1 l0_2 l0_3 a1).bind fun t243 => (if t243 < 0 then (some (-1)) else (some t243))) = some r := h
 clear h
 replace H := Option.bind_eq_some_iff.mp H
 obtain ⟨t243, A30, H⟩ := H
 replace H : (if t243 < 0 then (some (-1)) else (some t243)) = some r := H
 have A3 := Aside0.mk A30
 clear A30
 by_cases c4 : t243 < 0
 ·rw [if_pos c4] at H
  have c4b0 : decide (t243 < 0) = true := decide_eq_true c4
  clear c4
  obtain rfl := Option.some.inj H
  go_enter Try.func51, Try.ntmps51
  go_wp2_with (first | ((with_reducible refine Qs (N := 2) rfl ?_); refine Qr ?hg (N := 2) ?hd (cs := #[.int .i64 a0_0, .int .i64 a0_1, .slice A0_2 l0_2.length c0_2, .slice A0_3 l0_3.length c0_3, .int .i64 a0_4]) (t := 65) ?hr ?_; (case hd => rfl); (case hg => rfl); (case hr => first | (go_simp; done) | (go_simp; rfl)); intro gb242 hg w5 hbox hb; have n0_ := Aside0.mk (Ql (by repeat (first | (with_reducible first | exact HB.out | apply Qe | apply Qb | apply Qf) | exact HB.out)) hb); have n1_ := Aside0.mk (hbox); have n2_ := Aside0.mk ((by rw [hg]; exact (Qk (by repeat (first | (with_reducible first | exact HB.out | apply Qe | apply Qb | apply Qf) | exact HB.out))) : w.heap.size ≤ gb242)); have n3_ := Aside0.mk ((by rw [hg]; exact (Qk (by repeat (first | (with_reducible first | exact HB.out | apply Qe | apply Qb | apply Qf) | exact HB.out))) : w.heap.size ≤ gb242)); clear HB; have HB := n0_; have BK242 := n1_; have GW242 := n2_; have GE242 := n3_; clear n0_ n1_ n2_ n3_; clear hb hbox hg; have hcz6_0 : w5.cell? ⟨gb242, 0, none⟩ = some (.int .i64 a0_0) := (Qa BK242.out 0).trans rfl; have hcz6_1 : w5.cell? ⟨gb242, 1, none⟩ = some (.int .i64 a0_1) := (Qa BK242.out 1).trans rfl; have hcz6_2 : w5.cell? ⟨gb242, 2, none⟩ = some (.slice A0_2 l0_2.length c0_2) := (Qa BK242.out 2).trans rfl; have hcz6_3 : w5.cell? ⟨gb242, 3, none⟩ = some (.slice A0_3 l0_3.length c0_3) := (Qa BK242.out 3).trans rfl; have hcz6_4 : w5.cell? ⟨gb242, 4, none⟩ = some (.int .i64 a0_4) := (Qa BK242.out 4).trans rfl; have hfz6_0 := Qc BK242.out 0; have hfz6_1 := Qc BK242.out 1; have hfz6_2 := Qc BK242.out 2; have hfz6_3 := Qc BK242.out 3; have hfz6_4 := Qc BK242.out 4) | ((with_reducible refine Qq (f := 98) rfl ?_); refine Qy (some 8) rfl rfl Try.func98 (by kernel_rfl) rfl #[.agg #[.int .i64 a0_0, .int .i64 a0_1, .slice A0_2 l0_2.length c0_2, .slice A0_3 l0_3.length c0_3], .int .i64 a1] rfl (by (try simp only [List.map_toArray, List.map_cons, List.map_nil]); first | done | rfl | (simp only [List.length_drop, List.length_take]; rfl)) ?_; (with_reducible refine (laws_heldTeller.calls k a0_0 a0_1 _ _ l0_2 _ _ l0_3 a1 t243 _ ?side1 ?side2 ?side3 ?side4 A3.out).mono ?_); (case side1 => repeat (first | exact (Kd.C_below HR0_2.out HB.out) | (with_reducible refine Kd.C_alloc ?_ _) | (with_reducible refine Kd.C_drewN ?_ _) | (with_reducible refine Kd.C_drew ?_))); (case side2 => exact HC0_2.out); (case side3 => repeat (first | exact (Kd.C_below HR0_3.out HB.out) | (with_reducible refine Kd.C_alloc ?_ _) | (with_reducible refine Kd.C_drewN ?_ _) | (with_reducible refine Kd.C_drew ?_))); (case side4 => exact HC0_3.out); rintro e w7 ⟨rfl, hb⟩; refine ⟨_, rfl, ?_⟩; have n0_ := Aside0.mk (Qo (g := gb242) (o := .cells #[.int .i64 a0_0, .int .i64 a0_1, .slice A0_2 l0_2.length c0_2, .slice A0_3 l0_3.length c0_3, .int .i64 a0_4] 65 (0, 0)) (by (with_reducible repeat (first | refine Qh ?_ _ | refine Qj ?_ | refine Qi ?_ _)); exact BK242.out) hb); have n1_ := Aside0.mk (Ql (by repeat (first | (with_reducible first | exact HB.out | apply Qe | apply Qb | apply Qf | refine Qg ?_ GE242.out) | exact HB.out)) hb); clear BK242; clear HB; have BK242 := n0_; have HB := n1_; clear n0_ n1_; (try clear hb); (try clear hb2); (try clear hk); (try clear hi)))
  go_ret
  exact ⟨by first | rfl | (simp [Qn, Qm] <;> rfl) | (simp [*, Qn, Qm] <;> rfl), by repeat (first | (with_reducible first | exact HB.out | apply Qe | apply Qb | apply Qf | refine Qg ?_ GE242.out) | exact HB.out)⟩
 ·rw [if_neg c4] at H
  have c4b0 : decide (t243 < 0) = false := decide_eq_false c4
  clear c4
  obtain rfl := Option.some.inj H
  go_enter Try.func51, Try.ntmps51
  go_wp2_with (first | ((with_reducible refine Qs (N := 2) rfl ?_); refine Qr ?hg (N := 2) ?hd (cs := #[.int .i64 a0_0, .int .i64 a0_1, .slice A0_2 l0_2.length c0_2, .slice A0_3 l0_3.length c0_3, .int .i64 a0_4]) (t := 65) ?hr ?_; (case hd => rfl); (case hg => rfl); (case hr => first | (go_simp; done) | (go_simp; rfl)); intro gb242 hg w8 hbox hb; have n0_ := Aside0.mk (Ql (by repeat (first | (with_reducible first | exact HB.out | apply Qe | apply Qb | apply Qf) | exact HB.out)) hb); have n1_ := Aside0.mk (hbox); have n2_ := Aside0.mk ((by rw [hg]; exact (Qk (by repeat (first | (with_reducible first | exact HB.out | apply Qe | apply Qb | apply Qf) | exact HB.out))) : w.heap.size ≤ gb242)); have n3_ := Aside0.mk ((by rw [hg]; exact (Qk (by repeat (first | (with_reducible first | exact HB.out | apply Qe | apply Qb | apply Qf) | exact HB.out))) : w.heap.size ≤ gb242)); clear HB; have HB := n0_; have BK242 := n1_; have GW242 := n2_; have GE242 := n3_; clear n0_ n1_ n2_ n3_; clear hb hbox hg; have hcz9_0 : w8.cell? ⟨gb242, 0, none⟩ = some (.int .i64 a0_0) := (Qa BK242.out 0).trans rfl; have hcz9_1 : w8.cell? ⟨gb242, 1, none⟩ = some (.int .i64 a0_1) := (Qa BK242.out 1).trans rfl; have hcz9_2 : w8.cell? ⟨gb242, 2, none⟩ = some (.slice A0_2 l0_2.length c0_2) := (Qa BK242.out 2).trans rfl; have hcz9_3 : w8.cell? ⟨gb242, 3, none⟩ = some (.slice A0_3 l0_3.length c0_3) := (Qa BK242.out 3).trans rfl; have hcz9_4 : w8.cell? ⟨gb242, 4, none⟩ = some (.int .i64 a0_4) := (Qa BK242.out 4).trans rfl; have hfz9_0 := Qc BK242.out 0; have hfz9_1 := Qc BK242.out 1; have hfz9_2 := Qc BK242.out 2; have hfz9_3 := Qc BK242.out 3; have hfz9_4 := Qc BK242.out 4) | ((with_reducible refine Qq (f := 98) rfl ?_); refine Qy (some 8) rfl rfl Try.func98 (by kernel_rfl) rfl #[.agg #[.int .i64 a0_0, .int .i64 a0_1, .slice A0_2 l0_2.length c0_2, .slice A0_3 l0_3.length c0_3], .int .i64 a1] rfl (by (try simp only [List.map_toArray, List.map_cons, List.map_nil]); first | done | rfl | (simp only [List.length_drop, List.length_take]; rfl)) ?_; (with_reducible refine (laws_heldTeller.calls k a0_0 a0_1 _ _ l0_2 _ _ l0_3 a1 t243 _ ?side1 ?side2 ?side3 ?side4 A3.out).mono ?_); (case side1 => repeat (first | exact (Kd.C_below HR0_2.out HB.out) | (with_reducible refine Kd.C_alloc ?_ _) | (with_reducible refine Kd.C_drewN ?_ _) | (with_reducible refine Kd.C_drew ?_))); (case side2 => exact HC0_2.out); (case side3 => repeat (first | exact (Kd.C_below HR0_3.out HB.out) | (with_reducible refine Kd.C_alloc ?_ _) | (with_reducible refine Kd.C_drewN ?_ _) | (with_reducible refine Kd.C_drew ?_))); (case side4 => exact HC0_3.out); rintro e w10 ⟨rfl, hb⟩; refine ⟨_, rfl, ?_⟩; have n0_ := Aside0.mk (Qo (g := gb242) (o := .cells #[.int .i64 a0_0, .int .i64 a0_1, .slice A0_2 l0_2.length c0_2, .slice A0_3 l0_3.length c0_3, .int .i64 a0_4] 65 (0, 0)) (by (with_reducible repeat (first | refine Qh ?_ _ | refine Qj ?_ | refine Qi ?_ _)); exact BK242.out) hb); have n1_ := Aside0.mk (Ql (by repeat (first | (with_reducible first | exact HB.out | apply Qe | apply Qb | apply Qf | refine Qg ?_ GE242.out) | exact HB.out)) hb); clear BK242; clear HB; have BK242 := n0_; have HB := n1_; clear n0_ n1_; (try clear hb); (try clear hb2); (try clear hk); (try clear hi)))
  go_ret
  exact ⟨by first | rfl | (simp [Qn, Qm] <;> rfl) | (simp [*, Qn, Qm] <;> rfl), by repeat (first | (with_reducible first | exact HB.out | apply Qe | apply Qb | apply Qf | refine Qg ?_ GE242.out) | exact HB.out)⟩
end Go.Proofs.Ytmgmaflfednngaa.PFnExactTellerNew
