-- A copy, made by trim.py (its own words shortened): not an official print.
import Derived.Test.YtmgmaflfednngaaZExactTellerNewPFnExactTellerNewx0
import Derived.Test.YtmgmaflfednngaaZExactTellerNewPFnExactTellerNewx8
namespace Go.Proofs.Ytmgmaflfednngaa.PFnExactTellerNew
open Go.RowKit Go.Proofs.YtmgmaflfednngaaW.PrintWords Go.Proofs.YtmgmaflfednngaaW.PrintLast Go.Proofs.YtmgmaflfednngaaW.PrintMore
attribute [local go_sem] max2_int min2_int max_two min_two max_three min_three max_four min_four   -- for this text's walks alone
set_option linter.unusedVariables false
set_option linter.unusedSimpArgs false
def laws_markStringS.l0 : Nat → List ByteArray → Int → Int → Option (Int × List ByteArray)
 | 0, _, _, _ => none
 | k + 1, x0, x1, x5 => if x5 < (x0.length : Int) then ((laws_markText.f k x1).bind fun t218 => (if 0 ≤ x5 then (laws_markStringS.l0 k (x0.set (x5 : Int).toNat t218) (wrap64 (x1 + 1)) (wrap64 (x5 + 1))) else (none))) else (some (x1, x0))
def laws_markStringS.f (k : Nat) (l0 : List ByteArray) (a1 : Int) : Option (Int × List ByteArray) := laws_markStringS.l0 k l0 a1 0
theorem laws_markStringS.mono_l : ∀ k, (∀ y0 y1 y2, LeO (laws_markStringS.l0 k y0 y1 y2) (laws_markStringS.l0 (k + 1) y0 y1 y2))
 | 0 => fun _ _ _ r h => by simp [laws_markStringS.l0] at h
 | k + 1 => by
  have ih0 := laws_markStringS.mono_l k
  ·intro y0 y1 y2
   unfold laws_markStringS.l0
   repeat' first
   | (with_reducible exact ih0 _ _ _)
   | (with_reducible exact laws_markText.mono _ _)
   | (with_reducible exact LeO.refl _)
   | (with_reducible exact LeO.none _)
   | (with_reducible refine LeO.ite ?_ ?_)
   | (with_reducible refine LeO.bind ?_ (fun _ => ?_))
   | exact ih0 _ _ _
   | exact laws_markText.mono _ _
   | exact LeO.none _
   | refine LeO.ite ?_ ?_
   | refine LeO.bind ?_ (fun _ => ?_)
theorem laws_markStringS.mono : ∀ a0 a1 k, LeO (laws_markStringS.f k a0 a1) (laws_markStringS.f (k + 1) a0 a1) := by
 intro a0 a1 k
 have ih0 := laws_markStringS.mono_l k
 unfold laws_markStringS.f
 repeat' first
   | (with_reducible exact ih0 _ _ _)
   | (with_reducible exact laws_markText.mono _ _)
   | (with_reducible exact LeO.refl _)
   | (with_reducible exact LeO.none _)
   | (with_reducible refine LeO.ite ?_ ?_)
   | (with_reducible refine LeO.bind ?_ (fun _ => ?_))
   | exact ih0 _ _ _
   | exact laws_markText.mono _ _
   | exact LeO.none _
   | refine LeO.ite ?_ ?_
   | refine LeO.bind ?_ (fun _ => ?_)
set_option maxHeartbeats 8000000 in
set_option maxRecDepth 100000 in
theorem laws_markStringS.calls (k : Nat) (P0_ : Nat → Prop) (u9000_ : Value) (l0 : List ByteArray) (a1 : Int) (r1 : Int) (r2 : List ByteArray) (w0 w : World) (hB : Below w0.heap.size w0 w) (ho0 : Kd.R Kd.string 9 w w0.heap.size P0_ u9000_ l0) (h : laws_markStringS.f k l0 a1 = some (r1, r2)) :
  Calls Try.prog 126 #[u9000_, .int .i64 a1] w fun e w' => e = .returned (.int .i64 r1) ∧ Kd.R Kd.string 9 w' w0.heap.size (fun k_ => (P0_ k_ ∨ w.heap.size ≤ k_)) u9000_ r2 ∧ Below w0.heap.size w0 w' ∧ Kept w w' (fun k_ => P0_ k_) := by
 have HO0 := Aside0.mk (show Kd.R Kd.string 9 w w0.heap.size (fun k_ => (P0_ k_ ∨ w.heap.size ≤ k_)) u9000_ l0 from Kd.R_mono ho0 (fun k_ hk => (.inl hk)))
 have HK := Aside0.mk (Kept.refl w (fun k_ => P0_ k_))
 have HW0 := Aside0.mk hB.size
 have HB := Aside0.mk hB
 clear hB
 have H : (laws_markStringS.l0 k l0 a1 0) = some (r1, r2) := h
 clear h
 have H' := Aside0.mk H
 clear H
 go_enter Try.func126, Try.ntmps126
 go_wp2
 go_loopg [1, 5] k (fun kq v1 v5 w' => ∃ (x0_1 : List ByteArray) (x1_1 : Int) (x5_1 : Int), v1 = .int .i64 x1_1 ∧ v5 = .int .i64 x5_1 ∧ Aside0 (laws_markStringS.l0 kq x0_1 x1_1 x5_1 = some (r1, r2)) ∧ Aside0 (kq ≤ k) ∧ Aside0 (Kd.R Kd.string 9 w' w0.heap.size (fun k_ => (P0_ k_ ∨ w.heap.size ≤ k_)) u9000_ x0_1) ∧ Aside0 (Kept w w' (fun k_ => P0_ k_)) ∧ Aside0 (Below w0.heap.size w0 w'))
 case atStart => exact ⟨(l0), (a1), (0), (by first | rfl | (simp; done) | (simp [*]; done)), (by first | rfl | (simp; done) | (simp [*]; done)), H', ⟨Nat.le_refl _⟩, ⟨by (with_reducible repeat (first | apply Kd.R_alloc | apply Kd.R_drewN | apply Kd.R_drew)); exact HO0.out⟩, ⟨by repeat (first | (with_reducible first | exact HK.out | apply Kept.alloc | apply Kept.drewN | apply Kept.drew) | exact HK.out)⟩, ⟨by repeat (first | (with_reducible first | exact HB.out | apply Qe | apply Qb | apply Qf) | exact HB.out)⟩⟩
 case round =>
  clear H'
  try clear c1
  try clear p2
  obtain ⟨x0_1, x1_1, x5_1, rfl, rfl, HA, HK1, HO_0, HK, HB⟩ := hrel
  cases gk with
  | zero => exact absurd HA.out (by simp [laws_markStringS.l0])
  | succ k1 =>
   have H := HA.out
   clear HA
   simp only [laws_markStringS.l0] at H
   by_cases c3 : x5_1 < (x0_1.length : Int)
   ·rw [if_pos c3] at H
    have c3b0 : decide (x5_1 < (x0_1.length : Int)) = true := decide_eq_true c3
    clear c3
    replace H := Option.bind_eq_some_iff.mp H
    obtain ⟨t218, A40, H⟩ := H
    replace H : (if 0 ≤ x5_1 then (laws_markStringS.l0 k1 (x0_1.set (x5_1 : Int).toNat t218) (wrap64 (x1_1 + 1)) (wrap64 (x5_1 + 1))) else (none)) = some (r1, r2) := H
    have A4 := Aside0.mk A40
    clear A40
    by_cases c5 : 0 ≤ x5_1
    ·rw [if_pos c5] at H
     have c5b0 : decide (0 ≤ x5_1) = true := decide_eq_true c5
     clear c5
     obtain ⟨y219, hy219⟩ : ∃ y_ : List ByteArray, y_ = (x0_1.set (x5_1 : Int).toNat t218) := ⟨_, rfl⟩
     replace H : (laws_markStringS.l0 k1 y219 (wrap64 (x1_1 + 1)) (wrap64 (x5_1 + 1))) = some (r1, r2) := by first | (rw [hy219]; with_reducible exact H) | (have H2_ := (Option.bind_some _ _).symm.trans H; rw [hy219]; with_reducible exact H2_) | (have H2_ := (Option.bind_some _ _).symm.trans H; with_reducible exact H2_) | with_reducible exact H | (rw [hy219]; exact H) | exact H
     have Ny219 := Aside0.mk hy219
     clear hy219
     have H' := Aside0.mk H
     clear H
     obtain ⟨Ao7, co7, eo7⟩ := Kd.R_slice HO_0.out
     subst eo7
     go_wp2_with (first | ((with_reducible refine Qq (f := 155) rfl ?_); refine Qy (some 15) rfl rfl Try.func155 (by kernel_rfl) rfl #[.int .i64 x1_1] rfl (by (try simp only [List.map_toArray, List.map_cons, List.map_nil]); first | done | rfl | (simp only [List.length_drop, List.length_take]; rfl)) ?_; (with_reducible refine (laws_markText.calls k1 x1_1 t218 _ A4.out).mono ?_); rintro e w8 ⟨rfl, hb⟩; refine ⟨_, rfl, ?_⟩; have n0_ := Aside0.mk (Kd.R_below (by (with_reducible repeat (first | apply Kd.R_alloc | apply Kd.R_drewN | apply Kd.R_drew)); exact HO_0.out) hb); have n1_ := Aside0.mk (Kept.below (S := (fun k_ => P0_ k_)) (by repeat (first | (with_reducible first | exact HK.out | apply Kept.alloc | apply Kept.drewN | apply Kept.drew) | exact HK.out)) hb); have n2_ := Aside0.mk (Ql (by repeat (first | (with_reducible first | exact HB.out | apply Qe | apply Qb | apply Qf) | exact HB.out)) hb); clear HO_0; clear HK; clear HB; have HO_0 := n0_; have HK := n1_; have HB := n2_; clear n0_ n1_ n2_; (try clear hb); (try clear hb2); (try clear hk); (try clear hi); have p6 : 0 ≤ (x5_1 : Int) := of_decide_eq_true (by assumption); have q6 : (x5_1 : Int) < ((x0_1.length : Int) : Int) := of_decide_eq_true (by assumption); obtain ⟨go6, co6, eo6, gb6, gl6, cl6, HG6⟩ := Kd.R_form HO_0.out (by omega); (first | cases eo6 | (injection eo6 with ea_ en_ ec_; (first | subst ea_ | (injection ea_ with ea_; subst ea_)); subst ec_; clear en_)); have GB6 := Aside0.mk gb6; have GG6 := Aside0.mk HG6; clear gb6 gl6 HG6; have HMgo6 := Aside0.mk (show (P0_ go6 ∨ w.heap.size ≤ go6) from (HO_0.out.1 _ rfl)); obtain ⟨hx6_0, hf6_0⟩ := Kd.R_celln (⟨#[]⟩ : ByteArray) HO_0.out (x5_1 : Int) p6 q6; replace p6 := eq_true p6; replace q6 := eq_true q6; obtain ⟨hy9_, hz9_⟩ := Kd.R_celln (⟨#[]⟩ : ByteArray) HO_0.out (x5_1 : Int) (of_decide_eq_true (by assumption)) (of_decide_eq_true (by assumption)); have HP9 := Kd.R_putg HO_0.out (x5_1 : Int) t218) | ((with_reducible refine gate_store (t := 9) (p := 16) rfl ?_); refine store_event (t := 9) (p := 16) (v := ?vo_w10) (w1 := (w8.setCell ⟨go6, (x5_1 : Int).toNat, none⟩ (.string t218))) ?hg ?ho ?hn ?hr ?_; (case ho => rfl); (case hg => rfl); (case hn => rfl); (case hr => first | (go_simp; done) | (go_simp; rfl)); intro w10 hw; have hg : w8.grownBy w10 (some go6) := (by rw [hw]; exact HP9.2); have hp_ : Kd.R Kd.string 9 w10 w0.heap.size (fun k_ => (P0_ k_ ∨ w.heap.size ≤ k_)) (.slice (some ⟨go6, 0, none⟩) x0_1.length co7) y219 := (by rw [hw, Ny219.out]; exact HP9.1); clear HP9; have n0_ := Aside0.mk (hp_); have n1_ := Aside0.mk ((by rw [hw]; exact Qg (HB.out) GB6.out : Below w0.heap.size w0 w10)); have n2_ := Aside0.mk (Kept.of_grown (S := (fun k_ => P0_ k_)) hg (by repeat (first | (with_reducible first | exact HK.out | apply Kept.alloc | apply Kept.drewN | apply Kept.drew) | exact HK.out)) (fun k_ e_ => (HO_0.out.1 k_ e_))); clear HO_0; clear HB; clear HK; have HO_0 := n0_; have HB := n1_; have HK := n2_; clear n0_ n1_ n2_; clear hg hw hp_))
     go_roundg k1
     case measure => have := HK1.out; omega
     case rel => exact ⟨(y219), (wrap64 (x1_1 + 1)), (wrap64 (x5_1 + 1)), (by first | rfl | (simp; done) | (simp [*]; done)), (by first | rfl | (simp; done) | (simp [*]; done)), H', ⟨by have := HK1.out; omega⟩, ⟨by (with_reducible repeat (first | apply Kd.R_alloc | apply Kd.R_drewN | apply Kd.R_drew)); exact HO_0.out⟩, ⟨by repeat (first | (with_reducible first | exact HK.out | apply Kept.alloc | apply Kept.drewN | apply Kept.drew) | exact HK.out)⟩, ⟨by repeat (first | (with_reducible first | exact HB.out | apply Qe | apply Qb | apply Qf) | exact HB.out)⟩⟩
    ·rw [if_neg c5] at H
     exact absurd H (by simp)
   ·rw [if_neg c3] at H
    have c3b0 : decide (x5_1 < (x0_1.length : Int)) = false := decide_eq_false c3
    clear c3
    simp only [Option.some.injEq, Prod.mk.injEq] at H
    obtain ⟨rfl, rfl⟩ := H
    obtain ⟨Ao11, co11, eo11⟩ := Kd.R_slice HO_0.out
    subst eo11
    go_wp2
    go_ret
    exact ⟨by first | rfl | (simp [Qn, Qm] <;> rfl) | (simp [*, Qn, Qm] <;> rfl), by (with_reducible repeat (first | apply Kd.R_alloc | apply Kd.R_drewN | apply Kd.R_drew)); exact HO_0.out, by repeat (first | (with_reducible first | exact HB.out | apply Qe | apply Qb | apply Qf) | exact HB.out), by repeat (first | (with_reducible first | exact HK.out | apply Kept.alloc | apply Kept.drewN | apply Kept.drew) | exact HK.out)⟩
def laws_heldHeldS.l0 : Nat → List (S73) → Int → Int → Option (Int)
 | 0, _, _, _ => none
 | k + 1, x0, x1, x5 => if x5 < (x0.length : Int) then (if 0 ≤ x5 then (if ((Qd x0 x5).f0) = x1 then (if (((Qd x0 x5).f1) != ((Int.tmod (wrap64 (x1 + 1)) 3) == 0)) = true then (some (-1)) else (if ((Qd x0 x5).f2.f0) = (wrap64 ((wrap64 (x1 + 1)) + 1)) then (if ((Qd x0 x5).f2.f1) = (wrap64 ((wrap64 ((wrap64 (x1 + 1)) + 1)) + 1)) then (if ((Qd x0 x5).f2.f2) = (wrap64 ((wrap64 ((wrap64 ((wrap64 (x1 + 1)) + 1)) + 1)) + 1)) then (if ((Qd x0 x5).f2.f3) = (wrap64 ((wrap64 ((wrap64 ((wrap64 ((wrap64 (x1 + 1)) + 1)) + 1)) + 1)) + 1)) then (if ((Qd x0 x5).f2.f4) = (wrap64 ((wrap64 ((wrap64 ((wrap64 ((wrap64 ((wrap64 (x1 + 1)) + 1)) + 1)) + 1)) + 1)) + 1)) then (if ((Qd x0 x5).f2.f5) = (wrap64 ((wrap64 ((wrap64 ((wrap64 ((wrap64 ((wrap64 ((wrap64 (x1 + 1)) + 1)) + 1)) + 1)) + 1)) + 1)) + 1)) then (if (((Qd x0 x5).f2.f6) != ((Int.tmod (wrap64 ((wrap64 ((wrap64 ((wrap64 ((wrap64 ((wrap64 ((wrap64 ((wrap64 (x1 + 1)) + 1)) + 1)) + 1)) + 1)) + 1)) + 1)) + 1)) 3) == 0)) = true then (some (-1)) else (laws_heldHeldS.l0 k x0 (wrap64 ((wrap64 ((wrap64 ((wrap64 ((wrap64 ((wrap64 ((wrap64 ((wrap64 ((wrap64 (x1 + 1)) + 1)) + 1)) + 1)) + 1)) + 1)) + 1)) + 1)) + 1)) (wrap64 (x5 + 1)))) else (some (-1))) else (some (-1))) else (some (-1))) else (some (-1))) else (some (-1))) else (some (-1)))) else (some (-1))) else (none)) else (some x1)
def laws_heldHeldS.f (k : Nat) (l0 : List (S73)) (a1 : Int) : Option (Int) := laws_heldHeldS.l0 k l0 a1 0
theorem laws_heldHeldS.mono_l : ∀ k, (∀ y0 y1 y2, LeO (laws_heldHeldS.l0 k y0 y1 y2) (laws_heldHeldS.l0 (k + 1) y0 y1 y2))
 | 0 => fun _ _ _ r h => by simp [laws_heldHeldS.l0] at h
 | k + 1 => by
  have ih0 := laws_heldHeldS.mono_l k
  ·intro y0 y1 y2
   unfold laws_heldHeldS.l0
   repeat' first
   | (with_reducible exact ih0 _ _ _)
   | (with_reducible exact LeO.refl _)
   | (with_reducible exact LeO.none _)
   | (with_reducible refine LeO.ite ?_ ?_)
   | (with_reducible refine LeO.bind ?_ (fun _ => ?_))
   | exact ih0 _ _ _
   | exact LeO.none _
   | refine LeO.ite ?_ ?_
   | refine LeO.bind ?_ (fun _ => ?_)
theorem laws_heldHeldS.mono : ∀ a0 a1 k, LeO (laws_heldHeldS.f k a0 a1) (laws_heldHeldS.f (k + 1) a0 a1) := by
 intro a0 a1 k
 have ih0 := laws_heldHeldS.mono_l k
 unfold laws_heldHeldS.f
 repeat' first
   | (with_reducible exact ih0 _ _ _)
   | (with_reducible exact LeO.refl _)
   | (with_reducible exact LeO.none _)
   | (with_reducible refine LeO.ite ?_ ?_)
   | (with_reducible refine LeO.bind ?_ (fun _ => ?_))
   | exact ih0 _ _ _
   | exact LeO.none _
   | refine LeO.ite ?_ ?_
   | refine LeO.bind ?_ (fun _ => ?_)
set_option maxHeartbeats 8000000 in
set_option maxRecDepth 100000 in
theorem laws_heldHeldS.calls (k : Nat) (A0 : Option Addr) (c0 : Nat) (l0 : List (S73)) (a1 : Int) (r : Int) (w : World) (hr0 : Kd.C k73 w A0 l0.length l0) (hc0 : l0.length ≤ c0) (h : laws_heldHeldS.f k l0 a1 = some r) :
  Calls Try.prog 66 #[.slice A0 l0.length c0, .int .i64 a1] w fun e w' => e = .returned (.int .i64 r) ∧ Drawn0 w w' := by
 have HR0 := Aside0.mk hr0
 have HC0 := Aside0.mk hc0
 clear hr0 hc0
 have H : (laws_heldHeldS.l0 k l0 a1 0) = some r := h
 clear h
 have H' := Aside0.mk H
 clear H
 go_enter Try.func66, Try.ntmps66
 go_wp2
 go_loopg [1, 5] k (fun kq v1 v5 w' => ∃ (x1_1 : Int) (x5_1 : Int), v1 = .int .i64 x1_1 ∧ v5 = .int .i64 x5_1 ∧ Aside0 (laws_heldHeldS.l0 kq l0 x1_1 x5_1 = some r) ∧ Aside0 (kq ≤ k) ∧ Drawn0 w w')
 case atStart => exact ⟨(a1), (0), (by first | rfl | (simp; done) | (simp [*]; done)), (by first | rfl | (simp; done) | (simp [*]; done)), H', ⟨Nat.le_refl _⟩, by repeat (first | exact Drawn0.refl _ | apply Drawn0.step)⟩
 case round =>
  clear H'
  try clear p2
  obtain ⟨x1_1, x5_1, rfl, rfl, HA, HK1, ⟨m1, rfl⟩⟩ := hrel
  cases gk with
  | zero => exact absurd HA.out (by simp [laws_heldHeldS.l0])
  | succ k1 =>
   have H := HA.out
   clear HA
   simp only [laws_heldHeldS.l0] at H
   by_cases c3 : x5_1 < (l0.length : Int)
   ·rw [if_pos c3] at H
    have c3b0 : decide (x5_1 < (l0.length : Int)) = true := decide_eq_true c3
    clear c3
    by_cases c4 : 0 ≤ x5_1
    ·rw [if_pos c4] at H
     have c4b0 : decide (0 ≤ x5_1) = true := decide_eq_true c4
     clear c4
     by_cases c5 : ((Qd l0 x5_1).f0) = x1_1
     ·rw [if_pos c5] at H
      have c5b0 : (((Qd l0 x5_1).f0) == x1_1) = true := beq_iff_eq.mpr c5
      have c5b1 : (((Qd l0 x5_1).f0) != x1_1) = false := bne_eq_false_iff_eq.mpr c5
      clear c5
      by_cases c6 : (((Qd l0 x5_1).f1) != ((Int.tmod (wrap64 (x1_1 + 1)) 3) == 0)) = true
      ·rw [if_pos c6] at H
       have c6b0 : (((Qd l0 x5_1).f1) != ((Int.tmod (wrap64 (x1_1 + 1)) 3) == 0)) = true := c6
       (try (have c6b1 : decide (((Qd l0 x5_1).f1) = ((Int.tmod (wrap64 (x1_1 + 1)) 3) == 0)) = false := by simpa using c6))
       (try (have c6b2 : (((Qd l0 x5_1).f1) == ((Int.tmod (wrap64 (x1_1 + 1)) 3) == 0)) = false := by simpa using c6))
       (try (have c6b3 : ¬ (((Qd l0 x5_1).f1) = ((Int.tmod (wrap64 (x1_1 + 1)) 3) == 0)) := by simpa using c6))
       clear c6
       obtain rfl := Option.some.inj H
       have p222 : 0 ≤ (x5_1 : Int) := of_decide_eq_true (by assumption)
       have q222 : x5_1 < (l0.length : Int) := of_decide_eq_true (by assumption)
       obtain ⟨ad222, e222, hx222_0, hx222_1, hx222_2, hx222_3, hx222_4, hx222_5, hx222_6, hx222_7, hx222_8⟩ := Qw HR0.out x5_1 p222 q222
       cases e222
       replace p222 := eq_true p222
       replace q222 := eq_true q222
       have p223 : 0 ≤ (x5_1 : Int) := of_decide_eq_true (by assumption)
       have q223 : x5_1 < (l0.length : Int) := of_decide_eq_true (by assumption)
       obtain ⟨ad223, e223, hx223_0, hx223_1, hx223_2, hx223_3, hx223_4, hx223_5, hx223_6, hx223_7, hx223_8⟩ := Qw HR0.out x5_1 p223 q223
       obtain rfl : ad222 = ad223 := (by injection e223)
       replace p223 := eq_true p223
       replace q223 := eq_true q223
       go_wp2
       go_ret
       exact ⟨by first | rfl | (simp; done) | (simp [*]; done), by repeat (first | exact Drawn0.refl _ | apply Drawn0.step)⟩
      ·rw [if_neg c6] at H
       have c6b0 : (((Qd l0 x5_1).f1) != ((Int.tmod (wrap64 (x1_1 + 1)) 3) == 0)) = false := by simpa using c6
       (try (have c6b1 : decide (((Qd l0 x5_1).f1) = ((Int.tmod (wrap64 (x1_1 + 1)) 3) == 0)) = true := by simpa using c6))
       (try (have c6b2 : (((Qd l0 x5_1).f1) == ((Int.tmod (wrap64 (x1_1 + 1)) 3) == 0)) = true := by simpa using c6))
       clear c6
       by_cases c7 : ((Qd l0 x5_1).f2.f0) = (wrap64 ((wrap64 (x1_1 + 1)) + 1))
       ·rw [if_pos c7] at H
        have c7b0 : (((Qd l0 x5_1).f2.f0) == (wrap64 ((wrap64 (x1_1 + 1)) + 1))) = true := beq_iff_eq.mpr c7
        have c7b1 : (((Qd l0 x5_1).f2.f0) != (wrap64 ((wrap64 (x1_1 + 1)) + 1))) = false := bne_eq_false_iff_eq.mpr c7
        clear c7
        by_cases c8 : ((Qd l0 x5_1).f2.f1) = (wrap64 ((wrap64 ((wrap64 (x1_1 + 1)) + 1)) + 1))
        ·rw [if_pos c8] at H
         have c8b0 : (((Qd l0 x5_1).f2.f1) == (wrap64 ((wrap64 ((wrap64 (x1_1 + 1)) + 1)) + 1))) = true := beq_iff_eq.mpr c8
         have c8b1 : (((Qd l0 x5_1).f2.f1) != (wrap64 ((wrap64 ((wrap64 (x1_1 + 1)) + 1)) + 1))) = false := bne_eq_false_iff_eq.mpr c8
         clear c8
         by_cases c9 : ((Qd l0 x5_1).f2.f2) = (wrap64 ((wrap64 ((wrap64 ((wrap64 (x1_1 + 1)) + 1)) + 1)) + 1))
         ·rw [if_pos c9] at H
          have c9b0 : (((Qd l0 x5_1).f2.f2) == (wrap64 ((wrap64 ((wrap64 ((wrap64 (x1_1 + 1)) + 1)) + 1)) + 1))) = true := beq_iff_eq.mpr c9
          have c9b1 : (((Qd l0 x5_1).f2.f2) != (wrap64 ((wrap64 ((wrap64 ((wrap64 (x1_1 + 1)) + 1)) + 1)) + 1))) = false := bne_eq_false_iff_eq.mpr c9
          clear c9
          by_cases c10 : ((Qd l0 x5_1).f2.f3) = (wrap64 ((wrap64 ((wrap64 ((wrap64 ((wrap64 (x1_1 + 1)) + 1)) + 1)) + 1)) + 1))
          ·rw [if_pos c10] at H
           have c10b0 : (((Qd l0 x5_1).f2.f3) == (wrap64 ((wrap64 ((wrap64 ((wrap64 ((wrap64 (x1_1 + 1)) + 1)) + 1)) + 1)) + 1))) = true := beq_iff_eq.mpr c10
           have c10b1 : (((Qd l0 x5_1).f2.f3) != (wrap64 ((wrap64 ((wrap64 ((wrap64 ((wrap64 (x1_1 + 1)) + 1)) + 1)) + 1)) + 1))) = false := bne_eq_false_iff_eq.mpr c10
           clear c10
           by_cases c11 : ((Qd l0 x5_1).f2.f4) = (wrap64 ((wrap64 ((wrap64 ((wrap64 ((wrap64 ((wrap64 (x1_1 + 1)) + 1)) + 1)) + 1)) + 1)) + 1))
           ·rw [if_pos c11] at H
            have c11b0 : (((Qd l0 x5_1).f2.f4) == (wrap64 ((wrap64 ((wrap64 ((wrap64 ((wrap64 ((wrap64 (x1_1 + 1)) + 1)) + 1)) + 1)) + 1)) + 1))) = true := beq_iff_eq.mpr c11
            have c11b1 : (((Qd l0 x5_1).f2.f4) != (wrap64 ((wrap64 ((wrap64 ((wrap64 ((wrap64 ((wrap64 (x1_1 + 1)) + 1)) + 1)) + 1)) + 1)) + 1))) = false := bne_eq_false_iff_eq.mpr c11
            clear c11
            by_cases c12 : ((Qd l0 x5_1).f2.f5) = (wrap64 ((wrap64 ((wrap64 ((wrap64 ((wrap64 ((wrap64 ((wrap64 (x1_1 + 1)) + 1)) + 1)) + 1)) + 1)) + 1)) + 1))
            ·rw [if_pos c12] at H
             have c12b0 : (((Qd l0 x5_1).f2.f5) == (wrap64 ((wrap64 ((wrap64 ((wrap64 ((wrap64 ((wrap64 ((wrap64 (x1_1 + 1)) + 1)) + 1)) + 1)) + 1)) + 1)) + 1))) = true := beq_iff_eq.mpr c12
             have c12b1 : (((Qd l0 x5_1).f2.f5) != (wrap64 ((wrap64 ((wrap64 ((wrap64 ((wrap64 ((wrap64 ((wrap64 (x1_1 + 1)) + 1)) + 1)) + 1)) + 1)) + 1)) + 1))) = false := bne_eq_false_iff_eq.mpr c12
             clear c12
             by_cases c13 : (((Qd l0 x5_1).f2.f6) != ((Int.tmod (wrap64 ((wrap64 ((wrap64 ((wrap64 ((wrap64 ((wrap64 ((wrap64 ((wrap64 (x1_1 + 1)) + 1)) + 1)) + 1)) + 1)) + 1)) + 1)) + 1)) 3) == 0)) = true
             ·rw [if_pos c13] at H
              have c13b0 : (((Qd l0 x5_1).f2.f6) != ((Int.tmod (wrap64 ((wrap64 ((wrap64 ((wrap64 ((wrap64 ((wrap64 ((wrap64 ((wrap64 (x1_1 + 1)) + 1)) + 1)) + 1)) + 1)) + 1)) + 1)) + 1)) 3) == 0)) = true := c13
              (try (have c13b1 : decide (((Qd l0 x5_1).f2.f6) = ((Int.tmod (wrap64 ((wrap64 ((wrap64 ((wrap64 ((wrap64 ((wrap64 ((wrap64 ((wrap64 (x1_1 + 1)) + 1)) + 1)) + 1)) + 1)) + 1)) + 1)) + 1)) 3) == 0)) = false := by simpa using c13))
              (try (have c13b2 : (((Qd l0 x5_1).f2.f6) == ((Int.tmod (wrap64 ((wrap64 ((wrap64 ((wrap64 ((wrap64 ((wrap64 ((wrap64 ((wrap64 (x1_1 + 1)) + 1)) + 1)) + 1)) + 1)) + 1)) + 1)) + 1)) 3) == 0)) = false := by simpa using c13))
              (try (have c13b3 : ¬ (((Qd l0 x5_1).f2.f6) = ((Int.tmod (wrap64 ((wrap64 ((wrap64 ((wrap64 ((wrap64 ((wrap64 ((wrap64 ((wrap64 (x1_1 + 1)) + 1)) + 1)) + 1)) + 1)) + 1)) + 1)) + 1)) 3) == 0)) := by simpa using c13))
              clear c13
              obtain rfl := Option.some.inj H
              have p222 : 0 ≤ (x5_1 : Int) := of_decide_eq_true (by assumption)
              have q222 : x5_1 < (l0.length : Int) := of_decide_eq_true (by assumption)
              obtain ⟨ad222, e222, hx222_0, hx222_1, hx222_2, hx222_3, hx222_4, hx222_5, hx222_6, hx222_7, hx222_8⟩ := Qw HR0.out x5_1 p222 q222
              cases e222
              replace p222 := eq_true p222
              replace q222 := eq_true q222
              have p223 : 0 ≤ (x5_1 : Int) := of_decide_eq_true (by assumption)
              have q223 : x5_1 < (l0.length : Int) := of_decide_eq_true (by assumption)
              obtain ⟨ad223, e223, hx223_0, hx223_1, hx223_2, hx223_3, hx223_4, hx223_5, hx223_6, hx223_7, hx223_8⟩ := Qw HR0.out x5_1 p223 q223
              obtain rfl : ad222 = ad223 := (by injection e223)
              replace p223 := eq_true p223
              replace q223 := eq_true q223
              have p224 : 0 ≤ (x5_1 : Int) := of_decide_eq_true (by assumption)
              have q224 : x5_1 < (l0.length : Int) := of_decide_eq_true (by assumption)
              obtain ⟨ad224, e224, hx224_0, hx224_1, hx224_2, hx224_3, hx224_4, hx224_5, hx224_6, hx224_7, hx224_8⟩ := Qw HR0.out x5_1 p224 q224
              obtain rfl : ad222 = ad224 := (by injection e224)
              replace p224 := eq_true p224
              replace q224 := eq_true q224
              have p225 : 0 ≤ (x5_1 : Int) := of_decide_eq_true (by assumption)
              have q225 : x5_1 < (l0.length : Int) := of_decide_eq_true (by assumption)
              obtain ⟨ad225, e225, hx225_0, hx225_1, hx225_2, hx225_3, hx225_4, hx225_5, hx225_6, hx225_7, hx225_8⟩ := Qw HR0.out x5_1 p225 q225
              obtain rfl : ad222 = ad225 := (by injection e225)
              replace p225 := eq_true p225
              replace q225 := eq_true q225
              have p226 : 0 ≤ (x5_1 : Int) := of_decide_eq_true (by assumption)
              have q226 : x5_1 < (l0.length : Int) := of_decide_eq_true (by assumption)
              obtain ⟨ad226, e226, hx226_0, hx226_1, hx226_2, hx226_3, hx226_4, hx226_5, hx226_6, hx226_7, hx226_8⟩ := Qw HR0.out x5_1 p226 q226
              obtain rfl : ad222 = ad226 := (by injection e226)
              replace p226 := eq_true p226
              replace q226 := eq_true q226
              have p227 : 0 ≤ (x5_1 : Int) := of_decide_eq_true (by assumption)
              have q227 : x5_1 < (l0.length : Int) := of_decide_eq_true (by assumption)
              obtain ⟨ad227, e227, hx227_0, hx227_1, hx227_2, hx227_3, hx227_4, hx227_5, hx227_6, hx227_7, hx227_8⟩ := Qw HR0.out x5_1 p227 q227
              obtain rfl : ad222 = ad227 := (by injection e227)
              replace p227 := eq_true p227
              replace q227 := eq_true q227
              have p228 : 0 ≤ (x5_1 : Int) := of_decide_eq_true (by assumption)
              have q228 : x5_1 < (l0.length : Int) := of_decide_eq_true (by assumption)
              obtain ⟨ad228, e228, hx228_0, hx228_1, hx228_2, hx228_3, hx228_4, hx228_5, hx228_6, hx228_7, hx228_8⟩ := Qw HR0.out x5_1 p228 q228
              obtain rfl : ad222 = ad228 := (by injection e228)
              replace p228 := eq_true p228
              replace q228 := eq_true q228
              have p229 : 0 ≤ (x5_1 : Int) := of_decide_eq_true (by assumption)
              have q229 : x5_1 < (l0.length : Int) := of_decide_eq_true (by assumption)
              obtain ⟨ad229, e229, hx229_0, hx229_1, hx229_2, hx229_3, hx229_4, hx229_5, hx229_6, hx229_7, hx229_8⟩ := Qw HR0.out x5_1 p229 q229
              obtain rfl : ad222 = ad229 := (by injection e229)
              replace p229 := eq_true p229
              replace q229 := eq_true q229
              have p230 : 0 ≤ (x5_1 : Int) := of_decide_eq_true (by assumption)
              have q230 : x5_1 < (l0.length : Int) := of_decide_eq_true (by assumption)
              obtain ⟨ad230, e230, hx230_0, hx230_1, hx230_2, hx230_3, hx230_4, hx230_5, hx230_6, hx230_7, hx230_8⟩ := Qw HR0.out x5_1 p230 q230
              obtain rfl : ad222 = ad230 := (by injection e230)
              replace p230 := eq_true p230
              replace q230 := eq_true q230
              go_wp2
              go_ret
              exact ⟨by first | rfl | (simp; done) | (simp [*]; done), by repeat (first | exact Drawn0.refl _ | apply Drawn0.step)⟩
             ·rw [if_neg c13] at H
              have c13b0 : (((Qd l0 x5_1).f2.f6) != ((Int.tmod (wrap64 ((wrap64 ((wrap64 ((wrap64 ((wrap64 ((wrap64 ((wrap64 ((wrap64 (x1_1 + 1)) + 1)) + 1)) + 1)) + 1)) + 1)) + 1)) + 1)) 3) == 0)) = false := by simpa using c13
              (try (have c13b1 : decide (((Qd l0 x5_1).f2.f6) = ((Int.tmod (wrap64 ((wrap64 ((wrap64 ((wrap64 ((wrap64 ((wrap64 ((wrap64 ((wrap64 (x1_1 + 1)) + 1)) + 1)) + 1)) + 1)) + 1)) + 1)) + 1)) 3) == 0)) = true := by simpa using c13))
              (try (have c13b2 : (((Qd l0 x5_1).f2.f6) == ((Int.tmod (wrap64 ((wrap64 ((wrap64 ((wrap64 ((wrap64 ((wrap64 ((wrap64 ((wrap64 (x1_1 + 1)) + 1)) + 1)) + 1)) + 1)) + 1)) + 1)) + 1)) 3) == 0)) = true := by simpa using c13))
              clear c13
              have H' := Aside0.mk H
              clear H
              have p222 : 0 ≤ (x5_1 : Int) := of_decide_eq_true (by assumption)
              have q222 : x5_1 < (l0.length : Int) := of_decide_eq_true (by assumption)
              obtain ⟨ad222, e222, hx222_0, hx222_1, hx222_2, hx222_3, hx222_4, hx222_5, hx222_6, hx222_7, hx222_8⟩ := Qw HR0.out x5_1 p222 q222
              cases e222
              replace p222 := eq_true p222
              replace q222 := eq_true q222
              have p223 : 0 ≤ (x5_1 : Int) := of_decide_eq_true (by assumption)
              have q223 : x5_1 < (l0.length : Int) := of_decide_eq_true (by assumption)
              obtain ⟨ad223, e223, hx223_0, hx223_1, hx223_2, hx223_3, hx223_4, hx223_5, hx223_6, hx223_7, hx223_8⟩ := Qw HR0.out x5_1 p223 q223
              obtain rfl : ad222 = ad223 := (by injection e223)
              replace p223 := eq_true p223
              replace q223 := eq_true q223
              have p224 : 0 ≤ (x5_1 : Int) := of_decide_eq_true (by assumption)
              have q224 : x5_1 < (l0.length : Int) := of_decide_eq_true (by assumption)
              obtain ⟨ad224, e224, hx224_0, hx224_1, hx224_2, hx224_3, hx224_4, hx224_5, hx224_6, hx224_7, hx224_8⟩ := Qw HR0.out x5_1 p224 q224
              obtain rfl : ad222 = ad224 := (by injection e224)
              replace p224 := eq_true p224
              replace q224 := eq_true q224
              have p225 : 0 ≤ (x5_1 : Int) := of_decide_eq_true (by assumption)
              have q225 : x5_1 < (l0.length : Int) := of_decide_eq_true (by assumption)
              obtain ⟨ad225, e225, hx225_0, hx225_1, hx225_2, hx225_3, hx225_4, hx225_5, hx225_6, hx225_7, hx225_8⟩ := Qw HR0.out x5_1 p225 q225
              obtain rfl : ad222 = ad225 := (by injection e225)
              replace p225 := eq_true p225
              replace q225 := eq_true q225
              have p226 : 0 ≤ (x5_1 : Int) := of_decide_eq_true (by assumption)
              have q226 : x5_1 < (l0.length : Int) := of_decide_eq_true (by assumption)
              obtain ⟨ad226, e226, hx226_0, hx226_1, hx226_2, hx226_3, hx226_4, hx226_5, hx226_6, hx226_7, hx226_8⟩ := Qw HR0.out x5_1 p226 q226
              obtain rfl : ad222 = ad226 := (by injection e226)
              replace p226 := eq_true p226
              replace q226 := eq_true q226
              have p227 : 0 ≤ (x5_1 : Int) := of_decide_eq_true (by assumption)
              have q227 : x5_1 < (l0.length : Int) := of_decide_eq_true (by assumption)
              obtain ⟨ad227, e227, hx227_0, hx227_1, hx227_2, hx227_3, hx227_4, hx227_5, hx227_6, hx227_7, hx227_8⟩ := Qw HR0.out x5_1 p227 q227
              obtain rfl : ad222 = ad227 := (by injection e227)
              replace p227 := eq_true p227
              replace q227 := eq_true q227
              have p228 : 0 ≤ (x5_1 : Int) := of_decide_eq_true (by assumption)
              have q228 : x5_1 < (l0.length : Int) := of_decide_eq_true (by assumption)
              obtain ⟨ad228, e228, hx228_0, hx228_1, hx228_2, hx228_3, hx228_4, hx228_5, hx228_6, hx228_7, hx228_8⟩ := Qw HR0.out x5_1 p228 q228
              obtain rfl : ad222 = ad228 := (by injection e228)
              replace p228 := eq_true p228
              replace q228 := eq_true q228
              have p229 : 0 ≤ (x5_1 : Int) := of_decide_eq_true (by assumption)
              have q229 : x5_1 < (l0.length : Int) := of_decide_eq_true (by assumption)
              obtain ⟨ad229, e229, hx229_0, hx229_1, hx229_2, hx229_3, hx229_4, hx229_5, hx229_6, hx229_7, hx229_8⟩ := Qw HR0.out x5_1 p229 q229
              obtain rfl : ad222 = ad229 := (by injection e229)
              replace p229 := eq_true p229
              replace q229 := eq_true q229
              have p230 : 0 ≤ (x5_1 : Int) := of_decide_eq_true (by assumption)
              have q230 : x5_1 < (l0.length : Int) := of_decide_eq_true (by assumption)
              obtain ⟨ad230, e230, hx230_0, hx230_1, hx230_2, hx230_3, hx230_4, hx230_5, hx230_6, hx230_7, hx230_8⟩ := Qw HR0.out x5_1 p230 q230
              obtain rfl : ad222 = ad230 := (by injection e230)
              replace p230 := eq_true p230
              replace q230 := eq_true q230
              go_wp2
              go_roundg k1
              case measure => have := HK1.out; omega
              case rel => exact ⟨(wrap64 ((wrap64 ((wrap64 ((wrap64 ((wrap64 ((wrap64 ((wrap64 ((wrap64 ((wrap64 (x1_1 + 1)) + 1)) + 1)) + 1)) + 1)) + 1)) + 1)) + 1)) + 1)), (wrap64 (x5_1 + 1)), (by first | rfl | (simp; done) | (simp [*]; done)), (by first | rfl | (simp; done) | (simp [*]; done)), H', ⟨by have := HK1.out; omega⟩, by repeat (first | exact Drawn0.refl _ | apply Drawn0.step)⟩
            ·rw [if_neg c12] at H
             have c12b0 : (((Qd l0 x5_1).f2.f5) == (wrap64 ((wrap64 ((wrap64 ((wrap64 ((wrap64 ((wrap64 ((wrap64 (x1_1 + 1)) + 1)) + 1)) + 1)) + 1)) + 1)) + 1))) = false := beq_eq_false_iff_ne.mpr c12
             have c12b1 : (((Qd l0 x5_1).f2.f5) != (wrap64 ((wrap64 ((wrap64 ((wrap64 ((wrap64 ((wrap64 ((wrap64 (x1_1 + 1)) + 1)) + 1)) + 1)) + 1)) + 1)) + 1))) = true := bne_iff_ne.mpr c12
             obtain rfl := Option.some.inj H
             have p222 : 0 ≤ (x5_1 : Int) := of_decide_eq_true (by assumption)
             have q222 : x5_1 < (l0.length : Int) := of_decide_eq_true (by assumption)
             obtain ⟨ad222, e222, hx222_0, hx222_1, hx222_2, hx222_3, hx222_4, hx222_5, hx222_6, hx222_7, hx222_8⟩ := Qw HR0.out x5_1 p222 q222
             cases e222
             replace p222 := eq_true p222
             replace q222 := eq_true q222
             have p223 : 0 ≤ (x5_1 : Int) := of_decide_eq_true (by assumption)
             have q223 : x5_1 < (l0.length : Int) := of_decide_eq_true (by assumption)
             obtain ⟨ad223, e223, hx223_0, hx223_1, hx223_2, hx223_3, hx223_4, hx223_5, hx223_6, hx223_7, hx223_8⟩ := Qw HR0.out x5_1 p223 q223
             obtain rfl : ad222 = ad223 := (by injection e223)
             replace p223 := eq_true p223
             replace q223 := eq_true q223
             have p224 : 0 ≤ (x5_1 : Int) := of_decide_eq_true (by assumption)
             have q224 : x5_1 < (l0.length : Int) := of_decide_eq_true (by assumption)
             obtain ⟨ad224, e224, hx224_0, hx224_1, hx224_2, hx224_3, hx224_4, hx224_5, hx224_6, hx224_7, hx224_8⟩ := Qw HR0.out x5_1 p224 q224
             obtain rfl : ad222 = ad224 := (by injection e224)
             replace p224 := eq_true p224
             replace q224 := eq_true q224
             have p225 : 0 ≤ (x5_1 : Int) := of_decide_eq_true (by assumption)
             have q225 : x5_1 < (l0.length : Int) := of_decide_eq_true (by assumption)
             obtain ⟨ad225, e225, hx225_0, hx225_1, hx225_2, hx225_3, hx225_4, hx225_5, hx225_6, hx225_7, hx225_8⟩ := Qw HR0.out x5_1 p225 q225
             obtain rfl : ad222 = ad225 := (by injection e225)
             replace p225 := eq_true p225
             replace q225 := eq_true q225
             have p226 : 0 ≤ (x5_1 : Int) := of_decide_eq_true (by assumption)
             have q226 : x5_1 < (l0.length : Int) := of_decide_eq_true (by assumption)
             obtain ⟨ad226, e226, hx226_0, hx226_1, hx226_2, hx226_3, hx226_4, hx226_5, hx226_6, hx226_7, hx226_8⟩ := Qw HR0.out x5_1 p226 q226
             obtain rfl : ad222 = ad226 := (by injection e226)
             replace p226 := eq_true p226
             replace q226 := eq_true q226
             have p227 : 0 ≤ (x5_1 : Int) := of_decide_eq_true (by assumption)
             have q227 : x5_1 < (l0.length : Int) := of_decide_eq_true (by assumption)
             obtain ⟨ad227, e227, hx227_0, hx227_1, hx227_2, hx227_3, hx227_4, hx227_5, hx227_6, hx227_7, hx227_8⟩ := Qw HR0.out x5_1 p227 q227
             obtain rfl : ad222 = ad227 := (by injection e227)
             replace p227 := eq_true p227
             replace q227 := eq_true q227
             have p228 : 0 ≤ (x5_1 : Int) := of_decide_eq_true (by assumption)
             have q228 : x5_1 < (l0.length : Int) := of_decide_eq_true (by assumption)
             obtain ⟨ad228, e228, hx228_0, hx228_1, hx228_2, hx228_3, hx228_4, hx228_5, hx228_6, hx228_7, hx228_8⟩ := Qw HR0.out x5_1 p228 q228
             obtain rfl : ad222 = ad228 := (by injection e228)
             replace p228 := eq_true p228
             replace q228 := eq_true q228
             have p229 : 0 ≤ (x5_1 : Int) := of_decide_eq_true (by assumption)
             have q229 : x5_1 < (l0.length : Int) := of_decide_eq_true (by assumption)
             obtain ⟨ad229, e229, hx229_0, hx229_1, hx229_2, hx229_3, hx229_4, hx229_5, hx229_6, hx229_7, hx229_8⟩ := Qw HR0.out x5_1 p229 q229
             obtain rfl : ad222 = ad229 := (by injection e229)
             replace p229 := eq_true p229
             replace q229 := eq_true q229
             go_wp2
             go_ret
             exact ⟨by first | rfl | (simp; done) | (simp [*]; done), by repeat (first | exact Drawn0.refl _ | apply Drawn0.step)⟩
           ·rw [if_neg c11] at H
            have c11b0 : (((Qd l0 x5_1).f2.f4) == (wrap64 ((wrap64 ((wrap64 ((wrap64 ((wrap64 ((wrap64 (x1_1 + 1)) + 1)) + 1)) + 1)) + 1)) + 1))) = false := beq_eq_false_iff_ne.mpr c11
            have c11b1 : (((Qd l0 x5_1).f2.f4) != (wrap64 ((wrap64 ((wrap64 ((wrap64 ((wrap64 ((wrap64 (x1_1 + 1)) + 1)) + 1)) + 1)) + 1)) + 1))) = true := bne_iff_ne.mpr c11
            obtain rfl := Option.some.inj H
            have p222 : 0 ≤ (x5_1 : Int) := of_decide_eq_true (by assumption)
            have q222 : x5_1 < (l0.length : Int) := of_decide_eq_true (by assumption)
            obtain ⟨ad222, e222, hx222_0, hx222_1, hx222_2, hx222_3, hx222_4, hx222_5, hx222_6, hx222_7, hx222_8⟩ := Qw HR0.out x5_1 p222 q222
            cases e222
            replace p222 := eq_true p222
            replace q222 := eq_true q222
            have p223 : 0 ≤ (x5_1 : Int) := of_decide_eq_true (by assumption)
            have q223 : x5_1 < (l0.length : Int) := of_decide_eq_true (by assumption)
            obtain ⟨ad223, e223, hx223_0, hx223_1, hx223_2, hx223_3, hx223_4, hx223_5, hx223_6, hx223_7, hx223_8⟩ := Qw HR0.out x5_1 p223 q223
            obtain rfl : ad222 = ad223 := (by injection e223)
            replace p223 := eq_true p223
            replace q223 := eq_true q223
            have p224 : 0 ≤ (x5_1 : Int) := of_decide_eq_true (by assumption)
            have q224 : x5_1 < (l0.length : Int) := of_decide_eq_true (by assumption)
            obtain ⟨ad224, e224, hx224_0, hx224_1, hx224_2, hx224_3, hx224_4, hx224_5, hx224_6, hx224_7, hx224_8⟩ := Qw HR0.out x5_1 p224 q224
            obtain rfl : ad222 = ad224 := (by injection e224)
            replace p224 := eq_true p224
            replace q224 := eq_true q224
            have p225 : 0 ≤ (x5_1 : Int) := of_decide_eq_true (by assumption)
            have q225 : x5_1 < (l0.length : Int) := of_decide_eq_true (by assumption)
            obtain ⟨ad225, e225, hx225_0, hx225_1, hx225_2, hx225_3, hx225_4, hx225_5, hx225_6, hx225_7, hx225_8⟩ := Qw HR0.out x5_1 p225 q225
            obtain rfl : ad222 = ad225 := (by injection e225)
            replace p225 := eq_true p225
            replace q225 := eq_true q225
            have p226 : 0 ≤ (x5_1 : Int) := of_decide_eq_true (by assumption)
            have q226 : x5_1 < (l0.length : Int) := of_decide_eq_true (by assumption)
            obtain ⟨ad226, e226, hx226_0, hx226_1, hx226_2, hx226_3, hx226_4, hx226_5, hx226_6, hx226_7, hx226_8⟩ := Qw HR0.out x5_1 p226 q226
            obtain rfl : ad222 = ad226 := (by injection e226)
            replace p226 := eq_true p226
            replace q226 := eq_true q226
            have p227 : 0 ≤ (x5_1 : Int) := of_decide_eq_true (by assumption)
            have q227 : x5_1 < (l0.length : Int) := of_decide_eq_true (by assumption)
            obtain ⟨ad227, e227, hx227_0, hx227_1, hx227_2, hx227_3, hx227_4, hx227_5, hx227_6, hx227_7, hx227_8⟩ := Qw HR0.out x5_1 p227 q227
            obtain rfl : ad222 = ad227 := (by injection e227)
            replace p227 := eq_true p227
            replace q227 := eq_true q227
            have p228 : 0 ≤ (x5_1 : Int) := of_decide_eq_true (by assumption)
            have q228 : x5_1 < (l0.length : Int) := of_decide_eq_true (by assumption)
            obtain ⟨ad228, e228, hx228_0, hx228_1, hx228_2, hx228_3, hx228_4, hx228_5, hx228_6, hx228_7, hx228_8⟩ := Qw HR0.out x5_1 p228 q228
            obtain rfl : ad222 = ad228 := (by injection e228)
            replace p228 := eq_true p228
            replace q228 := eq_true q228
            go_wp2
            go_ret
            exact ⟨by first | rfl | (simp; done) | (simp [*]; done), by repeat (first | exact Drawn0.refl _ | apply Drawn0.step)⟩
          ·rw [if_neg c10] at H
           have c10b0 : (((Qd l0 x5_1).f2.f3) == (wrap64 ((wrap64 ((wrap64 ((wrap64 ((wrap64 (x1_1 + 1)) + 1)) + 1)) + 1)) + 1))) = false := beq_eq_false_iff_ne.mpr c10
           have c10b1 : (((Qd l0 x5_1).f2.f3) != (wrap64 ((wrap64 ((wrap64 ((wrap64 ((wrap64 (x1_1 + 1)) + 1)) + 1)) + 1)) + 1))) = true := bne_iff_ne.mpr c10
           obtain rfl := Option.some.inj H
           have p222 : 0 ≤ (x5_1 : Int) := of_decide_eq_true (by assumption)
           have q222 : x5_1 < (l0.length : Int) := of_decide_eq_true (by assumption)
           obtain ⟨ad222, e222, hx222_0, hx222_1, hx222_2, hx222_3, hx222_4, hx222_5, hx222_6, hx222_7, hx222_8⟩ := Qw HR0.out x5_1 p222 q222
           cases e222
           replace p222 := eq_true p222
           replace q222 := eq_true q222
           have p223 : 0 ≤ (x5_1 : Int) := of_decide_eq_true (by assumption)
           have q223 : x5_1 < (l0.length : Int) := of_decide_eq_true (by assumption)
           obtain ⟨ad223, e223, hx223_0, hx223_1, hx223_2, hx223_3, hx223_4, hx223_5, hx223_6, hx223_7, hx223_8⟩ := Qw HR0.out x5_1 p223 q223
           obtain rfl : ad222 = ad223 := (by injection e223)
           replace p223 := eq_true p223
           replace q223 := eq_true q223
           have p224 : 0 ≤ (x5_1 : Int) := of_decide_eq_true (by assumption)
           have q224 : x5_1 < (l0.length : Int) := of_decide_eq_true (by assumption)
           obtain ⟨ad224, e224, hx224_0, hx224_1, hx224_2, hx224_3, hx224_4, hx224_5, hx224_6, hx224_7, hx224_8⟩ := Qw HR0.out x5_1 p224 q224
           obtain rfl : ad222 = ad224 := (by injection e224)
           replace p224 := eq_true p224
           replace q224 := eq_true q224
           have p225 : 0 ≤ (x5_1 : Int) := of_decide_eq_true (by assumption)
           have q225 : x5_1 < (l0.length : Int) := of_decide_eq_true (by assumption)
           obtain ⟨ad225, e225, hx225_0, hx225_1, hx225_2, hx225_3, hx225_4, hx225_5, hx225_6, hx225_7, hx225_8⟩ := Qw HR0.out x5_1 p225 q225
           obtain rfl : ad222 = ad225 := (by injection e225)
           replace p225 := eq_true p225
           replace q225 := eq_true q225
           have p226 : 0 ≤ (x5_1 : Int) := of_decide_eq_true (by assumption)
           have q226 : x5_1 < (l0.length : Int) := of_decide_eq_true (by assumption)
           obtain ⟨ad226, e226, hx226_0, hx226_1, hx226_2, hx226_3, hx226_4, hx226_5, hx226_6, hx226_7, hx226_8⟩ := Qw HR0.out x5_1 p226 q226
           obtain rfl : ad222 = ad226 := (by injection e226)
           replace p226 := eq_true p226
           replace q226 := eq_true q226
           have p227 : 0 ≤ (x5_1 : Int) := of_decide_eq_true (by assumption)
           have q227 : x5_1 < (l0.length : Int) := of_decide_eq_true (by assumption)
           obtain ⟨ad227, e227, hx227_0, hx227_1, hx227_2, hx227_3, hx227_4, hx227_5, hx227_6, hx227_7, hx227_8⟩ := Qw HR0.out x5_1 p227 q227
           obtain rfl : ad222 = ad227 := (by injection e227)
           replace p227 := eq_true p227
           replace q227 := eq_true q227
           go_wp2
           go_ret
           exact ⟨by first | rfl | (simp; done) | (simp [*]; done), by repeat (first | exact Drawn0.refl _ | apply Drawn0.step)⟩
         ·rw [if_neg c9] at H
          have c9b0 : (((Qd l0 x5_1).f2.f2) == (wrap64 ((wrap64 ((wrap64 ((wrap64 (x1_1 + 1)) + 1)) + 1)) + 1))) = false := beq_eq_false_iff_ne.mpr c9
          have c9b1 : (((Qd l0 x5_1).f2.f2) != (wrap64 ((wrap64 ((wrap64 ((wrap64 (x1_1 + 1)) + 1)) + 1)) + 1))) = true := bne_iff_ne.mpr c9
          obtain rfl := Option.some.inj H
          have p222 : 0 ≤ (x5_1 : Int) := of_decide_eq_true (by assumption)
          have q222 : x5_1 < (l0.length : Int) := of_decide_eq_true (by assumption)
          obtain ⟨ad222, e222, hx222_0, hx222_1, hx222_2, hx222_3, hx222_4, hx222_5, hx222_6, hx222_7, hx222_8⟩ := Qw HR0.out x5_1 p222 q222
          cases e222
          replace p222 := eq_true p222
          replace q222 := eq_true q222
          have p223 : 0 ≤ (x5_1 : Int) := of_decide_eq_true (by assumption)
          have q223 : x5_1 < (l0.length : Int) := of_decide_eq_true (by assumption)
          obtain ⟨ad223, e223, hx223_0, hx223_1, hx223_2, hx223_3, hx223_4, hx223_5, hx223_6, hx223_7, hx223_8⟩ := Qw HR0.out x5_1 p223 q223
          obtain rfl : ad222 = ad223 := (by injection e223)
          replace p223 := eq_true p223
          replace q223 := eq_true q223
          have p224 : 0 ≤ (x5_1 : Int) := of_decide_eq_true (by assumption)
          have q224 : x5_1 < (l0.length : Int) := of_decide_eq_true (by assumption)
          obtain ⟨ad224, e224, hx224_0, hx224_1, hx224_2, hx224_3, hx224_4, hx224_5, hx224_6, hx224_7, hx224_8⟩ := Qw HR0.out x5_1 p224 q224
          obtain rfl : ad222 = ad224 := (by injection e224)
          replace p224 := eq_true p224
          replace q224 := eq_true q224
          have p225 : 0 ≤ (x5_1 : Int) := of_decide_eq_true (by assumption)
          have q225 : x5_1 < (l0.length : Int) := of_decide_eq_true (by assumption)
          obtain ⟨ad225, e225, hx225_0, hx225_1, hx225_2, hx225_3, hx225_4, hx225_5, hx225_6, hx225_7, hx225_8⟩ := Qw HR0.out x5_1 p225 q225
          obtain rfl : ad222 = ad225 := (by injection e225)
          replace p225 := eq_true p225
          replace q225 := eq_true q225
          have p226 : 0 ≤ (x5_1 : Int) := of_decide_eq_true (by assumption)
          have q226 : x5_1 < (l0.length : Int) := of_decide_eq_true (by assumption)
          obtain ⟨ad226, e226, hx226_0, hx226_1, hx226_2, hx226_3, hx226_4, hx226_5, hx226_6, hx226_7, hx226_8⟩ := Qw HR0.out x5_1 p226 q226
          obtain rfl : ad222 = ad226 := (by injection e226)
          replace p226 := eq_true p226
          replace q226 := eq_true q226
          go_wp2
          go_ret
          exact ⟨by first | rfl | (simp; done) | (simp [*]; done), by repeat (first | exact Drawn0.refl _ | apply Drawn0.step)⟩
        ·rw [if_neg c8] at H
         have c8b0 : (((Qd l0 x5_1).f2.f1) == (wrap64 ((wrap64 ((wrap64 (x1_1 + 1)) + 1)) + 1))) = false := beq_eq_false_iff_ne.mpr c8
         have c8b1 : (((Qd l0 x5_1).f2.f1) != (wrap64 ((wrap64 ((wrap64 (x1_1 + 1)) + 1)) + 1))) = true := bne_iff_ne.mpr c8
         obtain rfl := Option.some.inj H
         have p222 : 0 ≤ (x5_1 : Int) := of_decide_eq_true (by assumption)
         have q222 : x5_1 < (l0.length : Int) := of_decide_eq_true (by assumption)
         obtain ⟨ad222, e222, hx222_0, hx222_1, hx222_2, hx222_3, hx222_4, hx222_5, hx222_6, hx222_7, hx222_8⟩ := Qw HR0.out x5_1 p222 q222
         cases e222
         replace p222 := eq_true p222
         replace q222 := eq_true q222
         have p223 : 0 ≤ (x5_1 : Int) := of_decide_eq_true (by assumption)
         have q223 : x5_1 < (l0.length : Int) := of_decide_eq_true (by assumption)
         obtain ⟨ad223, e223, hx223_0, hx223_1, hx223_2, hx223_3, hx223_4, hx223_5, hx223_6, hx223_7, hx223_8⟩ := Qw HR0.out x5_1 p223 q223
         obtain rfl : ad222 = ad223 := (by injection e223)
         replace p223 := eq_true p223
         replace q223 := eq_true q223
         have p224 : 0 ≤ (x5_1 : Int) := of_decide_eq_true (by assumption)
         have q224 : x5_1 < (l0.length : Int) := of_decide_eq_true (by assumption)
         obtain ⟨ad224, e224, hx224_0, hx224_1, hx224_2, hx224_3, hx224_4, hx224_5, hx224_6, hx224_7, hx224_8⟩ := Qw HR0.out x5_1 p224 q224
         obtain rfl : ad222 = ad224 := (by injection e224)
         replace p224 := eq_true p224
         replace q224 := eq_true q224
         have p225 : 0 ≤ (x5_1 : Int) := of_decide_eq_true (by assumption)
         have q225 : x5_1 < (l0.length : Int) := of_decide_eq_true (by assumption)
         obtain ⟨ad225, e225, hx225_0, hx225_1, hx225_2, hx225_3, hx225_4, hx225_5, hx225_6, hx225_7, hx225_8⟩ := Qw HR0.out x5_1 p225 q225
         obtain rfl : ad222 = ad225 := (by injection e225)
         replace p225 := eq_true p225
         replace q225 := eq_true q225
         go_wp2
         go_ret
         exact ⟨by first | rfl | (simp; done) | (simp [*]; done), by repeat (first | exact Drawn0.refl _ | apply Drawn0.step)⟩
       ·rw [if_neg c7] at H
        have c7b0 : (((Qd l0 x5_1).f2.f0) == (wrap64 ((wrap64 (x1_1 + 1)) + 1))) = false := beq_eq_false_iff_ne.mpr c7
        have c7b1 : (((Qd l0 x5_1).f2.f0) != (wrap64 ((wrap64 (x1_1 + 1)) + 1))) = true := bne_iff_ne.mpr c7
        obtain rfl := Option.some.inj H
        have p222 : 0 ≤ (x5_1 : Int) := of_decide_eq_true (by assumption)
        have q222 : x5_1 < (l0.length : Int) := of_decide_eq_true (by assumption)
        obtain ⟨ad222, e222, hx222_0, hx222_1, hx222_2, hx222_3, hx222_4, hx222_5, hx222_6, hx222_7, hx222_8⟩ := Qw HR0.out x5_1 p222 q222
        cases e222
        replace p222 := eq_true p222
        replace q222 := eq_true q222
        have p223 : 0 ≤ (x5_1 : Int) := of_decide_eq_true (by assumption)
        have q223 : x5_1 < (l0.length : Int) := of_decide_eq_true (by assumption)
        obtain ⟨ad223, e223, hx223_0, hx223_1, hx223_2, hx223_3, hx223_4, hx223_5, hx223_6, hx223_7, hx223_8⟩ := Qw HR0.out x5_1 p223 q223
        obtain rfl : ad222 = ad223 := (by injection e223)
        replace p223 := eq_true p223
        replace q223 := eq_true q223
        have p224 : 0 ≤ (x5_1 : Int) := of_decide_eq_true (by assumption)
        have q224 : x5_1 < (l0.length : Int) := of_decide_eq_true (by assumption)
        obtain ⟨ad224, e224, hx224_0, hx224_1, hx224_2, hx224_3, hx224_4, hx224_5, hx224_6, hx224_7, hx224_8⟩ := Qw HR0.out x5_1 p224 q224
        obtain rfl : ad222 = ad224 := (by injection e224)
        replace p224 := eq_true p224
        replace q224 := eq_true q224
        go_wp2
        go_ret
        exact ⟨by first | rfl | (simp; done) | (simp [*]; done), by repeat (first | exact Drawn0.refl _ | apply Drawn0.step)⟩
     ·rw [if_neg c5] at H
      have c5b0 : (((Qd l0 x5_1).f0) == x1_1) = false := beq_eq_false_iff_ne.mpr c5
      have c5b1 : (((Qd l0 x5_1).f0) != x1_1) = true := bne_iff_ne.mpr c5
      obtain rfl := Option.some.inj H
      have p222 : 0 ≤ (x5_1 : Int) := of_decide_eq_true (by assumption)
      have q222 : x5_1 < (l0.length : Int) := of_decide_eq_true (by assumption)
      obtain ⟨ad222, e222, hx222_0, hx222_1, hx222_2, hx222_3, hx222_4, hx222_5, hx222_6, hx222_7, hx222_8⟩ := Qw HR0.out x5_1 p222 q222
      cases e222
      replace p222 := eq_true p222
      replace q222 := eq_true q222
      go_wp2
      go_ret
      exact ⟨by first | rfl | (simp; done) | (simp [*]; done), by repeat (first | exact Drawn0.refl _ | apply Drawn0.step)⟩
    ·rw [if_neg c4] at H
     exact absurd H (by simp)
   ·rw [if_neg c3] at H
    have c3b0 : decide (x5_1 < (l0.length : Int)) = false := decide_eq_false c3
    clear c3
    obtain rfl := Option.some.inj H
    go_wp2
    go_ret
    exact ⟨by first | rfl | (simp; done) | (simp [*]; done), by repeat (first | exact Drawn0.refl _ | apply Drawn0.step)⟩
end Go.Proofs.Ytmgmaflfednngaa.PFnExactTellerNew
