-- A copy, by trim.py of this session's wip/gen, of a text of this claim, without what the row does not reach and without comments: not an official print.
import Derived.Test.YtmgmaflfednngaaZExactRibTakePFnExactRibTakex0
import Derived.Test.YtmgmaflfednngaaZExactRibTakePFnExactRibTakex9
import Derived.Test.YtmgmaflfednngaaZExactRibTakePFnExactRibTakex10
import Derived.Test.YtmgmaflfednngaaZExactRibTakePFnExactRibTakex11
import Derived.Test.YtmgmaflfednngaaZExactRibTakePFnExactRibTakex13
import Derived.Test.YtmgmaflfednngaaZExactRibTakeBase
import Derived.Test.YtmgmaflfednngaaZExactRibTakeSlices
import Derived.Test.YtmgmaflfednngaaZExactRibTakeInsert
import Derived.Shelf.Abstract
import Derived.Shelf.RegionOpenPlain
namespace Go.Proofs.Ytmgmaflfednngaa.PFnExactRibTake
open Go.RowKit Go.Proofs.YtmgmaflfednngaaW.PrintWords Go.Proofs.YtmgmaflfednngaaW.PrintLast Go.Proofs.YtmgmaflfednngaaW.PrintMore
attribute [local go_sem] max2_int min2_int max_two min_two max_three min_three max_four min_four   -- for this text's walks alone
set_option linter.unusedVariables false
set_option linter.unusedSimpArgs false
def impl_ribCode.f (k : Nat) (l0 : List (S73)) (a1 : Int) (a2 : Bool) : Option (Int) := if (l0.length : Int) > 400 then (some 2) else ((impl_RibRight.f k l0).bind fun t310 => (if t310 = true then ((impl_isPeer.f a1).bind fun t311 => (if t311 = true then (if a2 = true then (some 0) else (some 1)) else (some 1))) else (some 1)))
theorem impl_ribCode.mono : ∀ a0 a1 a2 k, LeO (impl_ribCode.f k a0 a1 a2) (impl_ribCode.f (k + 1) a0 a1 a2) := by
 intro a0 a1 a2 k
 unfold impl_ribCode.f
 repeat' first
   | (with_reducible exact impl_RibRight.mono _ _)
   | (with_reducible exact LeO.refl _)
   | (with_reducible exact LeO.none _)
   | (with_reducible refine LeO.ite ?_ ?_)
   | (with_reducible refine LeO.bind ?_ (fun _ => ?_))
   | exact impl_RibRight.mono _ _
   | exact LeO.none _
   | refine LeO.ite ?_ ?_
   | refine LeO.bind ?_ (fun _ => ?_)
set_option maxHeartbeats 8000000 in
set_option maxRecDepth 100000 in
theorem impl_ribCode.calls (k : Nat) (A0 : Option Addr) (c0 : Nat) (l0 : List (S73)) (a1 : Int) (a2 : Bool) (r : Int) (w : World) (hr0 : Kd.C k73 w A0 l0.length l0) (hc0 : l0.length ≤ c0) (h : impl_ribCode.f k l0 a1 a2 = some r) :
  Calls Try.prog 64 #[.slice A0 l0.length c0, .int .i64 a1, .bool a2] w fun e w' => e = .returned (.int .i64 r) ∧ Below w.heap.size w w' := by
 have HR0 := Aside0.mk hr0
 have HC0 := Aside0.mk hc0
 clear hr0 hc0
 have HB := Aside0.mk (Below.refl w.heap.size w)
 have H : (if (l0.length : Int) > 400 then (some 2) else ((impl_RibRight.f k l0).bind fun t310 => (if t310 = true then ((impl_isPeer.f a1).bind fun t311 => (if t311 = true then (if a2 = true then (some 0) else (some 1)) else (some 1))) else (some 1)))) = some r := h
 clear h
 by_cases c4 : (l0.length : Int) > 400
 ·rw [if_pos c4] at H
  have c4b0 : decide (400 < (l0.length : Int)) = true := decide_eq_true c4
  have c4b1 : decide (400 < l0.length) = true := decide_eq_true (by omega)
  clear c4
  obtain rfl := Option.some.inj H
  go_enter Try.func64, Try.ntmps64
  go_wp2
  go_ret
  exact ⟨by first | rfl | (simp [Qp, Qo] <;> rfl) | (simp [*, Qp, Qo] <;> rfl), by repeat (first | (with_reducible first | exact HB.out | apply Qg | apply Qb | apply Qf) | exact HB.out)⟩
 ·rw [if_neg c4] at H
  have c4b0 : decide (400 < (l0.length : Int)) = false := decide_eq_false c4
  have c4b1 : decide (400 < l0.length) = false := decide_eq_false (by omega)
  clear c4
  replace H := Option.bind_eq_some_iff.mp H
  obtain ⟨t310, A50, H⟩ := H
  replace H : (if t310 = true then ((impl_isPeer.f a1).bind fun t311 => (if t311 = true then (if a2 = true then (some 0) else (some 1)) else (some 1))) else (some 1)) = some r := H
  have A5 := Aside0.mk A50
  clear A50
  by_cases c6 : t310 = true
  ·subst c6
   have H1 : ((impl_isPeer.f a1).bind fun t311 => (if t311 = true then (if a2 = true then (some 0) else (some 1)) else (some 1))) = some r := by rw [if_pos rfl] at H; exact H
   clear H
   have H := H1
   clear H1
   replace H := Option.bind_eq_some_iff.mp H
   obtain ⟨t311, A70, H⟩ := H
   replace H : (if t311 = true then (if a2 = true then (some 0) else (some 1)) else (some 1)) = some r := H
   have A7 := Aside0.mk A70
   clear A70
   by_cases c8 : t311 = true
   ·subst c8
    have H1 : (if a2 = true then (some 0) else (some 1)) = some r := by rw [if_pos rfl] at H; exact H
    clear H
    have H := H1
    clear H1
    by_cases c9 : a2 = true
    ·subst c9
     have H1 : (some 0) = some r := by rw [if_pos rfl] at H; exact H
     clear H
     have H := H1
     clear H1
     obtain rfl := Option.some.inj H
     go_enter Try.func64, Try.ntmps64
     go_wp2_with (first | ((with_reducible refine Qq (f := 57) rfl ?_); refine Qx (some 13) rfl rfl Try.func57 (by kernel_rfl) rfl #[.slice A0 l0.length c0] rfl (by (try simp only [List.map_toArray, List.map_cons, List.map_nil]); first | done | rfl | (simp only [List.length_drop, List.length_take]; rfl)) ?_; (with_reducible refine (impl_RibRight.calls k _ _ l0 true _ ?side1 ?side2 A5.out).mono ?_); (case side1 => repeat (first | exact HR0.out | (with_reducible refine Kd.C_alloc ?_ _) | (with_reducible refine Kd.C_drewN ?_ _) | (with_reducible refine Kd.C_drew ?_))); (case side2 => exact HC0.out); rintro e w10 ⟨rfl, hb⟩; refine ⟨_, rfl, ?_⟩; have n0_ := Aside0.mk (Qn (by repeat (first | (with_reducible first | exact HB.out | apply Qg | apply Qb | apply Qf) | exact HB.out)) hb); clear HB; have HB := n0_; clear n0_; (try clear hb); (try clear hb2); (try clear hk); (try clear hi)) | (go_at_call 102; (with_reducible refine (impl_isPeer.calls a1 true _ A7.out).mono ?_); rintro e w' ⟨rfl, ⟨nd, rfl⟩⟩))
     go_ret
     exact ⟨by first | rfl | (simp [Qp, Qo] <;> rfl) | (simp [*, Qp, Qo] <;> rfl), by repeat (first | (with_reducible first | exact HB.out | apply Qg | apply Qb | apply Qf) | exact HB.out)⟩
    ·replace c9 := Bool.eq_false_iff.mpr c9
     subst c9
     have H1 : (some 1) = some r := by rw [if_neg (show ¬ (false = true) by decide)] at H; exact H
     clear H
     have H := H1
     clear H1
     obtain rfl := Option.some.inj H
     go_enter Try.func64, Try.ntmps64
     go_wp2_with (first | ((with_reducible refine Qq (f := 57) rfl ?_); refine Qx (some 13) rfl rfl Try.func57 (by kernel_rfl) rfl #[.slice A0 l0.length c0] rfl (by (try simp only [List.map_toArray, List.map_cons, List.map_nil]); first | done | rfl | (simp only [List.length_drop, List.length_take]; rfl)) ?_; (with_reducible refine (impl_RibRight.calls k _ _ l0 true _ ?side1 ?side2 A5.out).mono ?_); (case side1 => repeat (first | exact HR0.out | (with_reducible refine Kd.C_alloc ?_ _) | (with_reducible refine Kd.C_drewN ?_ _) | (with_reducible refine Kd.C_drew ?_))); (case side2 => exact HC0.out); rintro e w11 ⟨rfl, hb⟩; refine ⟨_, rfl, ?_⟩; have n0_ := Aside0.mk (Qn (by repeat (first | (with_reducible first | exact HB.out | apply Qg | apply Qb | apply Qf) | exact HB.out)) hb); clear HB; have HB := n0_; clear n0_; (try clear hb); (try clear hb2); (try clear hk); (try clear hi)) | (go_at_call 102; (with_reducible refine (impl_isPeer.calls a1 true _ A7.out).mono ?_); rintro e w' ⟨rfl, ⟨nd, rfl⟩⟩))
     go_ret
     exact ⟨by first | rfl | (simp [Qp, Qo] <;> rfl) | (simp [*, Qp, Qo] <;> rfl), by repeat (first | (with_reducible first | exact HB.out | apply Qg | apply Qb | apply Qf) | exact HB.out)⟩
   ·replace c8 := Bool.eq_false_iff.mpr c8
    subst c8
    have H1 : (some 1) = some r := by rw [if_neg (show ¬ (false = true) by decide)] at H; exact H
    clear H
    have H := H1
    clear H1
    obtain rfl := Option.some.inj H
    go_enter Try.func64, Try.ntmps64
    go_wp2_with (first | ((with_reducible refine Qq (f := 57) rfl ?_); refine Qx (some 13) rfl rfl Try.func57 (by kernel_rfl) rfl #[.slice A0 l0.length c0] rfl (by (try simp only [List.map_toArray, List.map_cons, List.map_nil]); first | done | rfl | (simp only [List.length_drop, List.length_take]; rfl)) ?_; (with_reducible refine (impl_RibRight.calls k _ _ l0 true _ ?side1 ?side2 A5.out).mono ?_); (case side1 => repeat (first | exact HR0.out | (with_reducible refine Kd.C_alloc ?_ _) | (with_reducible refine Kd.C_drewN ?_ _) | (with_reducible refine Kd.C_drew ?_))); (case side2 => exact HC0.out); rintro e w12 ⟨rfl, hb⟩; refine ⟨_, rfl, ?_⟩; have n0_ := Aside0.mk (Qn (by repeat (first | (with_reducible first | exact HB.out | apply Qg | apply Qb | apply Qf) | exact HB.out)) hb); clear HB; have HB := n0_; clear n0_; (try clear hb); (try clear hb2); (try clear hk); (try clear hi)) | (go_at_call 102; (with_reducible refine (impl_isPeer.calls a1 false _ A7.out).mono ?_); rintro e w' ⟨rfl, ⟨nd, rfl⟩⟩))
    go_ret
    exact ⟨by first | rfl | (simp [Qp, Qo] <;> rfl) | (simp [*, Qp, Qo] <;> rfl), by repeat (first | (with_reducible first | exact HB.out | apply Qg | apply Qb | apply Qf) | exact HB.out)⟩
  ·replace c6 := Bool.eq_false_iff.mpr c6
   subst c6
   have H1 : (some 1) = some r := by rw [if_neg (show ¬ (false = true) by decide)] at H; exact H
   clear H
   have H := H1
   clear H1
   obtain rfl := Option.some.inj H
   go_enter Try.func64, Try.ntmps64
   go_wp2_with (first | ((with_reducible refine Qq (f := 57) rfl ?_); refine Qx (some 13) rfl rfl Try.func57 (by kernel_rfl) rfl #[.slice A0 l0.length c0] rfl (by (try simp only [List.map_toArray, List.map_cons, List.map_nil]); first | done | rfl | (simp only [List.length_drop, List.length_take]; rfl)) ?_; (with_reducible refine (impl_RibRight.calls k _ _ l0 false _ ?side1 ?side2 A5.out).mono ?_); (case side1 => repeat (first | exact HR0.out | (with_reducible refine Kd.C_alloc ?_ _) | (with_reducible refine Kd.C_drewN ?_ _) | (with_reducible refine Kd.C_drew ?_))); (case side2 => exact HC0.out); rintro e w13 ⟨rfl, hb⟩; refine ⟨_, rfl, ?_⟩; have n0_ := Aside0.mk (Qn (by repeat (first | (with_reducible first | exact HB.out | apply Qg | apply Qb | apply Qf) | exact HB.out)) hb); clear HB; have HB := n0_; clear n0_; (try clear hb); (try clear hb2); (try clear hk); (try clear hi)))
   go_ret
   exact ⟨by first | rfl | (simp [Qp, Qo] <;> rfl) | (simp [*, Qp, Qo] <;> rfl), by repeat (first | (with_reducible first | exact HB.out | apply Qg | apply Qb | apply Qf) | exact HB.out)⟩
def impl_RibTake.j0 : Nat → List (S73) → Int → Bool → Int → Int → Int → Int → Int → Int → Bool → Option ((List (S73)) × (List (S42)) × Int)
 | 0, _, _, _, _, _, _, _, _, _, _ => none
 | k + 1, x0, x1, x23, x313000, x313001, x313002, x313003, x313004, x313005, x313006 => if x23 = true then ((spec_l06Ill.f 1).bind fun bt324 => (some (bt324.1, bt324.2.1, bt324.2.2))) else ((spec_l06Take.f k x0 x1 x313000 x313001 x313002 x313003 x313004 x313005 x313006).bind fun bt331 => (some (bt331.1, bt331.2.1, bt331.2.2)))
def impl_RibTake.f (k : Nat) (l0 : List (S73)) (a1 : Int) (a2_0 : Int) (a2_1 : Int) (a2_2 : Int) (a2_3 : Int) (a2_4 : Int) (a2_5 : Int) (a2_6 : Bool) : Option ((List (S73)) × (List (S42)) × Int) := if (l0.length : Int) > 400 then ((spec_l06Ill.f 2).bind fun bt314 => (some (bt314.1, bt314.2.1, bt314.2.2))) else ((impl_RibRight.f k l0).bind fun t321 => (if t321 = true then ((impl_isPeer.f a1).bind fun t322 => (if t322 = true then ((impl_RouteRight.f k a2_0 a2_1 a2_2 a2_3 a2_4 a2_5 a2_6).bind fun t323 => (impl_RibTake.j0 k l0 a1 (!t323) a2_0 a2_1 a2_2 a2_3 a2_4 a2_5 a2_6)) else (impl_RibTake.j0 k l0 a1 true a2_0 a2_1 a2_2 a2_3 a2_4 a2_5 a2_6))) else (impl_RibTake.j0 k l0 a1 true a2_0 a2_1 a2_2 a2_3 a2_4 a2_5 a2_6)))
theorem impl_RibTake.mono_l : ∀ k, (∀ y0 y1 y2 y3 y4 y5 y6 y7 y8 y9, LeO (impl_RibTake.j0 k y0 y1 y2 y3 y4 y5 y6 y7 y8 y9) (impl_RibTake.j0 (k + 1) y0 y1 y2 y3 y4 y5 y6 y7 y8 y9))
 | 0 => fun _ _ _ _ _ _ _ _ _ _ r h => by simp [impl_RibTake.j0] at h
 | k + 1 => by
  have ih0 := impl_RibTake.mono_l k
  ·intro y0 y1 y2 y3 y4 y5 y6 y7 y8 y9
   unfold impl_RibTake.j0
   repeat' first
   | (with_reducible exact ih0 _ _ _ _ _ _ _ _ _ _)
   | (with_reducible exact impl_RibRight.mono _ _)
   | (with_reducible exact impl_RouteRight.mono _ _ _ _ _ _ _ _)
   | (with_reducible exact spec_l06Take.mono _ _ _ _ _ _ _ _ _ _)
   | (with_reducible exact LeO.refl _)
   | (with_reducible exact LeO.none _)
   | (with_reducible refine LeO.ite ?_ ?_)
   | (with_reducible refine LeO.bind ?_ (fun _ => ?_))
   | exact ih0 _ _ _ _ _ _ _ _ _ _
   | exact impl_RibRight.mono _ _
   | exact impl_RouteRight.mono _ _ _ _ _ _ _ _
   | exact spec_l06Take.mono _ _ _ _ _ _ _ _ _ _
   | exact LeO.none _
   | refine LeO.ite ?_ ?_
   | refine LeO.bind ?_ (fun _ => ?_)
theorem impl_RibTake.mono : ∀ a0 a1 a2 a3 a4 a5 a6 a7 a8 k, LeO (impl_RibTake.f k a0 a1 a2 a3 a4 a5 a6 a7 a8) (impl_RibTake.f (k + 1) a0 a1 a2 a3 a4 a5 a6 a7 a8) := by
 intro a0 a1 a2 a3 a4 a5 a6 a7 a8 k
 have ih0 := impl_RibTake.mono_l k
 unfold impl_RibTake.f
 repeat' first
   | (with_reducible exact ih0 _ _ _ _ _ _ _ _ _ _)
   | (with_reducible exact impl_RibRight.mono _ _)
   | (with_reducible exact impl_RouteRight.mono _ _ _ _ _ _ _ _)
   | (with_reducible exact spec_l06Take.mono _ _ _ _ _ _ _ _ _ _)
   | (with_reducible exact LeO.refl _)
   | (with_reducible exact LeO.none _)
   | (with_reducible refine LeO.ite ?_ ?_)
   | (with_reducible refine LeO.bind ?_ (fun _ => ?_))
   | exact ih0 _ _ _ _ _ _ _ _ _ _
   | exact impl_RibRight.mono _ _
   | exact impl_RouteRight.mono _ _ _ _ _ _ _ _
   | exact spec_l06Take.mono _ _ _ _ _ _ _ _ _ _
   | exact LeO.none _
   | refine LeO.ite ?_ ?_
   | refine LeO.bind ?_ (fun _ => ?_)
set_option maxHeartbeats 1600000 in
set_option maxRecDepth 100000 in
theorem ribWithout_calls (g : Nat) (cb : Array Value) (eg : ∀ args w, (callFunc g args).run Try.prog w = .ok (.enter g args) w) (p : S73 → Bool) (K : Nat → Prop) (A : Option Addr) (c : Nat) (l : List S73) (w : World) (hl : l.length ≤ 1048576) (hr : Kd.C k73 w A l.length l) (hK : ∀ k, K k → k < w.heap.size) (hp : Go.Proofs.Ytmgmaflfednngaa.Base.PredB Try.prog g cb k73 p K w) :
  Calls Try.prog 105 #[.slice A l.length c, .func (.func g) #[] cb] w fun e w' => ∃ v1 v2 : Value, e = .returned (.tuple #[v1, v2]) ∧ Kd.R k73 73 w' w.heap.size (fun _ => True) v1 (l.filter (fun x => !p x)) ∧ Kd.R k42 42 w' w.heap.size (fun _ => True) v2 ((l.filter p).map (·.f2)) ∧ Below w.heap.size w w' := by
 have HR := Aside0.mk hr
 have HP := Aside0.mk hp
 have HKl := Aside0.mk hK
 have HB := Aside0.mk (Below.refl w.heap.size w)
 clear hr hp hK
 go_enter Try.func105, Try.ntmps105
 go_wp2_with (first | ((with_reducible refine Qw (N := 10) rfl ?_); refine Kd.R_lit k73 _ 73 ?hg (N := 10) ?hd (xs := ([] : List S73)) (inner := []) (ok := fun _ => True) (okp := fun _ => True) ?hr ?hp (fun _ hk => hk) trivial (Below.refl _ _) (Nat.le_refl _) (by simp) ?_; (case hd => rfl); (case hg => rfl); (case hr => first | (go_simp; done) | (go_simp; rfl)); (case hp => exact (Reps.none _ _)); intro v1 w1 ho1 hb1 hg1 hn1; have HO1 := Aside0.mk (Kd.R_lower ho1 (Ql HB.out)); have HB1 := Aside0.mk (Qn HB.out hb1); clear ho1 hb1 hg1 hn1) | ((with_reducible refine Qw (N := 11) rfl ?_); refine Kd.R_lit k42 _ 42 ?hg (N := 11) ?hd (xs := ([] : List S42)) (inner := []) (ok := fun _ => True) (okp := fun _ => True) ?hr ?hp (fun _ hk => hk) trivial (Below.refl _ _) (Nat.le_refl _) (by simp) ?_; (case hd => rfl); (case hg => rfl); (case hr => first | (go_simp; done) | (go_simp; rfl)); (case hp => exact (Reps.none _ _)); intro v2 w2 ho2 hb2 hg2 hn2; have AP := Aside0.mk (show Go.Proofs.Ytmgmaflfednngaa.Base.Apart v1 v2 from fun k h1 h2 => by have a1 := Kd.R_lt HO1.out k h1; have a2 := Kd.R_base ho2 k h2; omega); have HO2 := Aside0.mk (Kd.R_lower ho2 (Ql HB1.out)); have HO1' := Aside0.mk (Kd.R_below HO1.out hb2); have HB2 := Aside0.mk (Qn HB1.out hb2); clear ho2 hb2 hg2 hn2))
 go_loopg [6, 7, 9, 14] l.length (fun gg v6 v7 _ v14 wr => ∃ kk : Nat, kk ≤ l.length ∧ l.length - kk ≤ gg ∧ v14 = .int .i64 kk ∧ Aside0 (Kd.R k73 73 wr w.heap.size (fun _ => True) v6 ((l.take kk).filter (fun x => !p x))) ∧ Aside0 (Kd.R k42 42 wr w.heap.size (fun _ => True) v7 (((l.take kk).filter p).map (·.f2))) ∧ Aside0 (Go.Proofs.Ytmgmaflfednngaa.Base.Apart v6 v7) ∧ Aside0 (Below w.heap.size w wr))
 case atStart => exact ⟨0, Nat.zero_le _, by omega, rfl, HO1', HO2, AP, HB2⟩
 case round =>
  obtain ⟨kk, hkk, hg, rfl, HX, HY, AP, HB⟩ := hrel
  by_cases hlt : kk < l.length
  ·skip
   obtain ⟨ad, e, hx0, hx1, hx2, hx3, hx4, hx5, hx6, hx7, hx8⟩ := Q0 HR.out (kk : Int) (by omega) (by omega)
   cases e
   replace hx0 := (HB.out.cell (World.block_lt_of_cell? w _ hx0)).trans hx0
   replace hx1 := (HB.out.cell (World.block_lt_of_cell? w _ hx1)).trans hx1
   replace hx2 := (HB.out.cell (World.block_lt_of_cell? w _ hx2)).trans hx2
   replace hx3 := (HB.out.cell (World.block_lt_of_cell? w _ hx3)).trans hx3
   replace hx4 := (HB.out.cell (World.block_lt_of_cell? w _ hx4)).trans hx4
   replace hx5 := (HB.out.cell (World.block_lt_of_cell? w _ hx5)).trans hx5
   replace hx6 := (HB.out.cell (World.block_lt_of_cell? w _ hx6)).trans hx6
   replace hx7 := (HB.out.cell (World.block_lt_of_cell? w _ hx7)).trans hx7
   replace hx8 := (HB.out.cell (World.block_lt_of_cell? w _ hx8)).trans hx8
   simp only [Int.toNat_natCast] at hx0 hx1 hx2 hx3 hx4 hx5 hx6 hx7 hx8
   have HQ := Aside0.mk (show Go.Proofs.Ytmgmaflfednngaa.Base.nth z73 l kk = Qc l (kk : Int) from rfl)
   have hltz : (kk : Int) < (l.length : Int) := by omega
   generalize Qc l (kk : Int) = y at *
   cases hq : p y with
   | true =>
    have HV := Aside0.mk hq
    clear hq
    go_wp2_with fail
    refine (HP.out _ y _ ((Go.Proofs.Ytmgmaflfednngaa.Base.Same.refl (K := K) w).below HKl.out (Qg HB.out _)) (k73_mk _ y)).mono ?_
    rintro e w2 ⟨rfl, hb⟩
    rw [HV.out]
    have HX' := Aside0.mk (Kd.R_below (Kd.R_alloc HX.out _) hb)
    have HY' := Aside0.mk (Kd.R_below (Kd.R_alloc HY.out _) hb)
    have HB' := Aside0.mk (Qn (Qg HB.out _) hb)
    have BK' := Aside0.mk (Qm (blk_new wr _) hb)
    have HL := Aside0.mk (Go.Proofs.Ytmgmaflfednngaa.Base.take_filter_len p l kk)
    clear hb
    have f0 := Qd BK'.out 0
    have f1 := Qd BK'.out 1
    have f2 := Qd BK'.out 2
    have f3 := Qd BK'.out 3
    have f4 := Qd BK'.out 4
    have f5 := Qd BK'.out 5
    have f6 := Qd BK'.out 6
    have f7 := Qd BK'.out 7
    have f8 := Qd BK'.out 8
    have k0 := (Qa BK'.out 0).trans rfl
    have k1 := (Qa BK'.out 1).trans rfl
    have k2 := (Qa BK'.out 2).trans rfl
    have k3 := (Qa BK'.out 3).trans rfl
    have k4 := (Qa BK'.out 4).trans rfl
    have k5 := (Qa BK'.out 5).trans rfl
    have k6 := (Qa BK'.out 6).trans rfl
    have k7 := (Qa BK'.out 7).trans rfl
    have k8 := (Qa BK'.out 8).trans rfl
    go_wp2_with (first | ((with_reducible refine gate_builtin (b := .append) (xs := #[.tmp 21, .tmp 24]) rfl ?_); at_builtin; refine Kd.R_append k42 (w0 := w) w.heap.size rfl (.tmp 21) (.tmp 24) 24 42 (.agg #[.int .i64 0, .int .i64 0, .int .i64 0, .int .i64 0, .int .i64 0, .int .i64 0, .bool false]) 56 rfl Try.underlying24 info42 rfl (by decide) (by omega) u7 (((l.take kk).filter p).map (·.f2)) y.f2 [.int .i64 y.f2.f0, .int .i64 y.f2.f1, .int .i64 y.f2.f2, .int .i64 y.f2.f3, .int .i64 y.f2.f4, .int .i64 y.f2.f5, .bool y.f2.f6] (fun _ => True) (fun _ => False) rfl rfl ?aP (fun _ hk => hk.elim) ?aF ?aO ?aB ?aS ?aL ?_; (case aP => exact k42_mkM _ _ _ y.f2); (case aB => exact HB'.out); (case aF => exact (fun _ _ => trivial)); (case aO => exact HY'.out); (case aS => exact HB'.out.size); (case aL => have := HL.out; simp only [List.length_map]; omega); intro v3 w3 ho hb hg hat; have HO := Aside0.mk ho; have HB2 := Aside0.mk hb; have HG := Aside0.mk hg; have HT := Aside0.mk hat; clear ho hb hg hat))
    have HY2 := HO
    have HX2 := Aside0.mk (Kd.R_grown2 HX'.out rfl HG.out AP.out.other)
    have AP2 := Aside0.mk (AP.out.grown HX'.out HT.out)
    go_roundg (l.length - (kk + 1))
    case measure => omega
    case rel => exact ⟨kk + 1, by omega, by omega, by go_num, ⟨by rw [Go.Proofs.Ytmgmaflfednngaa.Base.take_filter_no z73 (fun x => !p x) hlt (by rw [HQ.out, HV.out]; rfl)]; exact HX2.out⟩, ⟨by rw [Go.Proofs.Ytmgmaflfednngaa.Base.take_filter_yes z73 p hlt (by rw [HQ.out]; exact HV.out), HQ.out, List.map_append]; exact HY2.out⟩, AP2, HB2⟩
   | false =>
    have HV := Aside0.mk hq
    clear hq
    go_wp2_with fail
    refine (HP.out _ y _ ((Go.Proofs.Ytmgmaflfednngaa.Base.Same.refl (K := K) w).below HKl.out (Qg HB.out _)) (k73_mk _ y)).mono ?_
    rintro e w2 ⟨rfl, hb⟩
    rw [HV.out]
    have HX' := Aside0.mk (Kd.R_below (Kd.R_alloc HX.out _) hb)
    have HY' := Aside0.mk (Kd.R_below (Kd.R_alloc HY.out _) hb)
    have HB' := Aside0.mk (Qn (Qg HB.out _) hb)
    have BK' := Aside0.mk (Qm (blk_new wr _) hb)
    have HL := Aside0.mk (Go.Proofs.Ytmgmaflfednngaa.Base.take_filter_len (fun x => !p x) l kk)
    clear hb
    have f0 := Qd BK'.out 0
    have f1 := Qd BK'.out 1
    have f2 := Qd BK'.out 2
    have f3 := Qd BK'.out 3
    have f4 := Qd BK'.out 4
    have f5 := Qd BK'.out 5
    have f6 := Qd BK'.out 6
    have f7 := Qd BK'.out 7
    have f8 := Qd BK'.out 8
    have k0 := (Qa BK'.out 0).trans rfl
    have k1 := (Qa BK'.out 1).trans rfl
    have k2 := (Qa BK'.out 2).trans rfl
    have k3 := (Qa BK'.out 3).trans rfl
    have k4 := (Qa BK'.out 4).trans rfl
    have k5 := (Qa BK'.out 5).trans rfl
    have k6 := (Qa BK'.out 6).trans rfl
    have k7 := (Qa BK'.out 7).trans rfl
    have k8 := (Qa BK'.out 8).trans rfl
    go_wp2_with (first | ((with_reducible refine gate_builtin (b := .append) (xs := #[.tmp 26, .tmp 28]) rfl ?_); at_builtin; refine Kd.R_append k73 (w0 := w) w.heap.size rfl (.tmp 26) (.tmp 28) 26 73 (.agg #[.int .i64 0, .bool false, .int .i64 0, .int .i64 0, .int .i64 0, .int .i64 0, .int .i64 0, .int .i64 0, .bool false]) 72 rfl Try.underlying26 info73 rfl (by decide) (by omega) u6 ((l.take kk).filter (fun x => !p x)) y [.int .i64 y.f0, .bool y.f1, .int .i64 y.f2.f0, .int .i64 y.f2.f1, .int .i64 y.f2.f2, .int .i64 y.f2.f3, .int .i64 y.f2.f4, .int .i64 y.f2.f5, .bool y.f2.f6] (fun _ => True) (fun _ => False) rfl rfl ?aP (fun _ hk => hk.elim) ?aF ?aO ?aB ?aS ?aL ?_; (case aP => exact k73_mkM _ _ _ y); (case aB => exact HB'.out); (case aF => exact (fun _ _ => trivial)); (case aO => exact HX'.out); (case aS => exact HB'.out.size); (case aL => have := HL.out; omega); intro v3 w3 ho hb hg hat; have HO := Aside0.mk ho; have HB2 := Aside0.mk hb; have HG := Aside0.mk hg; have HT := Aside0.mk hat; clear ho hb hg hat))
    have HX2 := HO
    have HY2 := Aside0.mk (Kd.R_grown2 HY'.out rfl HG.out AP.out.symm.other)
    have AP2 := Aside0.mk (AP.out.symm.grown HY'.out HT.out).symm
    go_roundg (l.length - (kk + 1))
    case measure => omega
    case rel => exact ⟨kk + 1, by omega, by omega, by go_num, ⟨by rw [Go.Proofs.Ytmgmaflfednngaa.Base.take_filter_yes z73 (fun x => !p x) hlt (by rw [HQ.out, HV.out]; rfl), HQ.out]; exact HX2.out⟩, ⟨by rw [Go.Proofs.Ytmgmaflfednngaa.Base.take_filter_no z73 p hlt (by rw [HQ.out]; exact HV.out)]; exact HY2.out⟩, AP2, HB2⟩
  ·have hltz : ¬ (kk : Int) < (l.length : Int) := by omega
   obtain rfl : kk = l.length := by omega
   have HX2 := Aside0.mk (show Kd.R k73 73 wr w.heap.size (fun _ => True) u6 (l.filter (fun x => !p x)) from by have := HX.out; rw [List.take_length] at this; exact this)
   have HY2 := Aside0.mk (show Kd.R k42 42 wr w.heap.size (fun _ => True) u7 ((l.filter p).map (·.f2)) from by have := HY.out; rw [List.take_length] at this; exact this)
   go_wp2
   refine bodyPost_ret (results_tmp2 rfl _ _ _) rfl ?_
   exact ⟨_, _, rfl, HX2.out, HY2.out, HB.out⟩
section
open Go.Proofs.Ytmgmaflfednngaa.Base
theorem Q7 (a b c : Int) : spec_l02Is.f a b c = some (inB a b c) := by
 unfold spec_l02Is.f inB
 by_cases h : b ≤ a <;> simp [h]
theorem impl_in_eq (a b c : Int) : impl_in.f a b c = some (inB a b c) := by
 unfold impl_in.f inB
 by_cases h : b ≤ a <;> simp [h]
theorem spec_l02Mac_eq (a : Int) : spec_l02Mac.f a = some (macB a) := by simp [spec_l02Mac.f, Q7, macB]
theorem spec_l02Ip_eq (a : Int) : spec_l02Ip.f a = some (ipB a) := by simp [spec_l02Ip.f, Q7, ipB]
theorem spec_l02Vni_eq (a : Int) : spec_l02Vni.f a = some (vniB a) := by simp [spec_l02Vni.f, Q7, vniB]
theorem spec_IsGroup_eq (a : Int) : spec_IsGroup.f a = some (groupB a) := by
 simp [spec_IsGroup.f, spec_l02Mac_eq, groupB]
 cases macB a <;> simp
theorem impl_isMac_eq (a : Int) : impl_isMac.f a = some (macB a) := by simp [impl_isMac.f, impl_in_eq, macB]
theorem impl_isIp_eq (a : Int) : impl_isIp.f a = some (ipB a) := by simp [impl_isIp.f, impl_in_eq, ipB]
theorem impl_isVni_eq (a : Int) : impl_isVni.f a = some (vniB a) := by simp [impl_isVni.f, impl_in_eq, vniB]
theorem impl_isTime_eq (a : Int) : impl_isTime.f a = some (timeB a) := by simp [impl_isTime.f, impl_in_eq, timeB]
theorem impl_isHouse_eq (a : Int) : impl_isHouse.f a = some (houseB a) := by simp [impl_isHouse.f, impl_in_eq, houseB]
theorem impl_IsGroup_eq (a : Int) : impl_IsGroup.f a = some (groupB a) := by
 simp [impl_IsGroup.f, impl_isMac_eq, groupB]
 cases macB a <;> simp
theorem impl_isGuest_eq (a : Int) : impl_isGuest.f a = some (macB a && !groupB a) := by
 simp [impl_isGuest.f, impl_isMac_eq, impl_IsGroup_eq]
 cases macB a <;> simp
theorem cmp_Compare_eq (a b : Int) : cmp_Compare_int64.f a b = some (cmpI a b) := by
 simp only [cmp_Compare_int64.f, cmp_isNaN_int64.f, Option.bind_some, bne_self_eq_false, cmpI]
 simp only [Bool.false_eq_true, if_false]
 repeat' split
 all_goals rfl
theorem cmp_Or_eq (xs : List Int) (hn : xs.length ≤ 100) (k : Nat) (hk : xs.length < k) : cmp_Or_int.f k xs = some (firstNZ xs) := by
 have key : ∀ (d i k : Nat), i + d = xs.length → d < k → cmp_Or_int.l0 k 0 xs (xs.length : Int) (i : Int) = some (firstNZ (xs.drop i)) := by
  intro d
  induction d with
  | zero =>
   intro i k hd hk
   obtain ⟨k, rfl⟩ : ∃ m, k = m + 1 := ⟨k - 1, by omega⟩
   simp only [cmp_Or_int.l0]
   rw [if_neg (by omega), List.drop_of_length_le (by omega)]
   rfl
  | succ d ih =>
   intro i k hd hk
   obtain ⟨k, rfl⟩ : ∃ m, k = m + 1 := ⟨k - 1, by omega⟩
   simp only [cmp_Or_int.l0]
   rw [if_pos (by omega), if_pos (by omega), if_pos (by omega), show rd xs (i : Int) = nth 0 xs i from rfl, drop_nth 0 (by omega : i < xs.length), wrap_up (by omega : i < xs.length) (by omega), ih (i + 1) k (by omega) (by omega)]
   simp only [firstNZ]
   split <;> rfl
 exact key xs.length 0 k (by omega) hk
def routeB (k v m ip o s : Int) (st : Bool) : Bool := vniB v && houseB o && (if k = 2 then (macB m && !groupB m) && ipB ip && timeB s else decide (k = 3) && decide (m = 0) && decide (ip = 0) && decide (s = 0) && !st)
theorem spec_RouteRight_eq (k v m ip o s : Int) (st : Bool) (n : Nat) (hn : 1 ≤ n) : spec_RouteRight.f n k v m ip o s st = some (routeB k v m ip o s st) := by
 obtain ⟨n, rfl⟩ : ∃ q, n = q + 1 := ⟨n - 1, by omega⟩
 unfold spec_RouteRight.f routeB
 rw [spec_l02Vni_eq, Q7, show inB o 1 4 = houseB o from rfl]
 simp only [Option.bind_some, spec_RouteRight.j0, spec_l02Mac_eq, spec_IsGroup_eq, spec_l02Ip_eq, Q7, show inB s 0 1000000 = timeB s from rfl]
 cases vniB v <;> cases houseB o <;> simp
 by_cases h2 : k = 2
 ·cases macB m <;> cases groupB m <;> cases ipB ip <;> simp [h2]
 ·by_cases h3 : k = 3
  ·by_cases h4 : m = 0 <;> by_cases h5 : ip = 0 <;> by_cases h6 : s = 0 <;> simp [h3, h4, h5, h6]
  ·simp [h2, h3]
theorem impl_RouteRight_eq (k v m ip o s : Int) (st : Bool) (n : Nat) (hn : 1 ≤ n) : impl_RouteRight.f n k v m ip o s st = some (routeB k v m ip o s st) := by
 obtain ⟨n, rfl⟩ : ∃ q, n = q + 1 := ⟨n - 1, by omega⟩
 unfold impl_RouteRight.f routeB
 rw [impl_isVni_eq, impl_isHouse_eq]
 simp only [Option.bind_some, impl_RouteRight.j0, impl_isGuest_eq, impl_isIp_eq, impl_isTime_eq]
 cases vniB v <;> cases houseB o <;> simp
 by_cases h2 : k = 2
 ·cases macB m <;> cases groupB m <;> cases ipB ip <;> simp [h2]
 ·by_cases h3 : k = 3
  ·by_cases h4 : m = 0 <;> by_cases h5 : ip = 0 <;> by_cases h6 : s = 0 <;> simp [h3, h4, h5, h6]
  ·simp [h2, h3]
def peerB (a : Int) : Bool := inB a 1 9
def lessH (a b : S73) : Bool := if a.f0 = b.f0 then (if a.f2.f0 = b.f2.f0 then (if a.f2.f1 = b.f2.f1 then (if a.f2.f2 = b.f2.f2 then decide (a.f2.f4 < b.f2.f4) else decide (a.f2.f2 < b.f2.f2)) else decide (a.f2.f1 < b.f2.f1)) else decide (a.f2.f0 < b.f2.f0)) else decide (a.f0 < b.f0)
def rightH (a : S73) : Bool := peerB a.f0 && routeB a.f2.f0 a.f2.f1 a.f2.f2 a.f2.f3 a.f2.f4 a.f2.f5 a.f2.f6
def heldAt (xs : List S73) (j : Nat) : Bool := rightH (nth z73 xs j) && (j == 0 || lessH (nth z73 xs (j - 1)) (nth z73 xs j))
def ribRight (xs : List S73) : Bool := chk (heldAt xs) xs.length 0 && decide (xs.length ≤ 60)
theorem rdH (xs : List S73) (i : Nat) : Qc xs (i : Int) = nth z73 xs i := rfl
theorem spec_l06Less_eq (a b : S73) : spec_l06Less.f a.f0 a.f1 a.f2.f0 a.f2.f1 a.f2.f2 a.f2.f3 a.f2.f4 a.f2.f5 a.f2.f6 b.f0 b.f1 b.f2.f0 b.f2.f1 b.f2.f2 b.f2.f3 b.f2.f4 b.f2.f5 b.f2.f6 = some (lessH a b) := by
 unfold spec_l06Less.f lessH
 repeat' split
 all_goals rfl
theorem fnz_cons (a b : Int) (l : List Int) : (0 ≤ firstNZ (cmpI a b :: l)) ↔ (if a = b then 0 ≤ firstNZ l else ¬ a < b) := by
 have e : firstNZ (cmpI a b :: l) = if cmpI a b = 0 then firstNZ l else cmpI a b := rfl
 rw [e]
 unfold cmpI
 rcases Int.lt_trichotomy a b with h | h | h
 ·rw [if_pos h, if_neg (by omega), if_neg (by omega)]; simp [h]
 ·subst h; simp
 ·rw [if_neg (by omega), if_pos h, if_neg (by omega), if_neg (by omega)]; simp; omega
def ordH (a b : S73) : Int := firstNZ [cmpI a.f0 b.f0, cmpI a.f2.f0 b.f2.f0, cmpI a.f2.f1 b.f2.f1, cmpI a.f2.f2 b.f2.f2, cmpI a.f2.f4 b.f2.f4]
theorem impl_Held_order_eq (a b : S73) (k : Nat) (hk : 6 ≤ k) : impl_Held_order.f k a.f0 a.f1 a.f2.f0 a.f2.f1 a.f2.f2 a.f2.f3 a.f2.f4 a.f2.f5 a.f2.f6 b.f0 b.f1 b.f2.f0 b.f2.f1 b.f2.f2 b.f2.f3 b.f2.f4 b.f2.f5 b.f2.f6 = some (ordH a b) := by
 simp only [impl_Held_order.f, cmp_Compare_eq, Option.bind_some]
 rw [cmp_Or_eq _ (by simp) k (by simp; omega)]
 rfl
theorem ordH_neg (a b : S73) : (ordH a b ≥ 0) ↔ lessH a b = false := by
 show 0 ≤ ordH a b ↔ _
 unfold ordH lessH
 simp only [fnz_cons]
 have h0 : 0 ≤ firstNZ [] := by simp [firstNZ]
 repeat' split
 all_goals simp_all
theorem spec_RibRight_loop (xs : List S73) (hn : xs.length ≤ 9223372036854775807) : ∀ (d i k : Nat), i + d = xs.length → d + 1 < k → spec_RibRight.l0 k xs (i : Int) = some (chk (heldAt xs) d i && true) := by
 apply chk_loop 1 (fun k i => spec_RibRight.l0 k xs i)
 ·intro k i hc hi
  simp only [spec_RibRight.l0]
  rw [if_pos (by omega), if_pos (by omega), rdH, spec_l06Peer.f, Q7, Option.bind_some, show inB (nth z73 xs i).f0 1 9 = peerB (nth z73 xs i).f0 from rfl, spec_RouteRight_eq _ _ _ _ _ _ _ k hc]
  simp only [Option.bind_some]
  unfold heldAt rightH
  cases h1 : peerB (nth z73 xs i).f0 with
  | false => simp
  | true =>
   rw [if_pos rfl]
   cases h2 : routeB (nth z73 xs i).f2.f0 (nth z73 xs i).f2.f1 (nth z73 xs i).f2.f2 (nth z73 xs i).f2.f3 (nth z73 xs i).f2.f4 (nth z73 xs i).f2.f5 (nth z73 xs i).f2.f6 with
   | false => simp
   | true =>
    rw [if_pos rfl]
    by_cases h0 : i = 0
    ·subst h0
     rw [if_neg (by omega), if_pos (by simp), wrap_up hi hn]
    ·rw [if_pos (by omega), wrap_down (by omega) (by omega), if_pos (by omega), if_pos (by omega), rdH, wrap_up hi hn, spec_l06Less_eq, Option.bind_some]
     cases h3 : lessH (nth z73 xs (i - 1)) (nth z73 xs i) <;> simp [h0]
 ·intro k _
  simp only [spec_RibRight.l0]
  rw [if_neg (by omega)]
theorem spec_RibRight_eq (xs : List S73) (hn : xs.length ≤ 9223372036854775807) (k : Nat) (hk : xs.length + 6 < k) : spec_RibRight.f k xs = some (ribRight xs) := by
 unfold spec_RibRight.f ribRight
 by_cases h : xs.length ≤ 60
 ·rw [if_neg (by omega), show (0 : Int) = ((0 : Nat) : Int) from rfl, spec_RibRight_loop xs hn xs.length 0 k (by omega) (by omega)]
  simp [h]
 ·rw [if_pos (by omega)]
  simp [h]
theorem impl_RibRight_loop (xs : List S73) (hn : xs.length ≤ 9223372036854775807) : ∀ (d i k : Nat), i + d = xs.length → d + 6 < k → impl_RibRight.l0 k xs xs (xs.length : Int) (i : Int) = some (chk (heldAt xs) d i && decide (xs.length ≤ 60)) := by
 apply chk_loop 6 (fun k i => impl_RibRight.l0 k xs xs (xs.length : Int) i)
 ·intro k i hc hi
  simp only [impl_RibRight.l0]
  rw [if_pos (by omega), if_pos (by omega), if_pos (by omega), rdH, impl_isPeer.f, impl_in_eq, Option.bind_some, show inB (nth z73 xs i).f0 1 9 = peerB (nth z73 xs i).f0 from rfl, impl_RouteRight_eq _ _ _ _ _ _ _ k (by omega)]
  simp only [Option.bind_some]
  unfold heldAt rightH
  cases h1 : peerB (nth z73 xs i).f0 with
  | false => simp
  | true =>
   rw [if_pos rfl]
   cases h2 : routeB (nth z73 xs i).f2.f0 (nth z73 xs i).f2.f1 (nth z73 xs i).f2.f2 (nth z73 xs i).f2.f3 (nth z73 xs i).f2.f4 (nth z73 xs i).f2.f5 (nth z73 xs i).f2.f6 with
   | false => simp
   | true =>
    rw [if_pos rfl]
    by_cases h0 : i = 0
    ·subst h0
     rw [if_neg (by omega), if_pos (by simp), wrap_up hi hn]
    ·rw [if_pos (by omega), wrap_down (by omega) (by omega), if_pos (by omega), if_pos (by omega), rdH, wrap_up hi hn, impl_Held_order_eq _ _ k hc, Option.bind_some]
     have ho := ordH_neg (nth z73 xs (i - 1)) (nth z73 xs i)
     cases h3 : lessH (nth z73 xs (i - 1)) (nth z73 xs i) with
     | true => rw [if_neg (by rw [ho, h3]; simp)]; simp
     | false => rw [if_pos (by rw [ho, h3])]; simp [h0]
 ·intro k _
  simp only [impl_RibRight.l0]
  rw [if_neg (by omega)]
  simp only [Option.some.injEq, decide_eq_decide]
  omega
theorem impl_RibRight_eq (xs : List S73) (hn : xs.length ≤ 9223372036854775807) (k : Nat) (hk : xs.length + 6 < k) : impl_RibRight.f k xs = some (ribRight xs) := by
 unfold impl_RibRight.f ribRight
 rw [show (0 : Int) = ((0 : Nat) : Int) from rfl, impl_RibRight_loop xs hn xs.length 0 k (by omega) hk]
def toRoute (x : S40) : S42 := ⟨x.f0, x.f1, x.f2, x.f3, x.f4, x.f5, x.f6⟩
def toHeld (x : S76) : S73 := ⟨x.f0, x.f1, toRoute x.f2⟩
def markHeld (m : Int) : S73 := ⟨m, Int.tmod (m + 1) 3 == 0, ⟨m + 2, m + 3, m + 4, m + 5, m + 6, m + 7, Int.tmod (m + 8) 3 == 0⟩⟩
def markRoute (m : Int) : S42 := ⟨m, m + 1, m + 2, m + 3, m + 4, m + 5, Int.tmod (m + 6) 3 == 0⟩
theorem rd_setH (xs : List S73) (i : Nat) (x : S73) (h : i < xs.length) : Qc (xs.set i x) (i : Int) = x := by
 simp [Qc, h]
theorem rd_setR (xs : List S42) (i : Nat) (x : S42) (h : i < xs.length) : Qk (xs.set i x) (i : Int) = x := by
 simp [Qk, h]
end
def keyEq (a b : S42) : Bool := a.f0 == b.f0 && (a.f1 == b.f1 && (a.f2 == b.f2 && a.f4 == b.f4))
def Jb (peer : Int) (key : S42) (x : S73) : Bool := decide (x.f0 = peer) && keyEq x.f2 key
set_option maxHeartbeats 800000 in
set_option maxRecDepth 100000 in
theorem keyOf_calls (x0 x1 x2 x3 x4 x5 : Int) (x6 : Bool) (w : World) : Calls Try.prog 116 #[.agg #[.int .i64 x0, .int .i64 x1, .int .i64 x2, .int .i64 x3, .int .i64 x4, .int .i64 x5, .bool x6]] w fun e w' => e = .returned (.agg #[.int .i64 x0, .int .i64 x1, .int .i64 x2, .int .i64 0, .int .i64 x4, .int .i64 0, .bool false]) ∧ Below w.heap.size w w' := by
 have BK := Aside0.mk (blk_new (w.alloc (.cells #[.int .i64 x0, .int .i64 x1, .int .i64 x2, .int .i64 0, .int .i64 x4, .int .i64 0, .bool false] 42)) (.cells #[.int .i64 x0, .int .i64 x1, .int .i64 x2, .int .i64 0, .int .i64 x4, .int .i64 0, .bool false] 42))
 go_enter Try.func116, Try.ntmps116
 go_wp2
 refine bodyPost_ret (v := .agg #[.int .i64 x0, .int .i64 x1, .int .i64 x2, .int .i64 0, .int .i64 x4, .int .i64 0, .bool false]) ?_ rfl ⟨rfl, ((Below.refl _ w).alloc (Nat.le_refl _) _).alloc (by simp) _⟩
 refine results_cell_row (fn := Try.f116) (p := 2) (ty := 42) ?_ _ _ (w.heap.size + 1) 42 #[.int .i64 x0, .int .i64 x1, .int .i64 x2, .int .i64 0, .int .i64 x4, .int .i64 0, .bool false] (0, 0) _ ?_ (by have := BK.out; rwa [World.size_alloc] at this) Try.underlying42 ?_ ?_
 all_goals first | rfl | kernel_rfl
attribute [local go_sem high] eqA42
set_option maxHeartbeats 1600000 in
set_option maxRecDepth 100000 in
theorem ribTake_pred (peer : Int) (key : S42) (b c : Nat) (w : World) (hb : w.heap[b]? = some (.cells #[.int .i64 peer] 2 (0, 0))) (hc : w.heap[c]? = some (.cells [.int .i64 key.f0, .int .i64 key.f1, .int .i64 key.f2, .int .i64 key.f3, .int .i64 key.f4, .int .i64 key.f5, .bool key.f6].toArray 42 (0, 0))) :
  Go.Proofs.Ytmgmaflfednngaa.Base.PredB Try.prog 115 #[.pointer (some ⟨b, 0, none⟩), .pointer (some ⟨c, 0, none⟩)] k73 (Jb peer key) (fun k => k = b ∨ k = c) w := by
 intro W x cs hs hk
 obtain rfl := k73_open hk
 have BB := Aside0.mk ((hs.2 b (.inl rfl)).trans hb)
 have BC := Aside0.mk ((hs.2 c (.inr rfl)).trans hc)
 have HB := Aside0.mk ((Below.refl _ W).alloc (Nat.le_refl _) (.cells [.int .i64 x.f0, .bool x.f1, .int .i64 x.f2.f0, .int .i64 x.f2.f1, .int .i64 x.f2.f2, .int .i64 x.f2.f3, .int .i64 x.f2.f4, .int .i64 x.f2.f5, .bool x.f2.f6].toArray 73))
 have BX := Aside0.mk (blk_new W (.cells [.int .i64 x.f0, .bool x.f1, .int .i64 x.f2.f0, .int .i64 x.f2.f1, .int .i64 x.f2.f2, .int .i64 x.f2.f3, .int .i64 x.f2.f4, .int .i64 x.f2.f5, .bool x.f2.f6].toArray 73))
 have mixed : Try.prog.follows .mixedOrders = true := by kernel_rfl
 clear hk hs hb hc
 obtain ⟨x0, x1, x2, x3, x4, x5, x6, x7, x8⟩ := x
 obtain ⟨y0, y1, y2, y3, y4, y5, y6⟩ := key
 show Calls Try.prog 115 #[.agg #[.int .i64 x0, .bool x1, .int .i64 x2, .int .i64 x3, .int .i64 x4, .int .i64 x5, .int .i64 x6, .int .i64 x7, .bool x8], .pointer (some ⟨b, 0, none⟩), .pointer (some ⟨c, 0, none⟩)] W _
 by_cases hq : x0 = peer
 ·have G1 : (x0 == peer) = true := beq_iff_eq.2 hq
  have HQ := Aside0.mk (show Jb peer ⟨y0, y1, y2, y3, y4, y5, y6⟩ ⟨x0, x1, ⟨x2, x3, x4, x5, x6, x7, x8⟩⟩ = keyEq ⟨x2, x3, x4, x5, x6, x7, x8⟩ ⟨y0, y1, y2, y3, y4, y5, y6⟩ by simp [Jb, hq])
  clear hq
  go_enter Try.func115, Try.ntmps115
  go_wp2_with fail
  have a0 := (Qa BX.out 0).trans rfl
  have a1 := (Qa BX.out 2).trans rfl
  have a2 := (Qa BX.out 3).trans rfl
  have a3 := (Qa BX.out 4).trans rfl
  have a4 := (Qa BX.out 5).trans rfl
  have a5 := (Qa BX.out 6).trans rfl
  have a6 := (Qa BX.out 7).trans rfl
  have a7 := (Qa BX.out 8).trans rfl
  have bb := Qh BB.out (.cells #[.int .i64 x0, .bool x1, .int .i64 x2, .int .i64 x3, .int .i64 x4, .int .i64 x5, .int .i64 x6, .int .i64 x7, .bool x8] 73)
  have bc := Qh BC.out (.cells #[.int .i64 x0, .bool x1, .int .i64 x2, .int .i64 x3, .int .i64 x4, .int .i64 x5, .int .i64 x6, .int .i64 x7, .bool x8] 73)
  have b0 := (Qa bb 0).trans rfl
  have c0 := (Qa bc 0).trans rfl
  have c1 := (Qa bc 1).trans rfl
  have c2 := (Qa bc 2).trans rfl
  have c3 := (Qa bc 3).trans rfl
  have c4 := (Qa bc 4).trans rfl
  have c5 := (Qa bc 5).trans rfl
  have c6 := (Qa bc 6).trans rfl
  clear bb bc
  replace a0 := Go.Proofs.Ytmgmaflfednngaa.Base.cell_setD a0
  replace a1 := Go.Proofs.Ytmgmaflfednngaa.Base.cell_setD a1
  replace a2 := Go.Proofs.Ytmgmaflfednngaa.Base.cell_setD a2
  replace a3 := Go.Proofs.Ytmgmaflfednngaa.Base.cell_setD a3
  replace a4 := Go.Proofs.Ytmgmaflfednngaa.Base.cell_setD a4
  replace a5 := Go.Proofs.Ytmgmaflfednngaa.Base.cell_setD a5
  replace a6 := Go.Proofs.Ytmgmaflfednngaa.Base.cell_setD a6
  replace a7 := Go.Proofs.Ytmgmaflfednngaa.Base.cell_setD a7
  replace b0 := Go.Proofs.Ytmgmaflfednngaa.Base.cell_setD b0
  replace c0 := Go.Proofs.Ytmgmaflfednngaa.Base.cell_setD c0
  replace c1 := Go.Proofs.Ytmgmaflfednngaa.Base.cell_setD c1
  replace c2 := Go.Proofs.Ytmgmaflfednngaa.Base.cell_setD c2
  replace c3 := Go.Proofs.Ytmgmaflfednngaa.Base.cell_setD c3
  replace c4 := Go.Proofs.Ytmgmaflfednngaa.Base.cell_setD c4
  replace c5 := Go.Proofs.Ytmgmaflfednngaa.Base.cell_setD c5
  replace c6 := Go.Proofs.Ytmgmaflfednngaa.Base.cell_setD c6
  refine Go.Proofs.Ytmgmaflfednngaa.Base.wp_region_quiet_any (by assumption) (by kernel_rfl) ?_
  repeat (go_big_quiet_step (first | (go_at_call 116; exact Go.Proofs.Ytmgmaflfednngaa.Base.calls_quiet (keyOf_calls _ _ _ _ _ _ _ _))))
  refine wpQuiet_nil ?_
  intro _ hw'
  obtain ⟨⟨nq, osq⟩, hw''⟩ := hw'
  subst hw''
  have HB' := Aside0.mk (Go.Proofs.Ytmgmaflfednngaa.Base.below_setD HB.out HB.out.size nq osq)
  go_wp2
  go_ret
  exact ⟨by rw [HQ.out]; rfl, HB'.out⟩
 ·have G1 : (x0 == peer) = false := beq_eq_false_iff_ne.2 hq
  have HQ := Aside0.mk (show Jb peer ⟨y0, y1, y2, y3, y4, y5, y6⟩ ⟨x0, x1, ⟨x2, x3, x4, x5, x6, x7, x8⟩⟩ = false by simp [Jb, hq])
  clear hq
  go_enter Try.func115, Try.ntmps115
  go_wp2_with fail
  have a0 := (Qa BX.out 0).trans rfl
  have bb := Qh BB.out (.cells #[.int .i64 x0, .bool x1, .int .i64 x2, .int .i64 x3, .int .i64 x4, .int .i64 x5, .int .i64 x6, .int .i64 x7, .bool x8] 73)
  have b0 := (Qa bb 0).trans rfl
  clear bb
  replace a0 := Go.Proofs.Ytmgmaflfednngaa.Base.cell_setD a0
  replace b0 := Go.Proofs.Ytmgmaflfednngaa.Base.cell_setD b0
  refine Go.Proofs.Ytmgmaflfednngaa.Base.wp_region_quiet_any (by assumption) (by kernel_rfl) ?_
  repeat (go_big_quiet_step (fail))
  refine wpQuiet_nil ?_
  intro _ hw'
  obtain ⟨⟨nq, osq⟩, hw''⟩ := hw'
  subst hw''
  have HB' := Aside0.mk (Go.Proofs.Ytmgmaflfednngaa.Base.below_setD HB.out HB.out.size nq osq)
  go_wp2
  go_ret
  exact ⟨by rw [HQ.out]; rfl, HB'.out⟩
set_option maxHeartbeats 800000 in
set_option maxRecDepth 100000 in
theorem ribTake_calls (A : Option Addr) (c : Nat) (l : List S73) (peer : Int) (key : S42) (w : World) (hl : l.length ≤ 1048576) (hr : Kd.C k73 w A l.length l) :
  Calls Try.prog 72 #[.slice A l.length c, .int .i64 peer, .agg [.int .i64 key.f0, .int .i64 key.f1, .int .i64 key.f2, .int .i64 key.f3, .int .i64 key.f4, .int .i64 key.f5, .bool key.f6].toArray] w fun e w' => ∃ v1 v2 : Value, e = .returned (.tuple #[v1, v2]) ∧ Kd.R k73 73 w' w.heap.size (fun _ => True) v1 (l.filter (fun x => !Jb peer key x)) ∧ Kd.R k42 42 w' w.heap.size (fun _ => True) v2 ((l.filter (Jb peer key)).map (·.f2)) ∧ Below w.heap.size w w' := by
 have eg : ∀ args w, (callFunc 115 args).run Try.prog w = .ok (.enter 115 args) w := enters_of Try.func115 (by kernel_rfl) rfl
 have bk1 := blk_new w (.cells #[.int .i64 peer] 2)
 have bk2 := blk_new (w.alloc (.cells #[.int .i64 peer] 2)) (.cells [.int .i64 key.f0, .int .i64 key.f1, .int .i64 key.f2, .int .i64 key.f3, .int .i64 key.f4, .int .i64 key.f5, .bool key.f6].toArray 42)
 rw [World.size_alloc] at bk2
 have B1 := Aside0.mk (((Below.refl _ w).alloc (Nat.le_refl _) (.cells #[.int .i64 peer] 2)).alloc (by simp) (.cells [.int .i64 key.f0, .int .i64 key.f1, .int .i64 key.f2, .int .i64 key.f3, .int .i64 key.f4, .int .i64 key.f5, .bool key.f6].toArray 42))
 have BK := Aside0.mk (Qh bk1 (.cells [.int .i64 key.f0, .int .i64 key.f1, .int .i64 key.f2, .int .i64 key.f3, .int .i64 key.f4, .int .i64 key.f5, .bool key.f6].toArray 42))
 have BL := Aside0.mk bk2
 have HR := Aside0.mk hr
 clear hr bk1 bk2
 go_enter Try.func72, Try.ntmps72
 go_wp2_with fail
 refine (ribWithout_calls 115 #[.pointer (some ⟨w.heap.size, 0, none⟩), .pointer (some ⟨w.heap.size + 1, 0, none⟩)] eg (Jb peer key) (fun k => k = w.heap.size ∨ k = w.heap.size + 1) A c l _ hl (Kd.C_below HR.out B1.out) (fun k hk => by rcases hk with rfl | rfl; exact Qt BK.out; exact Qt BL.out) (ribTake_pred peer key w.heap.size (w.heap.size + 1) _ BK.out BL.out)).mono ?_
 rintro e w2 ⟨v1, v2, rfl, h1, h2, hb⟩
 have H1 := Aside0.mk (Kd.R_lower h1 B1.out.size)
 have H2 := Aside0.mk (Kd.R_lower h2 B1.out.size)
 have HB := Aside0.mk (Qn B1.out hb)
 clear h1 h2 hb
 go_wp2
 refine bodyPost_ret (results_tmp2 rfl _ _ _) rfl ?_
 exact ⟨_, _, rfl, H1.out, H2.out, HB.out⟩
theorem take_loop (l : List S73) (peer : Int) (key : S42) (hn : l.length ≤ 9223372036854775807) : ∀ (k i : Nat) (a : List S73) (b : List S42) (c : Int) (r : List S73 × List S42 × Int), i ≤ l.length → (b ≠ [] ∧ c = 0 ∨ b = [] ∧ c = 6) → spec_l06Take.l0 k l peer (i : Int) key.f0 key.f1 key.f2 key.f3 key.f4 key.f5 key.f6 a b c = some r →
  (b ++ ((l.drop i).filter (Jb peer key)).map (·.f2) ≠ [] ∧ r = (a ++ (l.drop i).filter (fun x => !Jb peer key x), b ++ ((l.drop i).filter (Jb peer key)).map (·.f2), 0)) ∨ (b ++ ((l.drop i).filter (Jb peer key)).map (·.f2) = [] ∧ r = ([], [], 6)) := by
 intro k
 induction k with
 | zero => intro i a b c r _ _ h; cases h
 | succ k ih =>
  intro i a b c r hi hbc h
  rw [spec_l06Take.l0] at h
  by_cases hlt : i < l.length
  ·rw [if_pos (by omega), if_pos (by omega), show Qc l (i : Int) = Go.Proofs.Ytmgmaflfednngaa.Base.nth z73 l i from rfl, Go.Proofs.Ytmgmaflfednngaa.Base.wrap_up hlt hn] at h
   rw [Go.Proofs.Ytmgmaflfednngaa.Base.drop_nth z73 hlt]
   generalize Go.Proofs.Ytmgmaflfednngaa.Base.nth z73 l i = y at *
   have keep : Jb peer key y = false → (if a.length < 1954687338268 then spec_l06Take.l0 k l peer ((i + 1 : Nat) : Int) key.f0 key.f1 key.f2 key.f3 key.f4 key.f5 key.f6 (a ++ [y]) b c else none) = some r →
     (b ++ ((y :: l.drop (i + 1)).filter (Jb peer key)).map (·.f2) ≠ [] ∧ r = (a ++ (y :: l.drop (i + 1)).filter (fun x => !Jb peer key x), b ++ ((y :: l.drop (i + 1)).filter (Jb peer key)).map (·.f2), 0)) ∨ (b ++ ((y :: l.drop (i + 1)).filter (Jb peer key)).map (·.f2) = [] ∧ r = ([], [], 6)) := by
    intro hq h
    by_cases h2 : a.length < 1954687338268
    ·rw [if_pos h2] at h
     have e1 : (y :: l.drop (i + 1)).filter (Jb peer key) = (l.drop (i + 1)).filter (Jb peer key) := List.filter_cons_of_neg (by simp [hq])
     have e2 : (y :: l.drop (i + 1)).filter (fun x => !Jb peer key x) = y :: (l.drop (i + 1)).filter (fun x => !Jb peer key x) := List.filter_cons_of_pos (by simp [hq])
     rw [e1, e2]
     have := ih (i + 1) _ _ _ r (by omega) hbc h
     rw [List.append_assoc] at this
     exact this
    ·rw [if_neg h2] at h
     cases h
   by_cases g1 : y.f0 = peer
   ·rw [if_pos g1] at h
    simp only [spec_KeyOf.f, Option.bind_some] at h
    by_cases g2 : keyEq y.f2 key = true
    ·rw [if_pos (by simpa [keyEq] using g2)] at h
     have hq : Jb peer key y = true := by simp [Jb, g1, g2]
     by_cases h2 : b.length < 2513169434916
     ·rw [if_pos h2] at h
      have e1 : (y :: l.drop (i + 1)).filter (Jb peer key) = y :: (l.drop (i + 1)).filter (Jb peer key) := List.filter_cons_of_pos hq
      have e2 : (y :: l.drop (i + 1)).filter (fun x => !Jb peer key x) = (l.drop (i + 1)).filter (fun x => !Jb peer key x) := List.filter_cons_of_neg (by simp [hq])
      rw [e1, e2, List.map_cons]
      have := ih (i + 1) _ _ _ r (by omega) (.inl ⟨by simp, rfl⟩) h
      rw [List.append_assoc] at this
      exact this
     ·rw [if_neg h2] at h
      cases h
    ·rw [if_neg (by simpa [keyEq] using g2)] at h
     exact keep (by simp [Jb, g2]) h
   ·rw [if_neg g1] at h
    exact keep (by simp [Jb, g1]) h
  ·rw [if_neg (by omega)] at h
   rw [List.drop_of_length_le (by omega)]
   simp only [List.filter_nil, List.map_nil, List.append_nil]
   rcases hbc with ⟨hb, rfl⟩ | ⟨hb, rfl⟩
   ·rw [if_pos rfl] at h
    exact .inl ⟨hb, (Option.some.inj h).symm⟩
   ·rw [if_neg (by decide)] at h
    simp only [spec_l06Ill.f, Option.bind_some] at h
    exact .inr ⟨hb, (Option.some.inj h).symm⟩
theorem take_cases (k : Nat) (l : List S73) (peer : Int) (key : S42) (hn : l.length ≤ 9223372036854775807) (r1 : List S73) (r2 : List S42) (r3 : Int) (h : impl_RibTake.f k l peer key.f0 key.f1 key.f2 key.f3 key.f4 key.f5 key.f6 = some (r1, r2, r3)) :
  (r3 ≠ 0 ∧ impl_ribCode.f k l peer (routeB key.f0 key.f1 key.f2 key.f3 key.f4 key.f5 key.f6) = some r3 ∧ r1 = [] ∧ r2 = []) ∨ (impl_ribCode.f k l peer (routeB key.f0 key.f1 key.f2 key.f3 key.f4 key.f5 key.f6) = some 0 ∧ l.length ≤ 400 ∧ (l.filter (Jb peer key)).map (·.f2) = [] ∧ r1 = [] ∧ r2 = [] ∧ r3 = 6) ∨
  (r3 = 0 ∧ impl_ribCode.f k l peer (routeB key.f0 key.f1 key.f2 key.f3 key.f4 key.f5 key.f6) = some 0 ∧ l.length ≤ 400 ∧ (l.filter (Jb peer key)).map (·.f2) ≠ [] ∧ r1 = l.filter (fun x => !Jb peer key x) ∧ r2 = (l.filter (Jb peer key)).map (·.f2)) := by
 unfold impl_RibTake.f at h
 unfold impl_ribCode.f
 have ill : ∀ x, (spec_l06Ill.f x).bind (fun bt => some (bt.1, bt.2.1, bt.2.2)) = some (r1, r2, r3) → r1 = [] ∧ r2 = [] ∧ r3 = x := by
  intro x h
  simp only [spec_l06Ill.f, Option.bind_some, Option.some.injEq, Prod.mk.injEq] at h
  exact ⟨h.1.symm, h.2.1.symm, h.2.2.symm⟩
 by_cases h0 : (l.length : Int) > 400
 ·rw [if_pos h0] at h ⊢
  obtain ⟨rfl, rfl, rfl⟩ := ill _ h
  exact .inl ⟨by decide, rfl, rfl, rfl⟩
 ·rw [if_neg h0] at h ⊢
  obtain ⟨g, hg, h⟩ := Option.bind_eq_some_iff.mp h
  rw [hg, Option.bind_some]
  cases k with
  | zero =>
   cases g with
   | false => rw [if_neg (by decide)] at h; cases h
   | true =>
    rw [if_pos rfl] at h
    obtain ⟨t, ht, h⟩ := Option.bind_eq_some_iff.mp h
    cases t with
    | false => rw [if_neg (by decide)] at h; cases h
    | true =>
     rw [if_pos rfl] at h
     obtain ⟨t2, ht2, h⟩ := Option.bind_eq_some_iff.mp h
     cases h
  | succ k =>
   cases g with
   | false =>
    rw [if_neg (by decide), impl_RibTake.j0, if_pos (by decide)] at h
    rw [if_neg (by decide)]
    obtain ⟨rfl, rfl, rfl⟩ := ill _ h
    exact .inl ⟨by decide, rfl, rfl, rfl⟩
   | true =>
    rw [if_pos rfl] at h ⊢
    obtain ⟨t, ht, h⟩ := Option.bind_eq_some_iff.mp h
    rw [ht, Option.bind_some]
    cases t with
    | false =>
     rw [if_neg (by decide), impl_RibTake.j0, if_pos (by decide)] at h
     rw [if_neg (by decide)]
     obtain ⟨rfl, rfl, rfl⟩ := ill _ h
     exact .inl ⟨by decide, rfl, rfl, rfl⟩
    | true =>
     rw [if_pos rfl] at h ⊢
     rw [impl_RouteRight_eq _ _ _ _ _ _ _ (k + 1) (by omega), Option.bind_some] at h
     cases hrb : routeB key.f0 key.f1 key.f2 key.f3 key.f4 key.f5 key.f6 with
     | false =>
      rw [hrb, impl_RibTake.j0, if_pos (by decide)] at h
      rw [if_neg (by decide)]
      obtain ⟨rfl, rfl, rfl⟩ := ill _ h
      exact .inl ⟨by decide, rfl, rfl, rfl⟩
     | true =>
      rw [hrb, impl_RibTake.j0, if_neg (by decide)] at h
      rw [if_pos rfl]
      obtain ⟨q, hq, h⟩ := Option.bind_eq_some_iff.mp h
      have := take_loop l peer key hn k 0 [] [] 6 q (by omega) (.inr ⟨rfl, rfl⟩) hq
      simp only [List.drop_zero, List.nil_append] at this
      simp only [Option.some.injEq, Prod.mk.injEq] at h
      rcases this with ⟨hne, rfl⟩ | ⟨he, rfl⟩
      ·exact .inr (.inr ⟨h.2.2.symm, rfl, by omega, hne, h.1.symm, h.2.1.symm⟩)
      ·exact .inr (.inl ⟨rfl, by omega, he, h.1.symm, h.2.1.symm, h.2.2.symm⟩)
set_option maxHeartbeats 8000000 in
set_option maxRecDepth 100000 in
theorem impl_RibTake.calls (k : Nat) (A0 : Option Addr) (c0 : Nat) (l0 : List (S73)) (a1 : Int) (a2_0 : Int) (a2_1 : Int) (a2_2 : Int) (a2_3 : Int) (a2_4 : Int) (a2_5 : Int) (a2_6 : Bool) (r1 : List (S73)) (r2 : List (S42)) (r3 : Int) (w : World) (hr0 : Kd.C k73 w A0 l0.length l0) (hc0 : l0.length ≤ c0) (h : impl_RibTake.f k l0 a1 a2_0 a2_1 a2_2 a2_3 a2_4 a2_5 a2_6 = some (r1, r2, r3)) :
  Calls Try.prog 31 #[.slice A0 l0.length c0, .int .i64 a1, .agg #[.int .i64 a2_0, .int .i64 a2_1, .int .i64 a2_2, .int .i64 a2_3, .int .i64 a2_4, .int .i64 a2_5, .bool a2_6]] w fun e w' => ∃ v0_ v1_ : Value, e = .returned (.agg #[v0_, v1_, .int .i64 r3]) ∧ Kd.R k73 73 w' w.heap.size (fun _ => True) v0_ r1 ∧ Kd.R k42 42 w' w.heap.size (fun _ => True) v1_ r2 ∧ Below w.heap.size w w' := by
 have hcase := take_cases k l0 a1 ⟨a2_0, a2_1, a2_2, a2_3, a2_4, a2_5, a2_6⟩ hr0.2.1 r1 r2 r3 h
 simp only [] at hcase
 have HRR := Aside0.mk (impl_RouteRight_eq a2_0 a2_1 a2_2 a2_3 a2_4 a2_5 a2_6 1 (Nat.le_refl _))
 have HR := Aside0.mk hr0
 have HC := Aside0.mk hc0
 have bk1 := blk_new w (.cells #[.int .i64 a2_0, .int .i64 a2_1, .int .i64 a2_2, .int .i64 a2_3, .int .i64 a2_4, .int .i64 a2_5, .bool a2_6] 42)
 have bk2 := blk_new (w.alloc (.cells #[.int .i64 a2_0, .int .i64 a2_1, .int .i64 a2_2, .int .i64 a2_3, .int .i64 a2_4, .int .i64 a2_5, .bool a2_6] 42)) (.cells #[.slice none 0 0, .slice none 0 0, .int .i64 0] 34)
 rw [World.size_alloc] at bk2
 have BL := Aside0.mk (Qh bk1 (.cells #[.slice none 0 0, .slice none 0 0, .int .i64 0] 34))
 have BK := Aside0.mk bk2
 have B1 := Aside0.mk (((Below.refl _ w).alloc (Nat.le_refl _) (.cells #[.int .i64 a2_0, .int .i64 a2_1, .int .i64 a2_2, .int .i64 a2_3, .int .i64 a2_4, .int .i64 a2_5, .bool a2_6] 42)).alloc (by simp) (.cells #[.slice none 0 0, .slice none 0 0, .int .i64 0] 34))
 clear h hr0 hc0 bk1 bk2
 rcases hcase with ⟨hne, hcode, rfl, rfl⟩ | ⟨hcode, hlen, he, rfl, rfl, rfl⟩ | ⟨rfl, hcode, hlen, hne, hx1, hx2⟩
 ·have HCo := Aside0.mk hcode
  have hne1 : (r3 != 0) = true := by simpa using hne
  clear hcode hne
  go_enter Try.func31, Try.ntmps31
  go_wp2_with fail
  refine (impl_RouteRight.calls 1 a2_0 a2_1 a2_2 a2_3 a2_4 a2_5 a2_6 _ _ HRR.out).mono ?_
  rintro e w2 ⟨rfl, hb⟩
  have B2 := Aside0.mk (Qn B1.out hb)
  have BK2 := Aside0.mk (Qm BK.out hb)
  clear hb
  go_wp2_with fail
  refine (impl_ribCode.calls k _ _ l0 a1 _ _ _ (Kd.C_below HR.out B2.out) HC.out HCo.out).mono ?_
  rintro e w3 ⟨rfl, hb⟩
  have B3 := Aside0.mk (Qn B2.out hb)
  have BK3 := Aside0.mk (Qm BK2.out hb)
  clear hb
  have f0 := Qd BK3.out 0
  have f1 := Qd BK3.out 1
  have f2 := Qd BK3.out 2
  have k0 := (Qa BK3.out 0).trans rfl
  have k1 := (Qa BK3.out 1).trans rfl
  have k2 := (Qa BK3.out 2).trans rfl
  have HF := Aside0.mk (blk_set (blk_set (blk_set BK3.out 0 (.slice none 0 0)) 1 (.slice none 0 0)) 2 (.int .i64 r3))
  go_wp2
  refine bodyPost_ret (v := .agg #[.slice none 0 0, .slice none 0 0, .int .i64 r3]) ?_ rfl ⟨_, _, rfl, Kd.R_nil _ _ _ _ _, Kd.R_nil _ _ _ _ _, ?_⟩
  ·refine results_cell_row (fn := Try.f31) (p := 6) (ty := 34) ?_ _ _ (w.heap.size + 1) 34 #[.slice none 0 0, .slice none 0 0, .int .i64 r3] (0, 0) _ ?_ HF.out Try.underlying34 ?_ ?_
   all_goals first | rfl | kernel_rfl
  ·exact (((B3.out.setCell (by simp) _).setCell (by simp) _).setCell (by simp) _)
 ·have HCo := Aside0.mk hcode
  have HL := Aside0.mk hlen
  have HE := Aside0.mk he
  clear hcode hlen he
  go_enter Try.func31, Try.ntmps31
  go_wp2_with fail
  refine (impl_RouteRight.calls 1 a2_0 a2_1 a2_2 a2_3 a2_4 a2_5 a2_6 _ _ HRR.out).mono ?_
  rintro e w2 ⟨rfl, hb⟩
  have B2 := Aside0.mk (Qn B1.out hb)
  have BK2 := Aside0.mk (Qm BK.out hb)
  have BL2 := Aside0.mk (Qm BL.out hb)
  clear hb
  go_wp2_with fail
  refine (impl_ribCode.calls k _ _ l0 a1 _ _ _ (Kd.C_below HR.out B2.out) HC.out HCo.out).mono ?_
  rintro e w3 ⟨rfl, hb⟩
  have B3 := Aside0.mk (Qn B2.out hb)
  have BK3 := Aside0.mk (Qm BK2.out hb)
  have BL3 := Aside0.mk (Qm BL2.out hb)
  clear hb
  have f0 := Qd BL3.out 0
  have f1 := Qd BL3.out 1
  have f2 := Qd BL3.out 2
  have f3 := Qd BL3.out 3
  have f4 := Qd BL3.out 4
  have f5 := Qd BL3.out 5
  have f6 := Qd BL3.out 6
  have k0 := (Qa BL3.out 0).trans rfl
  have k1 := (Qa BL3.out 1).trans rfl
  have k2 := (Qa BL3.out 2).trans rfl
  have k3 := (Qa BL3.out 3).trans rfl
  have k4 := (Qa BL3.out 4).trans rfl
  have k5 := (Qa BL3.out 5).trans rfl
  have k6 := (Qa BL3.out 6).trans rfl
  go_wp2_with fail
  refine (ribTake_calls _ _ l0 a1 ⟨a2_0, a2_1, a2_2, a2_3, a2_4, a2_5, a2_6⟩ _ (by have := HL.out; omega) (Kd.C_below HR.out B3.out)).mono ?_
  rintro e w4 ⟨v1, v2, rfl, h1, h2, hb⟩
  rw [HE.out] at h2
  have B4 := Aside0.mk (Qn B3.out hb)
  have BK4 := Aside0.mk (Qm BK3.out hb)
  obtain ⟨A1, c1, e1⟩ := Kd.R_slice h1
  subst e1
  obtain ⟨A2, c2, e2⟩ := Kd.R_slice h2
  subst e2
  clear h1 h2 hb f0 f1 f2 f3 f4 f5 f6 k0 k1 k2 k3 k4 k5 k6
  simp only [List.length_nil]
  have f0 := Qd BK4.out 0
  have f1 := Qd BK4.out 1
  have f2 := Qd BK4.out 2
  have k0 := (Qa BK4.out 0).trans rfl
  have k1 := (Qa BK4.out 1).trans rfl
  have k2 := (Qa BK4.out 2).trans rfl
  have HF := Aside0.mk (blk_set (blk_set (blk_set BK4.out 0 (.slice none 0 0)) 1 (.slice none 0 0)) 2 (.int .i64 6))
  go_wp2
  refine bodyPost_ret (v := .agg #[.slice none 0 0, .slice none 0 0, .int .i64 6]) ?_ rfl ⟨_, _, rfl, Kd.R_nil _ _ _ _ _, Kd.R_nil _ _ _ _ _, ?_⟩
  ·refine results_cell_row (fn := Try.f31) (p := 6) (ty := 34) ?_ _ _ (w.heap.size + 1) 34 #[.slice none 0 0, .slice none 0 0, .int .i64 6] (0, 0) _ ?_ HF.out Try.underlying34 ?_ ?_
   all_goals first | rfl | kernel_rfl
  ·exact (((B4.out.setCell (by simp) _).setCell (by simp) _).setCell (by simp) _)
 ·have HCo := Aside0.mk hcode
  have HL := Aside0.mk hlen
  have E1 := Aside0.mk hx1
  have E2 := Aside0.mk hx2
  have hn0 : 0 < r2.length := by rw [hx2]; exact List.length_pos_iff.2 hne
  have hn1 : ((r2.length : Int) == 0) = false := beq_eq_false_iff_ne.2 (by omega)
  clear hcode hlen hx1 hx2 hne
  go_enter Try.func31, Try.ntmps31
  go_wp2_with fail
  refine (impl_RouteRight.calls 1 a2_0 a2_1 a2_2 a2_3 a2_4 a2_5 a2_6 _ _ HRR.out).mono ?_
  rintro e w2 ⟨rfl, hb⟩
  have B2 := Aside0.mk (Qn B1.out hb)
  have BK2 := Aside0.mk (Qm BK.out hb)
  have BL2 := Aside0.mk (Qm BL.out hb)
  clear hb
  go_wp2_with fail
  refine (impl_ribCode.calls k _ _ l0 a1 _ _ _ (Kd.C_below HR.out B2.out) HC.out HCo.out).mono ?_
  rintro e w3 ⟨rfl, hb⟩
  have B3 := Aside0.mk (Qn B2.out hb)
  have BK3 := Aside0.mk (Qm BK2.out hb)
  have BL3 := Aside0.mk (Qm BL2.out hb)
  clear hb
  have f0 := Qd BL3.out 0
  have f1 := Qd BL3.out 1
  have f2 := Qd BL3.out 2
  have f3 := Qd BL3.out 3
  have f4 := Qd BL3.out 4
  have f5 := Qd BL3.out 5
  have f6 := Qd BL3.out 6
  have k0 := (Qa BL3.out 0).trans rfl
  have k1 := (Qa BL3.out 1).trans rfl
  have k2 := (Qa BL3.out 2).trans rfl
  have k3 := (Qa BL3.out 3).trans rfl
  have k4 := (Qa BL3.out 4).trans rfl
  have k5 := (Qa BL3.out 5).trans rfl
  have k6 := (Qa BL3.out 6).trans rfl
  go_wp2_with fail
  refine (ribTake_calls _ _ l0 a1 ⟨a2_0, a2_1, a2_2, a2_3, a2_4, a2_5, a2_6⟩ _ (by have := HL.out; omega) (Kd.C_below HR.out B3.out)).mono ?_
  rintro e w4 ⟨v1, v2, rfl, h1, h2, hb⟩
  rw [← E1.out] at h1
  rw [← E2.out] at h2
  have H1 := Aside0.mk (Kd.R_lower h1 B3.out.size)
  have H2 := Aside0.mk (Kd.R_lower h2 B3.out.size)
  have B4 := Aside0.mk (Qn B3.out hb)
  have BK4 := Aside0.mk (Qm BK3.out hb)
  clear h1 h2 hb f0 f1 f2 f3 f4 f5 f6 k0 k1 k2 k3 k4 k5 k6
  obtain ⟨A1, c1, e1⟩ := Kd.R_slice H1.out
  subst e1
  obtain ⟨A2, c2, e2⟩ := Kd.R_slice H2.out
  subst e2
  have f0 := Qd BK4.out 0
  have f1 := Qd BK4.out 1
  have f2 := Qd BK4.out 2
  have k0 := (Qa BK4.out 0).trans rfl
  have k1 := (Qa BK4.out 1).trans rfl
  have k2 := (Qa BK4.out 2).trans rfl
  have HF := Aside0.mk (blk_set (blk_set (blk_set BK4.out 0 (.slice A1 r1.length c1)) 1 (.slice A2 r2.length c2)) 2 (.int .i64 0))
  have HX := Aside0.mk (Kd.R_set (Kd.R_set (Kd.R_set H1.out BK4.out (by decide) 0 (.slice A1 r1.length c1)) (blk_set BK4.out 0 _) (by decide) 1 (.slice A2 r2.length c2)) (blk_set (blk_set BK4.out 0 _) 1 _) (by decide) 2 (.int .i64 0))
  have HY := Aside0.mk (Kd.R_set (Kd.R_set (Kd.R_set H2.out BK4.out (by decide) 0 (.slice A1 r1.length c1)) (blk_set BK4.out 0 _) (by decide) 1 (.slice A2 r2.length c2)) (blk_set (blk_set BK4.out 0 _) 1 _) (by decide) 2 (.int .i64 0))
  go_wp2
  refine bodyPost_ret (v := .agg #[.slice A1 r1.length c1, .slice A2 r2.length c2, .int .i64 0]) ?_ rfl ⟨_, _, rfl, HX.out, HY.out, ?_⟩
  ·refine results_cell_row (fn := Try.f31) (p := 6) (ty := 34) ?_ _ _ (w.heap.size + 1) 34 #[.slice A1 r1.length c1, .slice A2 r2.length c2, .int .i64 0] (0, 0) _ ?_ HF.out Try.underlying34 ?_ ?_
   all_goals first | rfl | kernel_rfl
  ·exact (((B4.out.setCell (by simp) _).setCell (by simp) _).setCell (by simp) _)
end Go.Proofs.Ytmgmaflfednngaa.PFnExactRibTake
