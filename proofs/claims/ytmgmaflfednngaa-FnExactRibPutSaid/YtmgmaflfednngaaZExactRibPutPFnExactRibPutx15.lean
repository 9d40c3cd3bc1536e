-- A copy, made by trim.py (its own words shortened): not an official print.
import Derived.Test.YtmgmaflfednngaaZExactRibPutPFnExactRibPutx0
import Derived.Test.YtmgmaflfednngaaZExactRibPutPFnExactRibPutx2
import Derived.Test.YtmgmaflfednngaaZExactRibPutPFnExactRibPutx3
import Derived.Test.YtmgmaflfednngaaZExactRibPutPFnExactRibPutx5
import Derived.Test.YtmgmaflfednngaaZExactRibPutPFnExactRibPutx11
import Derived.Test.YtmgmaflfednngaaZExactRibPutPFnExactRibPutx14
namespace Go.Proofs.Ytmgmaflfednngaa.PFnExactRibPut
open Go.RowKit Go.Proofs.YtmgmaflfednngaaW.PrintWords Go.Proofs.YtmgmaflfednngaaW.PrintLast Go.Proofs.YtmgmaflfednngaaW.PrintMore
attribute [local go_sem] max2_int min2_int max_two min_two max_three min_three max_four min_four   -- for this text's walks alone
set_option linter.unusedVariables false
set_option linter.unusedSimpArgs false
def laws_FnExactRibPut.j0 : Nat → List (S76) → Int → Bool → Int → Int → Int → Int → Int → Int → Bool → List (S73) → List (S42) → Int → List (S73) → List (S42) → Int → Option (Bool)
 | 0, _, _, _, _, _, _, _, _, _, _, _, _, _, _, _, _ => none
 | k + 1, x0, x1, x52, x369000, x369001, x369002, x369003, x369004, x369005, x369006, x388000, x388001, x388002, x406000, x406001, x406002 => if x52 = true then (some false) else ((laws_markRibOut.f k x406000 x406001 x406002 1).bind fun bt414 => ((laws_heldRibOut.f k bt414.2.1 bt414.2.2 x406002 1).bind fun t417 => (if t417 < 0 then (some false) else (if t417 = bt414.1 then ((laws_toHeldS.f k x0).bind fun t418 => ((laws_toRoute.f x369000 x369001 x369002 x369003 x369004 x369005 x369006).bind fun bt421 => ((impl_RibPut.f k t418 x1 bt421.1 bt421.2.1 bt421.2.2.1 bt421.2.2.2.1 bt421.2.2.2.2.1 bt421.2.2.2.2.2.1 bt421.2.2.2.2.2.2).bind fun bt428 => ((laws_eqRibOut.f k bt428.1 bt428.2.1 bt428.2.2 x388000 x388001 x388002).bind fun t436 => (if t436 = true then ((laws_heldRibOut.f k bt414.2.1 bt414.2.2 x406002 1).bind fun t437 => (if t437 < 0 then (some false) else (if t437 = bt414.1 then (some true) else (some false)))) else (some false)))))) else (some false)))))
def laws_FnExactRibPut.f (k : Nat) (l0 : List (S76)) (a1 : Int) (a2_0 : Int) (a2_1 : Int) (a2_2 : Int) (a2_3 : Int) (a2_4 : Int) (a2_5 : Int) (a2_6 : Bool) : Option (Bool) := (laws_szHeldS.f l0 1048576).bind fun t369 => (if t369 < 0 then (some true) else ((laws_toHeldS.f k l0).bind fun t370 => ((laws_toRoute.f a2_0 a2_1 a2_2 a2_3 a2_4 a2_5 a2_6).bind fun bt373 => ((spec_RibPut.f k t370 a1 bt373.1 bt373.2.1 bt373.2.2.1 bt373.2.2.2.1 bt373.2.2.2.2.1 bt373.2.2.2.2.2.1 bt373.2.2.2.2.2.2).bind fun bt380 => ((laws_toHeldS.f k l0).bind fun t388 => ((laws_toRoute.f a2_0 a2_1 a2_2 a2_3 a2_4 a2_5 a2_6).bind fun bt391 => ((impl_RibPut.f k t388 a1 bt391.1 bt391.2.1 bt391.2.2.1 bt391.2.2.2.1 bt391.2.2.2.2.1 bt391.2.2.2.2.2.1 bt391.2.2.2.2.2.2).bind fun bt398 => ((laws_eqRibOut.f k bt398.1 bt398.2.1 bt398.2.2 bt380.1 bt380.2.1 bt380.2.2).bind fun t406 => (if t406 = true then ((laws_toHeldS.f k l0).bind fun t407 => ((laws_eqHeldS.f k t388 t407).bind fun t410 => (if t410 = true then ((laws_markHeldS.f k t388 1).bind fun bt411 => (if bt411.1 < 0 then (laws_FnExactRibPut.j0 k l0 a1 true a2_0 a2_1 a2_2 a2_3 a2_4 a2_5 a2_6 bt380.1 bt380.2.1 bt380.2.2 bt398.1 bt398.2.1 bt398.2.2) else ((laws_eqRibOut.f k bt398.1 bt398.2.1 bt398.2.2 bt380.1 bt380.2.1 bt380.2.2).bind fun t413 => (laws_FnExactRibPut.j0 k l0 a1 (!t413) a2_0 a2_1 a2_2 a2_3 a2_4 a2_5 a2_6 bt380.1 bt380.2.1 bt380.2.2 bt398.1 bt398.2.1 bt398.2.2)))) else (some false)))) else (some false))))))))))
theorem laws_FnExactRibPut.mono_l : ∀ k, (∀ y0 y1 y2 y3 y4 y5 y6 y7 y8 y9 y10 y11 y12 y13 y14 y15, LeO (laws_FnExactRibPut.j0 k y0 y1 y2 y3 y4 y5 y6 y7 y8 y9 y10 y11 y12 y13 y14 y15) (laws_FnExactRibPut.j0 (k + 1) y0 y1 y2 y3 y4 y5 y6 y7 y8 y9 y10 y11 y12 y13 y14 y15))
 | 0 => fun _ _ _ _ _ _ _ _ _ _ _ _ _ _ _ _ r h => by simp [laws_FnExactRibPut.j0] at h
 | k + 1 => by
  have ih0 := laws_FnExactRibPut.mono_l k
  ·intro y0 y1 y2 y3 y4 y5 y6 y7 y8 y9 y10 y11 y12 y13 y14 y15
   unfold laws_FnExactRibPut.j0
   repeat' first
   | (with_reducible exact ih0 _ _ _ _ _ _ _ _ _ _ _ _ _ _ _ _)
   | (with_reducible exact impl_RibPut.mono _ _ _ _ _ _ _ _ _ _)
   | (with_reducible exact laws_eqHeldS.mono _ _ _)
   | (with_reducible exact laws_eqRibOut.mono _ _ _ _ _ _ _)
   | (with_reducible exact laws_heldRibOut.mono _ _ _ _ _)
   | (with_reducible exact laws_markHeldS.mono _ _ _)
   | (with_reducible exact laws_markRibOut.mono _ _ _ _ _)
   | (with_reducible exact laws_toHeldS.mono _ _)
   | (with_reducible exact spec_RibPut.mono _ _ _ _ _ _ _ _ _ _)
   | (with_reducible exact LeO.refl _)
   | (with_reducible exact LeO.none _)
   | (with_reducible refine LeO.ite ?_ ?_)
   | (with_reducible refine LeO.bind ?_ (fun _ => ?_))
   | exact ih0 _ _ _ _ _ _ _ _ _ _ _ _ _ _ _ _
   | exact impl_RibPut.mono _ _ _ _ _ _ _ _ _ _
   | exact laws_eqHeldS.mono _ _ _
   | exact laws_eqRibOut.mono _ _ _ _ _ _ _
   | exact laws_heldRibOut.mono _ _ _ _ _
   | exact laws_markHeldS.mono _ _ _
   | exact laws_markRibOut.mono _ _ _ _ _
   | exact laws_toHeldS.mono _ _
   | exact spec_RibPut.mono _ _ _ _ _ _ _ _ _ _
   | exact LeO.none _
   | refine LeO.ite ?_ ?_
   | refine LeO.bind ?_ (fun _ => ?_)
theorem laws_FnExactRibPut.mono : ∀ a0 a1 a2 a3 a4 a5 a6 a7 a8 k, LeO (laws_FnExactRibPut.f k a0 a1 a2 a3 a4 a5 a6 a7 a8) (laws_FnExactRibPut.f (k + 1) a0 a1 a2 a3 a4 a5 a6 a7 a8) := by
 intro a0 a1 a2 a3 a4 a5 a6 a7 a8 k
 have ih0 := laws_FnExactRibPut.mono_l k
 unfold laws_FnExactRibPut.f
 repeat' first
   | (with_reducible exact ih0 _ _ _ _ _ _ _ _ _ _ _ _ _ _ _ _)
   | (with_reducible exact impl_RibPut.mono _ _ _ _ _ _ _ _ _ _)
   | (with_reducible exact laws_eqHeldS.mono _ _ _)
   | (with_reducible exact laws_eqRibOut.mono _ _ _ _ _ _ _)
   | (with_reducible exact laws_heldRibOut.mono _ _ _ _ _)
   | (with_reducible exact laws_markHeldS.mono _ _ _)
   | (with_reducible exact laws_markRibOut.mono _ _ _ _ _)
   | (with_reducible exact laws_toHeldS.mono _ _)
   | (with_reducible exact spec_RibPut.mono _ _ _ _ _ _ _ _ _ _)
   | (with_reducible exact LeO.refl _)
   | (with_reducible exact LeO.none _)
   | (with_reducible refine LeO.ite ?_ ?_)
   | (with_reducible refine LeO.bind ?_ (fun _ => ?_))
   | exact ih0 _ _ _ _ _ _ _ _ _ _ _ _ _ _ _ _
   | exact impl_RibPut.mono _ _ _ _ _ _ _ _ _ _
   | exact laws_eqHeldS.mono _ _ _
   | exact laws_eqRibOut.mono _ _ _ _ _ _ _
   | exact laws_heldRibOut.mono _ _ _ _ _
   | exact laws_markHeldS.mono _ _ _
   | exact laws_markRibOut.mono _ _ _ _ _
   | exact laws_toHeldS.mono _ _
   | exact spec_RibPut.mono _ _ _ _ _ _ _ _ _ _
   | exact LeO.none _
   | refine LeO.ite ?_ ?_
   | refine LeO.bind ?_ (fun _ => ?_)
def laws_FnExactRibPut.T5 : Bool × List (List Nat × List Nat) := (true, [([], []), ([0], [0]), ([], []), ([], []), ([3, 1], [3]), ([1, 2, 4, 4], [1, 2, 4]), ([], []), ([6, 5, 5, 0, 1, 2, 3, 4, 5, 6], [5, 6])])
def laws_FnExactRibPut.B5 : List Nat := [0, 1, 0, 0, 11, 31, 0, 127]
theorem laws_FnExactRibPut.tab5 : rtab .any (opsOf Try.f7 5) = laws_FnExactRibPut.T5 := by kernel_rfl
theorem laws_FnExactRibPut.bits5 : waitsOk laws_FnExactRibPut.T5.2 laws_FnExactRibPut.B5 = true := by kernel_rfl
def laws_FnExactRibPut.T24 : Bool × List (List Nat × List Nat) := (true, [([], []), ([0], [0]), ([], []), ([], []), ([3, 1], [3]), ([1, 2, 4, 4], [1, 2, 4]), ([], []), ([6, 5, 5, 0, 1, 2, 3, 4, 5, 6], [5, 6])])
def laws_FnExactRibPut.B24 : List Nat := [0, 1, 0, 0, 11, 31, 0, 127]
theorem laws_FnExactRibPut.tab24 : rtab .any (opsOf Try.f7 24) = laws_FnExactRibPut.T24 := by kernel_rfl
theorem laws_FnExactRibPut.bits24 : waitsOk laws_FnExactRibPut.T24.2 laws_FnExactRibPut.B24 = true := by kernel_rfl
set_option maxHeartbeats 8000000 in
set_option maxRecDepth 100000 in
theorem laws_FnExactRibPut.calls_true (k : Nat) (A0 : Option Addr) (c0 : Nat) (l0 : List (S76)) (a1 : Int) (a2_0 : Int) (a2_1 : Int) (a2_2 : Int) (a2_3 : Int) (a2_4 : Int) (a2_5 : Int) (a2_6 : Bool) (w : World) (hr0 : Kd.C k76 w A0 l0.length l0) (hc0 : l0.length ≤ c0) (h : laws_FnExactRibPut.f k l0 a1 a2_0 a2_1 a2_2 a2_3 a2_4 a2_5 a2_6 = some true) :
  Calls Try.prog 7 #[.slice A0 l0.length c0, .int .i64 a1, .agg #[.int .i64 a2_0, .int .i64 a2_1, .int .i64 a2_2, .int .i64 a2_3, .int .i64 a2_4, .int .i64 a2_5, .bool a2_6]] w fun e w' => e = .returned (.bool true) ∧ Below w.heap.size w w' := by
 have hu40 := Try.underlying40
 have hu34 := Try.underlying34
 have HR0 := Aside0.mk hr0
 have HC0 := Aside0.mk hc0
 clear hr0 hc0
 have HB := Aside0.mk (Below.refl w.heap.size w)
 have H : ((laws_szHeldS.f l0 1048576).bind fun t369 => (if t369 < 0 then (some true) else ((laws_toHeldS.f k l0).bind fun t370 => ((laws_toRoute.f a2_0 a2_1 a2_2 a2_3 a2_4 a2_5 a2_6).bind fun bt373 => ((spec_RibPut.f k t370 a1 bt373.1 bt373.2.1 bt373.2.2.1 bt373.2.2.2.1 bt373.2.2.2.2.1 bt373.2.2.2.2.2.1 bt373.2.2.2.2.2.2).bind fun bt380 => ((laws_toHeldS.f k l0).bind fun t388 => ((laws_toRoute.f a2_0 a2_1 a2_2 a2_3 a2_4 a2_5 a2_6).bind fun bt391 => ((impl_RibPut.f k t388 a1 bt391.1 bt391.2.1 bt391.2.2.1 bt391.2.2.2.1 bt391.2.2.2.2.1 bt391.2.2.2.2.2.1 bt391.2.2.2.2.2.2).bind fun bt398 => ((laws_eqRibOut.f k bt398.1 bt398.2.1 bt398.2.2 bt380.1 bt380.2.1 bt380.2.2).bind fun t406 => (if t406 = true then ((laws_toHeldS.f k l0).bind fun t407 => ((laws_eqHeldS.f k t388 t407).bind fun t410 => (if t410 = true then ((laws_markHeldS.f k t388 1).bind fun bt411 => (if bt411.1 < 0 then (laws_FnExactRibPut.j0 k l0 a1 true a2_0 a2_1 a2_2 a2_3 a2_4 a2_5 a2_6 bt380.1 bt380.2.1 bt380.2.2 bt398.1 bt398.2.1 bt398.2.2) else ((laws_eqRibOut.f k bt398.1 bt398.2.1 bt398.2.2 bt380.1 bt380.2.1 bt380.2.2).bind fun t413 => (laws_FnExactRibPut.j0 k l0 a1 (!t413) a2_0 a2_1 a2_2 a2_3 a2_4 a2_5 a2_6 bt380.1 bt380.2.1 bt380.2.2 bt398.1 bt398.2.1 bt398.2.2)))) else (some false)))) else (some false))))))))))) = some true := h
 clear h
 replace H := Option.bind_eq_some_iff.mp H
 obtain ⟨t369, A40, H⟩ := H
 replace H : (if t369 < 0 then (some true) else ((laws_toHeldS.f k l0).bind fun t370 => ((laws_toRoute.f a2_0 a2_1 a2_2 a2_3 a2_4 a2_5 a2_6).bind fun bt373 => ((spec_RibPut.f k t370 a1 bt373.1 bt373.2.1 bt373.2.2.1 bt373.2.2.2.1 bt373.2.2.2.2.1 bt373.2.2.2.2.2.1 bt373.2.2.2.2.2.2).bind fun bt380 => ((laws_toHeldS.f k l0).bind fun t388 => ((laws_toRoute.f a2_0 a2_1 a2_2 a2_3 a2_4 a2_5 a2_6).bind fun bt391 => ((impl_RibPut.f k t388 a1 bt391.1 bt391.2.1 bt391.2.2.1 bt391.2.2.2.1 bt391.2.2.2.2.1 bt391.2.2.2.2.2.1 bt391.2.2.2.2.2.2).bind fun bt398 => ((laws_eqRibOut.f k bt398.1 bt398.2.1 bt398.2.2 bt380.1 bt380.2.1 bt380.2.2).bind fun t406 => (if t406 = true then ((laws_toHeldS.f k l0).bind fun t407 => ((laws_eqHeldS.f k t388 t407).bind fun t410 => (if t410 = true then ((laws_markHeldS.f k t388 1).bind fun bt411 => (if bt411.1 < 0 then (laws_FnExactRibPut.j0 k l0 a1 true a2_0 a2_1 a2_2 a2_3 a2_4 a2_5 a2_6 bt380.1 bt380.2.1 bt380.2.2 bt398.1 bt398.2.1 bt398.2.2) else ((laws_eqRibOut.f k bt398.1 bt398.2.1 bt398.2.2 bt380.1 bt380.2.1 bt380.2.2).bind fun t413 => (laws_FnExactRibPut.j0 k l0 a1 (!t413) a2_0 a2_1 a2_2 a2_3 a2_4 a2_5 a2_6 bt380.1 bt380.2.1 bt380.2.2 bt398.1 bt398.2.1 bt398.2.2)))) else (some false)))) else (some false)))))))))) = some true := H
 have A4 := Aside0.mk A40
 clear A40
 by_cases c5 : t369 < 0
 ·rw [if_pos c5] at H
  have c5b0 : decide (t369 < 0) = true := decide_eq_true c5
  clear c5
  clear H
  go_enter Try.func7, Try.ntmps7
  go_wp2_with (first | ((with_reducible refine Qw (N := 5) rfl ?_); refine Qu ?hg (N := 5) ?hd (cs := #[.int .i64 a2_0, .int .i64 a2_1, .int .i64 a2_2, .int .i64 a2_3, .int .i64 a2_4, .int .i64 a2_5, .bool a2_6]) (t := 40) ?hr ?_; (case hd => rfl); (case hg => rfl); (case hr => first | (go_simp; done) | (go_simp; rfl)); intro gb368 hg w6 hbox hb; have n0_ := Aside0.mk (Qn (by repeat (first | (with_reducible first | exact HB.out | apply Qg | apply Qb | apply Qe) | exact HB.out)) hb); have n1_ := Aside0.mk (hbox); have n2_ := Aside0.mk ((by rw [hg]; exact (Ql (by repeat (first | (with_reducible first | exact HB.out | apply Qg | apply Qb | apply Qe) | exact HB.out))) : w.heap.size ≤ gb368)); have n3_ := Aside0.mk ((by rw [hg]; exact (Ql (by repeat (first | (with_reducible first | exact HB.out | apply Qg | apply Qb | apply Qe) | exact HB.out))) : w.heap.size ≤ gb368)); clear HB; have HB := n0_; have BK368 := n1_; have GW368 := n2_; have GE368 := n3_; clear n0_ n1_ n2_ n3_; clear hb hbox hg) | ((with_reducible refine Qq (f := 13) rfl ?_); refine Qx (some 17) rfl rfl Try.func13 (by kernel_rfl) rfl #[.slice A0 l0.length c0, .int .i64 1048576] rfl (by (try simp only [List.map_toArray, List.map_cons, List.map_nil]); first | done | rfl | (simp only [List.length_drop, List.length_take]; rfl)) ?_; (with_reducible refine (laws_szHeldS.calls _ _ l0 1048576 t369 _ ?side1 ?side2 A4.out).mono ?_); (case side1 => repeat (first | exact (Kd.C_below HR0.out HB.out) | (with_reducible refine Kd.C_alloc ?_ _) | (with_reducible refine Kd.C_drewN ?_ _) | (with_reducible refine Kd.C_drew ?_))); (case side2 => exact HC0.out); rintro e w' ⟨rfl, ⟨nd, rfl⟩⟩; refine ⟨_, rfl, ?_⟩))
  go_ret
  exact ⟨by first | rfl | (simp [Qp, Qo] <;> rfl) | (simp [*, Qp, Qo] <;> rfl), by repeat (first | (with_reducible first | exact HB.out | apply Qg | apply Qb | apply Qe | refine Qc ?_ GE368.out) | exact HB.out)⟩
 ·rw [if_neg c5] at H
  have c5b0 : decide (t369 < 0) = false := decide_eq_false c5
  clear c5
  replace H := Option.bind_eq_some_iff.mp H
  obtain ⟨t370, A70, H⟩ := H
  replace H : ((laws_toRoute.f a2_0 a2_1 a2_2 a2_3 a2_4 a2_5 a2_6).bind fun bt373 => ((spec_RibPut.f k t370 a1 bt373.1 bt373.2.1 bt373.2.2.1 bt373.2.2.2.1 bt373.2.2.2.2.1 bt373.2.2.2.2.2.1 bt373.2.2.2.2.2.2).bind fun bt380 => ((laws_toHeldS.f k l0).bind fun t388 => ((laws_toRoute.f a2_0 a2_1 a2_2 a2_3 a2_4 a2_5 a2_6).bind fun bt391 => ((impl_RibPut.f k t388 a1 bt391.1 bt391.2.1 bt391.2.2.1 bt391.2.2.2.1 bt391.2.2.2.2.1 bt391.2.2.2.2.2.1 bt391.2.2.2.2.2.2).bind fun bt398 => ((laws_eqRibOut.f k bt398.1 bt398.2.1 bt398.2.2 bt380.1 bt380.2.1 bt380.2.2).bind fun t406 => (if t406 = true then ((laws_toHeldS.f k l0).bind fun t407 => ((laws_eqHeldS.f k t388 t407).bind fun t410 => (if t410 = true then ((laws_markHeldS.f k t388 1).bind fun bt411 => (if bt411.1 < 0 then (laws_FnExactRibPut.j0 k l0 a1 true a2_0 a2_1 a2_2 a2_3 a2_4 a2_5 a2_6 bt380.1 bt380.2.1 bt380.2.2 bt398.1 bt398.2.1 bt398.2.2) else ((laws_eqRibOut.f k bt398.1 bt398.2.1 bt398.2.2 bt380.1 bt380.2.1 bt380.2.2).bind fun t413 => (laws_FnExactRibPut.j0 k l0 a1 (!t413) a2_0 a2_1 a2_2 a2_3 a2_4 a2_5 a2_6 bt380.1 bt380.2.1 bt380.2.2 bt398.1 bt398.2.1 bt398.2.2)))) else (some false)))) else (some false)))))))) = some true := H
  have A7 := Aside0.mk A70
  clear A70
  replace H := Option.bind_eq_some_iff.mp H
  obtain ⟨⟨t373, t374, t375, t376, t377, t378, t379⟩, A80, H⟩ := H
  replace H : ((spec_RibPut.f k t370 a1 t373 t374 t375 t376 t377 t378 t379).bind fun bt380 => ((laws_toHeldS.f k l0).bind fun t388 => ((laws_toRoute.f a2_0 a2_1 a2_2 a2_3 a2_4 a2_5 a2_6).bind fun bt391 => ((impl_RibPut.f k t388 a1 bt391.1 bt391.2.1 bt391.2.2.1 bt391.2.2.2.1 bt391.2.2.2.2.1 bt391.2.2.2.2.2.1 bt391.2.2.2.2.2.2).bind fun bt398 => ((laws_eqRibOut.f k bt398.1 bt398.2.1 bt398.2.2 bt380.1 bt380.2.1 bt380.2.2).bind fun t406 => (if t406 = true then ((laws_toHeldS.f k l0).bind fun t407 => ((laws_eqHeldS.f k t388 t407).bind fun t410 => (if t410 = true then ((laws_markHeldS.f k t388 1).bind fun bt411 => (if bt411.1 < 0 then (laws_FnExactRibPut.j0 k l0 a1 true a2_0 a2_1 a2_2 a2_3 a2_4 a2_5 a2_6 bt380.1 bt380.2.1 bt380.2.2 bt398.1 bt398.2.1 bt398.2.2) else ((laws_eqRibOut.f k bt398.1 bt398.2.1 bt398.2.2 bt380.1 bt380.2.1 bt380.2.2).bind fun t413 => (laws_FnExactRibPut.j0 k l0 a1 (!t413) a2_0 a2_1 a2_2 a2_3 a2_4 a2_5 a2_6 bt380.1 bt380.2.1 bt380.2.2 bt398.1 bt398.2.1 bt398.2.2)))) else (some false)))) else (some false))))))) = some true := H
  have A8 := Aside0.mk A80
  clear A80
  replace H := Option.bind_eq_some_iff.mp H
  obtain ⟨⟨t380, t383, t386⟩, A90, H⟩ := H
  replace H : ((laws_toHeldS.f k l0).bind fun t388 => ((laws_toRoute.f a2_0 a2_1 a2_2 a2_3 a2_4 a2_5 a2_6).bind fun bt391 => ((impl_RibPut.f k t388 a1 bt391.1 bt391.2.1 bt391.2.2.1 bt391.2.2.2.1 bt391.2.2.2.2.1 bt391.2.2.2.2.2.1 bt391.2.2.2.2.2.2).bind fun bt398 => ((laws_eqRibOut.f k bt398.1 bt398.2.1 bt398.2.2 t380 t383 t386).bind fun t406 => (if t406 = true then ((laws_toHeldS.f k l0).bind fun t407 => ((laws_eqHeldS.f k t388 t407).bind fun t410 => (if t410 = true then ((laws_markHeldS.f k t388 1).bind fun bt411 => (if bt411.1 < 0 then (laws_FnExactRibPut.j0 k l0 a1 true a2_0 a2_1 a2_2 a2_3 a2_4 a2_5 a2_6 t380 t383 t386 bt398.1 bt398.2.1 bt398.2.2) else ((laws_eqRibOut.f k bt398.1 bt398.2.1 bt398.2.2 t380 t383 t386).bind fun t413 => (laws_FnExactRibPut.j0 k l0 a1 (!t413) a2_0 a2_1 a2_2 a2_3 a2_4 a2_5 a2_6 t380 t383 t386 bt398.1 bt398.2.1 bt398.2.2)))) else (some false)))) else (some false)))))) = some true := H
  have A9 := Aside0.mk A90
  clear A90
  replace H := Option.bind_eq_some_iff.mp H
  obtain ⟨t388, A100, H⟩ := H
  replace H : ((laws_toRoute.f a2_0 a2_1 a2_2 a2_3 a2_4 a2_5 a2_6).bind fun bt391 => ((impl_RibPut.f k t388 a1 bt391.1 bt391.2.1 bt391.2.2.1 bt391.2.2.2.1 bt391.2.2.2.2.1 bt391.2.2.2.2.2.1 bt391.2.2.2.2.2.2).bind fun bt398 => ((laws_eqRibOut.f k bt398.1 bt398.2.1 bt398.2.2 t380 t383 t386).bind fun t406 => (if t406 = true then ((laws_toHeldS.f k l0).bind fun t407 => ((laws_eqHeldS.f k t388 t407).bind fun t410 => (if t410 = true then ((laws_markHeldS.f k t388 1).bind fun bt411 => (if bt411.1 < 0 then (laws_FnExactRibPut.j0 k l0 a1 true a2_0 a2_1 a2_2 a2_3 a2_4 a2_5 a2_6 t380 t383 t386 bt398.1 bt398.2.1 bt398.2.2) else ((laws_eqRibOut.f k bt398.1 bt398.2.1 bt398.2.2 t380 t383 t386).bind fun t413 => (laws_FnExactRibPut.j0 k l0 a1 (!t413) a2_0 a2_1 a2_2 a2_3 a2_4 a2_5 a2_6 t380 t383 t386 bt398.1 bt398.2.1 bt398.2.2)))) else (some false)))) else (some false))))) = some true := H
  have A10 := Aside0.mk A100
  clear A100
  replace H := Option.bind_eq_some_iff.mp H
  obtain ⟨⟨t391, t392, t393, t394, t395, t396, t397⟩, A110, H⟩ := H
  replace H : ((impl_RibPut.f k t388 a1 t391 t392 t393 t394 t395 t396 t397).bind fun bt398 => ((laws_eqRibOut.f k bt398.1 bt398.2.1 bt398.2.2 t380 t383 t386).bind fun t406 => (if t406 = true then ((laws_toHeldS.f k l0).bind fun t407 => ((laws_eqHeldS.f k t388 t407).bind fun t410 => (if t410 = true then ((laws_markHeldS.f k t388 1).bind fun bt411 => (if bt411.1 < 0 then (laws_FnExactRibPut.j0 k l0 a1 true a2_0 a2_1 a2_2 a2_3 a2_4 a2_5 a2_6 t380 t383 t386 bt398.1 bt398.2.1 bt398.2.2) else ((laws_eqRibOut.f k bt398.1 bt398.2.1 bt398.2.2 t380 t383 t386).bind fun t413 => (laws_FnExactRibPut.j0 k l0 a1 (!t413) a2_0 a2_1 a2_2 a2_3 a2_4 a2_5 a2_6 t380 t383 t386 bt398.1 bt398.2.1 bt398.2.2)))) else (some false)))) else (some false)))) = some true := H
  have A11 := Aside0.mk A110
  clear A110
  replace H := Option.bind_eq_some_iff.mp H
  obtain ⟨⟨t398, t401, t404⟩, A120, H⟩ := H
  replace H : ((laws_eqRibOut.f k t398 t401 t404 t380 t383 t386).bind fun t406 => (if t406 = true then ((laws_toHeldS.f k l0).bind fun t407 => ((laws_eqHeldS.f k t388 t407).bind fun t410 => (if t410 = true then ((laws_markHeldS.f k t388 1).bind fun bt411 => (if bt411.1 < 0 then (laws_FnExactRibPut.j0 k l0 a1 true a2_0 a2_1 a2_2 a2_3 a2_4 a2_5 a2_6 t380 t383 t386 t398 t401 t404) else ((laws_eqRibOut.f k t398 t401 t404 t380 t383 t386).bind fun t413 => (laws_FnExactRibPut.j0 k l0 a1 (!t413) a2_0 a2_1 a2_2 a2_3 a2_4 a2_5 a2_6 t380 t383 t386 t398 t401 t404)))) else (some false)))) else (some false))) = some true := H
  have A12 := Aside0.mk A120
  clear A120
  replace H := Option.bind_eq_some_iff.mp H
  obtain ⟨t406, A130, H⟩ := H
  replace H : (if t406 = true then ((laws_toHeldS.f k l0).bind fun t407 => ((laws_eqHeldS.f k t388 t407).bind fun t410 => (if t410 = true then ((laws_markHeldS.f k t388 1).bind fun bt411 => (if bt411.1 < 0 then (laws_FnExactRibPut.j0 k l0 a1 true a2_0 a2_1 a2_2 a2_3 a2_4 a2_5 a2_6 t380 t383 t386 t398 t401 t404) else ((laws_eqRibOut.f k t398 t401 t404 t380 t383 t386).bind fun t413 => (laws_FnExactRibPut.j0 k l0 a1 (!t413) a2_0 a2_1 a2_2 a2_3 a2_4 a2_5 a2_6 t380 t383 t386 t398 t401 t404)))) else (some false)))) else (some false)) = some true := H
  have A13 := Aside0.mk A130
  clear A130
  by_cases c14 : t406 = true
  ·subst c14
   have H1 : ((laws_toHeldS.f k l0).bind fun t407 => ((laws_eqHeldS.f k t388 t407).bind fun t410 => (if t410 = true then ((laws_markHeldS.f k t388 1).bind fun bt411 => (if bt411.1 < 0 then (laws_FnExactRibPut.j0 k l0 a1 true a2_0 a2_1 a2_2 a2_3 a2_4 a2_5 a2_6 t380 t383 t386 t398 t401 t404) else ((laws_eqRibOut.f k t398 t401 t404 t380 t383 t386).bind fun t413 => (laws_FnExactRibPut.j0 k l0 a1 (!t413) a2_0 a2_1 a2_2 a2_3 a2_4 a2_5 a2_6 t380 t383 t386 t398 t401 t404)))) else (some false)))) = some true := by rw [if_pos rfl] at H; exact H
   clear H
   have H := H1
   clear H1
   replace H := Option.bind_eq_some_iff.mp H
   obtain ⟨t407, A150, H⟩ := H
   replace H : ((laws_eqHeldS.f k t388 t407).bind fun t410 => (if t410 = true then ((laws_markHeldS.f k t388 1).bind fun bt411 => (if bt411.1 < 0 then (laws_FnExactRibPut.j0 k l0 a1 true a2_0 a2_1 a2_2 a2_3 a2_4 a2_5 a2_6 t380 t383 t386 t398 t401 t404) else ((laws_eqRibOut.f k t398 t401 t404 t380 t383 t386).bind fun t413 => (laws_FnExactRibPut.j0 k l0 a1 (!t413) a2_0 a2_1 a2_2 a2_3 a2_4 a2_5 a2_6 t380 t383 t386 t398 t401 t404)))) else (some false))) = some true := H
   have A15 := Aside0.mk A150
   clear A150
   replace H := Option.bind_eq_some_iff.mp H
   obtain ⟨t410, A160, H⟩ := H
   replace H : (if t410 = true then ((laws_markHeldS.f k t388 1).bind fun bt411 => (if bt411.1 < 0 then (laws_FnExactRibPut.j0 k l0 a1 true a2_0 a2_1 a2_2 a2_3 a2_4 a2_5 a2_6 t380 t383 t386 t398 t401 t404) else ((laws_eqRibOut.f k t398 t401 t404 t380 t383 t386).bind fun t413 => (laws_FnExactRibPut.j0 k l0 a1 (!t413) a2_0 a2_1 a2_2 a2_3 a2_4 a2_5 a2_6 t380 t383 t386 t398 t401 t404)))) else (some false)) = some true := H
   have A16 := Aside0.mk A160
   clear A160
   by_cases c17 : t410 = true
   ·subst c17
    have H1 : ((laws_markHeldS.f k t388 1).bind fun bt411 => (if bt411.1 < 0 then (laws_FnExactRibPut.j0 k l0 a1 true a2_0 a2_1 a2_2 a2_3 a2_4 a2_5 a2_6 t380 t383 t386 t398 t401 t404) else ((laws_eqRibOut.f k t398 t401 t404 t380 t383 t386).bind fun t413 => (laws_FnExactRibPut.j0 k l0 a1 (!t413) a2_0 a2_1 a2_2 a2_3 a2_4 a2_5 a2_6 t380 t383 t386 t398 t401 t404)))) = some true := by rw [if_pos rfl] at H; exact H
    clear H
    have H := H1
    clear H1
    replace H := Option.bind_eq_some_iff.mp H
    obtain ⟨⟨t411, t412⟩, A180, H⟩ := H
    replace H : (if t411 < 0 then (laws_FnExactRibPut.j0 k l0 a1 true a2_0 a2_1 a2_2 a2_3 a2_4 a2_5 a2_6 t380 t383 t386 t398 t401 t404) else ((laws_eqRibOut.f k t398 t401 t404 t380 t383 t386).bind fun t413 => (laws_FnExactRibPut.j0 k l0 a1 (!t413) a2_0 a2_1 a2_2 a2_3 a2_4 a2_5 a2_6 t380 t383 t386 t398 t401 t404))) = some true := H
    have A18 := Aside0.mk A180
    clear A180
    have HC19 := Aside0.mk H
    clear H
    go_enter Try.func7, Try.ntmps7
    try go_wp2_with (first | ((with_reducible refine Qw (N := 5) rfl ?_); refine Qu ?hg (N := 5) ?hd (cs := #[.int .i64 a2_0, .int .i64 a2_1, .int .i64 a2_2, .int .i64 a2_3, .int .i64 a2_4, .int .i64 a2_5, .bool a2_6]) (t := 40) ?hr ?_; (case hd => rfl); (case hg => rfl); (case hr => first | (go_simp; done) | (go_simp; rfl)); intro gb368 hg w20 hbox hb; have n0_ := Aside0.mk (Qn (by repeat (first | (with_reducible first | exact HB.out | apply Qg | apply Qb | apply Qe) | exact HB.out)) hb); have n1_ := Aside0.mk (hbox); have n2_ := Aside0.mk ((by rw [hg]; exact (Ql (by repeat (first | (with_reducible first | exact HB.out | apply Qg | apply Qb | apply Qe) | exact HB.out))) : w.heap.size ≤ gb368)); have n3_ := Aside0.mk ((by rw [hg]; exact (Ql (by repeat (first | (with_reducible first | exact HB.out | apply Qg | apply Qb | apply Qe) | exact HB.out))) : w.heap.size ≤ gb368)); clear HB; have HB := n0_; have BK368 := n1_; have GW368 := n2_; have GE368 := n3_; clear n0_ n1_ n2_ n3_; clear hb hbox hg) | ((with_reducible refine Qq (f := 13) rfl ?_); refine Qx (some 17) rfl rfl Try.func13 (by kernel_rfl) rfl #[.slice A0 l0.length c0, .int .i64 1048576] rfl (by (try simp only [List.map_toArray, List.map_cons, List.map_nil]); first | done | rfl | (simp only [List.length_drop, List.length_take]; rfl)) ?_; (with_reducible refine (laws_szHeldS.calls _ _ l0 1048576 t369 _ ?side1 ?side2 A4.out).mono ?_); (case side1 => repeat (first | exact (Kd.C_below HR0.out HB.out) | (with_reducible refine Kd.C_alloc ?_ _) | (with_reducible refine Kd.C_drewN ?_ _) | (with_reducible refine Kd.C_drew ?_))); (case side2 => exact HC0.out); rintro e w' ⟨rfl, ⟨nd, rfl⟩⟩; refine ⟨_, rfl, ?_⟩; (try (rw [drewN_self w20]; generalize hq_ : World.drewN w20 _ = w20; have n0_ : Aside0 (w20.heap[gb368]? = some (.cells #[.int .i64 a2_0, .int .i64 a2_1, .int .i64 a2_2, .int .i64 a2_3, .int .i64 a2_4, .int .i64 a2_5, .bool a2_6] 40 (0, 0))) := ⟨by rw [← hq_]; exact (by (with_reducible repeat (first | refine Qi ?_ _ | refine Qj ?_ | refine Qh ?_ _)); exact BK368.out)⟩; have n1_ : Aside0 (Below w.heap.size w w20) := ⟨by rw [← hq_]; exact (by repeat (first | (with_reducible first | exact HB.out | apply Qg | apply Qb | apply Qe | refine Qc ?_ GE368.out) | exact HB.out))⟩; clear BK368 HB hq_; have BK368 := n0_; have HB := n1_; clear n0_ n1_))))
    have n0_ := Aside0.mk (Qj BK368.out)
    have n1_ := Aside0.mk (Qe HB.out)
    clear BK368
    clear HB
    have BK368 := n0_
    have HB := n1_
    clear n0_ n1_
    refine start_ (n := 8) (S := fun w' => w'.cell? ⟨gb368, 0, none⟩ = some (.int .i64 a2_0) ∧ w'.cell? ⟨gb368, 1, none⟩ = some (.int .i64 a2_1) ∧ w'.cell? ⟨gb368, 2, none⟩ = some (.int .i64 a2_2) ∧ w'.cell? ⟨gb368, 3, none⟩ = some (.int .i64 a2_3) ∧ w'.cell? ⟨gb368, 4, none⟩ = some (.int .i64 a2_4) ∧ w'.cell? ⟨gb368, 5, none⟩ = some (.int .i64 a2_5) ∧ w'.cell? ⟨gb368, 6, none⟩ = some (.bool a2_6)) (ds := []) #[false, false, false, false, false, false, false, false] (by kernel_rfl) rfl rfl ⟨(Qa BK368.out 0).trans rfl, (Qa BK368.out 1).trans rfl, (Qa BK368.out 2).trans rfl, (Qa BK368.out 3).trans rfl, (Qa BK368.out 4).trans rfl, (Qa BK368.out 5).trans rfl, (Qa BK368.out 6).trans rfl⟩ (fun hHeld => ?_); refine with_tabW laws_FnExactRibPut.tab5 laws_FnExactRibPut.bits5 (fun HT_ HW_ => ?_)
    generalize w20.drew = w21 at BK368 HB hHeld ⊢
    refine Qy (i := 0) (N := some 20) (v := ?_) (a' := ?_) #[true, false, false, false, false, false, false, false] rfl rfl (Qv HT_.out (by kernel_rfl)) (fun _ _ _ h => h) (Or.inl ⟨by rfl, ?_⟩) ?_ ?_
    rotate_left
    ·intro w'
     go_simp
     with_reducible rfl
    rotate_left
    ·simp only [Act.put, List.setIfInBounds_toArray, List.set_cons_zero, List.set_cons_succ, Qr, Qt]
     rfl
    refine Qy (i := 2) (N := some 22) (v := ?_) (a' := ?_) #[true, false, true, false, false, false, false, false] rfl rfl (Qv HT_.out (by kernel_rfl)) (fun _ _ _ h => h) (Or.inl ⟨by rfl, ?_⟩) ?_ ?_
    rotate_left
    ·intro w'
     go_simp
     with_reducible rfl
    rotate_left
    ·simp only [Act.put, List.setIfInBounds_toArray, List.set_cons_zero, List.set_cons_succ, Qr, Qt]
     rfl
    refine take_ (i := 3) (N := some 23) (v := ?_) (a' := ?_) #[true, false, true, true, false, false, false, false] rfl rfl (Q5 HT_.out HW_.out (by kernel_rfl)) (fun _ _ _ h => h) (Or.inl ⟨by rfl, ?_⟩) hHeld ?_ ?_
    rotate_left
    ·rintro w' ⟨s0, s1, s2, s3, s4, s5, s6⟩
     go_simp
     with_reducible rfl
    rotate_left
    ·simp only [Act.put, List.setIfInBounds_toArray, List.set_cons_zero, List.set_cons_succ, Qr, Qt]
     rfl
    refine join_ (σ := Value × Value × Value × Nat) 1 #[true, true, true, true, true, true, true, false] (fun s_ => [(21, s_.1), (24, .agg #[.int .i64 t373, .int .i64 t374, .int .i64 t375, .int .i64 t376, .int .i64 t377, .int .i64 t378, .bool t379]), (25, .agg #[s_.2.1, s_.2.2.1, .int .i64 t386]), (8, .pointer (some ⟨s_.2.2.2, 0, none⟩))]) (fun s_ w' => (w'.cell? ⟨gb368, 0, none⟩ = some (.int .i64 a2_0) ∧ w'.cell? ⟨gb368, 1, none⟩ = some (.int .i64 a2_1) ∧ w'.cell? ⟨gb368, 2, none⟩ = some (.int .i64 a2_2) ∧ w'.cell? ⟨gb368, 3, none⟩ = some (.int .i64 a2_3) ∧ w'.cell? ⟨gb368, 4, none⟩ = some (.int .i64 a2_4) ∧ w'.cell? ⟨gb368, 5, none⟩ = some (.int .i64 a2_5) ∧ w'.cell? ⟨gb368, 6, none⟩ = some (.bool a2_6)) ∧ (Kd.R k73 73 w' w.heap.size (fun k_ => some k_ ≠ (s_.2.1 : Value).ownBlock) s_.1 t370) ∧ (Kd.R k73 73 w' w.heap.size (fun k_ => some k_ ≠ (s_.1 : Value).ownBlock) s_.2.1 t380) ∧ (Kd.R k42 42 w' w.heap.size (fun _ => True) s_.2.2.1 t383) ∧ (w'.heap[gb368]? = some (.cells #[.int .i64 a2_0, .int .i64 a2_1, .int .i64 a2_2, .int .i64 a2_3, .int .i64 a2_4, .int .i64 a2_5, .bool a2_6] 40 (0, 0))) ∧ (w'.heap[s_.2.2.2]? = some (.cells #[.slice none 0 0, .slice none 0 0, .int .i64 0] 34 (0, 0))) ∧ (w.heap.size ≤ s_.2.2.2) ∧ (w.heap.size ≤ s_.2.2.2) ∧ (gb368 ≠ s_.2.2.2) ∧ (s_.2.2.2 ≠ gb368) ∧ (Below w.heap.size w w')) ?_ ?_
    rotate_left
    ·intro hCont
     refine two_ (i := 1) (j := 6) (Ni := some 21) (Nj := some 8) #[true, true, true, true, false, false, false, false] #[true, false, true, true, false, false, true, false] rfl rfl rfl rfl (two_of HT_.out (by kernel_rfl)) (by decide) (by decide) (fun K hK => ?_) (fun K hK => ?_)
     ·skip
      refine goes_ Try.func15 (by kernel_rfl) rfl #[.slice A0 l0.length c0] (by rfl) rfl rfl (by (try simp only [List.map_toArray, List.map_cons, List.map_nil]); first | done | rfl | (simp only [List.length_drop, List.length_take]; rfl)) ?_
      with_reducible refine (laws_toHeldS.calls k _ _ l0 t370 _ ?side1 ?side2 A7.out).mono ?_
      (case side1 => repeat (first | exact (Kd.C_below HR0.out HB.out) | (with_reducible refine Kd.C_alloc ?_ _) | (with_reducible refine Kd.C_drewN ?_ _) | (with_reducible refine Kd.C_drew ?_)))
      (case side2 => exact HC0.out)
      rintro e w22 ⟨v371, rfl, ho0, hb⟩
      refine ⟨_, rfl, ?_⟩
      have n0_ := Aside0.mk (Kd.R_lower ho0 (Ql (by repeat (first | (with_reducible first | exact HB.out | apply Qg | apply Qb | apply Qe | refine Qc ?_ GE368.out) | exact HB.out))))
      have n1_ := Aside0.mk (Qm (g := gb368) (o := .cells #[.int .i64 a2_0, .int .i64 a2_1, .int .i64 a2_2, .int .i64 a2_3, .int .i64 a2_4, .int .i64 a2_5, .bool a2_6] 40 (0, 0)) (by (with_reducible repeat (first | refine Qi ?_ _ | refine Qj ?_ | refine Qh ?_ _)); exact BK368.out) hb)
      have n2_ := Aside0.mk (Qn (by repeat (first | (with_reducible first | exact HB.out | apply Qg | apply Qb | apply Qe | refine Qc ?_ GE368.out) | exact HB.out)) hb)
      clear BK368
      clear HB
      have HO372 := n0_
      have BK368 := n1_
      have HB := n2_
      clear n0_ n1_ n2_
      (try clear hb)
      (try clear hb2)
      (try clear hk)
      (try clear hi)
      (try clear ho0)
      refine hK.out _ _ ⟨(Qa BK368.out 0).trans rfl, (Qa BK368.out 1).trans rfl, (Qa BK368.out 2).trans rfl, (Qa BK368.out 3).trans rfl, (Qa BK368.out 4).trans rfl, (Qa BK368.out 5).trans rfl, (Qa BK368.out 6).trans rfl⟩ (fun hHeld => ?_)
      clear hK K
      refine Q4 (a' := ?_) ?_ ?_
      rotate_left
      ·show Act.put _ (some 21) _ = _
       simp only [Act.put, List.setIfInBounds_toArray, List.set_cons_zero, List.set_cons_succ, Qr, Qt]
       rfl
      refine two_ (i := 4) (j := 6) (Ni := some 24) (Nj := some 8) #[true, true, true, true, true, false, false, false] #[true, true, true, true, false, false, true, false] rfl rfl rfl rfl (two_of HT_.out (by kernel_rfl)) (by decide) (by decide) (fun K hK => ?_) (fun K hK => ?_)
      ·skip
       refine goes_ Try.func30 (by kernel_rfl) rfl #[.agg #[.int .i64 a2_0, .int .i64 a2_1, .int .i64 a2_2, .int .i64 a2_3, .int .i64 a2_4, .int .i64 a2_5, .bool a2_6]] (by rfl) rfl rfl (by (try simp only [List.map_toArray, List.map_cons, List.map_nil]); first | done | rfl | (simp only [List.length_drop, List.length_take]; rfl)) ?_
       with_reducible refine (laws_toRoute.calls a2_0 a2_1 a2_2 a2_3 a2_4 a2_5 a2_6 t373 t374 t375 t376 t377 t378 t379 _ A8.out).mono ?_
       rintro e w23 ⟨rfl, hb⟩
       refine ⟨_, rfl, ?_⟩
       have n0_ := Aside0.mk (Kd.R_below (by (with_reducible repeat (first | apply Kd.R_alloc | apply Kd.R_drewN | apply Kd.R_drew)); exact HO372.out) hb)
       have n1_ := Aside0.mk (Qm (g := gb368) (o := .cells #[.int .i64 a2_0, .int .i64 a2_1, .int .i64 a2_2, .int .i64 a2_3, .int .i64 a2_4, .int .i64 a2_5, .bool a2_6] 40 (0, 0)) (by (with_reducible repeat (first | refine Qi ?_ _ | refine Qj ?_ | refine Qh ?_ _)); exact BK368.out) hb)
       have n2_ := Aside0.mk (Qn (by repeat (first | (with_reducible first | exact HB.out | apply Qg | apply Qb | apply Qe | refine Qc ?_ GE368.out) | exact HB.out)) hb)
       clear HO372
       clear BK368
       clear HB
       have HO372 := n0_
       have BK368 := n1_
       have HB := n2_
       clear n0_ n1_ n2_
       (try clear hb)
       (try clear hb2)
       (try clear hk)
       (try clear hi)
       obtain ⟨Ao24, co24, eo24⟩ := Kd.R_slice HO372.out
       (first | subst eo24 | (injection eo24 with f1_ f2_ f3_; have f4_ := f1_.symm; have f5_ := f3_.symm; clear f1_ f2_ f3_; subst f4_; subst f5_))
       refine hK.out _ _ ⟨(Qa BK368.out 0).trans rfl, (Qa BK368.out 1).trans rfl, (Qa BK368.out 2).trans rfl, (Qa BK368.out 3).trans rfl, (Qa BK368.out 4).trans rfl, (Qa BK368.out 5).trans rfl, (Qa BK368.out 6).trans rfl⟩ (fun hHeld => ?_)
       clear hK K
       refine Q4 (a' := ?_) ?_ ?_
       rotate_left
       ·show Act.put _ (some 24) _ = _
        simp only [Act.put, List.setIfInBounds_toArray, List.set_cons_zero, List.set_cons_succ, Qr, Qt]
        rfl
       refine two_ (i := 5) (j := 6) (Ni := some 25) (Nj := some 8) #[true, true, true, true, true, true, false, false] #[true, true, true, true, true, false, true, false] rfl rfl rfl rfl (two_of HT_.out (by kernel_rfl)) (by decide) (by decide) (fun K hK => ?_) (fun K hK => ?_)
       ·skip
        refine goes_ Try.func32 (by kernel_rfl) rfl #[.slice Ao24 t370.length co24, .int .i64 a1, .agg #[.int .i64 t373, .int .i64 t374, .int .i64 t375, .int .i64 t376, .int .i64 t377, .int .i64 t378, .bool t379]] (by rfl) rfl rfl (by (try simp only [List.map_toArray, List.map_cons, List.map_nil]); first | done | rfl | (simp only [List.length_drop, List.length_take]; rfl)) ?_
        with_reducible refine (spec_RibPut.calls k _ _ t370 a1 t373 t374 t375 t376 t377 t378 t379 t380 t383 t386 _ ?side1 ?side2 A9.out).mono ?_
        (case side1 => repeat (first | exact (Kd.R_reads' HO372.out).2.2 | (with_reducible refine Kd.C_alloc ?_ _) | (with_reducible refine Kd.C_drewN ?_ _) | (with_reducible refine Kd.C_drew ?_)))
        (case side2 => exact (Kd.R_reads' HO372.out).2.1)
        rintro e w25 ⟨v381, v384, rfl, ho0, ho1, hb⟩
        refine ⟨_, rfl, ?_⟩
        have n0_ := Aside0.mk (Kd.R_elder' (by (with_reducible repeat (first | apply Kd.R_alloc | apply Kd.R_drewN | apply Kd.R_drew)); exact HO372.out) (Kd.R_base ho0) hb)
        have n1_ := Aside0.mk (Kd.R_lower (Kd.R_new' ho0 (Kd.R_lt (by (with_reducible repeat (first | apply Kd.R_alloc | apply Kd.R_drewN | apply Kd.R_drew)); exact HO372.out))) (Ql (by repeat (first | (with_reducible first | exact HB.out | apply Qg | apply Qb | apply Qe | refine Qc ?_ GE368.out) | exact HB.out))))
        have n2_ := Aside0.mk (Kd.R_lower ho1 (Ql (by repeat (first | (with_reducible first | exact HB.out | apply Qg | apply Qb | apply Qe | refine Qc ?_ GE368.out) | exact HB.out))))
        have n3_ := Aside0.mk (Qm (g := gb368) (o := .cells #[.int .i64 a2_0, .int .i64 a2_1, .int .i64 a2_2, .int .i64 a2_3, .int .i64 a2_4, .int .i64 a2_5, .bool a2_6] 40 (0, 0)) (by (with_reducible repeat (first | refine Qi ?_ _ | refine Qj ?_ | refine Qh ?_ _)); exact BK368.out) hb)
        have n4_ := Aside0.mk (Qn (by repeat (first | (with_reducible first | exact HB.out | apply Qg | apply Qb | apply Qe | refine Qc ?_ GE368.out) | exact HB.out)) hb)
        clear HO372
        clear BK368
        clear HB
        have HO372 := n0_
        have HO382 := n1_
        have HO385 := n2_
        have BK368 := n3_
        have HB := n4_
        clear n0_ n1_ n2_ n3_ n4_
        (try clear hb)
        (try clear hb2)
        (try clear hk)
        (try clear hi)
        (try clear ho0)
        (try clear ho1)
        refine hK.out _ _ ⟨(Qa BK368.out 0).trans rfl, (Qa BK368.out 1).trans rfl, (Qa BK368.out 2).trans rfl, (Qa BK368.out 3).trans rfl, (Qa BK368.out 4).trans rfl, (Qa BK368.out 5).trans rfl, (Qa BK368.out 6).trans rfl⟩ (fun hHeld => ?_)
        clear hK K
        refine Q4 (a' := ?_) ?_ ?_
        rotate_left
        ·show Act.put _ (some 25) _ = _
         simp only [Act.put, List.setIfInBounds_toArray, List.set_cons_zero, List.set_cons_succ, Qr, Qt]
         rfl
        refine one_ (i := 6) (N := some 8) #[true, true, true, true, true, true, true, false] rfl rfl (Q6 HT_.out (by kernel_rfl)) (by decide) (fun K hK => ?_)
        refine box_step ?hg (N := 8) ?hd (cs := #[.slice none 0 0, .slice none 0 0, .int .i64 0]) (t := 34) ?hr ?_; (case hd => rfl); (case hg => rfl); (case hr => first | (go_simp; done) | (go_simp; rfl))
        intro gb387 hg w26 hbox hb
        have n0_ := Aside0.mk (Kd.R_below (by (with_reducible repeat (first | apply Kd.R_alloc | apply Kd.R_drewN | apply Kd.R_drew)); exact HO372.out) hb)
        have n1_ := Aside0.mk (Kd.R_below (by (with_reducible repeat (first | apply Kd.R_alloc | apply Kd.R_drewN | apply Kd.R_drew)); exact HO382.out) hb)
        have n2_ := Aside0.mk (Kd.R_below (by (with_reducible repeat (first | apply Kd.R_alloc | apply Kd.R_drewN | apply Kd.R_drew)); exact HO385.out) hb)
        have n3_ := Aside0.mk (Qm (g := gb368) (o := .cells #[.int .i64 a2_0, .int .i64 a2_1, .int .i64 a2_2, .int .i64 a2_3, .int .i64 a2_4, .int .i64 a2_5, .bool a2_6] 40 (0, 0)) (by (with_reducible repeat (first | refine Qi ?_ _ | refine Qj ?_ | refine Qh ?_ _)); exact BK368.out) hb)
        have n4_ := Aside0.mk (Qn (by repeat (first | (with_reducible first | exact HB.out | apply Qg | apply Qb | apply Qe | refine Qc ?_ GE368.out) | exact HB.out)) hb)
        have n5_ := Aside0.mk (hbox)
        have n6_ := Aside0.mk ((by rw [hg]; exact (Ql (by repeat (first | (with_reducible first | exact HB.out | apply Qg | apply Qb | apply Qe | refine Qc ?_ GE368.out) | exact HB.out))) : w.heap.size ≤ gb387))
        have n7_ := Aside0.mk ((by rw [hg]; exact (Ql (by repeat (first | (with_reducible first | exact HB.out | apply Qg | apply Qb | apply Qe | refine Qc ?_ GE368.out) | exact HB.out))) : w.heap.size ≤ gb387))
        have n8_ := Aside0.mk ((by rw [hg]; exact Nat.ne_of_lt (Qs (g := gb368) (o := .cells #[.int .i64 a2_0, .int .i64 a2_1, .int .i64 a2_2, .int .i64 a2_3, .int .i64 a2_4, .int .i64 a2_5, .bool a2_6] 40 (0, 0)) (by (with_reducible repeat (first | refine Qi ?_ _ | refine Qj ?_ | refine Qh ?_ _)); exact BK368.out)) : gb368 ≠ gb387))
        have n9_ := Aside0.mk ((by rw [hg]; exact Nat.ne_of_gt (Qs (g := gb368) (o := .cells #[.int .i64 a2_0, .int .i64 a2_1, .int .i64 a2_2, .int .i64 a2_3, .int .i64 a2_4, .int .i64 a2_5, .bool a2_6] 40 (0, 0)) (by (with_reducible repeat (first | refine Qi ?_ _ | refine Qj ?_ | refine Qh ?_ _)); exact BK368.out)) : gb387 ≠ gb368))
        clear HO372
        clear HO382
        clear HO385
        clear BK368
        clear HB
        have HO372 := n0_
        have HO382 := n1_
        have HO385 := n2_
        have BK368 := n3_
        have HB := n4_
        have BK387 := n5_
        have GW387 := n6_
        have GE387 := n7_
        have NB368_387 := n8_
        have NB387_368 := n9_
        clear n0_ n1_ n2_ n3_ n4_ n5_ n6_ n7_ n8_ n9_
        clear hb hbox hg
        refine hK.out _ _ ⟨(Qa BK368.out 0).trans rfl, (Qa BK368.out 1).trans rfl, (Qa BK368.out 2).trans rfl, (Qa BK368.out 3).trans rfl, (Qa BK368.out 4).trans rfl, (Qa BK368.out 5).trans rfl, (Qa BK368.out 6).trans rfl⟩ (fun hHeld => ?_)
        clear hK K
        refine Q4 (a' := ?_) ?_ ?_
        rotate_left
        ·show Act.put _ (some 8) _ = _
         simp only [Act.put, List.setIfInBounds_toArray, List.set_cons_zero, List.set_cons_succ, Qr, Qt]
         rfl
        exact Q4 (by simp only [putAll, Act.put, List.setIfInBounds_toArray, List.set_cons_zero, List.set_cons_succ]) (hCont (.slice Ao24 t370.length co24, v381, v384, gb387) _ ⟨hHeld, (by (with_reducible repeat (first | apply Kd.R_alloc | apply Kd.R_drewN | apply Kd.R_drew)); exact Kd.R_mono HO372.out (fun _ hk => hk.2)), (by (with_reducible repeat (first | apply Kd.R_alloc | apply Kd.R_drewN | apply Kd.R_drew)); exact Kd.R_mono HO382.out (fun _ hk => hk.2)), (by (with_reducible repeat (first | apply Kd.R_alloc | apply Kd.R_drewN | apply Kd.R_drew)); exact HO385.out), (by (with_reducible repeat (first | refine Qi ?_ _ | refine Qj ?_ | refine Qh ?_ _)); exact BK368.out), (by (with_reducible repeat (first | refine Qi ?_ _ | refine Qj ?_ | refine Qh ?_ _)); exact BK387.out), GW387.out, GE387.out, NB368_387.out, NB387_368.out, (by repeat (first | (with_reducible first | exact HB.out | apply Qg | apply Qb | apply Qe | refine Qc ?_ GE368.out | refine Qc ?_ GE387.out) | exact HB.out))⟩)
       ·skip
        refine box_step ?hg (N := 8) ?hd (cs := #[.slice none 0 0, .slice none 0 0, .int .i64 0]) (t := 34) ?hr ?_; (case hd => rfl); (case hg => rfl); (case hr => first | (go_simp; done) | (go_simp; rfl))
        intro gb387 hg w24 hbox hb
        have n0_ := Aside0.mk (Kd.R_below (by (with_reducible repeat (first | apply Kd.R_alloc | apply Kd.R_drewN | apply Kd.R_drew)); exact HO372.out) hb)
        have n1_ := Aside0.mk (Qm (g := gb368) (o := .cells #[.int .i64 a2_0, .int .i64 a2_1, .int .i64 a2_2, .int .i64 a2_3, .int .i64 a2_4, .int .i64 a2_5, .bool a2_6] 40 (0, 0)) (by (with_reducible repeat (first | refine Qi ?_ _ | refine Qj ?_ | refine Qh ?_ _)); exact BK368.out) hb)
        have n2_ := Aside0.mk (Qn (by repeat (first | (with_reducible first | exact HB.out | apply Qg | apply Qb | apply Qe | refine Qc ?_ GE368.out) | exact HB.out)) hb)
        have n3_ := Aside0.mk (hbox)
        have n4_ := Aside0.mk ((by rw [hg]; exact (Ql (by repeat (first | (with_reducible first | exact HB.out | apply Qg | apply Qb | apply Qe | refine Qc ?_ GE368.out) | exact HB.out))) : w.heap.size ≤ gb387))
        have n5_ := Aside0.mk ((by rw [hg]; exact (Ql (by repeat (first | (with_reducible first | exact HB.out | apply Qg | apply Qb | apply Qe | refine Qc ?_ GE368.out) | exact HB.out))) : w.heap.size ≤ gb387))
        have n6_ := Aside0.mk ((by rw [hg]; exact Nat.ne_of_lt (Qs (g := gb368) (o := .cells #[.int .i64 a2_0, .int .i64 a2_1, .int .i64 a2_2, .int .i64 a2_3, .int .i64 a2_4, .int .i64 a2_5, .bool a2_6] 40 (0, 0)) (by (with_reducible repeat (first | refine Qi ?_ _ | refine Qj ?_ | refine Qh ?_ _)); exact BK368.out)) : gb368 ≠ gb387))
        have n7_ := Aside0.mk ((by rw [hg]; exact Nat.ne_of_gt (Qs (g := gb368) (o := .cells #[.int .i64 a2_0, .int .i64 a2_1, .int .i64 a2_2, .int .i64 a2_3, .int .i64 a2_4, .int .i64 a2_5, .bool a2_6] 40 (0, 0)) (by (with_reducible repeat (first | refine Qi ?_ _ | refine Qj ?_ | refine Qh ?_ _)); exact BK368.out)) : gb387 ≠ gb368))
        clear HO372
        clear BK368
        clear HB
        have HO372 := n0_
        have BK368 := n1_
        have HB := n2_
        have BK387 := n3_
        have GW387 := n4_
        have GE387 := n5_
        have NB368_387 := n6_
        have NB387_368 := n7_
        clear n0_ n1_ n2_ n3_ n4_ n5_ n6_ n7_
        clear hb hbox hg
        obtain ⟨Ao25, co25, eo25⟩ := Kd.R_slice HO372.out
        (first | subst eo25 | (injection eo25 with f1_ f2_ f3_; have f4_ := f1_.symm; have f5_ := f3_.symm; clear f1_ f2_ f3_; subst f4_; subst f5_))
        refine hK.out _ _ ⟨(Qa BK368.out 0).trans rfl, (Qa BK368.out 1).trans rfl, (Qa BK368.out 2).trans rfl, (Qa BK368.out 3).trans rfl, (Qa BK368.out 4).trans rfl, (Qa BK368.out 5).trans rfl, (Qa BK368.out 6).trans rfl⟩ (fun hHeld => ?_)
        clear hK K
        refine Q4 (a' := ?_) ?_ ?_
        rotate_left
        ·show Act.put _ (some 8) _ = _
         simp only [Act.put, List.setIfInBounds_toArray, List.set_cons_zero, List.set_cons_succ, Qr, Qt]
         rfl
        refine one_ (i := 5) (N := some 25) #[true, true, true, true, true, true, true, false] rfl rfl (Q6 HT_.out (by kernel_rfl)) (by decide) (fun K hK => ?_)
        refine goes_ Try.func32 (by kernel_rfl) rfl #[.slice Ao25 t370.length co25, .int .i64 a1, .agg #[.int .i64 t373, .int .i64 t374, .int .i64 t375, .int .i64 t376, .int .i64 t377, .int .i64 t378, .bool t379]] (by rfl) rfl rfl (by (try simp only [List.map_toArray, List.map_cons, List.map_nil]); first | done | rfl | (simp only [List.length_drop, List.length_take]; rfl)) ?_
        with_reducible refine (spec_RibPut.calls k _ _ t370 a1 t373 t374 t375 t376 t377 t378 t379 t380 t383 t386 _ ?side1 ?side2 A9.out).mono ?_
        (case side1 => repeat (first | exact (Kd.R_reads' HO372.out).2.2 | (with_reducible refine Kd.C_alloc ?_ _) | (with_reducible refine Kd.C_drewN ?_ _) | (with_reducible refine Kd.C_drew ?_)))
        (case side2 => exact (Kd.R_reads' HO372.out).2.1)
        rintro e w26 ⟨v381, v384, rfl, ho0, ho1, hb⟩
        refine ⟨_, rfl, ?_⟩
        have n0_ := Aside0.mk (Kd.R_elder' (by (with_reducible repeat (first | apply Kd.R_alloc | apply Kd.R_drewN | apply Kd.R_drew)); exact HO372.out) (Kd.R_base ho0) hb)
        have n1_ := Aside0.mk (Kd.R_lower (Kd.R_new' ho0 (Kd.R_lt (by (with_reducible repeat (first | apply Kd.R_alloc | apply Kd.R_drewN | apply Kd.R_drew)); exact HO372.out))) (Ql (by repeat (first | (with_reducible first | exact HB.out | apply Qg | apply Qb | apply Qe | refine Qc ?_ GE368.out | refine Qc ?_ GE387.out) | exact HB.out))))
        have n2_ := Aside0.mk (Kd.R_lower ho1 (Ql (by repeat (first | (with_reducible first | exact HB.out | apply Qg | apply Qb | apply Qe | refine Qc ?_ GE368.out | refine Qc ?_ GE387.out) | exact HB.out))))
        have n3_ := Aside0.mk (Qm (g := gb368) (o := .cells #[.int .i64 a2_0, .int .i64 a2_1, .int .i64 a2_2, .int .i64 a2_3, .int .i64 a2_4, .int .i64 a2_5, .bool a2_6] 40 (0, 0)) (by (with_reducible repeat (first | refine Qi ?_ _ | refine Qj ?_ | refine Qh ?_ _)); exact BK368.out) hb)
        have n4_ := Aside0.mk (Qm (g := gb387) (o := .cells #[.slice none 0 0, .slice none 0 0, .int .i64 0] 34 (0, 0)) (by (with_reducible repeat (first | refine Qi ?_ _ | refine Qj ?_ | refine Qh ?_ _)); exact BK387.out) hb)
        have n5_ := Aside0.mk (Qn (by repeat (first | (with_reducible first | exact HB.out | apply Qg | apply Qb | apply Qe | refine Qc ?_ GE368.out | refine Qc ?_ GE387.out) | exact HB.out)) hb)
        clear HO372
        clear BK368
        clear BK387
        clear HB
        have HO372 := n0_
        have HO382 := n1_
        have HO385 := n2_
        have BK368 := n3_
        have BK387 := n4_
        have HB := n5_
        clear n0_ n1_ n2_ n3_ n4_ n5_
        (try clear hb)
        (try clear hb2)
        (try clear hk)
        (try clear hi)
        (try clear ho0)
        (try clear ho1)
        refine hK.out _ _ ⟨(Qa BK368.out 0).trans rfl, (Qa BK368.out 1).trans rfl, (Qa BK368.out 2).trans rfl, (Qa BK368.out 3).trans rfl, (Qa BK368.out 4).trans rfl, (Qa BK368.out 5).trans rfl, (Qa BK368.out 6).trans rfl⟩ (fun hHeld => ?_)
        clear hK K
        refine Q4 (a' := ?_) ?_ ?_
        rotate_left
        ·show Act.put _ (some 25) _ = _
         simp only [Act.put, List.setIfInBounds_toArray, List.set_cons_zero, List.set_cons_succ, Qr, Qt]
         rfl
        exact Q4 (by simp only [putAll, Act.put, List.setIfInBounds_toArray, List.set_cons_zero, List.set_cons_succ]) (hCont (.slice Ao25 t370.length co25, v381, v384, gb387) _ ⟨hHeld, (by (with_reducible repeat (first | apply Kd.R_alloc | apply Kd.R_drewN | apply Kd.R_drew)); exact Kd.R_mono HO372.out (fun _ hk => hk.2)), (by (with_reducible repeat (first | apply Kd.R_alloc | apply Kd.R_drewN | apply Kd.R_drew)); exact Kd.R_mono HO382.out (fun _ hk => hk.2)), (by (with_reducible repeat (first | apply Kd.R_alloc | apply Kd.R_drewN | apply Kd.R_drew)); exact HO385.out), (by (with_reducible repeat (first | refine Qi ?_ _ | refine Qj ?_ | refine Qh ?_ _)); exact BK368.out), (by (with_reducible repeat (first | refine Qi ?_ _ | refine Qj ?_ | refine Qh ?_ _)); exact BK387.out), GW387.out, GE387.out, NB368_387.out, NB387_368.out, (by repeat (first | (with_reducible first | exact HB.out | apply Qg | apply Qb | apply Qe | refine Qc ?_ GE368.out | refine Qc ?_ GE387.out) | exact HB.out))⟩)
      ·skip
       refine box_step ?hg (N := 8) ?hd (cs := #[.slice none 0 0, .slice none 0 0, .int .i64 0]) (t := 34) ?hr ?_; (case hd => rfl); (case hg => rfl); (case hr => first | (go_simp; done) | (go_simp; rfl))
       intro gb387 hg w23 hbox hb
       have n0_ := Aside0.mk (Kd.R_below (by (with_reducible repeat (first | apply Kd.R_alloc | apply Kd.R_drewN | apply Kd.R_drew)); exact HO372.out) hb)
       have n1_ := Aside0.mk (Qm (g := gb368) (o := .cells #[.int .i64 a2_0, .int .i64 a2_1, .int .i64 a2_2, .int .i64 a2_3, .int .i64 a2_4, .int .i64 a2_5, .bool a2_6] 40 (0, 0)) (by (with_reducible repeat (first | refine Qi ?_ _ | refine Qj ?_ | refine Qh ?_ _)); exact BK368.out) hb)
       have n2_ := Aside0.mk (Qn (by repeat (first | (with_reducible first | exact HB.out | apply Qg | apply Qb | apply Qe | refine Qc ?_ GE368.out) | exact HB.out)) hb)
       have n3_ := Aside0.mk (hbox)
       have n4_ := Aside0.mk ((by rw [hg]; exact (Ql (by repeat (first | (with_reducible first | exact HB.out | apply Qg | apply Qb | apply Qe | refine Qc ?_ GE368.out) | exact HB.out))) : w.heap.size ≤ gb387))
       have n5_ := Aside0.mk ((by rw [hg]; exact (Ql (by repeat (first | (with_reducible first | exact HB.out | apply Qg | apply Qb | apply Qe | refine Qc ?_ GE368.out) | exact HB.out))) : w.heap.size ≤ gb387))
       have n6_ := Aside0.mk ((by rw [hg]; exact Nat.ne_of_lt (Qs (g := gb368) (o := .cells #[.int .i64 a2_0, .int .i64 a2_1, .int .i64 a2_2, .int .i64 a2_3, .int .i64 a2_4, .int .i64 a2_5, .bool a2_6] 40 (0, 0)) (by (with_reducible repeat (first | refine Qi ?_ _ | refine Qj ?_ | refine Qh ?_ _)); exact BK368.out)) : gb368 ≠ gb387))
       have n7_ := Aside0.mk ((by rw [hg]; exact Nat.ne_of_gt (Qs (g := gb368) (o := .cells #[.int .i64 a2_0, .int .i64 a2_1, .int .i64 a2_2, .int .i64 a2_3, .int .i64 a2_4, .int .i64 a2_5, .bool a2_6] 40 (0, 0)) (by (with_reducible repeat (first | refine Qi ?_ _ | refine Qj ?_ | refine Qh ?_ _)); exact BK368.out)) : gb387 ≠ gb368))
       clear HO372
       clear BK368
       clear HB
       have HO372 := n0_
       have BK368 := n1_
       have HB := n2_
       have BK387 := n3_
       have GW387 := n4_
       have GE387 := n5_
       have NB368_387 := n6_
       have NB387_368 := n7_
       clear n0_ n1_ n2_ n3_ n4_ n5_ n6_ n7_
       clear hb hbox hg
       refine hK.out _ _ ⟨(Qa BK368.out 0).trans rfl, (Qa BK368.out 1).trans rfl, (Qa BK368.out 2).trans rfl, (Qa BK368.out 3).trans rfl, (Qa BK368.out 4).trans rfl, (Qa BK368.out 5).trans rfl, (Qa BK368.out 6).trans rfl⟩ (fun hHeld => ?_)
       clear hK K
       refine Q4 (a' := ?_) ?_ ?_
       rotate_left
       ·show Act.put _ (some 8) _ = _
        simp only [Act.put, List.setIfInBounds_toArray, List.set_cons_zero, List.set_cons_succ, Qr, Qt]
        rfl
       refine one_ (i := 4) (N := some 24) #[true, true, true, true, true, false, true, false] rfl rfl (Q6 HT_.out (by kernel_rfl)) (by decide) (fun K hK => ?_)
       refine goes_ Try.func30 (by kernel_rfl) rfl #[.agg #[.int .i64 a2_0, .int .i64 a2_1, .int .i64 a2_2, .int .i64 a2_3, .int .i64 a2_4, .int .i64 a2_5, .bool a2_6]] (by rfl) rfl rfl (by (try simp only [List.map_toArray, List.map_cons, List.map_nil]); first | done | rfl | (simp only [List.length_drop, List.length_take]; rfl)) ?_
       with_reducible refine (laws_toRoute.calls a2_0 a2_1 a2_2 a2_3 a2_4 a2_5 a2_6 t373 t374 t375 t376 t377 t378 t379 _ A8.out).mono ?_
       rintro e w24 ⟨rfl, hb⟩
       refine ⟨_, rfl, ?_⟩
       have n0_ := Aside0.mk (Kd.R_below (by (with_reducible repeat (first | apply Kd.R_alloc | apply Kd.R_drewN | apply Kd.R_drew)); exact HO372.out) hb)
       have n1_ := Aside0.mk (Qm (g := gb368) (o := .cells #[.int .i64 a2_0, .int .i64 a2_1, .int .i64 a2_2, .int .i64 a2_3, .int .i64 a2_4, .int .i64 a2_5, .bool a2_6] 40 (0, 0)) (by (with_reducible repeat (first | refine Qi ?_ _ | refine Qj ?_ | refine Qh ?_ _)); exact BK368.out) hb)
       have n2_ := Aside0.mk (Qm (g := gb387) (o := .cells #[.slice none 0 0, .slice none 0 0, .int .i64 0] 34 (0, 0)) (by (with_reducible repeat (first | refine Qi ?_ _ | refine Qj ?_ | refine Qh ?_ _)); exact BK387.out) hb)
       have n3_ := Aside0.mk (Qn (by repeat (first | (with_reducible first | exact HB.out | apply Qg | apply Qb | apply Qe | refine Qc ?_ GE368.out | refine Qc ?_ GE387.out) | exact HB.out)) hb)
       clear HO372
       clear BK368
       clear BK387
       clear HB
       have HO372 := n0_
       have BK368 := n1_
       have BK387 := n2_
       have HB := n3_
       clear n0_ n1_ n2_ n3_
       (try clear hb)
       (try clear hb2)
       (try clear hk)
       (try clear hi)
       obtain ⟨Ao25, co25, eo25⟩ := Kd.R_slice HO372.out
       (first | subst eo25 | (injection eo25 with f1_ f2_ f3_; have f4_ := f1_.symm; have f5_ := f3_.symm; clear f1_ f2_ f3_; subst f4_; subst f5_))
       refine hK.out _ _ ⟨(Qa BK368.out 0).trans rfl, (Qa BK368.out 1).trans rfl, (Qa BK368.out 2).trans rfl, (Qa BK368.out 3).trans rfl, (Qa BK368.out 4).trans rfl, (Qa BK368.out 5).trans rfl, (Qa BK368.out 6).trans rfl⟩ (fun hHeld => ?_)
       clear hK K
       refine Q4 (a' := ?_) ?_ ?_
       rotate_left
       ·show Act.put _ (some 24) _ = _
        simp only [Act.put, List.setIfInBounds_toArray, List.set_cons_zero, List.set_cons_succ, Qr, Qt]
        rfl
       refine one_ (i := 5) (N := some 25) #[true, true, true, true, true, true, true, false] rfl rfl (Q6 HT_.out (by kernel_rfl)) (by decide) (fun K hK => ?_)
       refine goes_ Try.func32 (by kernel_rfl) rfl #[.slice Ao25 t370.length co25, .int .i64 a1, .agg #[.int .i64 t373, .int .i64 t374, .int .i64 t375, .int .i64 t376, .int .i64 t377, .int .i64 t378, .bool t379]] (by rfl) rfl rfl (by (try simp only [List.map_toArray, List.map_cons, List.map_nil]); first | done | rfl | (simp only [List.length_drop, List.length_take]; rfl)) ?_
       with_reducible refine (spec_RibPut.calls k _ _ t370 a1 t373 t374 t375 t376 t377 t378 t379 t380 t383 t386 _ ?side1 ?side2 A9.out).mono ?_
       (case side1 => repeat (first | exact (Kd.R_reads' HO372.out).2.2 | (with_reducible refine Kd.C_alloc ?_ _) | (with_reducible refine Kd.C_drewN ?_ _) | (with_reducible refine Kd.C_drew ?_)))
       (case side2 => exact (Kd.R_reads' HO372.out).2.1)
       rintro e w26 ⟨v381, v384, rfl, ho0, ho1, hb⟩
       refine ⟨_, rfl, ?_⟩
       have n0_ := Aside0.mk (Kd.R_elder' (by (with_reducible repeat (first | apply Kd.R_alloc | apply Kd.R_drewN | apply Kd.R_drew)); exact HO372.out) (Kd.R_base ho0) hb)
       have n1_ := Aside0.mk (Kd.R_lower (Kd.R_new' ho0 (Kd.R_lt (by (with_reducible repeat (first | apply Kd.R_alloc | apply Kd.R_drewN | apply Kd.R_drew)); exact HO372.out))) (Ql (by repeat (first | (with_reducible first | exact HB.out | apply Qg | apply Qb | apply Qe | refine Qc ?_ GE368.out | refine Qc ?_ GE387.out) | exact HB.out))))
       have n2_ := Aside0.mk (Kd.R_lower ho1 (Ql (by repeat (first | (with_reducible first | exact HB.out | apply Qg | apply Qb | apply Qe | refine Qc ?_ GE368.out | refine Qc ?_ GE387.out) | exact HB.out))))
       have n3_ := Aside0.mk (Qm (g := gb368) (o := .cells #[.int .i64 a2_0, .int .i64 a2_1, .int .i64 a2_2, .int .i64 a2_3, .int .i64 a2_4, .int .i64 a2_5, .bool a2_6] 40 (0, 0)) (by (with_reducible repeat (first | refine Qi ?_ _ | refine Qj ?_ | refine Qh ?_ _)); exact BK368.out) hb)
       have n4_ := Aside0.mk (Qm (g := gb387) (o := .cells #[.slice none 0 0, .slice none 0 0, .int .i64 0] 34 (0, 0)) (by (with_reducible repeat (first | refine Qi ?_ _ | refine Qj ?_ | refine Qh ?_ _)); exact BK387.out) hb)
       have n5_ := Aside0.mk (Qn (by repeat (first | (with_reducible first | exact HB.out | apply Qg | apply Qb | apply Qe | refine Qc ?_ GE368.out | refine Qc ?_ GE387.out) | exact HB.out)) hb)
       clear HO372
       clear BK368
       clear BK387
       clear HB
       have HO372 := n0_
       have HO382 := n1_
       have HO385 := n2_
       have BK368 := n3_
       have BK387 := n4_
       have HB := n5_
       clear n0_ n1_ n2_ n3_ n4_ n5_
       (try clear hb)
       (try clear hb2)
       (try clear hk)
       (try clear hi)
       (try clear ho0)
       (try clear ho1)
       refine hK.out _ _ ⟨(Qa BK368.out 0).trans rfl, (Qa BK368.out 1).trans rfl, (Qa BK368.out 2).trans rfl, (Qa BK368.out 3).trans rfl, (Qa BK368.out 4).trans rfl, (Qa BK368.out 5).trans rfl, (Qa BK368.out 6).trans rfl⟩ (fun hHeld => ?_)
       clear hK K
       refine Q4 (a' := ?_) ?_ ?_
       rotate_left
       ·show Act.put _ (some 25) _ = _
        simp only [Act.put, List.setIfInBounds_toArray, List.set_cons_zero, List.set_cons_succ, Qr, Qt]
        rfl
       exact Q4 (by simp only [putAll, Act.put, List.setIfInBounds_toArray, List.set_cons_zero, List.set_cons_succ]) (hCont (.slice Ao25 t370.length co25, v381, v384, gb387) _ ⟨hHeld, (by (with_reducible repeat (first | apply Kd.R_alloc | apply Kd.R_drewN | apply Kd.R_drew)); exact Kd.R_mono HO372.out (fun _ hk => hk.2)), (by (with_reducible repeat (first | apply Kd.R_alloc | apply Kd.R_drewN | apply Kd.R_drew)); exact Kd.R_mono HO382.out (fun _ hk => hk.2)), (by (with_reducible repeat (first | apply Kd.R_alloc | apply Kd.R_drewN | apply Kd.R_drew)); exact HO385.out), (by (with_reducible repeat (first | refine Qi ?_ _ | refine Qj ?_ | refine Qh ?_ _)); exact BK368.out), (by (with_reducible repeat (first | refine Qi ?_ _ | refine Qj ?_ | refine Qh ?_ _)); exact BK387.out), GW387.out, GE387.out, NB368_387.out, NB387_368.out, (by repeat (first | (with_reducible first | exact HB.out | apply Qg | apply Qb | apply Qe | refine Qc ?_ GE368.out | refine Qc ?_ GE387.out) | exact HB.out))⟩)
     ·skip
      refine box_step ?hg (N := 8) ?hd (cs := #[.slice none 0 0, .slice none 0 0, .int .i64 0]) (t := 34) ?hr ?_; (case hd => rfl); (case hg => rfl); (case hr => first | (go_simp; done) | (go_simp; rfl))
      intro gb387 hg w22 hbox hb
      have n0_ := Aside0.mk (Qm (g := gb368) (o := .cells #[.int .i64 a2_0, .int .i64 a2_1, .int .i64 a2_2, .int .i64 a2_3, .int .i64 a2_4, .int .i64 a2_5, .bool a2_6] 40 (0, 0)) (by (with_reducible repeat (first | refine Qi ?_ _ | refine Qj ?_ | refine Qh ?_ _)); exact BK368.out) hb)
      have n1_ := Aside0.mk (Qn (by repeat (first | (with_reducible first | exact HB.out | apply Qg | apply Qb | apply Qe | refine Qc ?_ GE368.out) | exact HB.out)) hb)
      have n2_ := Aside0.mk (hbox)
      have n3_ := Aside0.mk ((by rw [hg]; exact (Ql (by repeat (first | (with_reducible first | exact HB.out | apply Qg | apply Qb | apply Qe | refine Qc ?_ GE368.out) | exact HB.out))) : w.heap.size ≤ gb387))
      have n4_ := Aside0.mk ((by rw [hg]; exact (Ql (by repeat (first | (with_reducible first | exact HB.out | apply Qg | apply Qb | apply Qe | refine Qc ?_ GE368.out) | exact HB.out))) : w.heap.size ≤ gb387))
      have n5_ := Aside0.mk ((by rw [hg]; exact Nat.ne_of_lt (Qs (g := gb368) (o := .cells #[.int .i64 a2_0, .int .i64 a2_1, .int .i64 a2_2, .int .i64 a2_3, .int .i64 a2_4, .int .i64 a2_5, .bool a2_6] 40 (0, 0)) (by (with_reducible repeat (first | refine Qi ?_ _ | refine Qj ?_ | refine Qh ?_ _)); exact BK368.out)) : gb368 ≠ gb387))
      have n6_ := Aside0.mk ((by rw [hg]; exact Nat.ne_of_gt (Qs (g := gb368) (o := .cells #[.int .i64 a2_0, .int .i64 a2_1, .int .i64 a2_2, .int .i64 a2_3, .int .i64 a2_4, .int .i64 a2_5, .bool a2_6] 40 (0, 0)) (by (with_reducible repeat (first | refine Qi ?_ _ | refine Qj ?_ | refine Qh ?_ _)); exact BK368.out)) : gb387 ≠ gb368))
      clear BK368
      clear HB
      have BK368 := n0_
      have HB := n1_
      have BK387 := n2_
      have GW387 := n3_
      have GE387 := n4_
      have NB368_387 := n5_
      have NB387_368 := n6_
      clear n0_ n1_ n2_ n3_ n4_ n5_ n6_
      clear hb hbox hg
      refine hK.out _ _ ⟨(Qa BK368.out 0).trans rfl, (Qa BK368.out 1).trans rfl, (Qa BK368.out 2).trans rfl, (Qa BK368.out 3).trans rfl, (Qa BK368.out 4).trans rfl, (Qa BK368.out 5).trans rfl, (Qa BK368.out 6).trans rfl⟩ (fun hHeld => ?_)
      clear hK K
      refine Q4 (a' := ?_) ?_ ?_
      rotate_left
      ·show Act.put _ (some 8) _ = _
       simp only [Act.put, List.setIfInBounds_toArray, List.set_cons_zero, List.set_cons_succ, Qr, Qt]
       rfl
      refine one_ (i := 1) (N := some 21) #[true, true, true, true, false, false, true, false] rfl rfl (Q6 HT_.out (by kernel_rfl)) (by decide) (fun K hK => ?_)
      refine goes_ Try.func15 (by kernel_rfl) rfl #[.slice A0 l0.length c0] (by rfl) rfl rfl (by (try simp only [List.map_toArray, List.map_cons, List.map_nil]); first | done | rfl | (simp only [List.length_drop, List.length_take]; rfl)) ?_
      with_reducible refine (laws_toHeldS.calls k _ _ l0 t370 _ ?side1 ?side2 A7.out).mono ?_
      (case side1 => repeat (first | exact (Kd.C_below HR0.out HB.out) | (with_reducible refine Kd.C_alloc ?_ _) | (with_reducible refine Kd.C_drewN ?_ _) | (with_reducible refine Kd.C_drew ?_)))
      (case side2 => exact HC0.out)
      rintro e w23 ⟨v371, rfl, ho0, hb⟩
      refine ⟨_, rfl, ?_⟩
      have n0_ := Aside0.mk (Kd.R_lower ho0 (Ql (by repeat (first | (with_reducible first | exact HB.out | apply Qg | apply Qb | apply Qe | refine Qc ?_ GE368.out | refine Qc ?_ GE387.out) | exact HB.out))))
      have n1_ := Aside0.mk (Qm (g := gb368) (o := .cells #[.int .i64 a2_0, .int .i64 a2_1, .int .i64 a2_2, .int .i64 a2_3, .int .i64 a2_4, .int .i64 a2_5, .bool a2_6] 40 (0, 0)) (by (with_reducible repeat (first | refine Qi ?_ _ | refine Qj ?_ | refine Qh ?_ _)); exact BK368.out) hb)
      have n2_ := Aside0.mk (Qm (g := gb387) (o := .cells #[.slice none 0 0, .slice none 0 0, .int .i64 0] 34 (0, 0)) (by (with_reducible repeat (first | refine Qi ?_ _ | refine Qj ?_ | refine Qh ?_ _)); exact BK387.out) hb)
      have n3_ := Aside0.mk (Qn (by repeat (first | (with_reducible first | exact HB.out | apply Qg | apply Qb | apply Qe | refine Qc ?_ GE368.out | refine Qc ?_ GE387.out) | exact HB.out)) hb)
      clear BK368
      clear BK387
      clear HB
      have HO372 := n0_
      have BK368 := n1_
      have BK387 := n2_
      have HB := n3_
      clear n0_ n1_ n2_ n3_
      (try clear hb)
      (try clear hb2)
      (try clear hk)
      (try clear hi)
      (try clear ho0)
      refine hK.out _ _ ⟨(Qa BK368.out 0).trans rfl, (Qa BK368.out 1).trans rfl, (Qa BK368.out 2).trans rfl, (Qa BK368.out 3).trans rfl, (Qa BK368.out 4).trans rfl, (Qa BK368.out 5).trans rfl, (Qa BK368.out 6).trans rfl⟩ (fun hHeld => ?_)
      clear hK K
      refine Q4 (a' := ?_) ?_ ?_
      rotate_left
      ·show Act.put _ (some 21) _ = _
       simp only [Act.put, List.setIfInBounds_toArray, List.set_cons_zero, List.set_cons_succ, Qr, Qt]
       rfl
      refine one_ (i := 4) (N := some 24) #[true, true, true, true, true, false, true, false] rfl rfl (Q6 HT_.out (by kernel_rfl)) (by decide) (fun K hK => ?_)
      refine goes_ Try.func30 (by kernel_rfl) rfl #[.agg #[.int .i64 a2_0, .int .i64 a2_1, .int .i64 a2_2, .int .i64 a2_3, .int .i64 a2_4, .int .i64 a2_5, .bool a2_6]] (by rfl) rfl rfl (by (try simp only [List.map_toArray, List.map_cons, List.map_nil]); first | done | rfl | (simp only [List.length_drop, List.length_take]; rfl)) ?_
      with_reducible refine (laws_toRoute.calls a2_0 a2_1 a2_2 a2_3 a2_4 a2_5 a2_6 t373 t374 t375 t376 t377 t378 t379 _ A8.out).mono ?_
      rintro e w24 ⟨rfl, hb⟩
      refine ⟨_, rfl, ?_⟩
      have n0_ := Aside0.mk (Kd.R_below (by (with_reducible repeat (first | apply Kd.R_alloc | apply Kd.R_drewN | apply Kd.R_drew)); exact HO372.out) hb)
      have n1_ := Aside0.mk (Qm (g := gb368) (o := .cells #[.int .i64 a2_0, .int .i64 a2_1, .int .i64 a2_2, .int .i64 a2_3, .int .i64 a2_4, .int .i64 a2_5, .bool a2_6] 40 (0, 0)) (by (with_reducible repeat (first | refine Qi ?_ _ | refine Qj ?_ | refine Qh ?_ _)); exact BK368.out) hb)
      have n2_ := Aside0.mk (Qm (g := gb387) (o := .cells #[.slice none 0 0, .slice none 0 0, .int .i64 0] 34 (0, 0)) (by (with_reducible repeat (first | refine Qi ?_ _ | refine Qj ?_ | refine Qh ?_ _)); exact BK387.out) hb)
      have n3_ := Aside0.mk (Qn (by repeat (first | (with_reducible first | exact HB.out | apply Qg | apply Qb | apply Qe | refine Qc ?_ GE368.out | refine Qc ?_ GE387.out) | exact HB.out)) hb)
      clear HO372
      clear BK368
      clear BK387
      clear HB
      have HO372 := n0_
      have BK368 := n1_
      have BK387 := n2_
      have HB := n3_
      clear n0_ n1_ n2_ n3_
      (try clear hb)
      (try clear hb2)
      (try clear hk)
      (try clear hi)
      obtain ⟨Ao25, co25, eo25⟩ := Kd.R_slice HO372.out
      (first | subst eo25 | (injection eo25 with f1_ f2_ f3_; have f4_ := f1_.symm; have f5_ := f3_.symm; clear f1_ f2_ f3_; subst f4_; subst f5_))
      refine hK.out _ _ ⟨(Qa BK368.out 0).trans rfl, (Qa BK368.out 1).trans rfl, (Qa BK368.out 2).trans rfl, (Qa BK368.out 3).trans rfl, (Qa BK368.out 4).trans rfl, (Qa BK368.out 5).trans rfl, (Qa BK368.out 6).trans rfl⟩ (fun hHeld => ?_)
      clear hK K
      refine Q4 (a' := ?_) ?_ ?_
      rotate_left
      ·show Act.put _ (some 24) _ = _
       simp only [Act.put, List.setIfInBounds_toArray, List.set_cons_zero, List.set_cons_succ, Qr, Qt]
       rfl
      refine one_ (i := 5) (N := some 25) #[true, true, true, true, true, true, true, false] rfl rfl (Q6 HT_.out (by kernel_rfl)) (by decide) (fun K hK => ?_)
      refine goes_ Try.func32 (by kernel_rfl) rfl #[.slice Ao25 t370.length co25, .int .i64 a1, .agg #[.int .i64 t373, .int .i64 t374, .int .i64 t375, .int .i64 t376, .int .i64 t377, .int .i64 t378, .bool t379]] (by rfl) rfl rfl (by (try simp only [List.map_toArray, List.map_cons, List.map_nil]); first | done | rfl | (simp only [List.length_drop, List.length_take]; rfl)) ?_
      with_reducible refine (spec_RibPut.calls k _ _ t370 a1 t373 t374 t375 t376 t377 t378 t379 t380 t383 t386 _ ?side1 ?side2 A9.out).mono ?_
      (case side1 => repeat (first | exact (Kd.R_reads' HO372.out).2.2 | (with_reducible refine Kd.C_alloc ?_ _) | (with_reducible refine Kd.C_drewN ?_ _) | (with_reducible refine Kd.C_drew ?_)))
      (case side2 => exact (Kd.R_reads' HO372.out).2.1)
      rintro e w26 ⟨v381, v384, rfl, ho0, ho1, hb⟩
      refine ⟨_, rfl, ?_⟩
      have n0_ := Aside0.mk (Kd.R_elder' (by (with_reducible repeat (first | apply Kd.R_alloc | apply Kd.R_drewN | apply Kd.R_drew)); exact HO372.out) (Kd.R_base ho0) hb)
      have n1_ := Aside0.mk (Kd.R_lower (Kd.R_new' ho0 (Kd.R_lt (by (with_reducible repeat (first | apply Kd.R_alloc | apply Kd.R_drewN | apply Kd.R_drew)); exact HO372.out))) (Ql (by repeat (first | (with_reducible first | exact HB.out | apply Qg | apply Qb | apply Qe | refine Qc ?_ GE368.out | refine Qc ?_ GE387.out) | exact HB.out))))
      have n2_ := Aside0.mk (Kd.R_lower ho1 (Ql (by repeat (first | (with_reducible first | exact HB.out | apply Qg | apply Qb | apply Qe | refine Qc ?_ GE368.out | refine Qc ?_ GE387.out) | exact HB.out))))
      have n3_ := Aside0.mk (Qm (g := gb368) (o := .cells #[.int .i64 a2_0, .int .i64 a2_1, .int .i64 a2_2, .int .i64 a2_3, .int .i64 a2_4, .int .i64 a2_5, .bool a2_6] 40 (0, 0)) (by (with_reducible repeat (first | refine Qi ?_ _ | refine Qj ?_ | refine Qh ?_ _)); exact BK368.out) hb)
      have n4_ := Aside0.mk (Qm (g := gb387) (o := .cells #[.slice none 0 0, .slice none 0 0, .int .i64 0] 34 (0, 0)) (by (with_reducible repeat (first | refine Qi ?_ _ | refine Qj ?_ | refine Qh ?_ _)); exact BK387.out) hb)
      have n5_ := Aside0.mk (Qn (by repeat (first | (with_reducible first | exact HB.out | apply Qg | apply Qb | apply Qe | refine Qc ?_ GE368.out | refine Qc ?_ GE387.out) | exact HB.out)) hb)
      clear HO372
      clear BK368
      clear BK387
      clear HB
      have HO372 := n0_
      have HO382 := n1_
      have HO385 := n2_
      have BK368 := n3_
      have BK387 := n4_
      have HB := n5_
      clear n0_ n1_ n2_ n3_ n4_ n5_
      (try clear hb)
      (try clear hb2)
      (try clear hk)
      (try clear hi)
      (try clear ho0)
      (try clear ho1)
      refine hK.out _ _ ⟨(Qa BK368.out 0).trans rfl, (Qa BK368.out 1).trans rfl, (Qa BK368.out 2).trans rfl, (Qa BK368.out 3).trans rfl, (Qa BK368.out 4).trans rfl, (Qa BK368.out 5).trans rfl, (Qa BK368.out 6).trans rfl⟩ (fun hHeld => ?_)
      clear hK K
      refine Q4 (a' := ?_) ?_ ?_
      rotate_left
      ·show Act.put _ (some 25) _ = _
       simp only [Act.put, List.setIfInBounds_toArray, List.set_cons_zero, List.set_cons_succ, Qr, Qt]
       rfl
      exact Q4 (by simp only [putAll, Act.put, List.setIfInBounds_toArray, List.set_cons_zero, List.set_cons_succ]) (hCont (.slice Ao25 t370.length co25, v381, v384, gb387) _ ⟨hHeld, (by (with_reducible repeat (first | apply Kd.R_alloc | apply Kd.R_drewN | apply Kd.R_drew)); exact Kd.R_mono HO372.out (fun _ hk => hk.2)), (by (with_reducible repeat (first | apply Kd.R_alloc | apply Kd.R_drewN | apply Kd.R_drew)); exact Kd.R_mono HO382.out (fun _ hk => hk.2)), (by (with_reducible repeat (first | apply Kd.R_alloc | apply Kd.R_drewN | apply Kd.R_drew)); exact HO385.out), (by (with_reducible repeat (first | refine Qi ?_ _ | refine Qj ?_ | refine Qh ?_ _)); exact BK368.out), (by (with_reducible repeat (first | refine Qi ?_ _ | refine Qj ?_ | refine Qh ?_ _)); exact BK387.out), GW387.out, GE387.out, NB368_387.out, NB387_368.out, (by repeat (first | (with_reducible first | exact HB.out | apply Qg | apply Qb | apply Qe | refine Qc ?_ GE368.out | refine Qc ?_ GE387.out) | exact HB.out))⟩)
    rintro ⟨v371, v381, v384, gb387⟩ w27 ⟨hS_, h0_, h1_, h2_, h3_, h4_, h5_, h6_, h7_, h8_, h9_⟩
    have n0_ : Aside0 (Kd.R k73 73 w27 w.heap.size (fun k_ => some k_ ≠ (v381 : Value).ownBlock) v371 t370) := ⟨h0_⟩
    have n1_ : Aside0 (Kd.R k73 73 w27 w.heap.size (fun k_ => some k_ ≠ (v371 : Value).ownBlock) v381 t380) := ⟨h1_⟩
    have n2_ : Aside0 (Kd.R k42 42 w27 w.heap.size (fun _ => True) v384 t383) := ⟨h2_⟩
    have n3_ : Aside0 (w27.heap[gb368]? = some (.cells #[.int .i64 a2_0, .int .i64 a2_1, .int .i64 a2_2, .int .i64 a2_3, .int .i64 a2_4, .int .i64 a2_5, .bool a2_6] 40 (0, 0))) := ⟨h3_⟩
    have n4_ : Aside0 (w27.heap[gb387]? = some (.cells #[.slice none 0 0, .slice none 0 0, .int .i64 0] 34 (0, 0))) := ⟨h4_⟩
    have n5_ : Aside0 (w.heap.size ≤ gb387) := ⟨h5_⟩
    have n6_ : Aside0 (w.heap.size ≤ gb387) := ⟨h6_⟩
    have n7_ : Aside0 (gb368 ≠ gb387) := ⟨h7_⟩
    have n8_ : Aside0 (gb387 ≠ gb368) := ⟨h8_⟩
    have n9_ : Aside0 (Below w.heap.size w w27) := ⟨h9_⟩
    clear BK368
    clear HB
    clear h0_ h1_ h2_ h3_ h4_ h5_ h6_ h7_ h8_ h9_
    have HO372 := n0_
    have HO382 := n1_
    have HO385 := n2_
    have BK368 := n3_
    have BK387 := n4_
    have GW387 := n5_
    have GE387 := n6_
    have NB368_387 := n7_
    have NB387_368 := n8_
    have HB := n9_
    clear n0_ n1_ n2_ n3_ n4_ n5_ n6_ n7_ n8_ n9_
    have hHeld : w27.cell? ⟨gb368, 0, none⟩ = some (.int .i64 a2_0) ∧ w27.cell? ⟨gb368, 1, none⟩ = some (.int .i64 a2_1) ∧ w27.cell? ⟨gb368, 2, none⟩ = some (.int .i64 a2_2) ∧ w27.cell? ⟨gb368, 3, none⟩ = some (.int .i64 a2_3) ∧ w27.cell? ⟨gb368, 4, none⟩ = some (.int .i64 a2_4) ∧ w27.cell? ⟨gb368, 5, none⟩ = some (.int .i64 a2_5) ∧ w27.cell? ⟨gb368, 6, none⟩ = some (.bool a2_6) := hS_
    obtain ⟨Ao28, co28, eo28⟩ := Kd.R_slice HO382.out
    (first | subst eo28 | (injection eo28 with f1_ f2_ f3_; have f4_ := f1_.symm; have f5_ := f3_.symm; clear f1_ f2_ f3_; subst f4_; subst f5_))
    obtain ⟨Ao30, co30, eo30⟩ := Kd.R_slice HO385.out
    (first | subst eo30 | (injection eo30 with f1_ f2_ f3_; have f4_ := f1_.symm; have f5_ := f3_.symm; clear f1_ f2_ f3_; subst f4_; subst f5_))
    refine Q4 (a' := ?_) ?_ ?_
    rotate_left
    ·simp only [putAll, Act.put, List.setIfInBounds_toArray, List.set_cons_zero, List.set_cons_succ]
     rfl
    refine one_ (i := 7) (N := none) #[true, true, true, true, true, true, true, true] rfl rfl (Q6 HT_.out (by kernel_rfl)) (by decide) (fun K hK => ?_)
    have hs29 : w27.cell? ⟨gb387, 0, none⟩ = some (.slice none 0 0) := (Qa BK387.out 0).trans rfl
    have hfs29 := Qd BK387.out 0
    have hns29_0 := NB368_387.out
    have hms29_0 := NB387_368.out
    have hs31 : w27.cell? ⟨gb387, 1, none⟩ = some (.slice none 0 0) := (Qa BK387.out 1).trans rfl
    have hfs31 := Qd BK387.out 1
    have hns31_0 := NB368_387.out
    have hms31_0 := NB387_368.out
    have hs32 : w27.cell? ⟨gb387, 2, none⟩ = some (.int .i64 0) := (Qa BK387.out 2).trans rfl
    have hfs32 := Qd BK387.out 2
    have hns32_0 := NB368_387.out
    have hms32_0 := NB387_368.out
    refine skip_ (w1 := ?_) (by rfl) rfl ?_ ?_
    rotate_left
    ·go_simp
     rfl
    refine hK.out _ _ ⟨((Q2 (p := ⟨gb387, _, none⟩) NB368_387.out _).trans (((Q2 (p := ⟨gb387, _, none⟩) NB368_387.out _).trans (((Q2 (p := ⟨gb387, _, none⟩) NB368_387.out _).trans (hHeld.1)))))), ((Q2 (p := ⟨gb387, _, none⟩) NB368_387.out _).trans (((Q2 (p := ⟨gb387, _, none⟩) NB368_387.out _).trans (((Q2 (p := ⟨gb387, _, none⟩) NB368_387.out _).trans (hHeld.2.1)))))), ((Q2 (p := ⟨gb387, _, none⟩) NB368_387.out _).trans (((Q2 (p := ⟨gb387, _, none⟩) NB368_387.out _).trans (((Q2 (p := ⟨gb387, _, none⟩) NB368_387.out _).trans (hHeld.2.2.1)))))), ((Q2 (p := ⟨gb387, _, none⟩) NB368_387.out _).trans (((Q2 (p := ⟨gb387, _, none⟩) NB368_387.out _).trans (((Q2 (p := ⟨gb387, _, none⟩) NB368_387.out _).trans (hHeld.2.2.2.1)))))), ((Q2 (p := ⟨gb387, _, none⟩) NB368_387.out _).trans (((Q2 (p := ⟨gb387, _, none⟩) NB368_387.out _).trans (((Q2 (p := ⟨gb387, _, none⟩) NB368_387.out _).trans (hHeld.2.2.2.2.1)))))), ((Q2 (p := ⟨gb387, _, none⟩) NB368_387.out _).trans (((Q2 (p := ⟨gb387, _, none⟩) NB368_387.out _).trans (((Q2 (p := ⟨gb387, _, none⟩) NB368_387.out _).trans (hHeld.2.2.2.2.2.1)))))), ((Q2 (p := ⟨gb387, _, none⟩) NB368_387.out _).trans (((Q2 (p := ⟨gb387, _, none⟩) NB368_387.out _).trans (((Q2 (p := ⟨gb387, _, none⟩) NB368_387.out _).trans (hHeld.2.2.2.2.2.2))))))⟩ (fun hHeld => ?_)
    clear hK K
    refine done_ (done_of HT_.out (by kernel_rfl)) ?_
    go_upto_region 14 with (first | ((with_reducible refine Qq (f := 15) rfl ?_); refine Qx (some 27) rfl rfl Try.func15 (by kernel_rfl) rfl #[.slice A0 l0.length c0] rfl (by (try simp only [List.map_toArray, List.map_cons, List.map_nil]); first | done | rfl | (simp only [List.length_drop, List.length_take]; rfl)) ?_; (with_reducible refine (laws_toHeldS.calls k _ _ l0 t388 _ ?side1 ?side2 A10.out).mono ?_); (case side1 => exact Kd.C_below HR0.out (by repeat (first | (with_reducible first | exact HB.out | apply Qg | apply Qb | apply Qe | refine Qc ?_ GE368.out | refine Qc ?_ GE387.out) | exact HB.out))); (case side2 => exact HC0.out); rintro e w33 ⟨v389, rfl, ho0, hb⟩; refine ⟨_, rfl, ?_⟩; have n0_ := Aside0.mk (Kd.R_elder' (by (with_reducible repeat (first | apply Kd.R_alloc | apply Kd.R_drewN | apply Kd.R_drew)); exact (Kd.R_mono (Kd.R_far (p := ⟨gb387, 2, none⟩) (Kd.R_far (p := ⟨gb387, 1, none⟩) (Kd.R_far (p := ⟨gb387, 0, none⟩) (Kd.R_types HO372.out BK387.out (by decide)) (fun _ hk => hk.2) (.slice Ao28 t380.length co28)) (fun _ hk => hk.2) (.slice Ao30 t383.length co30)) (fun _ hk => hk.2) (.int .i64 t386)) (fun _ h_ => h_.1))) (Kd.R_base ho0) hb); have n1_ := Aside0.mk (Kd.R_elder' (by (with_reducible repeat (first | apply Kd.R_alloc | apply Kd.R_drewN | apply Kd.R_drew)); exact (Kd.R_mono (Kd.R_far (p := ⟨gb387, 2, none⟩) (Kd.R_far (p := ⟨gb387, 1, none⟩) (Kd.R_far (p := ⟨gb387, 0, none⟩) (Kd.R_types HO382.out BK387.out (by decide)) (fun _ hk => hk.2) (.slice Ao28 t380.length co28)) (fun _ hk => hk.2) (.slice Ao30 t383.length co30)) (fun _ hk => hk.2) (.int .i64 t386)) (fun _ h_ => h_.1))) (Kd.R_base ho0) hb); have n2_ := Aside0.mk (Kd.R_below (by (with_reducible repeat (first | apply Kd.R_alloc | apply Kd.R_drewN | apply Kd.R_drew)); exact (Kd.R_mono (Kd.R_far (p := ⟨gb387, 2, none⟩) (Kd.R_far (p := ⟨gb387, 1, none⟩) (Kd.R_far (p := ⟨gb387, 0, none⟩) (Kd.R_types HO385.out BK387.out (by decide)) (fun _ hk => hk.2) (.slice Ao28 t380.length co28)) (fun _ hk => hk.2) (.slice Ao30 t383.length co30)) (fun _ hk => hk.2) (.int .i64 t386)) (fun _ h_ => h_.1))) hb); have n3_ := Aside0.mk (Kd.R_lower (Kd.R_new' (Kd.R_new' ho0 (Kd.R_lt (by (with_reducible repeat (first | apply Kd.R_alloc | apply Kd.R_drewN | apply Kd.R_drew)); exact (Kd.R_mono (Kd.R_far (p := ⟨gb387, 2, none⟩) (Kd.R_far (p := ⟨gb387, 1, none⟩) (Kd.R_far (p := ⟨gb387, 0, none⟩) (Kd.R_types HO372.out BK387.out (by decide)) (fun _ hk => hk.2) (.slice Ao28 t380.length co28)) (fun _ hk => hk.2) (.slice Ao30 t383.length co30)) (fun _ hk => hk.2) (.int .i64 t386)) (fun _ h_ => h_.1))))) (Kd.R_lt (by (with_reducible repeat (first | apply Kd.R_alloc | apply Kd.R_drewN | apply Kd.R_drew)); exact (Kd.R_mono (Kd.R_far (p := ⟨gb387, 2, none⟩) (Kd.R_far (p := ⟨gb387, 1, none⟩) (Kd.R_far (p := ⟨gb387, 0, none⟩) (Kd.R_types HO382.out BK387.out (by decide)) (fun _ hk => hk.2) (.slice Ao28 t380.length co28)) (fun _ hk => hk.2) (.slice Ao30 t383.length co30)) (fun _ hk => hk.2) (.int .i64 t386)) (fun _ h_ => h_.1))))) (Ql (by repeat (first | (with_reducible first | exact HB.out | apply Qg | apply Qb | apply Qe | refine Qc ?_ GE368.out | refine Qc ?_ GE387.out) | exact HB.out)))); have n4_ := Aside0.mk (Qm (g := gb368) (o := .cells #[.int .i64 a2_0, .int .i64 a2_1, .int .i64 a2_2, .int .i64 a2_3, .int .i64 a2_4, .int .i64 a2_5, .bool a2_6] 40 (0, 0)) (by (with_reducible repeat (first | refine Qi ?_ _ | refine Qj ?_ | refine Qh ?_ _)); refine Q0 ?_ NB368_387.out _; (with_reducible repeat (first | refine Qi ?_ _ | refine Qj ?_ | refine Qh ?_ _)); refine Q0 ?_ NB368_387.out _; (with_reducible repeat (first | refine Qi ?_ _ | refine Qj ?_ | refine Qh ?_ _)); refine Q0 ?_ NB368_387.out _; (with_reducible repeat (first | refine Qi ?_ _ | refine Qj ?_ | refine Qh ?_ _)); exact BK368.out) hb); have n5_ := Aside0.mk (Qm (g := gb387) (o := .cells #[.slice Ao28 t380.length co28, .slice Ao30 t383.length co30, .int .i64 t386] 34 (0, 0)) (by (with_reducible repeat (first | refine Qi ?_ _ | refine Qj ?_ | refine Qh ?_ _)); refine Qz (cs := #[.slice Ao28 t380.length co28, .slice Ao30 t383.length co30, .int .i64 0]) ?_ 2 _ rfl; (with_reducible repeat (first | refine Qi ?_ _ | refine Qj ?_ | refine Qh ?_ _)); refine Qz (cs := #[.slice Ao28 t380.length co28, .slice none 0 0, .int .i64 0]) ?_ 1 _ rfl; (with_reducible repeat (first | refine Qi ?_ _ | refine Qj ?_ | refine Qh ?_ _)); refine Qz (cs := #[.slice none 0 0, .slice none 0 0, .int .i64 0]) ?_ 0 _ rfl; (with_reducible repeat (first | refine Qi ?_ _ | refine Qj ?_ | refine Qh ?_ _)); exact BK387.out) hb); have n6_ := Aside0.mk (Qn (by repeat (first | (with_reducible first | exact HB.out | apply Qg | apply Qb | apply Qe | refine Qc ?_ GE368.out | refine Qc ?_ GE387.out) | exact HB.out)) hb); clear HO372; clear HO382; clear HO385; clear BK368; clear BK387; clear HB; have HO372 := n0_; have HO382 := n1_; have HO385 := n2_; have HO390 := n3_; have BK368 := n4_; have BK387 := n5_; have HB := n6_; clear n0_ n1_ n2_ n3_ n4_ n5_ n6_; (try clear hb); (try clear hb2); (try clear hk); (try clear hi); (try clear ho0); have hnb34 := NB368_387.out; have hnc34 := NB387_368.out; have hcz35_0 : w33.cell? ⟨gb368, 0, none⟩ = some (.int .i64 a2_0) := (Qa BK368.out 0).trans rfl; have hcz35_1 : w33.cell? ⟨gb368, 1, none⟩ = some (.int .i64 a2_1) := (Qa BK368.out 1).trans rfl; have hcz35_2 : w33.cell? ⟨gb368, 2, none⟩ = some (.int .i64 a2_2) := (Qa BK368.out 2).trans rfl; have hcz35_3 : w33.cell? ⟨gb368, 3, none⟩ = some (.int .i64 a2_3) := (Qa BK368.out 3).trans rfl; have hcz35_4 : w33.cell? ⟨gb368, 4, none⟩ = some (.int .i64 a2_4) := (Qa BK368.out 4).trans rfl; have hcz35_5 : w33.cell? ⟨gb368, 5, none⟩ = some (.int .i64 a2_5) := (Qa BK368.out 5).trans rfl; have hcz35_6 : w33.cell? ⟨gb368, 6, none⟩ = some (.bool a2_6) := (Qa BK368.out 6).trans rfl; have hfz35_0 := Qd BK368.out 0; have hfz35_1 := Qd BK368.out 1; have hfz35_2 := Qd BK368.out 2; have hfz35_3 := Qd BK368.out 3; have hfz35_4 := Qd BK368.out 4; have hfz35_5 := Qd BK368.out 5; have hfz35_6 := Qd BK368.out 6) | ((with_reducible refine Qq (f := 30) rfl ?_); refine Qx (some 31) rfl rfl Try.func30 (by kernel_rfl) rfl #[.agg #[.int .i64 a2_0, .int .i64 a2_1, .int .i64 a2_2, .int .i64 a2_3, .int .i64 a2_4, .int .i64 a2_5, .bool a2_6]] rfl (by (try simp only [List.map_toArray, List.map_cons, List.map_nil]); first | done | rfl | (simp only [List.length_drop, List.length_take]; rfl)) ?_; (with_reducible refine (laws_toRoute.calls a2_0 a2_1 a2_2 a2_3 a2_4 a2_5 a2_6 t391 t392 t393 t394 t395 t396 t397 _ A11.out).mono ?_); rintro e w36 ⟨rfl, hb⟩; refine ⟨_, rfl, ?_⟩; have n0_ := Aside0.mk (Kd.R_below (by (with_reducible repeat (first | apply Kd.R_alloc | apply Kd.R_drewN | apply Kd.R_drew)); exact HO372.out) hb); have n1_ := Aside0.mk (Kd.R_below (by (with_reducible repeat (first | apply Kd.R_alloc | apply Kd.R_drewN | apply Kd.R_drew)); exact HO382.out) hb); have n2_ := Aside0.mk (Kd.R_below (by (with_reducible repeat (first | apply Kd.R_alloc | apply Kd.R_drewN | apply Kd.R_drew)); exact HO385.out) hb); have n3_ := Aside0.mk (Kd.R_below (by (with_reducible repeat (first | apply Kd.R_alloc | apply Kd.R_drewN | apply Kd.R_drew)); exact HO390.out) hb); have n4_ := Aside0.mk (Qm (g := gb368) (o := .cells #[.int .i64 a2_0, .int .i64 a2_1, .int .i64 a2_2, .int .i64 a2_3, .int .i64 a2_4, .int .i64 a2_5, .bool a2_6] 40 (0, 0)) (by (with_reducible repeat (first | refine Qi ?_ _ | refine Qj ?_ | refine Qh ?_ _)); exact BK368.out) hb); have n5_ := Aside0.mk (Qm (g := gb387) (o := .cells #[.slice Ao28 t380.length co28, .slice Ao30 t383.length co30, .int .i64 t386] 34 (0, 0)) (by (with_reducible repeat (first | refine Qi ?_ _ | refine Qj ?_ | refine Qh ?_ _)); exact BK387.out) hb); have n6_ := Aside0.mk (Qn (by repeat (first | (with_reducible first | exact HB.out | apply Qg | apply Qb | apply Qe | refine Qc ?_ GE368.out | refine Qc ?_ GE387.out) | exact HB.out)) hb); clear HO372; clear HO382; clear HO385; clear HO390; clear BK368; clear BK387; clear HB; have HO372 := n0_; have HO382 := n1_; have HO385 := n2_; have HO390 := n3_; have BK368 := n4_; have BK387 := n5_; have HB := n6_; clear n0_ n1_ n2_ n3_ n4_ n5_ n6_; (try clear hb); (try clear hb2); (try clear hk); (try clear hi); obtain ⟨Ao37, co37, eo37⟩ := Kd.R_slice HO390.out; subst eo37) | ((with_reducible refine Qq (f := 33) rfl ?_); refine Qx (some 32) rfl rfl Try.func33 (by kernel_rfl) rfl #[.slice Ao37 t388.length co37, .int .i64 a1, .agg #[.int .i64 t391, .int .i64 t392, .int .i64 t393, .int .i64 t394, .int .i64 t395, .int .i64 t396, .bool t397]] rfl (by (try simp only [List.map_toArray, List.map_cons, List.map_nil]); first | done | rfl | (simp only [List.length_drop, List.length_take]; rfl)) ?_; (with_reducible refine (impl_RibPut.calls k _ _ t388 a1 t391 t392 t393 t394 t395 t396 t397 t398 t401 t404 _ ?side1 ?side2 A12.out).mono ?_); (case side1 => repeat (first | exact (Kd.R_reads' HO390.out).2.2 | (with_reducible refine Kd.C_alloc ?_ _) | (with_reducible refine Kd.C_drewN ?_ _) | (with_reducible refine Kd.C_drew ?_))); (case side2 => exact (Kd.R_reads' HO390.out).2.1); rintro e w38 ⟨v399, v402, rfl, ho0, ho1, hb⟩; refine ⟨_, rfl, ?_⟩; have n0_ := Aside0.mk (Kd.R_elder' (by (with_reducible repeat (first | apply Kd.R_alloc | apply Kd.R_drewN | apply Kd.R_drew)); exact HO372.out) (Kd.R_base ho0) hb); have n1_ := Aside0.mk (Kd.R_elder' (by (with_reducible repeat (first | apply Kd.R_alloc | apply Kd.R_drewN | apply Kd.R_drew)); exact HO382.out) (Kd.R_base ho0) hb); have n2_ := Aside0.mk (Kd.R_elder' (by (with_reducible repeat (first | apply Kd.R_alloc | apply Kd.R_drewN | apply Kd.R_drew)); exact HO385.out) (Kd.R_base ho1) hb); have n3_ := Aside0.mk (Kd.R_elder' (by (with_reducible repeat (first | apply Kd.R_alloc | apply Kd.R_drewN | apply Kd.R_drew)); exact HO390.out) (Kd.R_base ho0) hb); have n4_ := Aside0.mk (Kd.R_lower (Kd.R_new' (Kd.R_new' (Kd.R_new' ho0 (Kd.R_lt (by (with_reducible repeat (first | apply Kd.R_alloc | apply Kd.R_drewN | apply Kd.R_drew)); exact HO372.out))) (Kd.R_lt (by (with_reducible repeat (first | apply Kd.R_alloc | apply Kd.R_drewN | apply Kd.R_drew)); exact HO382.out))) (Kd.R_lt (by (with_reducible repeat (first | apply Kd.R_alloc | apply Kd.R_drewN | apply Kd.R_drew)); exact HO390.out))) (Ql (by repeat (first | (with_reducible first | exact HB.out | apply Qg | apply Qb | apply Qe | refine Qc ?_ GE368.out | refine Qc ?_ GE387.out) | exact HB.out)))); have n5_ := Aside0.mk (Kd.R_lower (Kd.R_new' ho1 (Kd.R_lt (by (with_reducible repeat (first | apply Kd.R_alloc | apply Kd.R_drewN | apply Kd.R_drew)); exact HO385.out))) (Ql (by repeat (first | (with_reducible first | exact HB.out | apply Qg | apply Qb | apply Qe | refine Qc ?_ GE368.out | refine Qc ?_ GE387.out) | exact HB.out)))); have n6_ := Aside0.mk (Qm (g := gb368) (o := .cells #[.int .i64 a2_0, .int .i64 a2_1, .int .i64 a2_2, .int .i64 a2_3, .int .i64 a2_4, .int .i64 a2_5, .bool a2_6] 40 (0, 0)) (by (with_reducible repeat (first | refine Qi ?_ _ | refine Qj ?_ | refine Qh ?_ _)); exact BK368.out) hb); have n7_ := Aside0.mk (Qm (g := gb387) (o := .cells #[.slice Ao28 t380.length co28, .slice Ao30 t383.length co30, .int .i64 t386] 34 (0, 0)) (by (with_reducible repeat (first | refine Qi ?_ _ | refine Qj ?_ | refine Qh ?_ _)); exact BK387.out) hb); have n8_ := Aside0.mk (Qn (by repeat (first | (with_reducible first | exact HB.out | apply Qg | apply Qb | apply Qe | refine Qc ?_ GE368.out | refine Qc ?_ GE387.out) | exact HB.out)) hb); clear HO372; clear HO382; clear HO385; clear HO390; clear BK368; clear BK387; clear HB; have HO372 := n0_; have HO382 := n1_; have HO385 := n2_; have HO390 := n3_; have HO400 := n4_; have HO403 := n5_; have BK368 := n6_; have BK387 := n7_; have HB := n8_; clear n0_ n1_ n2_ n3_ n4_ n5_ n6_ n7_ n8_; (try clear hb); (try clear hb2); (try clear hk); (try clear hi); (try clear ho0); (try clear ho1)) | ((with_reducible refine Qw (N := 10) rfl ?_); refine Qu ?hg (N := 10) ?hd (cs := #[.slice none 0 0, .slice none 0 0, .int .i64 0]) (t := 34) ?hr ?_; (case hd => rfl); (case hg => rfl); (case hr => first | (go_simp; done) | (go_simp; rfl)); intro gb405 hg w39 hbox hb; have n0_ := Aside0.mk (Kd.R_below (by (with_reducible repeat (first | apply Kd.R_alloc | apply Kd.R_drewN | apply Kd.R_drew)); exact HO372.out) hb); have n1_ := Aside0.mk (Kd.R_below (by (with_reducible repeat (first | apply Kd.R_alloc | apply Kd.R_drewN | apply Kd.R_drew)); exact HO382.out) hb); have n2_ := Aside0.mk (Kd.R_below (by (with_reducible repeat (first | apply Kd.R_alloc | apply Kd.R_drewN | apply Kd.R_drew)); exact HO385.out) hb); have n3_ := Aside0.mk (Kd.R_below (by (with_reducible repeat (first | apply Kd.R_alloc | apply Kd.R_drewN | apply Kd.R_drew)); exact HO390.out) hb); have n4_ := Aside0.mk (Kd.R_below (by (with_reducible repeat (first | apply Kd.R_alloc | apply Kd.R_drewN | apply Kd.R_drew)); exact HO400.out) hb); have n5_ := Aside0.mk (Kd.R_below (by (with_reducible repeat (first | apply Kd.R_alloc | apply Kd.R_drewN | apply Kd.R_drew)); exact HO403.out) hb); have n6_ := Aside0.mk (Qm (g := gb368) (o := .cells #[.int .i64 a2_0, .int .i64 a2_1, .int .i64 a2_2, .int .i64 a2_3, .int .i64 a2_4, .int .i64 a2_5, .bool a2_6] 40 (0, 0)) (by (with_reducible repeat (first | refine Qi ?_ _ | refine Qj ?_ | refine Qh ?_ _)); exact BK368.out) hb); have n7_ := Aside0.mk (Qm (g := gb387) (o := .cells #[.slice Ao28 t380.length co28, .slice Ao30 t383.length co30, .int .i64 t386] 34 (0, 0)) (by (with_reducible repeat (first | refine Qi ?_ _ | refine Qj ?_ | refine Qh ?_ _)); exact BK387.out) hb); have n8_ := Aside0.mk (Qn (by repeat (first | (with_reducible first | exact HB.out | apply Qg | apply Qb | apply Qe | refine Qc ?_ GE368.out | refine Qc ?_ GE387.out) | exact HB.out)) hb); have n9_ := Aside0.mk (hbox); have n10_ := Aside0.mk ((by rw [hg]; exact (Ql (by repeat (first | (with_reducible first | exact HB.out | apply Qg | apply Qb | apply Qe | refine Qc ?_ GE368.out | refine Qc ?_ GE387.out) | exact HB.out))) : w.heap.size ≤ gb405)); have n11_ := Aside0.mk ((by rw [hg]; exact (Ql (by repeat (first | (with_reducible first | exact HB.out | apply Qg | apply Qb | apply Qe | refine Qc ?_ GE368.out | refine Qc ?_ GE387.out) | exact HB.out))) : w.heap.size ≤ gb405)); have n12_ := Aside0.mk ((by rw [hg]; exact Nat.ne_of_lt (Qs (g := gb368) (o := .cells #[.int .i64 a2_0, .int .i64 a2_1, .int .i64 a2_2, .int .i64 a2_3, .int .i64 a2_4, .int .i64 a2_5, .bool a2_6] 40 (0, 0)) (by (with_reducible repeat (first | refine Qi ?_ _ | refine Qj ?_ | refine Qh ?_ _)); exact BK368.out)) : gb368 ≠ gb405)); have n13_ := Aside0.mk ((by rw [hg]; exact Nat.ne_of_gt (Qs (g := gb368) (o := .cells #[.int .i64 a2_0, .int .i64 a2_1, .int .i64 a2_2, .int .i64 a2_3, .int .i64 a2_4, .int .i64 a2_5, .bool a2_6] 40 (0, 0)) (by (with_reducible repeat (first | refine Qi ?_ _ | refine Qj ?_ | refine Qh ?_ _)); exact BK368.out)) : gb405 ≠ gb368)); have n14_ := Aside0.mk ((by rw [hg]; exact Nat.ne_of_lt (Qs (g := gb387) (o := .cells #[.slice Ao28 t380.length co28, .slice Ao30 t383.length co30, .int .i64 t386] 34 (0, 0)) (by (with_reducible repeat (first | refine Qi ?_ _ | refine Qj ?_ | refine Qh ?_ _)); exact BK387.out)) : gb387 ≠ gb405)); have n15_ := Aside0.mk ((by rw [hg]; exact Nat.ne_of_gt (Qs (g := gb387) (o := .cells #[.slice Ao28 t380.length co28, .slice Ao30 t383.length co30, .int .i64 t386] 34 (0, 0)) (by (with_reducible repeat (first | refine Qi ?_ _ | refine Qj ?_ | refine Qh ?_ _)); exact BK387.out)) : gb405 ≠ gb387)); clear HO372; clear HO382; clear HO385; clear HO390; clear HO400; clear HO403; clear BK368; clear BK387; clear HB; have HO372 := n0_; have HO382 := n1_; have HO385 := n2_; have HO390 := n3_; have HO400 := n4_; have HO403 := n5_; have BK368 := n6_; have BK387 := n7_; have HB := n8_; have BK405 := n9_; have GW405 := n10_; have GE405 := n11_; have NB368_405 := n12_; have NB405_368 := n13_; have NB387_405 := n14_; have NB405_387 := n15_; clear n0_ n1_ n2_ n3_ n4_ n5_ n6_ n7_ n8_ n9_ n10_ n11_ n12_ n13_ n14_ n15_; clear hb hbox hg; obtain ⟨Ao40, co40, eo40⟩ := Kd.R_slice HO400.out; subst eo40; have hnb41 := NB405_368.out; have hnc41 := NB368_405.out; have hnb42 := NB405_387.out; have hnc42 := NB387_405.out; have hcz43_0 : w39.cell? ⟨gb405, 0, none⟩ = some (.slice none 0 0) := (Qa BK405.out 0).trans rfl; have hcz43_1 : w39.cell? ⟨gb405, 1, none⟩ = some (.slice none 0 0) := (Qa BK405.out 1).trans rfl; have hcz43_2 : w39.cell? ⟨gb405, 2, none⟩ = some (.int .i64 0) := (Qa BK405.out 2).trans rfl; have hfz43_0 := Qd BK405.out 0; have hfz43_1 := Qd BK405.out 1; have hfz43_2 := Qd BK405.out 2; obtain ⟨Ao44, co44, eo44⟩ := Kd.R_slice HO403.out; subst eo44; have hcz45_0 : w39.cell? ⟨gb387, 0, none⟩ = some (.slice Ao28 t380.length co28) := (Qa BK387.out 0).trans rfl; have hcz45_1 : w39.cell? ⟨gb387, 1, none⟩ = some (.slice Ao30 t383.length co30) := (Qa BK387.out 1).trans rfl; have hcz45_2 : w39.cell? ⟨gb387, 2, none⟩ = some (.int .i64 t386) := (Qa BK387.out 2).trans rfl; have hfz45_0 := Qd BK387.out 0; have hfz45_1 := Qd BK387.out 1; have hfz45_2 := Qd BK387.out 2) | ((with_reducible refine Qq (f := 24) rfl ?_); refine Qx (some 35) rfl rfl Try.func24 (by kernel_rfl) rfl #[.agg #[.slice Ao40 t398.length co40, .slice Ao44 t401.length co44, .int .i64 t404], .agg #[.slice Ao28 t380.length co28, .slice Ao30 t383.length co30, .int .i64 t386]] rfl (by (try simp only [List.map_toArray, List.map_cons, List.map_nil]); first | done | rfl | (simp only [List.length_drop, List.length_take]; rfl)) ?_; (with_reducible refine (laws_eqRibOut.calls k _ _ t398 _ _ t401 t404 _ _ t380 _ _ t383 t386 true _ ?side1 ?side2 ?side3 ?side4 ?side5 ?side6 ?side7 ?side8 A13.out).mono ?_); (case side1 => refine (Kd.R_reads' (e := 73) (base := w.heap.size) (ok := fun k_ => (((True ∧ some k_ ≠ (v371 : Value).ownBlock) ∧ some k_ ≠ (.slice Ao28 t380.length co28 : Value).ownBlock) ∧ some k_ ≠ (.slice Ao37 t388.length co37 : Value).ownBlock)) (n := t398.length) (c := co40) ?_).2.2; exact (by (with_reducible repeat (first | apply Kd.R_alloc | apply Kd.R_drewN | apply Kd.R_drew)); exact (Kd.R_mono (Kd.R_far (p := ⟨gb405, 2, none⟩) (Kd.R_far (p := ⟨gb405, 1, none⟩) (Kd.R_far (p := ⟨gb405, 0, none⟩) (Kd.R_types HO400.out BK405.out (by decide)) (fun _ hk => hk.2) (.slice Ao40 t398.length co40)) (fun _ hk => hk.2) (.slice Ao44 t401.length co44)) (fun _ hk => hk.2) (.int .i64 t404)) (fun _ h_ => h_.1)))); (case side2 => exact (Kd.R_reads' HO400.out).2.1); (case side3 => refine (Kd.R_reads' (e := 42) (base := w.heap.size) (ok := fun k_ => (True ∧ some k_ ≠ (.slice Ao30 t383.length co30 : Value).ownBlock)) (n := t401.length) (c := co44) ?_).2.2; exact (by (with_reducible repeat (first | apply Kd.R_alloc | apply Kd.R_drewN | apply Kd.R_drew)); exact (Kd.R_mono (Kd.R_far (p := ⟨gb405, 2, none⟩) (Kd.R_far (p := ⟨gb405, 1, none⟩) (Kd.R_far (p := ⟨gb405, 0, none⟩) (Kd.R_types HO403.out BK405.out (by decide)) (fun _ hk => hk.2) (.slice Ao40 t398.length co40)) (fun _ hk => hk.2) (.slice Ao44 t401.length co44)) (fun _ hk => hk.2) (.int .i64 t404)) (fun _ h_ => h_.1)))); (case side4 => exact (Kd.R_reads' HO403.out).2.1); (case side5 => refine (Kd.R_reads' (e := 73) (base := w.heap.size) (ok := fun k_ => ((some k_ ≠ (v371 : Value).ownBlock ∧ some k_ ≠ (.slice Ao37 t388.length co37 : Value).ownBlock) ∧ some k_ ≠ (.slice Ao40 t398.length co40 : Value).ownBlock)) (n := t380.length) (c := co28) ?_).2.2; exact (by (with_reducible repeat (first | apply Kd.R_alloc | apply Kd.R_drewN | apply Kd.R_drew)); exact (Kd.R_mono (Kd.R_far (p := ⟨gb405, 2, none⟩) (Kd.R_far (p := ⟨gb405, 1, none⟩) (Kd.R_far (p := ⟨gb405, 0, none⟩) (Kd.R_types HO382.out BK405.out (by decide)) (fun _ hk => hk.2) (.slice Ao40 t398.length co40)) (fun _ hk => hk.2) (.slice Ao44 t401.length co44)) (fun _ hk => hk.2) (.int .i64 t404)) (fun _ h_ => h_.1)))); (case side6 => exact (Kd.R_reads' HO382.out).2.1); (case side7 => refine (Kd.R_reads' (e := 42) (base := w.heap.size) (ok := fun k_ => (True ∧ some k_ ≠ (.slice Ao44 t401.length co44 : Value).ownBlock)) (n := t383.length) (c := co30) ?_).2.2; exact (by (with_reducible repeat (first | apply Kd.R_alloc | apply Kd.R_drewN | apply Kd.R_drew)); exact (Kd.R_mono (Kd.R_far (p := ⟨gb405, 2, none⟩) (Kd.R_far (p := ⟨gb405, 1, none⟩) (Kd.R_far (p := ⟨gb405, 0, none⟩) (Kd.R_types HO385.out BK405.out (by decide)) (fun _ hk => hk.2) (.slice Ao40 t398.length co40)) (fun _ hk => hk.2) (.slice Ao44 t401.length co44)) (fun _ hk => hk.2) (.int .i64 t404)) (fun _ h_ => h_.1)))); (case side8 => exact (Kd.R_reads' HO385.out).2.1); rintro e w46 ⟨rfl, hb⟩; refine ⟨_, rfl, ?_⟩; have n0_ := Aside0.mk (Kd.R_below (by (with_reducible repeat (first | apply Kd.R_alloc | apply Kd.R_drewN | apply Kd.R_drew)); exact (Kd.R_mono (Kd.R_far (p := ⟨gb405, 2, none⟩) (Kd.R_far (p := ⟨gb405, 1, none⟩) (Kd.R_far (p := ⟨gb405, 0, none⟩) (Kd.R_types HO372.out BK405.out (by decide)) (fun _ hk => hk.2) (.slice Ao40 t398.length co40)) (fun _ hk => hk.2) (.slice Ao44 t401.length co44)) (fun _ hk => hk.2) (.int .i64 t404)) (fun _ h_ => h_.1))) hb); have n1_ := Aside0.mk (Kd.R_below (by (with_reducible repeat (first | apply Kd.R_alloc | apply Kd.R_drewN | apply Kd.R_drew)); exact (Kd.R_mono (Kd.R_far (p := ⟨gb405, 2, none⟩) (Kd.R_far (p := ⟨gb405, 1, none⟩) (Kd.R_far (p := ⟨gb405, 0, none⟩) (Kd.R_types HO382.out BK405.out (by decide)) (fun _ hk => hk.2) (.slice Ao40 t398.length co40)) (fun _ hk => hk.2) (.slice Ao44 t401.length co44)) (fun _ hk => hk.2) (.int .i64 t404)) (fun _ h_ => h_.1))) hb); have n2_ := Aside0.mk (Kd.R_below (by (with_reducible repeat (first | apply Kd.R_alloc | apply Kd.R_drewN | apply Kd.R_drew)); exact (Kd.R_mono (Kd.R_far (p := ⟨gb405, 2, none⟩) (Kd.R_far (p := ⟨gb405, 1, none⟩) (Kd.R_far (p := ⟨gb405, 0, none⟩) (Kd.R_types HO385.out BK405.out (by decide)) (fun _ hk => hk.2) (.slice Ao40 t398.length co40)) (fun _ hk => hk.2) (.slice Ao44 t401.length co44)) (fun _ hk => hk.2) (.int .i64 t404)) (fun _ h_ => h_.1))) hb); have n3_ := Aside0.mk (Kd.R_below (by (with_reducible repeat (first | apply Kd.R_alloc | apply Kd.R_drewN | apply Kd.R_drew)); exact (Kd.R_mono (Kd.R_far (p := ⟨gb405, 2, none⟩) (Kd.R_far (p := ⟨gb405, 1, none⟩) (Kd.R_far (p := ⟨gb405, 0, none⟩) (Kd.R_types HO390.out BK405.out (by decide)) (fun _ hk => hk.2) (.slice Ao40 t398.length co40)) (fun _ hk => hk.2) (.slice Ao44 t401.length co44)) (fun _ hk => hk.2) (.int .i64 t404)) (fun _ h_ => h_.1))) hb); have n4_ := Aside0.mk (Kd.R_below (by (with_reducible repeat (first | apply Kd.R_alloc | apply Kd.R_drewN | apply Kd.R_drew)); exact (Kd.R_mono (Kd.R_far (p := ⟨gb405, 2, none⟩) (Kd.R_far (p := ⟨gb405, 1, none⟩) (Kd.R_far (p := ⟨gb405, 0, none⟩) (Kd.R_types HO400.out BK405.out (by decide)) (fun _ hk => hk.2) (.slice Ao40 t398.length co40)) (fun _ hk => hk.2) (.slice Ao44 t401.length co44)) (fun _ hk => hk.2) (.int .i64 t404)) (fun _ h_ => h_.1))) hb); have n5_ := Aside0.mk (Kd.R_below (by (with_reducible repeat (first | apply Kd.R_alloc | apply Kd.R_drewN | apply Kd.R_drew)); exact (Kd.R_mono (Kd.R_far (p := ⟨gb405, 2, none⟩) (Kd.R_far (p := ⟨gb405, 1, none⟩) (Kd.R_far (p := ⟨gb405, 0, none⟩) (Kd.R_types HO403.out BK405.out (by decide)) (fun _ hk => hk.2) (.slice Ao40 t398.length co40)) (fun _ hk => hk.2) (.slice Ao44 t401.length co44)) (fun _ hk => hk.2) (.int .i64 t404)) (fun _ h_ => h_.1))) hb); have n6_ := Aside0.mk (Qm (g := gb368) (o := .cells #[.int .i64 a2_0, .int .i64 a2_1, .int .i64 a2_2, .int .i64 a2_3, .int .i64 a2_4, .int .i64 a2_5, .bool a2_6] 40 (0, 0)) (by (with_reducible repeat (first | refine Qi ?_ _ | refine Qj ?_ | refine Qh ?_ _)); refine Q0 ?_ NB368_405.out _; (with_reducible repeat (first | refine Qi ?_ _ | refine Qj ?_ | refine Qh ?_ _)); refine Q0 ?_ NB368_405.out _; (with_reducible repeat (first | refine Qi ?_ _ | refine Qj ?_ | refine Qh ?_ _)); refine Q0 ?_ NB368_405.out _; (with_reducible repeat (first | refine Qi ?_ _ | refine Qj ?_ | refine Qh ?_ _)); exact BK368.out) hb); have n7_ := Aside0.mk (Qm (g := gb387) (o := .cells #[.slice Ao28 t380.length co28, .slice Ao30 t383.length co30, .int .i64 t386] 34 (0, 0)) (by (with_reducible repeat (first | refine Qi ?_ _ | refine Qj ?_ | refine Qh ?_ _)); refine Q0 ?_ NB387_405.out _; (with_reducible repeat (first | refine Qi ?_ _ | refine Qj ?_ | refine Qh ?_ _)); refine Q0 ?_ NB387_405.out _; (with_reducible repeat (first | refine Qi ?_ _ | refine Qj ?_ | refine Qh ?_ _)); refine Q0 ?_ NB387_405.out _; (with_reducible repeat (first | refine Qi ?_ _ | refine Qj ?_ | refine Qh ?_ _)); exact BK387.out) hb); have n8_ := Aside0.mk (Qm (g := gb405) (o := .cells #[.slice Ao40 t398.length co40, .slice Ao44 t401.length co44, .int .i64 t404] 34 (0, 0)) (by (with_reducible repeat (first | refine Qi ?_ _ | refine Qj ?_ | refine Qh ?_ _)); refine Qz (cs := #[.slice Ao40 t398.length co40, .slice Ao44 t401.length co44, .int .i64 0]) ?_ 2 _ rfl; (with_reducible repeat (first | refine Qi ?_ _ | refine Qj ?_ | refine Qh ?_ _)); refine Qz (cs := #[.slice Ao40 t398.length co40, .slice none 0 0, .int .i64 0]) ?_ 1 _ rfl; (with_reducible repeat (first | refine Qi ?_ _ | refine Qj ?_ | refine Qh ?_ _)); refine Qz (cs := #[.slice none 0 0, .slice none 0 0, .int .i64 0]) ?_ 0 _ rfl; (with_reducible repeat (first | refine Qi ?_ _ | refine Qj ?_ | refine Qh ?_ _)); exact BK405.out) hb); have n9_ := Aside0.mk (Qn (by repeat (first | (with_reducible first | exact HB.out | apply Qg | apply Qb | apply Qe | refine Qc ?_ GE368.out | refine Qc ?_ GE387.out | refine Qc ?_ GE405.out) | exact HB.out)) hb); clear HO372; clear HO382; clear HO385; clear HO390; clear HO400; clear HO403; clear BK368; clear BK387; clear BK405; clear HB; have HO372 := n0_; have HO382 := n1_; have HO385 := n2_; have HO390 := n3_; have HO400 := n4_; have HO403 := n5_; have BK368 := n6_; have BK387 := n7_; have BK405 := n8_; have HB := n9_; clear n0_ n1_ n2_ n3_ n4_ n5_ n6_ n7_ n8_ n9_; (try clear hb); (try clear hb2); (try clear hk); (try clear hi)) | ((with_reducible refine Qq (f := 15) rfl ?_); refine Qx (some 39) rfl rfl Try.func15 (by kernel_rfl) rfl #[.slice A0 l0.length c0] rfl (by (try simp only [List.map_toArray, List.map_cons, List.map_nil]); first | done | rfl | (simp only [List.length_drop, List.length_take]; rfl)) ?_; (with_reducible refine (laws_toHeldS.calls k _ _ l0 t407 _ ?side1 ?side2 A15.out).mono ?_); (case side1 => repeat (first | exact (Kd.C_below HR0.out HB.out) | (with_reducible refine Kd.C_alloc ?_ _) | (with_reducible refine Kd.C_drewN ?_ _) | (with_reducible refine Kd.C_drew ?_))); (case side2 => exact HC0.out); rintro e w47 ⟨v408, rfl, ho0, hb⟩; refine ⟨_, rfl, ?_⟩; have n0_ := Aside0.mk (Kd.R_elder' (by (with_reducible repeat (first | apply Kd.R_alloc | apply Kd.R_drewN | apply Kd.R_drew)); exact HO372.out) (Kd.R_base ho0) hb); have n1_ := Aside0.mk (Kd.R_elder' (by (with_reducible repeat (first | apply Kd.R_alloc | apply Kd.R_drewN | apply Kd.R_drew)); exact HO382.out) (Kd.R_base ho0) hb); have n2_ := Aside0.mk (Kd.R_below (by (with_reducible repeat (first | apply Kd.R_alloc | apply Kd.R_drewN | apply Kd.R_drew)); exact HO385.out) hb); have n3_ := Aside0.mk (Kd.R_elder' (by (with_reducible repeat (first | apply Kd.R_alloc | apply Kd.R_drewN | apply Kd.R_drew)); exact HO390.out) (Kd.R_base ho0) hb); have n4_ := Aside0.mk (Kd.R_elder' (by (with_reducible repeat (first | apply Kd.R_alloc | apply Kd.R_drewN | apply Kd.R_drew)); exact HO400.out) (Kd.R_base ho0) hb); have n5_ := Aside0.mk (Kd.R_below (by (with_reducible repeat (first | apply Kd.R_alloc | apply Kd.R_drewN | apply Kd.R_drew)); exact HO403.out) hb); have n6_ := Aside0.mk (Kd.R_lower (Kd.R_new' (Kd.R_new' (Kd.R_new' (Kd.R_new' ho0 (Kd.R_lt (by (with_reducible repeat (first | apply Kd.R_alloc | apply Kd.R_drewN | apply Kd.R_drew)); exact HO372.out))) (Kd.R_lt (by (with_reducible repeat (first | apply Kd.R_alloc | apply Kd.R_drewN | apply Kd.R_drew)); exact HO382.out))) (Kd.R_lt (by (with_reducible repeat (first | apply Kd.R_alloc | apply Kd.R_drewN | apply Kd.R_drew)); exact HO390.out))) (Kd.R_lt (by (with_reducible repeat (first | apply Kd.R_alloc | apply Kd.R_drewN | apply Kd.R_drew)); exact HO400.out))) (Ql (by repeat (first | (with_reducible first | exact HB.out | apply Qg | apply Qb | apply Qe | refine Qc ?_ GE368.out | refine Qc ?_ GE387.out | refine Qc ?_ GE405.out) | exact HB.out)))); have n7_ := Aside0.mk (Qm (g := gb368) (o := .cells #[.int .i64 a2_0, .int .i64 a2_1, .int .i64 a2_2, .int .i64 a2_3, .int .i64 a2_4, .int .i64 a2_5, .bool a2_6] 40 (0, 0)) (by (with_reducible repeat (first | refine Qi ?_ _ | refine Qj ?_ | refine Qh ?_ _)); exact BK368.out) hb); have n8_ := Aside0.mk (Qm (g := gb387) (o := .cells #[.slice Ao28 t380.length co28, .slice Ao30 t383.length co30, .int .i64 t386] 34 (0, 0)) (by (with_reducible repeat (first | refine Qi ?_ _ | refine Qj ?_ | refine Qh ?_ _)); exact BK387.out) hb); have n9_ := Aside0.mk (Qm (g := gb405) (o := .cells #[.slice Ao40 t398.length co40, .slice Ao44 t401.length co44, .int .i64 t404] 34 (0, 0)) (by (with_reducible repeat (first | refine Qi ?_ _ | refine Qj ?_ | refine Qh ?_ _)); exact BK405.out) hb); have n10_ := Aside0.mk (Qn (by repeat (first | (with_reducible first | exact HB.out | apply Qg | apply Qb | apply Qe | refine Qc ?_ GE368.out | refine Qc ?_ GE387.out | refine Qc ?_ GE405.out) | exact HB.out)) hb); clear HO372; clear HO382; clear HO385; clear HO390; clear HO400; clear HO403; clear BK368; clear BK387; clear BK405; clear HB; have HO372 := n0_; have HO382 := n1_; have HO385 := n2_; have HO390 := n3_; have HO400 := n4_; have HO403 := n5_; have HO409 := n6_; have BK368 := n7_; have BK387 := n8_; have BK405 := n9_; have HB := n10_; clear n0_ n1_ n2_ n3_ n4_ n5_ n6_ n7_ n8_ n9_ n10_; (try clear hb); (try clear hb2); (try clear hk); (try clear hi); (try clear ho0); obtain ⟨Ao48, co48, eo48⟩ := Kd.R_slice HO409.out; subst eo48) | ((with_reducible refine Qq (f := 18) rfl ?_); refine Qx (some 40) rfl rfl Try.func18 (by kernel_rfl) rfl #[.slice Ao37 t388.length co37, .slice Ao48 t407.length co48] rfl (by (try simp only [List.map_toArray, List.map_cons, List.map_nil]); first | done | rfl | (simp only [List.length_drop, List.length_take]; rfl)) ?_; (with_reducible refine (laws_eqHeldS.calls k _ _ t388 _ _ t407 true _ ?side1 ?side2 ?side3 ?side4 A16.out).mono ?_); (case side1 => repeat (first | exact (Kd.R_reads' HO390.out).2.2 | (with_reducible refine Kd.C_alloc ?_ _) | (with_reducible refine Kd.C_drewN ?_ _) | (with_reducible refine Kd.C_drew ?_))); (case side2 => exact (Kd.R_reads' HO390.out).2.1); (case side3 => repeat (first | exact (Kd.R_reads' HO409.out).2.2 | (with_reducible refine Kd.C_alloc ?_ _) | (with_reducible refine Kd.C_drewN ?_ _) | (with_reducible refine Kd.C_drew ?_))); (case side4 => exact (Kd.R_reads' HO409.out).2.1); rintro e w49 ⟨rfl, hb⟩; refine ⟨_, rfl, ?_⟩; have n0_ := Aside0.mk (Kd.R_below (by (with_reducible repeat (first | apply Kd.R_alloc | apply Kd.R_drewN | apply Kd.R_drew)); exact HO372.out) hb); have n1_ := Aside0.mk (Kd.R_below (by (with_reducible repeat (first | apply Kd.R_alloc | apply Kd.R_drewN | apply Kd.R_drew)); exact HO382.out) hb); have n2_ := Aside0.mk (Kd.R_below (by (with_reducible repeat (first | apply Kd.R_alloc | apply Kd.R_drewN | apply Kd.R_drew)); exact HO385.out) hb); have n3_ := Aside0.mk (Kd.R_below (by (with_reducible repeat (first | apply Kd.R_alloc | apply Kd.R_drewN | apply Kd.R_drew)); exact HO390.out) hb); have n4_ := Aside0.mk (Kd.R_below (by (with_reducible repeat (first | apply Kd.R_alloc | apply Kd.R_drewN | apply Kd.R_drew)); exact HO400.out) hb); have n5_ := Aside0.mk (Kd.R_below (by (with_reducible repeat (first | apply Kd.R_alloc | apply Kd.R_drewN | apply Kd.R_drew)); exact HO403.out) hb); have n6_ := Aside0.mk (Kd.R_below (by (with_reducible repeat (first | apply Kd.R_alloc | apply Kd.R_drewN | apply Kd.R_drew)); exact HO409.out) hb); have n7_ := Aside0.mk (Qm (g := gb368) (o := .cells #[.int .i64 a2_0, .int .i64 a2_1, .int .i64 a2_2, .int .i64 a2_3, .int .i64 a2_4, .int .i64 a2_5, .bool a2_6] 40 (0, 0)) (by (with_reducible repeat (first | refine Qi ?_ _ | refine Qj ?_ | refine Qh ?_ _)); exact BK368.out) hb); have n8_ := Aside0.mk (Qm (g := gb387) (o := .cells #[.slice Ao28 t380.length co28, .slice Ao30 t383.length co30, .int .i64 t386] 34 (0, 0)) (by (with_reducible repeat (first | refine Qi ?_ _ | refine Qj ?_ | refine Qh ?_ _)); exact BK387.out) hb); have n9_ := Aside0.mk (Qm (g := gb405) (o := .cells #[.slice Ao40 t398.length co40, .slice Ao44 t401.length co44, .int .i64 t404] 34 (0, 0)) (by (with_reducible repeat (first | refine Qi ?_ _ | refine Qj ?_ | refine Qh ?_ _)); exact BK405.out) hb); have n10_ := Aside0.mk (Qn (by repeat (first | (with_reducible first | exact HB.out | apply Qg | apply Qb | apply Qe | refine Qc ?_ GE368.out | refine Qc ?_ GE387.out | refine Qc ?_ GE405.out) | exact HB.out)) hb); clear HO372; clear HO382; clear HO385; clear HO390; clear HO400; clear HO403; clear HO409; clear BK368; clear BK387; clear BK405; clear HB; have HO372 := n0_; have HO382 := n1_; have HO385 := n2_; have HO390 := n3_; have HO400 := n4_; have HO403 := n5_; have HO409 := n6_; have BK368 := n7_; have BK387 := n8_; have BK405 := n9_; have HB := n10_; clear n0_ n1_ n2_ n3_ n4_ n5_ n6_ n7_ n8_ n9_ n10_; (try clear hb); (try clear hb2); (try clear hk); (try clear hi)) | ((with_reducible refine Qq (f := 19) rfl ?_); refine Qx (some 44) rfl rfl Try.func19 (by kernel_rfl) rfl #[.slice Ao37 t388.length co37, .int .i64 1] rfl (by (try simp only [List.map_toArray, List.map_cons, List.map_nil]); first | done | rfl | (simp only [List.length_drop, List.length_take]; rfl)) ?_; (with_reducible refine (laws_markHeldS.calls k (fun k_ => some k_ = (.slice Ao37 t388.length co37 : Value).ownBlock) (.slice Ao37 t388.length co37) t388 1 t411 t412 w _ ?side1 ?side2 A18.out).mono ?_); (case side1 => repeat (first | (with_reducible first | exact HB.out | apply Qg | apply Qb | apply Qe | refine Qc ?_ GE368.out | refine Qc ?_ GE387.out | refine Qc ?_ GE405.out) | exact HB.out)); (case side2 => exact Kd.R_tight rfl HO390.out); rintro e w50 ⟨rfl, hy0, hb, hkp⟩; refine ⟨_, rfl, ?_⟩; have n0_ := Aside0.mk (blk_kept (by (with_reducible repeat (first | refine Qi ?_ _ | refine Qj ?_ | refine Qh ?_ _)); exact BK368.out) hkp (fun hs_ => (fun e_ => (Kd.R_ne HO390.out BK368.out (by decide)) e_) hs_)); have n1_ := Aside0.mk (Kd.R_mono (ok' := fun k_ => some k_ ≠ (.slice Ao28 t380.length co28 : Value).ownBlock ∧ some k_ ≠ (.slice Ao37 t388.length co37 : Value).ownBlock ∧ some k_ ≠ (.slice Ao40 t398.length co40 : Value).ownBlock ∧ some k_ ≠ (.slice Ao48 t407.length co48 : Value).ownBlock) (Kd.R_keptB (HO372.out) hkp (fun k_ hk_ hs_ => (hk_.1.1.2) hs_)) (fun k_ hk_ => ⟨hk_.1.1.1.1, hk_.1.1.1.2, hk_.1.1.2, hk_.1.2⟩)); have n2_ := Aside0.mk (Kd.R_mono (ok' := fun k_ => some k_ ≠ (v371 : Value).ownBlock ∧ some k_ ≠ (.slice Ao37 t388.length co37 : Value).ownBlock ∧ some k_ ≠ (.slice Ao40 t398.length co40 : Value).ownBlock ∧ some k_ ≠ (.slice Ao48 t407.length co48 : Value).ownBlock) (Kd.R_keptB (HO382.out) hkp (fun k_ hk_ hs_ => (hk_.1.1.2) hs_)) (fun k_ hk_ => ⟨hk_.1.1.1.1, hk_.1.1.1.2, hk_.1.1.2, hk_.1.2⟩)); have n3_ := Aside0.mk (Kd.R_mono (ok' := fun k_ => some k_ ≠ (.slice Ao44 t401.length co44 : Value).ownBlock) (Kd.R_keptB ((Kd.R_apart' HO385.out (Kd.R_typed HO390.out) (by decide))) hkp (fun k_ hk_ hs_ => (hk_.2) hs_)) (fun k_ hk_ => hk_.1.1.2)); have n4_ := Aside0.mk (blk_kept (by (with_reducible repeat (first | refine Qi ?_ _ | refine Qj ?_ | refine Qh ?_ _)); exact BK387.out) hkp (fun hs_ => (fun e_ => (Kd.R_ne HO390.out BK387.out (by decide)) e_) hs_)); have n5_ := Aside0.mk (Kd.R_reok rfl hy0 (fun k_ e_ => HO390.out.1 k_ e_)); have n6_ := Aside0.mk (Kd.R_mono (ok' := fun k_ => some k_ ≠ (v371 : Value).ownBlock ∧ some k_ ≠ (.slice Ao28 t380.length co28 : Value).ownBlock ∧ some k_ ≠ (.slice Ao37 t388.length co37 : Value).ownBlock ∧ some k_ ≠ (.slice Ao48 t407.length co48 : Value).ownBlock) (Kd.R_keptB (HO400.out) hkp (fun k_ hk_ hs_ => (hk_.1.2) hs_)) (fun k_ hk_ => ⟨hk_.1.1.1.1.2, hk_.1.1.1.2, hk_.1.1.2, hk_.1.2⟩)); have n7_ := Aside0.mk (Kd.R_mono (ok' := fun k_ => some k_ ≠ (.slice Ao30 t383.length co30 : Value).ownBlock) (Kd.R_keptB ((Kd.R_apart' HO403.out (Kd.R_typed HO390.out) (by decide))) hkp (fun k_ hk_ hs_ => (hk_.2) hs_)) (fun k_ hk_ => hk_.1.1.2)); have n8_ := Aside0.mk (blk_kept (by (with_reducible repeat (first | refine Qi ?_ _ | refine Qj ?_ | refine Qh ?_ _)); exact BK405.out) hkp (fun hs_ => (fun e_ => (Kd.R_ne HO390.out BK405.out (by decide)) e_) hs_)); have n9_ := Aside0.mk (Kd.R_mono (ok' := fun k_ => some k_ ≠ (v371 : Value).ownBlock ∧ some k_ ≠ (.slice Ao28 t380.length co28 : Value).ownBlock ∧ some k_ ≠ (.slice Ao37 t388.length co37 : Value).ownBlock ∧ some k_ ≠ (.slice Ao40 t398.length co40 : Value).ownBlock) (Kd.R_keptB (HO409.out) hkp (fun k_ hk_ hs_ => (hk_.1.2) hs_)) (fun k_ hk_ => ⟨hk_.1.1.1.1.2, hk_.1.1.1.2, hk_.1.1.2, hk_.1.2⟩)); have n10_ := Aside0.mk (hb); clear BK368; clear HO372; clear HO382; clear HO385; clear BK387; clear HO390; clear HO400; clear HO403; clear BK405; clear HO409; clear HB; have BK368 := n0_; have HO372 := n1_; have HO382 := n2_; have HO385 := n3_; have BK387 := n4_; have HO390 := n5_; have HO400 := n6_; have HO403 := n7_; have BK405 := n8_; have HO409 := n9_; have HB := n10_; clear n0_ n1_ n2_ n3_ n4_ n5_ n6_ n7_ n8_ n9_ n10_; (try clear hb); (try clear hkp); (try clear hy0)))
    (try simp only [Act.put, List.setIfInBounds_toArray, List.set_cons_zero, List.set_cons_succ])
    go_cut [52] (fun v52 wc => ∃ (kq : Nat) (x52_18 : Bool), v52 = .bool x52_18 ∧ Aside0 (laws_FnExactRibPut.j0 kq l0 a1 x52_18 a2_0 a2_1 a2_2 a2_3 a2_4 a2_5 a2_6 t380 t383 t386 t398 t401 t404 = some true) ∧ Aside0 (kq ≤ k) ∧ Aside0 (Kd.R k73 73 wc w.heap.size (fun k_ => some k_ ≠ ((.slice Ao40 t398.length co40) : Value).ownBlock) (.slice Ao28 t380.length co28) t380) ∧ Aside0 (Kd.R k42 42 wc w.heap.size (fun k_ => some k_ ≠ ((.slice Ao44 t401.length co44) : Value).ownBlock) (.slice Ao30 t383.length co30) t383) ∧ Aside0 (Kd.R k73 73 wc w.heap.size (fun k_ => some k_ ≠ ((.slice Ao28 t380.length co28) : Value).ownBlock) (.slice Ao40 t398.length co40) t398) ∧ Aside0 (Kd.R k42 42 wc w.heap.size (fun k_ => some k_ ≠ ((.slice Ao30 t383.length co30) : Value).ownBlock) (.slice Ao44 t401.length co44) t401) ∧ Aside0 (wc.heap[gb368]? = some (.cells #[.int .i64 a2_0, .int .i64 a2_1, .int .i64 a2_2, .int .i64 a2_3, .int .i64 a2_4, .int .i64 a2_5, .bool a2_6] 40 (0, 0))) ∧ Aside0 (wc.heap[gb387]? = some (.cells #[(.slice Ao28 t380.length co28), (.slice Ao30 t383.length co30), .int .i64 t386] 34 (0, 0))) ∧ Aside0 (wc.heap[gb405]? = some (.cells #[(.slice Ao40 t398.length co40), (.slice Ao44 t401.length co44), .int .i64 t404] 34 (0, 0))) ∧ Aside0 (Below w.heap.size w wc))
    case first =>
     have H := HC19.out
     clear HC19
     by_cases c51 : t411 < 0
     ·rw [if_pos c51] at H
      have c51b0 : decide (t411 < 0) = true := decide_eq_true c51
      clear c51
      (first | rw [c51b0] | (simp only [Qr, Qt]; rw [c51b0]) | skip)
      have H' := Aside0.mk H
      clear H
      go_wp2
      go_meet
      case rel => exact ⟨_, (true), (by first | rfl | (simp; done) | (simp [*]; done)), H', ⟨by first | omega | exact Nat.le_refl _⟩, ⟨by (with_reducible repeat (first | apply Kd.R_alloc | apply Kd.R_drewN | apply Kd.R_drew)); exact Kd.R_mono HO382.out (fun _ hk => hk.2.2.1)⟩, ⟨by (with_reducible repeat (first | apply Kd.R_alloc | apply Kd.R_drewN | apply Kd.R_drew)); exact HO385.out⟩, ⟨by (with_reducible repeat (first | apply Kd.R_alloc | apply Kd.R_drewN | apply Kd.R_drew)); exact Kd.R_mono HO400.out (fun _ hk => hk.2.1)⟩, ⟨by (with_reducible repeat (first | apply Kd.R_alloc | apply Kd.R_drewN | apply Kd.R_drew)); exact HO403.out⟩, ⟨by (with_reducible repeat (first | refine Qi ?_ _ | refine Qj ?_ | refine Qh ?_ _)); exact BK368.out⟩, ⟨by (with_reducible repeat (first | refine Qi ?_ _ | refine Qj ?_ | refine Qh ?_ _)); exact BK387.out⟩, ⟨by (with_reducible repeat (first | refine Qi ?_ _ | refine Qj ?_ | refine Qh ?_ _)); exact BK405.out⟩, ⟨by repeat (first | (with_reducible first | exact HB.out | apply Qg | apply Qb | apply Qe | refine Qc ?_ GE368.out | refine Qc ?_ GE387.out | refine Qc ?_ GE405.out) | exact HB.out)⟩⟩
     ·rw [if_neg c51] at H
      have c51b0 : decide (t411 < 0) = false := decide_eq_false c51
      clear c51
      (first | rw [c51b0] | (simp only [Qr, Qt]; rw [c51b0]) | skip)
      replace H := Option.bind_eq_some_iff.mp H
      obtain ⟨t413, A520, H⟩ := H
      replace H : (laws_FnExactRibPut.j0 k l0 a1 (!t413) a2_0 a2_1 a2_2 a2_3 a2_4 a2_5 a2_6 t380 t383 t386 t398 t401 t404) = some true := H
      have A52 := Aside0.mk A520
      clear A520
      have H' := Aside0.mk H
      clear H
      have hnb53 := NB405_368.out
      have hnc53 := NB368_405.out
      have hnb54 := NB405_387.out
      have hnc54 := NB387_405.out
      have hcz55_0 : w50.cell? ⟨gb405, 0, none⟩ = some (.slice Ao40 t398.length co40) := (Qa BK405.out 0).trans rfl
      have hcz55_1 : w50.cell? ⟨gb405, 1, none⟩ = some (.slice Ao44 t401.length co44) := (Qa BK405.out 1).trans rfl
      have hcz55_2 : w50.cell? ⟨gb405, 2, none⟩ = some (.int .i64 t404) := (Qa BK405.out 2).trans rfl
      have hfz55_0 := Qd BK405.out 0
      have hfz55_1 := Qd BK405.out 1
      have hfz55_2 := Qd BK405.out 2
      have hnb56 := NB387_368.out
      have hnc56 := NB368_387.out
      have hcz57_0 : w50.cell? ⟨gb387, 0, none⟩ = some (.slice Ao28 t380.length co28) := (Qa BK387.out 0).trans rfl
      have hcz57_1 : w50.cell? ⟨gb387, 1, none⟩ = some (.slice Ao30 t383.length co30) := (Qa BK387.out 1).trans rfl
      have hcz57_2 : w50.cell? ⟨gb387, 2, none⟩ = some (.int .i64 t386) := (Qa BK387.out 2).trans rfl
      have hfz57_0 := Qd BK387.out 0
      have hfz57_1 := Qd BK387.out 1
      have hfz57_2 := Qd BK387.out 2
      go_wp2_with (first | (go_at_call 24; (with_reducible refine (laws_eqRibOut.calls k _ _ t398 _ _ t401 t404 _ _ t380 _ _ t383 t386 t413 _ ?side1 ?side2 ?side3 ?side4 ?side5 ?side6 ?side7 ?side8 A52.out).mono ?_); (case side1 => repeat (first | exact (Kd.R_reads' HO400.out).2.2 | (with_reducible refine Kd.C_alloc ?_ _) | (with_reducible refine Kd.C_drewN ?_ _) | (with_reducible refine Kd.C_drew ?_))); (case side2 => exact (Kd.R_reads' HO400.out).2.1); (case side3 => repeat (first | exact (Kd.R_reads' HO403.out).2.2 | (with_reducible refine Kd.C_alloc ?_ _) | (with_reducible refine Kd.C_drewN ?_ _) | (with_reducible refine Kd.C_drew ?_))); (case side4 => exact (Kd.R_reads' HO403.out).2.1); (case side5 => repeat (first | exact (Kd.R_reads' HO382.out).2.2 | (with_reducible refine Kd.C_alloc ?_ _) | (with_reducible refine Kd.C_drewN ?_ _) | (with_reducible refine Kd.C_drew ?_))); (case side6 => exact (Kd.R_reads' HO382.out).2.1); (case side7 => repeat (first | exact (Kd.R_reads' HO385.out).2.2 | (with_reducible refine Kd.C_alloc ?_ _) | (with_reducible refine Kd.C_drewN ?_ _) | (with_reducible refine Kd.C_drew ?_))); (case side8 => exact (Kd.R_reads' HO385.out).2.1); rintro e w58 ⟨rfl, hb⟩; have n0_ := Aside0.mk (Kd.R_below (by (with_reducible repeat (first | apply Kd.R_alloc | apply Kd.R_drewN | apply Kd.R_drew)); exact HO372.out) hb); have n1_ := Aside0.mk (Kd.R_below (by (with_reducible repeat (first | apply Kd.R_alloc | apply Kd.R_drewN | apply Kd.R_drew)); exact HO382.out) hb); have n2_ := Aside0.mk (Kd.R_below (by (with_reducible repeat (first | apply Kd.R_alloc | apply Kd.R_drewN | apply Kd.R_drew)); exact HO385.out) hb); have n3_ := Aside0.mk (Kd.R_below (by (with_reducible repeat (first | apply Kd.R_alloc | apply Kd.R_drewN | apply Kd.R_drew)); exact HO390.out) hb); have n4_ := Aside0.mk (Kd.R_below (by (with_reducible repeat (first | apply Kd.R_alloc | apply Kd.R_drewN | apply Kd.R_drew)); exact HO400.out) hb); have n5_ := Aside0.mk (Kd.R_below (by (with_reducible repeat (first | apply Kd.R_alloc | apply Kd.R_drewN | apply Kd.R_drew)); exact HO403.out) hb); have n6_ := Aside0.mk (Kd.R_below (by (with_reducible repeat (first | apply Kd.R_alloc | apply Kd.R_drewN | apply Kd.R_drew)); exact HO409.out) hb); have n7_ := Aside0.mk (Qm (g := gb368) (o := .cells #[.int .i64 a2_0, .int .i64 a2_1, .int .i64 a2_2, .int .i64 a2_3, .int .i64 a2_4, .int .i64 a2_5, .bool a2_6] 40 (0, 0)) (by (with_reducible repeat (first | refine Qi ?_ _ | refine Qj ?_ | refine Qh ?_ _)); exact BK368.out) hb); have n8_ := Aside0.mk (Qm (g := gb387) (o := .cells #[.slice Ao28 t380.length co28, .slice Ao30 t383.length co30, .int .i64 t386] 34 (0, 0)) (by (with_reducible repeat (first | refine Qi ?_ _ | refine Qj ?_ | refine Qh ?_ _)); exact BK387.out) hb); have n9_ := Aside0.mk (Qm (g := gb405) (o := .cells #[.slice Ao40 t398.length co40, .slice Ao44 t401.length co44, .int .i64 t404] 34 (0, 0)) (by (with_reducible repeat (first | refine Qi ?_ _ | refine Qj ?_ | refine Qh ?_ _)); exact BK405.out) hb); have n10_ := Aside0.mk (Qn (by repeat (first | (with_reducible first | exact HB.out | apply Qg | apply Qb | apply Qe | refine Qc ?_ GE368.out | refine Qc ?_ GE387.out | refine Qc ?_ GE405.out) | exact HB.out)) hb); clear HO372; clear HO382; clear HO385; clear HO390; clear HO400; clear HO403; clear HO409; clear BK368; clear BK387; clear BK405; clear HB; have HO372 := n0_; have HO382 := n1_; have HO385 := n2_; have HO390 := n3_; have HO400 := n4_; have HO403 := n5_; have HO409 := n6_; have BK368 := n7_; have BK387 := n8_; have BK405 := n9_; have HB := n10_; clear n0_ n1_ n2_ n3_ n4_ n5_ n6_ n7_ n8_ n9_ n10_; (try clear hb); (try clear hb2); (try clear hk); (try clear hi)))
      go_meet
      case rel => exact ⟨_, (!t413), (by first | rfl | (simp; done) | (simp [*]; done)), H', ⟨by first | omega | exact Nat.le_refl _⟩, ⟨by (with_reducible repeat (first | apply Kd.R_alloc | apply Kd.R_drewN | apply Kd.R_drew)); exact Kd.R_mono HO382.out (fun _ hk => hk.2.2.1)⟩, ⟨by (with_reducible repeat (first | apply Kd.R_alloc | apply Kd.R_drewN | apply Kd.R_drew)); exact HO385.out⟩, ⟨by (with_reducible repeat (first | apply Kd.R_alloc | apply Kd.R_drewN | apply Kd.R_drew)); exact Kd.R_mono HO400.out (fun _ hk => hk.2.1)⟩, ⟨by (with_reducible repeat (first | apply Kd.R_alloc | apply Kd.R_drewN | apply Kd.R_drew)); exact HO403.out⟩, ⟨by (with_reducible repeat (first | refine Qi ?_ _ | refine Qj ?_ | refine Qh ?_ _)); exact BK368.out⟩, ⟨by (with_reducible repeat (first | refine Qi ?_ _ | refine Qj ?_ | refine Qh ?_ _)); exact BK387.out⟩, ⟨by (with_reducible repeat (first | refine Qi ?_ _ | refine Qj ?_ | refine Qh ?_ _)); exact BK405.out⟩, ⟨by repeat (first | (with_reducible first | exact HB.out | apply Qg | apply Qb | apply Qe | refine Qc ?_ GE368.out | refine Qc ?_ GE387.out | refine Qc ?_ GE405.out) | exact HB.out)⟩⟩
    case rest =>
     clear HC19
     try clear c1
     try clear c2
     try clear p2
     try clear c3
     try clear c4
     try clear c5
     try clear c7
     try clear c13
     try clear c14
     try clear c15
     try clear c17
     try clear c18
     try clear c19
     try clear c24
     try clear c30
     try clear c32
     try clear c33
     try clear c34
     try clear c41
     try clear c42
     try clear c51
     try clear c51b0
     try clear c53
     try clear c54
     try clear c56
     try clear hcz35_0
     try clear hcz35_1
     try clear hcz35_2
     try clear hcz35_3
     try clear hcz35_4
     try clear hcz35_5
     try clear hcz35_6
     try clear hcz43_0
     try clear hcz43_1
     try clear hcz43_2
     try clear hcz45_0
     try clear hcz45_1
     try clear hcz45_2
     try clear hcz55_0
     try clear hcz55_1
     try clear hcz55_2
     try clear hcz57_0
     try clear hcz57_1
     try clear hcz57_2
     try clear hfz35_0
     try clear hfz35_1
     try clear hfz35_2
     try clear hfz35_3
     try clear hfz35_4
     try clear hfz35_5
     try clear hfz35_6
     try clear hfz43_0
     try clear hfz43_1
     try clear hfz43_2
     try clear hfz45_0
     try clear hfz45_1
     try clear hfz45_2
     try clear hfz55_0
     try clear hfz55_1
     try clear hfz55_2
     try clear hfz57_0
     try clear hfz57_1
     try clear hfz57_2
     obtain ⟨kq, x52_18, rfl, HA, HJ18, HO_388000, HO_388001, HO_406000, HO_406001, BK368, BK387, BK405, HB⟩ := hcut
     cases kq with
     | zero => exact absurd HA.out (by simp [laws_FnExactRibPut.j0])
     | succ kj18 =>
      have H := HA.out
      clear HA
      simp only [laws_FnExactRibPut.j0] at H
      by_cases c59 : x52_18 = true
      ·subst c59
       have H1 : (some false) = some true := by rw [if_pos rfl] at H; exact H
       clear H
       have H := H1
       clear H1
       exact absurd (Option.some.inj H) (by decide)
      ·replace c59 := Bool.eq_false_iff.mpr c59
       subst c59
       have H1 : ((laws_markRibOut.f kj18 t398 t401 t404 1).bind fun bt414 => ((laws_heldRibOut.f kj18 bt414.2.1 bt414.2.2 t404 1).bind fun t417 => (if t417 < 0 then (some false) else (if t417 = bt414.1 then ((laws_toHeldS.f kj18 l0).bind fun t418 => ((laws_toRoute.f a2_0 a2_1 a2_2 a2_3 a2_4 a2_5 a2_6).bind fun bt421 => ((impl_RibPut.f kj18 t418 a1 bt421.1 bt421.2.1 bt421.2.2.1 bt421.2.2.2.1 bt421.2.2.2.2.1 bt421.2.2.2.2.2.1 bt421.2.2.2.2.2.2).bind fun bt428 => ((laws_eqRibOut.f kj18 bt428.1 bt428.2.1 bt428.2.2 t380 t383 t386).bind fun t436 => (if t436 = true then ((laws_heldRibOut.f kj18 bt414.2.1 bt414.2.2 t404 1).bind fun t437 => (if t437 < 0 then (some false) else (if t437 = bt414.1 then (some true) else (some false)))) else (some false)))))) else (some false))))) = some true := by rw [if_neg (show ¬ (false = true) by decide)] at H; exact H
       clear H
       have H := H1
       clear H1
       replace H := Option.bind_eq_some_iff.mp H
       obtain ⟨⟨t414, t415, t416⟩, A600, H⟩ := H
       replace H : ((laws_heldRibOut.f kj18 t415 t416 t404 1).bind fun t417 => (if t417 < 0 then (some false) else (if t417 = t414 then ((laws_toHeldS.f kj18 l0).bind fun t418 => ((laws_toRoute.f a2_0 a2_1 a2_2 a2_3 a2_4 a2_5 a2_6).bind fun bt421 => ((impl_RibPut.f kj18 t418 a1 bt421.1 bt421.2.1 bt421.2.2.1 bt421.2.2.2.1 bt421.2.2.2.2.1 bt421.2.2.2.2.2.1 bt421.2.2.2.2.2.2).bind fun bt428 => ((laws_eqRibOut.f kj18 bt428.1 bt428.2.1 bt428.2.2 t380 t383 t386).bind fun t436 => (if t436 = true then ((laws_heldRibOut.f kj18 t415 t416 t404 1).bind fun t437 => (if t437 < 0 then (some false) else (if t437 = t414 then (some true) else (some false)))) else (some false)))))) else (some false)))) = some true := H
       have A60 := Aside0.mk A600
       clear A600
       replace H := Option.bind_eq_some_iff.mp H
       obtain ⟨t417, A610, H⟩ := H
       replace H : (if t417 < 0 then (some false) else (if t417 = t414 then ((laws_toHeldS.f kj18 l0).bind fun t418 => ((laws_toRoute.f a2_0 a2_1 a2_2 a2_3 a2_4 a2_5 a2_6).bind fun bt421 => ((impl_RibPut.f kj18 t418 a1 bt421.1 bt421.2.1 bt421.2.2.1 bt421.2.2.2.1 bt421.2.2.2.2.1 bt421.2.2.2.2.2.1 bt421.2.2.2.2.2.2).bind fun bt428 => ((laws_eqRibOut.f kj18 bt428.1 bt428.2.1 bt428.2.2 t380 t383 t386).bind fun t436 => (if t436 = true then ((laws_heldRibOut.f kj18 t415 t416 t404 1).bind fun t437 => (if t437 < 0 then (some false) else (if t437 = t414 then (some true) else (some false)))) else (some false)))))) else (some false))) = some true := H
       have A61 := Aside0.mk A610
       clear A610
       by_cases c62 : t417 < 0
       ·rw [if_pos c62] at H
        have c62b0 : decide (t417 < 0) = true := decide_eq_true c62
        clear c62
        exact absurd (Option.some.inj H) (by decide)
       ·rw [if_neg c62] at H
        have c62b0 : decide (t417 < 0) = false := decide_eq_false c62
        clear c62
        by_cases c69 : t417 = t414
        ·rw [if_pos c69] at H
         have c69b0 : (t417 == t414) = true := beq_iff_eq.mpr c69
         have c69b1 : (t417 != t414) = false := bne_eq_false_iff_eq.mpr c69
         clear c69
         replace H := Option.bind_eq_some_iff.mp H
         obtain ⟨t418, A700, H⟩ := H
         replace H : ((laws_toRoute.f a2_0 a2_1 a2_2 a2_3 a2_4 a2_5 a2_6).bind fun bt421 => ((impl_RibPut.f kj18 t418 a1 bt421.1 bt421.2.1 bt421.2.2.1 bt421.2.2.2.1 bt421.2.2.2.2.1 bt421.2.2.2.2.2.1 bt421.2.2.2.2.2.2).bind fun bt428 => ((laws_eqRibOut.f kj18 bt428.1 bt428.2.1 bt428.2.2 t380 t383 t386).bind fun t436 => (if t436 = true then ((laws_heldRibOut.f kj18 t415 t416 t404 1).bind fun t437 => (if t437 < 0 then (some false) else (if t437 = t414 then (some true) else (some false)))) else (some false))))) = some true := H
         have A70 := Aside0.mk A700
         clear A700
         replace H := Option.bind_eq_some_iff.mp H
         obtain ⟨⟨t421, t422, t423, t424, t425, t426, t427⟩, A710, H⟩ := H
         replace H : ((impl_RibPut.f kj18 t418 a1 t421 t422 t423 t424 t425 t426 t427).bind fun bt428 => ((laws_eqRibOut.f kj18 bt428.1 bt428.2.1 bt428.2.2 t380 t383 t386).bind fun t436 => (if t436 = true then ((laws_heldRibOut.f kj18 t415 t416 t404 1).bind fun t437 => (if t437 < 0 then (some false) else (if t437 = t414 then (some true) else (some false)))) else (some false)))) = some true := H
         have A71 := Aside0.mk A710
         clear A710
         replace H := Option.bind_eq_some_iff.mp H
         obtain ⟨⟨t428, t431, t434⟩, A720, H⟩ := H
         replace H : ((laws_eqRibOut.f kj18 t428 t431 t434 t380 t383 t386).bind fun t436 => (if t436 = true then ((laws_heldRibOut.f kj18 t415 t416 t404 1).bind fun t437 => (if t437 < 0 then (some false) else (if t437 = t414 then (some true) else (some false)))) else (some false))) = some true := H
         have A72 := Aside0.mk A720
         clear A720
         replace H := Option.bind_eq_some_iff.mp H
         obtain ⟨t436, A730, H⟩ := H
         replace H : (if t436 = true then ((laws_heldRibOut.f kj18 t415 t416 t404 1).bind fun t437 => (if t437 < 0 then (some false) else (if t437 = t414 then (some true) else (some false)))) else (some false)) = some true := H
         have A73 := Aside0.mk A730
         clear A730
         by_cases c74 : t436 = true
         ·subst c74
          have H1 : ((laws_heldRibOut.f kj18 t415 t416 t404 1).bind fun t437 => (if t437 < 0 then (some false) else (if t437 = t414 then (some true) else (some false)))) = some true := by rw [if_pos rfl] at H; exact H
          clear H
          have H := H1
          clear H1
          replace H := Option.bind_eq_some_iff.mp H
          obtain ⟨t437, A750, H⟩ := H
          replace H : (if t437 < 0 then (some false) else (if t437 = t414 then (some true) else (some false))) = some true := H
          have A75 := Aside0.mk A750
          clear A750
          by_cases c76 : t437 < 0
          ·rw [if_pos c76] at H
           have c76b0 : decide (t437 < 0) = true := decide_eq_true c76
           clear c76
           exact absurd (Option.some.inj H) (by decide)
          ·rw [if_neg c76] at H
           have c76b0 : decide (t437 < 0) = false := decide_eq_false c76
           clear c76
           by_cases c104 : t437 = t414
           ·rw [if_pos c104] at H
            have c104b0 : (t437 == t414) = true := beq_iff_eq.mpr c104
            have c104b1 : (t437 != t414) = false := bne_eq_false_iff_eq.mpr c104
            clear c104
            clear H
            have hnb105 := NB405_368.out
            have hnc105 := NB368_405.out
            have hnb106 := NB405_387.out
            have hnc106 := NB387_405.out
            have hcz107_0 : wc.cell? ⟨gb405, 0, none⟩ = some (.slice Ao40 t398.length co40) := (Qa BK405.out 0).trans rfl
            have hcz107_1 : wc.cell? ⟨gb405, 1, none⟩ = some (.slice Ao44 t401.length co44) := (Qa BK405.out 1).trans rfl
            have hcz107_2 : wc.cell? ⟨gb405, 2, none⟩ = some (.int .i64 t404) := (Qa BK405.out 2).trans rfl
            have hfz107_0 := Qd BK405.out 0
            have hfz107_1 := Qd BK405.out 1
            have hfz107_2 := Qd BK405.out 2
            try go_wp2_with (first | ((with_reducible refine Qq (f := 25) rfl ?_); refine Qx (some 55) rfl rfl Try.func25 (by kernel_rfl) rfl #[.agg #[.slice Ao40 t398.length co40, .slice Ao44 t401.length co44, .int .i64 t404], .int .i64 1] rfl (by (try simp only [List.map_toArray, List.map_cons, List.map_nil]); first | done | rfl | (simp only [List.length_drop, List.length_take]; rfl)) ?_; (with_reducible refine (laws_markRibOut.calls kj18 (fun k_ => some k_ = (.slice Ao40 t398.length co40 : Value).ownBlock) (.slice Ao40 t398.length co40) t398 (fun k_ => some k_ = (.slice Ao44 t401.length co44 : Value).ownBlock) (.slice Ao44 t401.length co44) t401 t404 1 t414 t415 t416 w _ ?side1 ?side2 ?side3 A60.out).mono ?_); (case side1 => repeat (first | (with_reducible first | exact HB.out | apply Qg | apply Qb | apply Qe | refine Qc ?_ GE368.out | refine Qc ?_ GE387.out | refine Qc ?_ GE405.out) | exact HB.out)); (case side2 => exact Kd.R_tight rfl HO_406000.out); (case side3 => exact Kd.R_tight rfl HO_406001.out); rintro e w108 ⟨rfl, hy0, hy1, hb, hkp⟩; refine ⟨_, rfl, ?_⟩; have n0_ := Aside0.mk (Kd.R_mono (ok' := fun k_ => some k_ ≠ (.slice Ao40 t398.length co40 : Value).ownBlock) (Kd.R_keptB ((Kd.R_apart' HO_388000.out (Kd.R_typed HO_406001.out) (by decide))) hkp (fun k_ hk_ hs_ => Or.elim hs_ (fun e_ => (hk_.1) e_) (fun e_ => (hk_.2) e_))) (fun k_ hk_ => hk_.1.1)); have n1_ := Aside0.mk (Kd.R_mono (ok' := fun k_ => some k_ ≠ (.slice Ao44 t401.length co44 : Value).ownBlock) (Kd.R_keptB ((Kd.R_apart' HO_388001.out (Kd.R_typed HO_406000.out) (by decide))) hkp (fun k_ hk_ hs_ => Or.elim hs_ (fun e_ => (hk_.2) e_) (fun e_ => (hk_.1) e_))) (fun k_ hk_ => hk_.1.1)); have n2_ := Aside0.mk (Kd.R_reok rfl hy0 (fun k_ e_ => HO_406000.out.1 k_ e_)); have n3_ := Aside0.mk (Kd.R_reok rfl hy1 (fun k_ e_ => HO_406001.out.1 k_ e_)); have n4_ := Aside0.mk (blk_kept (by (with_reducible repeat (first | refine Qi ?_ _ | refine Qj ?_ | refine Qh ?_ _)); exact BK368.out) hkp (fun hs_ => Or.elim hs_ (fun e_ => (fun e_ => (Kd.R_ne HO_406000.out BK368.out (by decide)) e_) e_) (fun e_ => (fun e_ => (Kd.R_ne HO_406001.out BK368.out (by decide)) e_) e_))); have n5_ := Aside0.mk (blk_kept (by (with_reducible repeat (first | refine Qi ?_ _ | refine Qj ?_ | refine Qh ?_ _)); exact BK387.out) hkp (fun hs_ => Or.elim hs_ (fun e_ => (fun e_ => (Kd.R_ne HO_406000.out BK387.out (by decide)) e_) e_) (fun e_ => (fun e_ => (Kd.R_ne HO_406001.out BK387.out (by decide)) e_) e_))); have n6_ := Aside0.mk (blk_kept (by (with_reducible repeat (first | refine Qi ?_ _ | refine Qj ?_ | refine Qh ?_ _)); exact BK405.out) hkp (fun hs_ => Or.elim hs_ (fun e_ => (fun e_ => (Kd.R_ne HO_406000.out BK405.out (by decide)) e_) e_) (fun e_ => (fun e_ => (Kd.R_ne HO_406001.out BK405.out (by decide)) e_) e_))); have n7_ := Aside0.mk (hb); clear HO_388000; clear HO_388001; clear HO_406000; clear HO_406001; clear BK368; clear BK387; clear BK405; clear HB; have HO_388000 := n0_; have HO_388001 := n1_; have HO_406000 := n2_; have HO_406001 := n3_; have BK368 := n4_; have BK387 := n5_; have BK405 := n6_; have HB := n7_; clear n0_ n1_ n2_ n3_ n4_ n5_ n6_ n7_; (try clear hb); (try clear hkp); (try clear hy0); (try clear hy1); have hcz109_0 : w108.cell? ⟨gb405, 0, none⟩ = some (.slice Ao40 t398.length co40) := (Qa BK405.out 0).trans rfl; have hcz109_1 : w108.cell? ⟨gb405, 1, none⟩ = some (.slice Ao44 t401.length co44) := (Qa BK405.out 1).trans rfl; have hcz109_2 : w108.cell? ⟨gb405, 2, none⟩ = some (.int .i64 t404) := (Qa BK405.out 2).trans rfl; have hfz109_0 := Qd BK405.out 0; have hfz109_1 := Qd BK405.out 1; have hfz109_2 := Qd BK405.out 2) | ((with_reducible refine Qq (f := 26) rfl ?_); refine Qx (some 58) rfl rfl Try.func26 (by kernel_rfl) rfl #[.agg #[.slice Ao40 t415.length co40, .slice Ao44 t416.length co44, .int .i64 t404], .int .i64 1] rfl (by (try simp only [List.map_toArray, List.map_cons, List.map_nil]); first | done | (rw [show t415.length = t398.length from (Kd.R_reads' HO_406000.out).1.symm, show t416.length = t401.length from (Kd.R_reads' HO_406001.out).1.symm] <;> rfl) | rfl | (simp only [List.length_drop, List.length_take]; rfl)) ?_; (with_reducible refine (laws_heldRibOut.calls kj18 _ _ t415 _ _ t416 t404 1 t417 _ ?side1 ?side2 ?side3 ?side4 A61.out).mono ?_); (case side1 => repeat (first | exact (Kd.R_reads' HO_406000.out).2.2 | (with_reducible refine Kd.C_alloc ?_ _) | (with_reducible refine Kd.C_drewN ?_ _) | (with_reducible refine Kd.C_drew ?_))); (case side2 => rw [show t415.length = t398.length from (Kd.R_reads' HO_406000.out).1.symm]; exact (Kd.R_reads' HO_406000.out).2.1); (case side3 => repeat (first | exact (Kd.R_reads' HO_406001.out).2.2 | (with_reducible refine Kd.C_alloc ?_ _) | (with_reducible refine Kd.C_drewN ?_ _) | (with_reducible refine Kd.C_drew ?_))); (case side4 => rw [show t416.length = t401.length from (Kd.R_reads' HO_406001.out).1.symm]; exact (Kd.R_reads' HO_406001.out).2.1); rintro e w110 ⟨rfl, hb⟩; refine ⟨_, rfl, ?_⟩; have n0_ := Aside0.mk (Kd.R_below (by (with_reducible repeat (first | apply Kd.R_alloc | apply Kd.R_drewN | apply Kd.R_drew)); exact HO_388000.out) hb); have n1_ := Aside0.mk (Kd.R_below (by (with_reducible repeat (first | apply Kd.R_alloc | apply Kd.R_drewN | apply Kd.R_drew)); exact HO_388001.out) hb); have n2_ := Aside0.mk (Kd.R_below (by (with_reducible repeat (first | apply Kd.R_alloc | apply Kd.R_drewN | apply Kd.R_drew)); exact HO_406000.out) hb); have n3_ := Aside0.mk (Kd.R_below (by (with_reducible repeat (first | apply Kd.R_alloc | apply Kd.R_drewN | apply Kd.R_drew)); exact HO_406001.out) hb); have n4_ := Aside0.mk (Qm (g := gb368) (o := .cells #[.int .i64 a2_0, .int .i64 a2_1, .int .i64 a2_2, .int .i64 a2_3, .int .i64 a2_4, .int .i64 a2_5, .bool a2_6] 40 (0, 0)) (by (with_reducible repeat (first | refine Qi ?_ _ | refine Qj ?_ | refine Qh ?_ _)); exact BK368.out) hb); have n5_ := Aside0.mk (Qm (g := gb387) (o := .cells #[.slice Ao28 t380.length co28, .slice Ao30 t383.length co30, .int .i64 t386] 34 (0, 0)) (by (with_reducible repeat (first | refine Qi ?_ _ | refine Qj ?_ | refine Qh ?_ _)); exact BK387.out) hb); have n6_ := Aside0.mk (Qm (g := gb405) (o := .cells #[.slice Ao40 t398.length co40, .slice Ao44 t401.length co44, .int .i64 t404] 34 (0, 0)) (by (with_reducible repeat (first | refine Qi ?_ _ | refine Qj ?_ | refine Qh ?_ _)); exact BK405.out) hb); have n7_ := Aside0.mk (Qn (by repeat (first | (with_reducible first | exact HB.out | apply Qg | apply Qb | apply Qe | refine Qc ?_ GE368.out | refine Qc ?_ GE387.out | refine Qc ?_ GE405.out) | exact HB.out)) hb); clear HO_388000; clear HO_388001; clear HO_406000; clear HO_406001; clear BK368; clear BK387; clear BK405; clear HB; have HO_388000 := n0_; have HO_388001 := n1_; have HO_406000 := n2_; have HO_406001 := n3_; have BK368 := n4_; have BK387 := n5_; have BK405 := n6_; have HB := n7_; clear n0_ n1_ n2_ n3_ n4_ n5_ n6_ n7_; (try clear hb); (try clear hb2); (try clear hk); (try clear hi)))
            have n0_ := Aside0.mk (Kd.R_drew HO_388000.out)
            have n1_ := Aside0.mk (Kd.R_drew HO_388001.out)
            have n2_ := Aside0.mk (Kd.R_drew HO_406000.out)
            have n3_ := Aside0.mk (Kd.R_drew HO_406001.out)
            have n4_ := Aside0.mk (Qj BK368.out)
            have n5_ := Aside0.mk (Qj BK387.out)
            have n6_ := Aside0.mk (Qj BK405.out)
            have n7_ := Aside0.mk (Qe HB.out)
            clear HO_388000
            clear HO_388001
            clear HO_406000
            clear HO_406001
            clear BK368
            clear BK387
            clear BK405
            clear HB
            have HO_388000 := n0_
            have HO_388001 := n1_
            have HO_406000 := n2_
            have HO_406001 := n3_
            have BK368 := n4_
            have BK387 := n5_
            have BK405 := n6_
            have HB := n7_
            clear n0_ n1_ n2_ n3_ n4_ n5_ n6_ n7_
            refine start_ (n := 8) (S := fun w' => w'.cell? ⟨gb368, 0, none⟩ = some (.int .i64 a2_0) ∧ w'.cell? ⟨gb368, 1, none⟩ = some (.int .i64 a2_1) ∧ w'.cell? ⟨gb368, 2, none⟩ = some (.int .i64 a2_2) ∧ w'.cell? ⟨gb368, 3, none⟩ = some (.int .i64 a2_3) ∧ w'.cell? ⟨gb368, 4, none⟩ = some (.int .i64 a2_4) ∧ w'.cell? ⟨gb368, 5, none⟩ = some (.int .i64 a2_5) ∧ w'.cell? ⟨gb368, 6, none⟩ = some (.bool a2_6)) (ds := []) #[false, false, false, false, false, false, false, false] (by kernel_rfl) rfl rfl ⟨(Qa BK368.out 0).trans rfl, (Qa BK368.out 1).trans rfl, (Qa BK368.out 2).trans rfl, (Qa BK368.out 3).trans rfl, (Qa BK368.out 4).trans rfl, (Qa BK368.out 5).trans rfl, (Qa BK368.out 6).trans rfl⟩ (fun hHeld => ?_); refine with_tabW laws_FnExactRibPut.tab24 laws_FnExactRibPut.bits24 (fun HT_ HW_ => ?_)
            generalize w110.drew = w111 at HO_388000 HO_388001 HO_406000 HO_406001 BK368 BK387 BK405 HB hHeld ⊢
            refine Qy (i := 0) (N := some 64) (v := ?_) (a' := ?_) #[true, false, false, false, false, false, false, false] rfl rfl (Qv HT_.out (by kernel_rfl)) (fun _ _ _ h => h) (Or.inl ⟨by rfl, ?_⟩) ?_ ?_
            rotate_left
            ·intro w'
             go_simp
             with_reducible rfl
            rotate_left
            ·simp only [Act.put, List.setIfInBounds_toArray, List.set_cons_zero, List.set_cons_succ, Qr, Qt]
             rfl
            refine Qy (i := 2) (N := some 66) (v := ?_) (a' := ?_) #[true, false, true, false, false, false, false, false] rfl rfl (Qv HT_.out (by kernel_rfl)) (fun _ _ _ h => h) (Or.inl ⟨by rfl, ?_⟩) ?_ ?_
            rotate_left
            ·intro w'
             go_simp
             with_reducible rfl
            rotate_left
            ·simp only [Act.put, List.setIfInBounds_toArray, List.set_cons_zero, List.set_cons_succ, Qr, Qt]
             rfl
            refine take_ (i := 3) (N := some 67) (v := ?_) (a' := ?_) #[true, false, true, true, false, false, false, false] rfl rfl (Q5 HT_.out HW_.out (by kernel_rfl)) (fun _ _ _ h => h) (Or.inl ⟨by rfl, ?_⟩) hHeld ?_ ?_
            rotate_left
            ·rintro w' ⟨s0, s1, s2, s3, s4, s5, s6⟩
             go_simp
             with_reducible rfl
            rotate_left
            ·simp only [Act.put, List.setIfInBounds_toArray, List.set_cons_zero, List.set_cons_succ, Qr, Qt]
             rfl
            refine join_ (σ := Value × Value × Value × Nat) 1 #[true, true, true, true, true, true, true, false] (fun s_ => [(65, s_.1), (68, .agg #[.int .i64 t421, .int .i64 t422, .int .i64 t423, .int .i64 t424, .int .i64 t425, .int .i64 t426, .bool t427]), (69, .agg #[s_.2.1, s_.2.2.1, .int .i64 t434]), (14, .pointer (some ⟨s_.2.2.2, 0, none⟩))]) (fun s_ w' => (w'.cell? ⟨gb368, 0, none⟩ = some (.int .i64 a2_0) ∧ w'.cell? ⟨gb368, 1, none⟩ = some (.int .i64 a2_1) ∧ w'.cell? ⟨gb368, 2, none⟩ = some (.int .i64 a2_2) ∧ w'.cell? ⟨gb368, 3, none⟩ = some (.int .i64 a2_3) ∧ w'.cell? ⟨gb368, 4, none⟩ = some (.int .i64 a2_4) ∧ w'.cell? ⟨gb368, 5, none⟩ = some (.int .i64 a2_5) ∧ w'.cell? ⟨gb368, 6, none⟩ = some (.bool a2_6)) ∧ (Kd.R k73 73 w' w.heap.size (fun k_ => some k_ ≠ (s_.2.1 : Value).ownBlock ∧ some k_ ≠ (.slice Ao28 t380.length co28 : Value).ownBlock ∧ some k_ ≠ (.slice Ao40 t398.length co40 : Value).ownBlock) s_.1 t418) ∧ (Kd.R k73 73 w' w.heap.size (fun k_ => some k_ ≠ (s_.1 : Value).ownBlock ∧ some k_ ≠ (.slice Ao28 t380.length co28 : Value).ownBlock ∧ some k_ ≠ (.slice Ao40 t398.length co40 : Value).ownBlock) s_.2.1 t428) ∧ (Kd.R k42 42 w' w.heap.size (fun k_ => some k_ ≠ (.slice Ao30 t383.length co30 : Value).ownBlock ∧ some k_ ≠ (.slice Ao44 t401.length co44 : Value).ownBlock) s_.2.2.1 t431) ∧ (Kd.R k73 73 w' w.heap.size (fun k_ => some k_ ≠ (s_.1 : Value).ownBlock ∧ some k_ ≠ (s_.2.1 : Value).ownBlock ∧ some k_ ≠ (.slice Ao40 t398.length co40 : Value).ownBlock) (.slice Ao28 t380.length co28) t380) ∧ (Kd.R k42 42 w' w.heap.size (fun k_ => some k_ ≠ (s_.2.2.1 : Value).ownBlock ∧ some k_ ≠ (.slice Ao44 t401.length co44 : Value).ownBlock) (.slice Ao30 t383.length co30) t383) ∧ (Kd.R k73 73 w' w.heap.size (fun k_ => some k_ ≠ (s_.1 : Value).ownBlock ∧ some k_ ≠ (s_.2.1 : Value).ownBlock ∧ some k_ ≠ (.slice Ao28 t380.length co28 : Value).ownBlock) (.slice Ao40 t398.length co40) t415) ∧ (Kd.R k42 42 w' w.heap.size (fun k_ => some k_ ≠ (s_.2.2.1 : Value).ownBlock ∧ some k_ ≠ (.slice Ao30 t383.length co30 : Value).ownBlock) (.slice Ao44 t401.length co44) t416) ∧ (w'.heap[gb368]? = some (.cells #[.int .i64 a2_0, .int .i64 a2_1, .int .i64 a2_2, .int .i64 a2_3, .int .i64 a2_4, .int .i64 a2_5, .bool a2_6] 40 (0, 0))) ∧ (w'.heap[gb387]? = some (.cells #[.slice Ao28 t380.length co28, .slice Ao30 t383.length co30, .int .i64 t386] 34 (0, 0))) ∧ (w'.heap[gb405]? = some (.cells #[.slice Ao40 t398.length co40, .slice Ao44 t401.length co44, .int .i64 t404] 34 (0, 0))) ∧ (w'.heap[s_.2.2.2]? = some (.cells #[.slice none 0 0, .slice none 0 0, .int .i64 0] 34 (0, 0))) ∧ (w.heap.size ≤ s_.2.2.2) ∧ (w.heap.size ≤ s_.2.2.2) ∧ (gb368 ≠ s_.2.2.2) ∧ (s_.2.2.2 ≠ gb368) ∧ (gb387 ≠ s_.2.2.2) ∧ (s_.2.2.2 ≠ gb387) ∧ (gb405 ≠ s_.2.2.2) ∧ (s_.2.2.2 ≠ gb405) ∧ (Below w.heap.size w w')) ?_ ?_
            rotate_left
            ·intro hCont
             refine two_ (i := 1) (j := 6) (Ni := some 65) (Nj := some 14) #[true, true, true, true, false, false, false, false] #[true, false, true, true, false, false, true, false] rfl rfl rfl rfl (two_of HT_.out (by kernel_rfl)) (by decide) (by decide) (fun K hK => ?_) (fun K hK => ?_)
             ·skip
              refine goes_ Try.func15 (by kernel_rfl) rfl #[.slice A0 l0.length c0] (by rfl) rfl rfl (by (try simp only [List.map_toArray, List.map_cons, List.map_nil]); first | done | rfl | (simp only [List.length_drop, List.length_take]; rfl)) ?_
              with_reducible refine (laws_toHeldS.calls kj18 _ _ l0 t418 _ ?side1 ?side2 A70.out).mono ?_
              (case side1 => repeat (first | exact (Kd.C_below HR0.out HB.out) | (with_reducible refine Kd.C_alloc ?_ _) | (with_reducible refine Kd.C_drewN ?_ _) | (with_reducible refine Kd.C_drew ?_)))
              (case side2 => exact HC0.out)
              rintro e w112 ⟨v419, rfl, ho0, hb⟩
              refine ⟨_, rfl, ?_⟩
              have n0_ := Aside0.mk (Kd.R_elder' (by (with_reducible repeat (first | apply Kd.R_alloc | apply Kd.R_drewN | apply Kd.R_drew)); exact HO_388000.out) (Kd.R_base ho0) hb)
              have n1_ := Aside0.mk (Kd.R_below (by (with_reducible repeat (first | apply Kd.R_alloc | apply Kd.R_drewN | apply Kd.R_drew)); exact HO_388001.out) hb)
              have n2_ := Aside0.mk (Kd.R_elder' (by (with_reducible repeat (first | apply Kd.R_alloc | apply Kd.R_drewN | apply Kd.R_drew)); exact HO_406000.out) (Kd.R_base ho0) hb)
              have n3_ := Aside0.mk (Kd.R_below (by (with_reducible repeat (first | apply Kd.R_alloc | apply Kd.R_drewN | apply Kd.R_drew)); exact HO_406001.out) hb)
              have n4_ := Aside0.mk (Kd.R_lower (Kd.R_new' (Kd.R_new' ho0 (Kd.R_lt (by (with_reducible repeat (first | apply Kd.R_alloc | apply Kd.R_drewN | apply Kd.R_drew)); exact HO_388000.out))) (Kd.R_lt (by (with_reducible repeat (first | apply Kd.R_alloc | apply Kd.R_drewN | apply Kd.R_drew)); exact HO_406000.out))) (Ql (by repeat (first | (with_reducible first | exact HB.out | apply Qg | apply Qb | apply Qe | refine Qc ?_ GE368.out | refine Qc ?_ GE387.out | refine Qc ?_ GE405.out) | exact HB.out))))
              have n5_ := Aside0.mk (Qm (g := gb368) (o := .cells #[.int .i64 a2_0, .int .i64 a2_1, .int .i64 a2_2, .int .i64 a2_3, .int .i64 a2_4, .int .i64 a2_5, .bool a2_6] 40 (0, 0)) (by (with_reducible repeat (first | refine Qi ?_ _ | refine Qj ?_ | refine Qh ?_ _)); exact BK368.out) hb)
              have n6_ := Aside0.mk (Qm (g := gb387) (o := .cells #[.slice Ao28 t380.length co28, .slice Ao30 t383.length co30, .int .i64 t386] 34 (0, 0)) (by (with_reducible repeat (first | refine Qi ?_ _ | refine Qj ?_ | refine Qh ?_ _)); exact BK387.out) hb)
              have n7_ := Aside0.mk (Qm (g := gb405) (o := .cells #[.slice Ao40 t398.length co40, .slice Ao44 t401.length co44, .int .i64 t404] 34 (0, 0)) (by (with_reducible repeat (first | refine Qi ?_ _ | refine Qj ?_ | refine Qh ?_ _)); exact BK405.out) hb)
              have n8_ := Aside0.mk (Qn (by repeat (first | (with_reducible first | exact HB.out | apply Qg | apply Qb | apply Qe | refine Qc ?_ GE368.out | refine Qc ?_ GE387.out | refine Qc ?_ GE405.out) | exact HB.out)) hb)
              clear HO_388000
              clear HO_388001
              clear HO_406000
              clear HO_406001
              clear BK368
              clear BK387
              clear BK405
              clear HB
              have HO_388000 := n0_
              have HO_388001 := n1_
              have HO_406000 := n2_
              have HO_406001 := n3_
              have HO420 := n4_
              have BK368 := n5_
              have BK387 := n6_
              have BK405 := n7_
              have HB := n8_
              clear n0_ n1_ n2_ n3_ n4_ n5_ n6_ n7_ n8_
              (try clear hb)
              (try clear hb2)
              (try clear hk)
              (try clear hi)
              (try clear ho0)
              refine hK.out _ _ ⟨(Qa BK368.out 0).trans rfl, (Qa BK368.out 1).trans rfl, (Qa BK368.out 2).trans rfl, (Qa BK368.out 3).trans rfl, (Qa BK368.out 4).trans rfl, (Qa BK368.out 5).trans rfl, (Qa BK368.out 6).trans rfl⟩ (fun hHeld => ?_)
              clear hK K
              refine Q4 (a' := ?_) ?_ ?_
              rotate_left
              ·show Act.put _ (some 65) _ = _
               simp only [Act.put, List.setIfInBounds_toArray, List.set_cons_zero, List.set_cons_succ, Qr, Qt]
               rfl
              refine two_ (i := 4) (j := 6) (Ni := some 68) (Nj := some 14) #[true, true, true, true, true, false, false, false] #[true, true, true, true, false, false, true, false] rfl rfl rfl rfl (two_of HT_.out (by kernel_rfl)) (by decide) (by decide) (fun K hK => ?_) (fun K hK => ?_)
              ·skip
               refine goes_ Try.func30 (by kernel_rfl) rfl #[.agg #[.int .i64 a2_0, .int .i64 a2_1, .int .i64 a2_2, .int .i64 a2_3, .int .i64 a2_4, .int .i64 a2_5, .bool a2_6]] (by rfl) rfl rfl (by (try simp only [List.map_toArray, List.map_cons, List.map_nil]); first | done | rfl | (simp only [List.length_drop, List.length_take]; rfl)) ?_
               with_reducible refine (laws_toRoute.calls a2_0 a2_1 a2_2 a2_3 a2_4 a2_5 a2_6 t421 t422 t423 t424 t425 t426 t427 _ A71.out).mono ?_
               rintro e w113 ⟨rfl, hb⟩
               refine ⟨_, rfl, ?_⟩
               have n0_ := Aside0.mk (Kd.R_below (by (with_reducible repeat (first | apply Kd.R_alloc | apply Kd.R_drewN | apply Kd.R_drew)); exact HO_388000.out) hb)
               have n1_ := Aside0.mk (Kd.R_below (by (with_reducible repeat (first | apply Kd.R_alloc | apply Kd.R_drewN | apply Kd.R_drew)); exact HO_388001.out) hb)
               have n2_ := Aside0.mk (Kd.R_below (by (with_reducible repeat (first | apply Kd.R_alloc | apply Kd.R_drewN | apply Kd.R_drew)); exact HO_406000.out) hb)
               have n3_ := Aside0.mk (Kd.R_below (by (with_reducible repeat (first | apply Kd.R_alloc | apply Kd.R_drewN | apply Kd.R_drew)); exact HO_406001.out) hb)
               have n4_ := Aside0.mk (Kd.R_below (by (with_reducible repeat (first | apply Kd.R_alloc | apply Kd.R_drewN | apply Kd.R_drew)); exact HO420.out) hb)
               have n5_ := Aside0.mk (Qm (g := gb368) (o := .cells #[.int .i64 a2_0, .int .i64 a2_1, .int .i64 a2_2, .int .i64 a2_3, .int .i64 a2_4, .int .i64 a2_5, .bool a2_6] 40 (0, 0)) (by (with_reducible repeat (first | refine Qi ?_ _ | refine Qj ?_ | refine Qh ?_ _)); exact BK368.out) hb)
               have n6_ := Aside0.mk (Qm (g := gb387) (o := .cells #[.slice Ao28 t380.length co28, .slice Ao30 t383.length co30, .int .i64 t386] 34 (0, 0)) (by (with_reducible repeat (first | refine Qi ?_ _ | refine Qj ?_ | refine Qh ?_ _)); exact BK387.out) hb)
               have n7_ := Aside0.mk (Qm (g := gb405) (o := .cells #[.slice Ao40 t398.length co40, .slice Ao44 t401.length co44, .int .i64 t404] 34 (0, 0)) (by (with_reducible repeat (first | refine Qi ?_ _ | refine Qj ?_ | refine Qh ?_ _)); exact BK405.out) hb)
               have n8_ := Aside0.mk (Qn (by repeat (first | (with_reducible first | exact HB.out | apply Qg | apply Qb | apply Qe | refine Qc ?_ GE368.out | refine Qc ?_ GE387.out | refine Qc ?_ GE405.out) | exact HB.out)) hb)
               clear HO_388000
               clear HO_388001
               clear HO_406000
               clear HO_406001
               clear HO420
               clear BK368
               clear BK387
               clear BK405
               clear HB
               have HO_388000 := n0_
               have HO_388001 := n1_
               have HO_406000 := n2_
               have HO_406001 := n3_
               have HO420 := n4_
               have BK368 := n5_
               have BK387 := n6_
               have BK405 := n7_
               have HB := n8_
               clear n0_ n1_ n2_ n3_ n4_ n5_ n6_ n7_ n8_
               (try clear hb)
               (try clear hb2)
               (try clear hk)
               (try clear hi)
               obtain ⟨Ao114, co114, eo114⟩ := Kd.R_slice HO420.out
               (first | subst eo114 | (injection eo114 with f1_ f2_ f3_; have f4_ := f1_.symm; have f5_ := f3_.symm; clear f1_ f2_ f3_; subst f4_; subst f5_))
               refine hK.out _ _ ⟨(Qa BK368.out 0).trans rfl, (Qa BK368.out 1).trans rfl, (Qa BK368.out 2).trans rfl, (Qa BK368.out 3).trans rfl, (Qa BK368.out 4).trans rfl, (Qa BK368.out 5).trans rfl, (Qa BK368.out 6).trans rfl⟩ (fun hHeld => ?_)
               clear hK K
               refine Q4 (a' := ?_) ?_ ?_
               rotate_left
               ·show Act.put _ (some 68) _ = _
                simp only [Act.put, List.setIfInBounds_toArray, List.set_cons_zero, List.set_cons_succ, Qr, Qt]
                rfl
               refine two_ (i := 5) (j := 6) (Ni := some 69) (Nj := some 14) #[true, true, true, true, true, true, false, false] #[true, true, true, true, true, false, true, false] rfl rfl rfl rfl (two_of HT_.out (by kernel_rfl)) (by decide) (by decide) (fun K hK => ?_) (fun K hK => ?_)
               ·skip
                refine goes_ Try.func33 (by kernel_rfl) rfl #[.slice Ao114 t418.length co114, .int .i64 a1, .agg #[.int .i64 t421, .int .i64 t422, .int .i64 t423, .int .i64 t424, .int .i64 t425, .int .i64 t426, .bool t427]] (by rfl) rfl rfl (by (try simp only [List.map_toArray, List.map_cons, List.map_nil]); first | done | rfl | (simp only [List.length_drop, List.length_take]; rfl)) ?_
                with_reducible refine (impl_RibPut.calls kj18 _ _ t418 a1 t421 t422 t423 t424 t425 t426 t427 t428 t431 t434 _ ?side1 ?side2 A72.out).mono ?_
                (case side1 => repeat (first | exact (Kd.R_reads' HO420.out).2.2 | (with_reducible refine Kd.C_alloc ?_ _) | (with_reducible refine Kd.C_drewN ?_ _) | (with_reducible refine Kd.C_drew ?_)))
                (case side2 => exact (Kd.R_reads' HO420.out).2.1)
                rintro e w115 ⟨v429, v432, rfl, ho0, ho1, hb⟩
                refine ⟨_, rfl, ?_⟩
                have n0_ := Aside0.mk (Kd.R_elder' (by (with_reducible repeat (first | apply Kd.R_alloc | apply Kd.R_drewN | apply Kd.R_drew)); exact HO_388000.out) (Kd.R_base ho0) hb)
                have n1_ := Aside0.mk (Kd.R_elder' (by (with_reducible repeat (first | apply Kd.R_alloc | apply Kd.R_drewN | apply Kd.R_drew)); exact HO_388001.out) (Kd.R_base ho1) hb)
                have n2_ := Aside0.mk (Kd.R_elder' (by (with_reducible repeat (first | apply Kd.R_alloc | apply Kd.R_drewN | apply Kd.R_drew)); exact HO_406000.out) (Kd.R_base ho0) hb)
                have n3_ := Aside0.mk (Kd.R_elder' (by (with_reducible repeat (first | apply Kd.R_alloc | apply Kd.R_drewN | apply Kd.R_drew)); exact HO_406001.out) (Kd.R_base ho1) hb)
                have n4_ := Aside0.mk (Kd.R_elder' (by (with_reducible repeat (first | apply Kd.R_alloc | apply Kd.R_drewN | apply Kd.R_drew)); exact HO420.out) (Kd.R_base ho0) hb)
                have n5_ := Aside0.mk (Kd.R_lower (Kd.R_new' (Kd.R_new' (Kd.R_new' ho0 (Kd.R_lt (by (with_reducible repeat (first | apply Kd.R_alloc | apply Kd.R_drewN | apply Kd.R_drew)); exact HO_388000.out))) (Kd.R_lt (by (with_reducible repeat (first | apply Kd.R_alloc | apply Kd.R_drewN | apply Kd.R_drew)); exact HO_406000.out))) (Kd.R_lt (by (with_reducible repeat (first | apply Kd.R_alloc | apply Kd.R_drewN | apply Kd.R_drew)); exact HO420.out))) (Ql (by repeat (first | (with_reducible first | exact HB.out | apply Qg | apply Qb | apply Qe | refine Qc ?_ GE368.out | refine Qc ?_ GE387.out | refine Qc ?_ GE405.out) | exact HB.out))))
                have n6_ := Aside0.mk (Kd.R_lower (Kd.R_new' (Kd.R_new' ho1 (Kd.R_lt (by (with_reducible repeat (first | apply Kd.R_alloc | apply Kd.R_drewN | apply Kd.R_drew)); exact HO_388001.out))) (Kd.R_lt (by (with_reducible repeat (first | apply Kd.R_alloc | apply Kd.R_drewN | apply Kd.R_drew)); exact HO_406001.out))) (Ql (by repeat (first | (with_reducible first | exact HB.out | apply Qg | apply Qb | apply Qe | refine Qc ?_ GE368.out | refine Qc ?_ GE387.out | refine Qc ?_ GE405.out) | exact HB.out))))
                have n7_ := Aside0.mk (Qm (g := gb368) (o := .cells #[.int .i64 a2_0, .int .i64 a2_1, .int .i64 a2_2, .int .i64 a2_3, .int .i64 a2_4, .int .i64 a2_5, .bool a2_6] 40 (0, 0)) (by (with_reducible repeat (first | refine Qi ?_ _ | refine Qj ?_ | refine Qh ?_ _)); exact BK368.out) hb)
                have n8_ := Aside0.mk (Qm (g := gb387) (o := .cells #[.slice Ao28 t380.length co28, .slice Ao30 t383.length co30, .int .i64 t386] 34 (0, 0)) (by (with_reducible repeat (first | refine Qi ?_ _ | refine Qj ?_ | refine Qh ?_ _)); exact BK387.out) hb)
                have n9_ := Aside0.mk (Qm (g := gb405) (o := .cells #[.slice Ao40 t398.length co40, .slice Ao44 t401.length co44, .int .i64 t404] 34 (0, 0)) (by (with_reducible repeat (first | refine Qi ?_ _ | refine Qj ?_ | refine Qh ?_ _)); exact BK405.out) hb)
                have n10_ := Aside0.mk (Qn (by repeat (first | (with_reducible first | exact HB.out | apply Qg | apply Qb | apply Qe | refine Qc ?_ GE368.out | refine Qc ?_ GE387.out | refine Qc ?_ GE405.out) | exact HB.out)) hb)
                clear HO_388000
                clear HO_388001
                clear HO_406000
                clear HO_406001
                clear HO420
                clear BK368
                clear BK387
                clear BK405
                clear HB
                have HO_388000 := n0_
                have HO_388001 := n1_
                have HO_406000 := n2_
                have HO_406001 := n3_
                have HO420 := n4_
                have HO430 := n5_
                have HO433 := n6_
                have BK368 := n7_
                have BK387 := n8_
                have BK405 := n9_
                have HB := n10_
                clear n0_ n1_ n2_ n3_ n4_ n5_ n6_ n7_ n8_ n9_ n10_
                (try clear hb)
                (try clear hb2)
                (try clear hk)
                (try clear hi)
                (try clear ho0)
                (try clear ho1)
                refine hK.out _ _ ⟨(Qa BK368.out 0).trans rfl, (Qa BK368.out 1).trans rfl, (Qa BK368.out 2).trans rfl, (Qa BK368.out 3).trans rfl, (Qa BK368.out 4).trans rfl, (Qa BK368.out 5).trans rfl, (Qa BK368.out 6).trans rfl⟩ (fun hHeld => ?_)
                clear hK K
                refine Q4 (a' := ?_) ?_ ?_
                rotate_left
                ·show Act.put _ (some 69) _ = _
                 simp only [Act.put, List.setIfInBounds_toArray, List.set_cons_zero, List.set_cons_succ, Qr, Qt]
                 rfl
                refine one_ (i := 6) (N := some 14) #[true, true, true, true, true, true, true, false] rfl rfl (Q6 HT_.out (by kernel_rfl)) (by decide) (fun K hK => ?_)
                refine box_step ?hg (N := 14) ?hd (cs := #[.slice none 0 0, .slice none 0 0, .int .i64 0]) (t := 34) ?hr ?_; (case hd => rfl); (case hg => rfl); (case hr => first | (go_simp; done) | (go_simp; rfl))
                intro gb435 hg w116 hbox hb
                have n0_ := Aside0.mk (Kd.R_below (by (with_reducible repeat (first | apply Kd.R_alloc | apply Kd.R_drewN | apply Kd.R_drew)); exact HO_388000.out) hb)
                have n1_ := Aside0.mk (Kd.R_below (by (with_reducible repeat (first | apply Kd.R_alloc | apply Kd.R_drewN | apply Kd.R_drew)); exact HO_388001.out) hb)
                have n2_ := Aside0.mk (Kd.R_below (by (with_reducible repeat (first | apply Kd.R_alloc | apply Kd.R_drewN | apply Kd.R_drew)); exact HO_406000.out) hb)
                have n3_ := Aside0.mk (Kd.R_below (by (with_reducible repeat (first | apply Kd.R_alloc | apply Kd.R_drewN | apply Kd.R_drew)); exact HO_406001.out) hb)
                have n4_ := Aside0.mk (Kd.R_below (by (with_reducible repeat (first | apply Kd.R_alloc | apply Kd.R_drewN | apply Kd.R_drew)); exact HO420.out) hb)
                have n5_ := Aside0.mk (Kd.R_below (by (with_reducible repeat (first | apply Kd.R_alloc | apply Kd.R_drewN | apply Kd.R_drew)); exact HO430.out) hb)
                have n6_ := Aside0.mk (Kd.R_below (by (with_reducible repeat (first | apply Kd.R_alloc | apply Kd.R_drewN | apply Kd.R_drew)); exact HO433.out) hb)
                have n7_ := Aside0.mk (Qm (g := gb368) (o := .cells #[.int .i64 a2_0, .int .i64 a2_1, .int .i64 a2_2, .int .i64 a2_3, .int .i64 a2_4, .int .i64 a2_5, .bool a2_6] 40 (0, 0)) (by (with_reducible repeat (first | refine Qi ?_ _ | refine Qj ?_ | refine Qh ?_ _)); exact BK368.out) hb)
                have n8_ := Aside0.mk (Qm (g := gb387) (o := .cells #[.slice Ao28 t380.length co28, .slice Ao30 t383.length co30, .int .i64 t386] 34 (0, 0)) (by (with_reducible repeat (first | refine Qi ?_ _ | refine Qj ?_ | refine Qh ?_ _)); exact BK387.out) hb)
                have n9_ := Aside0.mk (Qm (g := gb405) (o := .cells #[.slice Ao40 t398.length co40, .slice Ao44 t401.length co44, .int .i64 t404] 34 (0, 0)) (by (with_reducible repeat (first | refine Qi ?_ _ | refine Qj ?_ | refine Qh ?_ _)); exact BK405.out) hb)
                have n10_ := Aside0.mk (Qn (by repeat (first | (with_reducible first | exact HB.out | apply Qg | apply Qb | apply Qe | refine Qc ?_ GE368.out | refine Qc ?_ GE387.out | refine Qc ?_ GE405.out) | exact HB.out)) hb)
                have n11_ := Aside0.mk (hbox)
                have n12_ := Aside0.mk ((by rw [hg]; exact (Ql (by repeat (first | (with_reducible first | exact HB.out | apply Qg | apply Qb | apply Qe | refine Qc ?_ GE368.out | refine Qc ?_ GE387.out | refine Qc ?_ GE405.out) | exact HB.out))) : w.heap.size ≤ gb435))
                have n13_ := Aside0.mk ((by rw [hg]; exact (Ql (by repeat (first | (with_reducible first | exact HB.out | apply Qg | apply Qb | apply Qe | refine Qc ?_ GE368.out | refine Qc ?_ GE387.out | refine Qc ?_ GE405.out) | exact HB.out))) : w.heap.size ≤ gb435))
                have n14_ := Aside0.mk ((by rw [hg]; exact Nat.ne_of_lt (Qs (g := gb368) (o := .cells #[.int .i64 a2_0, .int .i64 a2_1, .int .i64 a2_2, .int .i64 a2_3, .int .i64 a2_4, .int .i64 a2_5, .bool a2_6] 40 (0, 0)) (by (with_reducible repeat (first | refine Qi ?_ _ | refine Qj ?_ | refine Qh ?_ _)); exact BK368.out)) : gb368 ≠ gb435))
                have n15_ := Aside0.mk ((by rw [hg]; exact Nat.ne_of_gt (Qs (g := gb368) (o := .cells #[.int .i64 a2_0, .int .i64 a2_1, .int .i64 a2_2, .int .i64 a2_3, .int .i64 a2_4, .int .i64 a2_5, .bool a2_6] 40 (0, 0)) (by (with_reducible repeat (first | refine Qi ?_ _ | refine Qj ?_ | refine Qh ?_ _)); exact BK368.out)) : gb435 ≠ gb368))
                have n16_ := Aside0.mk ((by rw [hg]; exact Nat.ne_of_lt (Qs (g := gb387) (o := .cells #[.slice Ao28 t380.length co28, .slice Ao30 t383.length co30, .int .i64 t386] 34 (0, 0)) (by (with_reducible repeat (first | refine Qi ?_ _ | refine Qj ?_ | refine Qh ?_ _)); exact BK387.out)) : gb387 ≠ gb435))
                have n17_ := Aside0.mk ((by rw [hg]; exact Nat.ne_of_gt (Qs (g := gb387) (o := .cells #[.slice Ao28 t380.length co28, .slice Ao30 t383.length co30, .int .i64 t386] 34 (0, 0)) (by (with_reducible repeat (first | refine Qi ?_ _ | refine Qj ?_ | refine Qh ?_ _)); exact BK387.out)) : gb435 ≠ gb387))
                have n18_ := Aside0.mk ((by rw [hg]; exact Nat.ne_of_lt (Qs (g := gb405) (o := .cells #[.slice Ao40 t398.length co40, .slice Ao44 t401.length co44, .int .i64 t404] 34 (0, 0)) (by (with_reducible repeat (first | refine Qi ?_ _ | refine Qj ?_ | refine Qh ?_ _)); exact BK405.out)) : gb405 ≠ gb435))
                have n19_ := Aside0.mk ((by rw [hg]; exact Nat.ne_of_gt (Qs (g := gb405) (o := .cells #[.slice Ao40 t398.length co40, .slice Ao44 t401.length co44, .int .i64 t404] 34 (0, 0)) (by (with_reducible repeat (first | refine Qi ?_ _ | refine Qj ?_ | refine Qh ?_ _)); exact BK405.out)) : gb435 ≠ gb405))
                clear HO_388000
                clear HO_388001
                clear HO_406000
                clear HO_406001
                clear HO420
                clear HO430
                clear HO433
                clear BK368
                clear BK387
                clear BK405
                clear HB
                have HO_388000 := n0_
                have HO_388001 := n1_
                have HO_406000 := n2_
                have HO_406001 := n3_
                have HO420 := n4_
                have HO430 := n5_
                have HO433 := n6_
                have BK368 := n7_
                have BK387 := n8_
                have BK405 := n9_
                have HB := n10_
                have BK435 := n11_
                have GW435 := n12_
                have GE435 := n13_
                have NB368_435 := n14_
                have NB435_368 := n15_
                have NB387_435 := n16_
                have NB435_387 := n17_
                have NB405_435 := n18_
                have NB435_405 := n19_
                clear n0_ n1_ n2_ n3_ n4_ n5_ n6_ n7_ n8_ n9_ n10_ n11_ n12_ n13_ n14_ n15_ n16_ n17_ n18_ n19_
                clear hb hbox hg
                refine hK.out _ _ ⟨(Qa BK368.out 0).trans rfl, (Qa BK368.out 1).trans rfl, (Qa BK368.out 2).trans rfl, (Qa BK368.out 3).trans rfl, (Qa BK368.out 4).trans rfl, (Qa BK368.out 5).trans rfl, (Qa BK368.out 6).trans rfl⟩ (fun hHeld => ?_)
                clear hK K
                refine Q4 (a' := ?_) ?_ ?_
                rotate_left
                ·show Act.put _ (some 14) _ = _
                 simp only [Act.put, List.setIfInBounds_toArray, List.set_cons_zero, List.set_cons_succ, Qr, Qt]
                 rfl
                exact Q4 (by simp only [putAll, Act.put, List.setIfInBounds_toArray, List.set_cons_zero, List.set_cons_succ]) (hCont (.slice Ao114 t418.length co114, v429, v432, gb435) _ ⟨hHeld, (by (with_reducible repeat (first | apply Kd.R_alloc | apply Kd.R_drewN | apply Kd.R_drew)); exact Kd.R_mono HO420.out (fun _ hk => ⟨hk.2, ⟨hk.1.1.2, hk.1.2⟩⟩)), (by (with_reducible repeat (first | apply Kd.R_alloc | apply Kd.R_drewN | apply Kd.R_drew)); exact Kd.R_mono HO430.out (fun _ hk => ⟨hk.2, ⟨hk.1.1.2, hk.1.2⟩⟩)), (by (with_reducible repeat (first | apply Kd.R_alloc | apply Kd.R_drewN | apply Kd.R_drew)); exact Kd.R_mono HO433.out (fun _ hk => ⟨hk.1.2, hk.2⟩)), (by (with_reducible repeat (first | apply Kd.R_alloc | apply Kd.R_drewN | apply Kd.R_drew)); exact Kd.R_mono HO_388000.out (fun _ hk => ⟨hk.1.2, ⟨hk.2, hk.1.1⟩⟩)), (by (with_reducible repeat (first | apply Kd.R_alloc | apply Kd.R_drewN | apply Kd.R_drew)); exact Kd.R_mono HO_388001.out (fun _ hk => ⟨hk.2, hk.1⟩)), (by (with_reducible repeat (first | apply Kd.R_alloc | apply Kd.R_drewN | apply Kd.R_drew)); exact Kd.R_mono HO_406000.out (fun _ hk => ⟨hk.1.2, ⟨hk.2, hk.1.1⟩⟩)), (by (with_reducible repeat (first | apply Kd.R_alloc | apply Kd.R_drewN | apply Kd.R_drew)); exact Kd.R_mono HO_406001.out (fun _ hk => ⟨hk.2, hk.1⟩)), (by (with_reducible repeat (first | refine Qi ?_ _ | refine Qj ?_ | refine Qh ?_ _)); exact BK368.out), (by (with_reducible repeat (first | refine Qi ?_ _ | refine Qj ?_ | refine Qh ?_ _)); exact BK387.out), (by (with_reducible repeat (first | refine Qi ?_ _ | refine Qj ?_ | refine Qh ?_ _)); exact BK405.out), (by (with_reducible repeat (first | refine Qi ?_ _ | refine Qj ?_ | refine Qh ?_ _)); exact BK435.out), GW435.out, GE435.out, NB368_435.out, NB435_368.out, NB387_435.out, NB435_387.out, NB405_435.out, NB435_405.out, (by repeat (first | (with_reducible first | exact HB.out | apply Qg | apply Qb | apply Qe | refine Qc ?_ GE368.out | refine Qc ?_ GE387.out | refine Qc ?_ GE405.out | refine Qc ?_ GE435.out) | exact HB.out))⟩)
               ·skip
                refine box_step ?hg (N := 14) ?hd (cs := #[.slice none 0 0, .slice none 0 0, .int .i64 0]) (t := 34) ?hr ?_; (case hd => rfl); (case hg => rfl); (case hr => first | (go_simp; done) | (go_simp; rfl))
                intro gb435 hg w114 hbox hb
                have n0_ := Aside0.mk (Kd.R_below (by (with_reducible repeat (first | apply Kd.R_alloc | apply Kd.R_drewN | apply Kd.R_drew)); exact HO_388000.out) hb)
                have n1_ := Aside0.mk (Kd.R_below (by (with_reducible repeat (first | apply Kd.R_alloc | apply Kd.R_drewN | apply Kd.R_drew)); exact HO_388001.out) hb)
                have n2_ := Aside0.mk (Kd.R_below (by (with_reducible repeat (first | apply Kd.R_alloc | apply Kd.R_drewN | apply Kd.R_drew)); exact HO_406000.out) hb)
                have n3_ := Aside0.mk (Kd.R_below (by (with_reducible repeat (first | apply Kd.R_alloc | apply Kd.R_drewN | apply Kd.R_drew)); exact HO_406001.out) hb)
                have n4_ := Aside0.mk (Kd.R_below (by (with_reducible repeat (first | apply Kd.R_alloc | apply Kd.R_drewN | apply Kd.R_drew)); exact HO420.out) hb)
                have n5_ := Aside0.mk (Qm (g := gb368) (o := .cells #[.int .i64 a2_0, .int .i64 a2_1, .int .i64 a2_2, .int .i64 a2_3, .int .i64 a2_4, .int .i64 a2_5, .bool a2_6] 40 (0, 0)) (by (with_reducible repeat (first | refine Qi ?_ _ | refine Qj ?_ | refine Qh ?_ _)); exact BK368.out) hb)
                have n6_ := Aside0.mk (Qm (g := gb387) (o := .cells #[.slice Ao28 t380.length co28, .slice Ao30 t383.length co30, .int .i64 t386] 34 (0, 0)) (by (with_reducible repeat (first | refine Qi ?_ _ | refine Qj ?_ | refine Qh ?_ _)); exact BK387.out) hb)
                have n7_ := Aside0.mk (Qm (g := gb405) (o := .cells #[.slice Ao40 t398.length co40, .slice Ao44 t401.length co44, .int .i64 t404] 34 (0, 0)) (by (with_reducible repeat (first | refine Qi ?_ _ | refine Qj ?_ | refine Qh ?_ _)); exact BK405.out) hb)
                have n8_ := Aside0.mk (Qn (by repeat (first | (with_reducible first | exact HB.out | apply Qg | apply Qb | apply Qe | refine Qc ?_ GE368.out | refine Qc ?_ GE387.out | refine Qc ?_ GE405.out) | exact HB.out)) hb)
                have n9_ := Aside0.mk (hbox)
                have n10_ := Aside0.mk ((by rw [hg]; exact (Ql (by repeat (first | (with_reducible first | exact HB.out | apply Qg | apply Qb | apply Qe | refine Qc ?_ GE368.out | refine Qc ?_ GE387.out | refine Qc ?_ GE405.out) | exact HB.out))) : w.heap.size ≤ gb435))
                have n11_ := Aside0.mk ((by rw [hg]; exact (Ql (by repeat (first | (with_reducible first | exact HB.out | apply Qg | apply Qb | apply Qe | refine Qc ?_ GE368.out | refine Qc ?_ GE387.out | refine Qc ?_ GE405.out) | exact HB.out))) : w.heap.size ≤ gb435))
                have n12_ := Aside0.mk ((by rw [hg]; exact Nat.ne_of_lt (Qs (g := gb368) (o := .cells #[.int .i64 a2_0, .int .i64 a2_1, .int .i64 a2_2, .int .i64 a2_3, .int .i64 a2_4, .int .i64 a2_5, .bool a2_6] 40 (0, 0)) (by (with_reducible repeat (first | refine Qi ?_ _ | refine Qj ?_ | refine Qh ?_ _)); exact BK368.out)) : gb368 ≠ gb435))
                have n13_ := Aside0.mk ((by rw [hg]; exact Nat.ne_of_gt (Qs (g := gb368) (o := .cells #[.int .i64 a2_0, .int .i64 a2_1, .int .i64 a2_2, .int .i64 a2_3, .int .i64 a2_4, .int .i64 a2_5, .bool a2_6] 40 (0, 0)) (by (with_reducible repeat (first | refine Qi ?_ _ | refine Qj ?_ | refine Qh ?_ _)); exact BK368.out)) : gb435 ≠ gb368))
                have n14_ := Aside0.mk ((by rw [hg]; exact Nat.ne_of_lt (Qs (g := gb387) (o := .cells #[.slice Ao28 t380.length co28, .slice Ao30 t383.length co30, .int .i64 t386] 34 (0, 0)) (by (with_reducible repeat (first | refine Qi ?_ _ | refine Qj ?_ | refine Qh ?_ _)); exact BK387.out)) : gb387 ≠ gb435))
                have n15_ := Aside0.mk ((by rw [hg]; exact Nat.ne_of_gt (Qs (g := gb387) (o := .cells #[.slice Ao28 t380.length co28, .slice Ao30 t383.length co30, .int .i64 t386] 34 (0, 0)) (by (with_reducible repeat (first | refine Qi ?_ _ | refine Qj ?_ | refine Qh ?_ _)); exact BK387.out)) : gb435 ≠ gb387))
                have n16_ := Aside0.mk ((by rw [hg]; exact Nat.ne_of_lt (Qs (g := gb405) (o := .cells #[.slice Ao40 t398.length co40, .slice Ao44 t401.length co44, .int .i64 t404] 34 (0, 0)) (by (with_reducible repeat (first | refine Qi ?_ _ | refine Qj ?_ | refine Qh ?_ _)); exact BK405.out)) : gb405 ≠ gb435))
                have n17_ := Aside0.mk ((by rw [hg]; exact Nat.ne_of_gt (Qs (g := gb405) (o := .cells #[.slice Ao40 t398.length co40, .slice Ao44 t401.length co44, .int .i64 t404] 34 (0, 0)) (by (with_reducible repeat (first | refine Qi ?_ _ | refine Qj ?_ | refine Qh ?_ _)); exact BK405.out)) : gb435 ≠ gb405))
                clear HO_388000
                clear HO_388001
                clear HO_406000
                clear HO_406001
                clear HO420
                clear BK368
                clear BK387
                clear BK405
                clear HB
                have HO_388000 := n0_
                have HO_388001 := n1_
                have HO_406000 := n2_
                have HO_406001 := n3_
                have HO420 := n4_
                have BK368 := n5_
                have BK387 := n6_
                have BK405 := n7_
                have HB := n8_
                have BK435 := n9_
                have GW435 := n10_
                have GE435 := n11_
                have NB368_435 := n12_
                have NB435_368 := n13_
                have NB387_435 := n14_
                have NB435_387 := n15_
                have NB405_435 := n16_
                have NB435_405 := n17_
                clear n0_ n1_ n2_ n3_ n4_ n5_ n6_ n7_ n8_ n9_ n10_ n11_ n12_ n13_ n14_ n15_ n16_ n17_
                clear hb hbox hg
                obtain ⟨Ao115, co115, eo115⟩ := Kd.R_slice HO420.out
                (first | subst eo115 | (injection eo115 with f1_ f2_ f3_; have f4_ := f1_.symm; have f5_ := f3_.symm; clear f1_ f2_ f3_; subst f4_; subst f5_))
                refine hK.out _ _ ⟨(Qa BK368.out 0).trans rfl, (Qa BK368.out 1).trans rfl, (Qa BK368.out 2).trans rfl, (Qa BK368.out 3).trans rfl, (Qa BK368.out 4).trans rfl, (Qa BK368.out 5).trans rfl, (Qa BK368.out 6).trans rfl⟩ (fun hHeld => ?_)
                clear hK K
                refine Q4 (a' := ?_) ?_ ?_
                rotate_left
                ·show Act.put _ (some 14) _ = _
                 simp only [Act.put, List.setIfInBounds_toArray, List.set_cons_zero, List.set_cons_succ, Qr, Qt]
                 rfl
                refine one_ (i := 5) (N := some 69) #[true, true, true, true, true, true, true, false] rfl rfl (Q6 HT_.out (by kernel_rfl)) (by decide) (fun K hK => ?_)
                refine goes_ Try.func33 (by kernel_rfl) rfl #[.slice Ao115 t418.length co115, .int .i64 a1, .agg #[.int .i64 t421, .int .i64 t422, .int .i64 t423, .int .i64 t424, .int .i64 t425, .int .i64 t426, .bool t427]] (by rfl) rfl rfl (by (try simp only [List.map_toArray, List.map_cons, List.map_nil]); first | done | rfl | (simp only [List.length_drop, List.length_take]; rfl)) ?_
                with_reducible refine (impl_RibPut.calls kj18 _ _ t418 a1 t421 t422 t423 t424 t425 t426 t427 t428 t431 t434 _ ?side1 ?side2 A72.out).mono ?_
                (case side1 => repeat (first | exact (Kd.R_reads' HO420.out).2.2 | (with_reducible refine Kd.C_alloc ?_ _) | (with_reducible refine Kd.C_drewN ?_ _) | (with_reducible refine Kd.C_drew ?_)))
                (case side2 => exact (Kd.R_reads' HO420.out).2.1)
                rintro e w116 ⟨v429, v432, rfl, ho0, ho1, hb⟩
                refine ⟨_, rfl, ?_⟩
                have n0_ := Aside0.mk (Kd.R_elder' (by (with_reducible repeat (first | apply Kd.R_alloc | apply Kd.R_drewN | apply Kd.R_drew)); exact HO_388000.out) (Kd.R_base ho0) hb)
                have n1_ := Aside0.mk (Kd.R_elder' (by (with_reducible repeat (first | apply Kd.R_alloc | apply Kd.R_drewN | apply Kd.R_drew)); exact HO_388001.out) (Kd.R_base ho1) hb)
                have n2_ := Aside0.mk (Kd.R_elder' (by (with_reducible repeat (first | apply Kd.R_alloc | apply Kd.R_drewN | apply Kd.R_drew)); exact HO_406000.out) (Kd.R_base ho0) hb)
                have n3_ := Aside0.mk (Kd.R_elder' (by (with_reducible repeat (first | apply Kd.R_alloc | apply Kd.R_drewN | apply Kd.R_drew)); exact HO_406001.out) (Kd.R_base ho1) hb)
                have n4_ := Aside0.mk (Kd.R_elder' (by (with_reducible repeat (first | apply Kd.R_alloc | apply Kd.R_drewN | apply Kd.R_drew)); exact HO420.out) (Kd.R_base ho0) hb)
                have n5_ := Aside0.mk (Kd.R_lower (Kd.R_new' (Kd.R_new' (Kd.R_new' ho0 (Kd.R_lt (by (with_reducible repeat (first | apply Kd.R_alloc | apply Kd.R_drewN | apply Kd.R_drew)); exact HO_388000.out))) (Kd.R_lt (by (with_reducible repeat (first | apply Kd.R_alloc | apply Kd.R_drewN | apply Kd.R_drew)); exact HO_406000.out))) (Kd.R_lt (by (with_reducible repeat (first | apply Kd.R_alloc | apply Kd.R_drewN | apply Kd.R_drew)); exact HO420.out))) (Ql (by repeat (first | (with_reducible first | exact HB.out | apply Qg | apply Qb | apply Qe | refine Qc ?_ GE368.out | refine Qc ?_ GE387.out | refine Qc ?_ GE405.out | refine Qc ?_ GE435.out) | exact HB.out))))
                have n6_ := Aside0.mk (Kd.R_lower (Kd.R_new' (Kd.R_new' ho1 (Kd.R_lt (by (with_reducible repeat (first | apply Kd.R_alloc | apply Kd.R_drewN | apply Kd.R_drew)); exact HO_388001.out))) (Kd.R_lt (by (with_reducible repeat (first | apply Kd.R_alloc | apply Kd.R_drewN | apply Kd.R_drew)); exact HO_406001.out))) (Ql (by repeat (first | (with_reducible first | exact HB.out | apply Qg | apply Qb | apply Qe | refine Qc ?_ GE368.out | refine Qc ?_ GE387.out | refine Qc ?_ GE405.out | refine Qc ?_ GE435.out) | exact HB.out))))
                have n7_ := Aside0.mk (Qm (g := gb368) (o := .cells #[.int .i64 a2_0, .int .i64 a2_1, .int .i64 a2_2, .int .i64 a2_3, .int .i64 a2_4, .int .i64 a2_5, .bool a2_6] 40 (0, 0)) (by (with_reducible repeat (first | refine Qi ?_ _ | refine Qj ?_ | refine Qh ?_ _)); exact BK368.out) hb)
                have n8_ := Aside0.mk (Qm (g := gb387) (o := .cells #[.slice Ao28 t380.length co28, .slice Ao30 t383.length co30, .int .i64 t386] 34 (0, 0)) (by (with_reducible repeat (first | refine Qi ?_ _ | refine Qj ?_ | refine Qh ?_ _)); exact BK387.out) hb)
                have n9_ := Aside0.mk (Qm (g := gb405) (o := .cells #[.slice Ao40 t398.length co40, .slice Ao44 t401.length co44, .int .i64 t404] 34 (0, 0)) (by (with_reducible repeat (first | refine Qi ?_ _ | refine Qj ?_ | refine Qh ?_ _)); exact BK405.out) hb)
                have n10_ := Aside0.mk (Qm (g := gb435) (o := .cells #[.slice none 0 0, .slice none 0 0, .int .i64 0] 34 (0, 0)) (by (with_reducible repeat (first | refine Qi ?_ _ | refine Qj ?_ | refine Qh ?_ _)); exact BK435.out) hb)
                have n11_ := Aside0.mk (Qn (by repeat (first | (with_reducible first | exact HB.out | apply Qg | apply Qb | apply Qe | refine Qc ?_ GE368.out | refine Qc ?_ GE387.out | refine Qc ?_ GE405.out | refine Qc ?_ GE435.out) | exact HB.out)) hb)
                clear HO_388000
                clear HO_388001
                clear HO_406000
                clear HO_406001
                clear HO420
                clear BK368
                clear BK387
                clear BK405
                clear BK435
                clear HB
                have HO_388000 := n0_
                have HO_388001 := n1_
                have HO_406000 := n2_
                have HO_406001 := n3_
                have HO420 := n4_
                have HO430 := n5_
                have HO433 := n6_
                have BK368 := n7_
                have BK387 := n8_
                have BK405 := n9_
                have BK435 := n10_
                have HB := n11_
                clear n0_ n1_ n2_ n3_ n4_ n5_ n6_ n7_ n8_ n9_ n10_ n11_
                (try clear hb)
                (try clear hb2)
                (try clear hk)
                (try clear hi)
                (try clear ho0)
                (try clear ho1)
                refine hK.out _ _ ⟨(Qa BK368.out 0).trans rfl, (Qa BK368.out 1).trans rfl, (Qa BK368.out 2).trans rfl, (Qa BK368.out 3).trans rfl, (Qa BK368.out 4).trans rfl, (Qa BK368.out 5).trans rfl, (Qa BK368.out 6).trans rfl⟩ (fun hHeld => ?_)
                clear hK K
                refine Q4 (a' := ?_) ?_ ?_
                rotate_left
                ·show Act.put _ (some 69) _ = _
                 simp only [Act.put, List.setIfInBounds_toArray, List.set_cons_zero, List.set_cons_succ, Qr, Qt]
                 rfl
                exact Q4 (by simp only [putAll, Act.put, List.setIfInBounds_toArray, List.set_cons_zero, List.set_cons_succ]) (hCont (.slice Ao115 t418.length co115, v429, v432, gb435) _ ⟨hHeld, (by (with_reducible repeat (first | apply Kd.R_alloc | apply Kd.R_drewN | apply Kd.R_drew)); exact Kd.R_mono HO420.out (fun _ hk => ⟨hk.2, ⟨hk.1.1.2, hk.1.2⟩⟩)), (by (with_reducible repeat (first | apply Kd.R_alloc | apply Kd.R_drewN | apply Kd.R_drew)); exact Kd.R_mono HO430.out (fun _ hk => ⟨hk.2, ⟨hk.1.1.2, hk.1.2⟩⟩)), (by (with_reducible repeat (first | apply Kd.R_alloc | apply Kd.R_drewN | apply Kd.R_drew)); exact Kd.R_mono HO433.out (fun _ hk => ⟨hk.1.2, hk.2⟩)), (by (with_reducible repeat (first | apply Kd.R_alloc | apply Kd.R_drewN | apply Kd.R_drew)); exact Kd.R_mono HO_388000.out (fun _ hk => ⟨hk.1.2, ⟨hk.2, hk.1.1⟩⟩)), (by (with_reducible repeat (first | apply Kd.R_alloc | apply Kd.R_drewN | apply Kd.R_drew)); exact Kd.R_mono HO_388001.out (fun _ hk => ⟨hk.2, hk.1⟩)), (by (with_reducible repeat (first | apply Kd.R_alloc | apply Kd.R_drewN | apply Kd.R_drew)); exact Kd.R_mono HO_406000.out (fun _ hk => ⟨hk.1.2, ⟨hk.2, hk.1.1⟩⟩)), (by (with_reducible repeat (first | apply Kd.R_alloc | apply Kd.R_drewN | apply Kd.R_drew)); exact Kd.R_mono HO_406001.out (fun _ hk => ⟨hk.2, hk.1⟩)), (by (with_reducible repeat (first | refine Qi ?_ _ | refine Qj ?_ | refine Qh ?_ _)); exact BK368.out), (by (with_reducible repeat (first | refine Qi ?_ _ | refine Qj ?_ | refine Qh ?_ _)); exact BK387.out), (by (with_reducible repeat (first | refine Qi ?_ _ | refine Qj ?_ | refine Qh ?_ _)); exact BK405.out), (by (with_reducible repeat (first | refine Qi ?_ _ | refine Qj ?_ | refine Qh ?_ _)); exact BK435.out), GW435.out, GE435.out, NB368_435.out, NB435_368.out, NB387_435.out, NB435_387.out, NB405_435.out, NB435_405.out, (by repeat (first | (with_reducible first | exact HB.out | apply Qg | apply Qb | apply Qe | refine Qc ?_ GE368.out | refine Qc ?_ GE387.out | refine Qc ?_ GE405.out | refine Qc ?_ GE435.out) | exact HB.out))⟩)
              ·skip
               refine box_step ?hg (N := 14) ?hd (cs := #[.slice none 0 0, .slice none 0 0, .int .i64 0]) (t := 34) ?hr ?_; (case hd => rfl); (case hg => rfl); (case hr => first | (go_simp; done) | (go_simp; rfl))
               intro gb435 hg w113 hbox hb
               have n0_ := Aside0.mk (Kd.R_below (by (with_reducible repeat (first | apply Kd.R_alloc | apply Kd.R_drewN | apply Kd.R_drew)); exact HO_388000.out) hb)
               have n1_ := Aside0.mk (Kd.R_below (by (with_reducible repeat (first | apply Kd.R_alloc | apply Kd.R_drewN | apply Kd.R_drew)); exact HO_388001.out) hb)
               have n2_ := Aside0.mk (Kd.R_below (by (with_reducible repeat (first | apply Kd.R_alloc | apply Kd.R_drewN | apply Kd.R_drew)); exact HO_406000.out) hb)
               have n3_ := Aside0.mk (Kd.R_below (by (with_reducible repeat (first | apply Kd.R_alloc | apply Kd.R_drewN | apply Kd.R_drew)); exact HO_406001.out) hb)
               have n4_ := Aside0.mk (Kd.R_below (by (with_reducible repeat (first | apply Kd.R_alloc | apply Kd.R_drewN | apply Kd.R_drew)); exact HO420.out) hb)
               have n5_ := Aside0.mk (Qm (g := gb368) (o := .cells #[.int .i64 a2_0, .int .i64 a2_1, .int .i64 a2_2, .int .i64 a2_3, .int .i64 a2_4, .int .i64 a2_5, .bool a2_6] 40 (0, 0)) (by (with_reducible repeat (first | refine Qi ?_ _ | refine Qj ?_ | refine Qh ?_ _)); exact BK368.out) hb)
               have n6_ := Aside0.mk (Qm (g := gb387) (o := .cells #[.slice Ao28 t380.length co28, .slice Ao30 t383.length co30, .int .i64 t386] 34 (0, 0)) (by (with_reducible repeat (first | refine Qi ?_ _ | refine Qj ?_ | refine Qh ?_ _)); exact BK387.out) hb)
               have n7_ := Aside0.mk (Qm (g := gb405) (o := .cells #[.slice Ao40 t398.length co40, .slice Ao44 t401.length co44, .int .i64 t404] 34 (0, 0)) (by (with_reducible repeat (first | refine Qi ?_ _ | refine Qj ?_ | refine Qh ?_ _)); exact BK405.out) hb)
               have n8_ := Aside0.mk (Qn (by repeat (first | (with_reducible first | exact HB.out | apply Qg | apply Qb | apply Qe | refine Qc ?_ GE368.out | refine Qc ?_ GE387.out | refine Qc ?_ GE405.out) | exact HB.out)) hb)
               have n9_ := Aside0.mk (hbox)
               have n10_ := Aside0.mk ((by rw [hg]; exact (Ql (by repeat (first | (with_reducible first | exact HB.out | apply Qg | apply Qb | apply Qe | refine Qc ?_ GE368.out | refine Qc ?_ GE387.out | refine Qc ?_ GE405.out) | exact HB.out))) : w.heap.size ≤ gb435))
               have n11_ := Aside0.mk ((by rw [hg]; exact (Ql (by repeat (first | (with_reducible first | exact HB.out | apply Qg | apply Qb | apply Qe | refine Qc ?_ GE368.out | refine Qc ?_ GE387.out | refine Qc ?_ GE405.out) | exact HB.out))) : w.heap.size ≤ gb435))
               have n12_ := Aside0.mk ((by rw [hg]; exact Nat.ne_of_lt (Qs (g := gb368) (o := .cells #[.int .i64 a2_0, .int .i64 a2_1, .int .i64 a2_2, .int .i64 a2_3, .int .i64 a2_4, .int .i64 a2_5, .bool a2_6] 40 (0, 0)) (by (with_reducible repeat (first | refine Qi ?_ _ | refine Qj ?_ | refine Qh ?_ _)); exact BK368.out)) : gb368 ≠ gb435))
               have n13_ := Aside0.mk ((by rw [hg]; exact Nat.ne_of_gt (Qs (g := gb368) (o := .cells #[.int .i64 a2_0, .int .i64 a2_1, .int .i64 a2_2, .int .i64 a2_3, .int .i64 a2_4, .int .i64 a2_5, .bool a2_6] 40 (0, 0)) (by (with_reducible repeat (first | refine Qi ?_ _ | refine Qj ?_ | refine Qh ?_ _)); exact BK368.out)) : gb435 ≠ gb368))
               have n14_ := Aside0.mk ((by rw [hg]; exact Nat.ne_of_lt (Qs (g := gb387) (o := .cells #[.slice Ao28 t380.length co28, .slice Ao30 t383.length co30, .int .i64 t386] 34 (0, 0)) (by (with_reducible repeat (first | refine Qi ?_ _ | refine Qj ?_ | refine Qh ?_ _)); exact BK387.out)) : gb387 ≠ gb435))
               have n15_ := Aside0.mk ((by rw [hg]; exact Nat.ne_of_gt (Qs (g := gb387) (o := .cells #[.slice Ao28 t380.length co28, .slice Ao30 t383.length co30, .int .i64 t386] 34 (0, 0)) (by (with_reducible repeat (first | refine Qi ?_ _ | refine Qj ?_ | refine Qh ?_ _)); exact BK387.out)) : gb435 ≠ gb387))
               have n16_ := Aside0.mk ((by rw [hg]; exact Nat.ne_of_lt (Qs (g := gb405) (o := .cells #[.slice Ao40 t398.length co40, .slice Ao44 t401.length co44, .int .i64 t404] 34 (0, 0)) (by (with_reducible repeat (first | refine Qi ?_ _ | refine Qj ?_ | refine Qh ?_ _)); exact BK405.out)) : gb405 ≠ gb435))
               have n17_ := Aside0.mk ((by rw [hg]; exact Nat.ne_of_gt (Qs (g := gb405) (o := .cells #[.slice Ao40 t398.length co40, .slice Ao44 t401.length co44, .int .i64 t404] 34 (0, 0)) (by (with_reducible repeat (first | refine Qi ?_ _ | refine Qj ?_ | refine Qh ?_ _)); exact BK405.out)) : gb435 ≠ gb405))
               clear HO_388000
               clear HO_388001
               clear HO_406000
               clear HO_406001
               clear HO420
               clear BK368
               clear BK387
               clear BK405
               clear HB
               have HO_388000 := n0_
               have HO_388001 := n1_
               have HO_406000 := n2_
               have HO_406001 := n3_
               have HO420 := n4_
               have BK368 := n5_
               have BK387 := n6_
               have BK405 := n7_
               have HB := n8_
               have BK435 := n9_
               have GW435 := n10_
               have GE435 := n11_
               have NB368_435 := n12_
               have NB435_368 := n13_
               have NB387_435 := n14_
               have NB435_387 := n15_
               have NB405_435 := n16_
               have NB435_405 := n17_
               clear n0_ n1_ n2_ n3_ n4_ n5_ n6_ n7_ n8_ n9_ n10_ n11_ n12_ n13_ n14_ n15_ n16_ n17_
               clear hb hbox hg
               refine hK.out _ _ ⟨(Qa BK368.out 0).trans rfl, (Qa BK368.out 1).trans rfl, (Qa BK368.out 2).trans rfl, (Qa BK368.out 3).trans rfl, (Qa BK368.out 4).trans rfl, (Qa BK368.out 5).trans rfl, (Qa BK368.out 6).trans rfl⟩ (fun hHeld => ?_)
               clear hK K
               refine Q4 (a' := ?_) ?_ ?_
               rotate_left
               ·show Act.put _ (some 14) _ = _
                simp only [Act.put, List.setIfInBounds_toArray, List.set_cons_zero, List.set_cons_succ, Qr, Qt]
                rfl
               refine one_ (i := 4) (N := some 68) #[true, true, true, true, true, false, true, false] rfl rfl (Q6 HT_.out (by kernel_rfl)) (by decide) (fun K hK => ?_)
               refine goes_ Try.func30 (by kernel_rfl) rfl #[.agg #[.int .i64 a2_0, .int .i64 a2_1, .int .i64 a2_2, .int .i64 a2_3, .int .i64 a2_4, .int .i64 a2_5, .bool a2_6]] (by rfl) rfl rfl (by (try simp only [List.map_toArray, List.map_cons, List.map_nil]); first | done | rfl | (simp only [List.length_drop, List.length_take]; rfl)) ?_
               with_reducible refine (laws_toRoute.calls a2_0 a2_1 a2_2 a2_3 a2_4 a2_5 a2_6 t421 t422 t423 t424 t425 t426 t427 _ A71.out).mono ?_
               rintro e w114 ⟨rfl, hb⟩
               refine ⟨_, rfl, ?_⟩
               have n0_ := Aside0.mk (Kd.R_below (by (with_reducible repeat (first | apply Kd.R_alloc | apply Kd.R_drewN | apply Kd.R_drew)); exact HO_388000.out) hb)
               have n1_ := Aside0.mk (Kd.R_below (by (with_reducible repeat (first | apply Kd.R_alloc | apply Kd.R_drewN | apply Kd.R_drew)); exact HO_388001.out) hb)
               have n2_ := Aside0.mk (Kd.R_below (by (with_reducible repeat (first | apply Kd.R_alloc | apply Kd.R_drewN | apply Kd.R_drew)); exact HO_406000.out) hb)
               have n3_ := Aside0.mk (Kd.R_below (by (with_reducible repeat (first | apply Kd.R_alloc | apply Kd.R_drewN | apply Kd.R_drew)); exact HO_406001.out) hb)
               have n4_ := Aside0.mk (Kd.R_below (by (with_reducible repeat (first | apply Kd.R_alloc | apply Kd.R_drewN | apply Kd.R_drew)); exact HO420.out) hb)
               have n5_ := Aside0.mk (Qm (g := gb368) (o := .cells #[.int .i64 a2_0, .int .i64 a2_1, .int .i64 a2_2, .int .i64 a2_3, .int .i64 a2_4, .int .i64 a2_5, .bool a2_6] 40 (0, 0)) (by (with_reducible repeat (first | refine Qi ?_ _ | refine Qj ?_ | refine Qh ?_ _)); exact BK368.out) hb)
               have n6_ := Aside0.mk (Qm (g := gb387) (o := .cells #[.slice Ao28 t380.length co28, .slice Ao30 t383.length co30, .int .i64 t386] 34 (0, 0)) (by (with_reducible repeat (first | refine Qi ?_ _ | refine Qj ?_ | refine Qh ?_ _)); exact BK387.out) hb)
               have n7_ := Aside0.mk (Qm (g := gb405) (o := .cells #[.slice Ao40 t398.length co40, .slice Ao44 t401.length co44, .int .i64 t404] 34 (0, 0)) (by (with_reducible repeat (first | refine Qi ?_ _ | refine Qj ?_ | refine Qh ?_ _)); exact BK405.out) hb)
               have n8_ := Aside0.mk (Qm (g := gb435) (o := .cells #[.slice none 0 0, .slice none 0 0, .int .i64 0] 34 (0, 0)) (by (with_reducible repeat (first | refine Qi ?_ _ | refine Qj ?_ | refine Qh ?_ _)); exact BK435.out) hb)
               have n9_ := Aside0.mk (Qn (by repeat (first | (with_reducible first | exact HB.out | apply Qg | apply Qb | apply Qe | refine Qc ?_ GE368.out | refine Qc ?_ GE387.out | refine Qc ?_ GE405.out | refine Qc ?_ GE435.out) | exact HB.out)) hb)
               clear HO_388000
               clear HO_388001
               clear HO_406000
               clear HO_406001
               clear HO420
               clear BK368
               clear BK387
               clear BK405
               clear BK435
               clear HB
               have HO_388000 := n0_
               have HO_388001 := n1_
               have HO_406000 := n2_
               have HO_406001 := n3_
               have HO420 := n4_
               have BK368 := n5_
               have BK387 := n6_
               have BK405 := n7_
               have BK435 := n8_
               have HB := n9_
               clear n0_ n1_ n2_ n3_ n4_ n5_ n6_ n7_ n8_ n9_
               (try clear hb)
               (try clear hb2)
               (try clear hk)
               (try clear hi)
               obtain ⟨Ao115, co115, eo115⟩ := Kd.R_slice HO420.out
               (first | subst eo115 | (injection eo115 with f1_ f2_ f3_; have f4_ := f1_.symm; have f5_ := f3_.symm; clear f1_ f2_ f3_; subst f4_; subst f5_))
               refine hK.out _ _ ⟨(Qa BK368.out 0).trans rfl, (Qa BK368.out 1).trans rfl, (Qa BK368.out 2).trans rfl, (Qa BK368.out 3).trans rfl, (Qa BK368.out 4).trans rfl, (Qa BK368.out 5).trans rfl, (Qa BK368.out 6).trans rfl⟩ (fun hHeld => ?_)
               clear hK K
               refine Q4 (a' := ?_) ?_ ?_
               rotate_left
               ·show Act.put _ (some 68) _ = _
                simp only [Act.put, List.setIfInBounds_toArray, List.set_cons_zero, List.set_cons_succ, Qr, Qt]
                rfl
               refine one_ (i := 5) (N := some 69) #[true, true, true, true, true, true, true, false] rfl rfl (Q6 HT_.out (by kernel_rfl)) (by decide) (fun K hK => ?_)
               refine goes_ Try.func33 (by kernel_rfl) rfl #[.slice Ao115 t418.length co115, .int .i64 a1, .agg #[.int .i64 t421, .int .i64 t422, .int .i64 t423, .int .i64 t424, .int .i64 t425, .int .i64 t426, .bool t427]] (by rfl) rfl rfl (by (try simp only [List.map_toArray, List.map_cons, List.map_nil]); first | done | rfl | (simp only [List.length_drop, List.length_take]; rfl)) ?_
               with_reducible refine (impl_RibPut.calls kj18 _ _ t418 a1 t421 t422 t423 t424 t425 t426 t427 t428 t431 t434 _ ?side1 ?side2 A72.out).mono ?_
               (case side1 => repeat (first | exact (Kd.R_reads' HO420.out).2.2 | (with_reducible refine Kd.C_alloc ?_ _) | (with_reducible refine Kd.C_drewN ?_ _) | (with_reducible refine Kd.C_drew ?_)))
               (case side2 => exact (Kd.R_reads' HO420.out).2.1)
               rintro e w116 ⟨v429, v432, rfl, ho0, ho1, hb⟩
               refine ⟨_, rfl, ?_⟩
               have n0_ := Aside0.mk (Kd.R_elder' (by (with_reducible repeat (first | apply Kd.R_alloc | apply Kd.R_drewN | apply Kd.R_drew)); exact HO_388000.out) (Kd.R_base ho0) hb)
               have n1_ := Aside0.mk (Kd.R_elder' (by (with_reducible repeat (first | apply Kd.R_alloc | apply Kd.R_drewN | apply Kd.R_drew)); exact HO_388001.out) (Kd.R_base ho1) hb)
               have n2_ := Aside0.mk (Kd.R_elder' (by (with_reducible repeat (first | apply Kd.R_alloc | apply Kd.R_drewN | apply Kd.R_drew)); exact HO_406000.out) (Kd.R_base ho0) hb)
               have n3_ := Aside0.mk (Kd.R_elder' (by (with_reducible repeat (first | apply Kd.R_alloc | apply Kd.R_drewN | apply Kd.R_drew)); exact HO_406001.out) (Kd.R_base ho1) hb)
               have n4_ := Aside0.mk (Kd.R_elder' (by (with_reducible repeat (first | apply Kd.R_alloc | apply Kd.R_drewN | apply Kd.R_drew)); exact HO420.out) (Kd.R_base ho0) hb)
               have n5_ := Aside0.mk (Kd.R_lower (Kd.R_new' (Kd.R_new' (Kd.R_new' ho0 (Kd.R_lt (by (with_reducible repeat (first | apply Kd.R_alloc | apply Kd.R_drewN | apply Kd.R_drew)); exact HO_388000.out))) (Kd.R_lt (by (with_reducible repeat (first | apply Kd.R_alloc | apply Kd.R_drewN | apply Kd.R_drew)); exact HO_406000.out))) (Kd.R_lt (by (with_reducible repeat (first | apply Kd.R_alloc | apply Kd.R_drewN | apply Kd.R_drew)); exact HO420.out))) (Ql (by repeat (first | (with_reducible first | exact HB.out | apply Qg | apply Qb | apply Qe | refine Qc ?_ GE368.out | refine Qc ?_ GE387.out | refine Qc ?_ GE405.out | refine Qc ?_ GE435.out) | exact HB.out))))
               have n6_ := Aside0.mk (Kd.R_lower (Kd.R_new' (Kd.R_new' ho1 (Kd.R_lt (by (with_reducible repeat (first | apply Kd.R_alloc | apply Kd.R_drewN | apply Kd.R_drew)); exact HO_388001.out))) (Kd.R_lt (by (with_reducible repeat (first | apply Kd.R_alloc | apply Kd.R_drewN | apply Kd.R_drew)); exact HO_406001.out))) (Ql (by repeat (first | (with_reducible first | exact HB.out | apply Qg | apply Qb | apply Qe | refine Qc ?_ GE368.out | refine Qc ?_ GE387.out | refine Qc ?_ GE405.out | refine Qc ?_ GE435.out) | exact HB.out))))
               have n7_ := Aside0.mk (Qm (g := gb368) (o := .cells #[.int .i64 a2_0, .int .i64 a2_1, .int .i64 a2_2, .int .i64 a2_3, .int .i64 a2_4, .int .i64 a2_5, .bool a2_6] 40 (0, 0)) (by (with_reducible repeat (first | refine Qi ?_ _ | refine Qj ?_ | refine Qh ?_ _)); exact BK368.out) hb)
               have n8_ := Aside0.mk (Qm (g := gb387) (o := .cells #[.slice Ao28 t380.length co28, .slice Ao30 t383.length co30, .int .i64 t386] 34 (0, 0)) (by (with_reducible repeat (first | refine Qi ?_ _ | refine Qj ?_ | refine Qh ?_ _)); exact BK387.out) hb)
               have n9_ := Aside0.mk (Qm (g := gb405) (o := .cells #[.slice Ao40 t398.length co40, .slice Ao44 t401.length co44, .int .i64 t404] 34 (0, 0)) (by (with_reducible repeat (first | refine Qi ?_ _ | refine Qj ?_ | refine Qh ?_ _)); exact BK405.out) hb)
               have n10_ := Aside0.mk (Qm (g := gb435) (o := .cells #[.slice none 0 0, .slice none 0 0, .int .i64 0] 34 (0, 0)) (by (with_reducible repeat (first | refine Qi ?_ _ | refine Qj ?_ | refine Qh ?_ _)); exact BK435.out) hb)
               have n11_ := Aside0.mk (Qn (by repeat (first | (with_reducible first | exact HB.out | apply Qg | apply Qb | apply Qe | refine Qc ?_ GE368.out | refine Qc ?_ GE387.out | refine Qc ?_ GE405.out | refine Qc ?_ GE435.out) | exact HB.out)) hb)
               clear HO_388000
               clear HO_388001
               clear HO_406000
               clear HO_406001
               clear HO420
               clear BK368
               clear BK387
               clear BK405
               clear BK435
               clear HB
               have HO_388000 := n0_
               have HO_388001 := n1_
               have HO_406000 := n2_
               have HO_406001 := n3_
               have HO420 := n4_
               have HO430 := n5_
               have HO433 := n6_
               have BK368 := n7_
               have BK387 := n8_
               have BK405 := n9_
               have BK435 := n10_
               have HB := n11_
               clear n0_ n1_ n2_ n3_ n4_ n5_ n6_ n7_ n8_ n9_ n10_ n11_
               (try clear hb)
               (try clear hb2)
               (try clear hk)
               (try clear hi)
               (try clear ho0)
               (try clear ho1)
               refine hK.out _ _ ⟨(Qa BK368.out 0).trans rfl, (Qa BK368.out 1).trans rfl, (Qa BK368.out 2).trans rfl, (Qa BK368.out 3).trans rfl, (Qa BK368.out 4).trans rfl, (Qa BK368.out 5).trans rfl, (Qa BK368.out 6).trans rfl⟩ (fun hHeld => ?_)
               clear hK K
               refine Q4 (a' := ?_) ?_ ?_
               rotate_left
               ·show Act.put _ (some 69) _ = _
                simp only [Act.put, List.setIfInBounds_toArray, List.set_cons_zero, List.set_cons_succ, Qr, Qt]
                rfl
               exact Q4 (by simp only [putAll, Act.put, List.setIfInBounds_toArray, List.set_cons_zero, List.set_cons_succ]) (hCont (.slice Ao115 t418.length co115, v429, v432, gb435) _ ⟨hHeld, (by (with_reducible repeat (first | apply Kd.R_alloc | apply Kd.R_drewN | apply Kd.R_drew)); exact Kd.R_mono HO420.out (fun _ hk => ⟨hk.2, ⟨hk.1.1.2, hk.1.2⟩⟩)), (by (with_reducible repeat (first | apply Kd.R_alloc | apply Kd.R_drewN | apply Kd.R_drew)); exact Kd.R_mono HO430.out (fun _ hk => ⟨hk.2, ⟨hk.1.1.2, hk.1.2⟩⟩)), (by (with_reducible repeat (first | apply Kd.R_alloc | apply Kd.R_drewN | apply Kd.R_drew)); exact Kd.R_mono HO433.out (fun _ hk => ⟨hk.1.2, hk.2⟩)), (by (with_reducible repeat (first | apply Kd.R_alloc | apply Kd.R_drewN | apply Kd.R_drew)); exact Kd.R_mono HO_388000.out (fun _ hk => ⟨hk.1.2, ⟨hk.2, hk.1.1⟩⟩)), (by (with_reducible repeat (first | apply Kd.R_alloc | apply Kd.R_drewN | apply Kd.R_drew)); exact Kd.R_mono HO_388001.out (fun _ hk => ⟨hk.2, hk.1⟩)), (by (with_reducible repeat (first | apply Kd.R_alloc | apply Kd.R_drewN | apply Kd.R_drew)); exact Kd.R_mono HO_406000.out (fun _ hk => ⟨hk.1.2, ⟨hk.2, hk.1.1⟩⟩)), (by (with_reducible repeat (first | apply Kd.R_alloc | apply Kd.R_drewN | apply Kd.R_drew)); exact Kd.R_mono HO_406001.out (fun _ hk => ⟨hk.2, hk.1⟩)), (by (with_reducible repeat (first | refine Qi ?_ _ | refine Qj ?_ | refine Qh ?_ _)); exact BK368.out), (by (with_reducible repeat (first | refine Qi ?_ _ | refine Qj ?_ | refine Qh ?_ _)); exact BK387.out), (by (with_reducible repeat (first | refine Qi ?_ _ | refine Qj ?_ | refine Qh ?_ _)); exact BK405.out), (by (with_reducible repeat (first | refine Qi ?_ _ | refine Qj ?_ | refine Qh ?_ _)); exact BK435.out), GW435.out, GE435.out, NB368_435.out, NB435_368.out, NB387_435.out, NB435_387.out, NB405_435.out, NB435_405.out, (by repeat (first | (with_reducible first | exact HB.out | apply Qg | apply Qb | apply Qe | refine Qc ?_ GE368.out | refine Qc ?_ GE387.out | refine Qc ?_ GE405.out | refine Qc ?_ GE435.out) | exact HB.out))⟩)
             ·skip
              refine box_step ?hg (N := 14) ?hd (cs := #[.slice none 0 0, .slice none 0 0, .int .i64 0]) (t := 34) ?hr ?_; (case hd => rfl); (case hg => rfl); (case hr => first | (go_simp; done) | (go_simp; rfl))
              intro gb435 hg w112 hbox hb
              have n0_ := Aside0.mk (Kd.R_below (by (with_reducible repeat (first | apply Kd.R_alloc | apply Kd.R_drewN | apply Kd.R_drew)); exact HO_388000.out) hb)
              have n1_ := Aside0.mk (Kd.R_below (by (with_reducible repeat (first | apply Kd.R_alloc | apply Kd.R_drewN | apply Kd.R_drew)); exact HO_388001.out) hb)
              have n2_ := Aside0.mk (Kd.R_below (by (with_reducible repeat (first | apply Kd.R_alloc | apply Kd.R_drewN | apply Kd.R_drew)); exact HO_406000.out) hb)
              have n3_ := Aside0.mk (Kd.R_below (by (with_reducible repeat (first | apply Kd.R_alloc | apply Kd.R_drewN | apply Kd.R_drew)); exact HO_406001.out) hb)
              have n4_ := Aside0.mk (Qm (g := gb368) (o := .cells #[.int .i64 a2_0, .int .i64 a2_1, .int .i64 a2_2, .int .i64 a2_3, .int .i64 a2_4, .int .i64 a2_5, .bool a2_6] 40 (0, 0)) (by (with_reducible repeat (first | refine Qi ?_ _ | refine Qj ?_ | refine Qh ?_ _)); exact BK368.out) hb)
              have n5_ := Aside0.mk (Qm (g := gb387) (o := .cells #[.slice Ao28 t380.length co28, .slice Ao30 t383.length co30, .int .i64 t386] 34 (0, 0)) (by (with_reducible repeat (first | refine Qi ?_ _ | refine Qj ?_ | refine Qh ?_ _)); exact BK387.out) hb)
              have n6_ := Aside0.mk (Qm (g := gb405) (o := .cells #[.slice Ao40 t398.length co40, .slice Ao44 t401.length co44, .int .i64 t404] 34 (0, 0)) (by (with_reducible repeat (first | refine Qi ?_ _ | refine Qj ?_ | refine Qh ?_ _)); exact BK405.out) hb)
              have n7_ := Aside0.mk (Qn (by repeat (first | (with_reducible first | exact HB.out | apply Qg | apply Qb | apply Qe | refine Qc ?_ GE368.out | refine Qc ?_ GE387.out | refine Qc ?_ GE405.out) | exact HB.out)) hb)
              have n8_ := Aside0.mk (hbox)
              have n9_ := Aside0.mk ((by rw [hg]; exact (Ql (by repeat (first | (with_reducible first | exact HB.out | apply Qg | apply Qb | apply Qe | refine Qc ?_ GE368.out | refine Qc ?_ GE387.out | refine Qc ?_ GE405.out) | exact HB.out))) : w.heap.size ≤ gb435))
              have n10_ := Aside0.mk ((by rw [hg]; exact (Ql (by repeat (first | (with_reducible first | exact HB.out | apply Qg | apply Qb | apply Qe | refine Qc ?_ GE368.out | refine Qc ?_ GE387.out | refine Qc ?_ GE405.out) | exact HB.out))) : w.heap.size ≤ gb435))
              have n11_ := Aside0.mk ((by rw [hg]; exact Nat.ne_of_lt (Qs (g := gb368) (o := .cells #[.int .i64 a2_0, .int .i64 a2_1, .int .i64 a2_2, .int .i64 a2_3, .int .i64 a2_4, .int .i64 a2_5, .bool a2_6] 40 (0, 0)) (by (with_reducible repeat (first | refine Qi ?_ _ | refine Qj ?_ | refine Qh ?_ _)); exact BK368.out)) : gb368 ≠ gb435))
              have n12_ := Aside0.mk ((by rw [hg]; exact Nat.ne_of_gt (Qs (g := gb368) (o := .cells #[.int .i64 a2_0, .int .i64 a2_1, .int .i64 a2_2, .int .i64 a2_3, .int .i64 a2_4, .int .i64 a2_5, .bool a2_6] 40 (0, 0)) (by (with_reducible repeat (first | refine Qi ?_ _ | refine Qj ?_ | refine Qh ?_ _)); exact BK368.out)) : gb435 ≠ gb368))
              have n13_ := Aside0.mk ((by rw [hg]; exact Nat.ne_of_lt (Qs (g := gb387) (o := .cells #[.slice Ao28 t380.length co28, .slice Ao30 t383.length co30, .int .i64 t386] 34 (0, 0)) (by (with_reducible repeat (first | refine Qi ?_ _ | refine Qj ?_ | refine Qh ?_ _)); exact BK387.out)) : gb387 ≠ gb435))
              have n14_ := Aside0.mk ((by rw [hg]; exact Nat.ne_of_gt (Qs (g := gb387) (o := .cells #[.slice Ao28 t380.length co28, .slice Ao30 t383.length co30, .int .i64 t386] 34 (0, 0)) (by (with_reducible repeat (first | refine Qi ?_ _ | refine Qj ?_ | refine Qh ?_ _)); exact BK387.out)) : gb435 ≠ gb387))
              have n15_ := Aside0.mk ((by rw [hg]; exact Nat.ne_of_lt (Qs (g := gb405) (o := .cells #[.slice Ao40 t398.length co40, .slice Ao44 t401.length co44, .int .i64 t404] 34 (0, 0)) (by (with_reducible repeat (first | refine Qi ?_ _ | refine Qj ?_ | refine Qh ?_ _)); exact BK405.out)) : gb405 ≠ gb435))
              have n16_ := Aside0.mk ((by rw [hg]; exact Nat.ne_of_gt (Qs (g := gb405) (o := .cells #[.slice Ao40 t398.length co40, .slice Ao44 t401.length co44, .int .i64 t404] 34 (0, 0)) (by (with_reducible repeat (first | refine Qi ?_ _ | refine Qj ?_ | refine Qh ?_ _)); exact BK405.out)) : gb435 ≠ gb405))
              clear HO_388000
              clear HO_388001
              clear HO_406000
              clear HO_406001
              clear BK368
              clear BK387
              clear BK405
              clear HB
              have HO_388000 := n0_
              have HO_388001 := n1_
              have HO_406000 := n2_
              have HO_406001 := n3_
              have BK368 := n4_
              have BK387 := n5_
              have BK405 := n6_
              have HB := n7_
              have BK435 := n8_
              have GW435 := n9_
              have GE435 := n10_
              have NB368_435 := n11_
              have NB435_368 := n12_
              have NB387_435 := n13_
              have NB435_387 := n14_
              have NB405_435 := n15_
              have NB435_405 := n16_
              clear n0_ n1_ n2_ n3_ n4_ n5_ n6_ n7_ n8_ n9_ n10_ n11_ n12_ n13_ n14_ n15_ n16_
              clear hb hbox hg
              refine hK.out _ _ ⟨(Qa BK368.out 0).trans rfl, (Qa BK368.out 1).trans rfl, (Qa BK368.out 2).trans rfl, (Qa BK368.out 3).trans rfl, (Qa BK368.out 4).trans rfl, (Qa BK368.out 5).trans rfl, (Qa BK368.out 6).trans rfl⟩ (fun hHeld => ?_)
              clear hK K
              refine Q4 (a' := ?_) ?_ ?_
              rotate_left
              ·show Act.put _ (some 14) _ = _
               simp only [Act.put, List.setIfInBounds_toArray, List.set_cons_zero, List.set_cons_succ, Qr, Qt]
               rfl
              refine one_ (i := 1) (N := some 65) #[true, true, true, true, false, false, true, false] rfl rfl (Q6 HT_.out (by kernel_rfl)) (by decide) (fun K hK => ?_)
              refine goes_ Try.func15 (by kernel_rfl) rfl #[.slice A0 l0.length c0] (by rfl) rfl rfl (by (try simp only [List.map_toArray, List.map_cons, List.map_nil]); first | done | rfl | (simp only [List.length_drop, List.length_take]; rfl)) ?_
              with_reducible refine (laws_toHeldS.calls kj18 _ _ l0 t418 _ ?side1 ?side2 A70.out).mono ?_
              (case side1 => repeat (first | exact (Kd.C_below HR0.out HB.out) | (with_reducible refine Kd.C_alloc ?_ _) | (with_reducible refine Kd.C_drewN ?_ _) | (with_reducible refine Kd.C_drew ?_)))
              (case side2 => exact HC0.out)
              rintro e w113 ⟨v419, rfl, ho0, hb⟩
              refine ⟨_, rfl, ?_⟩
              have n0_ := Aside0.mk (Kd.R_elder' (by (with_reducible repeat (first | apply Kd.R_alloc | apply Kd.R_drewN | apply Kd.R_drew)); exact HO_388000.out) (Kd.R_base ho0) hb)
              have n1_ := Aside0.mk (Kd.R_below (by (with_reducible repeat (first | apply Kd.R_alloc | apply Kd.R_drewN | apply Kd.R_drew)); exact HO_388001.out) hb)
              have n2_ := Aside0.mk (Kd.R_elder' (by (with_reducible repeat (first | apply Kd.R_alloc | apply Kd.R_drewN | apply Kd.R_drew)); exact HO_406000.out) (Kd.R_base ho0) hb)
              have n3_ := Aside0.mk (Kd.R_below (by (with_reducible repeat (first | apply Kd.R_alloc | apply Kd.R_drewN | apply Kd.R_drew)); exact HO_406001.out) hb)
              have n4_ := Aside0.mk (Kd.R_lower (Kd.R_new' (Kd.R_new' ho0 (Kd.R_lt (by (with_reducible repeat (first | apply Kd.R_alloc | apply Kd.R_drewN | apply Kd.R_drew)); exact HO_388000.out))) (Kd.R_lt (by (with_reducible repeat (first | apply Kd.R_alloc | apply Kd.R_drewN | apply Kd.R_drew)); exact HO_406000.out))) (Ql (by repeat (first | (with_reducible first | exact HB.out | apply Qg | apply Qb | apply Qe | refine Qc ?_ GE368.out | refine Qc ?_ GE387.out | refine Qc ?_ GE405.out | refine Qc ?_ GE435.out) | exact HB.out))))
              have n5_ := Aside0.mk (Qm (g := gb368) (o := .cells #[.int .i64 a2_0, .int .i64 a2_1, .int .i64 a2_2, .int .i64 a2_3, .int .i64 a2_4, .int .i64 a2_5, .bool a2_6] 40 (0, 0)) (by (with_reducible repeat (first | refine Qi ?_ _ | refine Qj ?_ | refine Qh ?_ _)); exact BK368.out) hb)
              have n6_ := Aside0.mk (Qm (g := gb387) (o := .cells #[.slice Ao28 t380.length co28, .slice Ao30 t383.length co30, .int .i64 t386] 34 (0, 0)) (by (with_reducible repeat (first | refine Qi ?_ _ | refine Qj ?_ | refine Qh ?_ _)); exact BK387.out) hb)
              have n7_ := Aside0.mk (Qm (g := gb405) (o := .cells #[.slice Ao40 t398.length co40, .slice Ao44 t401.length co44, .int .i64 t404] 34 (0, 0)) (by (with_reducible repeat (first | refine Qi ?_ _ | refine Qj ?_ | refine Qh ?_ _)); exact BK405.out) hb)
              have n8_ := Aside0.mk (Qm (g := gb435) (o := .cells #[.slice none 0 0, .slice none 0 0, .int .i64 0] 34 (0, 0)) (by (with_reducible repeat (first | refine Qi ?_ _ | refine Qj ?_ | refine Qh ?_ _)); exact BK435.out) hb)
              have n9_ := Aside0.mk (Qn (by repeat (first | (with_reducible first | exact HB.out | apply Qg | apply Qb | apply Qe | refine Qc ?_ GE368.out | refine Qc ?_ GE387.out | refine Qc ?_ GE405.out | refine Qc ?_ GE435.out) | exact HB.out)) hb)
              clear HO_388000
              clear HO_388001
              clear HO_406000
              clear HO_406001
              clear BK368
              clear BK387
              clear BK405
              clear BK435
              clear HB
              have HO_388000 := n0_
              have HO_388001 := n1_
              have HO_406000 := n2_
              have HO_406001 := n3_
              have HO420 := n4_
              have BK368 := n5_
              have BK387 := n6_
              have BK405 := n7_
              have BK435 := n8_
              have HB := n9_
              clear n0_ n1_ n2_ n3_ n4_ n5_ n6_ n7_ n8_ n9_
              (try clear hb)
              (try clear hb2)
              (try clear hk)
              (try clear hi)
              (try clear ho0)
              refine hK.out _ _ ⟨(Qa BK368.out 0).trans rfl, (Qa BK368.out 1).trans rfl, (Qa BK368.out 2).trans rfl, (Qa BK368.out 3).trans rfl, (Qa BK368.out 4).trans rfl, (Qa BK368.out 5).trans rfl, (Qa BK368.out 6).trans rfl⟩ (fun hHeld => ?_)
              clear hK K
              refine Q4 (a' := ?_) ?_ ?_
              rotate_left
              ·show Act.put _ (some 65) _ = _
               simp only [Act.put, List.setIfInBounds_toArray, List.set_cons_zero, List.set_cons_succ, Qr, Qt]
               rfl
              refine one_ (i := 4) (N := some 68) #[true, true, true, true, true, false, true, false] rfl rfl (Q6 HT_.out (by kernel_rfl)) (by decide) (fun K hK => ?_)
              refine goes_ Try.func30 (by kernel_rfl) rfl #[.agg #[.int .i64 a2_0, .int .i64 a2_1, .int .i64 a2_2, .int .i64 a2_3, .int .i64 a2_4, .int .i64 a2_5, .bool a2_6]] (by rfl) rfl rfl (by (try simp only [List.map_toArray, List.map_cons, List.map_nil]); first | done | rfl | (simp only [List.length_drop, List.length_take]; rfl)) ?_
              with_reducible refine (laws_toRoute.calls a2_0 a2_1 a2_2 a2_3 a2_4 a2_5 a2_6 t421 t422 t423 t424 t425 t426 t427 _ A71.out).mono ?_
              rintro e w114 ⟨rfl, hb⟩
              refine ⟨_, rfl, ?_⟩
              have n0_ := Aside0.mk (Kd.R_below (by (with_reducible repeat (first | apply Kd.R_alloc | apply Kd.R_drewN | apply Kd.R_drew)); exact HO_388000.out) hb)
              have n1_ := Aside0.mk (Kd.R_below (by (with_reducible repeat (first | apply Kd.R_alloc | apply Kd.R_drewN | apply Kd.R_drew)); exact HO_388001.out) hb)
              have n2_ := Aside0.mk (Kd.R_below (by (with_reducible repeat (first | apply Kd.R_alloc | apply Kd.R_drewN | apply Kd.R_drew)); exact HO_406000.out) hb)
              have n3_ := Aside0.mk (Kd.R_below (by (with_reducible repeat (first | apply Kd.R_alloc | apply Kd.R_drewN | apply Kd.R_drew)); exact HO_406001.out) hb)
              have n4_ := Aside0.mk (Kd.R_below (by (with_reducible repeat (first | apply Kd.R_alloc | apply Kd.R_drewN | apply Kd.R_drew)); exact HO420.out) hb)
              have n5_ := Aside0.mk (Qm (g := gb368) (o := .cells #[.int .i64 a2_0, .int .i64 a2_1, .int .i64 a2_2, .int .i64 a2_3, .int .i64 a2_4, .int .i64 a2_5, .bool a2_6] 40 (0, 0)) (by (with_reducible repeat (first | refine Qi ?_ _ | refine Qj ?_ | refine Qh ?_ _)); exact BK368.out) hb)
              have n6_ := Aside0.mk (Qm (g := gb387) (o := .cells #[.slice Ao28 t380.length co28, .slice Ao30 t383.length co30, .int .i64 t386] 34 (0, 0)) (by (with_reducible repeat (first | refine Qi ?_ _ | refine Qj ?_ | refine Qh ?_ _)); exact BK387.out) hb)
              have n7_ := Aside0.mk (Qm (g := gb405) (o := .cells #[.slice Ao40 t398.length co40, .slice Ao44 t401.length co44, .int .i64 t404] 34 (0, 0)) (by (with_reducible repeat (first | refine Qi ?_ _ | refine Qj ?_ | refine Qh ?_ _)); exact BK405.out) hb)
              have n8_ := Aside0.mk (Qm (g := gb435) (o := .cells #[.slice none 0 0, .slice none 0 0, .int .i64 0] 34 (0, 0)) (by (with_reducible repeat (first | refine Qi ?_ _ | refine Qj ?_ | refine Qh ?_ _)); exact BK435.out) hb)
              have n9_ := Aside0.mk (Qn (by repeat (first | (with_reducible first | exact HB.out | apply Qg | apply Qb | apply Qe | refine Qc ?_ GE368.out | refine Qc ?_ GE387.out | refine Qc ?_ GE405.out | refine Qc ?_ GE435.out) | exact HB.out)) hb)
              clear HO_388000
              clear HO_388001
              clear HO_406000
              clear HO_406001
              clear HO420
              clear BK368
              clear BK387
              clear BK405
              clear BK435
              clear HB
              have HO_388000 := n0_
              have HO_388001 := n1_
              have HO_406000 := n2_
              have HO_406001 := n3_
              have HO420 := n4_
              have BK368 := n5_
              have BK387 := n6_
              have BK405 := n7_
              have BK435 := n8_
              have HB := n9_
              clear n0_ n1_ n2_ n3_ n4_ n5_ n6_ n7_ n8_ n9_
              (try clear hb)
              (try clear hb2)
              (try clear hk)
              (try clear hi)
              obtain ⟨Ao115, co115, eo115⟩ := Kd.R_slice HO420.out
              (first | subst eo115 | (injection eo115 with f1_ f2_ f3_; have f4_ := f1_.symm; have f5_ := f3_.symm; clear f1_ f2_ f3_; subst f4_; subst f5_))
              refine hK.out _ _ ⟨(Qa BK368.out 0).trans rfl, (Qa BK368.out 1).trans rfl, (Qa BK368.out 2).trans rfl, (Qa BK368.out 3).trans rfl, (Qa BK368.out 4).trans rfl, (Qa BK368.out 5).trans rfl, (Qa BK368.out 6).trans rfl⟩ (fun hHeld => ?_)
              clear hK K
              refine Q4 (a' := ?_) ?_ ?_
              rotate_left
              ·show Act.put _ (some 68) _ = _
               simp only [Act.put, List.setIfInBounds_toArray, List.set_cons_zero, List.set_cons_succ, Qr, Qt]
               rfl
              refine one_ (i := 5) (N := some 69) #[true, true, true, true, true, true, true, false] rfl rfl (Q6 HT_.out (by kernel_rfl)) (by decide) (fun K hK => ?_)
              refine goes_ Try.func33 (by kernel_rfl) rfl #[.slice Ao115 t418.length co115, .int .i64 a1, .agg #[.int .i64 t421, .int .i64 t422, .int .i64 t423, .int .i64 t424, .int .i64 t425, .int .i64 t426, .bool t427]] (by rfl) rfl rfl (by (try simp only [List.map_toArray, List.map_cons, List.map_nil]); first | done | rfl | (simp only [List.length_drop, List.length_take]; rfl)) ?_
              with_reducible refine (impl_RibPut.calls kj18 _ _ t418 a1 t421 t422 t423 t424 t425 t426 t427 t428 t431 t434 _ ?side1 ?side2 A72.out).mono ?_
              (case side1 => repeat (first | exact (Kd.R_reads' HO420.out).2.2 | (with_reducible refine Kd.C_alloc ?_ _) | (with_reducible refine Kd.C_drewN ?_ _) | (with_reducible refine Kd.C_drew ?_)))
              (case side2 => exact (Kd.R_reads' HO420.out).2.1)
              rintro e w116 ⟨v429, v432, rfl, ho0, ho1, hb⟩
              refine ⟨_, rfl, ?_⟩
              have n0_ := Aside0.mk (Kd.R_elder' (by (with_reducible repeat (first | apply Kd.R_alloc | apply Kd.R_drewN | apply Kd.R_drew)); exact HO_388000.out) (Kd.R_base ho0) hb)
              have n1_ := Aside0.mk (Kd.R_elder' (by (with_reducible repeat (first | apply Kd.R_alloc | apply Kd.R_drewN | apply Kd.R_drew)); exact HO_388001.out) (Kd.R_base ho1) hb)
              have n2_ := Aside0.mk (Kd.R_elder' (by (with_reducible repeat (first | apply Kd.R_alloc | apply Kd.R_drewN | apply Kd.R_drew)); exact HO_406000.out) (Kd.R_base ho0) hb)
              have n3_ := Aside0.mk (Kd.R_elder' (by (with_reducible repeat (first | apply Kd.R_alloc | apply Kd.R_drewN | apply Kd.R_drew)); exact HO_406001.out) (Kd.R_base ho1) hb)
              have n4_ := Aside0.mk (Kd.R_elder' (by (with_reducible repeat (first | apply Kd.R_alloc | apply Kd.R_drewN | apply Kd.R_drew)); exact HO420.out) (Kd.R_base ho0) hb)
              have n5_ := Aside0.mk (Kd.R_lower (Kd.R_new' (Kd.R_new' (Kd.R_new' ho0 (Kd.R_lt (by (with_reducible repeat (first | apply Kd.R_alloc | apply Kd.R_drewN | apply Kd.R_drew)); exact HO_388000.out))) (Kd.R_lt (by (with_reducible repeat (first | apply Kd.R_alloc | apply Kd.R_drewN | apply Kd.R_drew)); exact HO_406000.out))) (Kd.R_lt (by (with_reducible repeat (first | apply Kd.R_alloc | apply Kd.R_drewN | apply Kd.R_drew)); exact HO420.out))) (Ql (by repeat (first | (with_reducible first | exact HB.out | apply Qg | apply Qb | apply Qe | refine Qc ?_ GE368.out | refine Qc ?_ GE387.out | refine Qc ?_ GE405.out | refine Qc ?_ GE435.out) | exact HB.out))))
              have n6_ := Aside0.mk (Kd.R_lower (Kd.R_new' (Kd.R_new' ho1 (Kd.R_lt (by (with_reducible repeat (first | apply Kd.R_alloc | apply Kd.R_drewN | apply Kd.R_drew)); exact HO_388001.out))) (Kd.R_lt (by (with_reducible repeat (first | apply Kd.R_alloc | apply Kd.R_drewN | apply Kd.R_drew)); exact HO_406001.out))) (Ql (by repeat (first | (with_reducible first | exact HB.out | apply Qg | apply Qb | apply Qe | refine Qc ?_ GE368.out | refine Qc ?_ GE387.out | refine Qc ?_ GE405.out | refine Qc ?_ GE435.out) | exact HB.out))))
              have n7_ := Aside0.mk (Qm (g := gb368) (o := .cells #[.int .i64 a2_0, .int .i64 a2_1, .int .i64 a2_2, .int .i64 a2_3, .int .i64 a2_4, .int .i64 a2_5, .bool a2_6] 40 (0, 0)) (by (with_reducible repeat (first | refine Qi ?_ _ | refine Qj ?_ | refine Qh ?_ _)); exact BK368.out) hb)
              have n8_ := Aside0.mk (Qm (g := gb387) (o := .cells #[.slice Ao28 t380.length co28, .slice Ao30 t383.length co30, .int .i64 t386] 34 (0, 0)) (by (with_reducible repeat (first | refine Qi ?_ _ | refine Qj ?_ | refine Qh ?_ _)); exact BK387.out) hb)
              have n9_ := Aside0.mk (Qm (g := gb405) (o := .cells #[.slice Ao40 t398.length co40, .slice Ao44 t401.length co44, .int .i64 t404] 34 (0, 0)) (by (with_reducible repeat (first | refine Qi ?_ _ | refine Qj ?_ | refine Qh ?_ _)); exact BK405.out) hb)
              have n10_ := Aside0.mk (Qm (g := gb435) (o := .cells #[.slice none 0 0, .slice none 0 0, .int .i64 0] 34 (0, 0)) (by (with_reducible repeat (first | refine Qi ?_ _ | refine Qj ?_ | refine Qh ?_ _)); exact BK435.out) hb)
              have n11_ := Aside0.mk (Qn (by repeat (first | (with_reducible first | exact HB.out | apply Qg | apply Qb | apply Qe | refine Qc ?_ GE368.out | refine Qc ?_ GE387.out | refine Qc ?_ GE405.out | refine Qc ?_ GE435.out) | exact HB.out)) hb)
              clear HO_388000
              clear HO_388001
              clear HO_406000
              clear HO_406001
              clear HO420
              clear BK368
              clear BK387
              clear BK405
              clear BK435
              clear HB
              have HO_388000 := n0_
              have HO_388001 := n1_
              have HO_406000 := n2_
              have HO_406001 := n3_
              have HO420 := n4_
              have HO430 := n5_
              have HO433 := n6_
              have BK368 := n7_
              have BK387 := n8_
              have BK405 := n9_
              have BK435 := n10_
              have HB := n11_
              clear n0_ n1_ n2_ n3_ n4_ n5_ n6_ n7_ n8_ n9_ n10_ n11_
              (try clear hb)
              (try clear hb2)
              (try clear hk)
              (try clear hi)
              (try clear ho0)
              (try clear ho1)
              refine hK.out _ _ ⟨(Qa BK368.out 0).trans rfl, (Qa BK368.out 1).trans rfl, (Qa BK368.out 2).trans rfl, (Qa BK368.out 3).trans rfl, (Qa BK368.out 4).trans rfl, (Qa BK368.out 5).trans rfl, (Qa BK368.out 6).trans rfl⟩ (fun hHeld => ?_)
              clear hK K
              refine Q4 (a' := ?_) ?_ ?_
              rotate_left
              ·show Act.put _ (some 69) _ = _
               simp only [Act.put, List.setIfInBounds_toArray, List.set_cons_zero, List.set_cons_succ, Qr, Qt]
               rfl
              exact Q4 (by simp only [putAll, Act.put, List.setIfInBounds_toArray, List.set_cons_zero, List.set_cons_succ]) (hCont (.slice Ao115 t418.length co115, v429, v432, gb435) _ ⟨hHeld, (by (with_reducible repeat (first | apply Kd.R_alloc | apply Kd.R_drewN | apply Kd.R_drew)); exact Kd.R_mono HO420.out (fun _ hk => ⟨hk.2, ⟨hk.1.1.2, hk.1.2⟩⟩)), (by (with_reducible repeat (first | apply Kd.R_alloc | apply Kd.R_drewN | apply Kd.R_drew)); exact Kd.R_mono HO430.out (fun _ hk => ⟨hk.2, ⟨hk.1.1.2, hk.1.2⟩⟩)), (by (with_reducible repeat (first | apply Kd.R_alloc | apply Kd.R_drewN | apply Kd.R_drew)); exact Kd.R_mono HO433.out (fun _ hk => ⟨hk.1.2, hk.2⟩)), (by (with_reducible repeat (first | apply Kd.R_alloc | apply Kd.R_drewN | apply Kd.R_drew)); exact Kd.R_mono HO_388000.out (fun _ hk => ⟨hk.1.2, ⟨hk.2, hk.1.1⟩⟩)), (by (with_reducible repeat (first | apply Kd.R_alloc | apply Kd.R_drewN | apply Kd.R_drew)); exact Kd.R_mono HO_388001.out (fun _ hk => ⟨hk.2, hk.1⟩)), (by (with_reducible repeat (first | apply Kd.R_alloc | apply Kd.R_drewN | apply Kd.R_drew)); exact Kd.R_mono HO_406000.out (fun _ hk => ⟨hk.1.2, ⟨hk.2, hk.1.1⟩⟩)), (by (with_reducible repeat (first | apply Kd.R_alloc | apply Kd.R_drewN | apply Kd.R_drew)); exact Kd.R_mono HO_406001.out (fun _ hk => ⟨hk.2, hk.1⟩)), (by (with_reducible repeat (first | refine Qi ?_ _ | refine Qj ?_ | refine Qh ?_ _)); exact BK368.out), (by (with_reducible repeat (first | refine Qi ?_ _ | refine Qj ?_ | refine Qh ?_ _)); exact BK387.out), (by (with_reducible repeat (first | refine Qi ?_ _ | refine Qj ?_ | refine Qh ?_ _)); exact BK405.out), (by (with_reducible repeat (first | refine Qi ?_ _ | refine Qj ?_ | refine Qh ?_ _)); exact BK435.out), GW435.out, GE435.out, NB368_435.out, NB435_368.out, NB387_435.out, NB435_387.out, NB405_435.out, NB435_405.out, (by repeat (first | (with_reducible first | exact HB.out | apply Qg | apply Qb | apply Qe | refine Qc ?_ GE368.out | refine Qc ?_ GE387.out | refine Qc ?_ GE405.out | refine Qc ?_ GE435.out) | exact HB.out))⟩)
            rintro ⟨v419, v429, v432, gb435⟩ w117 ⟨hS_, h0_, h1_, h2_, h3_, h4_, h5_, h6_, h7_, h8_, h9_, h10_, h11_, h12_, h13_, h14_, h15_, h16_, h17_, h18_, h19_⟩
            have n0_ : Aside0 (Kd.R k73 73 w117 w.heap.size (fun k_ => some k_ ≠ (v429 : Value).ownBlock ∧ some k_ ≠ (.slice Ao28 t380.length co28 : Value).ownBlock ∧ some k_ ≠ (.slice Ao40 t398.length co40 : Value).ownBlock) v419 t418) := ⟨h0_⟩
            have n1_ : Aside0 (Kd.R k73 73 w117 w.heap.size (fun k_ => some k_ ≠ (v419 : Value).ownBlock ∧ some k_ ≠ (.slice Ao28 t380.length co28 : Value).ownBlock ∧ some k_ ≠ (.slice Ao40 t398.length co40 : Value).ownBlock) v429 t428) := ⟨h1_⟩
            have n2_ : Aside0 (Kd.R k42 42 w117 w.heap.size (fun k_ => some k_ ≠ (.slice Ao30 t383.length co30 : Value).ownBlock ∧ some k_ ≠ (.slice Ao44 t401.length co44 : Value).ownBlock) v432 t431) := ⟨h2_⟩
            have n3_ : Aside0 (Kd.R k73 73 w117 w.heap.size (fun k_ => some k_ ≠ (v419 : Value).ownBlock ∧ some k_ ≠ (v429 : Value).ownBlock ∧ some k_ ≠ (.slice Ao40 t398.length co40 : Value).ownBlock) (.slice Ao28 t380.length co28) t380) := ⟨h3_⟩
            have n4_ : Aside0 (Kd.R k42 42 w117 w.heap.size (fun k_ => some k_ ≠ (v432 : Value).ownBlock ∧ some k_ ≠ (.slice Ao44 t401.length co44 : Value).ownBlock) (.slice Ao30 t383.length co30) t383) := ⟨h4_⟩
            have n5_ : Aside0 (Kd.R k73 73 w117 w.heap.size (fun k_ => some k_ ≠ (v419 : Value).ownBlock ∧ some k_ ≠ (v429 : Value).ownBlock ∧ some k_ ≠ (.slice Ao28 t380.length co28 : Value).ownBlock) (.slice Ao40 t398.length co40) t415) := ⟨h5_⟩
            have n6_ : Aside0 (Kd.R k42 42 w117 w.heap.size (fun k_ => some k_ ≠ (v432 : Value).ownBlock ∧ some k_ ≠ (.slice Ao30 t383.length co30 : Value).ownBlock) (.slice Ao44 t401.length co44) t416) := ⟨h6_⟩
            have n7_ : Aside0 (w117.heap[gb368]? = some (.cells #[.int .i64 a2_0, .int .i64 a2_1, .int .i64 a2_2, .int .i64 a2_3, .int .i64 a2_4, .int .i64 a2_5, .bool a2_6] 40 (0, 0))) := ⟨h7_⟩
            have n8_ : Aside0 (w117.heap[gb387]? = some (.cells #[.slice Ao28 t380.length co28, .slice Ao30 t383.length co30, .int .i64 t386] 34 (0, 0))) := ⟨h8_⟩
            have n9_ : Aside0 (w117.heap[gb405]? = some (.cells #[.slice Ao40 t398.length co40, .slice Ao44 t401.length co44, .int .i64 t404] 34 (0, 0))) := ⟨h9_⟩
            have n10_ : Aside0 (w117.heap[gb435]? = some (.cells #[.slice none 0 0, .slice none 0 0, .int .i64 0] 34 (0, 0))) := ⟨h10_⟩
            have n11_ : Aside0 (w.heap.size ≤ gb435) := ⟨h11_⟩
            have n12_ : Aside0 (w.heap.size ≤ gb435) := ⟨h12_⟩
            have n13_ : Aside0 (gb368 ≠ gb435) := ⟨h13_⟩
            have n14_ : Aside0 (gb435 ≠ gb368) := ⟨h14_⟩
            have n15_ : Aside0 (gb387 ≠ gb435) := ⟨h15_⟩
            have n16_ : Aside0 (gb435 ≠ gb387) := ⟨h16_⟩
            have n17_ : Aside0 (gb405 ≠ gb435) := ⟨h17_⟩
            have n18_ : Aside0 (gb435 ≠ gb405) := ⟨h18_⟩
            have n19_ : Aside0 (Below w.heap.size w w117) := ⟨h19_⟩
            clear HO_388000
            clear HO_388001
            clear HO_406000
            clear HO_406001
            clear BK368
            clear BK387
            clear BK405
            clear HB
            clear h0_ h1_ h2_ h3_ h4_ h5_ h6_ h7_ h8_ h9_ h10_ h11_ h12_ h13_ h14_ h15_ h16_ h17_ h18_ h19_
            have HO420 := n0_
            have HO430 := n1_
            have HO433 := n2_
            have HO_388000 := n3_
            have HO_388001 := n4_
            have HO_406000 := n5_
            have HO_406001 := n6_
            have BK368 := n7_
            have BK387 := n8_
            have BK405 := n9_
            have BK435 := n10_
            have GW435 := n11_
            have GE435 := n12_
            have NB368_435 := n13_
            have NB435_368 := n14_
            have NB387_435 := n15_
            have NB435_387 := n16_
            have NB405_435 := n17_
            have NB435_405 := n18_
            have HB := n19_
            clear n0_ n1_ n2_ n3_ n4_ n5_ n6_ n7_ n8_ n9_ n10_ n11_ n12_ n13_ n14_ n15_ n16_ n17_ n18_ n19_
            have hHeld : w117.cell? ⟨gb368, 0, none⟩ = some (.int .i64 a2_0) ∧ w117.cell? ⟨gb368, 1, none⟩ = some (.int .i64 a2_1) ∧ w117.cell? ⟨gb368, 2, none⟩ = some (.int .i64 a2_2) ∧ w117.cell? ⟨gb368, 3, none⟩ = some (.int .i64 a2_3) ∧ w117.cell? ⟨gb368, 4, none⟩ = some (.int .i64 a2_4) ∧ w117.cell? ⟨gb368, 5, none⟩ = some (.int .i64 a2_5) ∧ w117.cell? ⟨gb368, 6, none⟩ = some (.bool a2_6) := hS_
            obtain ⟨Ao118, co118, eo118⟩ := Kd.R_slice HO430.out
            (first | subst eo118 | (injection eo118 with f1_ f2_ f3_; have f4_ := f1_.symm; have f5_ := f3_.symm; clear f1_ f2_ f3_; subst f4_; subst f5_))
            obtain ⟨Ao120, co120, eo120⟩ := Kd.R_slice HO433.out
            (first | subst eo120 | (injection eo120 with f1_ f2_ f3_; have f4_ := f1_.symm; have f5_ := f3_.symm; clear f1_ f2_ f3_; subst f4_; subst f5_))
            refine Q4 (a' := ?_) ?_ ?_
            rotate_left
            ·simp only [putAll, Act.put, List.setIfInBounds_toArray, List.set_cons_zero, List.set_cons_succ]
             rfl
            refine one_ (i := 7) (N := none) #[true, true, true, true, true, true, true, true] rfl rfl (Q6 HT_.out (by kernel_rfl)) (by decide) (fun K hK => ?_)
            have hs119 : w117.cell? ⟨gb435, 0, none⟩ = some (.slice none 0 0) := (Qa BK435.out 0).trans rfl
            have hfs119 := Qd BK435.out 0
            have hns119_0 := NB368_435.out
            have hns119_1 := NB387_435.out
            have hns119_2 := NB405_435.out
            have hms119_0 := NB435_368.out
            have hms119_1 := NB435_387.out
            have hms119_2 := NB435_405.out
            have hs121 : w117.cell? ⟨gb435, 1, none⟩ = some (.slice none 0 0) := (Qa BK435.out 1).trans rfl
            have hfs121 := Qd BK435.out 1
            have hns121_0 := NB368_435.out
            have hns121_1 := NB387_435.out
            have hns121_2 := NB405_435.out
            have hms121_0 := NB435_368.out
            have hms121_1 := NB435_387.out
            have hms121_2 := NB435_405.out
            have hs122 : w117.cell? ⟨gb435, 2, none⟩ = some (.int .i64 0) := (Qa BK435.out 2).trans rfl
            have hfs122 := Qd BK435.out 2
            have hns122_0 := NB368_435.out
            have hns122_1 := NB387_435.out
            have hns122_2 := NB405_435.out
            have hms122_0 := NB435_368.out
            have hms122_1 := NB435_387.out
            have hms122_2 := NB435_405.out
            refine skip_ (w1 := ?_) (by rfl) rfl ?_ ?_
            rotate_left
            ·go_simp
             rfl
            refine hK.out _ _ ⟨((Q2 (p := ⟨gb435, _, none⟩) NB368_435.out _).trans (((Q2 (p := ⟨gb435, _, none⟩) NB368_435.out _).trans (((Q2 (p := ⟨gb435, _, none⟩) NB368_435.out _).trans (hHeld.1)))))), ((Q2 (p := ⟨gb435, _, none⟩) NB368_435.out _).trans (((Q2 (p := ⟨gb435, _, none⟩) NB368_435.out _).trans (((Q2 (p := ⟨gb435, _, none⟩) NB368_435.out _).trans (hHeld.2.1)))))), ((Q2 (p := ⟨gb435, _, none⟩) NB368_435.out _).trans (((Q2 (p := ⟨gb435, _, none⟩) NB368_435.out _).trans (((Q2 (p := ⟨gb435, _, none⟩) NB368_435.out _).trans (hHeld.2.2.1)))))), ((Q2 (p := ⟨gb435, _, none⟩) NB368_435.out _).trans (((Q2 (p := ⟨gb435, _, none⟩) NB368_435.out _).trans (((Q2 (p := ⟨gb435, _, none⟩) NB368_435.out _).trans (hHeld.2.2.2.1)))))), ((Q2 (p := ⟨gb435, _, none⟩) NB368_435.out _).trans (((Q2 (p := ⟨gb435, _, none⟩) NB368_435.out _).trans (((Q2 (p := ⟨gb435, _, none⟩) NB368_435.out _).trans (hHeld.2.2.2.2.1)))))), ((Q2 (p := ⟨gb435, _, none⟩) NB368_435.out _).trans (((Q2 (p := ⟨gb435, _, none⟩) NB368_435.out _).trans (((Q2 (p := ⟨gb435, _, none⟩) NB368_435.out _).trans (hHeld.2.2.2.2.2.1)))))), ((Q2 (p := ⟨gb435, _, none⟩) NB368_435.out _).trans (((Q2 (p := ⟨gb435, _, none⟩) NB368_435.out _).trans (((Q2 (p := ⟨gb435, _, none⟩) NB368_435.out _).trans (hHeld.2.2.2.2.2.2))))))⟩ (fun hHeld => ?_)
            clear hK K
            refine done_ (done_of HT_.out (by kernel_rfl)) ?_
            have hnb123 := NB435_368.out
            have hnc123 := NB368_435.out
            have hnb124 := NB435_387.out
            have hnc124 := NB387_435.out
            have hnb125 := NB435_405.out
            have hnc125 := NB405_435.out
            have hcz126_0 : w117.cell? ⟨gb435, 0, none⟩ = some (.slice none 0 0) := (Qa BK435.out 0).trans rfl
            have hcz126_1 : w117.cell? ⟨gb435, 1, none⟩ = some (.slice none 0 0) := (Qa BK435.out 1).trans rfl
            have hcz126_2 : w117.cell? ⟨gb435, 2, none⟩ = some (.int .i64 0) := (Qa BK435.out 2).trans rfl
            have hfz126_0 := Qd BK435.out 0
            have hfz126_1 := Qd BK435.out 1
            have hfz126_2 := Qd BK435.out 2
            have hnb127 := NB387_368.out
            have hnc127 := NB368_387.out
            have hcz128_0 : w117.cell? ⟨gb387, 0, none⟩ = some (.slice Ao28 t380.length co28) := (Qa BK387.out 0).trans rfl
            have hcz128_1 : w117.cell? ⟨gb387, 1, none⟩ = some (.slice Ao30 t383.length co30) := (Qa BK387.out 1).trans rfl
            have hcz128_2 : w117.cell? ⟨gb387, 2, none⟩ = some (.int .i64 t386) := (Qa BK387.out 2).trans rfl
            have hfz128_0 := Qd BK387.out 0
            have hfz128_1 := Qd BK387.out 1
            have hfz128_2 := Qd BK387.out 2
            try go_wp2_with (first | ((with_reducible refine Qq (f := 24) rfl ?_); refine Qx (some 72) rfl rfl Try.func24 (by kernel_rfl) rfl #[.agg #[.slice Ao118 t428.length co118, .slice Ao120 t431.length co120, .int .i64 t434], .agg #[.slice Ao28 t380.length co28, .slice Ao30 t383.length co30, .int .i64 t386]] rfl (by (try simp only [List.map_toArray, List.map_cons, List.map_nil]); first | done | rfl | (simp only [List.length_drop, List.length_take]; rfl)) ?_; (with_reducible refine (laws_eqRibOut.calls kj18 _ _ t428 _ _ t431 t434 _ _ t380 _ _ t383 t386 true _ ?side1 ?side2 ?side3 ?side4 ?side5 ?side6 ?side7 ?side8 A73.out).mono ?_); (case side1 => refine (Kd.R_reads' (e := 73) (base := w.heap.size) (ok := fun k_ => (some k_ ≠ (v419 : Value).ownBlock ∧ (some k_ ≠ (.slice Ao28 t380.length co28 : Value).ownBlock ∧ some k_ ≠ (.slice Ao40 t398.length co40 : Value).ownBlock))) (n := t428.length) (c := co118) ?_).2.2; exact (by (with_reducible repeat (first | apply Kd.R_alloc | apply Kd.R_drewN | apply Kd.R_drew)); exact (Kd.R_mono (Kd.R_far (p := ⟨gb435, 2, none⟩) (Kd.R_far (p := ⟨gb435, 1, none⟩) (Kd.R_far (p := ⟨gb435, 0, none⟩) (Kd.R_types HO430.out BK435.out (by decide)) (fun _ hk => hk.2) (.slice Ao118 t428.length co118)) (fun _ hk => hk.2) (.slice Ao120 t431.length co120)) (fun _ hk => hk.2) (.int .i64 t434)) (fun _ h_ => h_.1)))); (case side2 => exact (Kd.R_reads' HO430.out).2.1); (case side3 => refine (Kd.R_reads' (e := 42) (base := w.heap.size) (ok := fun k_ => (some k_ ≠ (.slice Ao30 t383.length co30 : Value).ownBlock ∧ some k_ ≠ (.slice Ao44 t401.length co44 : Value).ownBlock)) (n := t431.length) (c := co120) ?_).2.2; exact (by (with_reducible repeat (first | apply Kd.R_alloc | apply Kd.R_drewN | apply Kd.R_drew)); exact (Kd.R_mono (Kd.R_far (p := ⟨gb435, 2, none⟩) (Kd.R_far (p := ⟨gb435, 1, none⟩) (Kd.R_far (p := ⟨gb435, 0, none⟩) (Kd.R_types HO433.out BK435.out (by decide)) (fun _ hk => hk.2) (.slice Ao118 t428.length co118)) (fun _ hk => hk.2) (.slice Ao120 t431.length co120)) (fun _ hk => hk.2) (.int .i64 t434)) (fun _ h_ => h_.1)))); (case side4 => exact (Kd.R_reads' HO433.out).2.1); (case side5 => refine (Kd.R_reads' (e := 73) (base := w.heap.size) (ok := fun k_ => (some k_ ≠ (v419 : Value).ownBlock ∧ (some k_ ≠ (.slice Ao118 t428.length co118 : Value).ownBlock ∧ some k_ ≠ (.slice Ao40 t398.length co40 : Value).ownBlock))) (n := t380.length) (c := co28) ?_).2.2; exact (by (with_reducible repeat (first | apply Kd.R_alloc | apply Kd.R_drewN | apply Kd.R_drew)); exact (Kd.R_mono (Kd.R_far (p := ⟨gb435, 2, none⟩) (Kd.R_far (p := ⟨gb435, 1, none⟩) (Kd.R_far (p := ⟨gb435, 0, none⟩) (Kd.R_types HO_388000.out BK435.out (by decide)) (fun _ hk => hk.2) (.slice Ao118 t428.length co118)) (fun _ hk => hk.2) (.slice Ao120 t431.length co120)) (fun _ hk => hk.2) (.int .i64 t434)) (fun _ h_ => h_.1)))); (case side6 => exact (Kd.R_reads' HO_388000.out).2.1); (case side7 => refine (Kd.R_reads' (e := 42) (base := w.heap.size) (ok := fun k_ => (some k_ ≠ (.slice Ao120 t431.length co120 : Value).ownBlock ∧ some k_ ≠ (.slice Ao44 t401.length co44 : Value).ownBlock)) (n := t383.length) (c := co30) ?_).2.2; exact (by (with_reducible repeat (first | apply Kd.R_alloc | apply Kd.R_drewN | apply Kd.R_drew)); exact (Kd.R_mono (Kd.R_far (p := ⟨gb435, 2, none⟩) (Kd.R_far (p := ⟨gb435, 1, none⟩) (Kd.R_far (p := ⟨gb435, 0, none⟩) (Kd.R_types HO_388001.out BK435.out (by decide)) (fun _ hk => hk.2) (.slice Ao118 t428.length co118)) (fun _ hk => hk.2) (.slice Ao120 t431.length co120)) (fun _ hk => hk.2) (.int .i64 t434)) (fun _ h_ => h_.1)))); (case side8 => exact (Kd.R_reads' HO_388001.out).2.1); rintro e w129 ⟨rfl, hb⟩; refine ⟨_, rfl, ?_⟩; have n0_ := Aside0.mk (Kd.R_below (by (with_reducible repeat (first | apply Kd.R_alloc | apply Kd.R_drewN | apply Kd.R_drew)); exact (Kd.R_mono (Kd.R_far (p := ⟨gb435, 2, none⟩) (Kd.R_far (p := ⟨gb435, 1, none⟩) (Kd.R_far (p := ⟨gb435, 0, none⟩) (Kd.R_types HO_388000.out BK435.out (by decide)) (fun _ hk => hk.2) (.slice Ao118 t428.length co118)) (fun _ hk => hk.2) (.slice Ao120 t431.length co120)) (fun _ hk => hk.2) (.int .i64 t434)) (fun _ h_ => h_.1))) hb); have n1_ := Aside0.mk (Kd.R_below (by (with_reducible repeat (first | apply Kd.R_alloc | apply Kd.R_drewN | apply Kd.R_drew)); exact (Kd.R_mono (Kd.R_far (p := ⟨gb435, 2, none⟩) (Kd.R_far (p := ⟨gb435, 1, none⟩) (Kd.R_far (p := ⟨gb435, 0, none⟩) (Kd.R_types HO_388001.out BK435.out (by decide)) (fun _ hk => hk.2) (.slice Ao118 t428.length co118)) (fun _ hk => hk.2) (.slice Ao120 t431.length co120)) (fun _ hk => hk.2) (.int .i64 t434)) (fun _ h_ => h_.1))) hb); have n2_ := Aside0.mk (Kd.R_below (by (with_reducible repeat (first | apply Kd.R_alloc | apply Kd.R_drewN | apply Kd.R_drew)); exact (Kd.R_mono (Kd.R_far (p := ⟨gb435, 2, none⟩) (Kd.R_far (p := ⟨gb435, 1, none⟩) (Kd.R_far (p := ⟨gb435, 0, none⟩) (Kd.R_types HO_406000.out BK435.out (by decide)) (fun _ hk => hk.2) (.slice Ao118 t428.length co118)) (fun _ hk => hk.2) (.slice Ao120 t431.length co120)) (fun _ hk => hk.2) (.int .i64 t434)) (fun _ h_ => h_.1))) hb); have n3_ := Aside0.mk (Kd.R_below (by (with_reducible repeat (first | apply Kd.R_alloc | apply Kd.R_drewN | apply Kd.R_drew)); exact (Kd.R_mono (Kd.R_far (p := ⟨gb435, 2, none⟩) (Kd.R_far (p := ⟨gb435, 1, none⟩) (Kd.R_far (p := ⟨gb435, 0, none⟩) (Kd.R_types HO_406001.out BK435.out (by decide)) (fun _ hk => hk.2) (.slice Ao118 t428.length co118)) (fun _ hk => hk.2) (.slice Ao120 t431.length co120)) (fun _ hk => hk.2) (.int .i64 t434)) (fun _ h_ => h_.1))) hb); have n4_ := Aside0.mk (Kd.R_below (by (with_reducible repeat (first | apply Kd.R_alloc | apply Kd.R_drewN | apply Kd.R_drew)); exact (Kd.R_mono (Kd.R_far (p := ⟨gb435, 2, none⟩) (Kd.R_far (p := ⟨gb435, 1, none⟩) (Kd.R_far (p := ⟨gb435, 0, none⟩) (Kd.R_types HO420.out BK435.out (by decide)) (fun _ hk => hk.2) (.slice Ao118 t428.length co118)) (fun _ hk => hk.2) (.slice Ao120 t431.length co120)) (fun _ hk => hk.2) (.int .i64 t434)) (fun _ h_ => h_.1))) hb); have n5_ := Aside0.mk (Kd.R_below (by (with_reducible repeat (first | apply Kd.R_alloc | apply Kd.R_drewN | apply Kd.R_drew)); exact (Kd.R_mono (Kd.R_far (p := ⟨gb435, 2, none⟩) (Kd.R_far (p := ⟨gb435, 1, none⟩) (Kd.R_far (p := ⟨gb435, 0, none⟩) (Kd.R_types HO430.out BK435.out (by decide)) (fun _ hk => hk.2) (.slice Ao118 t428.length co118)) (fun _ hk => hk.2) (.slice Ao120 t431.length co120)) (fun _ hk => hk.2) (.int .i64 t434)) (fun _ h_ => h_.1))) hb); have n6_ := Aside0.mk (Kd.R_below (by (with_reducible repeat (first | apply Kd.R_alloc | apply Kd.R_drewN | apply Kd.R_drew)); exact (Kd.R_mono (Kd.R_far (p := ⟨gb435, 2, none⟩) (Kd.R_far (p := ⟨gb435, 1, none⟩) (Kd.R_far (p := ⟨gb435, 0, none⟩) (Kd.R_types HO433.out BK435.out (by decide)) (fun _ hk => hk.2) (.slice Ao118 t428.length co118)) (fun _ hk => hk.2) (.slice Ao120 t431.length co120)) (fun _ hk => hk.2) (.int .i64 t434)) (fun _ h_ => h_.1))) hb); have n7_ := Aside0.mk (Qm (g := gb368) (o := .cells #[.int .i64 a2_0, .int .i64 a2_1, .int .i64 a2_2, .int .i64 a2_3, .int .i64 a2_4, .int .i64 a2_5, .bool a2_6] 40 (0, 0)) (by (with_reducible repeat (first | refine Qi ?_ _ | refine Qj ?_ | refine Qh ?_ _)); refine Q0 ?_ NB368_435.out _; (with_reducible repeat (first | refine Qi ?_ _ | refine Qj ?_ | refine Qh ?_ _)); refine Q0 ?_ NB368_435.out _; (with_reducible repeat (first | refine Qi ?_ _ | refine Qj ?_ | refine Qh ?_ _)); refine Q0 ?_ NB368_435.out _; (with_reducible repeat (first | refine Qi ?_ _ | refine Qj ?_ | refine Qh ?_ _)); exact BK368.out) hb); have n8_ := Aside0.mk (Qm (g := gb387) (o := .cells #[.slice Ao28 t380.length co28, .slice Ao30 t383.length co30, .int .i64 t386] 34 (0, 0)) (by (with_reducible repeat (first | refine Qi ?_ _ | refine Qj ?_ | refine Qh ?_ _)); refine Q0 ?_ NB387_435.out _; (with_reducible repeat (first | refine Qi ?_ _ | refine Qj ?_ | refine Qh ?_ _)); refine Q0 ?_ NB387_435.out _; (with_reducible repeat (first | refine Qi ?_ _ | refine Qj ?_ | refine Qh ?_ _)); refine Q0 ?_ NB387_435.out _; (with_reducible repeat (first | refine Qi ?_ _ | refine Qj ?_ | refine Qh ?_ _)); exact BK387.out) hb); have n9_ := Aside0.mk (Qm (g := gb405) (o := .cells #[.slice Ao40 t398.length co40, .slice Ao44 t401.length co44, .int .i64 t404] 34 (0, 0)) (by (with_reducible repeat (first | refine Qi ?_ _ | refine Qj ?_ | refine Qh ?_ _)); refine Q0 ?_ NB405_435.out _; (with_reducible repeat (first | refine Qi ?_ _ | refine Qj ?_ | refine Qh ?_ _)); refine Q0 ?_ NB405_435.out _; (with_reducible repeat (first | refine Qi ?_ _ | refine Qj ?_ | refine Qh ?_ _)); refine Q0 ?_ NB405_435.out _; (with_reducible repeat (first | refine Qi ?_ _ | refine Qj ?_ | refine Qh ?_ _)); exact BK405.out) hb); have n10_ := Aside0.mk (Qm (g := gb435) (o := .cells #[.slice Ao118 t428.length co118, .slice Ao120 t431.length co120, .int .i64 t434] 34 (0, 0)) (by (with_reducible repeat (first | refine Qi ?_ _ | refine Qj ?_ | refine Qh ?_ _)); refine Qz (cs := #[.slice Ao118 t428.length co118, .slice Ao120 t431.length co120, .int .i64 0]) ?_ 2 _ rfl; (with_reducible repeat (first | refine Qi ?_ _ | refine Qj ?_ | refine Qh ?_ _)); refine Qz (cs := #[.slice Ao118 t428.length co118, .slice none 0 0, .int .i64 0]) ?_ 1 _ rfl; (with_reducible repeat (first | refine Qi ?_ _ | refine Qj ?_ | refine Qh ?_ _)); refine Qz (cs := #[.slice none 0 0, .slice none 0 0, .int .i64 0]) ?_ 0 _ rfl; (with_reducible repeat (first | refine Qi ?_ _ | refine Qj ?_ | refine Qh ?_ _)); exact BK435.out) hb); have n11_ := Aside0.mk (Qn (by repeat (first | (with_reducible first | exact HB.out | apply Qg | apply Qb | apply Qe | refine Qc ?_ GE368.out | refine Qc ?_ GE387.out | refine Qc ?_ GE405.out | refine Qc ?_ GE435.out) | exact HB.out)) hb); clear HO_388000; clear HO_388001; clear HO_406000; clear HO_406001; clear HO420; clear HO430; clear HO433; clear BK368; clear BK387; clear BK405; clear BK435; clear HB; have HO_388000 := n0_; have HO_388001 := n1_; have HO_406000 := n2_; have HO_406001 := n3_; have HO420 := n4_; have HO430 := n5_; have HO433 := n6_; have BK368 := n7_; have BK387 := n8_; have BK405 := n9_; have BK435 := n10_; have HB := n11_; clear n0_ n1_ n2_ n3_ n4_ n5_ n6_ n7_ n8_ n9_ n10_ n11_; (try clear hb); (try clear hb2); (try clear hk); (try clear hi); have hcz130_0 : w129.cell? ⟨gb405, 0, none⟩ = some (.slice Ao40 t398.length co40) := (Qa BK405.out 0).trans rfl; have hcz130_1 : w129.cell? ⟨gb405, 1, none⟩ = some (.slice Ao44 t401.length co44) := (Qa BK405.out 1).trans rfl; have hcz130_2 : w129.cell? ⟨gb405, 2, none⟩ = some (.int .i64 t404) := (Qa BK405.out 2).trans rfl; have hfz130_0 := Qd BK405.out 0; have hfz130_1 := Qd BK405.out 1; have hfz130_2 := Qd BK405.out 2) | ((with_reducible refine Qq (f := 26) rfl ?_); refine Qx (some 76) rfl rfl Try.func26 (by kernel_rfl) rfl #[.agg #[.slice Ao40 t415.length co40, .slice Ao44 t416.length co44, .int .i64 t404], .int .i64 1] rfl (by (try simp only [List.map_toArray, List.map_cons, List.map_nil]); first | done | (rw [show t415.length = t398.length from (Kd.R_reads' HO_406000.out).1.symm, show t416.length = t401.length from (Kd.R_reads' HO_406001.out).1.symm] <;> rfl) | rfl | (simp only [List.length_drop, List.length_take]; rfl)) ?_; (with_reducible refine (laws_heldRibOut.calls kj18 _ _ t415 _ _ t416 t404 1 t437 _ ?side1 ?side2 ?side3 ?side4 A75.out).mono ?_); (case side1 => repeat (first | exact (Kd.R_reads' HO_406000.out).2.2 | (with_reducible refine Kd.C_alloc ?_ _) | (with_reducible refine Kd.C_drewN ?_ _) | (with_reducible refine Kd.C_drew ?_))); (case side2 => rw [show t415.length = t398.length from (Kd.R_reads' HO_406000.out).1.symm]; exact (Kd.R_reads' HO_406000.out).2.1); (case side3 => repeat (first | exact (Kd.R_reads' HO_406001.out).2.2 | (with_reducible refine Kd.C_alloc ?_ _) | (with_reducible refine Kd.C_drewN ?_ _) | (with_reducible refine Kd.C_drew ?_))); (case side4 => rw [show t416.length = t401.length from (Kd.R_reads' HO_406001.out).1.symm]; exact (Kd.R_reads' HO_406001.out).2.1); rintro e w131 ⟨rfl, hb⟩; refine ⟨_, rfl, ?_⟩; have n0_ := Aside0.mk (Kd.R_below (by (with_reducible repeat (first | apply Kd.R_alloc | apply Kd.R_drewN | apply Kd.R_drew)); exact HO_388000.out) hb); have n1_ := Aside0.mk (Kd.R_below (by (with_reducible repeat (first | apply Kd.R_alloc | apply Kd.R_drewN | apply Kd.R_drew)); exact HO_388001.out) hb); have n2_ := Aside0.mk (Kd.R_below (by (with_reducible repeat (first | apply Kd.R_alloc | apply Kd.R_drewN | apply Kd.R_drew)); exact HO_406000.out) hb); have n3_ := Aside0.mk (Kd.R_below (by (with_reducible repeat (first | apply Kd.R_alloc | apply Kd.R_drewN | apply Kd.R_drew)); exact HO_406001.out) hb); have n4_ := Aside0.mk (Kd.R_below (by (with_reducible repeat (first | apply Kd.R_alloc | apply Kd.R_drewN | apply Kd.R_drew)); exact HO420.out) hb); have n5_ := Aside0.mk (Kd.R_below (by (with_reducible repeat (first | apply Kd.R_alloc | apply Kd.R_drewN | apply Kd.R_drew)); exact HO430.out) hb); have n6_ := Aside0.mk (Kd.R_below (by (with_reducible repeat (first | apply Kd.R_alloc | apply Kd.R_drewN | apply Kd.R_drew)); exact HO433.out) hb); have n7_ := Aside0.mk (Qm (g := gb368) (o := .cells #[.int .i64 a2_0, .int .i64 a2_1, .int .i64 a2_2, .int .i64 a2_3, .int .i64 a2_4, .int .i64 a2_5, .bool a2_6] 40 (0, 0)) (by (with_reducible repeat (first | refine Qi ?_ _ | refine Qj ?_ | refine Qh ?_ _)); exact BK368.out) hb); have n8_ := Aside0.mk (Qm (g := gb387) (o := .cells #[.slice Ao28 t380.length co28, .slice Ao30 t383.length co30, .int .i64 t386] 34 (0, 0)) (by (with_reducible repeat (first | refine Qi ?_ _ | refine Qj ?_ | refine Qh ?_ _)); exact BK387.out) hb); have n9_ := Aside0.mk (Qm (g := gb405) (o := .cells #[.slice Ao40 t398.length co40, .slice Ao44 t401.length co44, .int .i64 t404] 34 (0, 0)) (by (with_reducible repeat (first | refine Qi ?_ _ | refine Qj ?_ | refine Qh ?_ _)); exact BK405.out) hb); have n10_ := Aside0.mk (Qm (g := gb435) (o := .cells #[.slice Ao118 t428.length co118, .slice Ao120 t431.length co120, .int .i64 t434] 34 (0, 0)) (by (with_reducible repeat (first | refine Qi ?_ _ | refine Qj ?_ | refine Qh ?_ _)); exact BK435.out) hb); have n11_ := Aside0.mk (Qn (by repeat (first | (with_reducible first | exact HB.out | apply Qg | apply Qb | apply Qe | refine Qc ?_ GE368.out | refine Qc ?_ GE387.out | refine Qc ?_ GE405.out | refine Qc ?_ GE435.out) | exact HB.out)) hb); clear HO_388000; clear HO_388001; clear HO_406000; clear HO_406001; clear HO420; clear HO430; clear HO433; clear BK368; clear BK387; clear BK405; clear BK435; clear HB; have HO_388000 := n0_; have HO_388001 := n1_; have HO_406000 := n2_; have HO_406001 := n3_; have HO420 := n4_; have HO430 := n5_; have HO433 := n6_; have BK368 := n7_; have BK387 := n8_; have BK405 := n9_; have BK435 := n10_; have HB := n11_; clear n0_ n1_ n2_ n3_ n4_ n5_ n6_ n7_ n8_ n9_ n10_ n11_; (try clear hb); (try clear hb2); (try clear hk); (try clear hi)))
            go_ret
            exact ⟨by first | rfl | (simp [Qp, Qo] <;> rfl) | (simp [*, Qp, Qo] <;> rfl), by repeat (first | (with_reducible first | exact HB.out | apply Qg | apply Qb | apply Qe | refine Qc ?_ GE368.out | refine Qc ?_ GE387.out | refine Qc ?_ GE405.out | refine Qc ?_ GE435.out) | exact HB.out)⟩
           ·rw [if_neg c104] at H
            have c104b0 : (t437 == t414) = false := beq_eq_false_iff_ne.mpr c104
            have c104b1 : (t437 != t414) = true := bne_iff_ne.mpr c104
            exact absurd (Option.some.inj H) (by decide)
         ·replace c74 := Bool.eq_false_iff.mpr c74
          subst c74
          have H1 : (some false) = some true := by rw [if_neg (show ¬ (false = true) by decide)] at H; exact H
          clear H
          have H := H1
          clear H1
          exact absurd (Option.some.inj H) (by decide)
        ·rw [if_neg c69] at H
         have c69b0 : (t417 == t414) = false := beq_eq_false_iff_ne.mpr c69
         have c69b1 : (t417 != t414) = true := bne_iff_ne.mpr c69
         exact absurd (Option.some.inj H) (by decide)
   ·replace c17 := Bool.eq_false_iff.mpr c17
    subst c17
    have H1 : (some false) = some true := by rw [if_neg (show ¬ (false = true) by decide)] at H; exact H
    clear H
    have H := H1
    clear H1
    exact absurd (Option.some.inj H) (by decide)
  ·replace c14 := Bool.eq_false_iff.mpr c14
   subst c14
   have H1 : (some false) = some true := by rw [if_neg (show ¬ (false = true) by decide)] at H; exact H
   clear H
   have H := H1
   clear H1
   exact absurd (Option.some.inj H) (by decide)
end Go.Proofs.Ytmgmaflfednngaa.PFnExactRibPut
