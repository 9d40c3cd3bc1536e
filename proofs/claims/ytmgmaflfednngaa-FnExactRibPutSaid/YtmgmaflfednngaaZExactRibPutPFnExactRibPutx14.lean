-- A copy, made by trim.py (its own words shortened): not an official print.
import Derived.Test.YtmgmaflfednngaaZExactRibPutPFnExactRibPutx0
import Derived.Test.YtmgmaflfednngaaZExactRibPutPFnExactRibPutx9
import Derived.Test.YtmgmaflfednngaaZExactRibPutPFnExactRibPutx10
import Derived.Test.YtmgmaflfednngaaZExactRibPutPFnExactRibPutx11
import Derived.Test.YtmgmaflfednngaaZExactRibPutPFnExactRibPutx13
import Derived.Lib.SliceRun
import Derived.Test.YtmgmaflfednngaaZExactRibPutBase
import Derived.Test.YtmgmaflfednngaaZExactRibPutSlices
import Derived.Test.YtmgmaflfednngaaZExactRibPutInsert
import Derived.Shelf.Abstract
import Derived.Deep.RegionLaw
import Derived.Shelf.RegionOpenPlain
namespace Go.Proofs.Ytmgmaflfednngaa.PFnExactRibPut
open Go.RowKit Go.Proofs.YtmgmaflfednngaaW.PrintWords Go.Proofs.YtmgmaflfednngaaW.PrintLast Go.Proofs.YtmgmaflfednngaaW.PrintMore
attribute [local go_sem] max2_int min2_int max_two min_two max_three min_three max_four min_four   -- for this text's walks alone
set_option linter.unusedVariables false
set_option linter.unusedSimpArgs false
def impl_ribCode.f (k : Nat) (l0 : List (S73)) (a1 : Int) (a2 : Bool) : Option (Int) := if (l0.length : Int) > 400 then (some 2) else ((impl_RibRight.f k l0).bind fun t311 => (if t311 = true then ((impl_isPeer.f a1).bind fun t312 => (if t312 = true then (if a2 = true then (some 0) else (some 1)) else (some 1))) else (some 1)))
theorem impl_ribCode.mono : ∀ a0 a1 a2 k, LeO (impl_ribCode.f k a0 a1 a2) (impl_ribCode.f (k + 1) a0 a1 a2) := by
 intro a0 a1 a2 k
 unfold impl_ribCode.f
 repeat' first
   | (with_reducible exact impl_RibRight.mono _ _)
   | (with_reducible exact LeO.refl _)
   | (with_reducible exact LeO.none _)
   | (with_reducible refine LeO.ite ?_ ?_)
   | (with_reducible refine LeO.bind ?_ (fun _ => ?_))
   | exact impl_RibRight.mono _ _
   | exact LeO.none _
   | refine LeO.ite ?_ ?_
   | refine LeO.bind ?_ (fun _ => ?_)
set_option maxHeartbeats 8000000 in
set_option maxRecDepth 100000 in
theorem impl_ribCode.calls (k : Nat) (A0 : Option Addr) (c0 : Nat) (l0 : List (S73)) (a1 : Int) (a2 : Bool) (r : Int) (w : World) (hr0 : Kd.C k73 w A0 l0.length l0) (hc0 : l0.length ≤ c0) (h : impl_ribCode.f k l0 a1 a2 = some r) :
  Calls Try.prog 64 #[.slice A0 l0.length c0, .int .i64 a1, .bool a2] w fun e w' => e = .returned (.int .i64 r) ∧ Below w.heap.size w w' := by
 have HR0 := Aside0.mk hr0
 have HC0 := Aside0.mk hc0
 clear hr0 hc0
 have HB := Aside0.mk (Below.refl w.heap.size w)
 have H : (if (l0.length : Int) > 400 then (some 2) else ((impl_RibRight.f k l0).bind fun t311 => (if t311 = true then ((impl_isPeer.f a1).bind fun t312 => (if t312 = true then (if a2 = true then (some 0) else (some 1)) else (some 1))) else (some 1)))) = some r := h
 clear h
 by_cases c4 : (l0.length : Int) > 400
 ·rw [if_pos c4] at H
  have c4b0 : decide (400 < (l0.length : Int)) = true := decide_eq_true c4
  have c4b1 : decide (400 < l0.length) = true := decide_eq_true (by omega)
  clear c4
  obtain rfl := Option.some.inj H
  go_enter Try.func64, Try.ntmps64
  go_wp2
  go_ret
  exact ⟨by first | rfl | (simp [Qp, Qo] <;> rfl) | (simp [*, Qp, Qo] <;> rfl), by repeat (first | (with_reducible first | exact HB.out | apply Qg | apply Qb | apply Qe) | exact HB.out)⟩
 ·rw [if_neg c4] at H
  have c4b0 : decide (400 < (l0.length : Int)) = false := decide_eq_false c4
  have c4b1 : decide (400 < l0.length) = false := decide_eq_false (by omega)
  clear c4
  replace H := Option.bind_eq_some_iff.mp H
  obtain ⟨t311, A50, H⟩ := H
  replace H : (if t311 = true then ((impl_isPeer.f a1).bind fun t312 => (if t312 = true then (if a2 = true then (some 0) else (some 1)) else (some 1))) else (some 1)) = some r := H
  have A5 := Aside0.mk A50
  clear A50
  by_cases c6 : t311 = true
  ·subst c6
   have H1 : ((impl_isPeer.f a1).bind fun t312 => (if t312 = true then (if a2 = true then (some 0) else (some 1)) else (some 1))) = some r := by rw [if_pos rfl] at H; exact H
   clear H
   have H := H1
   clear H1
   replace H := Option.bind_eq_some_iff.mp H
   obtain ⟨t312, A70, H⟩ := H
   replace H : (if t312 = true then (if a2 = true then (some 0) else (some 1)) else (some 1)) = some r := H
   have A7 := Aside0.mk A70
   clear A70
   by_cases c8 : t312 = true
   ·subst c8
    have H1 : (if a2 = true then (some 0) else (some 1)) = some r := by rw [if_pos rfl] at H; exact H
    clear H
    have H := H1
    clear H1
    by_cases c9 : a2 = true
    ·subst c9
     have H1 : (some 0) = some r := by rw [if_pos rfl] at H; exact H
     clear H
     have H := H1
     clear H1
     obtain rfl := Option.some.inj H
     go_enter Try.func64, Try.ntmps64
     go_wp2_with (first | ((with_reducible refine Qq (f := 57) rfl ?_); refine Qx (some 13) rfl rfl Try.func57 (by kernel_rfl) rfl #[.slice A0 l0.length c0] rfl (by (try simp only [List.map_toArray, List.map_cons, List.map_nil]); first | done | rfl | (simp only [List.length_drop, List.length_take]; rfl)) ?_; (with_reducible refine (impl_RibRight.calls k _ _ l0 true _ ?side1 ?side2 A5.out).mono ?_); (case side1 => repeat (first | exact HR0.out | (with_reducible refine Kd.C_alloc ?_ _) | (with_reducible refine Kd.C_drewN ?_ _) | (with_reducible refine Kd.C_drew ?_))); (case side2 => exact HC0.out); rintro e w10 ⟨rfl, hb⟩; refine ⟨_, rfl, ?_⟩; have n0_ := Aside0.mk (Qn (by repeat (first | (with_reducible first | exact HB.out | apply Qg | apply Qb | apply Qe) | exact HB.out)) hb); clear HB; have HB := n0_; clear n0_; (try clear hb); (try clear hb2); (try clear hk); (try clear hi)) | (go_at_call 102; (with_reducible refine (impl_isPeer.calls a1 true _ A7.out).mono ?_); rintro e w' ⟨rfl, ⟨nd, rfl⟩⟩))
     go_ret
     exact ⟨by first | rfl | (simp [Qp, Qo] <;> rfl) | (simp [*, Qp, Qo] <;> rfl), by repeat (first | (with_reducible first | exact HB.out | apply Qg | apply Qb | apply Qe) | exact HB.out)⟩
    ·replace c9 := Bool.eq_false_iff.mpr c9
     subst c9
     have H1 : (some 1) = some r := by rw [if_neg (show ¬ (false = true) by decide)] at H; exact H
     clear H
     have H := H1
     clear H1
     obtain rfl := Option.some.inj H
     go_enter Try.func64, Try.ntmps64
     go_wp2_with (first | ((with_reducible refine Qq (f := 57) rfl ?_); refine Qx (some 13) rfl rfl Try.func57 (by kernel_rfl) rfl #[.slice A0 l0.length c0] rfl (by (try simp only [List.map_toArray, List.map_cons, List.map_nil]); first | done | rfl | (simp only [List.length_drop, List.length_take]; rfl)) ?_; (with_reducible refine (impl_RibRight.calls k _ _ l0 true _ ?side1 ?side2 A5.out).mono ?_); (case side1 => repeat (first | exact HR0.out | (with_reducible refine Kd.C_alloc ?_ _) | (with_reducible refine Kd.C_drewN ?_ _) | (with_reducible refine Kd.C_drew ?_))); (case side2 => exact HC0.out); rintro e w11 ⟨rfl, hb⟩; refine ⟨_, rfl, ?_⟩; have n0_ := Aside0.mk (Qn (by repeat (first | (with_reducible first | exact HB.out | apply Qg | apply Qb | apply Qe) | exact HB.out)) hb); clear HB; have HB := n0_; clear n0_; (try clear hb); (try clear hb2); (try clear hk); (try clear hi)) | (go_at_call 102; (with_reducible refine (impl_isPeer.calls a1 true _ A7.out).mono ?_); rintro e w' ⟨rfl, ⟨nd, rfl⟩⟩))
     go_ret
     exact ⟨by first | rfl | (simp [Qp, Qo] <;> rfl) | (simp [*, Qp, Qo] <;> rfl), by repeat (first | (with_reducible first | exact HB.out | apply Qg | apply Qb | apply Qe) | exact HB.out)⟩
   ·replace c8 := Bool.eq_false_iff.mpr c8
    subst c8
    have H1 : (some 1) = some r := by rw [if_neg (show ¬ (false = true) by decide)] at H; exact H
    clear H
    have H := H1
    clear H1
    obtain rfl := Option.some.inj H
    go_enter Try.func64, Try.ntmps64
    go_wp2_with (first | ((with_reducible refine Qq (f := 57) rfl ?_); refine Qx (some 13) rfl rfl Try.func57 (by kernel_rfl) rfl #[.slice A0 l0.length c0] rfl (by (try simp only [List.map_toArray, List.map_cons, List.map_nil]); first | done | rfl | (simp only [List.length_drop, List.length_take]; rfl)) ?_; (with_reducible refine (impl_RibRight.calls k _ _ l0 true _ ?side1 ?side2 A5.out).mono ?_); (case side1 => repeat (first | exact HR0.out | (with_reducible refine Kd.C_alloc ?_ _) | (with_reducible refine Kd.C_drewN ?_ _) | (with_reducible refine Kd.C_drew ?_))); (case side2 => exact HC0.out); rintro e w12 ⟨rfl, hb⟩; refine ⟨_, rfl, ?_⟩; have n0_ := Aside0.mk (Qn (by repeat (first | (with_reducible first | exact HB.out | apply Qg | apply Qb | apply Qe) | exact HB.out)) hb); clear HB; have HB := n0_; clear n0_; (try clear hb); (try clear hb2); (try clear hk); (try clear hi)) | (go_at_call 102; (with_reducible refine (impl_isPeer.calls a1 false _ A7.out).mono ?_); rintro e w' ⟨rfl, ⟨nd, rfl⟩⟩))
    go_ret
    exact ⟨by first | rfl | (simp [Qp, Qo] <;> rfl) | (simp [*, Qp, Qo] <;> rfl), by repeat (first | (with_reducible first | exact HB.out | apply Qg | apply Qb | apply Qe) | exact HB.out)⟩
  ·replace c6 := Bool.eq_false_iff.mpr c6
   subst c6
   have H1 : (some 1) = some r := by rw [if_neg (show ¬ (false = true) by decide)] at H; exact H
   clear H
   have H := H1
   clear H1
   obtain rfl := Option.some.inj H
   go_enter Try.func64, Try.ntmps64
   go_wp2_with (first | ((with_reducible refine Qq (f := 57) rfl ?_); refine Qx (some 13) rfl rfl Try.func57 (by kernel_rfl) rfl #[.slice A0 l0.length c0] rfl (by (try simp only [List.map_toArray, List.map_cons, List.map_nil]); first | done | rfl | (simp only [List.length_drop, List.length_take]; rfl)) ?_; (with_reducible refine (impl_RibRight.calls k _ _ l0 false _ ?side1 ?side2 A5.out).mono ?_); (case side1 => repeat (first | exact HR0.out | (with_reducible refine Kd.C_alloc ?_ _) | (with_reducible refine Kd.C_drewN ?_ _) | (with_reducible refine Kd.C_drew ?_))); (case side2 => exact HC0.out); rintro e w13 ⟨rfl, hb⟩; refine ⟨_, rfl, ?_⟩; have n0_ := Aside0.mk (Qn (by repeat (first | (with_reducible first | exact HB.out | apply Qg | apply Qb | apply Qe) | exact HB.out)) hb); clear HB; have HB := n0_; clear n0_; (try clear hb); (try clear hb2); (try clear hk); (try clear hi)))
   go_ret
   exact ⟨by first | rfl | (simp [Qp, Qo] <;> rfl) | (simp [*, Qp, Qo] <;> rfl), by repeat (first | (with_reducible first | exact HB.out | apply Qg | apply Qb | apply Qe) | exact HB.out)⟩
def impl_Held_104.f (l0 : List (S73)) : Option ((List (S73))) := (some (([] : List (S73)) : List (S73))).bind fun y313 => (if y313.length + l0.length < 1954687338268 then (some (y313 ++ l0)) else (none))
set_option maxHeartbeats 8000000 in
set_option maxRecDepth 100000 in
theorem impl_Held_104.calls (A0 : Option Addr) (c0 : Nat) (l0 : List (S73)) (r : List (S73)) (w : World) (hr0 : Kd.C k73 w A0 l0.length l0) (hc0 : l0.length ≤ c0) (h : impl_Held_104.f l0 = some r) :
  Calls Try.prog 104 #[.slice A0 l0.length c0] w fun e w' => ∃ v0_ : Value, e = .returned (v0_) ∧ Kd.R k73 73 w' w.heap.size (fun _ => True) v0_ r ∧ Below w.heap.size w w' := by
 have HR0 := Aside0.mk hr0
 have HC0 := Aside0.mk hc0
 clear hr0 hc0
 have HB := Aside0.mk (Below.refl w.heap.size w)
 have H : ((some (([] : List (S73)) : List (S73))).bind fun y313 => (if y313.length + l0.length < 1954687338268 then (some (y313 ++ l0)) else (none))) = some r := h
 clear h
 obtain ⟨y313, hy313⟩ : ∃ y_ : List (S73), y_ = (([] : List (S73))) := ⟨_, rfl⟩
 replace H : (if y313.length + l0.length < 1954687338268 then (some (y313 ++ l0)) else (none)) = some r := by first | (rw [hy313]; with_reducible exact H) | (have H2_ := (Option.bind_some _ _).symm.trans H; rw [hy313]; with_reducible exact H2_) | (have H2_ := (Option.bind_some _ _).symm.trans H; with_reducible exact H2_) | with_reducible exact H | (rw [hy313]; exact H) | exact H
 have Ny313 := Aside0.mk hy313
 clear hy313
 by_cases c2 : y313.length + l0.length < 1954687338268
 ·rw [if_pos c2] at H
  have LMc2 := Aside0.mk c2
  clear c2
  obtain ⟨y316, hy316⟩ : ∃ y_ : List (S73), y_ = (y313 ++ l0) := ⟨_, rfl⟩
  replace H : (some y316) = some r := by first | (rw [hy316]; with_reducible exact H) | (have H2_ := (Option.bind_some _ _).symm.trans H; rw [hy316]; with_reducible exact H2_) | (have H2_ := (Option.bind_some _ _).symm.trans H; with_reducible exact H2_) | with_reducible exact H | (rw [hy316]; exact H) | exact H
  have Ny316 := Aside0.mk hy316
  clear hy316
  obtain rfl := Option.some.inj H
  rcases A0 with _ | a0_
  ·have hl_ : l0 = [] := by
    rcases l0 with _ | ⟨x_, l0_⟩
    ·rfl
    ·obtain ⟨ad_, e_, _⟩ := HR0.out.2.2 (by simp)
     cases e_
   have hy_ : y316 = [] := by rw [Ny316.out, Ny313.out, hl_]; rfl
   have hq_ : ∀ (W : World) (n c : Nat), (binOp .eql 26 (.slice none n c) (.slice none 0 0)).run Try.prog W = .ok (.bool true) W := fun W n c => Lib.run_eql_slice_nil W 26 73 none n c 0 0 Try.underlying26
   go_enter Try.func104, Try.ntmps104
   go_wp2
   go_ret
   exact ⟨_, rfl, by first | exact Kd.R_nil k73 73 _ _ _ | (rw [hy_]; exact Kd.R_nil _ _ _ _ _), by repeat (first | (with_reducible first | exact HB.out | apply Qg | apply Qb | apply Qe) | exact HB.out)⟩
  ·have hq_ : ∀ (W : World) (n c : Nat), (binOp .eql 26 (.slice (some a0_) n c) (.slice none 0 0)).run Try.prog W = .ok (.bool false) W := fun W n c => Lib.run_eql_slice_nil W 26 73 (some a0_) n c 0 0 Try.underlying26
   go_enter Try.func104, Try.ntmps104
   go_wp2_with (first | ((with_reducible refine Qw (N := 5) rfl ?_); refine Kd.R_lit k73 _ 73 ?hg (N := 5) ?hd (xs := ([] : List (S73))) (inner := []) (ok := fun _ => True) (okp := fun _ => True) ?hr ?hp (fun _ hk => hk) trivial (Below.refl _ _) (Nat.le_refl _) (by simp) ?_; (case hd => rfl); (case hg => rfl); (case hr => first | (go_simp; done) | (go_simp; rfl)); (case hp => exact (Reps.none _ _)); intro v314 w3 ho4 hb hg_ hnew_; clear hg_ hnew_; (first | rw [← Ny313.out] at ho4 | (simp only [Int.reduceToNat] at ho4; rw [← Ny313.out] at ho4)); have n0_ := Aside0.mk (Kd.R_lower ho4 (Ql (by repeat (first | (with_reducible first | exact HB.out | apply Qg | apply Qb | apply Qe) | exact HB.out)))); have n1_ := Aside0.mk (Qn (by repeat (first | (with_reducible first | exact HB.out | apply Qg | apply Qb | apply Qe) | exact HB.out)) hb); clear HB; have HO315 := n0_; have HB := n1_; clear n0_ n1_; clear hb ho4) | ((with_reducible refine gate_builtin (b := .append) (xs := #[.tmp 5, .tmp 6]) rfl ?_); at_builtin; refine Kd.R_append_rows k73 (w0 := w) w.heap.size rfl (.tmp 5) (.tmp 6) 26 73 (.agg #[(.int .i64 0), (.bool false), (.int .i64 0), (.int .i64 0), (.int .i64 0), (.int .i64 0), (.int .i64 0), (.int .i64 0), (.bool false)]) 72 rfl Try.underlying26 info73 rfl (by decide) (by omega) v314 y313 l0 _ _ _ (fun _ => True) (fun _ => False) rfl rfl ?aO ?aR (fun _ _ h => h) (fun _ h => h.elim) ?aF ?aB ?aS ?aL ?_; (case aR => repeat (first | exact (Kd.C_below HR0.out HB.out) | (with_reducible refine Kd.C_alloc ?_ _) | (with_reducible refine Kd.C_drewN ?_ _) | (with_reducible refine Kd.C_drew ?_))); (case aB => exact (by repeat (first | (with_reducible first | exact HB.out | apply Qg | apply Qb | apply Qe) | exact HB.out))); (case aF => exact (fun _ _ => trivial)); (case aO => exact (by (with_reducible repeat (first | apply Kd.R_alloc | apply Kd.R_drewN | apply Kd.R_drew)); exact HO315.out)); (case aS => exact (Ql (by repeat (first | (with_reducible first | exact HB.out | apply Qg | apply Qb | apply Qe) | exact HB.out)))); (case aL => have := LMc2.out; omega); intro v317 w5 ho hb hg hat; rw [← Ny316.out] at ho; have n0_ := Aside0.mk (hb); have n1_ := Aside0.mk (ho); clear HB; clear HO315; have HB := n0_; have HO318 := n1_; clear n0_ n1_; clear ho hb hg hat))
   go_ret
   exact ⟨_, by first | rfl | (simp [Qp, Qo] <;> rfl) | (simp [*, Qp, Qo] <;> rfl), by (with_reducible repeat (first | apply Kd.R_alloc | apply Kd.R_drewN | apply Kd.R_drew)); exact HO318.out, by repeat (first | (with_reducible first | exact HB.out | apply Qg | apply Qb | apply Qe) | exact HB.out)⟩
 ·rw [if_neg c2] at H
  exact absurd H (by simp)
def impl_RibPut.j0 : Nat → List (S73) → Int → Bool → Int → Int → Int → Int → Int → Int → Bool → Option ((List (S73)) × (List (S42)) × Int)
 | 0, _, _, _, _, _, _, _, _, _, _ => none
 | k + 1, x0, x1, x23, x343000, x343001, x343002, x343003, x343004, x343005, x343006 => if x23 = true then ((spec_l06Ill.f 1).bind fun bt354 => (some (bt354.1, bt354.2.1, bt354.2.2))) else ((spec_l06Put.f k x0 x1 x343000 x343001 x343002 x343003 x343004 x343005 x343006).bind fun bt361 => (some (bt361.1, bt361.2.1, bt361.2.2)))
def impl_RibPut.f (k : Nat) (l0 : List (S73)) (a1 : Int) (a2_0 : Int) (a2_1 : Int) (a2_2 : Int) (a2_3 : Int) (a2_4 : Int) (a2_5 : Int) (a2_6 : Bool) : Option ((List (S73)) × (List (S42)) × Int) := (impl_Held_104.f l0).bind fun t339 => (if (l0.length : Int) > 400 then ((spec_l06Ill.f 2).bind fun bt344 => (some (bt344.1, bt344.2.1, bt344.2.2))) else ((impl_RibRight.f k l0).bind fun t351 => (if t351 = true then ((impl_isPeer.f a1).bind fun t352 => (if t352 = true then ((impl_RouteRight.f k a2_0 a2_1 a2_2 a2_3 a2_4 a2_5 a2_6).bind fun t353 => (impl_RibPut.j0 k l0 a1 (!t353) a2_0 a2_1 a2_2 a2_3 a2_4 a2_5 a2_6)) else (impl_RibPut.j0 k l0 a1 true a2_0 a2_1 a2_2 a2_3 a2_4 a2_5 a2_6))) else (impl_RibPut.j0 k l0 a1 true a2_0 a2_1 a2_2 a2_3 a2_4 a2_5 a2_6))))
theorem impl_RibPut.mono_l : ∀ k, (∀ y0 y1 y2 y3 y4 y5 y6 y7 y8 y9, LeO (impl_RibPut.j0 k y0 y1 y2 y3 y4 y5 y6 y7 y8 y9) (impl_RibPut.j0 (k + 1) y0 y1 y2 y3 y4 y5 y6 y7 y8 y9))
 | 0 => fun _ _ _ _ _ _ _ _ _ _ r h => by simp [impl_RibPut.j0] at h
 | k + 1 => by
  have ih0 := impl_RibPut.mono_l k
  ·intro y0 y1 y2 y3 y4 y5 y6 y7 y8 y9
   unfold impl_RibPut.j0
   repeat' first
   | (with_reducible exact ih0 _ _ _ _ _ _ _ _ _ _)
   | (with_reducible exact impl_RibRight.mono _ _)
   | (with_reducible exact impl_RouteRight.mono _ _ _ _ _ _ _ _)
   | (with_reducible exact spec_l06Put.mono _ _ _ _ _ _ _ _ _ _)
   | (with_reducible exact LeO.refl _)
   | (with_reducible exact LeO.none _)
   | (with_reducible refine LeO.ite ?_ ?_)
   | (with_reducible refine LeO.bind ?_ (fun _ => ?_))
   | exact ih0 _ _ _ _ _ _ _ _ _ _
   | exact impl_RibRight.mono _ _
   | exact impl_RouteRight.mono _ _ _ _ _ _ _ _
   | exact spec_l06Put.mono _ _ _ _ _ _ _ _ _ _
   | exact LeO.none _
   | refine LeO.ite ?_ ?_
   | refine LeO.bind ?_ (fun _ => ?_)
theorem impl_RibPut.mono : ∀ a0 a1 a2 a3 a4 a5 a6 a7 a8 k, LeO (impl_RibPut.f k a0 a1 a2 a3 a4 a5 a6 a7 a8) (impl_RibPut.f (k + 1) a0 a1 a2 a3 a4 a5 a6 a7 a8) := by
 intro a0 a1 a2 a3 a4 a5 a6 a7 a8 k
 have ih0 := impl_RibPut.mono_l k
 unfold impl_RibPut.f
 repeat' first
   | (with_reducible exact ih0 _ _ _ _ _ _ _ _ _ _)
   | (with_reducible exact impl_RibRight.mono _ _)
   | (with_reducible exact impl_RouteRight.mono _ _ _ _ _ _ _ _)
   | (with_reducible exact spec_l06Put.mono _ _ _ _ _ _ _ _ _ _)
   | (with_reducible exact LeO.refl _)
   | (with_reducible exact LeO.none _)
   | (with_reducible refine LeO.ite ?_ ?_)
   | (with_reducible refine LeO.bind ?_ (fun _ => ?_))
   | exact ih0 _ _ _ _ _ _ _ _ _ _
   | exact impl_RibRight.mono _ _
   | exact impl_RouteRight.mono _ _ _ _ _ _ _ _
   | exact spec_l06Put.mono _ _ _ _ _ _ _ _ _ _
   | exact LeO.none _
   | refine LeO.ite ?_ ?_
   | refine LeO.bind ?_ (fun _ => ?_)
set_option maxHeartbeats 4000000 in
set_option maxRecDepth 100000 in
theorem insert_shift (b n c i vb : Nat) (cs vs : List Value) (w : World) (hi : i < n) (hroom : n + 1 ≤ c) (hc63 : c ≤ 9223372036854775807) (hvb : vb ≠ b)
  (hcl : cs.length = n * 9) (hvl : vs.length = 9) (hcs : ∀ j v, cs[j]? = some v → w.cell? ⟨b, j, none⟩ = some v) (hsp : ∀ j, j < (n + 1) * 9 → (w.cell? ⟨b, j, none⟩).isSome = true) (hfz : ∀ j, w.frozen? ⟨b, j, none⟩ = false)
  (hvs : ∀ j v, vs[j]? = some v → w.cell? ⟨vb, j, none⟩ = some v) (h1c : ∀ v ∈ cs, v.oneCell' = true) (h1v : ∀ v ∈ vs, v.oneCell' = true)
  (tA tB : TypeId) (kA kB : Nat) (hsa : w.shape? vb = some (tA, kA)) (hsb : w.shape? b = some (tB, kB)) (hkB : kB ≠ 0) (hfa : ∀ j, w.frozen? ⟨vb, j, none⟩ = false) :
  Calls Try.prog 118 #[.slice (some ⟨b, 0, none⟩) n c, .int .i64 i, .slice (some ⟨vb, 0, none⟩) 1 1] w fun e w' =>
   e = .returned (.slice (some ⟨b, 0, none⟩) (n + 1) c) ∧ w' = (w.drew.setCells b (i * 9 + 9) (cs.drop (i * 9))).setCells b (i * 9) vs := by
 obtain ⟨hzv, inf, hinf, hisz⟩ := Base.zero_info info73
 have hsz : (Try.prog.info? 73).map (·.size) = some 9 := by rw [hinf]; simp [hisz]
 have hne : ((i : Int) == (n : Int)) = false := beq_eq_false_iff_ne.2 (by omega)
 have hgt : decide ((c : Int) < (n : Int) + 1) = false := decide_eq_false (by omega)
 have hov : ∀ off lb cb, (callFunc 139 #[.slice (some ⟨vb, 0, none⟩) 1 1, .slice (some ⟨b, off, none⟩) lb cb]).run Try.prog w = .ok (.value (.bool false)) w := fun off lb cb => by
  rw [run_callFunc_extern Try.func139 (by kernel_rfl) (by kernel_rfl) (by kernel_rfl) (e := Extern.SlicesOverlaps.overlaps #[26, 26] #[4]) (by kernel_rfl),
   Lib.run_overlaps_apart w 26 4 73 Try.underlying26 9 (fun W => by simp [sizeOf, typeInfo, hinf, hisz]) ⟨vb, 0, none⟩ ⟨b, off, none⟩ 1 1 lb cb hvb tA tB kA kB hsa hsb hkB (hfa _) (hfa _)]
  rfl
 have hdl : (cs.drop (i * 9)).length = (n - i) * 9 := by rw [List.length_drop, hcl, Nat.sub_mul]
 have hm1 : (i + 1) * 9 = i * 9 + 9 := Nat.succ_mul _ _
 have hm2 : (n + 1) * 9 = n * 9 + 9 := Nat.succ_mul _ _
 have hm3 : (n - i) * 9 = n * 9 - i * 9 := Nat.sub_mul _ _ _
 have hm4 : i * 9 + 9 ≤ n * 9 := by rw [← Nat.succ_mul]; exact Nat.mul_le_mul_right _ hi
 have mixed : Try.prog.follows .mixedOrders = true := by kernel_rfl
 have hcp1 : ∀ ty dc sc, (Builtin.copy_ #[26, 26] ty #[.slice (some ⟨b, i * 9 + 9, none⟩) (n - i) dc, .slice (some ⟨b, i * 9, none⟩) (n + 1 - i) sc]).run Try.prog w.drew = .ok (goInt ((n - i : Nat) : Int)) (w.drew.setCells b (i * 9 + 9) (cs.drop (i * 9))) := fun ty dc sc =>
  Base.run_copy_wide w.drew _ _ ty 73 b (i * 9 + 9) (n - i) dc ⟨b, i * 9, none⟩ (n + 1 - i) sc (cs.drop (i * 9)) 9 (n - i) Try.underlying26 hsz (by simp only [Nat.min_def]; split <;> omega) hdl
   (fun j v hj => by rw [Addr.add_lit]; exact hcs _ v (by rwa [List.getElem?_drop] at hj))
   (fun j hj => hsp _ (by rw [hdl] at hj; omega)) (fun j hj => hfz _) (fun v hv => h1c v (List.mem_of_mem_drop hv))
 obtain ⟨W1, hW1⟩ : ∃ W1, W1 = w.drew.setCells b (i * 9 + 9) (cs.drop (i * 9)) := ⟨_, rfl⟩
 have hsp1 : ∀ k, k < (n + 1) * 9 → (W1.cell? ⟨b, k, none⟩).isSome = true := fun k hk => by
  rw [hW1]
  exact isSome_setCells b (cs.drop (i * 9)) (i * 9 + 9) w.drew (fun j hj => hsp _ (by rw [hdl] at hj; omega)) k (hsp k hk)
 have hcp2 : ∀ (W : World), (∀ x, W.cell? x = W1.cell? x) → (∀ x, W.frozen? x = W1.frozen? x) → ∀ ty dc, (Builtin.copy_ #[26, 26] ty #[.slice (some ⟨b, i * 9, none⟩) (n + 1 - i) dc, .slice (some ⟨vb, 0, none⟩) 1 1]).run Try.prog W = .ok (goInt ((1 : Nat) : Int)) (W.setCells b (i * 9) vs) := fun W hWc hWf ty dc =>
  Base.run_copy_wide W _ _ ty 73 b (i * 9) (n + 1 - i) dc ⟨vb, 0, none⟩ 1 1 vs 9 1 Try.underlying26 hsz (by simp only [Nat.min_def]; split <;> omega) (by rw [hvl])
   (fun j v hj => by
    rw [Addr.add_lit, hWc, hW1, World.cell?_setCells_out b _ _ _ _ (fun h _ => absurd h hvb)]
    have := hvs j v hj
    simpa using this)
   (fun j hj => by rw [hWc]; exact hsp1 _ (by rw [hvl] at hj; omega)) (fun j hj => by rw [hWf, hW1, World.frozen?_setCells]; exact hfz _) h1v
 rw [← hW1] at hcp1
 have HW1 := Aside0.mk hW1
 have hw1 : IntKind.i64.wrap ((i : Int) + 1) = (i : Int) + 1 := by rw [IntKind.wrap_i64]; omega
 have hb1 : (0 : Int) ≤ (i : Int) + 1 := by omega
 have hin : i ≤ n := by omega
 have htn : ((i : Int) + 1).toNat = i + 1 := by omega
 have hb2 : ¬ (c = i + 1) := by omega
 have hb3 : (i : Int) ≤ (n : Int) + 1 := by omega
 have hb4 : ¬ (c = i) := by omega
 have hb5 : (i : Int) + 1 ≤ (n : Int) + 1 := by omega
 clear hcs hsp hfz hvs h1c h1v hsa hsb hfa hcl hsp1 hW1 hzv
 go_enter Try.func118, Try.ntmps118
 go_wp2_with (simp only [hov])
 go_region_law_o (refine step_copy_runI rfl _ _ 26 26 rfl _ _ (by simp [Act.eval, Act.put]) (by simp [Act.eval, Act.put]) (hcp1 _ _ _) ?_)
 go_wp2_with (at_builtin; refine wpList_copy_runI _ rfl _ _ 26 26 rfl _ _ rfl rfl (hcp2 _ (fun _ => rfl) (fun _ => rfl) _ _) ?_)
 go_ret
 exact ⟨rfl, by rw [HW1.out]⟩
set_option maxHeartbeats 4000000 in
set_option maxRecDepth 100000 in
theorem insert_grow (b n c i vb : Nat) (cs vs : List Value) (w : World) (hi : i < n) (hnc : n ≤ c) (hroom : c < n + 1) (hbig : n ≤ 1048576)
  (hcl : cs.length = n * 9) (hvl : vs.length = 9) (hcs : ∀ j v, cs[j]? = some v → w.cell? ⟨b, j, none⟩ = some v)
  (hvs : ∀ j v, vs[j]? = some v → w.cell? ⟨vb, j, none⟩ = some v) (h1c : ∀ v ∈ cs, v.oneCell' = true) (h1v : ∀ v ∈ vs, v.oneCell' = true) :
  Calls Try.prog 118 #[.slice (some ⟨b, 0, none⟩) n c, .int .i64 i, .slice (some ⟨vb, 0, none⟩) 1 1] w fun e w' => ∃ (G : Nat) (Z : List Value), n + 1 ≤ G ∧ G ≤ 9223372036854775807 ∧ (cs.take (i * 9) ++ Z).length = G * 9 ∧
   e = .returned (.slice (some ⟨w.heap.size, 0, none⟩) (n + 1) G) ∧ w' = (((w.alloc (.cells (cs.take (i * 9) ++ Z).toArray 73)).drew.setCells w.heap.size (i * 9) vs).drew).setCells w.heap.size (i * 9 + 9) (cs.drop (i * 9)) := by
 obtain ⟨inf, hinf, hq⟩ := Option.map_eq_some_iff.1 info73
 simp only [Prod.mk.injEq] at hq
 obtain ⟨hz0, hzs, hzb⟩ := hq
 have hsz : (Try.prog.info? 73).map (·.size) = some 9 := by rw [hinf]; simp [hzs]
 have hm1 : (i + 1) * 9 = i * 9 + 9 := Nat.succ_mul _ _
 have hm2 : (n + 1) * 9 = n * 9 + 9 := Nat.succ_mul _ _
 have hm3 : (n - i) * 9 = n * 9 - i * 9 := Nat.sub_mul _ _ _
 have hm4 : i * 9 + 9 ≤ n * 9 := by rw [← Nat.succ_mul]; exact Nat.mul_le_mul_right _ hi
 have hne : ((i : Int) == (n : Int)) = false := beq_eq_false_iff_ne.2 (by omega)
 have hgt : decide ((c : Int) < (n : Int) + 1) = true := decide_eq_true (by omega)
 have hbw : b < w.heap.size := World.block_lt_of_cell? w _ (hcs 0 _ (List.getElem?_eq_getElem (by rw [hcl]; omega)))
 have hvw : vb < w.heap.size := World.block_lt_of_cell? w _ (hvs 0 _ (List.getElem?_eq_getElem (by rw [hvl]; omega)))
 have hkk : (n : Int) + 1 - (i : Int) = ((n + 1 - i : Nat) : Int) := by omega
 have hik : i + (n + 1 - i) = n + 1 := by omega
 have htk : (cs.take (i * 9)).length = i * 9 := by rw [List.length_take, hcl]; omega
 have hold : (Builtin.firstCells inf.size i (.slice (some ⟨b, 0, none⟩) i c)).run Try.prog w.drew = .ok (cs.take (i * 9)).toArray w.drew := by
  rw [hzs]
  exact run_firstCells_some w.drew 9 i ⟨b, 0, none⟩ i c (cs.take (i * 9)) htk (fun j v hj => by
   rw [Addr.add_lit]
   rw [List.getElem?_take] at hj
   split at hj
   ·have := hcs j v hj
    simpa using this
   ·cases hj)
 have mixed : Try.prog.follows .mixedOrders = true := by kernel_rfl
 have hfits : Builtin.nextslicecap (n + 1) c * 72 ≤ 281474976710656 := by
  exact growslice_fits (by omega) (by omega)
 have hrz : ∀ ty, (Builtin.append_ #[26, 3] ty #[.slice (some ⟨b, 0, none⟩) i c, .int .i64 ((n : Int) + 1 - (i : Int))]).run Try.prog w =
   .ok (.slice (some ⟨w.heap.size, 0, none⟩) (n + 1) (grownCap w (n + 1) c 73)) (w.drew.alloc (.cells ((cs.take (i * 9)).toArray ++ Builtin.zeroCells (Value.agg #[.int .i64 0, .bool false, .int .i64 0, .int .i64 0, .int .i64 0, .int .i64 0, .int .i64 0, .int .i64 0, .bool false]).cells (n + 1 - i) ++ Builtin.zeroCells (Value.agg #[.int .i64 0, .bool false, .int .i64 0, .int .i64 0, .int .i64 0, .int .i64 0, .int .i64 0, .int .i64 0, .bool false]).cells (grownCap w (n + 1) c 73 - (n + 1))) 73)) := fun ty => by
  have h := Lib.run_append_grow_zeros w 26 3 ty 73 inf _ .i64 .i64 Try.underlying26 Try.underlying3 hinf hz0 (some ⟨b, 0, none⟩) i c (cs.take (i * 9)) hold (n + 1 - i) (by omega) (by omega) (by omega) (by omega) (by rw [hzb]; omega) (by rw [hzb, hik]; exact hfits)
  rw [hik] at h
  rw [hkk]
  exact h
 obtain ⟨G, hG⟩ : ∃ G, G = grownCap w (n + 1) c 73 := ⟨_, rfl⟩
 have hGn : n + 1 ≤ G := by rw [hG]; exact grownCap_ge w _ _ _
 have hG63 : G ≤ 9223372036854775807 := by
  have := grownCap_le_maxLen w (n + 1) c 73 (by unfold maxLen; omega)
  rw [← hG] at this
  unfold maxLen at this
  omega
 obtain ⟨Z, hZ⟩ : ∃ Z : List Value, Z = (Builtin.zeroCells (Value.agg #[.int .i64 0, .bool false, .int .i64 0, .int .i64 0, .int .i64 0, .int .i64 0, .int .i64 0, .int .i64 0, .bool false]).cells (n + 1 - i)).toList ++ (Builtin.zeroCells (Value.agg #[.int .i64 0, .bool false, .int .i64 0, .int .i64 0, .int .i64 0, .int .i64 0, .int .i64 0, .int .i64 0, .bool false]).cells (G - (n + 1))).toList := ⟨_, rfl⟩
 have hROW : (cs.take (i * 9)).toArray ++ Builtin.zeroCells (Value.agg #[.int .i64 0, .bool false, .int .i64 0, .int .i64 0, .int .i64 0, .int .i64 0, .int .i64 0, .int .i64 0, .bool false]).cells (n + 1 - i) ++ Builtin.zeroCells (Value.agg #[.int .i64 0, .bool false, .int .i64 0, .int .i64 0, .int .i64 0, .int .i64 0, .int .i64 0, .int .i64 0, .bool false]).cells (G - (n + 1)) = (cs.take (i * 9) ++ Z).toArray := by
  apply Array.ext'
  simp [hZ]
 rw [← hG, hROW] at hrz
 have hRl : (cs.take (i * 9) ++ Z).length = G * 9 := by
  have e1 : (Value.agg #[.int .i64 0, .bool false, .int .i64 0, .int .i64 0, .int .i64 0, .int .i64 0, .int .i64 0, .int .i64 0, .bool false]).cells.size = 9 := rfl
  rw [List.length_append, htk, hZ, List.length_append, Array.length_toList, Array.length_toList, size_zeroCells, size_zeroCells, e1]
  omega
 obtain ⟨ROW, hRW⟩ : ∃ ROW : Array Value, ROW = (cs.take (i * 9) ++ Z).toArray := ⟨_, rfl⟩
 have hRs : ROW.size = G * 9 := by rw [hRW, List.size_toArray, hRl]
 rw [← hRW] at hrz
 obtain ⟨W1, hW1⟩ : ∃ W1, W1 = w.drew.alloc (.cells ROW 73) := ⟨_, rfl⟩
 rw [← hW1] at hrz
 have hN : ∀ j, j < (n + 1) * 9 → (W1.cell? ⟨w.heap.size, j, none⟩).isSome = true := fun j hj => by
  rw [hW1, World.cell?_alloc_at (w := w.drew) ROW _ w.heap.size j rfl, Array.getElem?_eq_getElem (by omega)]; rfl
 have hNf : ∀ j, W1.frozen? ⟨w.heap.size, j, none⟩ = false := fun j => by rw [hW1]; exact World.frozen?_alloc_at (w := w.drew) ROW _ w.heap.size j rfl
 have hOb : ∀ j v, w.cell? ⟨b, j, none⟩ = some v → W1.cell? ⟨b, j, none⟩ = some v := fun j v h => by rw [hW1, World.cell?_alloc_past (w := w.drew) _ b j hbw]; exact h
 have hOv : ∀ j v, w.cell? ⟨vb, j, none⟩ = some v → W1.cell? ⟨vb, j, none⟩ = some v := fun j v h => by rw [hW1, World.cell?_alloc_past (w := w.drew) _ vb j hvw]; exact h
 have hcpA : ∀ (W : World), (∀ x, W.cell? x = W1.cell? x) → (∀ x, W.frozen? x = W1.frozen? x) → ∀ ty dc, (Builtin.copy_ #[26, 26] ty #[.slice (some ⟨w.heap.size, i * 9, none⟩) (n + 1 - i) dc, .slice (some ⟨vb, 0, none⟩) 1 1]).run Try.prog W = .ok (goInt ((1 : Nat) : Int)) (W.setCells w.heap.size (i * 9) vs) := fun W hWc hWf ty dc =>
  Base.run_copy_wide W _ _ ty 73 w.heap.size (i * 9) (n + 1 - i) dc ⟨vb, 0, none⟩ 1 1 vs 9 1 Try.underlying26 hsz (by simp only [Nat.min_def]; split <;> omega) (by rw [hvl])
   (fun j v hj => by rw [Addr.add_lit, hWc]; have := hOv _ v (hvs j v hj); simpa using this)
   (fun j hj => by rw [hWc]; exact hN _ (by rw [hvl] at hj; omega)) (fun j hj => by rw [hWf]; exact hNf _) h1v
 have hGi : ¬ (G = i) := by omega
 have hGim : ¬ (G = i + 1) := by omega
 have hci : ¬ (c = i) := by omega
 have hbN : b ≠ w.heap.size := by omega
 have hdl : (cs.drop (i * 9)).length = (n - i) * 9 := by rw [List.length_drop, hcl, hm3]
 have hcpB : ∀ (W : World), (∀ x, W.cell? x = (W1.setCells w.heap.size (i * 9) vs).cell? x) → (∀ x, W.frozen? x = (W1.setCells w.heap.size (i * 9) vs).frozen? x) → ∀ ty dc sc, (Builtin.copy_ #[26, 26] ty #[.slice (some ⟨w.heap.size, i * 9 + 9, none⟩) (n - i) dc, .slice (some ⟨b, i * 9, none⟩) (n - i) sc]).run Try.prog W = .ok (goInt ((n - i : Nat) : Int)) (W.setCells w.heap.size (i * 9 + 9) (cs.drop (i * 9))) := fun W hWc hWf ty dc sc =>
  Base.run_copy_wide W _ _ ty 73 w.heap.size (i * 9 + 9) (n - i) dc ⟨b, i * 9, none⟩ (n - i) sc (cs.drop (i * 9)) 9 (n - i) Try.underlying26 hsz (by simp only [Nat.min_def]; split <;> omega) hdl
   (fun j v hj => by
    rw [Addr.add_lit, hWc, World.cell?_setCells_out _ _ _ _ _ (fun h _ => absurd h hbN)]
    exact hOb _ v (hcs _ v (by rwa [List.getElem?_drop] at hj)))
   (fun j hj => by rw [hWc]; exact isSome_setCells _ vs _ _ (fun t ht => hN _ (by rw [hvl] at ht; omega)) _ (hN _ (by rw [hdl] at hj; omega)))
   (fun j hj => by rw [hWf, World.frozen?_setCells]; exact hNf _) (fun v hv => h1c v (List.mem_of_mem_drop hv))
 subst hW1
 have hE1 : ∀ x, ((w.alloc (.cells ROW 73)).drew).cell? x = (w.drew.alloc (.cells ROW 73)).cell? x := fun x => rfl
 have hE2 : ∀ x, ((w.alloc (.cells ROW 73)).drew).frozen? x = (w.drew.alloc (.cells ROW 73)).frozen? x := fun x => rfl
 have hF1 : ∀ x, (((w.alloc (.cells ROW 73)).drew.setCells w.heap.size (i * 9) vs).drew).cell? x = ((w.drew.alloc (.cells ROW 73)).setCells w.heap.size (i * 9) vs).cell? x := fun x => rfl
 have hF2 : ∀ x, (((w.alloc (.cells ROW 73)).drew.setCells w.heap.size (i * 9) vs).drew).frozen? x = ((w.drew.alloc (.cells ROW 73)).setCells w.heap.size (i * 9) vs).frozen? x := fun x => rfl
 have hw1 : IntKind.i64.wrap ((i : Int) + 1) = (i : Int) + 1 := by rw [IntKind.wrap_i64]; omega
 have hb1 : (0 : Int) ≤ (i : Int) + 1 := by omega
 have hin : i ≤ n := by omega
 have htn : ((i : Int) + 1).toNat = i + 1 := by omega
 have hb3 : (i : Int) ≤ (n : Int) := by omega
 have hb4 : (i : Int) ≤ (n : Int) + 1 := by omega
 have hb5 : (i : Int) + 1 ≤ (n : Int) + 1 := by omega
 have HRW := Aside0.mk hRW
 have HRL := Aside0.mk hRl
 clear hkk hik hold hROW hG hRl hRW hRs hcs hvs h1c h1v hcl hZ hN hNf hOb hOv hfits htk hz0
 go_enter Try.func118, Try.ntmps118
 go_wp2_with (first
  | (at_builtin; refine Lib.wpList_append_run _ rfl _ _ _ _ rfl _ _ rfl rfl _ _ (hrz _) ?_)
  | (at_builtin; refine wpList_copy_runI _ rfl _ _ 26 26 rfl _ _ rfl rfl (hcpA _ hE1 hE2 _ _) ?_))
 go_region_law_o (refine step_copy_runI rfl _ _ 26 26 rfl (.slice (some ⟨w.heap.size, i * 9 + 9, none⟩) (n - i) (G - (i + 1))) (.slice (some ⟨b, i * 9, none⟩) (n - i) (c - i)) (by simp [Act.eval, Act.put]) (by simp [Act.eval, Act.put]) (hcpB _ hF1 hF2 3 (G - (i + 1)) (c - i)) ?_)
 go_wp2
 go_ret
 exact ⟨G, Z, hGn, hG63, HRL.out, rfl, by rw [← HRW.out]⟩
set_option maxHeartbeats 1600000 in
set_option maxRecDepth 100000 in
theorem insert_end (w0 : World) (xs : List S73) (v : Value) (y : S73) (vb : Nat) (w : World) (hr : Kd.R k73 73 w w0.heap.size (fun _ => True) v xs) (hB : Below w0.heap.size w0 w) (hC : Kd.C k73 w (some ⟨vb, 0, none⟩) 1 [y]) (hl : xs.length ≤ 1048576) (hb : w0.heap.size ≤ w.heap.size) :
  Calls Try.prog 118 #[v, .int .i64 (xs.length : Int), .slice (some ⟨vb, 0, none⟩) 1 1] w fun e w' => ∃ v' : Value, e = .returned v' ∧ Kd.R k73 73 w' w0.heap.size (fun _ => True) v' (xs ++ [y]) ∧ Below w0.heap.size w0 w' ∧ w.grownBy w' v.ownBlock := by
 obtain ⟨A, c, rfl, hcap, hCx⟩ := Kd.R_reads hr
 obtain ⟨_, inf, hinf, hisz⟩ := Base.zero_info info73
 obtain ⟨vr, hfrom⟩ : ∃ vr, ∀ W : World, (Instr.slice 26 (.slice A xs.length c) (some (.int .i64 (xs.length : Int))) none none).run Try.prog W = .ok vr W := ⟨_, cut_from (P := Try.prog) 26 73 .i64 Try.underlying26 hinf k73.sz hisz A xs.length c (xs.length : Int) (by omega) (by omega)⟩
 have HR := Aside0.mk hr
 have HB := Aside0.mk hB
 have HC := Aside0.mk hC
 have HS := Aside0.mk hb
 have heq : ((xs.length : Int) == (xs.length : Int)) = true := by simp
 clear hr hB hC hCx hb
 go_enter Try.func118, Try.ntmps118
 go_wp2_with (first | ((with_reducible refine gate_builtin (b := .append) (xs := #[.tmp 23, .tmp 24]) rfl ?_); at_builtin; refine Kd.R_append_rows k73 (w0 := w0) w0.heap.size rfl (.tmp 23) (.tmp 24) 26 73 (.agg #[.int .i64 0, .bool false, .int .i64 0, .int .i64 0, .int .i64 0, .int .i64 0, .int .i64 0, .int .i64 0, .bool false]) 72 rfl Try.underlying26 info73 rfl (by decide) (by omega) (.slice A xs.length c) xs [y] _ _ _ (fun _ => True) (fun _ => False) rfl rfl ?aO ?aR (fun _ _ h => h) (fun _ h => h.elim) ?aF ?aB ?aS ?aL ?_; (case aR => exact HC.out); (case aB => exact HB.out); (case aF => exact (fun _ _ => trivial)); (case aO => exact HR.out); (case aS => exact HS.out); (case aL => omega); intro v1 w1 ho hb1 hg1 hat1; have HO1 := Aside0.mk ho; have HB1 := Aside0.mk hb1; have HG1 := Aside0.mk hg1; clear ho hb1 hg1 hat1))
 go_ret
 exact ⟨_, rfl, HO1.out, HB1.out, HG1.out⟩
set_option maxHeartbeats 1600000 in
set_option maxRecDepth 100000 in
theorem insert_calls (w0 : World) (xs : List S73) (v : Value) (i : Nat) (y : S73) (vb : Nat) (w : World) (hr : Kd.R k73 73 w w0.heap.size (fun _ => True) v xs) (hB : Below w0.heap.size w0 w) (hi : i ≤ xs.length) (hl : xs.length ≤ 1048576) (hb : w0.heap.size ≤ w.heap.size)
  (hv : w.heap[vb]? = some (.cells [.int .i64 y.f0, .bool y.f1, .int .i64 y.f2.f0, .int .i64 y.f2.f1, .int .i64 y.f2.f2, .int .i64 y.f2.f3, .int .i64 y.f2.f4, .int .i64 y.f2.f5, .bool y.f2.f6].toArray 73 (0, 0))) (hne : some vb ≠ v.ownBlock) :
  Calls Try.prog 118 #[v, .int .i64 i, .slice (some ⟨vb, 0, none⟩) 1 1] w fun e w' => ∃ v' : Value, e = .returned v' ∧ Kd.R k73 73 w' w0.heap.size (fun _ => True) v' (xs.take i ++ y :: xs.drop i) ∧ Below w0.heap.size w0 w' ∧ w.grownBy w' v.ownBlock := by
 have hvc : ∀ (j : Nat) (u : Value), [.int .i64 y.f0, .bool y.f1, .int .i64 y.f2.f0, .int .i64 y.f2.f1, .int .i64 y.f2.f2, .int .i64 y.f2.f3, .int .i64 y.f2.f4, .int .i64 y.f2.f5, .bool y.f2.f6][j]? = some u → w.cell? ⟨vb, j, none⟩ = some u := fun j u hu => by rw [cell_of_row w vb _ _ _ (0, 0) hv]; simpa using hu
 have h1v : ∀ u ∈ ([.int .i64 y.f0, .bool y.f1, .int .i64 y.f2.f0, .int .i64 y.f2.f1, .int .i64 y.f2.f2, .int .i64 y.f2.f3, .int .i64 y.f2.f4, .int .i64 y.f2.f5, .bool y.f2.f6] : List Value), u.oneCell' = true := fun u hu => k73.K_one (k73_mk w y) u hu
 by_cases hlt : i < xs.length
 ·obtain ⟨g, cap, rfl, hgb, hgl, _⟩ := Kd.R_form hr (by omega)
  obtain ⟨cur, inner, hh, _, hnc, hm, hcs, htk, hbg, _, hrep⟩ := Base.R_cells hr
  have hin : inner.length = xs.length * 9 := hrep.1
  have h1c := Base.reps_one hrep (by decide)
  have hsz : k73.sz = 9 := rfl
  rw [hsz] at hcs htk
  have f1 : i * 9 + 9 ≤ xs.length * 9 := by rw [← Nat.succ_mul]; exact Nat.mul_le_mul_right _ hlt
  have f2 : xs.length * 9 ≤ cap * 9 := Nat.mul_le_mul_right _ hnc
  have f3 : (xs.length + 1) * 9 = xs.length * 9 + 9 := Nat.succ_mul _ _
  have f4 : (xs.length - i) * 9 = xs.length * 9 - i * 9 := Nat.sub_mul _ _ _
  have hdl : (inner.drop (i * 9)).length = xs.length * 9 - i * 9 := by rw [List.length_drop, hin]
  have hic : ∀ j u, inner[j]? = some u → w.cell? ⟨g, j, none⟩ = some u := by
   intro j u hj
   have hjl : j < xs.length * 9 := by rw [← hin]; exact (List.getElem?_eq_some_iff.1 hj).1
   rw [← htk, List.getElem?_take, if_pos hjl, Array.getElem?_toList] at hj
   rw [cell_of_row w g _ cur _ (0, 0) hh]
   simpa using hj
  have htk2 : inner.take (i * 9) = cur.toList.take (i * 9) := by rw [← htk, List.take_take, Nat.min_eq_left (by omega)]
  have hseg : ([.int .i64 y.f0, .bool y.f1, .int .i64 y.f2.f0, .int .i64 y.f2.f1, .int .i64 y.f2.f2, .int .i64 y.f2.f3, .int .i64 y.f2.f4, .int .i64 y.f2.f5, .bool y.f2.f6] : List Value).length = 9 := rfl
  have e1 : i * 9 + 9 + (inner.drop (i * 9)).length = (xs.length + 1) * 9 := by rw [hdl]; omega
  have hyl : xs.length + 1 = (xs.take i ++ y :: xs.drop i).length := by simp; omega
  by_cases hroom : xs.length + 1 ≤ cap
  ·refine (insert_shift g xs.length cap i vb inner [.int .i64 y.f0, .bool y.f1, .int .i64 y.f2.f0, .int .i64 y.f2.f1, .int .i64 y.f2.f2, .int .i64 y.f2.f3, .int .i64 y.f2.f4, .int .i64 y.f2.f5, .bool y.f2.f6] w hlt hroom (by unfold maxLen at hm; omega) (fun e => hne (by rw [e]; rfl)) hin rfl hic (fun j hj => ?_) (fun j => Qd hh _) hvc h1c h1v 73 73 9 cur.size (by simp [World.shape?, hv]) (by simp [World.shape?, hh]) (by rw [hcs]; omega) (fun j => Qd hv _)).mono ?_
   ·rw [cell_of_row w g _ cur _ (0, 0) hh]
    have : (xs.length + 1) * 9 ≤ cap * 9 := Nat.mul_le_mul_right _ hroom
    simp
    omega
   ·rintro e w' ⟨rfl, rfl⟩
    have f5 : (xs.length + 1) * 9 ≤ cap * 9 := Nat.mul_le_mul_right _ hroom
    obtain ⟨cur1, p1, p2, p3⟩ := setCells_row (inner.drop (i * 9)) (i * 9 + 9) w.drew cur hh (by rw [hdl, hcs]; omega)
    obtain ⟨cur2, q1, q2, q3⟩ := setCells_row [.int .i64 y.f0, .bool y.f1, .int .i64 y.f2.f0, .int .i64 y.f2.f1, .int .i64 y.f2.f2, .int .i64 y.f2.f3, .int .i64 y.f2.f4, .int .i64 y.f2.f5, .bool y.f2.f6] (i * 9) _ cur1 p1 (by rw [p2, hcs, hseg]; omega)
    refine ⟨_, rfl, Base.R_of_block q1 hbg trivial hyl hroom hm (by rw [hsz, q2, p2, hcs]) (inner := inner.take (i * 9) ++ [.int .i64 y.f0, .bool y.f1, .int .i64 y.f2.f0, .int .i64 y.f2.f1, .int .i64 y.f2.f2, .int .i64 y.f2.f3, .int .i64 y.f2.f4, .int .i64 y.f2.f5, .bool y.f2.f6] ++ inner.drop (i * 9)) ?_ ?_, Base.setCells_below _ _ _ _ (Base.setCells_below _ _ _ _ hB.drew hgb) hgb, ((World.grownBy.trans (grown_of_below ((Below.refl _ w).drew) (some g)) (Base.setCells_grown _ _ _ _)).trans (Base.setCells_grown _ _ _ _))⟩
    ·have := Base.open_list cur.toList (inner.drop (i * 9)) [.int .i64 y.f0, .bool y.f1, .int .i64 y.f2.f0, .int .i64 y.f2.f1, .int .i64 y.f2.f2, .int .i64 y.f2.f3, .int .i64 y.f2.f4, .int .i64 y.f2.f5, .bool y.f2.f6] (i * 9) 9 rfl (by have e : cur.toList.length = cur.size := Array.length_toList; rw [hdl, e, hcs]; omega)
     rw [hsz, ← e1, q3, p3, hseg, this, htk2]
    ·exact Base.reps_open (hrep.imp_ (fun _ _ h => h)) (k73_mkM _ _ _ y) rfl hi
  ·refine (insert_grow g xs.length cap i vb inner [.int .i64 y.f0, .bool y.f1, .int .i64 y.f2.f0, .int .i64 y.f2.f1, .int .i64 y.f2.f2, .int .i64 y.f2.f3, .int .i64 y.f2.f4, .int .i64 y.f2.f5, .bool y.f2.f6] w hlt hnc (by omega) hl hin rfl hic hvc h1c h1v).mono ?_
   rintro e w' ⟨G, Z, hG1, hG2, hG3, rfl, rfl⟩
   have f5 : (xs.length + 1) * 9 ≤ G * 9 := Nat.mul_le_mul_right _ hG1
   have hnb : (w.alloc (.cells (inner.take (i * 9) ++ Z).toArray 73)).drew.heap[w.heap.size]? = some (.cells (inner.take (i * 9) ++ Z).toArray 73 (0, 0)) := Base.heap_of_drew (blk_new w _)
   obtain ⟨cur1, p1, p2, p3⟩ := setCells_row [.int .i64 y.f0, .bool y.f1, .int .i64 y.f2.f0, .int .i64 y.f2.f1, .int .i64 y.f2.f2, .int .i64 y.f2.f3, .int .i64 y.f2.f4, .int .i64 y.f2.f5, .bool y.f2.f6] (i * 9) _ _ hnb (by rw [hseg, List.size_toArray, hG3]; omega)
   have p1' : ((w.alloc (.cells (inner.take (i * 9) ++ Z).toArray 73)).drew.setCells w.heap.size (i * 9) [.int .i64 y.f0, .bool y.f1, .int .i64 y.f2.f0, .int .i64 y.f2.f1, .int .i64 y.f2.f2, .int .i64 y.f2.f3, .int .i64 y.f2.f4, .int .i64 y.f2.f5, .bool y.f2.f6]).drew.heap[w.heap.size]? = some (.cells cur1 73 (0, 0)) := Base.heap_of_drew p1
   obtain ⟨cur2, q1, q2, q3⟩ := setCells_row (inner.drop (i * 9)) (i * 9 + 9) _ cur1 p1' (by rw [p2, List.size_toArray, hG3, hdl]; omega)
   have hbel : Below w.heap.size w ((((w.alloc (.cells (inner.take (i * 9) ++ Z).toArray 73)).drew.setCells w.heap.size (i * 9) [.int .i64 y.f0, .bool y.f1, .int .i64 y.f2.f0, .int .i64 y.f2.f1, .int .i64 y.f2.f2, .int .i64 y.f2.f3, .int .i64 y.f2.f4, .int .i64 y.f2.f5, .bool y.f2.f6]).drew).setCells w.heap.size (i * 9 + 9) (inner.drop (i * 9))) := Base.setCells_below _ _ _ _ (Base.setCells_below _ _ _ _ (((Below.refl _ w).alloc (Nat.le_refl _) _).drew) (Nat.le_refl _)).drew (Nat.le_refl _)
   refine ⟨_, rfl, Base.R_of_block q1 hb trivial hyl hG1 (by unfold maxLen; omega) (by rw [hsz, q2, p2, List.size_toArray, hG3]) (inner := inner.take (i * 9) ++ [.int .i64 y.f0, .bool y.f1, .int .i64 y.f2.f0, .int .i64 y.f2.f1, .int .i64 y.f2.f2, .int .i64 y.f2.f3, .int .i64 y.f2.f4, .int .i64 y.f2.f5, .bool y.f2.f6] ++ inner.drop (i * 9)) ?_ ?_, Qn hB hbel, grown_of_below hbel _⟩
   ·have hlen : i * 9 + 9 + (inner.drop (i * 9)).length ≤ (inner.take (i * 9) ++ Z).length := by rw [hG3, e1]; exact f5
    have := Base.open_list2 (inner.take (i * 9) ++ Z) (inner.drop (i * 9)) [.int .i64 y.f0, .bool y.f1, .int .i64 y.f2.f0, .int .i64 y.f2.f1, .int .i64 y.f2.f2, .int .i64 y.f2.f3, .int .i64 y.f2.f4, .int .i64 y.f2.f5, .bool y.f2.f6] (i * 9) 9 rfl hlen
    rw [hsz, ← e1, q3, p3, hseg, List.toList_toArray, this, List.take_append_of_le_length (by rw [List.length_take, hin]; omega), List.take_take, Nat.min_self]
   ·exact Base.reps_open (hrep.imp_ (fun _ _ h => h)) (k73_mkM _ _ _ y) rfl hi
 ·obtain rfl : i = xs.length := by omega
  rw [List.take_of_length_le (Nat.le_refl _), List.drop_of_length_le (Nat.le_refl _)]
  refine insert_end w0 xs v y vb w hr hB ⟨rfl, by omega, fun _ => ⟨⟨vb, 0, none⟩, rfl, fun j p hj => ?_⟩⟩ hl hb
  cases j with
  | zero =>
   cases hj
   exact ⟨[.int .i64 y.f0, .bool y.f1, .int .i64 y.f2.f0, .int .i64 y.f2.f1, .int .i64 y.f2.f2, .int .i64 y.f2.f3, .int .i64 y.f2.f4, .int .i64 y.f2.f5, .bool y.f2.f6], rfl, k73_mk w y, fun j u hu => by rw [Nat.zero_mul, Nat.zero_add, Addr.add_lit, Nat.zero_add]; exact hvc j u hu⟩
  | succ j => cases hj
set_option maxHeartbeats 8000000 in
set_option maxRecDepth 100000 in
theorem bsearch_calls (g : Nat) (eg : ∀ args w, (callFunc g args).run Try.prog w = .ok (.enter g args) w) (ord : S73 → S73 → Int) (hc : ∀ (W : World) (x y : S73), Calls Try.prog g #[.agg [.int .i64 x.f0, .bool x.f1, .int .i64 x.f2.f0, .int .i64 x.f2.f1, .int .i64 x.f2.f2, .int .i64 x.f2.f3, .int .i64 x.f2.f4, .int .i64 x.f2.f5, .bool x.f2.f6].toArray, .agg [.int .i64 y.f0, .bool y.f1, .int .i64 y.f2.f0, .int .i64 y.f2.f1, .int .i64 y.f2.f2, .int .i64 y.f2.f3, .int .i64 y.f2.f4, .int .i64 y.f2.f5, .bool y.f2.f6].toArray] W fun e w' => e = .returned (.int .i64 (ord x y)) ∧ Below W.heap.size W w')
  (A : Option Addr) (c : Nat) (l : List S73) (t : S73) (w : World) (hl : l.length ≤ 1048576) (hr : Kd.C k73 w A l.length l) (hmono : ∀ a b, a ≤ b → b < l.length → ord (Base.nth z73 l b) t < 0 → ord (Base.nth z73 l a) t < 0) :
  Calls Try.prog 117 #[.slice A l.length c, .agg [.int .i64 t.f0, .bool t.f1, .int .i64 t.f2.f0, .int .i64 t.f2.f1, .int .i64 t.f2.f2, .int .i64 t.f2.f3, .int .i64 t.f2.f4, .int .i64 t.f2.f5, .bool t.f2.f6].toArray, .func (.func g) #[] #[]] w fun e w' => ∃ i : Nat, i ≤ l.length ∧ (∀ j, j < i → ord (Base.nth z73 l j) t < 0) ∧ (∀ j, i ≤ j → j < l.length → 0 ≤ ord (Base.nth z73 l j) t) ∧
   e = .returned (.tuple #[.int .i64 i, .bool (decide (i < l.length) && decide (ord (Base.nth z73 l i) t = 0))]) ∧ Below w.heap.size w w' := by
 have HR := Aside0.mk hr
 have HC := Aside0.mk hc
 have M := Aside0.mk hmono
 have mixed : Try.prog.follows .mixedOrders = true := by kernel_rfl
 have B0 := Aside0.mk ((Below.refl _ w).alloc (Nat.le_refl _) (.cells [.int .i64 t.f0, .bool t.f1, .int .i64 t.f2.f0, .int .i64 t.f2.f1, .int .i64 t.f2.f2, .int .i64 t.f2.f3, .int .i64 t.f2.f4, .int .i64 t.f2.f5, .bool t.f2.f6].toArray 73))
 have K0 := Aside0.mk (blk_new w (.cells [.int .i64 t.f0, .bool t.f1, .int .i64 t.f2.f0, .int .i64 t.f2.f1, .int .i64 t.f2.f2, .int .i64 t.f2.f3, .int .i64 t.f2.f4, .int .i64 t.f2.f5, .bool t.f2.f6].toArray 73))
 clear hr hc hmono
 obtain ⟨t0_, ht0⟩ : ∃ t0_, t0_ = t := ⟨_, rfl⟩
 go_enter Try.func117, Try.ntmps117
 go_wp2
 go_loopg [9, 10] l.length (fun kx s9 s10 wr => ∃ lo hi : Nat, s9 = .int .i64 lo ∧ s10 = .int .i64 hi ∧ lo ≤ hi ∧ hi ≤ l.length ∧ hi - lo ≤ kx ∧ Aside0 (Below w.heap.size w wr) ∧ Aside0 (wr.heap[w.heap.size]? = some (.cells [.int .i64 t.f0, .bool t.f1, .int .i64 t.f2.f0, .int .i64 t.f2.f1, .int .i64 t.f2.f2, .int .i64 t.f2.f3, .int .i64 t.f2.f4, .int .i64 t.f2.f5, .bool t.f2.f6].toArray 73 (0, 0))) ∧
  Aside0 ((∀ j, j < lo → ord (Base.nth z73 l j) t < 0) ∧ (∀ j, hi ≤ j → j < l.length → 0 ≤ ord (Base.nth z73 l j) t)))
 case atStart => exact ⟨0, l.length, rfl, rfl, Nat.zero_le _, Nat.le_refl _, by omega, B0, K0, ⟨fun j hj => absurd hj (Nat.not_lt_zero _), fun j h1 h2 => by omega⟩⟩
 case round =>
  obtain ⟨lo, hi, rfl, rfl, hlh, hin, hg, HB, BK, I⟩ := hrel
  have f0 := Qd BK.out 0
  have f1 := Qd BK.out 1
  have f2 := Qd BK.out 2
  have f3 := Qd BK.out 3
  have f4 := Qd BK.out 4
  have f5 := Qd BK.out 5
  have f6 := Qd BK.out 6
  have f7 := Qd BK.out 7
  have f8 := Qd BK.out 8
  have k0 := (Qa BK.out 0).trans rfl
  have k1 := (Qa BK.out 1).trans rfl
  have k2 := (Qa BK.out 2).trans rfl
  have k3 := (Qa BK.out 3).trans rfl
  have k4 := (Qa BK.out 4).trans rfl
  have k5 := (Qa BK.out 5).trans rfl
  have k6 := (Qa BK.out 6).trans rfl
  have k7 := (Qa BK.out 7).trans rfl
  have k8 := (Qa BK.out 8).trans rfl
  by_cases hlt : lo < hi
  ·obtain ⟨m, hm⟩ : ∃ m, m = (lo + hi) / 2 := ⟨_, rfl⟩
   have HI := Aside0.mk (show ((lo : Int) + (hi : Int)) / 2 = (m : Int) by omega)
   have HM := Aside0.mk (show lo ≤ m ∧ m < hi by omega)
   have hml : (m : Int) < (l.length : Int) := by omega
   clear hm
   have hltz : (lo : Int) < (hi : Int) := by omega
   obtain ⟨ad, e, hx0, hx1, hx2, hx3, hx4, hx5, hx6, hx7, hx8⟩ := Q1 HR.out (m : Int) (by omega) (by omega)
   cases e
   replace hx0 := (HB.out.cell (World.block_lt_of_cell? w _ hx0)).trans hx0
   replace hx1 := (HB.out.cell (World.block_lt_of_cell? w _ hx1)).trans hx1
   replace hx2 := (HB.out.cell (World.block_lt_of_cell? w _ hx2)).trans hx2
   replace hx3 := (HB.out.cell (World.block_lt_of_cell? w _ hx3)).trans hx3
   replace hx4 := (HB.out.cell (World.block_lt_of_cell? w _ hx4)).trans hx4
   replace hx5 := (HB.out.cell (World.block_lt_of_cell? w _ hx5)).trans hx5
   replace hx6 := (HB.out.cell (World.block_lt_of_cell? w _ hx6)).trans hx6
   replace hx7 := (HB.out.cell (World.block_lt_of_cell? w _ hx7)).trans hx7
   replace hx8 := (HB.out.cell (World.block_lt_of_cell? w _ hx8)).trans hx8
   simp only [Int.toNat_natCast] at hx0 hx1 hx2 hx3 hx4 hx5 hx6 hx7 hx8
   have HY := Aside0.mk (show Base.nth z73 l m = Qf l (m : Int) from rfl)
   generalize Qf l (m : Int) = y at *
   replace hx0 := Base.cell_setD hx0
   replace hx1 := Base.cell_setD hx1
   replace hx2 := Base.cell_setD hx2
   replace hx3 := Base.cell_setD hx3
   replace hx4 := Base.cell_setD hx4
   replace hx5 := Base.cell_setD hx5
   replace hx6 := Base.cell_setD hx6
   replace hx7 := Base.cell_setD hx7
   replace hx8 := Base.cell_setD hx8
   replace k0 := Base.cell_setD k0
   replace k1 := Base.cell_setD k1
   replace k2 := Base.cell_setD k2
   replace k3 := Base.cell_setD k3
   replace k4 := Base.cell_setD k4
   replace k5 := Base.cell_setD k5
   replace k6 := Base.cell_setD k6
   replace k7 := Base.cell_setD k7
   replace k8 := Base.cell_setD k8
   by_cases hyx : ord y t < 0
   ·go_wp2_with fail
    rw [HI.out]
    refine Base.wp_region_quiet_any (by assumption) (by kernel_rfl) ?_
    repeat (quiet_step ((go_at_fn g; exact Base.calls_quiet (HC.out _ y t))))
    refine wpQuiet_nil ?_
    intro _ hw'
    obtain ⟨⟨nq, osq⟩, hw''⟩ := hw'
    subst hw''
    have HB' := Aside0.mk (Base.below_setD HB.out HB.out.size nq osq)
    have BK' := Aside0.mk (Base.blk_setD BK.out nq osq)
    go_wp2
    go_roundg (hi - (m + 1))
    case measure => have := HM.out; omega
    case rel =>
     exact ⟨m + 1, hi, by go_num, rfl, by have := HM.out; omega, hin, Nat.le_refl _, HB', BK', ⟨fun j hj => M.out j m (by omega) (by have := HM.out; omega) (by rw [HY.out]; exact hyx), I.out.2⟩⟩
   ·go_wp2_with fail
    rw [HI.out]
    refine Base.wp_region_quiet_any (by assumption) (by kernel_rfl) ?_
    repeat (quiet_step ((go_at_fn g; exact Base.calls_quiet (HC.out _ y t))))
    refine wpQuiet_nil ?_
    intro _ hw'
    obtain ⟨⟨nq, osq⟩, hw''⟩ := hw'
    subst hw''
    have HB' := Aside0.mk (Base.below_setD HB.out HB.out.size nq osq)
    have BK' := Aside0.mk (Base.blk_setD BK.out nq osq)
    go_wp2
    go_roundg (m - lo)
    case measure => have := HM.out; omega
    case rel =>
     exact ⟨lo, m, rfl, rfl, by have := HM.out; omega, by have := HM.out; omega, Nat.le_refl _, HB', BK', ⟨I.out.1, fun j hj hjn => Int.not_lt.1 fun h => by have := M.out m j hj hjn h; rw [HY.out] at this; omega⟩⟩
  ·obtain rfl : hi = lo := by omega
   have hltz : ¬ ((hi : Int) < (hi : Int)) := by omega
   by_cases hn : hi < l.length
   ·have hnz : (hi : Int) < (l.length : Int) := by omega
    obtain ⟨ad, e, hx0, hx1, hx2, hx3, hx4, hx5, hx6, hx7, hx8⟩ := Q1 HR.out (hi : Int) (by omega) (by omega)
    cases e
    replace hx0 := (HB.out.cell (World.block_lt_of_cell? w _ hx0)).trans hx0
    replace hx1 := (HB.out.cell (World.block_lt_of_cell? w _ hx1)).trans hx1
    replace hx2 := (HB.out.cell (World.block_lt_of_cell? w _ hx2)).trans hx2
    replace hx3 := (HB.out.cell (World.block_lt_of_cell? w _ hx3)).trans hx3
    replace hx4 := (HB.out.cell (World.block_lt_of_cell? w _ hx4)).trans hx4
    replace hx5 := (HB.out.cell (World.block_lt_of_cell? w _ hx5)).trans hx5
    replace hx6 := (HB.out.cell (World.block_lt_of_cell? w _ hx6)).trans hx6
    replace hx7 := (HB.out.cell (World.block_lt_of_cell? w _ hx7)).trans hx7
    replace hx8 := (HB.out.cell (World.block_lt_of_cell? w _ hx8)).trans hx8
    simp only [Int.toNat_natCast] at hx0 hx1 hx2 hx3 hx4 hx5 hx6 hx7 hx8
    have HY := Aside0.mk (show Base.nth z73 l hi = Qf l (hi : Int) from rfl)
    generalize Qf l (hi : Int) = y at *
    replace hx0 := Base.cell_setD hx0
    replace hx1 := Base.cell_setD hx1
    replace hx2 := Base.cell_setD hx2
    replace hx3 := Base.cell_setD hx3
    replace hx4 := Base.cell_setD hx4
    replace hx5 := Base.cell_setD hx5
    replace hx6 := Base.cell_setD hx6
    replace hx7 := Base.cell_setD hx7
    replace hx8 := Base.cell_setD hx8
    replace k0 := Base.cell_setD k0
    replace k1 := Base.cell_setD k1
    replace k2 := Base.cell_setD k2
    replace k3 := Base.cell_setD k3
    replace k4 := Base.cell_setD k4
    replace k5 := Base.cell_setD k5
    replace k6 := Base.cell_setD k6
    replace k7 := Base.cell_setD k7
    replace k8 := Base.cell_setD k8
    by_cases hyx : ord y t = 0
    ·go_wp2_with fail
     refine Base.wp_region_quiet_any (by assumption) (by kernel_rfl) ?_
     repeat (quiet_step ((go_at_fn g; exact Base.calls_quiet (HC.out _ y t))))
     refine wpQuiet_nil ?_
     intro _ hw'
     obtain ⟨⟨nq, osq⟩, hw''⟩ := hw'
     subst hw''
     have HB' := Aside0.mk (Base.below_setD HB.out HB.out.size nq osq)
     go_wp2
     refine bodyPost_ret (results_tmp2 rfl _ _ _) rfl ?_
     exact ⟨hi, hin, I.out.1, I.out.2, by rw [HY.out]; simp [hn, hyx], HB'.out⟩
    ·go_wp2_with fail
     refine Base.wp_region_quiet_any (by assumption) (by kernel_rfl) ?_
     repeat (quiet_step ((go_at_fn g; exact Base.calls_quiet (HC.out _ y t))))
     refine wpQuiet_nil ?_
     intro _ hw'
     obtain ⟨⟨nq, osq⟩, hw''⟩ := hw'
     subst hw''
     have HB' := Aside0.mk (Base.below_setD HB.out HB.out.size nq osq)
     go_wp2
     refine bodyPost_ret (results_tmp2 rfl _ _ _) rfl ?_
     exact ⟨hi, hin, I.out.1, I.out.2, by rw [HY.out]; simp [hn, hyx], HB'.out⟩
   ·have hnz : ¬ ((hi : Int) < (l.length : Int)) := by omega
    go_wp2_with fail
    go_region_o
    go_wp2
    refine bodyPost_ret (results_tmp2 rfl _ _ _) rfl ?_
    exact ⟨hi, hin, I.out.1, I.out.2, by simp [hn], Qe HB.out⟩
section
open Go.Proofs.Ytmgmaflfednngaa.Base
theorem Q7 (a b c : Int) : spec_l02Is.f a b c = some (inB a b c) := by
 unfold spec_l02Is.f inB
 by_cases h : b ≤ a <;> simp [h]
theorem impl_in_eq (a b c : Int) : impl_in.f a b c = some (inB a b c) := by
 unfold impl_in.f inB
 by_cases h : b ≤ a <;> simp [h]
theorem spec_l02Mac_eq (a : Int) : spec_l02Mac.f a = some (macB a) := by simp [spec_l02Mac.f, Q7, macB]
theorem spec_l02Ip_eq (a : Int) : spec_l02Ip.f a = some (ipB a) := by simp [spec_l02Ip.f, Q7, ipB]
theorem spec_l02Vni_eq (a : Int) : spec_l02Vni.f a = some (vniB a) := by simp [spec_l02Vni.f, Q7, vniB]
theorem spec_IsGroup_eq (a : Int) : spec_IsGroup.f a = some (groupB a) := by
 simp [spec_IsGroup.f, spec_l02Mac_eq, groupB]
 cases macB a <;> simp
theorem impl_isMac_eq (a : Int) : impl_isMac.f a = some (macB a) := by simp [impl_isMac.f, impl_in_eq, macB]
theorem impl_isIp_eq (a : Int) : impl_isIp.f a = some (ipB a) := by simp [impl_isIp.f, impl_in_eq, ipB]
theorem impl_isVni_eq (a : Int) : impl_isVni.f a = some (vniB a) := by simp [impl_isVni.f, impl_in_eq, vniB]
theorem impl_isTime_eq (a : Int) : impl_isTime.f a = some (timeB a) := by simp [impl_isTime.f, impl_in_eq, timeB]
theorem impl_isHouse_eq (a : Int) : impl_isHouse.f a = some (houseB a) := by simp [impl_isHouse.f, impl_in_eq, houseB]
theorem impl_IsGroup_eq (a : Int) : impl_IsGroup.f a = some (groupB a) := by
 simp [impl_IsGroup.f, impl_isMac_eq, groupB]
 cases macB a <;> simp
theorem impl_isGuest_eq (a : Int) : impl_isGuest.f a = some (macB a && !groupB a) := by
 simp [impl_isGuest.f, impl_isMac_eq, impl_IsGroup_eq]
 cases macB a <;> simp
theorem cmp_Compare_eq (a b : Int) : cmp_Compare_int64.f a b = some (cmpI a b) := by
 simp only [cmp_Compare_int64.f, cmp_isNaN_int64.f, Option.bind_some, bne_self_eq_false, cmpI]
 simp only [Bool.false_eq_true, if_false]
 repeat' split
 all_goals rfl
theorem cmp_Or_eq (xs : List Int) (hn : xs.length ≤ 100) (k : Nat) (hk : xs.length < k) : cmp_Or_int.f k xs = some (firstNZ xs) := by
 have key : ∀ (d i k : Nat), i + d = xs.length → d < k → cmp_Or_int.l0 k 0 xs (xs.length : Int) (i : Int) = some (firstNZ (xs.drop i)) := by
  intro d
  induction d with
  | zero =>
   intro i k hd hk
   obtain ⟨k, rfl⟩ : ∃ m, k = m + 1 := ⟨k - 1, by omega⟩
   simp only [cmp_Or_int.l0]
   rw [if_neg (by omega), List.drop_of_length_le (by omega)]
   rfl
  | succ d ih =>
   intro i k hd hk
   obtain ⟨k, rfl⟩ : ∃ m, k = m + 1 := ⟨k - 1, by omega⟩
   simp only [cmp_Or_int.l0]
   rw [if_pos (by omega), if_pos (by omega), if_pos (by omega), show rd xs (i : Int) = nth 0 xs i from rfl, drop_nth 0 (by omega : i < xs.length), wrap_up (by omega : i < xs.length) (by omega), ih (i + 1) k (by omega) (by omega)]
   simp only [firstNZ]
   split <;> rfl
 exact key xs.length 0 k (by omega) hk
def routeB (k v m ip o s : Int) (st : Bool) : Bool := vniB v && houseB o && (if k = 2 then (macB m && !groupB m) && ipB ip && timeB s else decide (k = 3) && decide (m = 0) && decide (ip = 0) && decide (s = 0) && !st)
theorem spec_RouteRight_eq (k v m ip o s : Int) (st : Bool) (n : Nat) (hn : 1 ≤ n) : spec_RouteRight.f n k v m ip o s st = some (routeB k v m ip o s st) := by
 obtain ⟨n, rfl⟩ : ∃ q, n = q + 1 := ⟨n - 1, by omega⟩
 unfold spec_RouteRight.f routeB
 rw [spec_l02Vni_eq, Q7, show inB o 1 4 = houseB o from rfl]
 simp only [Option.bind_some, spec_RouteRight.j0, spec_l02Mac_eq, spec_IsGroup_eq, spec_l02Ip_eq, Q7, show inB s 0 1000000 = timeB s from rfl]
 cases vniB v <;> cases houseB o <;> simp
 by_cases h2 : k = 2
 ·cases macB m <;> cases groupB m <;> cases ipB ip <;> simp [h2]
 ·by_cases h3 : k = 3
  ·by_cases h4 : m = 0 <;> by_cases h5 : ip = 0 <;> by_cases h6 : s = 0 <;> simp [h3, h4, h5, h6]
  ·simp [h2, h3]
theorem impl_RouteRight_eq (k v m ip o s : Int) (st : Bool) (n : Nat) (hn : 1 ≤ n) : impl_RouteRight.f n k v m ip o s st = some (routeB k v m ip o s st) := by
 obtain ⟨n, rfl⟩ : ∃ q, n = q + 1 := ⟨n - 1, by omega⟩
 unfold impl_RouteRight.f routeB
 rw [impl_isVni_eq, impl_isHouse_eq]
 simp only [Option.bind_some, impl_RouteRight.j0, impl_isGuest_eq, impl_isIp_eq, impl_isTime_eq]
 cases vniB v <;> cases houseB o <;> simp
 by_cases h2 : k = 2
 ·cases macB m <;> cases groupB m <;> cases ipB ip <;> simp [h2]
 ·by_cases h3 : k = 3
  ·by_cases h4 : m = 0 <;> by_cases h5 : ip = 0 <;> by_cases h6 : s = 0 <;> simp [h3, h4, h5, h6]
  ·simp [h2, h3]
def peerB (a : Int) : Bool := inB a 1 9
def lessH (a b : S73) : Bool := if a.f0 = b.f0 then (if a.f2.f0 = b.f2.f0 then (if a.f2.f1 = b.f2.f1 then (if a.f2.f2 = b.f2.f2 then decide (a.f2.f4 < b.f2.f4) else decide (a.f2.f2 < b.f2.f2)) else decide (a.f2.f1 < b.f2.f1)) else decide (a.f2.f0 < b.f2.f0)) else decide (a.f0 < b.f0)
def rightH (a : S73) : Bool := peerB a.f0 && routeB a.f2.f0 a.f2.f1 a.f2.f2 a.f2.f3 a.f2.f4 a.f2.f5 a.f2.f6
def heldAt (xs : List S73) (j : Nat) : Bool := rightH (nth z73 xs j) && (j == 0 || lessH (nth z73 xs (j - 1)) (nth z73 xs j))
def ribRight (xs : List S73) : Bool := chk (heldAt xs) xs.length 0 && decide (xs.length ≤ 60)
theorem rdH (xs : List S73) (i : Nat) : Qf xs (i : Int) = nth z73 xs i := rfl
theorem spec_l06Less_eq (a b : S73) : spec_l06Less.f a.f0 a.f1 a.f2.f0 a.f2.f1 a.f2.f2 a.f2.f3 a.f2.f4 a.f2.f5 a.f2.f6 b.f0 b.f1 b.f2.f0 b.f2.f1 b.f2.f2 b.f2.f3 b.f2.f4 b.f2.f5 b.f2.f6 = some (lessH a b) := by
 unfold spec_l06Less.f lessH
 repeat' split
 all_goals rfl
theorem fnz_cons (a b : Int) (l : List Int) : (0 ≤ firstNZ (cmpI a b :: l)) ↔ (if a = b then 0 ≤ firstNZ l else ¬ a < b) := by
 have e : firstNZ (cmpI a b :: l) = if cmpI a b = 0 then firstNZ l else cmpI a b := rfl
 rw [e]
 unfold cmpI
 rcases Int.lt_trichotomy a b with h | h | h
 ·rw [if_pos h, if_neg (by omega), if_neg (by omega)]; simp [h]
 ·subst h; simp
 ·rw [if_neg (by omega), if_pos h, if_neg (by omega), if_neg (by omega)]; simp; omega
def ordH (a b : S73) : Int := firstNZ [cmpI a.f0 b.f0, cmpI a.f2.f0 b.f2.f0, cmpI a.f2.f1 b.f2.f1, cmpI a.f2.f2 b.f2.f2, cmpI a.f2.f4 b.f2.f4]
theorem impl_Held_order_eq (a b : S73) (k : Nat) (hk : 6 ≤ k) : impl_Held_order.f k a.f0 a.f1 a.f2.f0 a.f2.f1 a.f2.f2 a.f2.f3 a.f2.f4 a.f2.f5 a.f2.f6 b.f0 b.f1 b.f2.f0 b.f2.f1 b.f2.f2 b.f2.f3 b.f2.f4 b.f2.f5 b.f2.f6 = some (ordH a b) := by
 simp only [impl_Held_order.f, cmp_Compare_eq, Option.bind_some]
 rw [cmp_Or_eq _ (by simp) k (by simp; omega)]
 rfl
theorem ordH_neg (a b : S73) : (ordH a b ≥ 0) ↔ lessH a b = false := by
 show 0 ≤ ordH a b ↔ _
 unfold ordH lessH
 simp only [fnz_cons]
 have h0 : 0 ≤ firstNZ [] := by simp [firstNZ]
 repeat' split
 all_goals simp_all
theorem spec_RibRight_loop (xs : List S73) (hn : xs.length ≤ 9223372036854775807) : ∀ (d i k : Nat), i + d = xs.length → d + 1 < k → spec_RibRight.l0 k xs (i : Int) = some (chk (heldAt xs) d i && true) := by
 apply chk_loop 1 (fun k i => spec_RibRight.l0 k xs i)
 ·intro k i hc hi
  simp only [spec_RibRight.l0]
  rw [if_pos (by omega), if_pos (by omega), rdH, spec_l06Peer.f, Q7, Option.bind_some, show inB (nth z73 xs i).f0 1 9 = peerB (nth z73 xs i).f0 from rfl, spec_RouteRight_eq _ _ _ _ _ _ _ k hc]
  simp only [Option.bind_some]
  unfold heldAt rightH
  cases h1 : peerB (nth z73 xs i).f0 with
  | false => simp
  | true =>
   rw [if_pos rfl]
   cases h2 : routeB (nth z73 xs i).f2.f0 (nth z73 xs i).f2.f1 (nth z73 xs i).f2.f2 (nth z73 xs i).f2.f3 (nth z73 xs i).f2.f4 (nth z73 xs i).f2.f5 (nth z73 xs i).f2.f6 with
   | false => simp
   | true =>
    rw [if_pos rfl]
    by_cases h0 : i = 0
    ·subst h0
     rw [if_neg (by omega), if_pos (by simp), wrap_up hi hn]
    ·rw [if_pos (by omega), wrap_down (by omega) (by omega), if_pos (by omega), if_pos (by omega), rdH, wrap_up hi hn, spec_l06Less_eq, Option.bind_some]
     cases h3 : lessH (nth z73 xs (i - 1)) (nth z73 xs i) <;> simp [h0]
 ·intro k _
  simp only [spec_RibRight.l0]
  rw [if_neg (by omega)]
theorem spec_RibRight_eq (xs : List S73) (hn : xs.length ≤ 9223372036854775807) (k : Nat) (hk : xs.length + 6 < k) : spec_RibRight.f k xs = some (ribRight xs) := by
 unfold spec_RibRight.f ribRight
 by_cases h : xs.length ≤ 60
 ·rw [if_neg (by omega), show (0 : Int) = ((0 : Nat) : Int) from rfl, spec_RibRight_loop xs hn xs.length 0 k (by omega) (by omega)]
  simp [h]
 ·rw [if_pos (by omega)]
  simp [h]
theorem impl_RibRight_loop (xs : List S73) (hn : xs.length ≤ 9223372036854775807) : ∀ (d i k : Nat), i + d = xs.length → d + 6 < k → impl_RibRight.l0 k xs xs (xs.length : Int) (i : Int) = some (chk (heldAt xs) d i && decide (xs.length ≤ 60)) := by
 apply chk_loop 6 (fun k i => impl_RibRight.l0 k xs xs (xs.length : Int) i)
 ·intro k i hc hi
  simp only [impl_RibRight.l0]
  rw [if_pos (by omega), if_pos (by omega), if_pos (by omega), rdH, impl_isPeer.f, impl_in_eq, Option.bind_some, show inB (nth z73 xs i).f0 1 9 = peerB (nth z73 xs i).f0 from rfl, impl_RouteRight_eq _ _ _ _ _ _ _ k (by omega)]
  simp only [Option.bind_some]
  unfold heldAt rightH
  cases h1 : peerB (nth z73 xs i).f0 with
  | false => simp
  | true =>
   rw [if_pos rfl]
   cases h2 : routeB (nth z73 xs i).f2.f0 (nth z73 xs i).f2.f1 (nth z73 xs i).f2.f2 (nth z73 xs i).f2.f3 (nth z73 xs i).f2.f4 (nth z73 xs i).f2.f5 (nth z73 xs i).f2.f6 with
   | false => simp
   | true =>
    rw [if_pos rfl]
    by_cases h0 : i = 0
    ·subst h0
     rw [if_neg (by omega), if_pos (by simp), wrap_up hi hn]
    ·rw [if_pos (by omega), wrap_down (by omega) (by omega), if_pos (by omega), if_pos (by omega), rdH, wrap_up hi hn, impl_Held_order_eq _ _ k hc, Option.bind_some]
     have ho := ordH_neg (nth z73 xs (i - 1)) (nth z73 xs i)
     cases h3 : lessH (nth z73 xs (i - 1)) (nth z73 xs i) with
     | true => rw [if_neg (by rw [ho, h3]; simp)]; simp
     | false => rw [if_pos (by rw [ho, h3])]; simp [h0]
 ·intro k _
  simp only [impl_RibRight.l0]
  rw [if_neg (by omega)]
  simp only [Option.some.injEq, decide_eq_decide]
  omega
theorem impl_RibRight_eq (xs : List S73) (hn : xs.length ≤ 9223372036854775807) (k : Nat) (hk : xs.length + 6 < k) : impl_RibRight.f k xs = some (ribRight xs) := by
 unfold impl_RibRight.f ribRight
 rw [show (0 : Int) = ((0 : Nat) : Int) from rfl, impl_RibRight_loop xs hn xs.length 0 k (by omega) hk]
def toRoute (x : S40) : S42 := ⟨x.f0, x.f1, x.f2, x.f3, x.f4, x.f5, x.f6⟩
def toHeld (x : S76) : S73 := ⟨x.f0, x.f1, toRoute x.f2⟩
def markHeld (m : Int) : S73 := ⟨m, Int.tmod (m + 1) 3 == 0, ⟨m + 2, m + 3, m + 4, m + 5, m + 6, m + 7, Int.tmod (m + 8) 3 == 0⟩⟩
def markRoute (m : Int) : S42 := ⟨m, m + 1, m + 2, m + 3, m + 4, m + 5, Int.tmod (m + 6) 3 == 0⟩
theorem rd_setH (xs : List S73) (i : Nat) (x : S73) (h : i < xs.length) : Qf (xs.set i x) (i : Int) = x := by
 simp [Qf, h]
theorem rd_setR (xs : List S42) (i : Nat) (x : S42) (h : i < xs.length) : Qk (xs.set i x) (i : Int) = x := by
 simp [Qk, h]
end
theorem ordH_lt (x y : S73) : ordH x y < 0 ↔ lessH x y = true := by
 have := ordH_neg x y
 cases h : lessH x y with
 | true => rw [h] at this; simp at this; simp; omega
 | false => rw [h] at this; simp at this; simp; omega
theorem ordH_calls (W : World) (x y : S73) : Calls Try.prog 103 #[.agg [.int .i64 x.f0, .bool x.f1, .int .i64 x.f2.f0, .int .i64 x.f2.f1, .int .i64 x.f2.f2, .int .i64 x.f2.f3, .int .i64 x.f2.f4, .int .i64 x.f2.f5, .bool x.f2.f6].toArray, .agg [.int .i64 y.f0, .bool y.f1, .int .i64 y.f2.f0, .int .i64 y.f2.f1, .int .i64 y.f2.f2, .int .i64 y.f2.f3, .int .i64 y.f2.f4, .int .i64 y.f2.f5, .bool y.f2.f6].toArray] W fun e w' => e = .returned (.int .i64 (ordH x y)) ∧ Below W.heap.size W w' :=
 impl_Held_order.calls 6 x.f0 x.f1 x.f2.f0 x.f2.f1 x.f2.f2 x.f2.f3 x.f2.f4 x.f2.f5 x.f2.f6 y.f0 y.f1 y.f2.f0 y.f2.f1 y.f2.f2 y.f2.f3 y.f2.f4 y.f2.f5 y.f2.f6 (ordH x y) W (impl_Held_order_eq _ _ 6 (by omega))
theorem lessH_iff (x y : S73) : lessH x y = true ↔ x.f0 < y.f0 ∨ x.f0 = y.f0 ∧ (x.f2.f0 < y.f2.f0 ∨ x.f2.f0 = y.f2.f0 ∧ (x.f2.f1 < y.f2.f1 ∨ x.f2.f1 = y.f2.f1 ∧ (x.f2.f2 < y.f2.f2 ∨ x.f2.f2 = y.f2.f2 ∧ x.f2.f4 < y.f2.f4))) := by
 unfold lessH
 repeat' split
 all_goals (simp only [decide_eq_true_eq]; omega)
theorem lessH_trans {x y z : S73} (h1 : lessH x y = true) (h2 : lessH y z = true) : lessH x z = true := by
 rw [lessH_iff] at *
 omega
theorem fnz_zero (a b : Int) (l : List Int) : Base.firstNZ (Base.cmpI a b :: l) = 0 ↔ a = b ∧ Base.firstNZ l = 0 := by
 have e : Base.firstNZ (Base.cmpI a b :: l) = if Base.cmpI a b = 0 then Base.firstNZ l else Base.cmpI a b := rfl
 rw [e]
 unfold Base.cmpI
 rcases Int.lt_trichotomy a b with h | h | h
 ·rw [if_pos h, if_neg (by omega)]; omega
 ·subst h; simp
 ·rw [if_neg (by omega), if_pos h, if_neg (by omega)]; omega
theorem righth_up (l : List S73) (k : Nat) (t : Bool) (h : impl_RibRight.f k l = some t) : ∀ n, impl_RibRight.f (k + n) l = some t := by
 intro n
 induction n with
 | zero => exact h
 | succ n ih => exact impl_RibRight.mono _ _ _ ih
theorem righth_is (l : List S73) (hn : l.length ≤ 9223372036854775807) (k : Nat) (t : Bool) (h : impl_RibRight.f k l = some t) : t = ribRight l := by
 have h1 := righth_up l k t h (l.length + 7)
 rw [impl_RibRight_eq l hn _ (by omega)] at h1
 exact (Option.some.inj h1).symm
theorem righth_less (l : List S73) (h : ribRight l = true) (j : Nat) (hj : j + 1 < l.length) : lessH (Base.nth z73 l j) (Base.nth z73 l (j + 1)) = true := by
 unfold ribRight at h
 rw [Bool.and_eq_true, Base.chk_iff] at h
 have := h.1 (j + 1) (by omega) (by omega)
 unfold heldAt at this
 rw [Bool.and_eq_true] at this
 simpa using this.2
theorem righth_sorted (l : List S73) (h : ribRight l = true) : ∀ (d a : Nat), a + d + 1 < l.length → lessH (Base.nth z73 l a) (Base.nth z73 l (a + d + 1)) = true := by
 intro d
 induction d with
 | zero => intro a ha; exact righth_less l h a ha
 | succ d ih => intro a ha; exact lessH_trans (ih a (by omega)) (righth_less l h (a + d + 1) (by omega))
def ribPut_T1 : Bool × List (List Nat × List Nat) := (true, [([], []), ([], []), ([0, 1], [0, 1]), ([], []), ([3], [3]), ([], []), ([5, 2, 4, 0, 1, 2, 5], [2, 5]), ([4, 6, 0, 1, 2, 3, 4, 5, 6], [4])])
def ribPut_B1 : List Nat := [0, 0, 3, 0, 8, 0, 63, 127]
theorem ribPut_tab1 : rtab .any (opsOf Try.f74 1) = ribPut_T1 := by kernel_rfl
theorem ribPut_bits1 : waitsOk ribPut_T1.2 ribPut_B1 = true := by kernel_rfl
set_option maxHeartbeats 8000000 in
set_option maxRecDepth 100000 in
theorem ribPut_calls (A0 : Option Addr) (c0 : Nat) (l0 : List S73) (a1 a2_0 a2_1 a2_2 a2_3 a2_4 a2_5 : Int) (a2_6 : Bool) (y : S73) (hyy : y = ⟨a1, false, ⟨a2_0, a2_1, a2_2, a2_3, a2_4, a2_5, a2_6⟩⟩) (w : World) (hl : l0.length ≤ 400) (hr0 : Kd.C k73 w A0 l0.length l0) (hc0 : l0.length ≤ c0) (hs : ribRight l0 = true) :
  Calls Try.prog 74 #[.slice A0 l0.length c0, .int .i64 a1, .agg #[.int .i64 a2_0, .int .i64 a2_1, .int .i64 a2_2, .int .i64 a2_3, .int .i64 a2_4, .int .i64 a2_5, .bool a2_6]] w fun e w' => ∃ (i : Nat) (v : Value), i ≤ l0.length ∧ (∀ j, j < i → ordH (Base.nth z73 l0 j) y < 0) ∧ (∀ j, i ≤ j → j < l0.length → 0 ≤ ordH (Base.nth z73 l0 j) y) ∧ ((i < l0.length ∧ ordH (Base.nth z73 l0 i) y = 0) ∧ e = .returned (.tuple #[v, .bool true]) ∧ Kd.R k73 73 w' w.heap.size (fun _ => True) v (l0.set i y) ∨
   ¬ (i < l0.length ∧ ordH (Base.nth z73 l0 i) y = 0) ∧ e = .returned (.tuple #[v, .bool (decide ((l0.length : Int) < 60))]) ∧ Kd.R k73 73 w' w.heap.size (fun _ => True) v (l0.take i ++ y :: l0.drop i)) ∧ Below w.heap.size w w' := by
 have eg : ∀ args w, (callFunc 103 args).run Try.prog w = .ok (.enter 103 args) w := enters_of Try.func103 (by kernel_rfl) rfl
 have hcl : impl_Held_104.f l0 = some l0 := by
  simp only [impl_Held_104.f, Option.bind_some, List.nil_append]
  rw [if_pos (by simp; omega)]
 have hmono : ∀ a b, a ≤ b → b < l0.length → ordH (Base.nth z73 l0 b) y < 0 → ordH (Base.nth z73 l0 a) y < 0 := by
  intro a b hab hb h
  rcases Nat.lt_or_ge a b with h1 | h1
  ·have := righth_sorted l0 hs (b - a - 1) a (by omega)
   rw [show a + (b - a - 1) + 1 = b by omega] at this
   rw [ordH_lt] at h ⊢
   exact lessH_trans this h
  ·obtain rfl : a = b := by omega
   exact h
 have HM := Aside0.mk hmono
 have HCl := Aside0.mk hcl
 have HL := Aside0.mk hl
 have HY := Aside0.mk hyy
 clear hmono hcl hs hl hyy
 have hu_r := Try.underlying42
 have hu_h := Try.underlying73
 have HR0 := Aside0.mk hr0
 have HC0 := Aside0.mk hc0
 clear hr0 hc0
 have HB := Aside0.mk (Below.refl w.heap.size w)
 go_enter Try.func74, Try.ntmps74
 try go_wp2_with (first | ((with_reducible refine Qw (N := 5) rfl ?_); refine Qu ?hg (N := 5) ?hd (cs := #[.int .i64 a2_0, .int .i64 a2_1, .int .i64 a2_2, .int .i64 a2_3, .int .i64 a2_4, .int .i64 a2_5, .bool a2_6]) (t := 42) ?hr ?_; (case hd => rfl); (case hg => rfl); (case hr => first | (go_simp; done) | (go_simp; rfl)); intro gb334 hg w5 hbox hb; have n0_ := Aside0.mk (Qn (by repeat (first | (with_reducible first | exact HB.out | apply Qg | apply Qb | apply Qe) | exact HB.out)) hb); have n1_ := Aside0.mk (hbox); have n2_ := Aside0.mk ((by rw [hg]; exact (Ql (by repeat (first | (with_reducible first | exact HB.out | apply Qg | apply Qb | apply Qe) | exact HB.out))) : w.heap.size ≤ gb334)); have n3_ := Aside0.mk ((by rw [hg]; exact (Ql (by repeat (first | (with_reducible first | exact HB.out | apply Qg | apply Qb | apply Qe) | exact HB.out))) : w.heap.size ≤ gb334)); clear HB; have HB := n0_; have BK334 := n1_; have GW334 := n2_; have GE334 := n3_; clear n0_ n1_ n2_ n3_; clear hb hbox hg))
 have n0_ := Aside0.mk (Qj BK334.out)
 have n1_ := Aside0.mk (Qe HB.out)
 clear BK334
 clear HB
 have BK334 := n0_
 have HB := n1_
 clear n0_ n1_
 refine start_ (n := 8) (S := fun w' => w'.cell? ⟨gb334, 0, none⟩ = some (.int .i64 a2_0) ∧ w'.cell? ⟨gb334, 1, none⟩ = some (.int .i64 a2_1) ∧ w'.cell? ⟨gb334, 2, none⟩ = some (.int .i64 a2_2) ∧ w'.cell? ⟨gb334, 3, none⟩ = some (.int .i64 a2_3) ∧ w'.cell? ⟨gb334, 4, none⟩ = some (.int .i64 a2_4) ∧ w'.cell? ⟨gb334, 5, none⟩ = some (.int .i64 a2_5) ∧ w'.cell? ⟨gb334, 6, none⟩ = some (.bool a2_6)) (ds := []) #[false, false, false, false, false, false, false, false] (by kernel_rfl) rfl rfl ⟨(Qa BK334.out 0).trans rfl, (Qa BK334.out 1).trans rfl, (Qa BK334.out 2).trans rfl, (Qa BK334.out 3).trans rfl, (Qa BK334.out 4).trans rfl, (Qa BK334.out 5).trans rfl, (Qa BK334.out 6).trans rfl⟩ (fun hHeld => ?_); refine with_tabW ribPut_tab1 ribPut_bits1 (fun HT_ HW_ => ?_)
 generalize w5.drew = w6 at BK334 HB hHeld ⊢
 refine Qy (i := 0) (N := some 12) (v := ?_) (a' := ?_) #[true, false, false, false, false, false, false, false] rfl rfl (Qv HT_.out (by kernel_rfl)) (fun _ _ _ h => h) (Or.inl ⟨by rfl, ?_⟩) ?_ ?_
 rotate_left
 ·intro w'
  go_simp
  with_reducible rfl
 rotate_left
 ·simp only [Act.put, List.setIfInBounds_toArray, List.set_cons_zero, List.set_cons_succ, Qr, Qt]
  rfl
 refine Qy (i := 3) (N := some 15) (v := ?_) (a' := ?_) #[true, false, false, true, false, false, false, false] rfl rfl (Qv HT_.out (by kernel_rfl)) (fun _ _ _ h => h) (Or.inl ⟨by rfl, ?_⟩) ?_ ?_
 rotate_left
 ·intro w'
  go_simp
  with_reducible rfl
 rotate_left
 ·simp only [Act.put, List.setIfInBounds_toArray, List.set_cons_zero, List.set_cons_succ, Qr, Qt]
  rfl
 refine take_ (i := 1) (N := some 13) (v := ?_) (a' := ?_) #[true, true, false, true, false, false, false, false] rfl rfl (Q5 HT_.out HW_.out (by kernel_rfl)) (fun _ _ _ h => h) (Or.inl ⟨by rfl, ?_⟩) hHeld ?_ ?_
 rotate_left
 ·rintro w' ⟨s0, s1, s2, s3, s4, s5, s6⟩
  go_simp
  with_reducible rfl
 rotate_left
 ·simp only [Act.put, List.setIfInBounds_toArray, List.set_cons_zero, List.set_cons_succ, Qr, Qt]
  rfl
 refine Qy (i := 2) (N := some 14) (v := ?_) (a' := ?_) #[true, true, true, true, false, false, false, false] rfl rfl (Qv HT_.out (by kernel_rfl)) (fun _ _ _ h => h) (Or.inl ⟨by rfl, ?_⟩) ?_ ?_
 rotate_left
 ·intro w'
  go_simp
  with_reducible rfl
 rotate_left
 ·simp only [Act.put, List.setIfInBounds_toArray, List.set_cons_zero, List.set_cons_succ, Qr, Qt]
  rfl
 refine join_ (σ := Value × Nat) 2 #[true, true, true, true, true, true, false, false] (fun s_ => [(16, s_.1), (8, .pointer (some ⟨s_.2, 0, none⟩))]) (fun s_ w' => (w'.cell? ⟨gb334, 0, none⟩ = some (.int .i64 a2_0) ∧ w'.cell? ⟨gb334, 1, none⟩ = some (.int .i64 a2_1) ∧ w'.cell? ⟨gb334, 2, none⟩ = some (.int .i64 a2_2) ∧ w'.cell? ⟨gb334, 3, none⟩ = some (.int .i64 a2_3) ∧ w'.cell? ⟨gb334, 4, none⟩ = some (.int .i64 a2_4) ∧ w'.cell? ⟨gb334, 5, none⟩ = some (.int .i64 a2_5) ∧ w'.cell? ⟨gb334, 6, none⟩ = some (.bool a2_6)) ∧ (Kd.R k73 73 w' w.heap.size (fun k_ => k_ ≠ s_.2) s_.1 l0) ∧ (w'.heap[gb334]? = some (.cells #[.int .i64 a2_0, .int .i64 a2_1, .int .i64 a2_2, .int .i64 a2_3, .int .i64 a2_4, .int .i64 a2_5, .bool a2_6] 42 (0, 0))) ∧ (w'.heap[s_.2]? = some (.cells #[.int .i64 0, .bool false, .int .i64 0, .int .i64 0, .int .i64 0, .int .i64 0, .int .i64 0, .int .i64 0, .bool false] 73 (0, 0))) ∧ (w.heap.size ≤ s_.2) ∧ (w.heap.size ≤ s_.2) ∧ (gb334 ≠ s_.2) ∧ (s_.2 ≠ gb334) ∧ (Below w.heap.size w w')) ?_ ?_
 rotate_left
 ·intro hCont
  refine two_ (i := 4) (j := 5) (Ni := some 16) (Nj := some 8) #[true, true, true, true, true, false, false, false] #[true, true, true, true, false, true, false, false] rfl rfl rfl rfl (two_of HT_.out (by kernel_rfl)) (by decide) (by decide) (fun K hK => ?_) (fun K hK => ?_)
  ·skip
   refine goes_ Try.func104 (by kernel_rfl) rfl #[.slice A0 l0.length c0] (by rfl) rfl rfl (by (try simp only [List.map_toArray, List.map_cons, List.map_nil]); first | done | rfl | (simp only [List.length_drop, List.length_take]; rfl)) ?_
   with_reducible refine (impl_Held_104.calls _ _ l0 l0 _ ?side1 ?side2 HCl.out).mono ?_
   (case side1 => repeat (first | exact (Kd.C_below HR0.out HB.out) | (with_reducible refine Kd.C_alloc ?_ _) | (with_reducible refine Kd.C_drewN ?_ _) | (with_reducible refine Kd.C_drew ?_)))
   (case side2 => exact HC0.out)
   rintro e w7 ⟨v336, rfl, ho0, hb⟩
   refine ⟨_, rfl, ?_⟩
   have n0_ := Aside0.mk (Kd.R_lower ho0 (Ql (by repeat (first | (with_reducible first | exact HB.out | apply Qg | apply Qb | apply Qe | refine Qc ?_ GE334.out) | exact HB.out))))
   have n1_ := Aside0.mk (Qm (g := gb334) (o := .cells #[.int .i64 a2_0, .int .i64 a2_1, .int .i64 a2_2, .int .i64 a2_3, .int .i64 a2_4, .int .i64 a2_5, .bool a2_6] 42 (0, 0)) (by (with_reducible repeat (first | refine Qi ?_ _ | refine Qj ?_ | refine Qh ?_ _)); exact BK334.out) hb)
   have n2_ := Aside0.mk (Qn (by repeat (first | (with_reducible first | exact HB.out | apply Qg | apply Qb | apply Qe | refine Qc ?_ GE334.out) | exact HB.out)) hb)
   clear BK334
   clear HB
   have HO337 := n0_
   have BK334 := n1_
   have HB := n2_
   clear n0_ n1_ n2_
   (try clear hb)
   (try clear hb2)
   (try clear hk)
   (try clear hi)
   (try clear ho0)
   refine hK.out _ _ ⟨(Qa BK334.out 0).trans rfl, (Qa BK334.out 1).trans rfl, (Qa BK334.out 2).trans rfl, (Qa BK334.out 3).trans rfl, (Qa BK334.out 4).trans rfl, (Qa BK334.out 5).trans rfl, (Qa BK334.out 6).trans rfl⟩ (fun hHeld => ?_)
   clear hK K
   refine Q4 (a' := ?_) ?_ ?_
   rotate_left
   ·show Act.put _ (some 16) _ = _
    simp only [Act.put, List.setIfInBounds_toArray, List.set_cons_zero, List.set_cons_succ, Qr, Qt]
    rfl
   refine one_ (i := 5) (N := some 8) #[true, true, true, true, true, true, false, false] rfl rfl (Q6 HT_.out (by kernel_rfl)) (by decide) (fun K hK => ?_)
   refine box_step ?hg (N := 8) ?hd (cs := #[.int .i64 0, .bool false, .int .i64 0, .int .i64 0, .int .i64 0, .int .i64 0, .int .i64 0, .int .i64 0, .bool false]) (t := 73) ?hr ?_; (case hd => rfl); (case hg => rfl); (case hr => first | (go_simp; done) | (go_simp; rfl))
   intro gb338 hg w8 hbox hb
   have n0_ := Aside0.mk (Kd.R_below (Kd.R_elderB (by (with_reducible repeat (first | apply Kd.R_alloc | apply Kd.R_drewN | apply Kd.R_drew)); exact HO337.out) gb338 (Nat.le_of_eq hg.symm)) hb)
   have n1_ := Aside0.mk (Qm (g := gb334) (o := .cells #[.int .i64 a2_0, .int .i64 a2_1, .int .i64 a2_2, .int .i64 a2_3, .int .i64 a2_4, .int .i64 a2_5, .bool a2_6] 42 (0, 0)) (by (with_reducible repeat (first | refine Qi ?_ _ | refine Qj ?_ | refine Qh ?_ _)); exact BK334.out) hb)
   have n2_ := Aside0.mk (Qn (by repeat (first | (with_reducible first | exact HB.out | apply Qg | apply Qb | apply Qe | refine Qc ?_ GE334.out) | exact HB.out)) hb)
   have n3_ := Aside0.mk (hbox)
   have n4_ := Aside0.mk ((by rw [hg]; exact (Ql (by repeat (first | (with_reducible first | exact HB.out | apply Qg | apply Qb | apply Qe | refine Qc ?_ GE334.out) | exact HB.out))) : w.heap.size ≤ gb338))
   have n5_ := Aside0.mk ((by rw [hg]; exact (Ql (by repeat (first | (with_reducible first | exact HB.out | apply Qg | apply Qb | apply Qe | refine Qc ?_ GE334.out) | exact HB.out))) : w.heap.size ≤ gb338))
   have n6_ := Aside0.mk ((by rw [hg]; exact Nat.ne_of_lt (Qs (g := gb334) (o := .cells #[.int .i64 a2_0, .int .i64 a2_1, .int .i64 a2_2, .int .i64 a2_3, .int .i64 a2_4, .int .i64 a2_5, .bool a2_6] 42 (0, 0)) (by (with_reducible repeat (first | refine Qi ?_ _ | refine Qj ?_ | refine Qh ?_ _)); exact BK334.out)) : gb334 ≠ gb338))
   have n7_ := Aside0.mk ((by rw [hg]; exact Nat.ne_of_gt (Qs (g := gb334) (o := .cells #[.int .i64 a2_0, .int .i64 a2_1, .int .i64 a2_2, .int .i64 a2_3, .int .i64 a2_4, .int .i64 a2_5, .bool a2_6] 42 (0, 0)) (by (with_reducible repeat (first | refine Qi ?_ _ | refine Qj ?_ | refine Qh ?_ _)); exact BK334.out)) : gb338 ≠ gb334))
   clear HO337
   clear BK334
   clear HB
   have HO337 := n0_
   have BK334 := n1_
   have HB := n2_
   have BK338 := n3_
   have GW338 := n4_
   have GE338 := n5_
   have NB334_338 := n6_
   have NB338_334 := n7_
   clear n0_ n1_ n2_ n3_ n4_ n5_ n6_ n7_
   clear hb hbox hg
   refine hK.out _ _ ⟨(Qa BK334.out 0).trans rfl, (Qa BK334.out 1).trans rfl, (Qa BK334.out 2).trans rfl, (Qa BK334.out 3).trans rfl, (Qa BK334.out 4).trans rfl, (Qa BK334.out 5).trans rfl, (Qa BK334.out 6).trans rfl⟩ (fun hHeld => ?_)
   clear hK K
   refine Q4 (a' := ?_) ?_ ?_
   rotate_left
   ·show Act.put _ (some 8) _ = _
    simp only [Act.put, List.setIfInBounds_toArray, List.set_cons_zero, List.set_cons_succ, Qr, Qt]
    rfl
   exact Q4 (by simp only [putAll, Act.put, List.setIfInBounds_toArray, List.set_cons_zero, List.set_cons_succ]) (hCont (v336, gb338) _ ⟨hHeld, (by (with_reducible repeat (first | apply Kd.R_alloc | apply Kd.R_drewN | apply Kd.R_drew)); exact Kd.R_mono HO337.out (fun _ hk => hk.2)), (by (with_reducible repeat (first | refine Qi ?_ _ | refine Qj ?_ | refine Qh ?_ _)); exact BK334.out), (by (with_reducible repeat (first | refine Qi ?_ _ | refine Qj ?_ | refine Qh ?_ _)); exact BK338.out), GW338.out, GE338.out, NB334_338.out, NB338_334.out, (by repeat (first | (with_reducible first | exact HB.out | apply Qg | apply Qb | apply Qe | refine Qc ?_ GE334.out | refine Qc ?_ GE338.out) | exact HB.out))⟩)
  ·skip
   refine box_step ?hg (N := 8) ?hd (cs := #[.int .i64 0, .bool false, .int .i64 0, .int .i64 0, .int .i64 0, .int .i64 0, .int .i64 0, .int .i64 0, .bool false]) (t := 73) ?hr ?_; (case hd => rfl); (case hg => rfl); (case hr => first | (go_simp; done) | (go_simp; rfl))
   intro gb338 hg w7 hbox hb
   have n0_ := Aside0.mk (Qm (g := gb334) (o := .cells #[.int .i64 a2_0, .int .i64 a2_1, .int .i64 a2_2, .int .i64 a2_3, .int .i64 a2_4, .int .i64 a2_5, .bool a2_6] 42 (0, 0)) (by (with_reducible repeat (first | refine Qi ?_ _ | refine Qj ?_ | refine Qh ?_ _)); exact BK334.out) hb)
   have n1_ := Aside0.mk (Qn (by repeat (first | (with_reducible first | exact HB.out | apply Qg | apply Qb | apply Qe | refine Qc ?_ GE334.out) | exact HB.out)) hb)
   have n2_ := Aside0.mk (hbox)
   have n3_ := Aside0.mk ((by rw [hg]; exact (Ql (by repeat (first | (with_reducible first | exact HB.out | apply Qg | apply Qb | apply Qe | refine Qc ?_ GE334.out) | exact HB.out))) : w.heap.size ≤ gb338))
   have n4_ := Aside0.mk ((by rw [hg]; exact (Ql (by repeat (first | (with_reducible first | exact HB.out | apply Qg | apply Qb | apply Qe | refine Qc ?_ GE334.out) | exact HB.out))) : w.heap.size ≤ gb338))
   have n5_ := Aside0.mk ((by rw [hg]; exact Nat.ne_of_lt (Qs (g := gb334) (o := .cells #[.int .i64 a2_0, .int .i64 a2_1, .int .i64 a2_2, .int .i64 a2_3, .int .i64 a2_4, .int .i64 a2_5, .bool a2_6] 42 (0, 0)) (by (with_reducible repeat (first | refine Qi ?_ _ | refine Qj ?_ | refine Qh ?_ _)); exact BK334.out)) : gb334 ≠ gb338))
   have n6_ := Aside0.mk ((by rw [hg]; exact Nat.ne_of_gt (Qs (g := gb334) (o := .cells #[.int .i64 a2_0, .int .i64 a2_1, .int .i64 a2_2, .int .i64 a2_3, .int .i64 a2_4, .int .i64 a2_5, .bool a2_6] 42 (0, 0)) (by (with_reducible repeat (first | refine Qi ?_ _ | refine Qj ?_ | refine Qh ?_ _)); exact BK334.out)) : gb338 ≠ gb334))
   clear BK334
   clear HB
   have BK334 := n0_
   have HB := n1_
   have BK338 := n2_
   have GW338 := n3_
   have GE338 := n4_
   have NB334_338 := n5_
   have NB338_334 := n6_
   clear n0_ n1_ n2_ n3_ n4_ n5_ n6_
   clear hb hbox hg
   refine hK.out _ _ ⟨(Qa BK334.out 0).trans rfl, (Qa BK334.out 1).trans rfl, (Qa BK334.out 2).trans rfl, (Qa BK334.out 3).trans rfl, (Qa BK334.out 4).trans rfl, (Qa BK334.out 5).trans rfl, (Qa BK334.out 6).trans rfl⟩ (fun hHeld => ?_)
   clear hK K
   refine Q4 (a' := ?_) ?_ ?_
   rotate_left
   ·show Act.put _ (some 8) _ = _
    simp only [Act.put, List.setIfInBounds_toArray, List.set_cons_zero, List.set_cons_succ, Qr, Qt]
    rfl
   refine one_ (i := 4) (N := some 16) #[true, true, true, true, true, true, false, false] rfl rfl (Q6 HT_.out (by kernel_rfl)) (by decide) (fun K hK => ?_)
   refine goes_ Try.func104 (by kernel_rfl) rfl #[.slice A0 l0.length c0] (by rfl) rfl rfl (by (try simp only [List.map_toArray, List.map_cons, List.map_nil]); first | done | rfl | (simp only [List.length_drop, List.length_take]; rfl)) ?_
   with_reducible refine (impl_Held_104.calls _ _ l0 l0 _ ?side1 ?side2 HCl.out).mono ?_
   (case side1 => repeat (first | exact (Kd.C_below HR0.out HB.out) | (with_reducible refine Kd.C_alloc ?_ _) | (with_reducible refine Kd.C_drewN ?_ _) | (with_reducible refine Kd.C_drew ?_)))
   (case side2 => exact HC0.out)
   rintro e w8 ⟨v336, rfl, ho0, hb⟩
   refine ⟨_, rfl, ?_⟩
   have n0_ := Aside0.mk (Kd.R_lower (Kd.R_newB ho0 (g := gb338) (o := .cells #[.int .i64 0, .bool false, .int .i64 0, .int .i64 0, .int .i64 0, .int .i64 0, .int .i64 0, .int .i64 0, .bool false] 73 (0, 0)) (by (with_reducible repeat (first | refine Qi ?_ _ | refine Qj ?_ | refine Qh ?_ _)); exact BK338.out)) (Ql (by repeat (first | (with_reducible first | exact HB.out | apply Qg | apply Qb | apply Qe | refine Qc ?_ GE334.out | refine Qc ?_ GE338.out) | exact HB.out))))
   have n1_ := Aside0.mk (Qm (g := gb334) (o := .cells #[.int .i64 a2_0, .int .i64 a2_1, .int .i64 a2_2, .int .i64 a2_3, .int .i64 a2_4, .int .i64 a2_5, .bool a2_6] 42 (0, 0)) (by (with_reducible repeat (first | refine Qi ?_ _ | refine Qj ?_ | refine Qh ?_ _)); exact BK334.out) hb)
   have n2_ := Aside0.mk (Qm (g := gb338) (o := .cells #[.int .i64 0, .bool false, .int .i64 0, .int .i64 0, .int .i64 0, .int .i64 0, .int .i64 0, .int .i64 0, .bool false] 73 (0, 0)) (by (with_reducible repeat (first | refine Qi ?_ _ | refine Qj ?_ | refine Qh ?_ _)); exact BK338.out) hb)
   have n3_ := Aside0.mk (Qn (by repeat (first | (with_reducible first | exact HB.out | apply Qg | apply Qb | apply Qe | refine Qc ?_ GE334.out | refine Qc ?_ GE338.out) | exact HB.out)) hb)
   clear BK334
   clear BK338
   clear HB
   have HO337 := n0_
   have BK334 := n1_
   have BK338 := n2_
   have HB := n3_
   clear n0_ n1_ n2_ n3_
   (try clear hb)
   (try clear hb2)
   (try clear hk)
   (try clear hi)
   (try clear ho0)
   refine hK.out _ _ ⟨(Qa BK334.out 0).trans rfl, (Qa BK334.out 1).trans rfl, (Qa BK334.out 2).trans rfl, (Qa BK334.out 3).trans rfl, (Qa BK334.out 4).trans rfl, (Qa BK334.out 5).trans rfl, (Qa BK334.out 6).trans rfl⟩ (fun hHeld => ?_)
   clear hK K
   refine Q4 (a' := ?_) ?_ ?_
   rotate_left
   ·show Act.put _ (some 16) _ = _
    simp only [Act.put, List.setIfInBounds_toArray, List.set_cons_zero, List.set_cons_succ, Qr, Qt]
    rfl
   exact Q4 (by simp only [putAll, Act.put, List.setIfInBounds_toArray, List.set_cons_zero, List.set_cons_succ]) (hCont (v336, gb338) _ ⟨hHeld, (by (with_reducible repeat (first | apply Kd.R_alloc | apply Kd.R_drewN | apply Kd.R_drew)); exact Kd.R_mono HO337.out (fun _ hk => hk.2)), (by (with_reducible repeat (first | refine Qi ?_ _ | refine Qj ?_ | refine Qh ?_ _)); exact BK334.out), (by (with_reducible repeat (first | refine Qi ?_ _ | refine Qj ?_ | refine Qh ?_ _)); exact BK338.out), GW338.out, GE338.out, NB334_338.out, NB338_334.out, (by repeat (first | (with_reducible first | exact HB.out | apply Qg | apply Qb | apply Qe | refine Qc ?_ GE334.out | refine Qc ?_ GE338.out) | exact HB.out))⟩)
 rintro ⟨v336, gb338⟩ w9 ⟨hS_, h0_, h1_, h2_, h3_, h4_, h5_, h6_, h7_⟩
 have n0_ : Aside0 (Kd.R k73 73 w9 w.heap.size (fun k_ => k_ ≠ gb338) v336 l0) := ⟨h0_⟩
 have n1_ : Aside0 (w9.heap[gb334]? = some (.cells #[.int .i64 a2_0, .int .i64 a2_1, .int .i64 a2_2, .int .i64 a2_3, .int .i64 a2_4, .int .i64 a2_5, .bool a2_6] 42 (0, 0))) := ⟨h1_⟩
 have n2_ : Aside0 (w9.heap[gb338]? = some (.cells #[.int .i64 0, .bool false, .int .i64 0, .int .i64 0, .int .i64 0, .int .i64 0, .int .i64 0, .int .i64 0, .bool false] 73 (0, 0))) := ⟨h2_⟩
 have n3_ : Aside0 (w.heap.size ≤ gb338) := ⟨h3_⟩
 have n4_ : Aside0 (w.heap.size ≤ gb338) := ⟨h4_⟩
 have n5_ : Aside0 (gb334 ≠ gb338) := ⟨h5_⟩
 have n6_ : Aside0 (gb338 ≠ gb334) := ⟨h6_⟩
 have n7_ : Aside0 (Below w.heap.size w w9) := ⟨h7_⟩
 clear BK334
 clear HB
 clear h0_ h1_ h2_ h3_ h4_ h5_ h6_ h7_
 have HO337 := n0_
 have BK334 := n1_
 have BK338 := n2_
 have GW338 := n3_
 have GE338 := n4_
 have NB334_338 := n5_
 have NB338_334 := n6_
 have HB := n7_
 clear n0_ n1_ n2_ n3_ n4_ n5_ n6_ n7_
 have hHeld : w9.cell? ⟨gb334, 0, none⟩ = some (.int .i64 a2_0) ∧ w9.cell? ⟨gb334, 1, none⟩ = some (.int .i64 a2_1) ∧ w9.cell? ⟨gb334, 2, none⟩ = some (.int .i64 a2_2) ∧ w9.cell? ⟨gb334, 3, none⟩ = some (.int .i64 a2_3) ∧ w9.cell? ⟨gb334, 4, none⟩ = some (.int .i64 a2_4) ∧ w9.cell? ⟨gb334, 5, none⟩ = some (.int .i64 a2_5) ∧ w9.cell? ⟨gb334, 6, none⟩ = some (.bool a2_6) := hS_
 refine Q4 (a' := ?_) ?_ ?_
 rotate_left
 ·simp only [putAll, Act.put, List.setIfInBounds_toArray, List.set_cons_zero, List.set_cons_succ]
  rfl
 refine one_ (i := 6) (N := none) #[true, true, true, true, true, true, true, false] rfl rfl (Q6 HT_.out (by kernel_rfl)) (by decide) (fun K hK => ?_)
 refine Base.store_step (by rfl) rfl 73 (.tmp 8) (.tmp 14) rfl (g := gb338) rfl (u := .agg #[.int .i64 a1, .bool false, .int .i64 a2_0, .int .i64 a2_1, .int .i64 a2_2, .int .i64 a2_3, .int .i64 a2_4, .int .i64 a2_5, .bool a2_6]) rfl [.int .i64 a1, .bool false, .int .i64 a2_0, .int .i64 a2_1, .int .i64 a2_2, .int .i64 a2_3, .int .i64 a2_4, .int .i64 a2_5, .bool a2_6] rfl (by kernel_rfl) BK338.out rfl (by simp [Value.oneCell']) ?_
 intro wn_ hx_ hf_ hB_
 have n334 := (hf_ gb334 NB334_338.out).trans BK334.out
 have HR2 := Aside0.mk (Kd.R_mono (Kd.R_step HO337.out (fun k ho _ => hf_ k ho)) (fun _ _ => trivial))
 have B2 := Aside0.mk (hB_ _ _ HB.out GE338.out)
 have BL2 := Aside0.mk (show wn_.heap[gb338]? = some (.cells [.int .i64 y.f0, .bool y.f1, .int .i64 y.f2.f0, .int .i64 y.f2.f1, .int .i64 y.f2.f2, .int .i64 y.f2.f3, .int .i64 y.f2.f4, .int .i64 y.f2.f5, .bool y.f2.f6].toArray 73 (0, 0)) by rw [HY.out]; exact hx_)
 refine hK.out _ _ ⟨(Qa n334 0).trans rfl, (Qa n334 1).trans rfl, (Qa n334 2).trans rfl, (Qa n334 3).trans rfl, (Qa n334 4).trans rfl, (Qa n334 5).trans rfl, (Qa n334 6).trans rfl⟩ (fun hHeld => ?_)
 clear hK K hx_ hf_ hB_ n334 BK334 BK338 HO337 HB
 refine Qy (i := 7) (N := some 9) (v := ?_) (a' := ?_) #[true, true, true, true, true, true, true, true] rfl rfl (Qv HT_.out (by kernel_rfl)) (fun _ _ _ h => h) (Or.inl ⟨by rfl, ?_⟩) ?_ ?_
 rotate_left
 ·intro w'
  go_simp
  with_reducible rfl
 rotate_left
 ·simp only [Act.put, List.setIfInBounds_toArray, List.set_cons_zero, List.set_cons_succ, Qr, Qt]
  rfl
 refine done_ (done_of HT_.out (by kernel_rfl)) ?_
 clear HT_ HW_ hHeld
 have f0 := Qd BL2.out 0
 have f1 := Qd BL2.out 1
 have f2 := Qd BL2.out 2
 have f3 := Qd BL2.out 3
 have f4 := Qd BL2.out 4
 have f5 := Qd BL2.out 5
 have f6 := Qd BL2.out 6
 have f7 := Qd BL2.out 7
 have f8 := Qd BL2.out 8
 have k0 := (Qa BL2.out 0).trans rfl
 have k1 := (Qa BL2.out 1).trans rfl
 have k2 := (Qa BL2.out 2).trans rfl
 have k3 := (Qa BL2.out 3).trans rfl
 have k4 := (Qa BL2.out 4).trans rfl
 have k5 := (Qa BL2.out 5).trans rfl
 have k6 := (Qa BL2.out 6).trans rfl
 have k7 := (Qa BL2.out 7).trans rfl
 have k8 := (Qa BL2.out 8).trans rfl
 go_wp2_with fail
 refine (bsearch_calls 103 eg ordH ordH_calls _ _ l0 y _ (by have := HL.out; omega) (Kd.C_below HR0.out B2.out) HM.out).mono ?_
 rintro e w3 ⟨i, hi, hlo, hhi, rfl, hb⟩
 have HR3 := Aside0.mk (Kd.R_below HR2.out hb)
 have B3 := Aside0.mk (Qn B2.out hb)
 have BL3 := Aside0.mk (Qm BL2.out hb)
 have HLO := Aside0.mk hlo
 have HHI := Aside0.mk hhi
 clear hb hlo hhi f0 f1 f2 f3 f4 f5 f6 f7 f8 k0 k1 k2 k3 k4 k5 k6 k7 k8
 have f0 := Qd BL3.out 0
 have f1 := Qd BL3.out 1
 have f2 := Qd BL3.out 2
 have f3 := Qd BL3.out 3
 have f4 := Qd BL3.out 4
 have f5 := Qd BL3.out 5
 have f6 := Qd BL3.out 6
 have f7 := Qd BL3.out 7
 have f8 := Qd BL3.out 8
 have k0 := (Qa BL3.out 0).trans rfl
 have k1 := (Qa BL3.out 1).trans rfl
 have k2 := (Qa BL3.out 2).trans rfl
 have k3 := (Qa BL3.out 3).trans rfl
 have k4 := (Qa BL3.out 4).trans rfl
 have k5 := (Qa BL3.out 5).trans rfl
 have k6 := (Qa BL3.out 6).trans rfl
 have k7 := (Qa BL3.out 7).trans rfl
 have k8 := (Qa BL3.out 8).trans rfl
 by_cases hq : i < l0.length ∧ ordH (Base.nth z73 l0 i) y = 0
 ·have hbool : (decide (i < l0.length) && decide (ordH (Base.nth z73 l0 i) y = 0)) = true := by simp [hq.1, hq.2]
  rw [hbool]
  obtain ⟨gb, cap, rfl, hgb, _, _⟩ := Kd.R_form HR3.out (by omega)
  have HQ := Aside0.mk hq
  have HG := Aside0.mk hgb
  have hiz : (i : Int) < (l0.length : Int) := by omega
  obtain ⟨ceq, hclq, hMq, hccq, hfrq⟩ := Kd.R_elem HR3.out z73 (i : Int) (by omega) (by omega)
  obtain rfl := Q9 hMq
  have HSG := Aside0.mk (Kd.R_seg HR3.out (i : Int) (by omega) (by omega) (seg := [.int .i64 y.f0, .bool y.f1, .int .i64 y.f2.f0, .int .i64 y.f2.f1, .int .i64 y.f2.f2, .int .i64 y.f2.f3, .int .i64 y.f2.f4, .int .i64 y.f2.f5, .bool y.f2.f6]) (j := 0) hclq hccq (Nat.le_refl _) (x' := y) (k73_mkM _ _ _ y) (fun _ hk => hk))
  clear hMq hclq hccq hfrq hq hbool hgb
  obtain ⟨ces, hcls, hMs, hccs, hfrs⟩ := Kd.R_elem HR3.out z73 (i : Int) (by omega) (by omega)
  obtain rfl := Q9 hMs
  have hxs_0 : w3.cell? ⟨gb, (i : Int).toNat * 9, none⟩ = some (.int .i64 (Qf l0 (i : Int)).f0) := hccs 0 _ rfl
  have hxs_1 : w3.cell? ⟨gb, (i : Int).toNat * 9 + 1, none⟩ = some (.bool (Qf l0 (i : Int)).f1) := hccs 1 _ rfl
  have hxs_2 : w3.cell? ⟨gb, (i : Int).toNat * 9 + 2, none⟩ = some (.int .i64 (Qf l0 (i : Int)).f2.f0) := hccs 2 _ rfl
  have hxs_3 : w3.cell? ⟨gb, (i : Int).toNat * 9 + 3, none⟩ = some (.int .i64 (Qf l0 (i : Int)).f2.f1) := hccs 3 _ rfl
  have hxs_4 : w3.cell? ⟨gb, (i : Int).toNat * 9 + 4, none⟩ = some (.int .i64 (Qf l0 (i : Int)).f2.f2) := hccs 4 _ rfl
  have hxs_5 : w3.cell? ⟨gb, (i : Int).toNat * 9 + 5, none⟩ = some (.int .i64 (Qf l0 (i : Int)).f2.f3) := hccs 5 _ rfl
  have hxs_6 : w3.cell? ⟨gb, (i : Int).toNat * 9 + 6, none⟩ = some (.int .i64 (Qf l0 (i : Int)).f2.f4) := hccs 6 _ rfl
  have hxs_7 : w3.cell? ⟨gb, (i : Int).toNat * 9 + 7, none⟩ = some (.int .i64 (Qf l0 (i : Int)).f2.f5) := hccs 7 _ rfl
  have hxs_8 : w3.cell? ⟨gb, (i : Int).toNat * 9 + 8, none⟩ = some (.bool (Qf l0 (i : Int)).f2.f6) := hccs 8 _ rfl
  have hfs_0 : w3.frozen? ⟨gb, (i : Int).toNat * 9, none⟩ = false := hfrs 0
  have hfs_1 : w3.frozen? ⟨gb, (i : Int).toNat * 9 + 1, none⟩ = false := hfrs 1
  have hfs_2 : w3.frozen? ⟨gb, (i : Int).toNat * 9 + 2, none⟩ = false := hfrs 2
  have hfs_3 : w3.frozen? ⟨gb, (i : Int).toNat * 9 + 3, none⟩ = false := hfrs 3
  have hfs_4 : w3.frozen? ⟨gb, (i : Int).toNat * 9 + 4, none⟩ = false := hfrs 4
  have hfs_5 : w3.frozen? ⟨gb, (i : Int).toNat * 9 + 5, none⟩ = false := hfrs 5
  have hfs_6 : w3.frozen? ⟨gb, (i : Int).toNat * 9 + 6, none⟩ = false := hfrs 6
  have hfs_7 : w3.frozen? ⟨gb, (i : Int).toNat * 9 + 7, none⟩ = false := hfrs 7
  have hfs_8 : w3.frozen? ⟨gb, (i : Int).toNat * 9 + 8, none⟩ = false := hfrs 8
  clear hcls hccs hfrs hMs
  simp only [Int.toNat_natCast] at hxs_0 hfs_0 hxs_1 hfs_1 hxs_2 hfs_2 hxs_3 hfs_3 hxs_4 hfs_4 hxs_5 hfs_5 hxs_6 hfs_6 hxs_7 hfs_7 hxs_8 hfs_8
  go_wp2
  go_ret2
  exact ⟨i, _, hi, HLO.out, HHI.out, .inl ⟨HQ.out, rfl, HSG.out.1⟩, B3.out.grown HSG.out.2 B3.out.size (fun k e => by injection e with e; subst e; exact HG.out)⟩
 ·have hbool : (decide (i < l0.length) && decide (ordH (Base.nth z73 l0 i) y = 0)) = false := by
   rw [Bool.and_eq_false_iff, decide_eq_false_iff_not, decide_eq_false_iff_not]
   by_cases h : i < l0.length
   ·exact .inr (fun h2 => hq ⟨h, h2⟩)
   ·exact .inl h
  rw [hbool]
  have HQ := Aside0.mk hq
  clear hq hbool
  go_wp2_with fail
  refine (insert_calls w l0 v336 i y w3.heap.size _ (Kd.R_alloc HR3.out _) (Qg B3.out _) hi (by have := HL.out; omega) (Qg B3.out _).size (blk_new w3 _) (fun e => by have := Kd.R_lt HR3.out _ e.symm; omega)).mono ?_
  rintro e w4 ⟨v4, rfl, hR4, hb4, _⟩
  have HR4 := Aside0.mk hR4
  have B4 := Aside0.mk hb4
  clear hR4 hb4
  go_wp2
  go_ret2
  exact ⟨i, _, hi, HLO.out, HHI.out, .inr ⟨HQ.out, rfl, HR4.out⟩, B4.out⟩
theorem ordH_zero (x y : S73) (h : lessH x y = false) : ordH x y = 0 ↔ lessH y x = false := by
 rw [← Bool.not_eq_true, lessH_iff] at h ⊢
 unfold ordH
 simp only [fnz_zero]
 have h0 : Base.firstNZ [] = 0 := rfl
 omega
theorem puth_j2 (l xs : List S73) (z1 : List S73) (z2 : List S42) (z3 : Int) (hl : l.length ≤ 1048576) (hx : xs.length ≤ 1048577) (j k : Nat) (b : Bool) (hj : j ≤ l.length) (hb : b = true → j < l.length) (h : spec_l06Put.j2 k l (j : Int) xs b = some (z1, z2, z3)) :
  z2 = [] ∧ (b = true ∧ z1 = xs ++ l.drop (j + 1) ∧ z3 = 0 ∨ b = false ∧ (60 ≤ l.length ∧ z1 = [] ∧ z3 = 9 ∨ l.length < 60 ∧ z1 = xs ++ l.drop j ∧ z3 = 0)) := by
 cases k with
 | zero => cases h
 | succ k =>
  rw [spec_l06Put.j2] at h
  cases b with
  | true =>
   have hc := hb rfl
   have hw : wrap64 ((j : Int) + 1) = ((j + 1 : Nat) : Int) := by unfold wrap64; omega
   rw [if_pos rfl, hw, if_pos (by omega), if_pos (by omega), Option.bind_some, if_pos (by simp; omega)] at h
   injection h with h
   injection h with h1 h
   injection h with h2 h3
   exact ⟨h2.symm, .inl ⟨rfl, h1.symm, h3.symm⟩⟩
  | false =>
   rw [if_neg (by decide)] at h
   by_cases h8 : (l.length : Int) ≥ 60
   ·rw [if_pos h8, spec_l06Ill.f, Option.bind_some] at h
    injection h with h
    injection h with h1 h
    injection h with h2 h3
    exact ⟨h2.symm, .inr ⟨rfl, .inl ⟨by omega, h1.symm, h3.symm⟩⟩⟩
   ·rw [if_neg h8, if_pos (by omega), if_pos (by omega), Option.bind_some, if_pos (by simp; omega)] at h
    injection h with h
    injection h with h1 h
    injection h with h2 h3
    exact ⟨h2.symm, .inr ⟨rfl, .inr ⟨by omega, h1.symm, h3.symm⟩⟩⟩
theorem puth_j1 (l : List S73) (y : S73) (r : List S73 × List S42 × Int) (hl : l.length ≤ 1048576) (j k : Nat) (hj : j ≤ l.length) (h : spec_l06Put.j1 k l (j : Int) y.f0 y.f1 y.f2.f0 y.f2.f1 y.f2.f2 y.f2.f3 y.f2.f4 y.f2.f5 y.f2.f6 = some r) :
  ∃ k', spec_l06Put.j2 k' l (j : Int) (l.take j ++ [y]) (decide (j < l.length) && !lessH y (Base.nth z73 l j)) = some r := by
 cases k with
 | zero => cases h
 | succ k =>
  rw [spec_l06Put.j1, Option.bind_some, if_pos (by omega), if_pos (by omega), Option.bind_some, if_pos (by simp; omega), Option.bind_some, if_pos (by simp; omega), Option.bind_some] at h
  by_cases hc : j < l.length
  ·rw [if_pos (by omega), rdH, spec_l06Less_eq, Option.bind_some] at h
   exact ⟨k, by rw [decide_eq_true hc, Bool.true_and]; exact h⟩
  ·rw [if_neg (by omega)] at h
   exact ⟨k, by rw [decide_eq_false hc, Bool.false_and]; exact h⟩
theorem puth_is (l : List S73) (y : S73) (i : Nat) (z1 : List S73) (z2 : List S42) (z3 : Int) (hl : l.length ≤ 400) (hi : i ≤ l.length) (hlo : ∀ j, j < i → ordH (Base.nth z73 l j) y < 0) (hhi : ∀ j, i ≤ j → j < l.length → 0 ≤ ordH (Base.nth z73 l j) y) :
  ∀ (d j k : Nat), j + d = i → spec_l06Put.l0 k l (j : Int) y.f0 y.f1 y.f2.f0 y.f2.f1 y.f2.f2 y.f2.f3 y.f2.f4 y.f2.f5 y.f2.f6 = some (z1, z2, z3) → z2 = [] ∧ ((i < l.length ∧ ordH (Base.nth z73 l i) y = 0) ∧ z1 = l.set i y ∧ z3 = 0 ∨ ¬ (i < l.length ∧ ordH (Base.nth z73 l i) y = 0) ∧ (60 ≤ l.length ∧ z1 = [] ∧ z3 = 9 ∨ l.length < 60 ∧ z1 = l.take i ++ y :: l.drop i ∧ z3 = 0)) := by
 intro d
 induction d with
 | zero =>
  intro j k hj h
  obtain rfl : j = i := by omega
  cases k with
  | zero => cases h
  | succ k =>
   have hj1 : spec_l06Put.j1 k l (j : Int) y.f0 y.f1 y.f2.f0 y.f2.f1 y.f2.f2 y.f2.f3 y.f2.f4 y.f2.f5 y.f2.f6 = some (z1, z2, z3) := by
    rw [spec_l06Put.l0] at h
    by_cases hc : j < l.length
    ·have hn : lessH (Base.nth z73 l j) y = false := by
      cases hq : lessH (Base.nth z73 l j) y with
      | false => rfl
      | true =>
       have := (ordH_lt _ _).2 hq
       have := hhi j (Nat.le_refl _) hc
       omega
     rw [if_pos (by omega), if_pos (by omega), rdH, spec_l06Less_eq, Option.bind_some, hn, if_neg (by decide)] at h
     exact h
    ·rw [if_neg (by omega)] at h
     exact h
   obtain ⟨k', hj2⟩ := puth_j1 l y _ (by omega) j k hi hj1
   obtain ⟨h2, h3⟩ := puth_j2 l _ z1 z2 z3 (by omega) (by simp; omega) j k' _ hi (fun h => by simp at h; exact h.1) hj2
   refine ⟨h2, ?_⟩
   by_cases hc : j < l.length
   ·have hn : lessH (Base.nth z73 l j) y = false := by
     cases hq : lessH (Base.nth z73 l j) y with
     | false => rfl
     | true =>
      have := (ordH_lt _ _).2 hq
      have := hhi j (Nat.le_refl _) hc
      omega
    have hz := ordH_zero _ _ hn
    rw [decide_eq_true hc, Bool.true_and] at h3
    rcases h3 with ⟨hb, h4, h5⟩ | ⟨hb, h3⟩
    ·refine .inl ⟨⟨hc, hz.2 (by simpa using hb)⟩, ?_, h5⟩
     rw [List.set_eq_take_append_cons_drop, if_pos hc]
     simpa using h4
    ·refine .inr ⟨fun hh => ?_, ?_⟩
     ·rw [hz.1 hh.2] at hb
      cases hb
     ·rcases h3 with h3 | ⟨h4, h5, h6⟩
      ·exact .inl h3
      ·exact .inr ⟨h4, by simpa using h5, h6⟩
   ·rw [decide_eq_false hc, Bool.false_and] at h3
    rcases h3 with ⟨hb, _⟩ | ⟨_, h3⟩
    ·cases hb
    ·refine .inr ⟨fun hh => hc hh.1, ?_⟩
     rcases h3 with h3 | ⟨h4, h5, h6⟩
     ·exact .inl h3
     ·exact .inr ⟨h4, by simpa using h5, h6⟩
 | succ d ih =>
  intro j k hj h
  cases k with
  | zero => cases h
  | succ k =>
   have hw : wrap64 ((j : Int) + 1) = ((j + 1 : Nat) : Int) := by unfold wrap64; omega
   rw [spec_l06Put.l0, if_pos (by omega), if_pos (by omega), rdH, spec_l06Less_eq, Option.bind_some, (ordH_lt _ _).1 (hlo j (by omega)), if_pos rfl, hw] at h
   exact ih (j + 1) k (by omega) h
theorem hput_cases (k : Nat) (l : List S73) (peer : Int) (key : S42) (hn : l.length ≤ 9223372036854775807) (r1 : List S73) (r2 : List S42) (r3 : Int) (h : impl_RibPut.f k l peer key.f0 key.f1 key.f2 key.f3 key.f4 key.f5 key.f6 = some (r1, r2, r3)) :
  (r3 ≠ 0 ∧ impl_ribCode.f k l peer (routeB key.f0 key.f1 key.f2 key.f3 key.f4 key.f5 key.f6) = some r3 ∧ r1 = [] ∧ r2 = []) ∨ (impl_ribCode.f k l peer (routeB key.f0 key.f1 key.f2 key.f3 key.f4 key.f5 key.f6) = some 0 ∧ ribRight l = true ∧ l.length ≤ 400 ∧ ∃ k', spec_l06Put.f k' l peer key.f0 key.f1 key.f2 key.f3 key.f4 key.f5 key.f6 = some (r1, r2, r3)) := by
 unfold impl_RibPut.f at h
 obtain ⟨u, hu, h⟩ := Option.bind_eq_some_iff.mp h
 clear hu
 unfold impl_ribCode.f
 have ill : ∀ x, (spec_l06Ill.f x).bind (fun bt => some (bt.1, bt.2.1, bt.2.2)) = some (r1, r2, r3) → r1 = [] ∧ r2 = [] ∧ r3 = x := by
  intro x h
  simp only [spec_l06Ill.f, Option.bind_some, Option.some.injEq, Prod.mk.injEq] at h
  exact ⟨h.1.symm, h.2.1.symm, h.2.2.symm⟩
 by_cases h0 : (l.length : Int) > 400
 ·rw [if_pos h0] at h ⊢
  obtain ⟨rfl, rfl, rfl⟩ := ill _ h
  exact .inl ⟨by decide, rfl, rfl, rfl⟩
 ·rw [if_neg h0] at h ⊢
  obtain ⟨g, hg, h⟩ := Option.bind_eq_some_iff.mp h
  rw [hg, Option.bind_some]
  cases k with
  | zero =>
   cases g with
   | false => rw [if_neg (by decide)] at h; cases h
   | true =>
    rw [if_pos rfl] at h
    obtain ⟨t, ht, h⟩ := Option.bind_eq_some_iff.mp h
    cases t with
    | false => rw [if_neg (by decide)] at h; cases h
    | true =>
     rw [if_pos rfl] at h
     obtain ⟨t2, ht2, h⟩ := Option.bind_eq_some_iff.mp h
     cases h
  | succ k =>
   cases g with
   | false =>
    rw [if_neg (by decide), impl_RibPut.j0, if_pos (by decide)] at h
    rw [if_neg (by decide)]
    obtain ⟨rfl, rfl, rfl⟩ := ill _ h
    exact .inl ⟨by decide, rfl, rfl, rfl⟩
   | true =>
    rw [if_pos rfl] at h ⊢
    obtain ⟨t, ht, h⟩ := Option.bind_eq_some_iff.mp h
    rw [ht, Option.bind_some]
    cases t with
    | false =>
     rw [if_neg (by decide), impl_RibPut.j0, if_pos (by decide)] at h
     rw [if_neg (by decide)]
     obtain ⟨rfl, rfl, rfl⟩ := ill _ h
     exact .inl ⟨by decide, rfl, rfl, rfl⟩
    | true =>
     rw [if_pos rfl] at h ⊢
     rw [impl_RouteRight_eq _ _ _ _ _ _ _ (k + 1) (by omega), Option.bind_some] at h
     cases hrb : routeB key.f0 key.f1 key.f2 key.f3 key.f4 key.f5 key.f6 with
     | false =>
      rw [hrb, impl_RibPut.j0, if_pos (by decide)] at h
      rw [if_neg (by decide)]
      obtain ⟨rfl, rfl, rfl⟩ := ill _ h
      exact .inl ⟨by decide, rfl, rfl, rfl⟩
     | true =>
      rw [hrb, impl_RibPut.j0, if_neg (by decide)] at h
      rw [if_pos rfl]
      obtain ⟨z, hz, h⟩ := Option.bind_eq_some_iff.mp h
      obtain ⟨z1, z2, z3⟩ := z
      have hs := (righth_is l hn _ _ hg).symm
      exact .inr ⟨rfl, hs, by omega, k, by rw [hz]; exact h⟩
set_option maxHeartbeats 8000000 in
set_option maxRecDepth 100000 in
theorem impl_RibPut.calls (k : Nat) (A0 : Option Addr) (c0 : Nat) (l0 : List (S73)) (a1 : Int) (a2_0 : Int) (a2_1 : Int) (a2_2 : Int) (a2_3 : Int) (a2_4 : Int) (a2_5 : Int) (a2_6 : Bool) (r1 : List (S73)) (r2 : List (S42)) (r3 : Int) (w : World) (hr0 : Kd.C k73 w A0 l0.length l0) (hc0 : l0.length ≤ c0) (h : impl_RibPut.f k l0 a1 a2_0 a2_1 a2_2 a2_3 a2_4 a2_5 a2_6 = some (r1, r2, r3)) :
  Calls Try.prog 33 #[.slice A0 l0.length c0, .int .i64 a1, .agg #[.int .i64 a2_0, .int .i64 a2_1, .int .i64 a2_2, .int .i64 a2_3, .int .i64 a2_4, .int .i64 a2_5, .bool a2_6]] w fun e w' => ∃ v0_ v1_ : Value, e = .returned (.agg #[v0_, v1_, .int .i64 r3]) ∧ Kd.R k73 73 w' w.heap.size (fun _ => True) v0_ r1 ∧ Kd.R k42 42 w' w.heap.size (fun _ => True) v1_ r2 ∧ Below w.heap.size w w' := by
 have hcase := hput_cases k l0 a1 ⟨a2_0, a2_1, a2_2, a2_3, a2_4, a2_5, a2_6⟩ hr0.2.1 r1 r2 r3 h
 simp only [] at hcase
 have HRR := Aside0.mk (impl_RouteRight_eq a2_0 a2_1 a2_2 a2_3 a2_4 a2_5 a2_6 1 (Nat.le_refl _))
 have HR := Aside0.mk hr0
 have HC := Aside0.mk hc0
 have bk1 := blk_new w (.cells #[.int .i64 a2_0, .int .i64 a2_1, .int .i64 a2_2, .int .i64 a2_3, .int .i64 a2_4, .int .i64 a2_5, .bool a2_6] 42)
 have bk2 := blk_new (w.alloc (.cells #[.int .i64 a2_0, .int .i64 a2_1, .int .i64 a2_2, .int .i64 a2_3, .int .i64 a2_4, .int .i64 a2_5, .bool a2_6] 42)) (.cells #[.slice none 0 0, .slice none 0 0, .int .i64 0] 34)
 rw [World.size_alloc] at bk2
 have BL := Aside0.mk (Qh bk1 (.cells #[.slice none 0 0, .slice none 0 0, .int .i64 0] 34))
 have BK := Aside0.mk bk2
 have B1 := Aside0.mk (((Below.refl _ w).alloc (Nat.le_refl _) (.cells #[.int .i64 a2_0, .int .i64 a2_1, .int .i64 a2_2, .int .i64 a2_3, .int .i64 a2_4, .int .i64 a2_5, .bool a2_6] 42)).alloc (by simp) (.cells #[.slice none 0 0, .slice none 0 0, .int .i64 0] 34))
 clear h hr0 hc0 bk1 bk2
 rcases hcase with ⟨hne, hcode, rfl, rfl⟩ | ⟨hcode, hs, hl, k', hz⟩
 ·have HCo := Aside0.mk hcode
  have hne1 : (r3 != 0) = true := by simpa using hne
  clear hcode hne
  go_enter Try.func33, Try.ntmps33
  go_wp2_with fail
  refine (impl_RouteRight.calls 1 a2_0 a2_1 a2_2 a2_3 a2_4 a2_5 a2_6 _ _ HRR.out).mono ?_
  rintro e w2 ⟨rfl, hb⟩
  have B2 := Aside0.mk (Qn B1.out hb)
  have BK2 := Aside0.mk (Qm BK.out hb)
  clear hb
  go_wp2_with fail
  refine (impl_ribCode.calls k _ _ l0 a1 _ _ _ (Kd.C_below HR.out B2.out) HC.out HCo.out).mono ?_
  rintro e w3 ⟨rfl, hb⟩
  have B3 := Aside0.mk (Qn B2.out hb)
  have BK3 := Aside0.mk (Qm BK2.out hb)
  clear hb
  have f0 := Qd BK3.out 0
  have f1 := Qd BK3.out 1
  have f2 := Qd BK3.out 2
  have k0 := (Qa BK3.out 0).trans rfl
  have k1 := (Qa BK3.out 1).trans rfl
  have k2 := (Qa BK3.out 2).trans rfl
  have HF := Aside0.mk (blk_set (blk_set (blk_set BK3.out 0 (.slice none 0 0)) 1 (.slice none 0 0)) 2 (.int .i64 r3))
  go_wp2
  refine bodyPost_ret (v := .agg #[.slice none 0 0, .slice none 0 0, .int .i64 r3]) ?_ rfl ⟨_, _, rfl, Kd.R_nil _ _ _ _ _, Kd.R_nil _ _ _ _ _, ?_⟩
  ·refine results_cell_row (fn := Try.f33) (p := 6) (ty := 34) ?_ _ _ (w.heap.size + 1) 34 #[.slice none 0 0, .slice none 0 0, .int .i64 r3] (0, 0) _ ?_ HF.out Try.underlying34 ?_ ?_
   all_goals first | rfl | kernel_rfl
  ·exact (((B3.out.setCell (by simp) _).setCell (by simp) _).setCell (by simp) _)
 ·have HCo := Aside0.mk hcode
  have HS := Aside0.mk hs
  have HL := Aside0.mk hl
  have HZ0 := Aside0.mk hz
  clear hcode hs hl hz
  go_enter Try.func33, Try.ntmps33
  go_wp2_with fail
  refine (impl_RouteRight.calls 1 a2_0 a2_1 a2_2 a2_3 a2_4 a2_5 a2_6 _ _ HRR.out).mono ?_
  rintro e w2 ⟨rfl, hb⟩
  have B2 := Aside0.mk (Qn B1.out hb)
  have BK2 := Aside0.mk (Qm BK.out hb)
  have BL2 := Aside0.mk (Qm BL.out hb)
  clear hb
  go_wp2_with fail
  refine (impl_ribCode.calls k _ _ l0 a1 _ _ _ (Kd.C_below HR.out B2.out) HC.out HCo.out).mono ?_
  rintro e w3 ⟨rfl, hb⟩
  have B3 := Aside0.mk (Qn B2.out hb)
  have BK3 := Aside0.mk (Qm BK2.out hb)
  have bl := Qm BL2.out hb
  clear hb
  have q0 := (Qa bl 0).trans rfl
  have q1 := (Qa bl 1).trans rfl
  have q2 := (Qa bl 2).trans rfl
  have q3 := (Qa bl 3).trans rfl
  have q4 := (Qa bl 4).trans rfl
  have q5 := (Qa bl 5).trans rfl
  have q6 := (Qa bl 6).trans rfl
  clear bl
  go_wp2_with fail
  refine (ribPut_calls _ _ l0 a1 a2_0 a2_1 a2_2 a2_3 a2_4 a2_5 a2_6 _ rfl _ HL.out (Kd.C_below HR.out B3.out) HC.out HS.out).mono ?_
  rintro e w4 ⟨i, v4, hi, hlo, hhi, hcs, hb⟩
  obtain ⟨rfl, hput⟩ := puth_is l0 ⟨a1, false, ⟨a2_0, a2_1, a2_2, a2_3, a2_4, a2_5, a2_6⟩⟩ i r1 r2 r3 HL.out hi hlo hhi i 0 k' (by omega) HZ0.out
  have HP := Aside0.mk hput
  have B4 := Aside0.mk (Qn B3.out hb)
  have BK4 := Aside0.mk (Qm BK3.out hb)
  clear hb hlo hhi hi q0 q1 q2 q3 q4 q5 q6 hput
  rcases hcs with ⟨hq, rfl, hR4⟩ | ⟨hq, rfl, hR4⟩
  ·have HR4 := Aside0.mk (Kd.R_lower hR4 B3.out.size)
   clear hR4
   obtain ⟨A6, c6, e6⟩ := Kd.R_slice HR4.out
   subst e6
   obtain ⟨hr1, rfl⟩ : r1 = l0.set i ⟨a1, false, ⟨a2_0, a2_1, a2_2, a2_3, a2_4, a2_5, a2_6⟩⟩ ∧ r3 = 0 := by
    rcases HP.out with ⟨_, h1, h2⟩ | ⟨h1, _⟩
    ·exact ⟨h1, h2⟩
    ·exact absurd hq h1
   rw [← hr1] at HR4 ⊢
   clear hr1 hq
   have f0 := Qd BK4.out 0
   have f1 := Qd BK4.out 1
   have f2 := Qd BK4.out 2
   have k0 := (Qa BK4.out 0).trans rfl
   have k1 := (Qa BK4.out 1).trans rfl
   have k2 := (Qa BK4.out 2).trans rfl
   have HF := Aside0.mk (blk_set (blk_set (blk_set BK4.out 0 (.slice A6 r1.length c6)) 1 (.slice none 0 0)) 2 (.int .i64 0))
   have HX := Aside0.mk (Kd.R_set (Kd.R_set (Kd.R_set HR4.out BK4.out (by decide) 0 (.slice A6 r1.length c6)) (blk_set BK4.out 0 _) (by decide) 1 (.slice none 0 0)) (blk_set (blk_set BK4.out 0 _) 1 _) (by decide) 2 (.int .i64 0))
   go_wp2
   refine bodyPost_ret (v := .agg #[.slice A6 r1.length c6, .slice none 0 0, .int .i64 0]) ?_ rfl ⟨_, _, rfl, Kd.R_mono HX.out (fun k _ => by simp [Value.ownBlock]), Kd.R_nil _ _ _ _ _, ?_⟩
   ·refine results_cell_row (fn := Try.f33) (p := 6) (ty := 34) ?_ _ _ (w.heap.size + 1) 34 #[.slice A6 r1.length c6, .slice none 0 0, .int .i64 0] (0, 0) _ ?_ HF.out Try.underlying34 ?_ ?_
    all_goals first | rfl | kernel_rfl
   ·exact (((B4.out.setCell (by simp) _).setCell (by simp) _).setCell (by simp) _)
  ·have hp2 : 60 ≤ l0.length ∧ r1 = [] ∧ r3 = 9 ∨ l0.length < 60 ∧ r1 = l0.take i ++ ⟨a1, false, ⟨a2_0, a2_1, a2_2, a2_3, a2_4, a2_5, a2_6⟩⟩ :: l0.drop i ∧ r3 = 0 := by
    rcases HP.out with ⟨h1, _⟩ | ⟨_, h1⟩
    ·exact absurd h1 hq
    ·exact h1
   clear hq
   have HR4 := Aside0.mk (Kd.R_lower hR4 B3.out.size)
   clear hR4
   obtain ⟨A6, c6, e6⟩ := Kd.R_slice HR4.out
   subst e6
   rcases hp2 with ⟨h8, rfl, rfl⟩ | ⟨h8, hr1, rfl⟩
   ·have hd : decide ((l0.length : Int) < 60) = false := decide_eq_false (by omega)
    rw [hd]
    clear hd h8
    have f0 := Qd BK4.out 0
    have f1 := Qd BK4.out 1
    have f2 := Qd BK4.out 2
    have k0 := (Qa BK4.out 0).trans rfl
    have k1 := (Qa BK4.out 1).trans rfl
    have k2 := (Qa BK4.out 2).trans rfl
    have HF := Aside0.mk (blk_set (blk_set (blk_set BK4.out 0 (.slice none 0 0)) 1 (.slice none 0 0)) 2 (.int .i64 9))
    go_wp2
    refine bodyPost_ret (v := .agg #[.slice none 0 0, .slice none 0 0, .int .i64 9]) ?_ rfl ⟨_, _, rfl, Kd.R_nil _ _ _ _ _, Kd.R_nil _ _ _ _ _, ?_⟩
    ·refine results_cell_row (fn := Try.f33) (p := 6) (ty := 34) ?_ _ _ (w.heap.size + 1) 34 #[.slice none 0 0, .slice none 0 0, .int .i64 9] (0, 0) _ ?_ HF.out Try.underlying34 ?_ ?_
     all_goals first | rfl | kernel_rfl
    ·exact (((B4.out.setCell (by simp) _).setCell (by simp) _).setCell (by simp) _)
   ·have hd : decide ((l0.length : Int) < 60) = true := decide_eq_true (by omega)
    rw [hd]
    rw [← hr1] at HR4 ⊢
    clear hd h8 hr1
    have f0 := Qd BK4.out 0
    have f1 := Qd BK4.out 1
    have f2 := Qd BK4.out 2
    have k0 := (Qa BK4.out 0).trans rfl
    have k1 := (Qa BK4.out 1).trans rfl
    have k2 := (Qa BK4.out 2).trans rfl
    have HF := Aside0.mk (blk_set (blk_set (blk_set BK4.out 0 (.slice A6 r1.length c6)) 1 (.slice none 0 0)) 2 (.int .i64 0))
    have HX := Aside0.mk (Kd.R_set (Kd.R_set (Kd.R_set HR4.out BK4.out (by decide) 0 (.slice A6 r1.length c6)) (blk_set BK4.out 0 _) (by decide) 1 (.slice none 0 0)) (blk_set (blk_set BK4.out 0 _) 1 _) (by decide) 2 (.int .i64 0))
    go_wp2
    refine bodyPost_ret (v := .agg #[.slice A6 r1.length c6, .slice none 0 0, .int .i64 0]) ?_ rfl ⟨_, _, rfl, Kd.R_mono HX.out (fun k _ => by simp [Value.ownBlock]), Kd.R_nil _ _ _ _ _, ?_⟩
    ·refine results_cell_row (fn := Try.f33) (p := 6) (ty := 34) ?_ _ _ (w.heap.size + 1) 34 #[.slice A6 r1.length c6, .slice none 0 0, .int .i64 0] (0, 0) _ ?_ HF.out Try.underlying34 ?_ ?_
     all_goals first | rfl | kernel_rfl
    ·exact (((B4.out.setCell (by simp) _).setCell (by simp) _).setCell (by simp) _)
end Go.Proofs.Ytmgmaflfednngaa.PFnExactRibPut
