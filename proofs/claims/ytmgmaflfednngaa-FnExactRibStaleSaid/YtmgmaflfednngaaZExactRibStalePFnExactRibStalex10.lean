-- A copy, by trim.py of this session's wip/gen, of a text of this claim, without what the row does not reach and without comments: not an official print.
import Derived.Test.YtmgmaflfednngaaZExactRibStalePFnExactRibStalex0
import Derived.Test.YtmgmaflfednngaaZExactRibStalePFnExactRibStalex2
import Derived.Test.YtmgmaflfednngaaZExactRibStalePFnExactRibStalex7
import Derived.Test.YtmgmaflfednngaaZExactRibStalePFnExactRibStalex9
import Derived.Lib.SliceRun
namespace Go.Proofs.Ytmgmaflfednngaa.PFnExactRibStale
open Go.RowKit Go.Proofs.YtmgmaflfednngaaW.PrintWords Go.Proofs.YtmgmaflfednngaaW.PrintLast Go.Proofs.YtmgmaflfednngaaW.PrintMore
attribute [local go_sem] max2_int min2_int max_two min_two max_three min_three max_four min_four   -- for this text's walks alone
set_option linter.unusedVariables false
set_option linter.unusedSimpArgs false
def impl_ribCode.f (k : Nat) (l0 : List (S73)) (a1 : Int) (a2 : Bool) : Option (Int) := if (l0.length : Int) > 400 then (some 2) else ((impl_RibRight.f k l0).bind fun t236 => (if t236 = true then ((impl_isPeer.f a1).bind fun t237 => (if t237 = true then (if a2 = true then (some 0) else (some 1)) else (some 1))) else (some 1)))
theorem impl_ribCode.mono : ∀ a0 a1 a2 k, LeO (impl_ribCode.f k a0 a1 a2) (impl_ribCode.f (k + 1) a0 a1 a2) := by
 intro a0 a1 a2 k
 unfold impl_ribCode.f
 repeat' first
   | (with_reducible exact impl_RibRight.mono _ _)
   | (with_reducible exact LeO.refl _)
   | (with_reducible exact LeO.none _)
   | (with_reducible refine LeO.ite ?_ ?_)
   | (with_reducible refine LeO.bind ?_ (fun _ => ?_))
   | exact impl_RibRight.mono _ _
   | exact LeO.none _
   | refine LeO.ite ?_ ?_
   | refine LeO.bind ?_ (fun _ => ?_)
set_option maxHeartbeats 8000000 in
set_option maxRecDepth 100000 in
theorem impl_ribCode.calls (k : Nat) (A0 : Option Addr) (c0 : Nat) (l0 : List (S73)) (a1 : Int) (a2 : Bool) (r : Int) (w : World) (hr0 : Kd.C k73 w A0 l0.length l0) (hc0 : l0.length ≤ c0) (h : impl_ribCode.f k l0 a1 a2 = some r) :
  Calls Try.prog 64 #[.slice A0 l0.length c0, .int .i64 a1, .bool a2] w fun e w' => e = .returned (.int .i64 r) ∧ Below w.heap.size w w' := by
 have HR0 := Aside0.mk hr0
 have HC0 := Aside0.mk hc0
 clear hr0 hc0
 have HB := Aside0.mk (Below.refl w.heap.size w)
 have H : (if (l0.length : Int) > 400 then (some 2) else ((impl_RibRight.f k l0).bind fun t236 => (if t236 = true then ((impl_isPeer.f a1).bind fun t237 => (if t237 = true then (if a2 = true then (some 0) else (some 1)) else (some 1))) else (some 1)))) = some r := h
 clear h
 by_cases c4 : (l0.length : Int) > 400
 ·rw [if_pos c4] at H
  have c4b0 : decide (400 < (l0.length : Int)) = true := decide_eq_true c4
  have c4b1 : decide (400 < l0.length) = true := decide_eq_true (by omega)
  clear c4
  obtain rfl := Option.some.inj H
  go_enter Try.func64, Try.ntmps64
  go_wp2
  go_ret
  exact ⟨by first | rfl | (simp [errW_none, errW_some] <;> rfl) | (simp [*, errW_none, errW_some] <;> rfl), by repeat (first | (with_reducible first | exact HB.out | apply below_alloc | apply pw_below_drewN | apply below_drew1) | exact HB.out)⟩
 ·rw [if_neg c4] at H
  have c4b0 : decide (400 < (l0.length : Int)) = false := decide_eq_false c4
  have c4b1 : decide (400 < l0.length) = false := decide_eq_false (by omega)
  clear c4
  replace H := Option.bind_eq_some_iff.mp H
  obtain ⟨t236, A50, H⟩ := H
  replace H : (if t236 = true then ((impl_isPeer.f a1).bind fun t237 => (if t237 = true then (if a2 = true then (some 0) else (some 1)) else (some 1))) else (some 1)) = some r := H
  have A5 := Aside0.mk A50
  clear A50
  by_cases c6 : t236 = true
  ·subst c6
   have H1 : ((impl_isPeer.f a1).bind fun t237 => (if t237 = true then (if a2 = true then (some 0) else (some 1)) else (some 1))) = some r := by rw [if_pos rfl] at H; exact H
   clear H
   have H := H1
   clear H1
   replace H := Option.bind_eq_some_iff.mp H
   obtain ⟨t237, A70, H⟩ := H
   replace H : (if t237 = true then (if a2 = true then (some 0) else (some 1)) else (some 1)) = some r := H
   have A7 := Aside0.mk A70
   clear A70
   by_cases c8 : t237 = true
   ·subst c8
    have H1 : (if a2 = true then (some 0) else (some 1)) = some r := by rw [if_pos rfl] at H; exact H
    clear H
    have H := H1
    clear H1
    by_cases c9 : a2 = true
    ·subst c9
     have H1 : (some 0) = some r := by rw [if_pos rfl] at H; exact H
     clear H
     have H := H1
     clear H1
     obtain rfl := Option.some.inj H
     go_enter Try.func64, Try.ntmps64
     go_wp2_with (first | ((with_reducible refine gate_callee (f := 57) rfl ?_); refine goesL_ (some 13) rfl rfl Try.func57 (by kernel_rfl) rfl #[.slice A0 l0.length c0] rfl (by (try simp only [List.map_toArray, List.map_cons, List.map_nil]); first | done | rfl | (simp only [List.length_drop, List.length_take]; rfl)) ?_; (with_reducible refine (impl_RibRight.calls k _ _ l0 true _ ?side1 ?side2 A5.out).mono ?_); (case side1 => repeat (first | exact HR0.out | (with_reducible refine Kd.C_alloc ?_ _) | (with_reducible refine Kd.C_drewN ?_ _) | (with_reducible refine Kd.C_drew ?_))); (case side2 => exact HC0.out); rintro e w10 ⟨rfl, hb⟩; refine ⟨_, rfl, ?_⟩; have n0_ := Aside0.mk (below_step (by repeat (first | (with_reducible first | exact HB.out | apply below_alloc | apply pw_below_drewN | apply below_drew1) | exact HB.out)) hb); clear HB; have HB := n0_; clear n0_; (try clear hb); (try clear hb2); (try clear hk); (try clear hi)) | (go_at_call 102; (with_reducible refine (impl_isPeer.calls a1 true _ A7.out).mono ?_); rintro e w' ⟨rfl, ⟨nd, rfl⟩⟩))
     go_ret
     exact ⟨by first | rfl | (simp [errW_none, errW_some] <;> rfl) | (simp [*, errW_none, errW_some] <;> rfl), by repeat (first | (with_reducible first | exact HB.out | apply below_alloc | apply pw_below_drewN | apply below_drew1) | exact HB.out)⟩
    ·replace c9 := Bool.eq_false_iff.mpr c9
     subst c9
     have H1 : (some 1) = some r := by rw [if_neg (show ¬ (false = true) by decide)] at H; exact H
     clear H
     have H := H1
     clear H1
     obtain rfl := Option.some.inj H
     go_enter Try.func64, Try.ntmps64
     go_wp2_with (first | ((with_reducible refine gate_callee (f := 57) rfl ?_); refine goesL_ (some 13) rfl rfl Try.func57 (by kernel_rfl) rfl #[.slice A0 l0.length c0] rfl (by (try simp only [List.map_toArray, List.map_cons, List.map_nil]); first | done | rfl | (simp only [List.length_drop, List.length_take]; rfl)) ?_; (with_reducible refine (impl_RibRight.calls k _ _ l0 true _ ?side1 ?side2 A5.out).mono ?_); (case side1 => repeat (first | exact HR0.out | (with_reducible refine Kd.C_alloc ?_ _) | (with_reducible refine Kd.C_drewN ?_ _) | (with_reducible refine Kd.C_drew ?_))); (case side2 => exact HC0.out); rintro e w11 ⟨rfl, hb⟩; refine ⟨_, rfl, ?_⟩; have n0_ := Aside0.mk (below_step (by repeat (first | (with_reducible first | exact HB.out | apply below_alloc | apply pw_below_drewN | apply below_drew1) | exact HB.out)) hb); clear HB; have HB := n0_; clear n0_; (try clear hb); (try clear hb2); (try clear hk); (try clear hi)) | (go_at_call 102; (with_reducible refine (impl_isPeer.calls a1 true _ A7.out).mono ?_); rintro e w' ⟨rfl, ⟨nd, rfl⟩⟩))
     go_ret
     exact ⟨by first | rfl | (simp [errW_none, errW_some] <;> rfl) | (simp [*, errW_none, errW_some] <;> rfl), by repeat (first | (with_reducible first | exact HB.out | apply below_alloc | apply pw_below_drewN | apply below_drew1) | exact HB.out)⟩
   ·replace c8 := Bool.eq_false_iff.mpr c8
    subst c8
    have H1 : (some 1) = some r := by rw [if_neg (show ¬ (false = true) by decide)] at H; exact H
    clear H
    have H := H1
    clear H1
    obtain rfl := Option.some.inj H
    go_enter Try.func64, Try.ntmps64
    go_wp2_with (first | ((with_reducible refine gate_callee (f := 57) rfl ?_); refine goesL_ (some 13) rfl rfl Try.func57 (by kernel_rfl) rfl #[.slice A0 l0.length c0] rfl (by (try simp only [List.map_toArray, List.map_cons, List.map_nil]); first | done | rfl | (simp only [List.length_drop, List.length_take]; rfl)) ?_; (with_reducible refine (impl_RibRight.calls k _ _ l0 true _ ?side1 ?side2 A5.out).mono ?_); (case side1 => repeat (first | exact HR0.out | (with_reducible refine Kd.C_alloc ?_ _) | (with_reducible refine Kd.C_drewN ?_ _) | (with_reducible refine Kd.C_drew ?_))); (case side2 => exact HC0.out); rintro e w12 ⟨rfl, hb⟩; refine ⟨_, rfl, ?_⟩; have n0_ := Aside0.mk (below_step (by repeat (first | (with_reducible first | exact HB.out | apply below_alloc | apply pw_below_drewN | apply below_drew1) | exact HB.out)) hb); clear HB; have HB := n0_; clear n0_; (try clear hb); (try clear hb2); (try clear hk); (try clear hi)) | (go_at_call 102; (with_reducible refine (impl_isPeer.calls a1 false _ A7.out).mono ?_); rintro e w' ⟨rfl, ⟨nd, rfl⟩⟩))
    go_ret
    exact ⟨by first | rfl | (simp [errW_none, errW_some] <;> rfl) | (simp [*, errW_none, errW_some] <;> rfl), by repeat (first | (with_reducible first | exact HB.out | apply below_alloc | apply pw_below_drewN | apply below_drew1) | exact HB.out)⟩
  ·replace c6 := Bool.eq_false_iff.mpr c6
   subst c6
   have H1 : (some 1) = some r := by rw [if_neg (show ¬ (false = true) by decide)] at H; exact H
   clear H
   have H := H1
   clear H1
   obtain rfl := Option.some.inj H
   go_enter Try.func64, Try.ntmps64
   go_wp2_with (first | ((with_reducible refine gate_callee (f := 57) rfl ?_); refine goesL_ (some 13) rfl rfl Try.func57 (by kernel_rfl) rfl #[.slice A0 l0.length c0] rfl (by (try simp only [List.map_toArray, List.map_cons, List.map_nil]); first | done | rfl | (simp only [List.length_drop, List.length_take]; rfl)) ?_; (with_reducible refine (impl_RibRight.calls k _ _ l0 false _ ?side1 ?side2 A5.out).mono ?_); (case side1 => repeat (first | exact HR0.out | (with_reducible refine Kd.C_alloc ?_ _) | (with_reducible refine Kd.C_drewN ?_ _) | (with_reducible refine Kd.C_drew ?_))); (case side2 => exact HC0.out); rintro e w13 ⟨rfl, hb⟩; refine ⟨_, rfl, ?_⟩; have n0_ := Aside0.mk (below_step (by repeat (first | (with_reducible first | exact HB.out | apply below_alloc | apply pw_below_drewN | apply below_drew1) | exact HB.out)) hb); clear HB; have HB := n0_; clear n0_; (try clear hb); (try clear hb2); (try clear hk); (try clear hi)))
   go_ret
   exact ⟨by first | rfl | (simp [errW_none, errW_some] <;> rfl) | (simp [*, errW_none, errW_some] <;> rfl), by repeat (first | (with_reducible first | exact HB.out | apply below_alloc | apply pw_below_drewN | apply below_drew1) | exact HB.out)⟩
def impl_Held.f (l0 : List (S73)) : Option ((List (S73))) := (some (([] : List (S73)) : List (S73))).bind fun y238 => (if y238.length + l0.length < 1954687338268 then (some (y238 ++ l0)) else (none))
set_option maxHeartbeats 8000000 in
set_option maxRecDepth 100000 in
theorem impl_Held.calls (A0 : Option Addr) (c0 : Nat) (l0 : List (S73)) (r : List (S73)) (w : World) (hr0 : Kd.C k73 w A0 l0.length l0) (hc0 : l0.length ≤ c0) (h : impl_Held.f l0 = some r) :
  Calls Try.prog 104 #[.slice A0 l0.length c0] w fun e w' => ∃ v0_ : Value, e = .returned (v0_) ∧ Kd.R k73 73 w' w.heap.size (fun _ => True) v0_ r ∧ Below w.heap.size w w' := by
 have HR0 := Aside0.mk hr0
 have HC0 := Aside0.mk hc0
 clear hr0 hc0
 have HB := Aside0.mk (Below.refl w.heap.size w)
 have H : ((some (([] : List (S73)) : List (S73))).bind fun y238 => (if y238.length + l0.length < 1954687338268 then (some (y238 ++ l0)) else (none))) = some r := h
 clear h
 obtain ⟨y238, hy238⟩ : ∃ y_ : List (S73), y_ = (([] : List (S73))) := ⟨_, rfl⟩
 replace H : (if y238.length + l0.length < 1954687338268 then (some (y238 ++ l0)) else (none)) = some r := by first | (rw [hy238]; with_reducible exact H) | (have H2_ := (Option.bind_some _ _).symm.trans H; rw [hy238]; with_reducible exact H2_) | (have H2_ := (Option.bind_some _ _).symm.trans H; with_reducible exact H2_) | with_reducible exact H | (rw [hy238]; exact H) | exact H
 have Ny238 := Aside0.mk hy238
 clear hy238
 by_cases c2 : y238.length + l0.length < 1954687338268
 ·rw [if_pos c2] at H
  have LMc2 := Aside0.mk c2
  clear c2
  obtain ⟨y241, hy241⟩ : ∃ y_ : List (S73), y_ = (y238 ++ l0) := ⟨_, rfl⟩
  replace H : (some y241) = some r := by first | (rw [hy241]; with_reducible exact H) | (have H2_ := (Option.bind_some _ _).symm.trans H; rw [hy241]; with_reducible exact H2_) | (have H2_ := (Option.bind_some _ _).symm.trans H; with_reducible exact H2_) | with_reducible exact H | (rw [hy241]; exact H) | exact H
  have Ny241 := Aside0.mk hy241
  clear hy241
  obtain rfl := Option.some.inj H
  rcases A0 with _ | a0_
  ·have hl_ : l0 = [] := by
    rcases l0 with _ | ⟨x_, l0_⟩
    ·rfl
    ·obtain ⟨ad_, e_, _⟩ := HR0.out.2.2 (by simp)
     cases e_
   have hy_ : y241 = [] := by rw [Ny241.out, Ny238.out, hl_]; rfl
   have hq_ : ∀ (W : World) (n c : Nat), (binOp .eql 26 (.slice none n c) (.slice none 0 0)).run Try.prog W = .ok (.bool true) W := fun W n c => Lib.run_eql_slice_nil W 26 73 none n c 0 0 Try.underlying26
   go_enter Try.func104, Try.ntmps104
   go_wp2
   go_ret
   exact ⟨_, rfl, by first | exact Kd.R_nil k73 73 _ _ _ | (rw [hy_]; exact Kd.R_nil _ _ _ _ _), by repeat (first | (with_reducible first | exact HB.out | apply below_alloc | apply pw_below_drewN | apply below_drew1) | exact HB.out)⟩
  ·have hq_ : ∀ (W : World) (n c : Nat), (binOp .eql 26 (.slice (some a0_) n c) (.slice none 0 0)).run Try.prog W = .ok (.bool false) W := fun W n c => Lib.run_eql_slice_nil W 26 73 (some a0_) n c 0 0 Try.underlying26
   go_enter Try.func104, Try.ntmps104
   go_wp2_with (first | ((with_reducible refine gate_dst (N := 5) rfl ?_); refine Kd.R_lit k73 _ 73 ?hg (N := 5) ?hd (xs := ([] : List (S73))) (inner := []) (ok := fun _ => True) (okp := fun _ => True) ?hr ?hp (fun _ hk => hk) trivial (Below.refl _ _) (Nat.le_refl _) (by simp) ?_; (case hd => rfl); (case hg => rfl); (case hr => first | (go_simp; done) | (go_simp; rfl)); (case hp => exact (Reps.none _ _)); intro v239 w3 ho4 hb hg_ hnew_; clear hg_ hnew_; (first | rw [← Ny238.out] at ho4 | (simp only [Int.reduceToNat] at ho4; rw [← Ny238.out] at ho4)); have n0_ := Aside0.mk (Kd.R_lower ho4 (below_size (by repeat (first | (with_reducible first | exact HB.out | apply below_alloc | apply pw_below_drewN | apply below_drew1) | exact HB.out)))); have n1_ := Aside0.mk (below_step (by repeat (first | (with_reducible first | exact HB.out | apply below_alloc | apply pw_below_drewN | apply below_drew1) | exact HB.out)) hb); clear HB; have HO240 := n0_; have HB := n1_; clear n0_ n1_; clear hb ho4) | ((with_reducible refine gate_builtin (b := .append) (xs := #[.tmp 5, .tmp 6]) rfl ?_); at_builtin; refine Kd.R_append_rows k73 (w0 := w) w.heap.size rfl (.tmp 5) (.tmp 6) 26 73 (.agg #[(.int .i64 0), (.bool false), (.int .i64 0), (.int .i64 0), (.int .i64 0), (.int .i64 0), (.int .i64 0), (.int .i64 0), (.bool false)]) 72 rfl Try.underlying26 info73 rfl (by decide) (by omega) v239 y238 l0 _ _ _ (fun _ => True) (fun _ => False) rfl rfl ?aO ?aR (fun _ _ h => h) (fun _ h => h.elim) ?aF ?aB ?aS ?aL ?_; (case aR => repeat (first | exact (Kd.C_below HR0.out HB.out) | (with_reducible refine Kd.C_alloc ?_ _) | (with_reducible refine Kd.C_drewN ?_ _) | (with_reducible refine Kd.C_drew ?_))); (case aB => exact (by repeat (first | (with_reducible first | exact HB.out | apply below_alloc | apply pw_below_drewN | apply below_drew1) | exact HB.out))); (case aF => exact (fun _ _ => trivial)); (case aO => exact (by (with_reducible repeat (first | apply Kd.R_alloc | apply Kd.R_drewN | apply Kd.R_drew)); exact HO240.out)); (case aS => exact (below_size (by repeat (first | (with_reducible first | exact HB.out | apply below_alloc | apply pw_below_drewN | apply below_drew1) | exact HB.out)))); (case aL => have := LMc2.out; omega); intro v242 w5 ho hb hg hat; rw [← Ny241.out] at ho; have n0_ := Aside0.mk (hb); have n1_ := Aside0.mk (ho); clear HB; clear HO240; have HB := n0_; have HO243 := n1_; clear n0_ n1_; clear ho hb hg hat))
   go_ret
   exact ⟨_, by first | rfl | (simp [errW_none, errW_some] <;> rfl) | (simp [*, errW_none, errW_some] <;> rfl), by (with_reducible repeat (first | apply Kd.R_alloc | apply Kd.R_drewN | apply Kd.R_drew)); exact HO243.out, by repeat (first | (with_reducible first | exact HB.out | apply below_alloc | apply pw_below_drewN | apply below_drew1) | exact HB.out)⟩
 ·rw [if_neg c2] at H
  exact absurd H (by simp)
def impl_ribStale.l0 : Nat → Int → List (S73) → Int → Int → Option ((List (S73)))
 | 0, _, _, _, _ => none
 | k + 1, x1, x5, x10, x11 => if x11 < x10 then (if 0 ≤ x11 then (if x11 < (x5.length : Int) then (if (rd_T73 x5 x11).f1 = true then (impl_ribStale.l0 k x1 (x5.set (x11 : Int).toNat (⟨(rd_T73 x5 x11).f0, true, (⟨(rd_T73 x5 x11).f2.f0, (rd_T73 x5 x11).f2.f1, (rd_T73 x5 x11).f2.f2, (rd_T73 x5 x11).f2.f3, (rd_T73 x5 x11).f2.f4, (rd_T73 x5 x11).f2.f5, (rd_T73 x5 x11).f2.f6⟩ : S42)⟩ : S73)) x10 (wrap64 (x11 + 1))) else (impl_ribStale.l0 k x1 (x5.set (x11 : Int).toNat (⟨(rd_T73 x5 x11).f0, (((rd_T73 x5 x11).f0) == x1), (⟨(rd_T73 x5 x11).f2.f0, (rd_T73 x5 x11).f2.f1, (rd_T73 x5 x11).f2.f2, (rd_T73 x5 x11).f2.f3, (rd_T73 x5 x11).f2.f4, (rd_T73 x5 x11).f2.f5, (rd_T73 x5 x11).f2.f6⟩ : S42)⟩ : S73)) x10 (wrap64 (x11 + 1)))) else (none)) else (none)) else (some x5)
def impl_ribStale.f (k : Nat) (l0 : List (S73)) (a1 : Int) : Option ((List (S73))) := (impl_Held.f l0).bind fun t244 => (impl_ribStale.l0 k a1 t244 (t244.length : Int) 0)
theorem impl_ribStale.mono_l : ∀ k, (∀ y0 y1 y2 y3, LeO (impl_ribStale.l0 k y0 y1 y2 y3) (impl_ribStale.l0 (k + 1) y0 y1 y2 y3))
 | 0 => fun _ _ _ _ r h => by simp [impl_ribStale.l0] at h
 | k + 1 => by
  have ih0 := impl_ribStale.mono_l k
  ·intro y0 y1 y2 y3
   unfold impl_ribStale.l0
   repeat' first
   | (with_reducible exact ih0 _ _ _ _)
   | (with_reducible exact LeO.refl _)
   | (with_reducible exact LeO.none _)
   | (with_reducible refine LeO.ite ?_ ?_)
   | (with_reducible refine LeO.bind ?_ (fun _ => ?_))
   | exact ih0 _ _ _ _
   | exact LeO.none _
   | refine LeO.ite ?_ ?_
   | refine LeO.bind ?_ (fun _ => ?_)
theorem impl_ribStale.mono : ∀ a0 a1 k, LeO (impl_ribStale.f k a0 a1) (impl_ribStale.f (k + 1) a0 a1) := by
 intro a0 a1 k
 have ih0 := impl_ribStale.mono_l k
 unfold impl_ribStale.f
 repeat' first
   | (with_reducible exact ih0 _ _ _ _)
   | (with_reducible exact LeO.refl _)
   | (with_reducible exact LeO.none _)
   | (with_reducible refine LeO.ite ?_ ?_)
   | (with_reducible refine LeO.bind ?_ (fun _ => ?_))
   | exact ih0 _ _ _ _
   | exact LeO.none _
   | refine LeO.ite ?_ ?_
   | refine LeO.bind ?_ (fun _ => ?_)
set_option maxHeartbeats 8000000 in
set_option maxRecDepth 100000 in
theorem impl_ribStale.calls (k : Nat) (A0 : Option Addr) (c0 : Nat) (l0 : List (S73)) (a1 : Int) (r : List (S73)) (w : World) (hr0 : Kd.C k73 w A0 l0.length l0) (hc0 : l0.length ≤ c0) (h : impl_ribStale.f k l0 a1 = some r) :
  Calls Try.prog 65 #[.slice A0 l0.length c0, .int .i64 a1] w fun e w' => ∃ v0_ : Value, e = .returned (v0_) ∧ Kd.R k73 73 w' w.heap.size (fun _ => True) v0_ r ∧ Below w.heap.size w w' := by
 have HR0 := Aside0.mk hr0
 have HC0 := Aside0.mk hc0
 clear hr0 hc0
 have HB := Aside0.mk (Below.refl w.heap.size w)
 have H : ((impl_Held.f l0).bind fun t244 => (impl_ribStale.l0 k a1 t244 (t244.length : Int) 0)) = some r := h
 clear h
 replace H := Option.bind_eq_some_iff.mp H
 obtain ⟨t244, A30, H⟩ := H
 replace H : (impl_ribStale.l0 k a1 t244 (t244.length : Int) 0) = some r := H
 have A3 := Aside0.mk A30
 clear A30
 have H' := Aside0.mk H
 clear H
 go_enter Try.func65, Try.ntmps65
 go_wp2_with (first | ((with_reducible refine gate_callee (f := 104) rfl ?_); refine goesL_ (some 8) rfl rfl Try.func104 (by kernel_rfl) rfl #[.slice A0 l0.length c0] rfl (by (try simp only [List.map_toArray, List.map_cons, List.map_nil]); first | done | rfl | (simp only [List.length_drop, List.length_take]; rfl)) ?_; (with_reducible refine (impl_Held.calls _ _ l0 t244 _ ?side1 ?side2 A3.out).mono ?_); (case side1 => repeat (first | exact HR0.out | (with_reducible refine Kd.C_alloc ?_ _) | (with_reducible refine Kd.C_drewN ?_ _) | (with_reducible refine Kd.C_drew ?_))); (case side2 => exact HC0.out); rintro e w4 ⟨v245, rfl, ho0, hb⟩; refine ⟨_, rfl, ?_⟩; have n0_ := Aside0.mk (Kd.R_lower ho0 (below_size (by repeat (first | (with_reducible first | exact HB.out | apply below_alloc | apply pw_below_drewN | apply below_drew1) | exact HB.out)))); have n1_ := Aside0.mk (below_step (by repeat (first | (with_reducible first | exact HB.out | apply below_alloc | apply pw_below_drewN | apply below_drew1) | exact HB.out)) hb); clear HB; have HO246 := n0_; have HB := n1_; clear n0_ n1_; (try clear hb); (try clear hb2); (try clear hk); (try clear hi); (try clear ho0); obtain ⟨Ao5, co5, eo5⟩ := Kd.R_slice HO246.out; subst eo5))
 go_loopg [11] k (fun kq v11 w' => ∃ (x5_1 : List (S73)) (x11_1 : Int), v11 = .int .i64 x11_1 ∧ Aside0 (impl_ribStale.l0 kq a1 x5_1 (t244.length : Int) x11_1 = some r) ∧ Aside0 (kq ≤ k) ∧ Aside0 (Kd.R k73 73 w' w.heap.size (fun _ => True) (.slice Ao5 t244.length co5) x5_1) ∧ Aside0 (Below w.heap.size w w'))
 case atStart => exact ⟨(t244), (0), (by first | rfl | (simp; done) | (simp [*]; done)), H', ⟨Nat.le_refl _⟩, ⟨by (with_reducible repeat (first | apply Kd.R_alloc | apply Kd.R_drewN | apply Kd.R_drew)); exact HO246.out⟩, ⟨by repeat (first | (with_reducible first | exact HB.out | apply below_alloc | apply pw_below_drewN | apply below_drew1) | exact HB.out)⟩⟩
 case round =>
  clear H'
  try clear c1
  try clear p2
  obtain ⟨x5_1, x11_1, rfl, HA, HK1, HO_5, HB⟩ := hrel
  have hl5_1 := (Kd.R_reads' HO_5.out).1
  rw [hl5_1] at HO_5
  (try simp only [hl5_1])
  cases gk with
  | zero => exact absurd HA.out (by simp [impl_ribStale.l0])
  | succ k1 =>
   have H := HA.out
   clear HA
   simp only [impl_ribStale.l0] at H
   by_cases c6 : x11_1 < (t244.length : Int)
   ·rw [if_pos c6] at H
    have c6b0 : decide (x11_1 < (t244.length : Int)) = true := decide_eq_true c6
    clear c6
    by_cases c7 : 0 ≤ x11_1
    ·rw [if_pos c7] at H
     have c7b0 : decide (0 ≤ x11_1) = true := decide_eq_true c7
     clear c7
     by_cases c8 : x11_1 < (x5_1.length : Int)
     ·rw [if_pos c8] at H
      have c8b0 : decide (x11_1 < (x5_1.length : Int)) = true := decide_eq_true c8
      clear c8
      obtain ⟨bq9, hbq9⟩ : ∃ b_ : Bool, b_ = ((rd_T73 x5_1 x11_1).f1) := ⟨_, rfl⟩
      replace H : (if bq9 = true then (impl_ribStale.l0 k1 a1 (x5_1.set (x11_1 : Int).toNat (⟨(rd_T73 x5_1 x11_1).f0, true, (⟨(rd_T73 x5_1 x11_1).f2.f0, (rd_T73 x5_1 x11_1).f2.f1, (rd_T73 x5_1 x11_1).f2.f2, (rd_T73 x5_1 x11_1).f2.f3, (rd_T73 x5_1 x11_1).f2.f4, (rd_T73 x5_1 x11_1).f2.f5, (rd_T73 x5_1 x11_1).f2.f6⟩ : S42)⟩ : S73)) (t244.length : Int) (wrap64 (x11_1 + 1))) else (impl_ribStale.l0 k1 a1 (x5_1.set (x11_1 : Int).toNat (⟨(rd_T73 x5_1 x11_1).f0, (((rd_T73 x5_1 x11_1).f0) == a1), (⟨(rd_T73 x5_1 x11_1).f2.f0, (rd_T73 x5_1 x11_1).f2.f1, (rd_T73 x5_1 x11_1).f2.f2, (rd_T73 x5_1 x11_1).f2.f3, (rd_T73 x5_1 x11_1).f2.f4, (rd_T73 x5_1 x11_1).f2.f5, (rd_T73 x5_1 x11_1).f2.f6⟩ : S42)⟩ : S73)) (t244.length : Int) (wrap64 (x11_1 + 1)))) = some r := by rw [← hbq9] at H; exact H
      have Nbq9 := Aside0.mk hbq9
      clear hbq9
      by_cases c10 : bq9 = true
      ·subst c10
       have H1 : (impl_ribStale.l0 k1 a1 (x5_1.set (x11_1 : Int).toNat (⟨(rd_T73 x5_1 x11_1).f0, true, (⟨(rd_T73 x5_1 x11_1).f2.f0, (rd_T73 x5_1 x11_1).f2.f1, (rd_T73 x5_1 x11_1).f2.f2, (rd_T73 x5_1 x11_1).f2.f3, (rd_T73 x5_1 x11_1).f2.f4, (rd_T73 x5_1 x11_1).f2.f5, (rd_T73 x5_1 x11_1).f2.f6⟩ : S42)⟩ : S73)) (t244.length : Int) (wrap64 (x11_1 + 1))) = some r := by rw [if_pos rfl] at H; exact H
       clear H
       have H := H1
       clear H1
       obtain ⟨y248, hy248⟩ : ∃ y_ : List (S73), y_ = (x5_1.set (x11_1 : Int).toNat (⟨(rd_T73 x5_1 x11_1).f0, true, (⟨(rd_T73 x5_1 x11_1).f2.f0, (rd_T73 x5_1 x11_1).f2.f1, (rd_T73 x5_1 x11_1).f2.f2, (rd_T73 x5_1 x11_1).f2.f3, (rd_T73 x5_1 x11_1).f2.f4, (rd_T73 x5_1 x11_1).f2.f5, (rd_T73 x5_1 x11_1).f2.f6⟩ : S42)⟩ : S73)) := ⟨_, rfl⟩
       replace H : (impl_ribStale.l0 k1 a1 y248 (t244.length : Int) (wrap64 (x11_1 + 1))) = some r := by first | (rw [hy248]; with_reducible exact H) | (have H2_ := (Option.bind_some _ _).symm.trans H; rw [hy248]; with_reducible exact H2_) | (have H2_ := (Option.bind_some _ _).symm.trans H; with_reducible exact H2_) | with_reducible exact H | (rw [hy248]; exact H) | exact H
       have Ny248 := Aside0.mk hy248
       clear hy248
       have H' := Aside0.mk H
       clear H
       have p247 : 0 ≤ (x11_1 : Int) := of_decide_eq_true (by first | (with_reducible assumption) | assumption)
       have q247 : x11_1 < (x5_1.length : Int) := of_decide_eq_true (by first | (with_reducible assumption) | assumption)
       obtain ⟨ad247, e247, hx247_0, hx247_1, hx247_2, hx247_3, hx247_4, hx247_5, hx247_6, hx247_7, hx247_8⟩ := at_T73 (Kd.R_reads' HO_5.out).2.2 x11_1 p247 q247
       (try rw [← Nbq9.out] at hx247_1)
       (try rw [← Nbq9.out] at hx247_8)
       cases e247
       replace p247 := eq_true p247
       replace q247 := eq_true q247
       have p11 : 0 ≤ (x11_1 : Int) := of_decide_eq_true (by first | (with_reducible assumption) | assumption)
       have q11 : (x11_1 : Int) < ((x5_1.length : Int) : Int) := of_decide_eq_true (by first | (with_reducible assumption) | assumption)
       obtain ⟨go11, co11, eo11, gb11, gl11, cl11, HG11⟩ := Kd.R_form HO_5.out (by omega)
       (first | cases eo11 | (injection eo11 with ea_ en_ ec_; (first | subst ea_ | (injection ea_ with ea_; subst ea_)); subst ec_; clear en_))
       have GB11 := Aside0.mk gb11
       have GG11 := Aside0.mk HG11
       clear gb11 gl11 HG11
       (first | simp only [add_plain] at hx247_0 | skip)
       (first | simp only [add_plain] at hx247_1 | skip)
       (first | simp only [add_plain] at hx247_2 | skip)
       (first | simp only [add_plain] at hx247_3 | skip)
       (first | simp only [add_plain] at hx247_4 | skip)
       (first | simp only [add_plain] at hx247_5 | skip)
       (first | simp only [add_plain] at hx247_6 | skip)
       (first | simp only [add_plain] at hx247_7 | skip)
       (first | simp only [add_plain] at hx247_8 | skip)
       obtain ⟨ce11, hcl11, hM11, hcc11, hfr11⟩ := Kd.R_elem HO_5.out z73 (x11_1 : Int) p11 q11
       obtain rfl := k73_openM hM11
       have hx11_0 : wr.cell? ⟨go11, (x11_1 : Int).toNat * 9, none⟩ = some (.int .i64 ((rd_T73 x5_1 x11_1).f0)) := hcc11 0 _ rfl
       have hx11_1 : wr.cell? ⟨go11, (x11_1 : Int).toNat * 9 + 1, none⟩ = some (.bool ((rd_T73 x5_1 x11_1).f1)) := hcc11 1 _ rfl
       have hx11_2 : wr.cell? ⟨go11, (x11_1 : Int).toNat * 9 + 2, none⟩ = some (.int .i64 ((rd_T73 x5_1 x11_1).f2.f0)) := hcc11 2 _ rfl
       have hx11_3 : wr.cell? ⟨go11, (x11_1 : Int).toNat * 9 + 3, none⟩ = some (.int .i64 ((rd_T73 x5_1 x11_1).f2.f1)) := hcc11 3 _ rfl
       have hx11_4 : wr.cell? ⟨go11, (x11_1 : Int).toNat * 9 + 4, none⟩ = some (.int .i64 ((rd_T73 x5_1 x11_1).f2.f2)) := hcc11 4 _ rfl
       have hx11_5 : wr.cell? ⟨go11, (x11_1 : Int).toNat * 9 + 5, none⟩ = some (.int .i64 ((rd_T73 x5_1 x11_1).f2.f3)) := hcc11 5 _ rfl
       have hx11_6 : wr.cell? ⟨go11, (x11_1 : Int).toNat * 9 + 6, none⟩ = some (.int .i64 ((rd_T73 x5_1 x11_1).f2.f4)) := hcc11 6 _ rfl
       have hx11_7 : wr.cell? ⟨go11, (x11_1 : Int).toNat * 9 + 7, none⟩ = some (.int .i64 ((rd_T73 x5_1 x11_1).f2.f5)) := hcc11 7 _ rfl
       have hx11_8 : wr.cell? ⟨go11, (x11_1 : Int).toNat * 9 + 8, none⟩ = some (.bool ((rd_T73 x5_1 x11_1).f2.f6)) := hcc11 8 _ rfl
       have hf11_0 : wr.frozen? ⟨go11, (x11_1 : Int).toNat * 9, none⟩ = false := hfr11 0
       have hf11_1 : wr.frozen? ⟨go11, (x11_1 : Int).toNat * 9 + 1, none⟩ = false := hfr11 1
       have hf11_2 : wr.frozen? ⟨go11, (x11_1 : Int).toNat * 9 + 2, none⟩ = false := hfr11 2
       have hf11_3 : wr.frozen? ⟨go11, (x11_1 : Int).toNat * 9 + 3, none⟩ = false := hfr11 3
       have hf11_4 : wr.frozen? ⟨go11, (x11_1 : Int).toNat * 9 + 4, none⟩ = false := hfr11 4
       have hf11_5 : wr.frozen? ⟨go11, (x11_1 : Int).toNat * 9 + 5, none⟩ = false := hfr11 5
       have hf11_6 : wr.frozen? ⟨go11, (x11_1 : Int).toNat * 9 + 6, none⟩ = false := hfr11 6
       have hf11_7 : wr.frozen? ⟨go11, (x11_1 : Int).toNat * 9 + 7, none⟩ = false := hfr11 7
       have hf11_8 : wr.frozen? ⟨go11, (x11_1 : Int).toNat * 9 + 8, none⟩ = false := hfr11 8
       clear hcl11 hcc11 hfr11 hM11
       replace p11 := eq_true p11
       replace q11 := eq_true q11
       have HX12 := Aside0.mk (show Kd.R k73 73 wr w.heap.size (fun _ => True) (.slice (some ⟨go11, 0, none⟩) x5_1.length co5) x5_1 from (by (with_reducible repeat (first | apply Kd.R_alloc | apply Kd.R_drewN | apply Kd.R_drew)); exact HO_5.out))
       obtain ⟨ce12, hcl12, hM12, hcc12, hfr12⟩ := Kd.R_elem HX12.out z73 (x11_1 : Int) (of_decide_eq_true (by first | (with_reducible assumption) | assumption)) (by have h_ : (x11_1 : Int) < ((x5_1.length : Int) : Int) := of_decide_eq_true (by first | (with_reducible assumption) | assumption); first | exact h_ | (have e_ := (Kd.R_reads' HO_5.out).1; omega) | simpa using h_)
       obtain rfl := k73_openM hM12
       have HP12 := Kd.R_seg HX12.out (x11_1 : Int) (of_decide_eq_true (by first | (with_reducible assumption) | assumption)) (by have h_ : (x11_1 : Int) < ((x5_1.length : Int) : Int) := of_decide_eq_true (by first | (with_reducible assumption) | assumption); first | exact h_ | (have e_ := (Kd.R_reads' HO_5.out).1; omega) | simpa using h_) (seg := [.bool true]) (j := 1) hcl12 hcc12 (show 2 ≤ 9 from by decide) (x' := (⟨(rd_T73 x5_1 x11_1).f0, true, (⟨(rd_T73 x5_1 x11_1).f2.f0, (rd_T73 x5_1 x11_1).f2.f1, (rd_T73 x5_1 x11_1).f2.f2, (rd_T73 x5_1 x11_1).f2.f3, (rd_T73 x5_1 x11_1).f2.f4, (rd_T73 x5_1 x11_1).f2.f5, (rd_T73 x5_1 x11_1).f2.f6⟩ : S42)⟩ : S73)) (k73_mkM _ _ _ (⟨(rd_T73 x5_1 x11_1).f0, true, (⟨(rd_T73 x5_1 x11_1).f2.f0, (rd_T73 x5_1 x11_1).f2.f1, (rd_T73 x5_1 x11_1).f2.f2, (rd_T73 x5_1 x11_1).f2.f3, (rd_T73 x5_1 x11_1).f2.f4, (rd_T73 x5_1 x11_1).f2.f5, (rd_T73 x5_1 x11_1).f2.f6⟩ : S42)⟩ : S73) ) (fun _ hk => hk)
       have hx12_1 := hcc12 1 _ rfl
       (try simp only [show (k73).sz = 9 from rfl, Nat.mul_one, Nat.add_zero] at hx12_1)
       have hf12_1 := hfr12 1
       (try simp only [show (k73).sz = 9 from rfl, Nat.mul_one, Nat.add_zero] at hf12_1)
       clear hcl12 hcc12 hfr12 hM12
       go_wp2_with (first | ((with_reducible refine gate_store (t := 4) (p := 31) rfl ?_); refine store_event (t := 4) (p := 31) (v := ?vo_w13) (w1 := (wr.setCell ⟨go11, (x11_1 : Int).toNat * 9 + 1, none⟩ (.bool true))) ?hg ?ho ?hn ?hr ?_; (case ho => rfl); (case hg => rfl); (case hn => rfl); (case hr => first | (go_simp; done) | (go_simp; rfl)); intro w13 hw; have hg : wr.grownBy w13 (some go11) := (by rw [hw]; exact HP12.2); have hp_ : Kd.R k73 73 w13 w.heap.size (fun _ => True) (.slice (some ⟨go11, 0, none⟩) x5_1.length co5) y248 := (by rw [hw, Ny248.out]; exact HP12.1); clear HP12; have n0_ := Aside0.mk (hp_); have n1_ := Aside0.mk ((by rw [hw]; exact below_set (HB.out) GB11.out : Below w.heap.size w w13)); clear HO_5; clear HB; have HO_5 := n0_; have HB := n1_; clear n0_ n1_; clear hg hw hp_))
       (try simp only [← hl5_1])
       go_roundg k1
       case measure => have := HK1.out; omega
       case rel => exact ⟨(y248), (wrap64 (x11_1 + 1)), (by first | rfl | (simp; done) | (simp [*]; done)), H', ⟨by have := HK1.out; omega⟩, ⟨by (try simp only [hl5_1]); (with_reducible repeat (first | apply Kd.R_alloc | apply Kd.R_drewN | apply Kd.R_drew)); exact HO_5.out⟩, ⟨by repeat (first | (with_reducible first | exact HB.out | apply below_alloc | apply pw_below_drewN | apply below_drew1) | exact HB.out)⟩⟩
      ·replace c10 := Bool.eq_false_iff.mpr c10
       subst c10
       have H1 : (impl_ribStale.l0 k1 a1 (x5_1.set (x11_1 : Int).toNat (⟨(rd_T73 x5_1 x11_1).f0, (((rd_T73 x5_1 x11_1).f0) == a1), (⟨(rd_T73 x5_1 x11_1).f2.f0, (rd_T73 x5_1 x11_1).f2.f1, (rd_T73 x5_1 x11_1).f2.f2, (rd_T73 x5_1 x11_1).f2.f3, (rd_T73 x5_1 x11_1).f2.f4, (rd_T73 x5_1 x11_1).f2.f5, (rd_T73 x5_1 x11_1).f2.f6⟩ : S42)⟩ : S73)) (t244.length : Int) (wrap64 (x11_1 + 1))) = some r := by rw [if_neg (show ¬ (false = true) by decide)] at H; exact H
       clear H
       have H := H1
       clear H1
       obtain ⟨y250, hy250⟩ : ∃ y_ : List (S73), y_ = (x5_1.set (x11_1 : Int).toNat (⟨(rd_T73 x5_1 x11_1).f0, (((rd_T73 x5_1 x11_1).f0) == a1), (⟨(rd_T73 x5_1 x11_1).f2.f0, (rd_T73 x5_1 x11_1).f2.f1, (rd_T73 x5_1 x11_1).f2.f2, (rd_T73 x5_1 x11_1).f2.f3, (rd_T73 x5_1 x11_1).f2.f4, (rd_T73 x5_1 x11_1).f2.f5, (rd_T73 x5_1 x11_1).f2.f6⟩ : S42)⟩ : S73)) := ⟨_, rfl⟩
       replace H : (impl_ribStale.l0 k1 a1 y250 (t244.length : Int) (wrap64 (x11_1 + 1))) = some r := by first | (rw [hy250]; with_reducible exact H) | (have H2_ := (Option.bind_some _ _).symm.trans H; rw [hy250]; with_reducible exact H2_) | (have H2_ := (Option.bind_some _ _).symm.trans H; with_reducible exact H2_) | with_reducible exact H | (rw [hy250]; exact H) | exact H
       have Ny250 := Aside0.mk hy250
       clear hy250
       have H' := Aside0.mk H
       clear H
       have p247 : 0 ≤ (x11_1 : Int) := of_decide_eq_true (by first | (with_reducible assumption) | assumption)
       have q247 : x11_1 < (x5_1.length : Int) := of_decide_eq_true (by first | (with_reducible assumption) | assumption)
       obtain ⟨ad247, e247, hx247_0, hx247_1, hx247_2, hx247_3, hx247_4, hx247_5, hx247_6, hx247_7, hx247_8⟩ := at_T73 (Kd.R_reads' HO_5.out).2.2 x11_1 p247 q247
       (try rw [← Nbq9.out] at hx247_1)
       (try rw [← Nbq9.out] at hx247_8)
       cases e247
       replace p247 := eq_true p247
       replace q247 := eq_true q247
       have p249 : 0 ≤ (x11_1 : Int) := of_decide_eq_true (by first | (with_reducible assumption) | assumption)
       have q249 : x11_1 < (x5_1.length : Int) := of_decide_eq_true (by first | (with_reducible assumption) | assumption)
       obtain ⟨ad249, e249, hx249_0, hx249_1, hx249_2, hx249_3, hx249_4, hx249_5, hx249_6, hx249_7, hx249_8⟩ := at_T73 (Kd.R_reads' HO_5.out).2.2 x11_1 p249 q249
       (try rw [← Nbq9.out] at hx249_1)
       (try rw [← Nbq9.out] at hx249_8)
       obtain rfl : ad247 = ad249 := (by injection e249)
       replace p249 := eq_true p249
       replace q249 := eq_true q249
       have p14 : 0 ≤ (x11_1 : Int) := of_decide_eq_true (by first | (with_reducible assumption) | assumption)
       have q14 : (x11_1 : Int) < ((x5_1.length : Int) : Int) := of_decide_eq_true (by first | (with_reducible assumption) | assumption)
       obtain ⟨go14, co14, eo14, gb14, gl14, cl14, HG14⟩ := Kd.R_form HO_5.out (by omega)
       (first | cases eo14 | (injection eo14 with ea_ en_ ec_; (first | subst ea_ | (injection ea_ with ea_; subst ea_)); subst ec_; clear en_))
       have GB14 := Aside0.mk gb14
       have GG14 := Aside0.mk HG14
       clear gb14 gl14 HG14
       (first | simp only [add_plain] at hx247_0 | skip)
       (first | simp only [add_plain] at hx247_1 | skip)
       (first | simp only [add_plain] at hx247_2 | skip)
       (first | simp only [add_plain] at hx247_3 | skip)
       (first | simp only [add_plain] at hx247_4 | skip)
       (first | simp only [add_plain] at hx247_5 | skip)
       (first | simp only [add_plain] at hx247_6 | skip)
       (first | simp only [add_plain] at hx247_7 | skip)
       (first | simp only [add_plain] at hx247_8 | skip)
       (first | simp only [add_plain] at hx249_0 | skip)
       (first | simp only [add_plain] at hx249_1 | skip)
       (first | simp only [add_plain] at hx249_2 | skip)
       (first | simp only [add_plain] at hx249_3 | skip)
       (first | simp only [add_plain] at hx249_4 | skip)
       (first | simp only [add_plain] at hx249_5 | skip)
       (first | simp only [add_plain] at hx249_6 | skip)
       (first | simp only [add_plain] at hx249_7 | skip)
       (first | simp only [add_plain] at hx249_8 | skip)
       obtain ⟨ce14, hcl14, hM14, hcc14, hfr14⟩ := Kd.R_elem HO_5.out z73 (x11_1 : Int) p14 q14
       obtain rfl := k73_openM hM14
       have hx14_0 : wr.cell? ⟨go14, (x11_1 : Int).toNat * 9, none⟩ = some (.int .i64 ((rd_T73 x5_1 x11_1).f0)) := hcc14 0 _ rfl
       have hx14_1 : wr.cell? ⟨go14, (x11_1 : Int).toNat * 9 + 1, none⟩ = some (.bool ((rd_T73 x5_1 x11_1).f1)) := hcc14 1 _ rfl
       have hx14_2 : wr.cell? ⟨go14, (x11_1 : Int).toNat * 9 + 2, none⟩ = some (.int .i64 ((rd_T73 x5_1 x11_1).f2.f0)) := hcc14 2 _ rfl
       have hx14_3 : wr.cell? ⟨go14, (x11_1 : Int).toNat * 9 + 3, none⟩ = some (.int .i64 ((rd_T73 x5_1 x11_1).f2.f1)) := hcc14 3 _ rfl
       have hx14_4 : wr.cell? ⟨go14, (x11_1 : Int).toNat * 9 + 4, none⟩ = some (.int .i64 ((rd_T73 x5_1 x11_1).f2.f2)) := hcc14 4 _ rfl
       have hx14_5 : wr.cell? ⟨go14, (x11_1 : Int).toNat * 9 + 5, none⟩ = some (.int .i64 ((rd_T73 x5_1 x11_1).f2.f3)) := hcc14 5 _ rfl
       have hx14_6 : wr.cell? ⟨go14, (x11_1 : Int).toNat * 9 + 6, none⟩ = some (.int .i64 ((rd_T73 x5_1 x11_1).f2.f4)) := hcc14 6 _ rfl
       have hx14_7 : wr.cell? ⟨go14, (x11_1 : Int).toNat * 9 + 7, none⟩ = some (.int .i64 ((rd_T73 x5_1 x11_1).f2.f5)) := hcc14 7 _ rfl
       have hx14_8 : wr.cell? ⟨go14, (x11_1 : Int).toNat * 9 + 8, none⟩ = some (.bool ((rd_T73 x5_1 x11_1).f2.f6)) := hcc14 8 _ rfl
       have hf14_0 : wr.frozen? ⟨go14, (x11_1 : Int).toNat * 9, none⟩ = false := hfr14 0
       have hf14_1 : wr.frozen? ⟨go14, (x11_1 : Int).toNat * 9 + 1, none⟩ = false := hfr14 1
       have hf14_2 : wr.frozen? ⟨go14, (x11_1 : Int).toNat * 9 + 2, none⟩ = false := hfr14 2
       have hf14_3 : wr.frozen? ⟨go14, (x11_1 : Int).toNat * 9 + 3, none⟩ = false := hfr14 3
       have hf14_4 : wr.frozen? ⟨go14, (x11_1 : Int).toNat * 9 + 4, none⟩ = false := hfr14 4
       have hf14_5 : wr.frozen? ⟨go14, (x11_1 : Int).toNat * 9 + 5, none⟩ = false := hfr14 5
       have hf14_6 : wr.frozen? ⟨go14, (x11_1 : Int).toNat * 9 + 6, none⟩ = false := hfr14 6
       have hf14_7 : wr.frozen? ⟨go14, (x11_1 : Int).toNat * 9 + 7, none⟩ = false := hfr14 7
       have hf14_8 : wr.frozen? ⟨go14, (x11_1 : Int).toNat * 9 + 8, none⟩ = false := hfr14 8
       clear hcl14 hcc14 hfr14 hM14
       replace p14 := eq_true p14
       replace q14 := eq_true q14
       have HX15 := Aside0.mk (show Kd.R k73 73 wr w.heap.size (fun _ => True) (.slice (some ⟨go14, 0, none⟩) x5_1.length co5) x5_1 from (by (with_reducible repeat (first | apply Kd.R_alloc | apply Kd.R_drewN | apply Kd.R_drew)); exact HO_5.out))
       obtain ⟨ce15, hcl15, hM15, hcc15, hfr15⟩ := Kd.R_elem HX15.out z73 (x11_1 : Int) (of_decide_eq_true (by first | (with_reducible assumption) | assumption)) (by have h_ : (x11_1 : Int) < ((x5_1.length : Int) : Int) := of_decide_eq_true (by first | (with_reducible assumption) | assumption); first | exact h_ | (have e_ := (Kd.R_reads' HO_5.out).1; omega) | simpa using h_)
       obtain rfl := k73_openM hM15
       have HP15 := Kd.R_seg HX15.out (x11_1 : Int) (of_decide_eq_true (by first | (with_reducible assumption) | assumption)) (by have h_ : (x11_1 : Int) < ((x5_1.length : Int) : Int) := of_decide_eq_true (by first | (with_reducible assumption) | assumption); first | exact h_ | (have e_ := (Kd.R_reads' HO_5.out).1; omega) | simpa using h_) (seg := [.bool (((rd_T73 x5_1 x11_1).f0) == a1)]) (j := 1) hcl15 hcc15 (show 2 ≤ 9 from by decide) (x' := (⟨(rd_T73 x5_1 x11_1).f0, (((rd_T73 x5_1 x11_1).f0) == a1), (⟨(rd_T73 x5_1 x11_1).f2.f0, (rd_T73 x5_1 x11_1).f2.f1, (rd_T73 x5_1 x11_1).f2.f2, (rd_T73 x5_1 x11_1).f2.f3, (rd_T73 x5_1 x11_1).f2.f4, (rd_T73 x5_1 x11_1).f2.f5, (rd_T73 x5_1 x11_1).f2.f6⟩ : S42)⟩ : S73)) (k73_mkM _ _ _ (⟨(rd_T73 x5_1 x11_1).f0, (((rd_T73 x5_1 x11_1).f0) == a1), (⟨(rd_T73 x5_1 x11_1).f2.f0, (rd_T73 x5_1 x11_1).f2.f1, (rd_T73 x5_1 x11_1).f2.f2, (rd_T73 x5_1 x11_1).f2.f3, (rd_T73 x5_1 x11_1).f2.f4, (rd_T73 x5_1 x11_1).f2.f5, (rd_T73 x5_1 x11_1).f2.f6⟩ : S42)⟩ : S73) ) (fun _ hk => hk)
       have hx15_1 := hcc15 1 _ rfl
       (try simp only [show (k73).sz = 9 from rfl, Nat.mul_one, Nat.add_zero] at hx15_1)
       have hf15_1 := hfr15 1
       (try simp only [show (k73).sz = 9 from rfl, Nat.mul_one, Nat.add_zero] at hf15_1)
       clear hcl15 hcc15 hfr15 hM15
       go_wp2_with (first | ((with_reducible refine gate_store (t := 4) (p := 31) rfl ?_); refine store_event (t := 4) (p := 31) (v := ?vo_w16) (w1 := (wr.setCell ⟨go14, (x11_1 : Int).toNat * 9 + 1, none⟩ (.bool (((rd_T73 x5_1 x11_1).f0) == a1)))) ?hg ?ho ?hn ?hr ?_; (case ho => rfl); (case hg => rfl); (case hn => rfl); (case hr => first | (go_simp; done) | (go_simp; rfl)); intro w16 hw; have hg : wr.grownBy w16 (some go14) := (by rw [hw]; exact HP15.2); have hp_ : Kd.R k73 73 w16 w.heap.size (fun _ => True) (.slice (some ⟨go14, 0, none⟩) x5_1.length co5) y250 := (by rw [hw, Ny250.out]; exact HP15.1); clear HP15; have n0_ := Aside0.mk (hp_); have n1_ := Aside0.mk ((by rw [hw]; exact below_set (HB.out) GB14.out : Below w.heap.size w w16)); clear HO_5; clear HB; have HO_5 := n0_; have HB := n1_; clear n0_ n1_; clear hg hw hp_))
       (try simp only [← hl5_1])
       go_roundg k1
       case measure => have := HK1.out; omega
       case rel => exact ⟨(y250), (wrap64 (x11_1 + 1)), (by first | rfl | (simp; done) | (simp [*]; done)), H', ⟨by have := HK1.out; omega⟩, ⟨by (try simp only [hl5_1]); (with_reducible repeat (first | apply Kd.R_alloc | apply Kd.R_drewN | apply Kd.R_drew)); exact HO_5.out⟩, ⟨by repeat (first | (with_reducible first | exact HB.out | apply below_alloc | apply pw_below_drewN | apply below_drew1) | exact HB.out)⟩⟩
     ·rw [if_neg c8] at H
      exact absurd H (by simp)
    ·rw [if_neg c7] at H
     exact absurd H (by simp)
   ·rw [if_neg c6] at H
    have c6b0 : decide (x11_1 < (t244.length : Int)) = false := decide_eq_false c6
    (try rw [hl5_1] at c6b0)
    clear c6
    obtain rfl := Option.some.inj H
    go_wp2
    go_ret
    exact ⟨_, by first | rfl | (simp [errW_none, errW_some] <;> rfl) | (simp [*, errW_none, errW_some] <;> rfl), by (with_reducible repeat (first | apply Kd.R_alloc | apply Kd.R_drewN | apply Kd.R_drew)); exact HO_5.out, by repeat (first | (with_reducible first | exact HB.out | apply below_alloc | apply pw_below_drewN | apply below_drew1) | exact HB.out)⟩
def impl_RibStale.f (k : Nat) (l0 : List (S73)) (a1 : Int) : Option ((List (S73)) × (List (S42)) × Int) := (impl_ribCode.f k l0 a1 true).bind fun t252 => (if t252 = 0 then ((impl_ribStale.f k l0 a1).bind fun t253 => (some (t253, ([] : List (S42)), 0))) else (some (([] : List (S73)), ([] : List (S42)), t252)))
theorem impl_RibStale.mono : ∀ a0 a1 k, LeO (impl_RibStale.f k a0 a1) (impl_RibStale.f (k + 1) a0 a1) := by
 intro a0 a1 k
 unfold impl_RibStale.f
 repeat' first
   | (with_reducible exact impl_ribCode.mono _ _ _ _)
   | (with_reducible exact impl_ribStale.mono _ _ _)
   | (with_reducible exact LeO.refl _)
   | (with_reducible exact LeO.none _)
   | (with_reducible refine LeO.ite ?_ ?_)
   | (with_reducible refine LeO.bind ?_ (fun _ => ?_))
   | exact impl_ribCode.mono _ _ _ _
   | exact impl_ribStale.mono _ _ _
   | exact LeO.none _
   | refine LeO.ite ?_ ?_
   | refine LeO.bind ?_ (fun _ => ?_)
set_option maxHeartbeats 8000000 in
set_option maxRecDepth 100000 in
theorem impl_RibStale.calls (k : Nat) (A0 : Option Addr) (c0 : Nat) (l0 : List (S73)) (a1 : Int) (r1 : List (S73)) (r2 : List (S42)) (r3 : Int) (w : World) (hr0 : Kd.C k73 w A0 l0.length l0) (hc0 : l0.length ≤ c0) (h : impl_RibStale.f k l0 a1 = some (r1, r2, r3)) :
  Calls Try.prog 23 #[.slice A0 l0.length c0, .int .i64 a1] w fun e w' => ∃ v0_ v1_ : Value, e = .returned (.agg #[v0_, v1_, .int .i64 r3]) ∧ Kd.R k73 73 w' w.heap.size (fun _ => True) v0_ r1 ∧ Kd.R k42 42 w' w.heap.size (fun _ => True) v1_ r2 ∧ Below w.heap.size w w' := by
 have hu34 := Try.underlying34
 have HR0 := Aside0.mk hr0
 have HC0 := Aside0.mk hc0
 clear hr0 hc0
 have HB := Aside0.mk (Below.refl w.heap.size w)
 have H : ((impl_ribCode.f k l0 a1 true).bind fun t252 => (if t252 = 0 then ((impl_ribStale.f k l0 a1).bind fun t253 => (some (t253, ([] : List (S42)), 0))) else (some (([] : List (S73)), ([] : List (S42)), t252)))) = some (r1, r2, r3) := h
 clear h
 replace H := Option.bind_eq_some_iff.mp H
 obtain ⟨t252, A30, H⟩ := H
 replace H : (if t252 = 0 then ((impl_ribStale.f k l0 a1).bind fun t253 => (some (t253, ([] : List (S42)), 0))) else (some (([] : List (S73)), ([] : List (S42)), t252))) = some (r1, r2, r3) := H
 have A3 := Aside0.mk A30
 clear A30
 by_cases c4 : t252 = 0
 ·rw [if_pos c4] at H
  have c4b0 : (t252 == 0) = true := beq_iff_eq.mpr c4
  have c4b1 : (t252 != 0) = false := bne_eq_false_iff_eq.mpr c4
  clear c4
  replace H := Option.bind_eq_some_iff.mp H
  obtain ⟨t253, A50, H⟩ := H
  replace H : (some (t253, ([] : List (S42)), 0)) = some (r1, r2, r3) := H
  have A5 := Aside0.mk A50
  clear A50
  simp only [Option.some.injEq, Prod.mk.injEq] at H
  obtain ⟨rfl, rfl, rfl⟩ := H
  go_enter Try.func23, Try.ntmps23
  go_wp2_with (first | ((with_reducible refine gate_dst (N := 4) rfl ?_); refine box_event ?hg (N := 4) ?hd (cs := #[.slice none 0 0, .slice none 0 0, .int .i64 0]) (t := 34) ?hr ?_; (case hd => rfl); (case hg => rfl); (case hr => first | (go_simp; done) | (go_simp; rfl)); intro gb251 hg w6 hbox hb; have n0_ := Aside0.mk (below_step (by repeat (first | (with_reducible first | exact HB.out | apply below_alloc | apply pw_below_drewN | apply below_drew1) | exact HB.out)) hb); have n1_ := Aside0.mk (hbox); have n2_ := Aside0.mk ((by rw [hg]; exact (below_size (by repeat (first | (with_reducible first | exact HB.out | apply below_alloc | apply pw_below_drewN | apply below_drew1) | exact HB.out))) : w.heap.size ≤ gb251)); have n3_ := Aside0.mk ((by rw [hg]; exact (below_size (by repeat (first | (with_reducible first | exact HB.out | apply below_alloc | apply pw_below_drewN | apply below_drew1) | exact HB.out))) : w.heap.size ≤ gb251)); clear HB; have HB := n0_; have BK251 := n1_; have GW251 := n2_; have GE251 := n3_; clear n0_ n1_ n2_ n3_; clear hb hbox hg) | ((with_reducible refine gate_callee (f := 64) rfl ?_); refine goesL_ (some 8) rfl rfl Try.func64 (by kernel_rfl) rfl #[.slice A0 l0.length c0, .int .i64 a1, .bool true] rfl (by (try simp only [List.map_toArray, List.map_cons, List.map_nil]); first | done | rfl | (simp only [List.length_drop, List.length_take]; rfl)) ?_; (with_reducible refine (impl_ribCode.calls k _ _ l0 a1 true t252 _ ?side1 ?side2 A3.out).mono ?_); (case side1 => repeat (first | exact (Kd.C_below HR0.out HB.out) | (with_reducible refine Kd.C_alloc ?_ _) | (with_reducible refine Kd.C_drewN ?_ _) | (with_reducible refine Kd.C_drew ?_))); (case side2 => exact HC0.out); rintro e w7 ⟨rfl, hb⟩; refine ⟨_, rfl, ?_⟩; have n0_ := Aside0.mk (blk_below (g := gb251) (o := .cells #[.slice none 0 0, .slice none 0 0, .int .i64 0] 34 (0, 0)) (by (with_reducible repeat (first | refine blk_drewN ?_ _ | refine blk_drew ?_ | refine blk_alloc ?_ _)); exact BK251.out) hb); have n1_ := Aside0.mk (below_step (by repeat (first | (with_reducible first | exact HB.out | apply below_alloc | apply pw_below_drewN | apply below_drew1 | refine below_set ?_ GE251.out) | exact HB.out)) hb); clear BK251; clear HB; have BK251 := n0_; have HB := n1_; clear n0_ n1_; (try clear hb); (try clear hb2); (try clear hk); (try clear hi)) | ((with_reducible refine gate_callee (f := 65) rfl ?_); refine goesL_ (some 15) rfl rfl Try.func65 (by kernel_rfl) rfl #[.slice A0 l0.length c0, .int .i64 a1] rfl (by (try simp only [List.map_toArray, List.map_cons, List.map_nil]); first | done | rfl | (simp only [List.length_drop, List.length_take]; rfl)) ?_; (with_reducible refine (impl_ribStale.calls k _ _ l0 a1 t253 _ ?side1 ?side2 A5.out).mono ?_); (case side1 => repeat (first | exact (Kd.C_below HR0.out HB.out) | (with_reducible refine Kd.C_alloc ?_ _) | (with_reducible refine Kd.C_drewN ?_ _) | (with_reducible refine Kd.C_drew ?_))); (case side2 => exact HC0.out); rintro e w8 ⟨v254, rfl, ho0, hb⟩; refine ⟨_, rfl, ?_⟩; have n0_ := Aside0.mk (Kd.R_lower ho0 (below_size (by repeat (first | (with_reducible first | exact HB.out | apply below_alloc | apply pw_below_drewN | apply below_drew1 | refine below_set ?_ GE251.out) | exact HB.out)))); have n1_ := Aside0.mk (blk_below (g := gb251) (o := .cells #[.slice none 0 0, .slice none 0 0, .int .i64 0] 34 (0, 0)) (by (with_reducible repeat (first | refine blk_drewN ?_ _ | refine blk_drew ?_ | refine blk_alloc ?_ _)); exact BK251.out) hb); have n2_ := Aside0.mk (below_step (by repeat (first | (with_reducible first | exact HB.out | apply below_alloc | apply pw_below_drewN | apply below_drew1 | refine below_set ?_ GE251.out) | exact HB.out)) hb); clear BK251; clear HB; have HO255 := n0_; have BK251 := n1_; have HB := n2_; clear n0_ n1_ n2_; (try clear hb); (try clear hb2); (try clear hk); (try clear hi); (try clear ho0); obtain ⟨Ao9, co9, eo9⟩ := Kd.R_slice HO255.out; subst eo9; have hcz10_0 : w8.cell? ⟨gb251, 0, none⟩ = some (.slice none 0 0) := (blk_cell BK251.out 0).trans rfl; have hcz10_1 : w8.cell? ⟨gb251, 1, none⟩ = some (.slice none 0 0) := (blk_cell BK251.out 1).trans rfl; have hcz10_2 : w8.cell? ⟨gb251, 2, none⟩ = some (.int .i64 0) := (blk_cell BK251.out 2).trans rfl; have hfz10_0 := blk_frozen BK251.out 0; have hfz10_1 := blk_frozen BK251.out 1; have hfz10_2 := blk_frozen BK251.out 2))
  refine bodyPost_ret (results_cell_row rfl _ _ gb251 34 #[.slice Ao9 t253.length co9, .slice none 0 0, .int .i64 0] (0, 0) _ rfl (by (with_reducible repeat (first | refine blk_drewN ?_ _ | refine blk_drew ?_ | refine blk_alloc ?_ _)); refine blk_put (cs := #[.slice Ao9 t253.length co9, .slice none 0 0, .int .i64 0]) ?_ 2 _ rfl; (with_reducible repeat (first | refine blk_drewN ?_ _ | refine blk_drew ?_ | refine blk_alloc ?_ _)); refine blk_put (cs := #[.slice Ao9 t253.length co9, .slice none 0 0, .int .i64 0]) ?_ 1 _ rfl; (with_reducible repeat (first | refine blk_drewN ?_ _ | refine blk_drew ?_ | refine blk_alloc ?_ _)); refine blk_put (cs := #[.slice none 0 0, .slice none 0 0, .int .i64 0]) ?_ 0 _ rfl; (with_reducible repeat (first | refine blk_drewN ?_ _ | refine blk_drew ?_ | refine blk_alloc ?_ _)); exact BK251.out) Try.underlying34 rfl (by kernel_rfl)) rfl ?_
  exact ⟨_, _, by first | rfl | (simp [errW_none, errW_some] <;> rfl) | (simp [*, errW_none, errW_some] <;> rfl), by (with_reducible repeat (first | apply Kd.R_alloc | apply Kd.R_drewN | apply Kd.R_drew)); exact Kd.R_mono (Kd.R_far (p := ⟨gb251, 2, none⟩) (Kd.R_far (p := ⟨gb251, 1, none⟩) (Kd.R_far (p := ⟨gb251, 0, none⟩) (Kd.R_types HO255.out BK251.out (by decide)) (fun _ hk => hk.2) (.slice Ao9 t253.length co9)) (fun _ hk => hk.2) (.slice none 0 0)) (fun _ hk => hk.2) (.int .i64 0)) (fun _ hk => trivial), by first | exact Kd.R_nil _ _ _ _ _ | exact Kd.N_nil _ _ _ _ _ | exact Kd.V_nil _ _ _ _ _ | exact Kd.Q_nil _ _ _ _ _ | exact Kd.S_nil _ _ _ _ _, by repeat (first | (with_reducible first | exact HB.out | apply below_alloc | apply pw_below_drewN | apply below_drew1 | refine below_set ?_ GE251.out) | exact HB.out)⟩
 ·rw [if_neg c4] at H
  have c4b0 : (t252 == 0) = false := beq_eq_false_iff_ne.mpr c4
  have c4b1 : (t252 != 0) = true := bne_iff_ne.mpr c4
  simp only [Option.some.injEq, Prod.mk.injEq] at H
  obtain ⟨rfl, rfl, rfl⟩ := H
  go_enter Try.func23, Try.ntmps23
  go_wp2_with (first | ((with_reducible refine gate_dst (N := 4) rfl ?_); refine box_event ?hg (N := 4) ?hd (cs := #[.slice none 0 0, .slice none 0 0, .int .i64 0]) (t := 34) ?hr ?_; (case hd => rfl); (case hg => rfl); (case hr => first | (go_simp; done) | (go_simp; rfl)); intro gb251 hg w11 hbox hb; have n0_ := Aside0.mk (below_step (by repeat (first | (with_reducible first | exact HB.out | apply below_alloc | apply pw_below_drewN | apply below_drew1) | exact HB.out)) hb); have n1_ := Aside0.mk (hbox); have n2_ := Aside0.mk ((by rw [hg]; exact (below_size (by repeat (first | (with_reducible first | exact HB.out | apply below_alloc | apply pw_below_drewN | apply below_drew1) | exact HB.out))) : w.heap.size ≤ gb251)); have n3_ := Aside0.mk ((by rw [hg]; exact (below_size (by repeat (first | (with_reducible first | exact HB.out | apply below_alloc | apply pw_below_drewN | apply below_drew1) | exact HB.out))) : w.heap.size ≤ gb251)); clear HB; have HB := n0_; have BK251 := n1_; have GW251 := n2_; have GE251 := n3_; clear n0_ n1_ n2_ n3_; clear hb hbox hg) | ((with_reducible refine gate_callee (f := 64) rfl ?_); refine goesL_ (some 8) rfl rfl Try.func64 (by kernel_rfl) rfl #[.slice A0 l0.length c0, .int .i64 a1, .bool true] rfl (by (try simp only [List.map_toArray, List.map_cons, List.map_nil]); first | done | rfl | (simp only [List.length_drop, List.length_take]; rfl)) ?_; (with_reducible refine (impl_ribCode.calls k _ _ l0 a1 true t252 _ ?side1 ?side2 A3.out).mono ?_); (case side1 => repeat (first | exact (Kd.C_below HR0.out HB.out) | (with_reducible refine Kd.C_alloc ?_ _) | (with_reducible refine Kd.C_drewN ?_ _) | (with_reducible refine Kd.C_drew ?_))); (case side2 => exact HC0.out); rintro e w12 ⟨rfl, hb⟩; refine ⟨_, rfl, ?_⟩; have n0_ := Aside0.mk (blk_below (g := gb251) (o := .cells #[.slice none 0 0, .slice none 0 0, .int .i64 0] 34 (0, 0)) (by (with_reducible repeat (first | refine blk_drewN ?_ _ | refine blk_drew ?_ | refine blk_alloc ?_ _)); exact BK251.out) hb); have n1_ := Aside0.mk (below_step (by repeat (first | (with_reducible first | exact HB.out | apply below_alloc | apply pw_below_drewN | apply below_drew1 | refine below_set ?_ GE251.out) | exact HB.out)) hb); clear BK251; clear HB; have BK251 := n0_; have HB := n1_; clear n0_ n1_; (try clear hb); (try clear hb2); (try clear hk); (try clear hi); have hcz13_0 : w12.cell? ⟨gb251, 0, none⟩ = some (.slice none 0 0) := (blk_cell BK251.out 0).trans rfl; have hcz13_1 : w12.cell? ⟨gb251, 1, none⟩ = some (.slice none 0 0) := (blk_cell BK251.out 1).trans rfl; have hcz13_2 : w12.cell? ⟨gb251, 2, none⟩ = some (.int .i64 0) := (blk_cell BK251.out 2).trans rfl; have hfz13_0 := blk_frozen BK251.out 0; have hfz13_1 := blk_frozen BK251.out 1; have hfz13_2 := blk_frozen BK251.out 2))
  refine bodyPost_ret (results_cell_row rfl _ _ gb251 34 #[.slice none 0 0, .slice none 0 0, .int .i64 t252] (0, 0) _ rfl (by (with_reducible repeat (first | refine blk_drewN ?_ _ | refine blk_drew ?_ | refine blk_alloc ?_ _)); refine blk_put (cs := #[.slice none 0 0, .slice none 0 0, .int .i64 0]) ?_ 2 _ rfl; (with_reducible repeat (first | refine blk_drewN ?_ _ | refine blk_drew ?_ | refine blk_alloc ?_ _)); refine blk_put (cs := #[.slice none 0 0, .slice none 0 0, .int .i64 0]) ?_ 1 _ rfl; (with_reducible repeat (first | refine blk_drewN ?_ _ | refine blk_drew ?_ | refine blk_alloc ?_ _)); refine blk_put (cs := #[.slice none 0 0, .slice none 0 0, .int .i64 0]) ?_ 0 _ rfl; (with_reducible repeat (first | refine blk_drewN ?_ _ | refine blk_drew ?_ | refine blk_alloc ?_ _)); exact BK251.out) Try.underlying34 rfl (by kernel_rfl)) rfl ?_
  exact ⟨_, _, by first | rfl | (simp [errW_none, errW_some] <;> rfl) | (simp [*, errW_none, errW_some] <;> rfl), by first | exact Kd.R_nil _ _ _ _ _ | exact Kd.N_nil _ _ _ _ _ | exact Kd.V_nil _ _ _ _ _ | exact Kd.Q_nil _ _ _ _ _ | exact Kd.S_nil _ _ _ _ _, by first | exact Kd.R_nil _ _ _ _ _ | exact Kd.N_nil _ _ _ _ _ | exact Kd.V_nil _ _ _ _ _ | exact Kd.Q_nil _ _ _ _ _ | exact Kd.S_nil _ _ _ _ _, by repeat (first | (with_reducible first | exact HB.out | apply below_alloc | apply pw_below_drewN | apply below_drew1 | refine below_set ?_ GE251.out) | exact HB.out)⟩
def laws_eqRouteS.l0 : Nat → List (S42) → List (S42) → Int → Option (Bool)
 | 0, _, _, _ => none
 | k + 1, x0, x1, x5 => if x5 < (x0.length : Int) then (if 0 ≤ x5 then (if x5 < (x1.length : Int) then ((laws_eqRoute.f ((rd_T42 x0 x5).f0) ((rd_T42 x0 x5).f1) ((rd_T42 x0 x5).f2) ((rd_T42 x0 x5).f3) ((rd_T42 x0 x5).f4) ((rd_T42 x0 x5).f5) ((rd_T42 x0 x5).f6) ((rd_T42 x1 x5).f0) ((rd_T42 x1 x5).f1) ((rd_T42 x1 x5).f2) ((rd_T42 x1 x5).f3) ((rd_T42 x1 x5).f4) ((rd_T42 x1 x5).f5) ((rd_T42 x1 x5).f6)).bind fun t258 => (if t258 = true then (laws_eqRouteS.l0 k x0 x1 (wrap64 (x5 + 1))) else (some false))) else (none)) else (none)) else (some true)
def laws_eqRouteS.f (k : Nat) (l0 : List (S42)) (l1 : List (S42)) : Option (Bool) := if (l0.length : Int) = (l1.length : Int) then (laws_eqRouteS.l0 k l0 l1 0) else (some false)
theorem laws_eqRouteS.mono_l : ∀ k, (∀ y0 y1 y2, LeO (laws_eqRouteS.l0 k y0 y1 y2) (laws_eqRouteS.l0 (k + 1) y0 y1 y2))
 | 0 => fun _ _ _ r h => by simp [laws_eqRouteS.l0] at h
 | k + 1 => by
  have ih0 := laws_eqRouteS.mono_l k
  ·intro y0 y1 y2
   unfold laws_eqRouteS.l0
   repeat' first
   | (with_reducible exact ih0 _ _ _)
   | (with_reducible exact LeO.refl _)
   | (with_reducible exact LeO.none _)
   | (with_reducible refine LeO.ite ?_ ?_)
   | (with_reducible refine LeO.bind ?_ (fun _ => ?_))
   | exact ih0 _ _ _
   | exact LeO.none _
   | refine LeO.ite ?_ ?_
   | refine LeO.bind ?_ (fun _ => ?_)
theorem laws_eqRouteS.mono : ∀ a0 a1 k, LeO (laws_eqRouteS.f k a0 a1) (laws_eqRouteS.f (k + 1) a0 a1) := by
 intro a0 a1 k
 have ih0 := laws_eqRouteS.mono_l k
 unfold laws_eqRouteS.f
 repeat' first
   | (with_reducible exact ih0 _ _ _)
   | (with_reducible exact LeO.refl _)
   | (with_reducible exact LeO.none _)
   | (with_reducible refine LeO.ite ?_ ?_)
   | (with_reducible refine LeO.bind ?_ (fun _ => ?_))
   | exact ih0 _ _ _
   | exact LeO.none _
   | refine LeO.ite ?_ ?_
   | refine LeO.bind ?_ (fun _ => ?_)
def laws_eqRouteS.T6 : Bool × List (List Nat × List Nat) := (true, [([], []), ([], []), ([0, 1], [0, 1]), ([2], [2]), ([], []), ([], []), ([4, 5], [4, 5]), ([6], [6]), ([3, 7], [3, 7]), ([8], [8])])
def laws_eqRouteS.B6 : List Nat := [0, 0, 3, 7, 0, 0, 48, 112, 255, 511]
theorem laws_eqRouteS.tab6 : rtab .any (opsOf Try.f17 6) = laws_eqRouteS.T6 := by kernel_rfl
theorem laws_eqRouteS.bits6 : waitsOk laws_eqRouteS.T6.2 laws_eqRouteS.B6 = true := by kernel_rfl
set_option maxHeartbeats 8000000 in
set_option maxRecDepth 100000 in
theorem laws_eqRouteS.calls (k : Nat) (A0 : Option Addr) (c0 : Nat) (l0 : List (S42)) (A1 : Option Addr) (c1 : Nat) (l1 : List (S42)) (r : Bool) (w : World) (hr0 : Kd.C k42 w A0 l0.length l0) (hc0 : l0.length ≤ c0) (hr1 : Kd.C k42 w A1 l1.length l1) (hc1 : l1.length ≤ c1) (h : laws_eqRouteS.f k l0 l1 = some r) :
  Calls Try.prog 17 #[.slice A0 l0.length c0, .slice A1 l1.length c1] w fun e w' => e = .returned (.bool r) ∧ Below w.heap.size w w' := by
 have hu42 := Try.underlying42
 have HR0 := Aside0.mk hr0
 have HC0 := Aside0.mk hc0
 clear hr0 hc0
 have HR1 := Aside0.mk hr1
 have HC1 := Aside0.mk hc1
 clear hr1 hc1
 have HB := Aside0.mk (Below.refl w.heap.size w)
 have H : (if (l0.length : Int) = (l1.length : Int) then (laws_eqRouteS.l0 k l0 l1 0) else (some false)) = some r := h
 clear h
 by_cases c3 : (l0.length : Int) = (l1.length : Int)
 ·rw [if_pos c3] at H
  have c3b0 : ((l0.length : Int) == (l1.length : Int)) = true := beq_iff_eq.mpr c3
  have c3b1 : ((l0.length : Int) != (l1.length : Int)) = false := bne_eq_false_iff_eq.mpr c3
  have c3b2 : (l0.length == l1.length) = true := by first | simpa using c3 | (simp at c3 ⊢; omega)
  clear c3
  have H' := Aside0.mk H
  clear H
  go_enter Try.func17, Try.ntmps17
  go_wp2
  go_loopg [5] k (fun kq v5 w' => ∃ (x5_1 : Int), v5 = .int .i64 x5_1 ∧ Aside0 (laws_eqRouteS.l0 kq l0 l1 x5_1 = some r) ∧ Aside0 (kq ≤ k) ∧ Aside0 (Below w.heap.size w w'))
  case atStart => exact ⟨(0), (by first | rfl | (simp; done) | (simp [*]; done)), H', ⟨Nat.le_refl _⟩, ⟨by repeat (first | (with_reducible first | exact HB.out | apply below_alloc | apply pw_below_drewN | apply below_drew1) | exact HB.out)⟩⟩
  case round =>
   clear H'
   try clear c1
   try clear p2
   try clear c3
   try clear c3b0
   try clear c3b1
   try clear c3b2
   obtain ⟨x5_1, rfl, HA, HK1, HB⟩ := hrel
   cases gk with
   | zero => exact absurd HA.out (by simp [laws_eqRouteS.l0])
   | succ k1 =>
    have H := HA.out
    clear HA
    simp only [laws_eqRouteS.l0] at H
    by_cases c4 : x5_1 < (l0.length : Int)
    ·rw [if_pos c4] at H
     have c4b0 : decide (x5_1 < (l0.length : Int)) = true := decide_eq_true c4
     clear c4
     by_cases c5 : 0 ≤ x5_1
     ·rw [if_pos c5] at H
      have c5b0 : decide (0 ≤ x5_1) = true := decide_eq_true c5
      clear c5
      by_cases c6 : x5_1 < (l1.length : Int)
      ·rw [if_pos c6] at H
       have c6b0 : decide (x5_1 < (l1.length : Int)) = true := decide_eq_true c6
       clear c6
       replace H := Option.bind_eq_some_iff.mp H
       obtain ⟨t258, A70, H⟩ := H
       replace H : (if t258 = true then (laws_eqRouteS.l0 k1 l0 l1 (wrap64 (x5_1 + 1))) else (some false)) = some r := H
       have A7 := Aside0.mk A70
       clear A70
       by_cases c8 : t258 = true
       ·subst c8
        have H1 : (laws_eqRouteS.l0 k1 l0 l1 (wrap64 (x5_1 + 1))) = some r := by rw [if_pos rfl] at H; exact H
        clear H
        have H := H1
        clear H1
        have H' := Aside0.mk H
        clear H
        try go_wp2
        have n0_ := Aside0.mk (below_drew1 HB.out)
        clear HB
        have HB := n0_
        clear n0_
        have p256 : 0 ≤ (x5_1 : Int) := of_decide_eq_true (by first | (with_reducible assumption) | assumption)
        have q256 : x5_1 < (l0.length : Int) := of_decide_eq_true (by first | (with_reducible assumption) | assumption)
        obtain ⟨ad256, e256, hx256_0, hx256_1, hx256_2, hx256_3, hx256_4, hx256_5, hx256_6⟩ := at_T42 HR0.out x5_1 p256 q256
        have hw256_6 := hx256_6
        have hw256_5 := hx256_5
        have hw256_4 := hx256_4
        have hw256_3 := hx256_3
        have hw256_2 := hx256_2
        have hw256_1 := hx256_1
        have hw256_0 := hx256_0
        cases e256
        replace hx256_0 := (HB.out.cell (World.block_lt_of_cell? w _ hx256_0)).trans hx256_0
        replace hx256_1 := (HB.out.cell (World.block_lt_of_cell? w _ hx256_1)).trans hx256_1
        replace hx256_2 := (HB.out.cell (World.block_lt_of_cell? w _ hx256_2)).trans hx256_2
        replace hx256_3 := (HB.out.cell (World.block_lt_of_cell? w _ hx256_3)).trans hx256_3
        replace hx256_4 := (HB.out.cell (World.block_lt_of_cell? w _ hx256_4)).trans hx256_4
        replace hx256_5 := (HB.out.cell (World.block_lt_of_cell? w _ hx256_5)).trans hx256_5
        replace hx256_6 := (HB.out.cell (World.block_lt_of_cell? w _ hx256_6)).trans hx256_6
        replace p256 := eq_true p256
        replace q256 := eq_true q256
        have p257 : 0 ≤ (x5_1 : Int) := of_decide_eq_true (by first | (with_reducible assumption) | assumption)
        have q257 : x5_1 < (l1.length : Int) := of_decide_eq_true (by first | (with_reducible assumption) | assumption)
        obtain ⟨ad257, e257, hx257_0, hx257_1, hx257_2, hx257_3, hx257_4, hx257_5, hx257_6⟩ := at_T42 HR1.out x5_1 p257 q257
        have hw257_6 := hx257_6
        have hw257_5 := hx257_5
        have hw257_4 := hx257_4
        have hw257_3 := hx257_3
        have hw257_2 := hx257_2
        have hw257_1 := hx257_1
        have hw257_0 := hx257_0
        cases e257
        replace hx257_0 := (HB.out.cell (World.block_lt_of_cell? w _ hx257_0)).trans hx257_0
        replace hx257_1 := (HB.out.cell (World.block_lt_of_cell? w _ hx257_1)).trans hx257_1
        replace hx257_2 := (HB.out.cell (World.block_lt_of_cell? w _ hx257_2)).trans hx257_2
        replace hx257_3 := (HB.out.cell (World.block_lt_of_cell? w _ hx257_3)).trans hx257_3
        replace hx257_4 := (HB.out.cell (World.block_lt_of_cell? w _ hx257_4)).trans hx257_4
        replace hx257_5 := (HB.out.cell (World.block_lt_of_cell? w _ hx257_5)).trans hx257_5
        replace hx257_6 := (HB.out.cell (World.block_lt_of_cell? w _ hx257_6)).trans hx257_6
        replace p257 := eq_true p257
        replace q257 := eq_true q257
        refine start_ (n := 10) (S := fun w' => w'.cell? (ad256.add ((x5_1).toNat * 7)) = some (.int .i64 ((rd_T42 l0 x5_1).f0)) ∧ w'.cell? ⟨(ad256.add ((x5_1).toNat * 7)).block, (ad256.add ((x5_1).toNat * 7)).off + 1, none⟩ = some (.int .i64 ((rd_T42 l0 x5_1).f1)) ∧ w'.cell? ⟨(ad256.add ((x5_1).toNat * 7)).block, (ad256.add ((x5_1).toNat * 7)).off + 2, none⟩ = some (.int .i64 ((rd_T42 l0 x5_1).f2)) ∧ w'.cell? ⟨(ad256.add ((x5_1).toNat * 7)).block, (ad256.add ((x5_1).toNat * 7)).off + 3, none⟩ = some (.int .i64 ((rd_T42 l0 x5_1).f3)) ∧ w'.cell? ⟨(ad256.add ((x5_1).toNat * 7)).block, (ad256.add ((x5_1).toNat * 7)).off + 4, none⟩ = some (.int .i64 ((rd_T42 l0 x5_1).f4)) ∧ w'.cell? ⟨(ad256.add ((x5_1).toNat * 7)).block, (ad256.add ((x5_1).toNat * 7)).off + 5, none⟩ = some (.int .i64 ((rd_T42 l0 x5_1).f5)) ∧ w'.cell? ⟨(ad256.add ((x5_1).toNat * 7)).block, (ad256.add ((x5_1).toNat * 7)).off + 6, none⟩ = some (.bool ((rd_T42 l0 x5_1).f6)) ∧ w'.cell? (ad257.add ((x5_1).toNat * 7)) = some (.int .i64 ((rd_T42 l1 x5_1).f0)) ∧ w'.cell? ⟨(ad257.add ((x5_1).toNat * 7)).block, (ad257.add ((x5_1).toNat * 7)).off + 1, none⟩ = some (.int .i64 ((rd_T42 l1 x5_1).f1)) ∧ w'.cell? ⟨(ad257.add ((x5_1).toNat * 7)).block, (ad257.add ((x5_1).toNat * 7)).off + 2, none⟩ = some (.int .i64 ((rd_T42 l1 x5_1).f2)) ∧ w'.cell? ⟨(ad257.add ((x5_1).toNat * 7)).block, (ad257.add ((x5_1).toNat * 7)).off + 3, none⟩ = some (.int .i64 ((rd_T42 l1 x5_1).f3)) ∧ w'.cell? ⟨(ad257.add ((x5_1).toNat * 7)).block, (ad257.add ((x5_1).toNat * 7)).off + 4, none⟩ = some (.int .i64 ((rd_T42 l1 x5_1).f4)) ∧ w'.cell? ⟨(ad257.add ((x5_1).toNat * 7)).block, (ad257.add ((x5_1).toNat * 7)).off + 5, none⟩ = some (.int .i64 ((rd_T42 l1 x5_1).f5)) ∧ w'.cell? ⟨(ad257.add ((x5_1).toNat * 7)).block, (ad257.add ((x5_1).toNat * 7)).off + 6, none⟩ = some (.bool ((rd_T42 l1 x5_1).f6))) (ds := []) #[false, false, false, false, false, false, false, false, false, false] (by kernel_rfl) rfl rfl ⟨((HB.out.cell (World.block_lt_of_cell? w _ hw256_0)).trans hw256_0), ((HB.out.cell (World.block_lt_of_cell? w _ hw256_1)).trans hw256_1), ((HB.out.cell (World.block_lt_of_cell? w _ hw256_2)).trans hw256_2), ((HB.out.cell (World.block_lt_of_cell? w _ hw256_3)).trans hw256_3), ((HB.out.cell (World.block_lt_of_cell? w _ hw256_4)).trans hw256_4), ((HB.out.cell (World.block_lt_of_cell? w _ hw256_5)).trans hw256_5), ((HB.out.cell (World.block_lt_of_cell? w _ hw256_6)).trans hw256_6), ((HB.out.cell (World.block_lt_of_cell? w _ hw257_0)).trans hw257_0), ((HB.out.cell (World.block_lt_of_cell? w _ hw257_1)).trans hw257_1), ((HB.out.cell (World.block_lt_of_cell? w _ hw257_2)).trans hw257_2), ((HB.out.cell (World.block_lt_of_cell? w _ hw257_3)).trans hw257_3), ((HB.out.cell (World.block_lt_of_cell? w _ hw257_4)).trans hw257_4), ((HB.out.cell (World.block_lt_of_cell? w _ hw257_5)).trans hw257_5), ((HB.out.cell (World.block_lt_of_cell? w _ hw257_6)).trans hw257_6)⟩ (fun hHeld => ?_); refine with_tabW laws_eqRouteS.tab6 laws_eqRouteS.bits6 (fun HT_ HW_ => ?_)
        generalize wr.drew = w9 at HB hx256_0 hx256_1 hx256_2 hx256_3 hx256_4 hx256_5 hx256_6 hx257_0 hx257_1 hx257_2 hx257_3 hx257_4 hx257_5 hx257_6 hHeld ⊢
        refine pure_ (i := 0) (N := some 17) (v := ?_) (a' := ?_) #[true, false, false, false, false, false, false, false, false, false] rfl rfl (any_of HT_.out (by kernel_rfl)) (fun _ _ _ h => h) (Or.inl ⟨by rfl, ?_⟩) ?_ ?_
        rotate_left
        ·intro w'
         go_simp
         with_reducible rfl
        rotate_left
        ·simp only [Act.put, List.setIfInBounds_toArray, List.set_cons_zero, List.set_cons_succ, i64_w, i32_w]
         rfl
        refine pure_ (i := 1) (N := some 18) (v := ?_) (a' := ?_) #[true, true, false, false, false, false, false, false, false, false] rfl rfl (any_of HT_.out (by kernel_rfl)) (fun _ _ _ h => h) (Or.inl ⟨by rfl, ?_⟩) ?_ ?_
        rotate_left
        ·intro w'
         go_simp
         with_reducible rfl
        rotate_left
        ·simp only [Act.put, List.setIfInBounds_toArray, List.set_cons_zero, List.set_cons_succ, i64_w, i32_w]
         rfl
        refine pure_ (i := 2) (N := some 19) (v := ?_) (a' := ?_) #[true, true, true, false, false, false, false, false, false, false] rfl rfl (any_of HT_.out (by kernel_rfl)) (fun _ _ _ h => h) (Or.inl ⟨by rfl, ?_⟩) ?_ ?_
        rotate_left
        ·intro w'
         go_simp
         with_reducible rfl
        rotate_left
        ·simp only [Act.put, List.setIfInBounds_toArray, List.set_cons_zero, List.set_cons_succ, i64_w, i32_w]
         rfl
        refine pure_ (i := 4) (N := some 21) (v := ?_) (a' := ?_) #[true, true, true, false, true, false, false, false, false, false] rfl rfl (any_of HT_.out (by kernel_rfl)) (fun _ _ _ h => h) (Or.inl ⟨by rfl, ?_⟩) ?_ ?_
        rotate_left
        ·intro w'
         go_simp
         with_reducible rfl
        rotate_left
        ·simp only [Act.put, List.setIfInBounds_toArray, List.set_cons_zero, List.set_cons_succ, i64_w, i32_w]
         rfl
        refine pure_ (i := 5) (N := some 22) (v := ?_) (a' := ?_) #[true, true, true, false, true, true, false, false, false, false] rfl rfl (any_of HT_.out (by kernel_rfl)) (fun _ _ _ h => h) (Or.inl ⟨by rfl, ?_⟩) ?_ ?_
        rotate_left
        ·intro w'
         go_simp
         with_reducible rfl
        rotate_left
        ·simp only [Act.put, List.setIfInBounds_toArray, List.set_cons_zero, List.set_cons_succ, i64_w, i32_w]
         rfl
        refine pure_ (i := 6) (N := some 23) (v := ?_) (a' := ?_) #[true, true, true, false, true, true, true, false, false, false] rfl rfl (any_of HT_.out (by kernel_rfl)) (fun _ _ _ h => h) (Or.inl ⟨by rfl, ?_⟩) ?_ ?_
        rotate_left
        ·intro w'
         go_simp
         with_reducible rfl
        rotate_left
        ·simp only [Act.put, List.setIfInBounds_toArray, List.set_cons_zero, List.set_cons_succ, i64_w, i32_w]
         rfl
        refine take_ (i := 3) (N := some 20) (v := ?_) (a' := ?_) #[true, true, true, true, true, true, true, false, false, false] rfl rfl (take_ofW HT_.out HW_.out (by kernel_rfl)) (fun _ _ _ h => h) (Or.inl ⟨by rfl, ?_⟩) hHeld ?_ ?_
        rotate_left
        ·rintro w' ⟨s0, s1, s2, s3, s4, s5, s6, s7, s8, s9, s10, s11, s12, s13⟩
         go_simp
         with_reducible rfl
        rotate_left
        ·simp only [Act.put, List.setIfInBounds_toArray, List.set_cons_zero, List.set_cons_succ, i64_w, i32_w]
         rfl
        refine take_ (i := 7) (N := some 24) (v := ?_) (a' := ?_) #[true, true, true, true, true, true, true, true, false, false] rfl rfl (take_ofW HT_.out HW_.out (by kernel_rfl)) (fun _ _ _ h => h) (Or.inl ⟨by rfl, ?_⟩) hHeld ?_ ?_
        rotate_left
        ·rintro w' ⟨s0, s1, s2, s3, s4, s5, s6, s7, s8, s9, s10, s11, s12, s13⟩
         go_simp
         with_reducible rfl
        rotate_left
        ·simp only [Act.put, List.setIfInBounds_toArray, List.set_cons_zero, List.set_cons_succ, i64_w, i32_w]
         rfl
        refine one_ (i := 8) (N := some 25) #[true, true, true, true, true, true, true, true, true, false] rfl rfl (one_of HT_.out (by kernel_rfl)) (by decide) (fun K hK => ?_)
        refine goes_ Try.func59 (by kernel_rfl) rfl #[.agg #[.int .i64 ((rd_T42 l0 x5_1).f0), .int .i64 ((rd_T42 l0 x5_1).f1), .int .i64 ((rd_T42 l0 x5_1).f2), .int .i64 ((rd_T42 l0 x5_1).f3), .int .i64 ((rd_T42 l0 x5_1).f4), .int .i64 ((rd_T42 l0 x5_1).f5), .bool ((rd_T42 l0 x5_1).f6)], .agg #[.int .i64 ((rd_T42 l1 x5_1).f0), .int .i64 ((rd_T42 l1 x5_1).f1), .int .i64 ((rd_T42 l1 x5_1).f2), .int .i64 ((rd_T42 l1 x5_1).f3), .int .i64 ((rd_T42 l1 x5_1).f4), .int .i64 ((rd_T42 l1 x5_1).f5), .bool ((rd_T42 l1 x5_1).f6)]] (by rfl) rfl rfl (by (try simp only [List.map_toArray, List.map_cons, List.map_nil]); first | done | rfl | (simp only [List.length_drop, List.length_take]; rfl)) ?_
        with_reducible refine (laws_eqRoute.calls ((rd_T42 l0 x5_1).f0) ((rd_T42 l0 x5_1).f1) ((rd_T42 l0 x5_1).f2) ((rd_T42 l0 x5_1).f3) ((rd_T42 l0 x5_1).f4) ((rd_T42 l0 x5_1).f5) ((rd_T42 l0 x5_1).f6) ((rd_T42 l1 x5_1).f0) ((rd_T42 l1 x5_1).f1) ((rd_T42 l1 x5_1).f2) ((rd_T42 l1 x5_1).f3) ((rd_T42 l1 x5_1).f4) ((rd_T42 l1 x5_1).f5) ((rd_T42 l1 x5_1).f6) true _ A7.out).mono ?_
        rintro e w10 ⟨rfl, hb⟩
        refine ⟨_, rfl, ?_⟩
        have n0_ := Aside0.mk (below_step (by repeat (first | (with_reducible first | exact HB.out | apply below_alloc | apply pw_below_drewN | apply below_drew1) | exact HB.out)) hb)
        clear HB
        have HB := n0_
        clear n0_
        (try clear hb)
        (try clear hb2)
        (try clear hk)
        (try clear hi)
        refine hK.out _ _ ⟨((HB.out.cell (World.block_lt_of_cell? w _ hw256_0)).trans hw256_0), ((HB.out.cell (World.block_lt_of_cell? w _ hw256_1)).trans hw256_1), ((HB.out.cell (World.block_lt_of_cell? w _ hw256_2)).trans hw256_2), ((HB.out.cell (World.block_lt_of_cell? w _ hw256_3)).trans hw256_3), ((HB.out.cell (World.block_lt_of_cell? w _ hw256_4)).trans hw256_4), ((HB.out.cell (World.block_lt_of_cell? w _ hw256_5)).trans hw256_5), ((HB.out.cell (World.block_lt_of_cell? w _ hw256_6)).trans hw256_6), ((HB.out.cell (World.block_lt_of_cell? w _ hw257_0)).trans hw257_0), ((HB.out.cell (World.block_lt_of_cell? w _ hw257_1)).trans hw257_1), ((HB.out.cell (World.block_lt_of_cell? w _ hw257_2)).trans hw257_2), ((HB.out.cell (World.block_lt_of_cell? w _ hw257_3)).trans hw257_3), ((HB.out.cell (World.block_lt_of_cell? w _ hw257_4)).trans hw257_4), ((HB.out.cell (World.block_lt_of_cell? w _ hw257_5)).trans hw257_5), ((HB.out.cell (World.block_lt_of_cell? w _ hw257_6)).trans hw257_6)⟩ (fun hHeld => ?_)
        clear hK K
        refine norm_ (a' := ?_) ?_ ?_
        rotate_left
        ·show Act.put _ (some 25) _ = _
         simp only [Act.put, List.setIfInBounds_toArray, List.set_cons_zero, List.set_cons_succ, i64_w, i32_w]
         rfl
        refine pure_ (i := 9) (N := some 26) (v := ?_) (a' := ?_) #[true, true, true, true, true, true, true, true, true, true] rfl rfl (any_of HT_.out (by kernel_rfl)) (fun _ _ _ h => h) (Or.inl ⟨by rfl, ?_⟩) ?_ ?_
        rotate_left
        ·intro w'
         go_simp
         with_reducible rfl
        rotate_left
        ·simp only [Act.put, List.setIfInBounds_toArray, List.set_cons_zero, List.set_cons_succ, i64_w, i32_w]
         rfl
        refine done_ (done_of HT_.out (by kernel_rfl)) ?_
        try go_wp2
        go_roundg k1
        case measure => have := HK1.out; omega
        case rel => exact ⟨(wrap64 (x5_1 + 1)), (by first | rfl | (simp; done) | (simp [*]; done)), H', ⟨by have := HK1.out; omega⟩, ⟨by repeat (first | (with_reducible first | exact HB.out | apply below_alloc | apply pw_below_drewN | apply below_drew1) | exact HB.out)⟩⟩
       ·replace c8 := Bool.eq_false_iff.mpr c8
        subst c8
        have H1 : (some false) = some r := by rw [if_neg (show ¬ (false = true) by decide)] at H; exact H
        clear H
        have H := H1
        clear H1
        obtain rfl := Option.some.inj H
        try go_wp2
        have n0_ := Aside0.mk (below_drew1 HB.out)
        clear HB
        have HB := n0_
        clear n0_
        have p256 : 0 ≤ (x5_1 : Int) := of_decide_eq_true (by first | (with_reducible assumption) | assumption)
        have q256 : x5_1 < (l0.length : Int) := of_decide_eq_true (by first | (with_reducible assumption) | assumption)
        obtain ⟨ad256, e256, hx256_0, hx256_1, hx256_2, hx256_3, hx256_4, hx256_5, hx256_6⟩ := at_T42 HR0.out x5_1 p256 q256
        have hw256_6 := hx256_6
        have hw256_5 := hx256_5
        have hw256_4 := hx256_4
        have hw256_3 := hx256_3
        have hw256_2 := hx256_2
        have hw256_1 := hx256_1
        have hw256_0 := hx256_0
        cases e256
        replace hx256_0 := (HB.out.cell (World.block_lt_of_cell? w _ hx256_0)).trans hx256_0
        replace hx256_1 := (HB.out.cell (World.block_lt_of_cell? w _ hx256_1)).trans hx256_1
        replace hx256_2 := (HB.out.cell (World.block_lt_of_cell? w _ hx256_2)).trans hx256_2
        replace hx256_3 := (HB.out.cell (World.block_lt_of_cell? w _ hx256_3)).trans hx256_3
        replace hx256_4 := (HB.out.cell (World.block_lt_of_cell? w _ hx256_4)).trans hx256_4
        replace hx256_5 := (HB.out.cell (World.block_lt_of_cell? w _ hx256_5)).trans hx256_5
        replace hx256_6 := (HB.out.cell (World.block_lt_of_cell? w _ hx256_6)).trans hx256_6
        replace p256 := eq_true p256
        replace q256 := eq_true q256
        have p257 : 0 ≤ (x5_1 : Int) := of_decide_eq_true (by first | (with_reducible assumption) | assumption)
        have q257 : x5_1 < (l1.length : Int) := of_decide_eq_true (by first | (with_reducible assumption) | assumption)
        obtain ⟨ad257, e257, hx257_0, hx257_1, hx257_2, hx257_3, hx257_4, hx257_5, hx257_6⟩ := at_T42 HR1.out x5_1 p257 q257
        have hw257_6 := hx257_6
        have hw257_5 := hx257_5
        have hw257_4 := hx257_4
        have hw257_3 := hx257_3
        have hw257_2 := hx257_2
        have hw257_1 := hx257_1
        have hw257_0 := hx257_0
        cases e257
        replace hx257_0 := (HB.out.cell (World.block_lt_of_cell? w _ hx257_0)).trans hx257_0
        replace hx257_1 := (HB.out.cell (World.block_lt_of_cell? w _ hx257_1)).trans hx257_1
        replace hx257_2 := (HB.out.cell (World.block_lt_of_cell? w _ hx257_2)).trans hx257_2
        replace hx257_3 := (HB.out.cell (World.block_lt_of_cell? w _ hx257_3)).trans hx257_3
        replace hx257_4 := (HB.out.cell (World.block_lt_of_cell? w _ hx257_4)).trans hx257_4
        replace hx257_5 := (HB.out.cell (World.block_lt_of_cell? w _ hx257_5)).trans hx257_5
        replace hx257_6 := (HB.out.cell (World.block_lt_of_cell? w _ hx257_6)).trans hx257_6
        replace p257 := eq_true p257
        replace q257 := eq_true q257
        refine start_ (n := 10) (S := fun w' => w'.cell? (ad256.add ((x5_1).toNat * 7)) = some (.int .i64 ((rd_T42 l0 x5_1).f0)) ∧ w'.cell? ⟨(ad256.add ((x5_1).toNat * 7)).block, (ad256.add ((x5_1).toNat * 7)).off + 1, none⟩ = some (.int .i64 ((rd_T42 l0 x5_1).f1)) ∧ w'.cell? ⟨(ad256.add ((x5_1).toNat * 7)).block, (ad256.add ((x5_1).toNat * 7)).off + 2, none⟩ = some (.int .i64 ((rd_T42 l0 x5_1).f2)) ∧ w'.cell? ⟨(ad256.add ((x5_1).toNat * 7)).block, (ad256.add ((x5_1).toNat * 7)).off + 3, none⟩ = some (.int .i64 ((rd_T42 l0 x5_1).f3)) ∧ w'.cell? ⟨(ad256.add ((x5_1).toNat * 7)).block, (ad256.add ((x5_1).toNat * 7)).off + 4, none⟩ = some (.int .i64 ((rd_T42 l0 x5_1).f4)) ∧ w'.cell? ⟨(ad256.add ((x5_1).toNat * 7)).block, (ad256.add ((x5_1).toNat * 7)).off + 5, none⟩ = some (.int .i64 ((rd_T42 l0 x5_1).f5)) ∧ w'.cell? ⟨(ad256.add ((x5_1).toNat * 7)).block, (ad256.add ((x5_1).toNat * 7)).off + 6, none⟩ = some (.bool ((rd_T42 l0 x5_1).f6)) ∧ w'.cell? (ad257.add ((x5_1).toNat * 7)) = some (.int .i64 ((rd_T42 l1 x5_1).f0)) ∧ w'.cell? ⟨(ad257.add ((x5_1).toNat * 7)).block, (ad257.add ((x5_1).toNat * 7)).off + 1, none⟩ = some (.int .i64 ((rd_T42 l1 x5_1).f1)) ∧ w'.cell? ⟨(ad257.add ((x5_1).toNat * 7)).block, (ad257.add ((x5_1).toNat * 7)).off + 2, none⟩ = some (.int .i64 ((rd_T42 l1 x5_1).f2)) ∧ w'.cell? ⟨(ad257.add ((x5_1).toNat * 7)).block, (ad257.add ((x5_1).toNat * 7)).off + 3, none⟩ = some (.int .i64 ((rd_T42 l1 x5_1).f3)) ∧ w'.cell? ⟨(ad257.add ((x5_1).toNat * 7)).block, (ad257.add ((x5_1).toNat * 7)).off + 4, none⟩ = some (.int .i64 ((rd_T42 l1 x5_1).f4)) ∧ w'.cell? ⟨(ad257.add ((x5_1).toNat * 7)).block, (ad257.add ((x5_1).toNat * 7)).off + 5, none⟩ = some (.int .i64 ((rd_T42 l1 x5_1).f5)) ∧ w'.cell? ⟨(ad257.add ((x5_1).toNat * 7)).block, (ad257.add ((x5_1).toNat * 7)).off + 6, none⟩ = some (.bool ((rd_T42 l1 x5_1).f6))) (ds := []) #[false, false, false, false, false, false, false, false, false, false] (by kernel_rfl) rfl rfl ⟨((HB.out.cell (World.block_lt_of_cell? w _ hw256_0)).trans hw256_0), ((HB.out.cell (World.block_lt_of_cell? w _ hw256_1)).trans hw256_1), ((HB.out.cell (World.block_lt_of_cell? w _ hw256_2)).trans hw256_2), ((HB.out.cell (World.block_lt_of_cell? w _ hw256_3)).trans hw256_3), ((HB.out.cell (World.block_lt_of_cell? w _ hw256_4)).trans hw256_4), ((HB.out.cell (World.block_lt_of_cell? w _ hw256_5)).trans hw256_5), ((HB.out.cell (World.block_lt_of_cell? w _ hw256_6)).trans hw256_6), ((HB.out.cell (World.block_lt_of_cell? w _ hw257_0)).trans hw257_0), ((HB.out.cell (World.block_lt_of_cell? w _ hw257_1)).trans hw257_1), ((HB.out.cell (World.block_lt_of_cell? w _ hw257_2)).trans hw257_2), ((HB.out.cell (World.block_lt_of_cell? w _ hw257_3)).trans hw257_3), ((HB.out.cell (World.block_lt_of_cell? w _ hw257_4)).trans hw257_4), ((HB.out.cell (World.block_lt_of_cell? w _ hw257_5)).trans hw257_5), ((HB.out.cell (World.block_lt_of_cell? w _ hw257_6)).trans hw257_6)⟩ (fun hHeld => ?_); refine with_tabW laws_eqRouteS.tab6 laws_eqRouteS.bits6 (fun HT_ HW_ => ?_)
        generalize wr.drew = w11 at HB hx256_0 hx256_1 hx256_2 hx256_3 hx256_4 hx256_5 hx256_6 hx257_0 hx257_1 hx257_2 hx257_3 hx257_4 hx257_5 hx257_6 hHeld ⊢
        refine pure_ (i := 0) (N := some 17) (v := ?_) (a' := ?_) #[true, false, false, false, false, false, false, false, false, false] rfl rfl (any_of HT_.out (by kernel_rfl)) (fun _ _ _ h => h) (Or.inl ⟨by rfl, ?_⟩) ?_ ?_
        rotate_left
        ·intro w'
         go_simp
         with_reducible rfl
        rotate_left
        ·simp only [Act.put, List.setIfInBounds_toArray, List.set_cons_zero, List.set_cons_succ, i64_w, i32_w]
         rfl
        refine pure_ (i := 1) (N := some 18) (v := ?_) (a' := ?_) #[true, true, false, false, false, false, false, false, false, false] rfl rfl (any_of HT_.out (by kernel_rfl)) (fun _ _ _ h => h) (Or.inl ⟨by rfl, ?_⟩) ?_ ?_
        rotate_left
        ·intro w'
         go_simp
         with_reducible rfl
        rotate_left
        ·simp only [Act.put, List.setIfInBounds_toArray, List.set_cons_zero, List.set_cons_succ, i64_w, i32_w]
         rfl
        refine pure_ (i := 2) (N := some 19) (v := ?_) (a' := ?_) #[true, true, true, false, false, false, false, false, false, false] rfl rfl (any_of HT_.out (by kernel_rfl)) (fun _ _ _ h => h) (Or.inl ⟨by rfl, ?_⟩) ?_ ?_
        rotate_left
        ·intro w'
         go_simp
         with_reducible rfl
        rotate_left
        ·simp only [Act.put, List.setIfInBounds_toArray, List.set_cons_zero, List.set_cons_succ, i64_w, i32_w]
         rfl
        refine pure_ (i := 4) (N := some 21) (v := ?_) (a' := ?_) #[true, true, true, false, true, false, false, false, false, false] rfl rfl (any_of HT_.out (by kernel_rfl)) (fun _ _ _ h => h) (Or.inl ⟨by rfl, ?_⟩) ?_ ?_
        rotate_left
        ·intro w'
         go_simp
         with_reducible rfl
        rotate_left
        ·simp only [Act.put, List.setIfInBounds_toArray, List.set_cons_zero, List.set_cons_succ, i64_w, i32_w]
         rfl
        refine pure_ (i := 5) (N := some 22) (v := ?_) (a' := ?_) #[true, true, true, false, true, true, false, false, false, false] rfl rfl (any_of HT_.out (by kernel_rfl)) (fun _ _ _ h => h) (Or.inl ⟨by rfl, ?_⟩) ?_ ?_
        rotate_left
        ·intro w'
         go_simp
         with_reducible rfl
        rotate_left
        ·simp only [Act.put, List.setIfInBounds_toArray, List.set_cons_zero, List.set_cons_succ, i64_w, i32_w]
         rfl
        refine pure_ (i := 6) (N := some 23) (v := ?_) (a' := ?_) #[true, true, true, false, true, true, true, false, false, false] rfl rfl (any_of HT_.out (by kernel_rfl)) (fun _ _ _ h => h) (Or.inl ⟨by rfl, ?_⟩) ?_ ?_
        rotate_left
        ·intro w'
         go_simp
         with_reducible rfl
        rotate_left
        ·simp only [Act.put, List.setIfInBounds_toArray, List.set_cons_zero, List.set_cons_succ, i64_w, i32_w]
         rfl
        refine take_ (i := 3) (N := some 20) (v := ?_) (a' := ?_) #[true, true, true, true, true, true, true, false, false, false] rfl rfl (take_ofW HT_.out HW_.out (by kernel_rfl)) (fun _ _ _ h => h) (Or.inl ⟨by rfl, ?_⟩) hHeld ?_ ?_
        rotate_left
        ·rintro w' ⟨s0, s1, s2, s3, s4, s5, s6, s7, s8, s9, s10, s11, s12, s13⟩
         go_simp
         with_reducible rfl
        rotate_left
        ·simp only [Act.put, List.setIfInBounds_toArray, List.set_cons_zero, List.set_cons_succ, i64_w, i32_w]
         rfl
        refine take_ (i := 7) (N := some 24) (v := ?_) (a' := ?_) #[true, true, true, true, true, true, true, true, false, false] rfl rfl (take_ofW HT_.out HW_.out (by kernel_rfl)) (fun _ _ _ h => h) (Or.inl ⟨by rfl, ?_⟩) hHeld ?_ ?_
        rotate_left
        ·rintro w' ⟨s0, s1, s2, s3, s4, s5, s6, s7, s8, s9, s10, s11, s12, s13⟩
         go_simp
         with_reducible rfl
        rotate_left
        ·simp only [Act.put, List.setIfInBounds_toArray, List.set_cons_zero, List.set_cons_succ, i64_w, i32_w]
         rfl
        refine one_ (i := 8) (N := some 25) #[true, true, true, true, true, true, true, true, true, false] rfl rfl (one_of HT_.out (by kernel_rfl)) (by decide) (fun K hK => ?_)
        refine goes_ Try.func59 (by kernel_rfl) rfl #[.agg #[.int .i64 ((rd_T42 l0 x5_1).f0), .int .i64 ((rd_T42 l0 x5_1).f1), .int .i64 ((rd_T42 l0 x5_1).f2), .int .i64 ((rd_T42 l0 x5_1).f3), .int .i64 ((rd_T42 l0 x5_1).f4), .int .i64 ((rd_T42 l0 x5_1).f5), .bool ((rd_T42 l0 x5_1).f6)], .agg #[.int .i64 ((rd_T42 l1 x5_1).f0), .int .i64 ((rd_T42 l1 x5_1).f1), .int .i64 ((rd_T42 l1 x5_1).f2), .int .i64 ((rd_T42 l1 x5_1).f3), .int .i64 ((rd_T42 l1 x5_1).f4), .int .i64 ((rd_T42 l1 x5_1).f5), .bool ((rd_T42 l1 x5_1).f6)]] (by rfl) rfl rfl (by (try simp only [List.map_toArray, List.map_cons, List.map_nil]); first | done | rfl | (simp only [List.length_drop, List.length_take]; rfl)) ?_
        with_reducible refine (laws_eqRoute.calls ((rd_T42 l0 x5_1).f0) ((rd_T42 l0 x5_1).f1) ((rd_T42 l0 x5_1).f2) ((rd_T42 l0 x5_1).f3) ((rd_T42 l0 x5_1).f4) ((rd_T42 l0 x5_1).f5) ((rd_T42 l0 x5_1).f6) ((rd_T42 l1 x5_1).f0) ((rd_T42 l1 x5_1).f1) ((rd_T42 l1 x5_1).f2) ((rd_T42 l1 x5_1).f3) ((rd_T42 l1 x5_1).f4) ((rd_T42 l1 x5_1).f5) ((rd_T42 l1 x5_1).f6) false _ A7.out).mono ?_
        rintro e w12 ⟨rfl, hb⟩
        refine ⟨_, rfl, ?_⟩
        have n0_ := Aside0.mk (below_step (by repeat (first | (with_reducible first | exact HB.out | apply below_alloc | apply pw_below_drewN | apply below_drew1) | exact HB.out)) hb)
        clear HB
        have HB := n0_
        clear n0_
        (try clear hb)
        (try clear hb2)
        (try clear hk)
        (try clear hi)
        refine hK.out _ _ ⟨((HB.out.cell (World.block_lt_of_cell? w _ hw256_0)).trans hw256_0), ((HB.out.cell (World.block_lt_of_cell? w _ hw256_1)).trans hw256_1), ((HB.out.cell (World.block_lt_of_cell? w _ hw256_2)).trans hw256_2), ((HB.out.cell (World.block_lt_of_cell? w _ hw256_3)).trans hw256_3), ((HB.out.cell (World.block_lt_of_cell? w _ hw256_4)).trans hw256_4), ((HB.out.cell (World.block_lt_of_cell? w _ hw256_5)).trans hw256_5), ((HB.out.cell (World.block_lt_of_cell? w _ hw256_6)).trans hw256_6), ((HB.out.cell (World.block_lt_of_cell? w _ hw257_0)).trans hw257_0), ((HB.out.cell (World.block_lt_of_cell? w _ hw257_1)).trans hw257_1), ((HB.out.cell (World.block_lt_of_cell? w _ hw257_2)).trans hw257_2), ((HB.out.cell (World.block_lt_of_cell? w _ hw257_3)).trans hw257_3), ((HB.out.cell (World.block_lt_of_cell? w _ hw257_4)).trans hw257_4), ((HB.out.cell (World.block_lt_of_cell? w _ hw257_5)).trans hw257_5), ((HB.out.cell (World.block_lt_of_cell? w _ hw257_6)).trans hw257_6)⟩ (fun hHeld => ?_)
        clear hK K
        refine norm_ (a' := ?_) ?_ ?_
        rotate_left
        ·show Act.put _ (some 25) _ = _
         simp only [Act.put, List.setIfInBounds_toArray, List.set_cons_zero, List.set_cons_succ, i64_w, i32_w]
         rfl
        refine pure_ (i := 9) (N := some 26) (v := ?_) (a' := ?_) #[true, true, true, true, true, true, true, true, true, true] rfl rfl (any_of HT_.out (by kernel_rfl)) (fun _ _ _ h => h) (Or.inl ⟨by rfl, ?_⟩) ?_ ?_
        rotate_left
        ·intro w'
         go_simp
         with_reducible rfl
        rotate_left
        ·simp only [Act.put, List.setIfInBounds_toArray, List.set_cons_zero, List.set_cons_succ, i64_w, i32_w]
         rfl
        refine done_ (done_of HT_.out (by kernel_rfl)) ?_
        try go_wp2
        go_ret
        exact ⟨by first | rfl | (simp [errW_none, errW_some] <;> rfl) | (simp [*, errW_none, errW_some] <;> rfl), by repeat (first | (with_reducible first | exact HB.out | apply below_alloc | apply pw_below_drewN | apply below_drew1) | exact HB.out)⟩
      ·rw [if_neg c6] at H
       exact absurd H (by simp)
     ·rw [if_neg c5] at H
      exact absurd H (by simp)
    ·rw [if_neg c4] at H
     have c4b0 : decide (x5_1 < (l0.length : Int)) = false := decide_eq_false c4
     clear c4
     obtain rfl := Option.some.inj H
     go_wp2
     go_ret
     exact ⟨by first | rfl | (simp [errW_none, errW_some] <;> rfl) | (simp [*, errW_none, errW_some] <;> rfl), by repeat (first | (with_reducible first | exact HB.out | apply below_alloc | apply pw_below_drewN | apply below_drew1) | exact HB.out)⟩
 ·rw [if_neg c3] at H
  have c3b0 : ((l0.length : Int) == (l1.length : Int)) = false := beq_eq_false_iff_ne.mpr c3
  have c3b1 : ((l0.length : Int) != (l1.length : Int)) = true := bne_iff_ne.mpr c3
  have c3b2 : (l0.length == l1.length) = false := by first | simpa using c3 | (simp at c3 ⊢; omega)
  obtain rfl := Option.some.inj H
  go_enter Try.func17, Try.ntmps17
  go_wp2
  go_ret
  exact ⟨by first | rfl | (simp [errW_none, errW_some] <;> rfl) | (simp [*, errW_none, errW_some] <;> rfl), by repeat (first | (with_reducible first | exact HB.out | apply below_alloc | apply pw_below_drewN | apply below_drew1) | exact HB.out)⟩
end Go.Proofs.Ytmgmaflfednngaa.PFnExactRibStale
