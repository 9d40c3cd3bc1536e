-- A copy, by trim.py of this session's wip/gen, of a text of this claim, without what the row does not reach and without comments: not an official print.
import Derived.Test.YtifahfnbjidfhaaZExactGuestPutPFnExactGuestPutx0
import Derived.Test.YtifahfnbjidfhaaZExactGuestPutPFnExactGuestPutx5
import Derived.Test.YtifahfnbjidfhaaZExactGuestPutPFnExactGuestPutx6
import Derived.Test.YtifahfnbjidfhaaZExactGuestPutPFnExactGuestPutx7
import Derived.Test.YtifahfnbjidfhaaZExactGuestPutPFnExactGuestPutx9
import Derived.Lib.SliceRun
import Derived.Test.YtifahfnbjidfhaaZExactGuestPutBase
import Derived.Test.YtifahfnbjidfhaaZExactGuestPutSlices
import Derived.Test.YtifahfnbjidfhaaZExactGuestPutInsert
import Derived.Shelf.Abstract
import Derived.Deep.RegionLaw
import Derived.Shelf.RegionOpenPlain
namespace Go.Proofs.Ytifahfnbjidfhaa.PFnExactGuestPut
open Go.RowKit Go.Proofs.YtifahfnbjidfhaaW.PrintWords Go.Proofs.YtifahfnbjidfhaaW.PrintLast Go.Proofs.YtifahfnbjidfhaaW.PrintMore
attribute [local go_sem] max2_int min2_int max_two min_two max_three min_three max_four min_four   -- for this text's walks alone
set_option linter.unusedVariables false
set_option linter.unusedSimpArgs false
def impl_guestsCode.f (k : Nat) (l0 : List (S52)) (a1 : Bool) : Option (Int) := if (l0.length : Int) > 400 then (some 2) else ((impl_GuestsRight.f k l0).bind fun t263 => (if t263 = true then (if a1 = true then (some 0) else (some 1)) else (some 1)))
theorem impl_guestsCode.mono : ∀ a0 a1 k, LeO (impl_guestsCode.f k a0 a1) (impl_guestsCode.f (k + 1) a0 a1) := by
 intro a0 a1 k
 unfold impl_guestsCode.f
 repeat' first
   | (with_reducible exact impl_GuestsRight.mono _ _)
   | (with_reducible exact LeO.refl _)
   | (with_reducible exact LeO.none _)
   | (with_reducible refine LeO.ite ?_ ?_)
   | (with_reducible refine LeO.bind ?_ (fun _ => ?_))
   | exact impl_GuestsRight.mono _ _
   | exact LeO.none _
   | refine LeO.ite ?_ ?_
   | refine LeO.bind ?_ (fun _ => ?_)
set_option maxHeartbeats 8000000 in
set_option maxRecDepth 100000 in
theorem impl_guestsCode.calls (k : Nat) (A0 : Option Addr) (c0 : Nat) (l0 : List (S52)) (a1 : Bool) (r : Int) (w : World) (hr0 : Kd.C k52 w A0 l0.length l0) (hc0 : l0.length ≤ c0) (h : impl_guestsCode.f k l0 a1 = some r) :
  Calls Try.prog 88 #[.slice A0 l0.length c0, .bool a1] w fun e w' => e = .returned (.int .i64 r) ∧ Below w.heap.size w w' := by
 have HR0 := Aside0.mk hr0
 have HC0 := Aside0.mk hc0
 clear hr0 hc0
 have HB := Aside0.mk (Below.refl w.heap.size w)
 have H : (if (l0.length : Int) > 400 then (some 2) else ((impl_GuestsRight.f k l0).bind fun t263 => (if t263 = true then (if a1 = true then (some 0) else (some 1)) else (some 1)))) = some r := h
 clear h
 by_cases c3 : (l0.length : Int) > 400
 ·rw [if_pos c3] at H
  have c3b0 : decide (400 < (l0.length : Int)) = true := decide_eq_true c3
  have c3b1 : decide (400 < l0.length) = true := decide_eq_true (by omega)
  clear c3
  obtain rfl := Option.some.inj H
  go_enter Try.func88, Try.ntmps88
  go_wp2
  go_ret
  exact ⟨by first | rfl | (simp [errW_none, errW_some] <;> rfl) | (simp [*, errW_none, errW_some] <;> rfl), by repeat (first | (with_reducible first | exact HB.out | apply below_alloc | apply pw_below_drewN | apply below_drew1) | exact HB.out)⟩
 ·rw [if_neg c3] at H
  have c3b0 : decide (400 < (l0.length : Int)) = false := decide_eq_false c3
  have c3b1 : decide (400 < l0.length) = false := decide_eq_false (by omega)
  clear c3
  replace H := Option.bind_eq_some_iff.mp H
  obtain ⟨t263, A40, H⟩ := H
  replace H : (if t263 = true then (if a1 = true then (some 0) else (some 1)) else (some 1)) = some r := H
  have A4 := Aside0.mk A40
  clear A40
  by_cases c5 : t263 = true
  ·subst c5
   have H1 : (if a1 = true then (some 0) else (some 1)) = some r := by rw [if_pos rfl] at H; exact H
   clear H
   have H := H1
   clear H1
   by_cases c6 : a1 = true
   ·subst c6
    have H1 : (some 0) = some r := by rw [if_pos rfl] at H; exact H
    clear H
    have H := H1
    clear H1
    obtain rfl := Option.some.inj H
    go_enter Try.func88, Try.ntmps88
    go_wp2_with (first | ((with_reducible refine gate_callee (f := 33) rfl ?_); refine goesL_ (some 11) rfl rfl Try.func33 (by kernel_rfl) rfl #[.slice A0 l0.length c0] rfl (by (try simp only [List.map_toArray, List.map_cons, List.map_nil]); first | done | rfl | (simp only [List.length_drop, List.length_take]; rfl)) ?_; (with_reducible refine (impl_GuestsRight.calls k _ _ l0 true _ ?side1 ?side2 A4.out).mono ?_); (case side1 => repeat (first | exact HR0.out | (with_reducible refine Kd.C_alloc ?_ _) | (with_reducible refine Kd.C_drewN ?_ _) | (with_reducible refine Kd.C_drew ?_))); (case side2 => exact HC0.out); rintro e w7 ⟨rfl, hb⟩; refine ⟨_, rfl, ?_⟩; have n0_ := Aside0.mk (below_step (by repeat (first | (with_reducible first | exact HB.out | apply below_alloc | apply pw_below_drewN | apply below_drew1) | exact HB.out)) hb); clear HB; have HB := n0_; clear n0_; (try clear hb); (try clear hb2); (try clear hk); (try clear hi)))
    go_ret
    exact ⟨by first | rfl | (simp [errW_none, errW_some] <;> rfl) | (simp [*, errW_none, errW_some] <;> rfl), by repeat (first | (with_reducible first | exact HB.out | apply below_alloc | apply pw_below_drewN | apply below_drew1) | exact HB.out)⟩
   ·replace c6 := Bool.eq_false_iff.mpr c6
    subst c6
    have H1 : (some 1) = some r := by rw [if_neg (show ¬ (false = true) by decide)] at H; exact H
    clear H
    have H := H1
    clear H1
    obtain rfl := Option.some.inj H
    go_enter Try.func88, Try.ntmps88
    go_wp2_with (first | ((with_reducible refine gate_callee (f := 33) rfl ?_); refine goesL_ (some 11) rfl rfl Try.func33 (by kernel_rfl) rfl #[.slice A0 l0.length c0] rfl (by (try simp only [List.map_toArray, List.map_cons, List.map_nil]); first | done | rfl | (simp only [List.length_drop, List.length_take]; rfl)) ?_; (with_reducible refine (impl_GuestsRight.calls k _ _ l0 true _ ?side1 ?side2 A4.out).mono ?_); (case side1 => repeat (first | exact HR0.out | (with_reducible refine Kd.C_alloc ?_ _) | (with_reducible refine Kd.C_drewN ?_ _) | (with_reducible refine Kd.C_drew ?_))); (case side2 => exact HC0.out); rintro e w8 ⟨rfl, hb⟩; refine ⟨_, rfl, ?_⟩; have n0_ := Aside0.mk (below_step (by repeat (first | (with_reducible first | exact HB.out | apply below_alloc | apply pw_below_drewN | apply below_drew1) | exact HB.out)) hb); clear HB; have HB := n0_; clear n0_; (try clear hb); (try clear hb2); (try clear hk); (try clear hi)))
    go_ret
    exact ⟨by first | rfl | (simp [errW_none, errW_some] <;> rfl) | (simp [*, errW_none, errW_some] <;> rfl), by repeat (first | (with_reducible first | exact HB.out | apply below_alloc | apply pw_below_drewN | apply below_drew1) | exact HB.out)⟩
  ·replace c5 := Bool.eq_false_iff.mpr c5
   subst c5
   have H1 : (some 1) = some r := by rw [if_neg (show ¬ (false = true) by decide)] at H; exact H
   clear H
   have H := H1
   clear H1
   obtain rfl := Option.some.inj H
   go_enter Try.func88, Try.ntmps88
   go_wp2_with (first | ((with_reducible refine gate_callee (f := 33) rfl ?_); refine goesL_ (some 11) rfl rfl Try.func33 (by kernel_rfl) rfl #[.slice A0 l0.length c0] rfl (by (try simp only [List.map_toArray, List.map_cons, List.map_nil]); first | done | rfl | (simp only [List.length_drop, List.length_take]; rfl)) ?_; (with_reducible refine (impl_GuestsRight.calls k _ _ l0 false _ ?side1 ?side2 A4.out).mono ?_); (case side1 => repeat (first | exact HR0.out | (with_reducible refine Kd.C_alloc ?_ _) | (with_reducible refine Kd.C_drewN ?_ _) | (with_reducible refine Kd.C_drew ?_))); (case side2 => exact HC0.out); rintro e w9 ⟨rfl, hb⟩; refine ⟨_, rfl, ?_⟩; have n0_ := Aside0.mk (below_step (by repeat (first | (with_reducible first | exact HB.out | apply below_alloc | apply pw_below_drewN | apply below_drew1) | exact HB.out)) hb); clear HB; have HB := n0_; clear n0_; (try clear hb); (try clear hb2); (try clear hk); (try clear hi)))
   go_ret
   exact ⟨by first | rfl | (simp [errW_none, errW_some] <;> rfl) | (simp [*, errW_none, errW_some] <;> rfl), by repeat (first | (with_reducible first | exact HB.out | apply below_alloc | apply pw_below_drewN | apply below_drew1) | exact HB.out)⟩
def impl_Guest_127.f (l0 : List (S52)) : Option ((List (S52))) := (some (([] : List (S52)) : List (S52))).bind fun y264 => (if y264.length + l0.length < 2513169434916 then (some (y264 ++ l0)) else (none))
set_option maxHeartbeats 8000000 in
set_option maxRecDepth 100000 in
theorem impl_Guest_127.calls (A0 : Option Addr) (c0 : Nat) (l0 : List (S52)) (r : List (S52)) (w : World) (hr0 : Kd.C k52 w A0 l0.length l0) (hc0 : l0.length ≤ c0) (h : impl_Guest_127.f l0 = some r) :
  Calls Try.prog 127 #[.slice A0 l0.length c0] w fun e w' => ∃ v0_ : Value, e = .returned (v0_) ∧ Kd.R k52 52 w' w.heap.size (fun _ => True) v0_ r ∧ Below w.heap.size w w' := by
 have HR0 := Aside0.mk hr0
 have HC0 := Aside0.mk hc0
 clear hr0 hc0
 have HB := Aside0.mk (Below.refl w.heap.size w)
 have H : ((some (([] : List (S52)) : List (S52))).bind fun y264 => (if y264.length + l0.length < 2513169434916 then (some (y264 ++ l0)) else (none))) = some r := h
 clear h
 obtain ⟨y264, hy264⟩ : ∃ y_ : List (S52), y_ = (([] : List (S52))) := ⟨_, rfl⟩
 replace H : (if y264.length + l0.length < 2513169434916 then (some (y264 ++ l0)) else (none)) = some r := by first | (rw [hy264]; with_reducible exact H) | (have H2_ := (Option.bind_some _ _).symm.trans H; rw [hy264]; with_reducible exact H2_) | (have H2_ := (Option.bind_some _ _).symm.trans H; with_reducible exact H2_) | with_reducible exact H | (rw [hy264]; exact H) | exact H
 have Ny264 := Aside0.mk hy264
 clear hy264
 by_cases c2 : y264.length + l0.length < 2513169434916
 ·rw [if_pos c2] at H
  have LMc2 := Aside0.mk c2
  clear c2
  obtain ⟨y267, hy267⟩ : ∃ y_ : List (S52), y_ = (y264 ++ l0) := ⟨_, rfl⟩
  replace H : (some y267) = some r := by first | (rw [hy267]; with_reducible exact H) | (have H2_ := (Option.bind_some _ _).symm.trans H; rw [hy267]; with_reducible exact H2_) | (have H2_ := (Option.bind_some _ _).symm.trans H; with_reducible exact H2_) | with_reducible exact H | (rw [hy267]; exact H) | exact H
  have Ny267 := Aside0.mk hy267
  clear hy267
  obtain rfl := Option.some.inj H
  rcases A0 with _ | a0_
  ·have hl_ : l0 = [] := by
    rcases l0 with _ | ⟨x_, l0_⟩
    ·rfl
    ·obtain ⟨ad_, e_, _⟩ := HR0.out.2.2 (by simp)
     cases e_
   have hy_ : y267 = [] := by rw [Ny267.out, Ny264.out, hl_]; rfl
   have hq_ : ∀ (W : World) (n c : Nat), (binOp .eql 47 (.slice none n c) (.slice none 0 0)).run Try.prog W = .ok (.bool true) W := fun W n c => Lib.run_eql_slice_nil W 47 52 none n c 0 0 Try.underlying47
   go_enter Try.func127, Try.ntmps127
   go_wp2
   go_ret
   exact ⟨_, rfl, by first | exact Kd.R_nil k52 52 _ _ _ | (rw [hy_]; exact Kd.R_nil _ _ _ _ _), by repeat (first | (with_reducible first | exact HB.out | apply below_alloc | apply pw_below_drewN | apply below_drew1) | exact HB.out)⟩
  ·have hq_ : ∀ (W : World) (n c : Nat), (binOp .eql 47 (.slice (some a0_) n c) (.slice none 0 0)).run Try.prog W = .ok (.bool false) W := fun W n c => Lib.run_eql_slice_nil W 47 52 (some a0_) n c 0 0 Try.underlying47
   go_enter Try.func127, Try.ntmps127
   go_wp2_with (first | ((with_reducible refine gate_dst (N := 5) rfl ?_); refine Kd.R_lit k52 _ 52 ?hg (N := 5) ?hd (xs := ([] : List (S52))) (inner := []) (ok := fun _ => True) (okp := fun _ => True) ?hr ?hp (fun _ hk => hk) trivial (Below.refl _ _) (Nat.le_refl _) (by simp) ?_; (case hd => rfl); (case hg => rfl); (case hr => first | (go_simp; done) | (go_simp; rfl)); (case hp => exact (Reps.none _ _)); intro v265 w3 ho4 hb hg_ hnew_; clear hg_ hnew_; (first | rw [← Ny264.out] at ho4 | (simp only [Int.reduceToNat] at ho4; rw [← Ny264.out] at ho4)); have n0_ := Aside0.mk (Kd.R_lower ho4 (below_size (by repeat (first | (with_reducible first | exact HB.out | apply below_alloc | apply pw_below_drewN | apply below_drew1) | exact HB.out)))); have n1_ := Aside0.mk (below_step (by repeat (first | (with_reducible first | exact HB.out | apply below_alloc | apply pw_below_drewN | apply below_drew1) | exact HB.out)) hb); clear HB; have HO266 := n0_; have HB := n1_; clear n0_ n1_; clear hb ho4) | ((with_reducible refine gate_builtin (b := .append) (xs := #[.tmp 5, .tmp 6]) rfl ?_); at_builtin; refine Kd.R_append_rows k52 (w0 := w) w.heap.size rfl (.tmp 5) (.tmp 6) 47 52 (.agg #[(.int .i64 0), (.int .i64 0), (.int .i64 0), (.int .i64 0), (.int .i64 0), (.int .i64 0), (.bool false)]) 56 rfl Try.underlying47 info52 rfl (by decide) (by omega) v265 y264 l0 _ _ _ (fun _ => True) (fun _ => False) rfl rfl ?aO ?aR (fun _ _ h => h) (fun _ h => h.elim) ?aF ?aB ?aS ?aL ?_; (case aR => repeat (first | exact (Kd.C_below HR0.out HB.out) | (with_reducible refine Kd.C_alloc ?_ _) | (with_reducible refine Kd.C_drewN ?_ _) | (with_reducible refine Kd.C_drew ?_))); (case aB => exact (by repeat (first | (with_reducible first | exact HB.out | apply below_alloc | apply pw_below_drewN | apply below_drew1) | exact HB.out))); (case aF => exact (fun _ _ => trivial)); (case aO => exact (by (with_reducible repeat (first | apply Kd.R_alloc | apply Kd.R_drewN | apply Kd.R_drew)); exact HO266.out)); (case aS => exact (below_size (by repeat (first | (with_reducible first | exact HB.out | apply below_alloc | apply pw_below_drewN | apply below_drew1) | exact HB.out)))); (case aL => have := LMc2.out; omega); intro v268 w5 ho hb hg hat; rw [← Ny267.out] at ho; have n0_ := Aside0.mk (hb); have n1_ := Aside0.mk (ho); clear HB; clear HO266; have HB := n0_; have HO269 := n1_; clear n0_ n1_; clear ho hb hg hat))
   go_ret
   exact ⟨_, by first | rfl | (simp [errW_none, errW_some] <;> rfl) | (simp [*, errW_none, errW_some] <;> rfl), by (with_reducible repeat (first | apply Kd.R_alloc | apply Kd.R_drewN | apply Kd.R_drew)); exact HO269.out, by repeat (first | (with_reducible first | exact HB.out | apply below_alloc | apply pw_below_drewN | apply below_drew1) | exact HB.out)⟩
 ·rw [if_neg c2] at H
  exact absurd H (by simp)
def impl_GuestPut.j0 : Nat → List (S52) → Bool → Int → Int → Int → Int → Int → Int → Bool → Option ((List (S52)) × (List (S52)) × Int)
 | 0, _, _, _, _, _, _, _, _, _ => none
 | k + 1, x0, x16, x294000, x294001, x294002, x294003, x294004, x294005, x294006 => if x16 = true then ((spec_l07Ill.f 1).bind fun bt304 => (some (bt304.1, bt304.2.1, bt304.2.2))) else ((spec_l07Put.f k x0 x294000 x294001 x294002 x294003 x294004 x294005 x294006).bind fun bt311 => (some (bt311.1, bt311.2.1, bt311.2.2)))
def impl_GuestPut.f (k : Nat) (l0 : List (S52)) (a1_0 : Int) (a1_1 : Int) (a1_2 : Int) (a1_3 : Int) (a1_4 : Int) (a1_5 : Int) (a1_6 : Bool) : Option ((List (S52)) × (List (S52)) × Int) := (impl_Guest_isRight.f a1_0 a1_1 a1_2 a1_3 a1_4 a1_5 a1_6).bind fun t289 => ((impl_Guest_127.f l0).bind fun t290 => (if (l0.length : Int) > 400 then ((spec_l07Ill.f 2).bind fun bt295 => (some (bt295.1, bt295.2.1, bt295.2.2))) else ((impl_GuestsRight.f k l0).bind fun t302 => (if t302 = true then ((impl_Guest_isRight.f a1_0 a1_1 a1_2 a1_3 a1_4 a1_5 a1_6).bind fun t303 => (impl_GuestPut.j0 k l0 (!t303) a1_0 a1_1 a1_2 a1_3 a1_4 a1_5 a1_6)) else (impl_GuestPut.j0 k l0 true a1_0 a1_1 a1_2 a1_3 a1_4 a1_5 a1_6)))))
theorem impl_GuestPut.mono_l : ∀ k, (∀ y0 y1 y2 y3 y4 y5 y6 y7 y8, LeO (impl_GuestPut.j0 k y0 y1 y2 y3 y4 y5 y6 y7 y8) (impl_GuestPut.j0 (k + 1) y0 y1 y2 y3 y4 y5 y6 y7 y8))
 | 0 => fun _ _ _ _ _ _ _ _ _ r h => by simp [impl_GuestPut.j0] at h
 | k + 1 => by
  have ih0 := impl_GuestPut.mono_l k
  ·intro y0 y1 y2 y3 y4 y5 y6 y7 y8
   unfold impl_GuestPut.j0
   repeat' first
   | (with_reducible exact ih0 _ _ _ _ _ _ _ _ _)
   | (with_reducible exact impl_GuestsRight.mono _ _)
   | (with_reducible exact spec_l07Put.mono _ _ _ _ _ _ _ _ _)
   | (with_reducible exact LeO.refl _)
   | (with_reducible exact LeO.none _)
   | (with_reducible refine LeO.ite ?_ ?_)
   | (with_reducible refine LeO.bind ?_ (fun _ => ?_))
   | exact ih0 _ _ _ _ _ _ _ _ _
   | exact impl_GuestsRight.mono _ _
   | exact spec_l07Put.mono _ _ _ _ _ _ _ _ _
   | exact LeO.none _
   | refine LeO.ite ?_ ?_
   | refine LeO.bind ?_ (fun _ => ?_)
theorem impl_GuestPut.mono : ∀ a0 a1 a2 a3 a4 a5 a6 a7 k, LeO (impl_GuestPut.f k a0 a1 a2 a3 a4 a5 a6 a7) (impl_GuestPut.f (k + 1) a0 a1 a2 a3 a4 a5 a6 a7) := by
 intro a0 a1 a2 a3 a4 a5 a6 a7 k
 have ih0 := impl_GuestPut.mono_l k
 unfold impl_GuestPut.f
 repeat' first
   | (with_reducible exact ih0 _ _ _ _ _ _ _ _ _)
   | (with_reducible exact impl_GuestsRight.mono _ _)
   | (with_reducible exact spec_l07Put.mono _ _ _ _ _ _ _ _ _)
   | (with_reducible exact LeO.refl _)
   | (with_reducible exact LeO.none _)
   | (with_reducible refine LeO.ite ?_ ?_)
   | (with_reducible refine LeO.bind ?_ (fun _ => ?_))
   | exact ih0 _ _ _ _ _ _ _ _ _
   | exact impl_GuestsRight.mono _ _
   | exact spec_l07Put.mono _ _ _ _ _ _ _ _ _
   | exact LeO.none _
   | refine LeO.ite ?_ ?_
   | refine LeO.bind ?_ (fun _ => ?_)
set_option maxHeartbeats 4000000 in
set_option maxRecDepth 100000 in
theorem insert_shift (b n c i vb : Nat) (cs vs : List Value) (w : World) (hi : i < n) (hroom : n + 1 ≤ c) (hc63 : c ≤ 9223372036854775807) (hvb : vb ≠ b)
  (hcl : cs.length = n * 7) (hvl : vs.length = 7) (hcs : ∀ j v, cs[j]? = some v → w.cell? ⟨b, j, none⟩ = some v) (hsp : ∀ j, j < (n + 1) * 7 → (w.cell? ⟨b, j, none⟩).isSome = true) (hfz : ∀ j, w.frozen? ⟨b, j, none⟩ = false)
  (hvs : ∀ j v, vs[j]? = some v → w.cell? ⟨vb, j, none⟩ = some v) (h1c : ∀ v ∈ cs, v.oneCell' = true) (h1v : ∀ v ∈ vs, v.oneCell' = true)
  (tA tB : TypeId) (kA kB : Nat) (hsa : w.shape? vb = some (tA, kA)) (hsb : w.shape? b = some (tB, kB)) (hkB : kB ≠ 0) (hfa : ∀ j, w.frozen? ⟨vb, j, none⟩ = false) :
  Calls Try.prog 129 #[.slice (some ⟨b, 0, none⟩) n c, .int .i64 i, .slice (some ⟨vb, 0, none⟩) 1 1] w fun e w' =>
   e = .returned (.slice (some ⟨b, 0, none⟩) (n + 1) c) ∧ w' = (w.drew.setCells b (i * 7 + 7) (cs.drop (i * 7))).setCells b (i * 7) vs := by
 obtain ⟨hzv, inf, hinf, hisz⟩ := Go.Proofs.Ytifahfnbjidfhaa.Base.zero_info info52
 have hsz : (Try.prog.info? 52).map (·.size) = some 7 := by rw [hinf]; simp [hisz]
 have hne : ((i : Int) == (n : Int)) = false := beq_eq_false_iff_ne.2 (by omega)
 have hgt : decide ((c : Int) < (n : Int) + 1) = false := decide_eq_false (by omega)
 have hov : ∀ off lb cb, (callFunc 134 #[.slice (some ⟨vb, 0, none⟩) 1 1, .slice (some ⟨b, off, none⟩) lb cb]).run Try.prog w = .ok (.value (.bool false)) w := fun off lb cb => by
  rw [run_callFunc_extern Try.func134 (by kernel_rfl) (by kernel_rfl) (by kernel_rfl) (e := Extern.SlicesOverlaps.overlaps #[47, 47] #[4]) (by kernel_rfl),
   Lib.run_overlaps_apart w 47 4 52 Try.underlying47 7 (fun W => by simp [sizeOf, typeInfo, hinf, hisz]) ⟨vb, 0, none⟩ ⟨b, off, none⟩ 1 1 lb cb hvb tA tB kA kB hsa hsb hkB (hfa _) (hfa _)]
  rfl
 have hdl : (cs.drop (i * 7)).length = (n - i) * 7 := by rw [List.length_drop, hcl, Nat.sub_mul]
 have hm1 : (i + 1) * 7 = i * 7 + 7 := Nat.succ_mul _ _
 have hm2 : (n + 1) * 7 = n * 7 + 7 := Nat.succ_mul _ _
 have hm3 : (n - i) * 7 = n * 7 - i * 7 := Nat.sub_mul _ _ _
 have hm4 : i * 7 + 7 ≤ n * 7 := by rw [← Nat.succ_mul]; exact Nat.mul_le_mul_right _ hi
 have mixed : Try.prog.follows .mixedOrders = true := by kernel_rfl
 have hcp1 : ∀ ty dc sc, (Builtin.copy_ #[47, 47] ty #[.slice (some ⟨b, i * 7 + 7, none⟩) (n - i) dc, .slice (some ⟨b, i * 7, none⟩) (n + 1 - i) sc]).run Try.prog w.drew = .ok (goInt ((n - i : Nat) : Int)) (w.drew.setCells b (i * 7 + 7) (cs.drop (i * 7))) := fun ty dc sc =>
  Go.Proofs.Ytifahfnbjidfhaa.Base.run_copy_wide w.drew _ _ ty 52 b (i * 7 + 7) (n - i) dc ⟨b, i * 7, none⟩ (n + 1 - i) sc (cs.drop (i * 7)) 7 (n - i) Try.underlying47 hsz (by simp only [Nat.min_def]; split <;> omega) hdl
   (fun j v hj => by rw [Addr.add_lit]; exact hcs _ v (by rwa [List.getElem?_drop] at hj))
   (fun j hj => hsp _ (by rw [hdl] at hj; omega)) (fun j hj => hfz _) (fun v hv => h1c v (List.mem_of_mem_drop hv))
 obtain ⟨W1, hW1⟩ : ∃ W1, W1 = w.drew.setCells b (i * 7 + 7) (cs.drop (i * 7)) := ⟨_, rfl⟩
 have hsp1 : ∀ k, k < (n + 1) * 7 → (W1.cell? ⟨b, k, none⟩).isSome = true := fun k hk => by
  rw [hW1]
  exact isSome_setCells b (cs.drop (i * 7)) (i * 7 + 7) w.drew (fun j hj => hsp _ (by rw [hdl] at hj; omega)) k (hsp k hk)
 have hcp2 : ∀ (W : World), (∀ x, W.cell? x = W1.cell? x) → (∀ x, W.frozen? x = W1.frozen? x) → ∀ ty dc, (Builtin.copy_ #[47, 47] ty #[.slice (some ⟨b, i * 7, none⟩) (n + 1 - i) dc, .slice (some ⟨vb, 0, none⟩) 1 1]).run Try.prog W = .ok (goInt ((1 : Nat) : Int)) (W.setCells b (i * 7) vs) := fun W hWc hWf ty dc =>
  Go.Proofs.Ytifahfnbjidfhaa.Base.run_copy_wide W _ _ ty 52 b (i * 7) (n + 1 - i) dc ⟨vb, 0, none⟩ 1 1 vs 7 1 Try.underlying47 hsz (by simp only [Nat.min_def]; split <;> omega) (by rw [hvl])
   (fun j v hj => by
    rw [Addr.add_lit, hWc, hW1, World.cell?_setCells_out b _ _ _ _ (fun h _ => absurd h hvb)]
    have := hvs j v hj
    simpa using this)
   (fun j hj => by rw [hWc]; exact hsp1 _ (by rw [hvl] at hj; omega)) (fun j hj => by rw [hWf, hW1, World.frozen?_setCells]; exact hfz _) h1v
 rw [← hW1] at hcp1
 have HW1 := Aside0.mk hW1
 have hw1 : IntKind.i64.wrap ((i : Int) + 1) = (i : Int) + 1 := by rw [IntKind.wrap_i64]; omega
 have hb1 : (0 : Int) ≤ (i : Int) + 1 := by omega
 have hin : i ≤ n := by omega
 have htn : ((i : Int) + 1).toNat = i + 1 := by omega
 have hb2 : ¬ (c = i + 1) := by omega
 have hb3 : (i : Int) ≤ (n : Int) + 1 := by omega
 have hb4 : ¬ (c = i) := by omega
 have hb5 : (i : Int) + 1 ≤ (n : Int) + 1 := by omega
 clear hcs hsp hfz hvs h1c h1v hsa hsb hfa hcl hsp1 hW1 hzv
 go_enter Try.func129, Try.ntmps129
 go_wp2_with (simp only [hov])
 go_region_law_o (refine step_copy_runI rfl _ _ 47 47 rfl _ _ (by simp [Act.eval, Act.put]) (by simp [Act.eval, Act.put]) (hcp1 _ _ _) ?_)
 go_wp2_with (at_builtin; refine wpList_copy_runI _ rfl _ _ 47 47 rfl _ _ rfl rfl (hcp2 _ (fun _ => rfl) (fun _ => rfl) _ _) ?_)
 go_ret
 exact ⟨rfl, by rw [HW1.out]⟩
set_option maxHeartbeats 4000000 in
set_option maxRecDepth 100000 in
theorem insert_grow (b n c i vb : Nat) (cs vs : List Value) (w : World) (hi : i < n) (hnc : n ≤ c) (hroom : c < n + 1) (hbig : n ≤ 1048576)
  (hcl : cs.length = n * 7) (hvl : vs.length = 7) (hcs : ∀ j v, cs[j]? = some v → w.cell? ⟨b, j, none⟩ = some v)
  (hvs : ∀ j v, vs[j]? = some v → w.cell? ⟨vb, j, none⟩ = some v) (h1c : ∀ v ∈ cs, v.oneCell' = true) (h1v : ∀ v ∈ vs, v.oneCell' = true) :
  Calls Try.prog 129 #[.slice (some ⟨b, 0, none⟩) n c, .int .i64 i, .slice (some ⟨vb, 0, none⟩) 1 1] w fun e w' => ∃ (G : Nat) (Z : List Value), n + 1 ≤ G ∧ G ≤ 9223372036854775807 ∧ (cs.take (i * 7) ++ Z).length = G * 7 ∧
   e = .returned (.slice (some ⟨w.heap.size, 0, none⟩) (n + 1) G) ∧ w' = (((w.alloc (.cells (cs.take (i * 7) ++ Z).toArray 52)).drew.setCells w.heap.size (i * 7) vs).drew).setCells w.heap.size (i * 7 + 7) (cs.drop (i * 7)) := by
 obtain ⟨inf, hinf, hq⟩ := Option.map_eq_some_iff.1 info52
 simp only [Prod.mk.injEq] at hq
 obtain ⟨hz0, hzs, hzb⟩ := hq
 have hsz : (Try.prog.info? 52).map (·.size) = some 7 := by rw [hinf]; simp [hzs]
 have hm1 : (i + 1) * 7 = i * 7 + 7 := Nat.succ_mul _ _
 have hm2 : (n + 1) * 7 = n * 7 + 7 := Nat.succ_mul _ _
 have hm3 : (n - i) * 7 = n * 7 - i * 7 := Nat.sub_mul _ _ _
 have hm4 : i * 7 + 7 ≤ n * 7 := by rw [← Nat.succ_mul]; exact Nat.mul_le_mul_right _ hi
 have hne : ((i : Int) == (n : Int)) = false := beq_eq_false_iff_ne.2 (by omega)
 have hgt : decide ((c : Int) < (n : Int) + 1) = true := decide_eq_true (by omega)
 have hbw : b < w.heap.size := World.block_lt_of_cell? w _ (hcs 0 _ (List.getElem?_eq_getElem (by rw [hcl]; omega)))
 have hvw : vb < w.heap.size := World.block_lt_of_cell? w _ (hvs 0 _ (List.getElem?_eq_getElem (by rw [hvl]; omega)))
 have hkk : (n : Int) + 1 - (i : Int) = ((n + 1 - i : Nat) : Int) := by omega
 have hik : i + (n + 1 - i) = n + 1 := by omega
 have htk : (cs.take (i * 7)).length = i * 7 := by rw [List.length_take, hcl]; omega
 have hold : (Builtin.firstCells inf.size i (.slice (some ⟨b, 0, none⟩) i c)).run Try.prog w.drew = .ok (cs.take (i * 7)).toArray w.drew := by
  rw [hzs]
  exact run_firstCells_some w.drew 7 i ⟨b, 0, none⟩ i c (cs.take (i * 7)) htk (fun j v hj => by
   rw [Addr.add_lit]
   rw [List.getElem?_take] at hj
   split at hj
   ·have := hcs j v hj
    simpa using this
   ·cases hj)
 have mixed : Try.prog.follows .mixedOrders = true := by kernel_rfl
 have hfits : Builtin.nextslicecap (n + 1) c * 56 ≤ 281474976710656 := by
  exact growslice_fits (by omega) (by omega)
 have hrz : ∀ ty, (Builtin.append_ #[47, 3] ty #[.slice (some ⟨b, 0, none⟩) i c, .int .i64 ((n : Int) + 1 - (i : Int))]).run Try.prog w =
   .ok (.slice (some ⟨w.heap.size, 0, none⟩) (n + 1) (grownCap w (n + 1) c 52)) (w.drew.alloc (.cells ((cs.take (i * 7)).toArray ++ Builtin.zeroCells (Value.agg #[.int .i64 0, .int .i64 0, .int .i64 0, .int .i64 0, .int .i64 0, .int .i64 0, .bool false]).cells (n + 1 - i) ++ Builtin.zeroCells (Value.agg #[.int .i64 0, .int .i64 0, .int .i64 0, .int .i64 0, .int .i64 0, .int .i64 0, .bool false]).cells (grownCap w (n + 1) c 52 - (n + 1))) 52)) := fun ty => by
  have h := Lib.run_append_grow_zeros w 47 3 ty 52 inf _ .i64 .i64 Try.underlying47 Try.underlying3 hinf hz0 (some ⟨b, 0, none⟩) i c (cs.take (i * 7)) hold (n + 1 - i) (by omega) (by omega) (by omega) (by omega) (by rw [hzb]; omega) (by rw [hzb, hik]; exact hfits)
  rw [hik] at h
  rw [hkk]
  exact h
 obtain ⟨G, hG⟩ : ∃ G, G = grownCap w (n + 1) c 52 := ⟨_, rfl⟩
 have hGn : n + 1 ≤ G := by rw [hG]; exact grownCap_ge w _ _ _
 have hG63 : G ≤ 9223372036854775807 := by
  have := grownCap_le_maxLen w (n + 1) c 52 (by unfold maxLen; omega)
  rw [← hG] at this
  unfold maxLen at this
  omega
 obtain ⟨Z, hZ⟩ : ∃ Z : List Value, Z = (Builtin.zeroCells (Value.agg #[.int .i64 0, .int .i64 0, .int .i64 0, .int .i64 0, .int .i64 0, .int .i64 0, .bool false]).cells (n + 1 - i)).toList ++ (Builtin.zeroCells (Value.agg #[.int .i64 0, .int .i64 0, .int .i64 0, .int .i64 0, .int .i64 0, .int .i64 0, .bool false]).cells (G - (n + 1))).toList := ⟨_, rfl⟩
 have hROW : (cs.take (i * 7)).toArray ++ Builtin.zeroCells (Value.agg #[.int .i64 0, .int .i64 0, .int .i64 0, .int .i64 0, .int .i64 0, .int .i64 0, .bool false]).cells (n + 1 - i) ++ Builtin.zeroCells (Value.agg #[.int .i64 0, .int .i64 0, .int .i64 0, .int .i64 0, .int .i64 0, .int .i64 0, .bool false]).cells (G - (n + 1)) = (cs.take (i * 7) ++ Z).toArray := by
  apply Array.ext'
  simp [hZ]
 rw [← hG, hROW] at hrz
 have hRl : (cs.take (i * 7) ++ Z).length = G * 7 := by
  have e1 : (Value.agg #[.int .i64 0, .int .i64 0, .int .i64 0, .int .i64 0, .int .i64 0, .int .i64 0, .bool false]).cells.size = 7 := rfl
  rw [List.length_append, htk, hZ, List.length_append, Array.length_toList, Array.length_toList, size_zeroCells, size_zeroCells, e1]
  omega
 obtain ⟨ROW, hRW⟩ : ∃ ROW : Array Value, ROW = (cs.take (i * 7) ++ Z).toArray := ⟨_, rfl⟩
 have hRs : ROW.size = G * 7 := by rw [hRW, List.size_toArray, hRl]
 rw [← hRW] at hrz
 obtain ⟨W1, hW1⟩ : ∃ W1, W1 = w.drew.alloc (.cells ROW 52) := ⟨_, rfl⟩
 rw [← hW1] at hrz
 have hN : ∀ j, j < (n + 1) * 7 → (W1.cell? ⟨w.heap.size, j, none⟩).isSome = true := fun j hj => by
  rw [hW1, World.cell?_alloc_at (w := w.drew) ROW _ w.heap.size j rfl, Array.getElem?_eq_getElem (by omega)]; rfl
 have hNf : ∀ j, W1.frozen? ⟨w.heap.size, j, none⟩ = false := fun j => by rw [hW1]; exact World.frozen?_alloc_at (w := w.drew) ROW _ w.heap.size j rfl
 have hOb : ∀ j v, w.cell? ⟨b, j, none⟩ = some v → W1.cell? ⟨b, j, none⟩ = some v := fun j v h => by rw [hW1, World.cell?_alloc_past (w := w.drew) _ b j hbw]; exact h
 have hOv : ∀ j v, w.cell? ⟨vb, j, none⟩ = some v → W1.cell? ⟨vb, j, none⟩ = some v := fun j v h => by rw [hW1, World.cell?_alloc_past (w := w.drew) _ vb j hvw]; exact h
 have hcpA : ∀ (W : World), (∀ x, W.cell? x = W1.cell? x) → (∀ x, W.frozen? x = W1.frozen? x) → ∀ ty dc, (Builtin.copy_ #[47, 47] ty #[.slice (some ⟨w.heap.size, i * 7, none⟩) (n + 1 - i) dc, .slice (some ⟨vb, 0, none⟩) 1 1]).run Try.prog W = .ok (goInt ((1 : Nat) : Int)) (W.setCells w.heap.size (i * 7) vs) := fun W hWc hWf ty dc =>
  Go.Proofs.Ytifahfnbjidfhaa.Base.run_copy_wide W _ _ ty 52 w.heap.size (i * 7) (n + 1 - i) dc ⟨vb, 0, none⟩ 1 1 vs 7 1 Try.underlying47 hsz (by simp only [Nat.min_def]; split <;> omega) (by rw [hvl])
   (fun j v hj => by rw [Addr.add_lit, hWc]; have := hOv _ v (hvs j v hj); simpa using this)
   (fun j hj => by rw [hWc]; exact hN _ (by rw [hvl] at hj; omega)) (fun j hj => by rw [hWf]; exact hNf _) h1v
 have hGi : ¬ (G = i) := by omega
 have hGim : ¬ (G = i + 1) := by omega
 have hci : ¬ (c = i) := by omega
 have hbN : b ≠ w.heap.size := by omega
 have hdl : (cs.drop (i * 7)).length = (n - i) * 7 := by rw [List.length_drop, hcl, hm3]
 have hcpB : ∀ (W : World), (∀ x, W.cell? x = (W1.setCells w.heap.size (i * 7) vs).cell? x) → (∀ x, W.frozen? x = (W1.setCells w.heap.size (i * 7) vs).frozen? x) → ∀ ty dc sc, (Builtin.copy_ #[47, 47] ty #[.slice (some ⟨w.heap.size, i * 7 + 7, none⟩) (n - i) dc, .slice (some ⟨b, i * 7, none⟩) (n - i) sc]).run Try.prog W = .ok (goInt ((n - i : Nat) : Int)) (W.setCells w.heap.size (i * 7 + 7) (cs.drop (i * 7))) := fun W hWc hWf ty dc sc =>
  Go.Proofs.Ytifahfnbjidfhaa.Base.run_copy_wide W _ _ ty 52 w.heap.size (i * 7 + 7) (n - i) dc ⟨b, i * 7, none⟩ (n - i) sc (cs.drop (i * 7)) 7 (n - i) Try.underlying47 hsz (by simp only [Nat.min_def]; split <;> omega) hdl
   (fun j v hj => by
    rw [Addr.add_lit, hWc, World.cell?_setCells_out _ _ _ _ _ (fun h _ => absurd h hbN)]
    exact hOb _ v (hcs _ v (by rwa [List.getElem?_drop] at hj)))
   (fun j hj => by rw [hWc]; exact isSome_setCells _ vs _ _ (fun t ht => hN _ (by rw [hvl] at ht; omega)) _ (hN _ (by rw [hdl] at hj; omega)))
   (fun j hj => by rw [hWf, World.frozen?_setCells]; exact hNf _) (fun v hv => h1c v (List.mem_of_mem_drop hv))
 subst hW1
 have hE1 : ∀ x, ((w.alloc (.cells ROW 52)).drew).cell? x = (w.drew.alloc (.cells ROW 52)).cell? x := fun x => rfl
 have hE2 : ∀ x, ((w.alloc (.cells ROW 52)).drew).frozen? x = (w.drew.alloc (.cells ROW 52)).frozen? x := fun x => rfl
 have hF1 : ∀ x, (((w.alloc (.cells ROW 52)).drew.setCells w.heap.size (i * 7) vs).drew).cell? x = ((w.drew.alloc (.cells ROW 52)).setCells w.heap.size (i * 7) vs).cell? x := fun x => rfl
 have hF2 : ∀ x, (((w.alloc (.cells ROW 52)).drew.setCells w.heap.size (i * 7) vs).drew).frozen? x = ((w.drew.alloc (.cells ROW 52)).setCells w.heap.size (i * 7) vs).frozen? x := fun x => rfl
 have hw1 : IntKind.i64.wrap ((i : Int) + 1) = (i : Int) + 1 := by rw [IntKind.wrap_i64]; omega
 have hb1 : (0 : Int) ≤ (i : Int) + 1 := by omega
 have hin : i ≤ n := by omega
 have htn : ((i : Int) + 1).toNat = i + 1 := by omega
 have hb3 : (i : Int) ≤ (n : Int) := by omega
 have hb4 : (i : Int) ≤ (n : Int) + 1 := by omega
 have hb5 : (i : Int) + 1 ≤ (n : Int) + 1 := by omega
 have HRW := Aside0.mk hRW
 have HRL := Aside0.mk hRl
 clear hkk hik hold hROW hG hRl hRW hRs hcs hvs h1c h1v hcl hZ hN hNf hOb hOv hfits htk hz0
 go_enter Try.func129, Try.ntmps129
 go_wp2_with (first
  | (at_builtin; refine Lib.wpList_append_run _ rfl _ _ _ _ rfl _ _ rfl rfl _ _ (hrz _) ?_)
  | (at_builtin; refine wpList_copy_runI _ rfl _ _ 47 47 rfl _ _ rfl rfl (hcpA _ hE1 hE2 _ _) ?_))
 go_region_law_o (refine step_copy_runI rfl _ _ 47 47 rfl (.slice (some ⟨w.heap.size, i * 7 + 7, none⟩) (n - i) (G - (i + 1))) (.slice (some ⟨b, i * 7, none⟩) (n - i) (c - i)) (by simp [Act.eval, Act.put]) (by simp [Act.eval, Act.put]) (hcpB _ hF1 hF2 3 (G - (i + 1)) (c - i)) ?_)
 go_wp2
 go_ret
 exact ⟨G, Z, hGn, hG63, HRL.out, rfl, by rw [← HRW.out]⟩
set_option maxHeartbeats 1600000 in
set_option maxRecDepth 100000 in
theorem insert_end (w0 : World) (xs : List S52) (v : Value) (y : S52) (vb : Nat) (w : World) (hr : Kd.R k52 52 w w0.heap.size (fun _ => True) v xs) (hB : Below w0.heap.size w0 w) (hC : Kd.C k52 w (some ⟨vb, 0, none⟩) 1 [y]) (hl : xs.length ≤ 1048576) (hb : w0.heap.size ≤ w.heap.size) :
  Calls Try.prog 129 #[v, .int .i64 (xs.length : Int), .slice (some ⟨vb, 0, none⟩) 1 1] w fun e w' => ∃ v' : Value, e = .returned v' ∧ Kd.R k52 52 w' w0.heap.size (fun _ => True) v' (xs ++ [y]) ∧ Below w0.heap.size w0 w' ∧ w.grownBy w' v.ownBlock := by
 obtain ⟨A, c, rfl, hcap, hCx⟩ := Kd.R_reads hr
 obtain ⟨_, inf, hinf, hisz⟩ := Go.Proofs.Ytifahfnbjidfhaa.Base.zero_info info52
 obtain ⟨vr, hfrom⟩ : ∃ vr, ∀ W : World, (Instr.slice 47 (.slice A xs.length c) (some (.int .i64 (xs.length : Int))) none none).run Try.prog W = .ok vr W := ⟨_, cut_from (P := Try.prog) 47 52 .i64 Try.underlying47 hinf k52.sz hisz A xs.length c (xs.length : Int) (by omega) (by omega)⟩
 have HR := Aside0.mk hr
 have HB := Aside0.mk hB
 have HC := Aside0.mk hC
 have HS := Aside0.mk hb
 have heq : ((xs.length : Int) == (xs.length : Int)) = true := by simp
 clear hr hB hC hCx hb
 go_enter Try.func129, Try.ntmps129
 go_wp2_with (first | ((with_reducible refine gate_builtin (b := .append) (xs := #[.tmp 23, .tmp 24]) rfl ?_); at_builtin; refine Kd.R_append_rows k52 (w0 := w0) w0.heap.size rfl (.tmp 23) (.tmp 24) 47 52 (.agg #[.int .i64 0, .int .i64 0, .int .i64 0, .int .i64 0, .int .i64 0, .int .i64 0, .bool false]) 56 rfl Try.underlying47 info52 rfl (by decide) (by omega) (.slice A xs.length c) xs [y] _ _ _ (fun _ => True) (fun _ => False) rfl rfl ?aO ?aR (fun _ _ h => h) (fun _ h => h.elim) ?aF ?aB ?aS ?aL ?_; (case aR => exact HC.out); (case aB => exact HB.out); (case aF => exact (fun _ _ => trivial)); (case aO => exact HR.out); (case aS => exact HS.out); (case aL => omega); intro v1 w1 ho hb1 hg1 hat1; have HO1 := Aside0.mk ho; have HB1 := Aside0.mk hb1; have HG1 := Aside0.mk hg1; clear ho hb1 hg1 hat1))
 go_ret
 exact ⟨_, rfl, HO1.out, HB1.out, HG1.out⟩
set_option maxHeartbeats 1600000 in
set_option maxRecDepth 100000 in
theorem insert_calls (w0 : World) (xs : List S52) (v : Value) (i : Nat) (y : S52) (vb : Nat) (w : World) (hr : Kd.R k52 52 w w0.heap.size (fun _ => True) v xs) (hB : Below w0.heap.size w0 w) (hi : i ≤ xs.length) (hl : xs.length ≤ 1048576) (hb : w0.heap.size ≤ w.heap.size)
  (hv : w.heap[vb]? = some (.cells [.int .i64 y.f0, .int .i64 y.f1, .int .i64 y.f2, .int .i64 y.f3, .int .i64 y.f4, .int .i64 y.f5, .bool y.f6].toArray 52 (0, 0))) (hne : some vb ≠ v.ownBlock) :
  Calls Try.prog 129 #[v, .int .i64 i, .slice (some ⟨vb, 0, none⟩) 1 1] w fun e w' => ∃ v' : Value, e = .returned v' ∧ Kd.R k52 52 w' w0.heap.size (fun _ => True) v' (xs.take i ++ y :: xs.drop i) ∧ Below w0.heap.size w0 w' ∧ w.grownBy w' v.ownBlock := by
 have hvc : ∀ (j : Nat) (u : Value), [.int .i64 y.f0, .int .i64 y.f1, .int .i64 y.f2, .int .i64 y.f3, .int .i64 y.f4, .int .i64 y.f5, .bool y.f6][j]? = some u → w.cell? ⟨vb, j, none⟩ = some u := fun j u hu => by rw [cell_of_row w vb _ _ _ (0, 0) hv]; simpa using hu
 have h1v : ∀ u ∈ ([.int .i64 y.f0, .int .i64 y.f1, .int .i64 y.f2, .int .i64 y.f3, .int .i64 y.f4, .int .i64 y.f5, .bool y.f6] : List Value), u.oneCell' = true := fun u hu => k52.K_one (k52_mk w y) u hu
 by_cases hlt : i < xs.length
 ·obtain ⟨g, cap, rfl, hgb, hgl, _⟩ := Kd.R_form hr (by omega)
  obtain ⟨cur, inner, hh, _, hnc, hm, hcs, htk, hbg, _, hrep⟩ := Go.Proofs.Ytifahfnbjidfhaa.Base.R_cells hr
  have hin : inner.length = xs.length * 7 := hrep.1
  have h1c := Go.Proofs.Ytifahfnbjidfhaa.Base.reps_one hrep (by decide)
  have hsz : k52.sz = 7 := rfl
  rw [hsz] at hcs htk
  have f1 : i * 7 + 7 ≤ xs.length * 7 := by rw [← Nat.succ_mul]; exact Nat.mul_le_mul_right _ hlt
  have f2 : xs.length * 7 ≤ cap * 7 := Nat.mul_le_mul_right _ hnc
  have f3 : (xs.length + 1) * 7 = xs.length * 7 + 7 := Nat.succ_mul _ _
  have f4 : (xs.length - i) * 7 = xs.length * 7 - i * 7 := Nat.sub_mul _ _ _
  have hdl : (inner.drop (i * 7)).length = xs.length * 7 - i * 7 := by rw [List.length_drop, hin]
  have hic : ∀ j u, inner[j]? = some u → w.cell? ⟨g, j, none⟩ = some u := by
   intro j u hj
   have hjl : j < xs.length * 7 := by rw [← hin]; exact (List.getElem?_eq_some_iff.1 hj).1
   rw [← htk, List.getElem?_take, if_pos hjl, Array.getElem?_toList] at hj
   rw [cell_of_row w g _ cur _ (0, 0) hh]
   simpa using hj
  have htk2 : inner.take (i * 7) = cur.toList.take (i * 7) := by rw [← htk, List.take_take, Nat.min_eq_left (by omega)]
  have hseg : ([.int .i64 y.f0, .int .i64 y.f1, .int .i64 y.f2, .int .i64 y.f3, .int .i64 y.f4, .int .i64 y.f5, .bool y.f6] : List Value).length = 7 := rfl
  have e1 : i * 7 + 7 + (inner.drop (i * 7)).length = (xs.length + 1) * 7 := by rw [hdl]; omega
  have hyl : xs.length + 1 = (xs.take i ++ y :: xs.drop i).length := by simp; omega
  by_cases hroom : xs.length + 1 ≤ cap
  ·refine (insert_shift g xs.length cap i vb inner [.int .i64 y.f0, .int .i64 y.f1, .int .i64 y.f2, .int .i64 y.f3, .int .i64 y.f4, .int .i64 y.f5, .bool y.f6] w hlt hroom (by unfold maxLen at hm; omega) (fun e => hne (by rw [e]; rfl)) hin rfl hic (fun j hj => ?_) (fun j => blk_frozen hh _) hvc h1c h1v 52 52 7 cur.size (by simp [World.shape?, hv]) (by simp [World.shape?, hh]) (by rw [hcs]; omega) (fun j => blk_frozen hv _)).mono ?_
   ·rw [cell_of_row w g _ cur _ (0, 0) hh]
    have : (xs.length + 1) * 7 ≤ cap * 7 := Nat.mul_le_mul_right _ hroom
    simp
    omega
   ·rintro e w' ⟨rfl, rfl⟩
    have f5 : (xs.length + 1) * 7 ≤ cap * 7 := Nat.mul_le_mul_right _ hroom
    obtain ⟨cur1, p1, p2, p3⟩ := setCells_row (inner.drop (i * 7)) (i * 7 + 7) w.drew cur hh (by rw [hdl, hcs]; omega)
    obtain ⟨cur2, q1, q2, q3⟩ := setCells_row [.int .i64 y.f0, .int .i64 y.f1, .int .i64 y.f2, .int .i64 y.f3, .int .i64 y.f4, .int .i64 y.f5, .bool y.f6] (i * 7) _ cur1 p1 (by rw [p2, hcs, hseg]; omega)
    refine ⟨_, rfl, Go.Proofs.Ytifahfnbjidfhaa.Base.R_of_block q1 hbg trivial hyl hroom hm (by rw [hsz, q2, p2, hcs]) (inner := inner.take (i * 7) ++ [.int .i64 y.f0, .int .i64 y.f1, .int .i64 y.f2, .int .i64 y.f3, .int .i64 y.f4, .int .i64 y.f5, .bool y.f6] ++ inner.drop (i * 7)) ?_ ?_, Go.Proofs.Ytifahfnbjidfhaa.Base.setCells_below _ _ _ _ (Go.Proofs.Ytifahfnbjidfhaa.Base.setCells_below _ _ _ _ hB.drew hgb) hgb, ((World.grownBy.trans (grown_of_below ((Below.refl _ w).drew) (some g)) (Go.Proofs.Ytifahfnbjidfhaa.Base.setCells_grown _ _ _ _)).trans (Go.Proofs.Ytifahfnbjidfhaa.Base.setCells_grown _ _ _ _))⟩
    ·have := Go.Proofs.Ytifahfnbjidfhaa.Base.open_list cur.toList (inner.drop (i * 7)) [.int .i64 y.f0, .int .i64 y.f1, .int .i64 y.f2, .int .i64 y.f3, .int .i64 y.f4, .int .i64 y.f5, .bool y.f6] (i * 7) 7 rfl (by have e : cur.toList.length = cur.size := Array.length_toList; rw [hdl, e, hcs]; omega)
     rw [hsz, ← e1, q3, p3, hseg, this, htk2]
    ·exact Go.Proofs.Ytifahfnbjidfhaa.Base.reps_open (hrep.imp_ (fun _ _ h => h)) (k52_mkM _ _ _ y) rfl hi
  ·refine (insert_grow g xs.length cap i vb inner [.int .i64 y.f0, .int .i64 y.f1, .int .i64 y.f2, .int .i64 y.f3, .int .i64 y.f4, .int .i64 y.f5, .bool y.f6] w hlt hnc (by omega) hl hin rfl hic hvc h1c h1v).mono ?_
   rintro e w' ⟨G, Z, hG1, hG2, hG3, rfl, rfl⟩
   have f5 : (xs.length + 1) * 7 ≤ G * 7 := Nat.mul_le_mul_right _ hG1
   have hnb : (w.alloc (.cells (inner.take (i * 7) ++ Z).toArray 52)).drew.heap[w.heap.size]? = some (.cells (inner.take (i * 7) ++ Z).toArray 52 (0, 0)) := Go.Proofs.Ytifahfnbjidfhaa.Base.heap_of_drew (blk_new w _)
   obtain ⟨cur1, p1, p2, p3⟩ := setCells_row [.int .i64 y.f0, .int .i64 y.f1, .int .i64 y.f2, .int .i64 y.f3, .int .i64 y.f4, .int .i64 y.f5, .bool y.f6] (i * 7) _ _ hnb (by rw [hseg, List.size_toArray, hG3]; omega)
   have p1' : ((w.alloc (.cells (inner.take (i * 7) ++ Z).toArray 52)).drew.setCells w.heap.size (i * 7) [.int .i64 y.f0, .int .i64 y.f1, .int .i64 y.f2, .int .i64 y.f3, .int .i64 y.f4, .int .i64 y.f5, .bool y.f6]).drew.heap[w.heap.size]? = some (.cells cur1 52 (0, 0)) := Go.Proofs.Ytifahfnbjidfhaa.Base.heap_of_drew p1
   obtain ⟨cur2, q1, q2, q3⟩ := setCells_row (inner.drop (i * 7)) (i * 7 + 7) _ cur1 p1' (by rw [p2, List.size_toArray, hG3, hdl]; omega)
   have hbel : Below w.heap.size w ((((w.alloc (.cells (inner.take (i * 7) ++ Z).toArray 52)).drew.setCells w.heap.size (i * 7) [.int .i64 y.f0, .int .i64 y.f1, .int .i64 y.f2, .int .i64 y.f3, .int .i64 y.f4, .int .i64 y.f5, .bool y.f6]).drew).setCells w.heap.size (i * 7 + 7) (inner.drop (i * 7))) := Go.Proofs.Ytifahfnbjidfhaa.Base.setCells_below _ _ _ _ (Go.Proofs.Ytifahfnbjidfhaa.Base.setCells_below _ _ _ _ (((Below.refl _ w).alloc (Nat.le_refl _) _).drew) (Nat.le_refl _)).drew (Nat.le_refl _)
   refine ⟨_, rfl, Go.Proofs.Ytifahfnbjidfhaa.Base.R_of_block q1 hb trivial hyl hG1 (by unfold maxLen; omega) (by rw [hsz, q2, p2, List.size_toArray, hG3]) (inner := inner.take (i * 7) ++ [.int .i64 y.f0, .int .i64 y.f1, .int .i64 y.f2, .int .i64 y.f3, .int .i64 y.f4, .int .i64 y.f5, .bool y.f6] ++ inner.drop (i * 7)) ?_ ?_, below_step hB hbel, grown_of_below hbel _⟩
   ·have hlen : i * 7 + 7 + (inner.drop (i * 7)).length ≤ (inner.take (i * 7) ++ Z).length := by rw [hG3, e1]; exact f5
    have := Go.Proofs.Ytifahfnbjidfhaa.Base.open_list2 (inner.take (i * 7) ++ Z) (inner.drop (i * 7)) [.int .i64 y.f0, .int .i64 y.f1, .int .i64 y.f2, .int .i64 y.f3, .int .i64 y.f4, .int .i64 y.f5, .bool y.f6] (i * 7) 7 rfl hlen
    rw [hsz, ← e1, q3, p3, hseg, List.toList_toArray, this, List.take_append_of_le_length (by rw [List.length_take, hin]; omega), List.take_take, Nat.min_self]
   ·exact Go.Proofs.Ytifahfnbjidfhaa.Base.reps_open (hrep.imp_ (fun _ _ h => h)) (k52_mkM _ _ _ y) rfl hi
 ·obtain rfl : i = xs.length := by omega
  rw [List.take_of_length_le (Nat.le_refl _), List.drop_of_length_le (Nat.le_refl _)]
  refine insert_end w0 xs v y vb w hr hB ⟨rfl, by omega, fun _ => ⟨⟨vb, 0, none⟩, rfl, fun j p hj => ?_⟩⟩ hl hb
  cases j with
  | zero =>
   cases hj
   exact ⟨[.int .i64 y.f0, .int .i64 y.f1, .int .i64 y.f2, .int .i64 y.f3, .int .i64 y.f4, .int .i64 y.f5, .bool y.f6], rfl, k52_mk w y, fun j u hu => by rw [Nat.zero_mul, Nat.zero_add, Addr.add_lit, Nat.zero_add]; exact hvc j u hu⟩
  | succ j => cases hj
set_option maxHeartbeats 8000000 in
set_option maxRecDepth 100000 in
theorem bsearch_calls (g : Nat) (eg : ∀ args w, (callFunc g args).run Try.prog w = .ok (.enter g args) w) (ord : S52 → S52 → Int) (hc : ∀ (W : World) (x y : S52), Calls Try.prog g #[.agg [.int .i64 x.f0, .int .i64 x.f1, .int .i64 x.f2, .int .i64 x.f3, .int .i64 x.f4, .int .i64 x.f5, .bool x.f6].toArray, .agg [.int .i64 y.f0, .int .i64 y.f1, .int .i64 y.f2, .int .i64 y.f3, .int .i64 y.f4, .int .i64 y.f5, .bool y.f6].toArray] W fun e w' => e = .returned (.int .i64 (ord x y)) ∧ Below W.heap.size W w')
  (A : Option Addr) (c : Nat) (l : List S52) (t : S52) (w : World) (hl : l.length ≤ 1048576) (hr : Kd.C k52 w A l.length l) (hmono : ∀ a b, a ≤ b → b < l.length → ord (Go.Proofs.Ytifahfnbjidfhaa.Base.nth z52 l b) t < 0 → ord (Go.Proofs.Ytifahfnbjidfhaa.Base.nth z52 l a) t < 0) :
  Calls Try.prog 128 #[.slice A l.length c, .agg [.int .i64 t.f0, .int .i64 t.f1, .int .i64 t.f2, .int .i64 t.f3, .int .i64 t.f4, .int .i64 t.f5, .bool t.f6].toArray, .func (.func g) #[] #[]] w fun e w' => ∃ i : Nat, i ≤ l.length ∧ (∀ j, j < i → ord (Go.Proofs.Ytifahfnbjidfhaa.Base.nth z52 l j) t < 0) ∧ (∀ j, i ≤ j → j < l.length → 0 ≤ ord (Go.Proofs.Ytifahfnbjidfhaa.Base.nth z52 l j) t) ∧
   e = .returned (.tuple #[.int .i64 i, .bool (decide (i < l.length) && decide (ord (Go.Proofs.Ytifahfnbjidfhaa.Base.nth z52 l i) t = 0))]) ∧ Below w.heap.size w w' := by
 have HR := Aside0.mk hr
 have HC := Aside0.mk hc
 have M := Aside0.mk hmono
 have mixed : Try.prog.follows .mixedOrders = true := by kernel_rfl
 have B0 := Aside0.mk ((Below.refl _ w).alloc (Nat.le_refl _) (.cells [.int .i64 t.f0, .int .i64 t.f1, .int .i64 t.f2, .int .i64 t.f3, .int .i64 t.f4, .int .i64 t.f5, .bool t.f6].toArray 52))
 have K0 := Aside0.mk (blk_new w (.cells [.int .i64 t.f0, .int .i64 t.f1, .int .i64 t.f2, .int .i64 t.f3, .int .i64 t.f4, .int .i64 t.f5, .bool t.f6].toArray 52))
 clear hr hc hmono
 obtain ⟨t0_, ht0⟩ : ∃ t0_, t0_ = t := ⟨_, rfl⟩
 go_enter Try.func128, Try.ntmps128
 go_wp2
 go_loopg [9, 10] l.length (fun kx s9 s10 wr => ∃ lo hi : Nat, s9 = .int .i64 lo ∧ s10 = .int .i64 hi ∧ lo ≤ hi ∧ hi ≤ l.length ∧ hi - lo ≤ kx ∧ Aside0 (Below w.heap.size w wr) ∧ Aside0 (wr.heap[w.heap.size]? = some (.cells [.int .i64 t.f0, .int .i64 t.f1, .int .i64 t.f2, .int .i64 t.f3, .int .i64 t.f4, .int .i64 t.f5, .bool t.f6].toArray 52 (0, 0))) ∧
  Aside0 ((∀ j, j < lo → ord (Go.Proofs.Ytifahfnbjidfhaa.Base.nth z52 l j) t < 0) ∧ (∀ j, hi ≤ j → j < l.length → 0 ≤ ord (Go.Proofs.Ytifahfnbjidfhaa.Base.nth z52 l j) t)))
 case atStart => exact ⟨0, l.length, rfl, rfl, Nat.zero_le _, Nat.le_refl _, by omega, B0, K0, ⟨fun j hj => absurd hj (Nat.not_lt_zero _), fun j h1 h2 => by omega⟩⟩
 case round =>
  obtain ⟨lo, hi, rfl, rfl, hlh, hin, hg, HB, BK, I⟩ := hrel
  have f0 := blk_frozen BK.out 0
  have f1 := blk_frozen BK.out 1
  have f2 := blk_frozen BK.out 2
  have f3 := blk_frozen BK.out 3
  have f4 := blk_frozen BK.out 4
  have f5 := blk_frozen BK.out 5
  have f6 := blk_frozen BK.out 6
  have k0 := (blk_cell BK.out 0).trans rfl
  have k1 := (blk_cell BK.out 1).trans rfl
  have k2 := (blk_cell BK.out 2).trans rfl
  have k3 := (blk_cell BK.out 3).trans rfl
  have k4 := (blk_cell BK.out 4).trans rfl
  have k5 := (blk_cell BK.out 5).trans rfl
  have k6 := (blk_cell BK.out 6).trans rfl
  by_cases hlt : lo < hi
  ·obtain ⟨m, hm⟩ : ∃ m, m = (lo + hi) / 2 := ⟨_, rfl⟩
   have HI := Aside0.mk (show ((lo : Int) + (hi : Int)) / 2 = (m : Int) by omega)
   have HM := Aside0.mk (show lo ≤ m ∧ m < hi by omega)
   have hml : (m : Int) < (l.length : Int) := by omega
   clear hm
   have hltz : (lo : Int) < (hi : Int) := by omega
   obtain ⟨ad, e, hx0, hx1, hx2, hx3, hx4, hx5, hx6⟩ := at_T52 HR.out (m : Int) (by omega) (by omega)
   cases e
   replace hx0 := (HB.out.cell (World.block_lt_of_cell? w _ hx0)).trans hx0
   replace hx1 := (HB.out.cell (World.block_lt_of_cell? w _ hx1)).trans hx1
   replace hx2 := (HB.out.cell (World.block_lt_of_cell? w _ hx2)).trans hx2
   replace hx3 := (HB.out.cell (World.block_lt_of_cell? w _ hx3)).trans hx3
   replace hx4 := (HB.out.cell (World.block_lt_of_cell? w _ hx4)).trans hx4
   replace hx5 := (HB.out.cell (World.block_lt_of_cell? w _ hx5)).trans hx5
   replace hx6 := (HB.out.cell (World.block_lt_of_cell? w _ hx6)).trans hx6
   simp only [Int.toNat_natCast] at hx0 hx1 hx2 hx3 hx4 hx5 hx6
   have HY := Aside0.mk (show Go.Proofs.Ytifahfnbjidfhaa.Base.nth z52 l m = rd_T52 l (m : Int) from rfl)
   generalize rd_T52 l (m : Int) = y at *
   replace hx0 := Go.Proofs.Ytifahfnbjidfhaa.Base.cell_setD hx0
   replace hx1 := Go.Proofs.Ytifahfnbjidfhaa.Base.cell_setD hx1
   replace hx2 := Go.Proofs.Ytifahfnbjidfhaa.Base.cell_setD hx2
   replace hx3 := Go.Proofs.Ytifahfnbjidfhaa.Base.cell_setD hx3
   replace hx4 := Go.Proofs.Ytifahfnbjidfhaa.Base.cell_setD hx4
   replace hx5 := Go.Proofs.Ytifahfnbjidfhaa.Base.cell_setD hx5
   replace hx6 := Go.Proofs.Ytifahfnbjidfhaa.Base.cell_setD hx6
   replace k0 := Go.Proofs.Ytifahfnbjidfhaa.Base.cell_setD k0
   replace k1 := Go.Proofs.Ytifahfnbjidfhaa.Base.cell_setD k1
   replace k2 := Go.Proofs.Ytifahfnbjidfhaa.Base.cell_setD k2
   replace k3 := Go.Proofs.Ytifahfnbjidfhaa.Base.cell_setD k3
   replace k4 := Go.Proofs.Ytifahfnbjidfhaa.Base.cell_setD k4
   replace k5 := Go.Proofs.Ytifahfnbjidfhaa.Base.cell_setD k5
   replace k6 := Go.Proofs.Ytifahfnbjidfhaa.Base.cell_setD k6
   by_cases hyx : ord y t < 0
   ·go_wp2_with fail
    rw [HI.out]
    refine Go.Proofs.Ytifahfnbjidfhaa.Base.wp_region_quiet_any (by assumption) (by kernel_rfl) ?_
    repeat (quiet_step ((go_at_fn g; exact Go.Proofs.Ytifahfnbjidfhaa.Base.calls_quiet (HC.out _ y t))))
    refine wpQuiet_nil ?_
    intro _ hw'
    obtain ⟨⟨nq, osq⟩, hw''⟩ := hw'
    subst hw''
    have HB' := Aside0.mk (Go.Proofs.Ytifahfnbjidfhaa.Base.below_setD HB.out HB.out.size nq osq)
    have BK' := Aside0.mk (Go.Proofs.Ytifahfnbjidfhaa.Base.blk_setD BK.out nq osq)
    go_wp2
    go_roundg (hi - (m + 1))
    case measure => have := HM.out; omega
    case rel =>
     exact ⟨m + 1, hi, by go_num, rfl, by have := HM.out; omega, hin, Nat.le_refl _, HB', BK', ⟨fun j hj => M.out j m (by omega) (by have := HM.out; omega) (by rw [HY.out]; exact hyx), I.out.2⟩⟩
   ·go_wp2_with fail
    rw [HI.out]
    refine Go.Proofs.Ytifahfnbjidfhaa.Base.wp_region_quiet_any (by assumption) (by kernel_rfl) ?_
    repeat (quiet_step ((go_at_fn g; exact Go.Proofs.Ytifahfnbjidfhaa.Base.calls_quiet (HC.out _ y t))))
    refine wpQuiet_nil ?_
    intro _ hw'
    obtain ⟨⟨nq, osq⟩, hw''⟩ := hw'
    subst hw''
    have HB' := Aside0.mk (Go.Proofs.Ytifahfnbjidfhaa.Base.below_setD HB.out HB.out.size nq osq)
    have BK' := Aside0.mk (Go.Proofs.Ytifahfnbjidfhaa.Base.blk_setD BK.out nq osq)
    go_wp2
    go_roundg (m - lo)
    case measure => have := HM.out; omega
    case rel =>
     exact ⟨lo, m, rfl, rfl, by have := HM.out; omega, by have := HM.out; omega, Nat.le_refl _, HB', BK', ⟨I.out.1, fun j hj hjn => Int.not_lt.1 fun h => by have := M.out m j hj hjn h; rw [HY.out] at this; omega⟩⟩
  ·obtain rfl : hi = lo := by omega
   have hltz : ¬ ((hi : Int) < (hi : Int)) := by omega
   by_cases hn : hi < l.length
   ·have hnz : (hi : Int) < (l.length : Int) := by omega
    obtain ⟨ad, e, hx0, hx1, hx2, hx3, hx4, hx5, hx6⟩ := at_T52 HR.out (hi : Int) (by omega) (by omega)
    cases e
    replace hx0 := (HB.out.cell (World.block_lt_of_cell? w _ hx0)).trans hx0
    replace hx1 := (HB.out.cell (World.block_lt_of_cell? w _ hx1)).trans hx1
    replace hx2 := (HB.out.cell (World.block_lt_of_cell? w _ hx2)).trans hx2
    replace hx3 := (HB.out.cell (World.block_lt_of_cell? w _ hx3)).trans hx3
    replace hx4 := (HB.out.cell (World.block_lt_of_cell? w _ hx4)).trans hx4
    replace hx5 := (HB.out.cell (World.block_lt_of_cell? w _ hx5)).trans hx5
    replace hx6 := (HB.out.cell (World.block_lt_of_cell? w _ hx6)).trans hx6
    simp only [Int.toNat_natCast] at hx0 hx1 hx2 hx3 hx4 hx5 hx6
    have HY := Aside0.mk (show Go.Proofs.Ytifahfnbjidfhaa.Base.nth z52 l hi = rd_T52 l (hi : Int) from rfl)
    generalize rd_T52 l (hi : Int) = y at *
    replace hx0 := Go.Proofs.Ytifahfnbjidfhaa.Base.cell_setD hx0
    replace hx1 := Go.Proofs.Ytifahfnbjidfhaa.Base.cell_setD hx1
    replace hx2 := Go.Proofs.Ytifahfnbjidfhaa.Base.cell_setD hx2
    replace hx3 := Go.Proofs.Ytifahfnbjidfhaa.Base.cell_setD hx3
    replace hx4 := Go.Proofs.Ytifahfnbjidfhaa.Base.cell_setD hx4
    replace hx5 := Go.Proofs.Ytifahfnbjidfhaa.Base.cell_setD hx5
    replace hx6 := Go.Proofs.Ytifahfnbjidfhaa.Base.cell_setD hx6
    replace k0 := Go.Proofs.Ytifahfnbjidfhaa.Base.cell_setD k0
    replace k1 := Go.Proofs.Ytifahfnbjidfhaa.Base.cell_setD k1
    replace k2 := Go.Proofs.Ytifahfnbjidfhaa.Base.cell_setD k2
    replace k3 := Go.Proofs.Ytifahfnbjidfhaa.Base.cell_setD k3
    replace k4 := Go.Proofs.Ytifahfnbjidfhaa.Base.cell_setD k4
    replace k5 := Go.Proofs.Ytifahfnbjidfhaa.Base.cell_setD k5
    replace k6 := Go.Proofs.Ytifahfnbjidfhaa.Base.cell_setD k6
    by_cases hyx : ord y t = 0
    ·go_wp2_with fail
     refine Go.Proofs.Ytifahfnbjidfhaa.Base.wp_region_quiet_any (by assumption) (by kernel_rfl) ?_
     repeat (quiet_step ((go_at_fn g; exact Go.Proofs.Ytifahfnbjidfhaa.Base.calls_quiet (HC.out _ y t))))
     refine wpQuiet_nil ?_
     intro _ hw'
     obtain ⟨⟨nq, osq⟩, hw''⟩ := hw'
     subst hw''
     have HB' := Aside0.mk (Go.Proofs.Ytifahfnbjidfhaa.Base.below_setD HB.out HB.out.size nq osq)
     go_wp2
     refine bodyPost_ret (results_tmp2 rfl _ _ _) rfl ?_
     exact ⟨hi, hin, I.out.1, I.out.2, by rw [HY.out]; simp [hn, hyx], HB'.out⟩
    ·go_wp2_with fail
     refine Go.Proofs.Ytifahfnbjidfhaa.Base.wp_region_quiet_any (by assumption) (by kernel_rfl) ?_
     repeat (quiet_step ((go_at_fn g; exact Go.Proofs.Ytifahfnbjidfhaa.Base.calls_quiet (HC.out _ y t))))
     refine wpQuiet_nil ?_
     intro _ hw'
     obtain ⟨⟨nq, osq⟩, hw''⟩ := hw'
     subst hw''
     have HB' := Aside0.mk (Go.Proofs.Ytifahfnbjidfhaa.Base.below_setD HB.out HB.out.size nq osq)
     go_wp2
     refine bodyPost_ret (results_tmp2 rfl _ _ _) rfl ?_
     exact ⟨hi, hin, I.out.1, I.out.2, by rw [HY.out]; simp [hn, hyx], HB'.out⟩
   ·have hnz : ¬ ((hi : Int) < (l.length : Int)) := by omega
    go_wp2_with fail
    go_region_o
    go_wp2
    refine bodyPost_ret (results_tmp2 rfl _ _ _) rfl ?_
    exact ⟨hi, hin, I.out.1, I.out.2, by simp [hn], below_drew1 HB.out⟩
section
open Go.Proofs.Ytifahfnbjidfhaa.Base
theorem spec_l02Is_eq (a b c : Int) : spec_l02Is.f a b c = some (inB a b c) := by
 unfold spec_l02Is.f inB
 by_cases h : b ≤ a <;> simp [h]
theorem impl_in_eq (a b c : Int) : impl_in.f a b c = some (inB a b c) := by
 unfold impl_in.f inB
 by_cases h : b ≤ a <;> simp [h]
theorem spec_l02Mac_eq (a : Int) : spec_l02Mac.f a = some (macB a) := by simp [spec_l02Mac.f, spec_l02Is_eq, macB]
theorem spec_l02Ip_eq (a : Int) : spec_l02Ip.f a = some (ipB a) := by simp [spec_l02Ip.f, spec_l02Is_eq, ipB]
theorem spec_l02Vni_eq (a : Int) : spec_l02Vni.f a = some (vniB a) := by simp [spec_l02Vni.f, spec_l02Is_eq, vniB]
theorem spec_l05Time_eq (a : Int) : spec_l05Time.f a = some (timeB a) := by simp [spec_l05Time.f, spec_l02Is_eq, timeB]
theorem spec_IsGroup_eq (a : Int) : spec_IsGroup.f a = some (groupB a) := by
 simp [spec_IsGroup.f, spec_l02Mac_eq, groupB]
 cases macB a <;> simp
theorem impl_isMac_eq (a : Int) : impl_isMac.f a = some (macB a) := by simp [impl_isMac.f, impl_in_eq, macB]
theorem impl_isIp_eq (a : Int) : impl_isIp.f a = some (ipB a) := by simp [impl_isIp.f, impl_in_eq, ipB]
theorem impl_isVni_eq (a : Int) : impl_isVni.f a = some (vniB a) := by simp [impl_isVni.f, impl_in_eq, vniB]
theorem impl_isTime_eq (a : Int) : impl_isTime.f a = some (timeB a) := by simp [impl_isTime.f, impl_in_eq, timeB]
theorem impl_IsGroup_eq (a : Int) : impl_IsGroup.f a = some (groupB a) := by
 simp [impl_IsGroup.f, impl_isMac_eq, groupB]
 cases macB a <;> simp
theorem impl_isGuest_eq (a : Int) : impl_isGuest.f a = some (macB a && !groupB a) := by
 simp [impl_isGuest.f, impl_isMac_eq, impl_IsGroup_eq]
 cases macB a <;> simp
theorem impl_Guest_isRight_eq (a b c d e f : Int) (g : Bool) : impl_Guest_isRight.f a b c d e f g = some (guestB a b c d e f) := by
 simp only [impl_Guest_isRight.f, impl_isVni_eq, impl_isGuest_eq, impl_isIp_eq, impl_in_eq, impl_isTime_eq, Option.bind_some, some_ite, guestB, Bool.and_assoc]
theorem spec_l07Guest_eq (a b c d e f : Int) (g : Bool) : spec_l07Guest.f a b c d e f g = some (guestB a b c d e f) := by
 simp only [spec_l07Guest.f, spec_l02Vni_eq, spec_l02Mac_eq, spec_IsGroup_eq, spec_l02Ip_eq, spec_l02Is_eq, spec_l05Time_eq, Option.bind_some, some_ite, some_iteN, guestB, Bool.and_assoc]
theorem cmp_Compare_eq (a b : Int) : cmp_Compare_int64.f a b = some (cmpI a b) := by
 simp only [cmp_Compare_int64.f, cmp_isNaN_int64.f, Option.bind_some, bne_self_eq_false, cmpI]
 simp only [Bool.false_eq_true, if_false]
 repeat' split
 all_goals rfl
theorem cmp_Or_eq (xs : List Int) (hn : xs.length ≤ 100) (k : Nat) (hk : xs.length < k) : cmp_Or_int.f k xs = some (firstNZ xs) := by
 have key : ∀ (d i k : Nat), i + d = xs.length → d < k → cmp_Or_int.l0 k 0 xs (xs.length : Int) (i : Int) = some (firstNZ (xs.drop i)) := by
  intro d
  induction d with
  | zero =>
   intro i k hd hk
   obtain ⟨k, rfl⟩ : ∃ m, k = m + 1 := ⟨k - 1, by omega⟩
   simp only [cmp_Or_int.l0]
   rw [if_neg (by omega), List.drop_of_length_le (by omega)]
   rfl
  | succ d ih =>
   intro i k hd hk
   obtain ⟨k, rfl⟩ : ∃ m, k = m + 1 := ⟨k - 1, by omega⟩
   simp only [cmp_Or_int.l0]
   rw [if_pos (by omega), if_pos (by omega), if_pos (by omega), show rd xs (i : Int) = nth 0 xs i from rfl, drop_nth 0 (by omega : i < xs.length), wrap_up (by omega : i < xs.length) (by omega), ih (i + 1) k (by omega) (by omega)]
   simp only [firstNZ]
   split <;> rfl
 exact key xs.length 0 k (by omega) hk
def lessG (a b : S52) : Bool := decide (a.f0 < b.f0) || (decide (a.f0 = b.f0) && decide (a.f1 < b.f1))
def rightG (a : S52) : Bool := guestB a.f0 a.f1 a.f2 a.f3 a.f4 a.f5
def guestAt (xs : List S52) (j : Nat) : Bool := rightG (nth z52 xs j) && (j == 0 || lessG (nth z52 xs (j - 1)) (nth z52 xs j))
def guestsRight (xs : List S52) : Bool := chk (guestAt xs) xs.length 0 && decide (xs.length ≤ 8)
theorem rdG (xs : List S52) (i : Nat) : rd_T52 xs (i : Int) = nth z52 xs i := rfl
theorem rightG_eq (a : S52) : guestB a.f0 a.f1 a.f2 a.f3 a.f4 a.f5 = rightG a := rfl
theorem spec_l07Less_eq (a b : S52) : spec_l07Less.f a.f0 a.f1 a.f2 a.f3 a.f4 a.f5 a.f6 b.f0 b.f1 b.f2 b.f3 b.f4 b.f5 b.f6 = some (lessG a b) := by
 unfold spec_l07Less.f lessG
 by_cases h : a.f0 < b.f0
 ·simp [h]
 ·by_cases h1 : a.f0 = b.f0 <;> simp [h, h1]
def ordG (a b : S52) : Int := firstNZ [cmpI a.f0 b.f0, cmpI a.f1 b.f1]
theorem impl_Guest_order_eq (a b : S52) (k : Nat) (hk : 3 ≤ k) : impl_Guest_order.f k a.f0 a.f1 a.f2 a.f3 a.f4 a.f5 a.f6 b.f0 b.f1 b.f2 b.f3 b.f4 b.f5 b.f6 = some (ordG a b) := by
 simp only [impl_Guest_order.f, cmp_Compare_eq, Option.bind_some]
 rw [cmp_Or_eq _ (by simp) k (by simp; omega)]
 rfl
theorem ordG_neg (a b : S52) : (ordG a b ≥ 0) ↔ lessG a b = false := by
 unfold ordG lessG cmpI firstNZ firstNZ firstNZ
 repeat' split
 all_goals simp
 all_goals omega
theorem spec_GuestsRight_loop (xs : List S52) (hn : xs.length ≤ 9223372036854775807) : ∀ (d i k : Nat), i + d = xs.length → d + 0 < k → spec_GuestsRight.l0 k xs (i : Int) = some (chk (guestAt xs) d i && true) := by
 apply chk_loop 0 (fun k i => spec_GuestsRight.l0 k xs i)
 ·intro k i _ hi
  simp only [spec_GuestsRight.l0]
  rw [if_pos (by omega), if_pos (by omega), rdG, spec_l07Guest_eq, Option.bind_some, rightG_eq]
  unfold guestAt
  by_cases h : rightG (nth z52 xs i) = true
  ·rw [if_pos h, h, Bool.true_and]
   by_cases h0 : i = 0
   ·subst h0
    rw [if_neg (by omega), if_pos (by simp), wrap_up hi hn]
   ·rw [if_pos (by omega), wrap_down (by omega) (by omega), if_pos (by omega), if_pos (by omega), rdG, wrap_up hi hn, spec_l07Less_eq, Option.bind_some]
    cases h1 : lessG (nth z52 xs (i - 1)) (nth z52 xs i) <;> simp [h0]
  ·rw [if_neg h]
   simp [h]
 ·intro k _
  simp only [spec_GuestsRight.l0]
  rw [if_neg (by omega)]
theorem spec_GuestsRight_eq (xs : List S52) (hn : xs.length ≤ 9223372036854775807) (k : Nat) (hk : xs.length + 3 < k) : spec_GuestsRight.f k xs = some (guestsRight xs) := by
 unfold spec_GuestsRight.f guestsRight
 by_cases h : xs.length ≤ 8
 ·rw [if_neg (by omega), show (0 : Int) = ((0 : Nat) : Int) from rfl, spec_GuestsRight_loop xs hn xs.length 0 k (by omega) (by omega)]
  simp [h]
 ·rw [if_pos (by omega)]
  simp [h]
theorem impl_GuestsRight_loop (xs : List S52) (hn : xs.length ≤ 9223372036854775807) : ∀ (d i k : Nat), i + d = xs.length → d + 3 < k → impl_GuestsRight.l0 k xs xs (xs.length : Int) (i : Int) = some (chk (guestAt xs) d i && decide (xs.length ≤ 8)) := by
 apply chk_loop 3 (fun k i => impl_GuestsRight.l0 k xs xs (xs.length : Int) i)
 ·intro k i hc hi
  simp only [impl_GuestsRight.l0]
  rw [if_pos (by omega), if_pos (by omega), if_pos (by omega), rdG, impl_Guest_isRight_eq, Option.bind_some, rightG_eq]
  unfold guestAt
  by_cases h : rightG (nth z52 xs i) = true
  ·rw [if_pos h, h, Bool.true_and]
   by_cases h0 : i = 0
   ·subst h0
    rw [if_neg (by omega), if_pos (by simp), wrap_up hi hn]
   ·rw [if_pos (by omega), wrap_down (by omega) (by omega), if_pos (by omega), if_pos (by omega), rdG, wrap_up hi hn, impl_Guest_order_eq _ _ k hc, Option.bind_some]
    have ho := ordG_neg (nth z52 xs (i - 1)) (nth z52 xs i)
    cases h1 : lessG (nth z52 xs (i - 1)) (nth z52 xs i) with
    | true => rw [if_neg (by rw [ho, h1]; simp)]; simp
    | false => rw [if_pos (by rw [ho, h1])]; simp [h0]
  ·rw [if_neg h]
   simp [h]
 ·intro k _
  simp only [impl_GuestsRight.l0]
  rw [if_neg (by omega)]
  simp only [Option.some.injEq, decide_eq_decide]
  omega
theorem impl_GuestsRight_eq (xs : List S52) (hn : xs.length ≤ 9223372036854775807) (k : Nat) (hk : xs.length + 3 < k) : impl_GuestsRight.f k xs = some (guestsRight xs) := by
 unfold impl_GuestsRight.f guestsRight
 rw [show (0 : Int) = ((0 : Nat) : Int) from rfl, impl_GuestsRight_loop xs hn xs.length 0 k (by omega) hk]
def toGuest (x : S64) : S52 := ⟨x.f0, x.f1, x.f2, x.f3, x.f4, x.f5, x.f6⟩
end
theorem ordG_lt (x y : S52) : ordG x y < 0 ↔ lessG x y = true := by
 have := ordG_neg x y
 cases h : lessG x y with
 | true => rw [h] at this; simp at this; simp; omega
 | false => rw [h] at this; simp at this; simp; omega
theorem ordG_calls (W : World) (x y : S52) : Calls Try.prog 83 #[.agg [.int .i64 x.f0, .int .i64 x.f1, .int .i64 x.f2, .int .i64 x.f3, .int .i64 x.f4, .int .i64 x.f5, .bool x.f6].toArray, .agg [.int .i64 y.f0, .int .i64 y.f1, .int .i64 y.f2, .int .i64 y.f3, .int .i64 y.f4, .int .i64 y.f5, .bool y.f6].toArray] W fun e w' => e = .returned (.int .i64 (ordG x y)) ∧ Below W.heap.size W w' :=
 impl_Guest_order.calls 5 x.f0 x.f1 x.f2 x.f3 x.f4 x.f5 x.f6 y.f0 y.f1 y.f2 y.f3 y.f4 y.f5 y.f6 (ordG x y) W (impl_Guest_order_eq _ _ 5 (by omega))
theorem lessG_trans {x y z : S52} (h1 : lessG x y = true) (h2 : lessG y z = true) : lessG x z = true := by
 simp only [lessG, Bool.or_eq_true, Bool.and_eq_true, decide_eq_true_eq] at *
 omega
theorem rightg_up (l : List S52) (k : Nat) (t : Bool) (h : impl_GuestsRight.f k l = some t) : ∀ n, impl_GuestsRight.f (k + n) l = some t := by
 intro n
 induction n with
 | zero => exact h
 | succ n ih => exact impl_GuestsRight.mono _ _ _ ih
theorem rightg_is (l : List S52) (hn : l.length ≤ 9223372036854775807) (k : Nat) (t : Bool) (h : impl_GuestsRight.f k l = some t) : t = guestsRight l := by
 have h1 := rightg_up l k t h (l.length + 4)
 rw [impl_GuestsRight_eq l hn _ (by omega)] at h1
 exact (Option.some.inj h1).symm
theorem rightg_less (l : List S52) (h : guestsRight l = true) (j : Nat) (hj : j + 1 < l.length) : lessG (Go.Proofs.Ytifahfnbjidfhaa.Base.nth z52 l j) (Go.Proofs.Ytifahfnbjidfhaa.Base.nth z52 l (j + 1)) = true := by
 unfold guestsRight at h
 rw [Bool.and_eq_true, Go.Proofs.Ytifahfnbjidfhaa.Base.chk_iff] at h
 have := h.1 (j + 1) (by omega) (by omega)
 unfold guestAt at this
 rw [Bool.and_eq_true] at this
 simpa using this.2
theorem rightg_sorted (l : List S52) (h : guestsRight l = true) : ∀ (d a : Nat), a + d + 1 < l.length → lessG (Go.Proofs.Ytifahfnbjidfhaa.Base.nth z52 l a) (Go.Proofs.Ytifahfnbjidfhaa.Base.nth z52 l (a + d + 1)) = true := by
 intro d
 induction d with
 | zero => intro a ha; exact rightg_less l h a ha
 | succ d ih => intro a ha; exact lessG_trans (ih a (by omega)) (rightg_less l h (a + d + 1) (by omega))
set_option maxHeartbeats 1600000 in
set_option maxRecDepth 100000 in
theorem guestPut_calls (A : Option Addr) (c : Nat) (l : List S52) (y : S52) (w : World) (hl : l.length ≤ 400) (hr : Kd.C k52 w A l.length l) (hc0 : l.length ≤ c) (hs : guestsRight l = true) :
  Calls Try.prog 95 #[.slice A l.length c, .agg [.int .i64 y.f0, .int .i64 y.f1, .int .i64 y.f2, .int .i64 y.f3, .int .i64 y.f4, .int .i64 y.f5, .bool y.f6].toArray] w fun e w' => ∃ (i : Nat) (v : Value), i ≤ l.length ∧ (∀ j, j < i → ordG (Go.Proofs.Ytifahfnbjidfhaa.Base.nth z52 l j) y < 0) ∧ (∀ j, i ≤ j → j < l.length → 0 ≤ ordG (Go.Proofs.Ytifahfnbjidfhaa.Base.nth z52 l j) y) ∧ ((i < l.length ∧ ordG (Go.Proofs.Ytifahfnbjidfhaa.Base.nth z52 l i) y = 0) ∧ e = .returned (.tuple #[v, .bool true]) ∧ Kd.R k52 52 w' w.heap.size (fun _ => True) v (l.set i y) ∨
   ¬ (i < l.length ∧ ordG (Go.Proofs.Ytifahfnbjidfhaa.Base.nth z52 l i) y = 0) ∧ e = .returned (.tuple #[v, .bool (decide ((l.length : Int) < 8))]) ∧ Kd.R k52 52 w' w.heap.size (fun _ => True) v (l.take i ++ y :: l.drop i)) ∧ Below w.heap.size w w' := by
 have eg : ∀ args w, (callFunc 83 args).run Try.prog w = .ok (.enter 83 args) w := enters_of Try.func83 (by kernel_rfl) rfl
 have hcl : impl_Guest_127.f l = some l := by
  simp only [impl_Guest_127.f, Option.bind_some, List.nil_append]
  rw [if_pos (by simp; omega)]
 have hmono : ∀ a b, a ≤ b → b < l.length → ordG (Go.Proofs.Ytifahfnbjidfhaa.Base.nth z52 l b) y < 0 → ordG (Go.Proofs.Ytifahfnbjidfhaa.Base.nth z52 l a) y < 0 := by
  intro a b hab hb h
  rcases Nat.lt_or_ge a b with h1 | h1
  ·have := rightg_sorted l hs (b - a - 1) a (by omega)
   rw [show a + (b - a - 1) + 1 = b by omega] at this
   rw [ordG_lt] at h ⊢
   exact lessG_trans this h
  ·obtain rfl : a = b := by omega
   exact h
 have HR := Aside0.mk hr
 have HM := Aside0.mk hmono
 have HCl := Aside0.mk hcl
 have HC0 := Aside0.mk hc0
 have HL := Aside0.mk hl
 have BL := Aside0.mk (blk_new w (.cells [.int .i64 y.f0, .int .i64 y.f1, .int .i64 y.f2, .int .i64 y.f3, .int .i64 y.f4, .int .i64 y.f5, .bool y.f6].toArray 52))
 have B1 := Aside0.mk ((Below.refl _ w).alloc (Nat.le_refl _) (.cells [.int .i64 y.f0, .int .i64 y.f1, .int .i64 y.f2, .int .i64 y.f3, .int .i64 y.f4, .int .i64 y.f5, .bool y.f6].toArray 52))
 clear hr hmono hcl hc0 hs hl
 go_enter Try.func95, Try.ntmps95
 go_wp2_with fail
 refine (impl_Guest_127.calls _ _ l l _ (Kd.C_below HR.out B1.out) HC0.out HCl.out).mono ?_
 rintro e w2 ⟨v2, rfl, hR2, hb⟩
 have HR2 := Aside0.mk (Kd.R_lower hR2 B1.out.size)
 have B2 := Aside0.mk (below_step B1.out hb)
 have BL2 := Aside0.mk (blk_below BL.out hb)
 clear hR2 hb
 have f0 := blk_frozen BL2.out 0
 have f1 := blk_frozen BL2.out 1
 have f2 := blk_frozen BL2.out 2
 have f3 := blk_frozen BL2.out 3
 have f4 := blk_frozen BL2.out 4
 have f5 := blk_frozen BL2.out 5
 have f6 := blk_frozen BL2.out 6
 have k0 := (blk_cell BL2.out 0).trans rfl
 have k1 := (blk_cell BL2.out 1).trans rfl
 have k2 := (blk_cell BL2.out 2).trans rfl
 have k3 := (blk_cell BL2.out 3).trans rfl
 have k4 := (blk_cell BL2.out 4).trans rfl
 have k5 := (blk_cell BL2.out 5).trans rfl
 have k6 := (blk_cell BL2.out 6).trans rfl
 go_wp2_with fail
 refine (bsearch_calls 83 eg ordG ordG_calls _ _ l y _ (by have := HL.out; omega) (Kd.C_below HR.out B2.out) HM.out).mono ?_
 rintro e w3 ⟨i, hi, hlo, hhi, rfl, hb⟩
 have HR3 := Aside0.mk (Kd.R_below HR2.out hb)
 have B3 := Aside0.mk (below_step B2.out hb)
 have BL3 := Aside0.mk (blk_below BL2.out hb)
 have HLO := Aside0.mk hlo
 have HHI := Aside0.mk hhi
 clear hb hlo hhi f0 f1 f2 f3 f4 f5 f6 k0 k1 k2 k3 k4 k5 k6
 have f0 := blk_frozen BL3.out 0
 have f1 := blk_frozen BL3.out 1
 have f2 := blk_frozen BL3.out 2
 have f3 := blk_frozen BL3.out 3
 have f4 := blk_frozen BL3.out 4
 have f5 := blk_frozen BL3.out 5
 have f6 := blk_frozen BL3.out 6
 have k0 := (blk_cell BL3.out 0).trans rfl
 have k1 := (blk_cell BL3.out 1).trans rfl
 have k2 := (blk_cell BL3.out 2).trans rfl
 have k3 := (blk_cell BL3.out 3).trans rfl
 have k4 := (blk_cell BL3.out 4).trans rfl
 have k5 := (blk_cell BL3.out 5).trans rfl
 have k6 := (blk_cell BL3.out 6).trans rfl
 by_cases hq : i < l.length ∧ ordG (Go.Proofs.Ytifahfnbjidfhaa.Base.nth z52 l i) y = 0
 ·have hbool : (decide (i < l.length) && decide (ordG (Go.Proofs.Ytifahfnbjidfhaa.Base.nth z52 l i) y = 0)) = true := by simp [hq.1, hq.2]
  rw [hbool]
  obtain ⟨gb, cap, rfl, hgb, _, _⟩ := Kd.R_form HR3.out (by omega)
  have HQ := Aside0.mk hq
  have HG := Aside0.mk hgb
  have hiz : (i : Int) < (l.length : Int) := by omega
  obtain ⟨ceq, hclq, hMq, hccq, hfrq⟩ := Kd.R_elem HR3.out z52 (i : Int) (by omega) (by omega)
  obtain rfl := k52_openM hMq
  have HSG := Aside0.mk (Kd.R_seg HR3.out (i : Int) (by omega) (by omega) (seg := [.int .i64 y.f0, .int .i64 y.f1, .int .i64 y.f2, .int .i64 y.f3, .int .i64 y.f4, .int .i64 y.f5, .bool y.f6]) (j := 0) hclq hccq (Nat.le_refl _) (x' := y) (k52_mkM _ _ _ y) (fun _ hk => hk))
  clear hMq hclq hccq hfrq hq hbool hgb
  obtain ⟨ces, hcls, hMs, hccs, hfrs⟩ := Kd.R_elem HR3.out z52 (i : Int) (by omega) (by omega)
  obtain rfl := k52_openM hMs
  have hxs_0 : w3.cell? ⟨gb, (i : Int).toNat * 7, none⟩ = some (.int .i64 (rd_T52 l (i : Int)).f0) := hccs 0 _ rfl
  have hxs_1 : w3.cell? ⟨gb, (i : Int).toNat * 7 + 1, none⟩ = some (.int .i64 (rd_T52 l (i : Int)).f1) := hccs 1 _ rfl
  have hxs_2 : w3.cell? ⟨gb, (i : Int).toNat * 7 + 2, none⟩ = some (.int .i64 (rd_T52 l (i : Int)).f2) := hccs 2 _ rfl
  have hxs_3 : w3.cell? ⟨gb, (i : Int).toNat * 7 + 3, none⟩ = some (.int .i64 (rd_T52 l (i : Int)).f3) := hccs 3 _ rfl
  have hxs_4 : w3.cell? ⟨gb, (i : Int).toNat * 7 + 4, none⟩ = some (.int .i64 (rd_T52 l (i : Int)).f4) := hccs 4 _ rfl
  have hxs_5 : w3.cell? ⟨gb, (i : Int).toNat * 7 + 5, none⟩ = some (.int .i64 (rd_T52 l (i : Int)).f5) := hccs 5 _ rfl
  have hxs_6 : w3.cell? ⟨gb, (i : Int).toNat * 7 + 6, none⟩ = some (.bool (rd_T52 l (i : Int)).f6) := hccs 6 _ rfl
  have hfs_0 : w3.frozen? ⟨gb, (i : Int).toNat * 7, none⟩ = false := hfrs 0
  have hfs_1 : w3.frozen? ⟨gb, (i : Int).toNat * 7 + 1, none⟩ = false := hfrs 1
  have hfs_2 : w3.frozen? ⟨gb, (i : Int).toNat * 7 + 2, none⟩ = false := hfrs 2
  have hfs_3 : w3.frozen? ⟨gb, (i : Int).toNat * 7 + 3, none⟩ = false := hfrs 3
  have hfs_4 : w3.frozen? ⟨gb, (i : Int).toNat * 7 + 4, none⟩ = false := hfrs 4
  have hfs_5 : w3.frozen? ⟨gb, (i : Int).toNat * 7 + 5, none⟩ = false := hfrs 5
  have hfs_6 : w3.frozen? ⟨gb, (i : Int).toNat * 7 + 6, none⟩ = false := hfrs 6
  clear hcls hccs hfrs hMs
  simp only [Int.toNat_natCast] at hxs_0 hfs_0 hxs_1 hfs_1 hxs_2 hfs_2 hxs_3 hfs_3 hxs_4 hfs_4 hxs_5 hfs_5 hxs_6 hfs_6
  go_wp2
  go_ret2
  exact ⟨i, _, hi, HLO.out, HHI.out, .inl ⟨HQ.out, rfl, HSG.out.1⟩, B3.out.grown HSG.out.2 B3.out.size (fun k e => by injection e with e; subst e; exact HG.out)⟩
 ·have hbool : (decide (i < l.length) && decide (ordG (Go.Proofs.Ytifahfnbjidfhaa.Base.nth z52 l i) y = 0)) = false := by
   rw [Bool.and_eq_false_iff, decide_eq_false_iff_not, decide_eq_false_iff_not]
   by_cases h : i < l.length
   ·exact .inr (fun h2 => hq ⟨h, h2⟩)
   ·exact .inl h
  rw [hbool]
  have HQ := Aside0.mk hq
  clear hq hbool
  go_wp2_with fail
  refine (insert_calls w l v2 i y w3.heap.size _ (Kd.R_alloc HR3.out _) (below_alloc B3.out _) hi (by have := HL.out; omega) (below_alloc B3.out _).size (blk_new w3 _) (fun e => by have := Kd.R_lt HR3.out _ e.symm; omega)).mono ?_
  rintro e w4 ⟨v4, rfl, hR4, hb4, _⟩
  have HR4 := Aside0.mk hR4
  have B4 := Aside0.mk hb4
  clear hR4 hb4
  go_wp2
  go_ret2
  exact ⟨i, _, hi, HLO.out, HHI.out, .inr ⟨HQ.out, rfl, HR4.out⟩, B4.out⟩
theorem ordG_zero (x y : S52) (h : lessG x y = false) : ordG x y = 0 ↔ lessG y x = false := by
 unfold ordG lessG Go.Proofs.Ytifahfnbjidfhaa.Base.cmpI Go.Proofs.Ytifahfnbjidfhaa.Base.firstNZ Go.Proofs.Ytifahfnbjidfhaa.Base.firstNZ Go.Proofs.Ytifahfnbjidfhaa.Base.firstNZ at *
 simp only [Bool.or_eq_false_iff, Bool.and_eq_false_iff, decide_eq_false_iff_not] at *
 repeat' split
 all_goals omega
theorem putg_j2 (l xs : List S52) (z1 z2 : List S52) (z3 : Int) (hl : l.length ≤ 1048576) (hx : xs.length ≤ 1048577) (j k : Nat) (b : Bool) (hj : j ≤ l.length) (hb : b = true → j < l.length) (h : spec_l07Put.j2 k l (j : Int) xs b = some (z1, z2, z3)) :
  z2 = [] ∧ (b = true ∧ z1 = xs ++ l.drop (j + 1) ∧ z3 = 0 ∨ b = false ∧ (8 ≤ l.length ∧ z1 = [] ∧ z3 = 9 ∨ l.length < 8 ∧ z1 = xs ++ l.drop j ∧ z3 = 0)) := by
 cases k with
 | zero => cases h
 | succ k =>
  rw [spec_l07Put.j2] at h
  cases b with
  | true =>
   have hc := hb rfl
   have hw : wrap64 ((j : Int) + 1) = ((j + 1 : Nat) : Int) := by unfold wrap64; omega
   rw [if_pos rfl, hw, if_pos (by omega), if_pos (by omega), Option.bind_some, if_pos (by simp; omega)] at h
   injection h with h
   injection h with h1 h
   injection h with h2 h3
   exact ⟨h2.symm, .inl ⟨rfl, h1.symm, h3.symm⟩⟩
  | false =>
   rw [if_neg (by decide)] at h
   by_cases h8 : (l.length : Int) ≥ 8
   ·rw [if_pos h8, spec_l07Ill.f, Option.bind_some] at h
    injection h with h
    injection h with h1 h
    injection h with h2 h3
    exact ⟨h2.symm, .inr ⟨rfl, .inl ⟨by omega, h1.symm, h3.symm⟩⟩⟩
   ·rw [if_neg h8, if_pos (by omega), if_pos (by omega), Option.bind_some, if_pos (by simp; omega)] at h
    injection h with h
    injection h with h1 h
    injection h with h2 h3
    exact ⟨h2.symm, .inr ⟨rfl, .inr ⟨by omega, h1.symm, h3.symm⟩⟩⟩
theorem putg_j1 (l : List S52) (y : S52) (r : List S52 × List S52 × Int) (hl : l.length ≤ 1048576) (j k : Nat) (hj : j ≤ l.length) (h : spec_l07Put.j1 k l (j : Int) y.f0 y.f1 y.f2 y.f3 y.f4 y.f5 y.f6 = some r) :
  ∃ k', spec_l07Put.j2 k' l (j : Int) (l.take j ++ [y]) (decide (j < l.length) && !lessG y (Go.Proofs.Ytifahfnbjidfhaa.Base.nth z52 l j)) = some r := by
 cases k with
 | zero => cases h
 | succ k =>
  rw [spec_l07Put.j1, Option.bind_some, if_pos (by omega), if_pos (by omega), Option.bind_some, if_pos (by simp; omega), Option.bind_some, if_pos (by simp; omega), Option.bind_some] at h
  by_cases hc : j < l.length
  ·rw [if_pos (by omega), rdG, spec_l07Less_eq, Option.bind_some] at h
   exact ⟨k, by rw [decide_eq_true hc, Bool.true_and]; exact h⟩
  ·rw [if_neg (by omega)] at h
   exact ⟨k, by rw [decide_eq_false hc, Bool.false_and]; exact h⟩
theorem putg_is (l : List S52) (y : S52) (i : Nat) (z1 z2 : List S52) (z3 : Int) (hl : l.length ≤ 400) (hi : i ≤ l.length) (hlo : ∀ j, j < i → ordG (Go.Proofs.Ytifahfnbjidfhaa.Base.nth z52 l j) y < 0) (hhi : ∀ j, i ≤ j → j < l.length → 0 ≤ ordG (Go.Proofs.Ytifahfnbjidfhaa.Base.nth z52 l j) y) :
  ∀ (d j k : Nat), j + d = i → spec_l07Put.l0 k l (j : Int) y.f0 y.f1 y.f2 y.f3 y.f4 y.f5 y.f6 = some (z1, z2, z3) → z2 = [] ∧ ((i < l.length ∧ ordG (Go.Proofs.Ytifahfnbjidfhaa.Base.nth z52 l i) y = 0) ∧ z1 = l.set i y ∧ z3 = 0 ∨ ¬ (i < l.length ∧ ordG (Go.Proofs.Ytifahfnbjidfhaa.Base.nth z52 l i) y = 0) ∧ (8 ≤ l.length ∧ z1 = [] ∧ z3 = 9 ∨ l.length < 8 ∧ z1 = l.take i ++ y :: l.drop i ∧ z3 = 0)) := by
 intro d
 induction d with
 | zero =>
  intro j k hj h
  obtain rfl : j = i := by omega
  cases k with
  | zero => cases h
  | succ k =>
   have hj1 : spec_l07Put.j1 k l (j : Int) y.f0 y.f1 y.f2 y.f3 y.f4 y.f5 y.f6 = some (z1, z2, z3) := by
    rw [spec_l07Put.l0] at h
    by_cases hc : j < l.length
    ·have hn : lessG (Go.Proofs.Ytifahfnbjidfhaa.Base.nth z52 l j) y = false := by
      cases hq : lessG (Go.Proofs.Ytifahfnbjidfhaa.Base.nth z52 l j) y with
      | false => rfl
      | true =>
       have := (ordG_lt _ _).2 hq
       have := hhi j (Nat.le_refl _) hc
       omega
     rw [if_pos (by omega), if_pos (by omega), rdG, spec_l07Less_eq, Option.bind_some, hn, if_neg (by decide)] at h
     exact h
    ·rw [if_neg (by omega)] at h
     exact h
   obtain ⟨k', hj2⟩ := putg_j1 l y _ (by omega) j k hi hj1
   obtain ⟨h2, h3⟩ := putg_j2 l _ z1 z2 z3 (by omega) (by simp; omega) j k' _ hi (fun h => by simp at h; exact h.1) hj2
   refine ⟨h2, ?_⟩
   by_cases hc : j < l.length
   ·have hn : lessG (Go.Proofs.Ytifahfnbjidfhaa.Base.nth z52 l j) y = false := by
     cases hq : lessG (Go.Proofs.Ytifahfnbjidfhaa.Base.nth z52 l j) y with
     | false => rfl
     | true =>
      have := (ordG_lt _ _).2 hq
      have := hhi j (Nat.le_refl _) hc
      omega
    have hz := ordG_zero _ _ hn
    rw [decide_eq_true hc, Bool.true_and] at h3
    rcases h3 with ⟨hb, h4, h5⟩ | ⟨hb, h3⟩
    ·refine .inl ⟨⟨hc, hz.2 (by simpa using hb)⟩, ?_, h5⟩
     rw [List.set_eq_take_append_cons_drop, if_pos hc]
     simpa using h4
    ·refine .inr ⟨fun hh => ?_, ?_⟩
     ·rw [hz.1 hh.2] at hb
      cases hb
     ·rcases h3 with h3 | ⟨h4, h5, h6⟩
      ·exact .inl h3
      ·exact .inr ⟨h4, by simpa using h5, h6⟩
   ·rw [decide_eq_false hc, Bool.false_and] at h3
    rcases h3 with ⟨hb, _⟩ | ⟨_, h3⟩
    ·cases hb
    ·refine .inr ⟨fun hh => hc hh.1, ?_⟩
     rcases h3 with h3 | ⟨h4, h5, h6⟩
     ·exact .inl h3
     ·exact .inr ⟨h4, by simpa using h5, h6⟩
 | succ d ih =>
  intro j k hj h
  cases k with
  | zero => cases h
  | succ k =>
   have hw : wrap64 ((j : Int) + 1) = ((j + 1 : Nat) : Int) := by unfold wrap64; omega
   rw [spec_l07Put.l0, if_pos (by omega), if_pos (by omega), rdG, spec_l07Less_eq, Option.bind_some, (ordG_lt _ _).1 (hlo j (by omega)), if_pos rfl, hw] at h
   exact ih (j + 1) k (by omega) h
theorem gput_cases (k : Nat) (l : List S52) (a1_0 a1_1 a1_2 a1_3 a1_4 a1_5 : Int) (a1_6 : Bool) (hn : l.length ≤ 9223372036854775807) (r1 r2 : List S52) (r3 : Int) (h : impl_GuestPut.f k l a1_0 a1_1 a1_2 a1_3 a1_4 a1_5 a1_6 = some (r1, r2, r3)) :
  ∃ t, impl_Guest_isRight.f a1_0 a1_1 a1_2 a1_3 a1_4 a1_5 a1_6 = some t ∧ ((r3 ≠ 0 ∧ impl_guestsCode.f k l t = some r3 ∧ r1 = [] ∧ r2 = []) ∨ (impl_guestsCode.f k l t = some 0 ∧ guestsRight l = true ∧ l.length ≤ 400 ∧ ∃ k', spec_l07Put.f k' l a1_0 a1_1 a1_2 a1_3 a1_4 a1_5 a1_6 = some (r1, r2, r3))) := by
 unfold impl_GuestPut.f at h
 obtain ⟨t, ht, h⟩ := Option.bind_eq_some_iff.mp h
 obtain ⟨u, hu, h⟩ := Option.bind_eq_some_iff.mp h
 clear hu
 refine ⟨t, ht, ?_⟩
 unfold impl_guestsCode.f
 have ill : ∀ x, (spec_l07Ill.f x).bind (fun bt => some (bt.1, bt.2.1, bt.2.2)) = some (r1, r2, r3) → r1 = [] ∧ r2 = [] ∧ r3 = x := by
  intro x h
  simp only [spec_l07Ill.f, Option.bind_some, Option.some.injEq, Prod.mk.injEq] at h
  exact ⟨h.1.symm, h.2.1.symm, h.2.2.symm⟩
 by_cases h0 : (l.length : Int) > 400
 ·rw [if_pos h0] at h ⊢
  obtain ⟨rfl, rfl, rfl⟩ := ill _ h
  exact .inl ⟨by decide, rfl, rfl, rfl⟩
 ·rw [if_neg h0] at h ⊢
  obtain ⟨g, hg, h⟩ := Option.bind_eq_some_iff.mp h
  rw [hg, Option.bind_some]
  cases k with
  | zero => cases g <;> simp [impl_GuestPut.j0, ht] at h
  | succ k =>
   cases g with
   | false =>
    rw [if_neg (by decide)] at h ⊢
    rw [impl_GuestPut.j0, if_pos (by decide)] at h
    obtain ⟨rfl, rfl, rfl⟩ := ill _ h
    exact .inl ⟨by decide, rfl, rfl, rfl⟩
   | true =>
    rw [if_pos rfl] at h ⊢
    rw [ht, Option.bind_some] at h
    cases t with
    | false =>
     rw [impl_GuestPut.j0, if_pos (by decide)] at h
     obtain ⟨rfl, rfl, rfl⟩ := ill _ h
     exact .inl ⟨by decide, rfl, rfl, rfl⟩
    | true =>
     rw [impl_GuestPut.j0, if_neg (by decide)] at h
     obtain ⟨z, hz, h⟩ := Option.bind_eq_some_iff.mp h
     obtain ⟨z1, z2, z3⟩ := z
     have hs := (rightg_is l hn _ _ hg).symm
     exact .inr ⟨rfl, hs, by omega, k, by rw [hz]; exact h⟩
set_option maxHeartbeats 8000000 in
set_option maxRecDepth 100000 in
theorem impl_GuestPut.calls (k : Nat) (A0 : Option Addr) (c0 : Nat) (l0 : List (S52)) (a1_0 : Int) (a1_1 : Int) (a1_2 : Int) (a1_3 : Int) (a1_4 : Int) (a1_5 : Int) (a1_6 : Bool) (r1 : List (S52)) (r2 : List (S52)) (r3 : Int) (w : World) (hr0 : Kd.C k52 w A0 l0.length l0) (hc0 : l0.length ≤ c0) (h : impl_GuestPut.f k l0 a1_0 a1_1 a1_2 a1_3 a1_4 a1_5 a1_6 = some (r1, r2, r3)) :
  Calls Try.prog 48 #[.slice A0 l0.length c0, .agg #[.int .i64 a1_0, .int .i64 a1_1, .int .i64 a1_2, .int .i64 a1_3, .int .i64 a1_4, .int .i64 a1_5, .bool a1_6]] w fun e w' => ∃ v0_ v1_ : Value, e = .returned (.agg #[v0_, v1_, .int .i64 r3]) ∧ Kd.R k52 52 w' w.heap.size (fun k_ => some k_ ≠ (v1_ : Value).ownBlock) v0_ r1 ∧ Kd.R k52 52 w' w.heap.size (fun k_ => some k_ ≠ (v0_ : Value).ownBlock) v1_ r2 ∧ Below w.heap.size w w' := by
 obtain ⟨t, ht, hcase⟩ := gput_cases k l0 a1_0 a1_1 a1_2 a1_3 a1_4 a1_5 a1_6 hr0.2.1 r1 r2 r3 h
 have HR := Aside0.mk hr0
 have HC := Aside0.mk hc0
 have HT := Aside0.mk ht
 have bk1 := blk_new w (.cells #[.int .i64 a1_0, .int .i64 a1_1, .int .i64 a1_2, .int .i64 a1_3, .int .i64 a1_4, .int .i64 a1_5, .bool a1_6] 52)
 have bk2 := blk_new (w.alloc (.cells #[.int .i64 a1_0, .int .i64 a1_1, .int .i64 a1_2, .int .i64 a1_3, .int .i64 a1_4, .int .i64 a1_5, .bool a1_6] 52)) (.cells #[.slice none 0 0, .slice none 0 0, .int .i64 0] 57)
 rw [World.size_alloc] at bk2
 have BL := Aside0.mk (blk_alloc bk1 (.cells #[.slice none 0 0, .slice none 0 0, .int .i64 0] 57))
 have BK := Aside0.mk bk2
 have B1 := Aside0.mk (((Below.refl _ w).alloc (Nat.le_refl _) (.cells #[.int .i64 a1_0, .int .i64 a1_1, .int .i64 a1_2, .int .i64 a1_3, .int .i64 a1_4, .int .i64 a1_5, .bool a1_6] 52)).alloc (by simp) (.cells #[.slice none 0 0, .slice none 0 0, .int .i64 0] 57))
 clear h hr0 hc0 ht bk1 bk2
 rcases hcase with ⟨hne, hcode, rfl, rfl⟩ | ⟨hcode, hs, hl, k', hz⟩
 ·have HCo := Aside0.mk hcode
  have hne1 : (r3 != 0) = true := by simpa using hne
  clear hcode hne
  go_enter Try.func48, Try.ntmps48
  go_wp2_with fail
  refine (impl_Guest_isRight.calls a1_0 a1_1 a1_2 a1_3 a1_4 a1_5 a1_6 t _ HT.out).mono ?_
  rintro e w2 ⟨rfl, hb⟩
  have B2 := Aside0.mk (below_step B1.out hb)
  have BK2 := Aside0.mk (blk_below BK.out hb)
  clear hb
  go_wp2_with fail
  refine (impl_guestsCode.calls k _ _ l0 t _ _ (Kd.C_below HR.out B2.out) HC.out HCo.out).mono ?_
  rintro e w3 ⟨rfl, hb⟩
  have B3 := Aside0.mk (below_step B2.out hb)
  have BK3 := Aside0.mk (blk_below BK2.out hb)
  clear hb
  have f0 := blk_frozen BK3.out 0
  have f1 := blk_frozen BK3.out 1
  have f2 := blk_frozen BK3.out 2
  have k0 := (blk_cell BK3.out 0).trans rfl
  have k1 := (blk_cell BK3.out 1).trans rfl
  have k2 := (blk_cell BK3.out 2).trans rfl
  have HF := Aside0.mk (blk_set (blk_set (blk_set BK3.out 0 (.slice none 0 0)) 1 (.slice none 0 0)) 2 (.int .i64 r3))
  go_wp2
  refine bodyPost_ret (v := .agg #[.slice none 0 0, .slice none 0 0, .int .i64 r3]) ?_ rfl ⟨_, _, rfl, Kd.R_nil _ _ _ _ _, Kd.R_nil _ _ _ _ _, ?_⟩
  ·refine results_cell_row (fn := Try.f48) (p := 4) (ty := 57) ?_ _ _ (w.heap.size + 1) 57 #[.slice none 0 0, .slice none 0 0, .int .i64 r3] (0, 0) _ ?_ HF.out Try.underlying57 ?_ ?_
   all_goals first | rfl | kernel_rfl
  ·exact (((B3.out.setCell (by simp) _).setCell (by simp) _).setCell (by simp) _)
 ·have HCo := Aside0.mk hcode
  have HS := Aside0.mk hs
  have HL := Aside0.mk hl
  have HZ0 := Aside0.mk hz
  clear hcode hs hl hz
  go_enter Try.func48, Try.ntmps48
  go_wp2_with fail
  refine (impl_Guest_isRight.calls a1_0 a1_1 a1_2 a1_3 a1_4 a1_5 a1_6 t _ HT.out).mono ?_
  rintro e w2 ⟨rfl, hb⟩
  have B2 := Aside0.mk (below_step B1.out hb)
  have BK2 := Aside0.mk (blk_below BK.out hb)
  have BL2 := Aside0.mk (blk_below BL.out hb)
  clear hb
  go_wp2_with fail
  refine (impl_guestsCode.calls k _ _ l0 t _ _ (Kd.C_below HR.out B2.out) HC.out HCo.out).mono ?_
  rintro e w3 ⟨rfl, hb⟩
  have B3 := Aside0.mk (below_step B2.out hb)
  have BK3 := Aside0.mk (blk_below BK2.out hb)
  have bl := blk_below BL2.out hb
  clear hb
  have q0 := (blk_cell bl 0).trans rfl
  have q1 := (blk_cell bl 1).trans rfl
  have q2 := (blk_cell bl 2).trans rfl
  have q3 := (blk_cell bl 3).trans rfl
  have q4 := (blk_cell bl 4).trans rfl
  have q5 := (blk_cell bl 5).trans rfl
  have q6 := (blk_cell bl 6).trans rfl
  clear bl
  go_wp2_with fail
  refine (guestPut_calls _ _ l0 ⟨a1_0, a1_1, a1_2, a1_3, a1_4, a1_5, a1_6⟩ _ HL.out (Kd.C_below HR.out B3.out) HC.out HS.out).mono ?_
  rintro e w4 ⟨i, v4, hi, hlo, hhi, hcs, hb⟩
  obtain ⟨rfl, hput⟩ := putg_is l0 ⟨a1_0, a1_1, a1_2, a1_3, a1_4, a1_5, a1_6⟩ i r1 r2 r3 HL.out hi hlo hhi i 0 k' (by omega) HZ0.out
  have HP := Aside0.mk hput
  have B4 := Aside0.mk (below_step B3.out hb)
  have BK4 := Aside0.mk (blk_below BK3.out hb)
  clear hb hlo hhi hi q0 q1 q2 q3 q4 q5 q6 hput
  rcases hcs with ⟨hq, rfl, hR4⟩ | ⟨hq, rfl, hR4⟩
  ·have HR4 := Aside0.mk (Kd.R_lower hR4 B3.out.size)
   clear hR4
   obtain ⟨A6, c6, e6⟩ := Kd.R_slice HR4.out
   subst e6
   obtain ⟨hr1, rfl⟩ : r1 = l0.set i ⟨a1_0, a1_1, a1_2, a1_3, a1_4, a1_5, a1_6⟩ ∧ r3 = 0 := by
    rcases HP.out with ⟨_, h1, h2⟩ | ⟨h1, _⟩
    ·exact ⟨h1, h2⟩
    ·exact absurd hq h1
   rw [← hr1] at HR4 ⊢
   clear hr1 hq
   have f0 := blk_frozen BK4.out 0
   have f1 := blk_frozen BK4.out 1
   have f2 := blk_frozen BK4.out 2
   have k0 := (blk_cell BK4.out 0).trans rfl
   have k1 := (blk_cell BK4.out 1).trans rfl
   have k2 := (blk_cell BK4.out 2).trans rfl
   have HF := Aside0.mk (blk_set (blk_set (blk_set BK4.out 0 (.slice A6 r1.length c6)) 1 (.slice none 0 0)) 2 (.int .i64 0))
   have HX := Aside0.mk (Kd.R_set (Kd.R_set (Kd.R_set HR4.out BK4.out (by decide) 0 (.slice A6 r1.length c6)) (blk_set BK4.out 0 _) (by decide) 1 (.slice none 0 0)) (blk_set (blk_set BK4.out 0 _) 1 _) (by decide) 2 (.int .i64 0))
   go_wp2
   refine bodyPost_ret (v := .agg #[.slice A6 r1.length c6, .slice none 0 0, .int .i64 0]) ?_ rfl ⟨_, _, rfl, Kd.R_mono HX.out (fun k _ => by simp [Value.ownBlock]), Kd.R_nil _ _ _ _ _, ?_⟩
   ·refine results_cell_row (fn := Try.f48) (p := 4) (ty := 57) ?_ _ _ (w.heap.size + 1) 57 #[.slice A6 r1.length c6, .slice none 0 0, .int .i64 0] (0, 0) _ ?_ HF.out Try.underlying57 ?_ ?_
    all_goals first | rfl | kernel_rfl
   ·exact (((B4.out.setCell (by simp) _).setCell (by simp) _).setCell (by simp) _)
  ·have hp2 : 8 ≤ l0.length ∧ r1 = [] ∧ r3 = 9 ∨ l0.length < 8 ∧ r1 = l0.take i ++ ⟨a1_0, a1_1, a1_2, a1_3, a1_4, a1_5, a1_6⟩ :: l0.drop i ∧ r3 = 0 := by
    rcases HP.out with ⟨h1, _⟩ | ⟨_, h1⟩
    ·exact absurd h1 hq
    ·exact h1
   clear hq
   have HR4 := Aside0.mk (Kd.R_lower hR4 B3.out.size)
   clear hR4
   obtain ⟨A6, c6, e6⟩ := Kd.R_slice HR4.out
   subst e6
   rcases hp2 with ⟨h8, rfl, rfl⟩ | ⟨h8, hr1, rfl⟩
   ·have hd : decide ((l0.length : Int) < 8) = false := decide_eq_false (by omega)
    rw [hd]
    clear hd h8
    have f0 := blk_frozen BK4.out 0
    have f1 := blk_frozen BK4.out 1
    have f2 := blk_frozen BK4.out 2
    have k0 := (blk_cell BK4.out 0).trans rfl
    have k1 := (blk_cell BK4.out 1).trans rfl
    have k2 := (blk_cell BK4.out 2).trans rfl
    have HF := Aside0.mk (blk_set (blk_set (blk_set BK4.out 0 (.slice none 0 0)) 1 (.slice none 0 0)) 2 (.int .i64 9))
    go_wp2
    refine bodyPost_ret (v := .agg #[.slice none 0 0, .slice none 0 0, .int .i64 9]) ?_ rfl ⟨_, _, rfl, Kd.R_nil _ _ _ _ _, Kd.R_nil _ _ _ _ _, ?_⟩
    ·refine results_cell_row (fn := Try.f48) (p := 4) (ty := 57) ?_ _ _ (w.heap.size + 1) 57 #[.slice none 0 0, .slice none 0 0, .int .i64 9] (0, 0) _ ?_ HF.out Try.underlying57 ?_ ?_
     all_goals first | rfl | kernel_rfl
    ·exact (((B4.out.setCell (by simp) _).setCell (by simp) _).setCell (by simp) _)
   ·have hd : decide ((l0.length : Int) < 8) = true := decide_eq_true (by omega)
    rw [hd]
    rw [← hr1] at HR4 ⊢
    clear hd h8 hr1
    have f0 := blk_frozen BK4.out 0
    have f1 := blk_frozen BK4.out 1
    have f2 := blk_frozen BK4.out 2
    have k0 := (blk_cell BK4.out 0).trans rfl
    have k1 := (blk_cell BK4.out 1).trans rfl
    have k2 := (blk_cell BK4.out 2).trans rfl
    have HF := Aside0.mk (blk_set (blk_set (blk_set BK4.out 0 (.slice A6 r1.length c6)) 1 (.slice none 0 0)) 2 (.int .i64 0))
    have HX := Aside0.mk (Kd.R_set (Kd.R_set (Kd.R_set HR4.out BK4.out (by decide) 0 (.slice A6 r1.length c6)) (blk_set BK4.out 0 _) (by decide) 1 (.slice none 0 0)) (blk_set (blk_set BK4.out 0 _) 1 _) (by decide) 2 (.int .i64 0))
    go_wp2
    refine bodyPost_ret (v := .agg #[.slice A6 r1.length c6, .slice none 0 0, .int .i64 0]) ?_ rfl ⟨_, _, rfl, Kd.R_mono HX.out (fun k _ => by simp [Value.ownBlock]), Kd.R_nil _ _ _ _ _, ?_⟩
    ·refine results_cell_row (fn := Try.f48) (p := 4) (ty := 57) ?_ _ _ (w.heap.size + 1) 57 #[.slice A6 r1.length c6, .slice none 0 0, .int .i64 0] (0, 0) _ ?_ HF.out Try.underlying57 ?_ ?_
     all_goals first | rfl | kernel_rfl
    ·exact (((B4.out.setCell (by simp) _).setCell (by simp) _).setCell (by simp) _)
end Go.Proofs.Ytifahfnbjidfhaa.PFnExactGuestPut
