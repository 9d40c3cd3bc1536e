-- A copy, made by trim.py (its own words shortened): not an official print.
import Derived.Test.YtmgmaflfednngaaZExactRibPutPFnExactRibPutx0
import Derived.Test.YtmgmaflfednngaaZExactRibPutPFnExactRibPutx11
import Derived.Test.YtmgmaflfednngaaZExactRibPutSlices
namespace Go.Proofs.Ytmgmaflfednngaa.PFnExactRibPut
open Go.RowKit Go.Proofs.YtmgmaflfednngaaW.PrintWords Go.Proofs.YtmgmaflfednngaaW.PrintLast Go.Proofs.YtmgmaflfednngaaW.PrintMore
attribute [local go_sem] max2_int min2_int max_two min_two max_three min_three max_four min_four   -- for this text's walks alone
set_option linter.unusedVariables false
set_option linter.unusedSimpArgs false
def cmp_Compare_int64.f (a0 : Int) (a1 : Int) : Option (Int) := (cmp_isNaN_int64.f a0).bind fun t290 => ((cmp_isNaN_int64.f a1).bind fun t291 => (if t290 = true then (if t291 = true then (some 0) else (some (-1))) else (if t291 = true then (some 1) else (if a0 < a1 then (some (-1)) else (if a0 > a1 then (some 1) else (some 0))))))
set_option maxHeartbeats 8000000 in
set_option maxRecDepth 100000 in
theorem cmp_Compare_int64.calls (a0 : Int) (a1 : Int) (r : Int) (w : World) (h : cmp_Compare_int64.f a0 a1 = some r) :
  Calls Try.prog 136 #[.int .i64 a0, .int .i64 a1] w fun e w' => e = .returned (.int .i64 r) ∧ Drawn0 w w' := by
 have H : ((cmp_isNaN_int64.f a0).bind fun t290 => ((cmp_isNaN_int64.f a1).bind fun t291 => (if t290 = true then (if t291 = true then (some 0) else (some (-1))) else (if t291 = true then (some 1) else (if a0 < a1 then (some (-1)) else (if a0 > a1 then (some 1) else (some 0))))))) = some r := h
 clear h
 replace H := Option.bind_eq_some_iff.mp H
 obtain ⟨t290, A30, H⟩ := H
 replace H : ((cmp_isNaN_int64.f a1).bind fun t291 => (if t290 = true then (if t291 = true then (some 0) else (some (-1))) else (if t291 = true then (some 1) else (if a0 < a1 then (some (-1)) else (if a0 > a1 then (some 1) else (some 0)))))) = some r := H
 have A3 := Aside0.mk A30
 clear A30
 replace H := Option.bind_eq_some_iff.mp H
 obtain ⟨t291, A40, H⟩ := H
 replace H : (if t290 = true then (if t291 = true then (some 0) else (some (-1))) else (if t291 = true then (some 1) else (if a0 < a1 then (some (-1)) else (if a0 > a1 then (some 1) else (some 0))))) = some r := H
 have A4 := Aside0.mk A40
 clear A40
 by_cases c5 : t290 = true
 ·subst c5
  have H1 : (if t291 = true then (some 0) else (some (-1))) = some r := by rw [if_pos rfl] at H; exact H
  clear H
  have H := H1
  clear H1
  by_cases c6 : t291 = true
  ·subst c6
   have H1 : (some 0) = some r := by rw [if_pos rfl] at H; exact H
   clear H
   have H := H1
   clear H1
   obtain rfl := Option.some.inj H
   go_enter Try.func136, Try.ntmps136
   go_wp2_with (first | ((with_reducible refine Qq (f := 161) rfl ?_); refine Qx (some 8) rfl rfl Try.func161 (by kernel_rfl) rfl #[.int .i64 a0] rfl (by (try simp only [List.map_toArray, List.map_cons, List.map_nil]); first | done | rfl | (simp only [List.length_drop, List.length_take]; rfl)) ?_; (with_reducible refine (cmp_isNaN_int64.calls a0 true _ A3.out).mono ?_); rintro e w' ⟨rfl, ⟨nd, rfl⟩⟩; refine ⟨_, rfl, ?_⟩) | ((with_reducible refine Qq (f := 161) rfl ?_); refine Qx (some 10) rfl rfl Try.func161 (by kernel_rfl) rfl #[.int .i64 a1] rfl (by (try simp only [List.map_toArray, List.map_cons, List.map_nil]); first | done | rfl | (simp only [List.length_drop, List.length_take]; rfl)) ?_; (with_reducible refine (cmp_isNaN_int64.calls a1 true _ A4.out).mono ?_); rintro e w' ⟨rfl, ⟨nd, rfl⟩⟩; refine ⟨_, rfl, ?_⟩))
   go_ret
   exact ⟨by first | rfl | (simp; done) | (simp [*]; done), by repeat (first | exact Drawn0.refl _ | apply Drawn0.step)⟩
  ·replace c6 := Bool.eq_false_iff.mpr c6
   subst c6
   have H1 : (some (-1)) = some r := by rw [if_neg (show ¬ (false = true) by decide)] at H; exact H
   clear H
   have H := H1
   clear H1
   obtain rfl := Option.some.inj H
   go_enter Try.func136, Try.ntmps136
   go_wp2_with (first | ((with_reducible refine Qq (f := 161) rfl ?_); refine Qx (some 8) rfl rfl Try.func161 (by kernel_rfl) rfl #[.int .i64 a0] rfl (by (try simp only [List.map_toArray, List.map_cons, List.map_nil]); first | done | rfl | (simp only [List.length_drop, List.length_take]; rfl)) ?_; (with_reducible refine (cmp_isNaN_int64.calls a0 true _ A3.out).mono ?_); rintro e w' ⟨rfl, ⟨nd, rfl⟩⟩; refine ⟨_, rfl, ?_⟩) | ((with_reducible refine Qq (f := 161) rfl ?_); refine Qx (some 10) rfl rfl Try.func161 (by kernel_rfl) rfl #[.int .i64 a1] rfl (by (try simp only [List.map_toArray, List.map_cons, List.map_nil]); first | done | rfl | (simp only [List.length_drop, List.length_take]; rfl)) ?_; (with_reducible refine (cmp_isNaN_int64.calls a1 false _ A4.out).mono ?_); rintro e w' ⟨rfl, ⟨nd, rfl⟩⟩; refine ⟨_, rfl, ?_⟩))
   go_ret
   exact ⟨by first | rfl | (simp; done) | (simp [*]; done), by repeat (first | exact Drawn0.refl _ | apply Drawn0.step)⟩
 ·replace c5 := Bool.eq_false_iff.mpr c5
  subst c5
  have H1 : (if t291 = true then (some 1) else (if a0 < a1 then (some (-1)) else (if a0 > a1 then (some 1) else (some 0)))) = some r := by rw [if_neg (show ¬ (false = true) by decide)] at H; exact H
  clear H
  have H := H1
  clear H1
  by_cases c7 : t291 = true
  ·subst c7
   have H1 : (some 1) = some r := by rw [if_pos rfl] at H; exact H
   clear H
   have H := H1
   clear H1
   obtain rfl := Option.some.inj H
   go_enter Try.func136, Try.ntmps136
   go_wp2_with (first | ((with_reducible refine Qq (f := 161) rfl ?_); refine Qx (some 8) rfl rfl Try.func161 (by kernel_rfl) rfl #[.int .i64 a0] rfl (by (try simp only [List.map_toArray, List.map_cons, List.map_nil]); first | done | rfl | (simp only [List.length_drop, List.length_take]; rfl)) ?_; (with_reducible refine (cmp_isNaN_int64.calls a0 false _ A3.out).mono ?_); rintro e w' ⟨rfl, ⟨nd, rfl⟩⟩; refine ⟨_, rfl, ?_⟩) | ((with_reducible refine Qq (f := 161) rfl ?_); refine Qx (some 10) rfl rfl Try.func161 (by kernel_rfl) rfl #[.int .i64 a1] rfl (by (try simp only [List.map_toArray, List.map_cons, List.map_nil]); first | done | rfl | (simp only [List.length_drop, List.length_take]; rfl)) ?_; (with_reducible refine (cmp_isNaN_int64.calls a1 true _ A4.out).mono ?_); rintro e w' ⟨rfl, ⟨nd, rfl⟩⟩; refine ⟨_, rfl, ?_⟩))
   go_ret
   exact ⟨by first | rfl | (simp; done) | (simp [*]; done), by repeat (first | exact Drawn0.refl _ | apply Drawn0.step)⟩
  ·replace c7 := Bool.eq_false_iff.mpr c7
   subst c7
   have H1 : (if a0 < a1 then (some (-1)) else (if a0 > a1 then (some 1) else (some 0))) = some r := by rw [if_neg (show ¬ (false = true) by decide)] at H; exact H
   clear H
   have H := H1
   clear H1
   by_cases c8 : a0 < a1
   ·rw [if_pos c8] at H
    have c8b0 : decide (a0 < a1) = true := decide_eq_true c8
    clear c8
    obtain rfl := Option.some.inj H
    go_enter Try.func136, Try.ntmps136
    go_wp2_with (first | ((with_reducible refine Qq (f := 161) rfl ?_); refine Qx (some 8) rfl rfl Try.func161 (by kernel_rfl) rfl #[.int .i64 a0] rfl (by (try simp only [List.map_toArray, List.map_cons, List.map_nil]); first | done | rfl | (simp only [List.length_drop, List.length_take]; rfl)) ?_; (with_reducible refine (cmp_isNaN_int64.calls a0 false _ A3.out).mono ?_); rintro e w' ⟨rfl, ⟨nd, rfl⟩⟩; refine ⟨_, rfl, ?_⟩) | ((with_reducible refine Qq (f := 161) rfl ?_); refine Qx (some 10) rfl rfl Try.func161 (by kernel_rfl) rfl #[.int .i64 a1] rfl (by (try simp only [List.map_toArray, List.map_cons, List.map_nil]); first | done | rfl | (simp only [List.length_drop, List.length_take]; rfl)) ?_; (with_reducible refine (cmp_isNaN_int64.calls a1 false _ A4.out).mono ?_); rintro e w' ⟨rfl, ⟨nd, rfl⟩⟩; refine ⟨_, rfl, ?_⟩))
    go_ret
    exact ⟨by first | rfl | (simp; done) | (simp [*]; done), by repeat (first | exact Drawn0.refl _ | apply Drawn0.step)⟩
   ·rw [if_neg c8] at H
    have c8b0 : decide (a0 < a1) = false := decide_eq_false c8
    clear c8
    by_cases c9 : a0 > a1
    ·rw [if_pos c9] at H
     have c9b0 : decide (a1 < a0) = true := decide_eq_true c9
     clear c9
     obtain rfl := Option.some.inj H
     go_enter Try.func136, Try.ntmps136
     go_wp2_with (first | ((with_reducible refine Qq (f := 161) rfl ?_); refine Qx (some 8) rfl rfl Try.func161 (by kernel_rfl) rfl #[.int .i64 a0] rfl (by (try simp only [List.map_toArray, List.map_cons, List.map_nil]); first | done | rfl | (simp only [List.length_drop, List.length_take]; rfl)) ?_; (with_reducible refine (cmp_isNaN_int64.calls a0 false _ A3.out).mono ?_); rintro e w' ⟨rfl, ⟨nd, rfl⟩⟩; refine ⟨_, rfl, ?_⟩) | ((with_reducible refine Qq (f := 161) rfl ?_); refine Qx (some 10) rfl rfl Try.func161 (by kernel_rfl) rfl #[.int .i64 a1] rfl (by (try simp only [List.map_toArray, List.map_cons, List.map_nil]); first | done | rfl | (simp only [List.length_drop, List.length_take]; rfl)) ?_; (with_reducible refine (cmp_isNaN_int64.calls a1 false _ A4.out).mono ?_); rintro e w' ⟨rfl, ⟨nd, rfl⟩⟩; refine ⟨_, rfl, ?_⟩))
     go_ret
     exact ⟨by first | rfl | (simp; done) | (simp [*]; done), by repeat (first | exact Drawn0.refl _ | apply Drawn0.step)⟩
    ·rw [if_neg c9] at H
     have c9b0 : decide (a1 < a0) = false := decide_eq_false c9
     clear c9
     obtain rfl := Option.some.inj H
     go_enter Try.func136, Try.ntmps136
     go_wp2_with (first | ((with_reducible refine Qq (f := 161) rfl ?_); refine Qx (some 8) rfl rfl Try.func161 (by kernel_rfl) rfl #[.int .i64 a0] rfl (by (try simp only [List.map_toArray, List.map_cons, List.map_nil]); first | done | rfl | (simp only [List.length_drop, List.length_take]; rfl)) ?_; (with_reducible refine (cmp_isNaN_int64.calls a0 false _ A3.out).mono ?_); rintro e w' ⟨rfl, ⟨nd, rfl⟩⟩; refine ⟨_, rfl, ?_⟩) | ((with_reducible refine Qq (f := 161) rfl ?_); refine Qx (some 10) rfl rfl Try.func161 (by kernel_rfl) rfl #[.int .i64 a1] rfl (by (try simp only [List.map_toArray, List.map_cons, List.map_nil]); first | done | rfl | (simp only [List.length_drop, List.length_take]; rfl)) ?_; (with_reducible refine (cmp_isNaN_int64.calls a1 false _ A4.out).mono ?_); rintro e w' ⟨rfl, ⟨nd, rfl⟩⟩; refine ⟨_, rfl, ?_⟩))
     go_ret
     exact ⟨by first | rfl | (simp; done) | (simp [*]; done), by repeat (first | exact Drawn0.refl _ | apply Drawn0.step)⟩
def impl_Held_order.f (k : Nat) (a0_0 : Int) (a0_1 : Bool) (a0_2 : Int) (a0_3 : Int) (a0_4 : Int) (a0_5 : Int) (a0_6 : Int) (a0_7 : Int) (a0_8 : Bool) (a1_0 : Int) (a1_1 : Bool) (a1_2 : Int) (a1_3 : Int) (a1_4 : Int) (a1_5 : Int) (a1_6 : Int) (a1_7 : Int) (a1_8 : Bool) : Option (Int) := (cmp_Compare_int64.f a0_0 a1_0).bind fun t296 => ((cmp_Compare_int64.f a0_2 a1_2).bind fun t297 => ((cmp_Compare_int64.f a0_3 a1_3).bind fun t298 => ((cmp_Compare_int64.f a0_4 a1_4).bind fun t299 => ((cmp_Compare_int64.f a0_6 a1_6).bind fun t300 => ((cmp_Or_int.f k (([t296, t297, t298, t299, t300] : List Int))).bind fun t304 => (some t304))))))
theorem impl_Held_order.mono : ∀ a0 a1 a2 a3 a4 a5 a6 a7 a8 a9 a10 a11 a12 a13 a14 a15 a16 a17 k, LeO (impl_Held_order.f k a0 a1 a2 a3 a4 a5 a6 a7 a8 a9 a10 a11 a12 a13 a14 a15 a16 a17) (impl_Held_order.f (k + 1) a0 a1 a2 a3 a4 a5 a6 a7 a8 a9 a10 a11 a12 a13 a14 a15 a16 a17) := by
 intro a0 a1 a2 a3 a4 a5 a6 a7 a8 a9 a10 a11 a12 a13 a14 a15 a16 a17 k
 unfold impl_Held_order.f
 repeat' first
   | (with_reducible exact cmp_Or_int.mono _ _)
   | (with_reducible exact LeO.refl _)
   | (with_reducible exact LeO.none _)
   | (with_reducible refine LeO.ite ?_ ?_)
   | (with_reducible refine LeO.bind ?_ (fun _ => ?_))
   | exact cmp_Or_int.mono _ _
   | exact LeO.none _
   | refine LeO.ite ?_ ?_
   | refine LeO.bind ?_ (fun _ => ?_)
def impl_Held_order.T1 : Bool × List (List Nat × List Nat) := (true, [([], []), ([0], [0]), ([], []), ([2], [2]), ([], []), ([], []), ([4, 1, 0, 1, 4, 5], [1, 4]), ([5, 3, 6, 0, 1, 2, 3, 4, 5, 6], [3, 5])])
def impl_Held_order.B1 : List Nat := [0, 1, 0, 4, 0, 0, 51, 127]
theorem impl_Held_order.tab1 : rtab .any (opsOf Try.f103 1) = impl_Held_order.T1 := by kernel_rfl
theorem impl_Held_order.bits1 : waitsOk impl_Held_order.T1.2 impl_Held_order.B1 = true := by kernel_rfl
def impl_Held_order.T2 : Bool × List (List Nat × List Nat) := (true, [([], []), ([0], [0]), ([], []), ([2], [2]), ([1, 3], [1, 3]), ([], []), ([5], [5]), ([], []), ([7], [7]), ([6, 8, 4], [6, 8]), ([], []), ([10], [10]), ([], []), ([12], [12]), ([11, 13, 9], [11, 13]), ([], []), ([15], [15]), ([], []), ([17], [17]), ([16, 18, 14], [16, 18]), ([], []), ([20], [20]), ([], []), ([22], [22]), ([21, 23, 19], [21, 23]), ([4, 9, 14, 19, 24], [4, 9, 14, 19, 24]), ([25, 24], [25]), ([26, 26, 0, 1, 2, 3, 4, 5, 6, 7, 8, 9, 10, 11, 12, 13, 14, 15, 16, 17, 18, 19, 20, 21, 22, 23, 24, 25, 26], [26])])
def impl_Held_order.B2 : List Nat := [0, 1, 0, 4, 15, 0, 32, 0, 128, 511, 0, 1024, 0, 4096, 16383, 0, 32768, 0, 131072, 524287, 0, 1048576, 0, 4194304, 16777215, 33554431, 67108863, 134217727]
theorem impl_Held_order.tab2 : rtab .any (opsOf Try.f103 2) = impl_Held_order.T2 := by kernel_rfl
theorem impl_Held_order.bits2 : waitsOk impl_Held_order.T2.2 impl_Held_order.B2 = true := by kernel_rfl
set_option maxHeartbeats 8000000 in
set_option maxRecDepth 100000 in
theorem impl_Held_order.calls (k : Nat) (a0_0 : Int) (a0_1 : Bool) (a0_2 : Int) (a0_3 : Int) (a0_4 : Int) (a0_5 : Int) (a0_6 : Int) (a0_7 : Int) (a0_8 : Bool) (a1_0 : Int) (a1_1 : Bool) (a1_2 : Int) (a1_3 : Int) (a1_4 : Int) (a1_5 : Int) (a1_6 : Int) (a1_7 : Int) (a1_8 : Bool) (r : Int) (w : World) (h : impl_Held_order.f k a0_0 a0_1 a0_2 a0_3 a0_4 a0_5 a0_6 a0_7 a0_8 a1_0 a1_1 a1_2 a1_3 a1_4 a1_5 a1_6 a1_7 a1_8 = some r) :
  Calls Try.prog 103 #[.agg #[.int .i64 a0_0, .bool a0_1, .int .i64 a0_2, .int .i64 a0_3, .int .i64 a0_4, .int .i64 a0_5, .int .i64 a0_6, .int .i64 a0_7, .bool a0_8], .agg #[.int .i64 a1_0, .bool a1_1, .int .i64 a1_2, .int .i64 a1_3, .int .i64 a1_4, .int .i64 a1_5, .int .i64 a1_6, .int .i64 a1_7, .bool a1_8]] w fun e w' => e = .returned (.int .i64 r) ∧ Below w.heap.size w w' := by
 have hu73 := Try.underlying73
 have hu42 := Try.underlying42
 have HB := Aside0.mk (Below.refl w.heap.size w)
 have H : ((cmp_Compare_int64.f a0_0 a1_0).bind fun t296 => ((cmp_Compare_int64.f a0_2 a1_2).bind fun t297 => ((cmp_Compare_int64.f a0_3 a1_3).bind fun t298 => ((cmp_Compare_int64.f a0_4 a1_4).bind fun t299 => ((cmp_Compare_int64.f a0_6 a1_6).bind fun t300 => ((cmp_Or_int.f k (([t296, t297, t298, t299, t300] : List Int))).bind fun t304 => (some t304))))))) = some r := h
 clear h
 replace H := Option.bind_eq_some_iff.mp H
 obtain ⟨t296, A30, H⟩ := H
 replace H : ((cmp_Compare_int64.f a0_2 a1_2).bind fun t297 => ((cmp_Compare_int64.f a0_3 a1_3).bind fun t298 => ((cmp_Compare_int64.f a0_4 a1_4).bind fun t299 => ((cmp_Compare_int64.f a0_6 a1_6).bind fun t300 => ((cmp_Or_int.f k (([t296, t297, t298, t299, t300] : List Int))).bind fun t304 => (some t304)))))) = some r := H
 have A3 := Aside0.mk A30
 clear A30
 replace H := Option.bind_eq_some_iff.mp H
 obtain ⟨t297, A40, H⟩ := H
 replace H : ((cmp_Compare_int64.f a0_3 a1_3).bind fun t298 => ((cmp_Compare_int64.f a0_4 a1_4).bind fun t299 => ((cmp_Compare_int64.f a0_6 a1_6).bind fun t300 => ((cmp_Or_int.f k (([t296, t297, t298, t299, t300] : List Int))).bind fun t304 => (some t304))))) = some r := H
 have A4 := Aside0.mk A40
 clear A40
 replace H := Option.bind_eq_some_iff.mp H
 obtain ⟨t298, A50, H⟩ := H
 replace H : ((cmp_Compare_int64.f a0_4 a1_4).bind fun t299 => ((cmp_Compare_int64.f a0_6 a1_6).bind fun t300 => ((cmp_Or_int.f k (([t296, t297, t298, t299, t300] : List Int))).bind fun t304 => (some t304)))) = some r := H
 have A5 := Aside0.mk A50
 clear A50
 replace H := Option.bind_eq_some_iff.mp H
 obtain ⟨t299, A60, H⟩ := H
 replace H : ((cmp_Compare_int64.f a0_6 a1_6).bind fun t300 => ((cmp_Or_int.f k (([t296, t297, t298, t299, t300] : List Int))).bind fun t304 => (some t304))) = some r := H
 have A6 := Aside0.mk A60
 clear A60
 replace H := Option.bind_eq_some_iff.mp H
 obtain ⟨t300, A70, H⟩ := H
 replace H : ((cmp_Or_int.f k (([t296, t297, t298, t299, t300] : List Int))).bind fun t304 => (some t304)) = some r := H
 have A7 := Aside0.mk A70
 clear A70
 obtain ⟨y301, hy301⟩ : ∃ y_ : List Int, y_ = (([t296, t297, t298, t299, t300] : List Int)) := ⟨_, rfl⟩
 replace H : ((cmp_Or_int.f k y301).bind fun t304 => (some t304)) = some r := by first | (rw [hy301]; with_reducible exact H) | (have H2_ := (Option.bind_some _ _).symm.trans H; rw [hy301]; with_reducible exact H2_) | (have H2_ := (Option.bind_some _ _).symm.trans H; with_reducible exact H2_) | with_reducible exact H | (rw [hy301]; exact H) | exact H
 have Ny301 := Aside0.mk hy301
 clear hy301
 replace H := Option.bind_eq_some_iff.mp H
 obtain ⟨t304, A80, H⟩ := H
 replace H : (some t304) = some r := H
 have A8 := Aside0.mk A80
 clear A80
 obtain rfl := Option.some.inj H
 go_enter Try.func103, Try.ntmps103
 try go_wp2_with (first | ((with_reducible refine Qw (N := 2) rfl ?_); refine Qu ?hg (N := 2) ?hd (cs := #[.int .i64 a0_0, .bool a0_1, .int .i64 a0_2, .int .i64 a0_3, .int .i64 a0_4, .int .i64 a0_5, .int .i64 a0_6, .int .i64 a0_7, .bool a0_8]) (t := 73) ?hr ?_; (case hd => rfl); (case hg => rfl); (case hr => first | (go_simp; done) | (go_simp; rfl)); intro gb292 hg w9 hbox hb; have n0_ := Aside0.mk (Qn (by repeat (first | (with_reducible first | exact HB.out | apply Qg | apply Qb | apply Qe) | exact HB.out)) hb); have n1_ := Aside0.mk (hbox); have n2_ := Aside0.mk ((by rw [hg]; exact (Ql (by repeat (first | (with_reducible first | exact HB.out | apply Qg | apply Qb | apply Qe) | exact HB.out))) : w.heap.size ≤ gb292)); have n3_ := Aside0.mk ((by rw [hg]; exact (Ql (by repeat (first | (with_reducible first | exact HB.out | apply Qg | apply Qb | apply Qe) | exact HB.out))) : w.heap.size ≤ gb292)); clear HB; have HB := n0_; have BK292 := n1_; have GW292 := n2_; have GE292 := n3_; clear n0_ n1_ n2_ n3_; clear hb hbox hg) | ((with_reducible refine Qw (N := 3) rfl ?_); refine Qu ?hg (N := 3) ?hd (cs := #[.int .i64 a1_0, .bool a1_1, .int .i64 a1_2, .int .i64 a1_3, .int .i64 a1_4, .int .i64 a1_5, .int .i64 a1_6, .int .i64 a1_7, .bool a1_8]) (t := 73) ?hr ?_; (case hd => rfl); (case hg => rfl); (case hr => first | (go_simp; done) | (go_simp; rfl)); intro gb293 hg w10 hbox hb; have n0_ := Aside0.mk (Qm (g := gb292) (o := .cells #[.int .i64 a0_0, .bool a0_1, .int .i64 a0_2, .int .i64 a0_3, .int .i64 a0_4, .int .i64 a0_5, .int .i64 a0_6, .int .i64 a0_7, .bool a0_8] 73 (0, 0)) (by (with_reducible repeat (first | refine Qi ?_ _ | refine Qj ?_ | refine Qh ?_ _)); exact BK292.out) hb); have n1_ := Aside0.mk (Qn (by repeat (first | (with_reducible first | exact HB.out | apply Qg | apply Qb | apply Qe | refine Qc ?_ GE292.out) | exact HB.out)) hb); have n2_ := Aside0.mk (hbox); have n3_ := Aside0.mk ((by rw [hg]; exact (Ql (by repeat (first | (with_reducible first | exact HB.out | apply Qg | apply Qb | apply Qe | refine Qc ?_ GE292.out) | exact HB.out))) : w.heap.size ≤ gb293)); have n4_ := Aside0.mk ((by rw [hg]; exact (Ql (by repeat (first | (with_reducible first | exact HB.out | apply Qg | apply Qb | apply Qe | refine Qc ?_ GE292.out) | exact HB.out))) : w.heap.size ≤ gb293)); have n5_ := Aside0.mk ((by rw [hg]; exact Nat.ne_of_lt (Qs (g := gb292) (o := .cells #[.int .i64 a0_0, .bool a0_1, .int .i64 a0_2, .int .i64 a0_3, .int .i64 a0_4, .int .i64 a0_5, .int .i64 a0_6, .int .i64 a0_7, .bool a0_8] 73 (0, 0)) (by (with_reducible repeat (first | refine Qi ?_ _ | refine Qj ?_ | refine Qh ?_ _)); exact BK292.out)) : gb292 ≠ gb293)); have n6_ := Aside0.mk ((by rw [hg]; exact Nat.ne_of_gt (Qs (g := gb292) (o := .cells #[.int .i64 a0_0, .bool a0_1, .int .i64 a0_2, .int .i64 a0_3, .int .i64 a0_4, .int .i64 a0_5, .int .i64 a0_6, .int .i64 a0_7, .bool a0_8] 73 (0, 0)) (by (with_reducible repeat (first | refine Qi ?_ _ | refine Qj ?_ | refine Qh ?_ _)); exact BK292.out)) : gb293 ≠ gb292)); clear BK292; clear HB; have BK292 := n0_; have HB := n1_; have BK293 := n2_; have GW293 := n3_; have GE293 := n4_; have NB292_293 := n5_; have NB293_292 := n6_; clear n0_ n1_ n2_ n3_ n4_ n5_ n6_; clear hb hbox hg))
 have n0_ := Aside0.mk (Qj BK292.out)
 have n1_ := Aside0.mk (Qj BK293.out)
 have n2_ := Aside0.mk (Qe HB.out)
 clear BK292
 clear BK293
 clear HB
 have BK292 := n0_
 have BK293 := n1_
 have HB := n2_
 clear n0_ n1_ n2_
 refine start_ (n := 8) (S := fun w' => w'.cell? ⟨gb292, 0, none⟩ = some (.int .i64 a0_0) ∧ w'.cell? ⟨gb292, 1, none⟩ = some (.bool a0_1) ∧ w'.cell? ⟨gb292, 2, none⟩ = some (.int .i64 a0_2) ∧ w'.cell? ⟨gb292, 3, none⟩ = some (.int .i64 a0_3) ∧ w'.cell? ⟨gb292, 4, none⟩ = some (.int .i64 a0_4) ∧ w'.cell? ⟨gb292, 5, none⟩ = some (.int .i64 a0_5) ∧ w'.cell? ⟨gb292, 6, none⟩ = some (.int .i64 a0_6) ∧ w'.cell? ⟨gb292, 7, none⟩ = some (.int .i64 a0_7) ∧ w'.cell? ⟨gb292, 8, none⟩ = some (.bool a0_8) ∧ w'.cell? ⟨gb293, 0, none⟩ = some (.int .i64 a1_0) ∧ w'.cell? ⟨gb293, 1, none⟩ = some (.bool a1_1) ∧ w'.cell? ⟨gb293, 2, none⟩ = some (.int .i64 a1_2) ∧ w'.cell? ⟨gb293, 3, none⟩ = some (.int .i64 a1_3) ∧ w'.cell? ⟨gb293, 4, none⟩ = some (.int .i64 a1_4) ∧ w'.cell? ⟨gb293, 5, none⟩ = some (.int .i64 a1_5) ∧ w'.cell? ⟨gb293, 6, none⟩ = some (.int .i64 a1_6) ∧ w'.cell? ⟨gb293, 7, none⟩ = some (.int .i64 a1_7) ∧ w'.cell? ⟨gb293, 8, none⟩ = some (.bool a1_8)) (ds := []) #[false, false, false, false, false, false, false, false] (by kernel_rfl) rfl rfl ⟨(Qa BK292.out 0).trans rfl, (Qa BK292.out 1).trans rfl, (Qa BK292.out 2).trans rfl, (Qa BK292.out 3).trans rfl, (Qa BK292.out 4).trans rfl, (Qa BK292.out 5).trans rfl, (Qa BK292.out 6).trans rfl, (Qa BK292.out 7).trans rfl, (Qa BK292.out 8).trans rfl, (Qa BK293.out 0).trans rfl, (Qa BK293.out 1).trans rfl, (Qa BK293.out 2).trans rfl, (Qa BK293.out 3).trans rfl, (Qa BK293.out 4).trans rfl, (Qa BK293.out 5).trans rfl, (Qa BK293.out 6).trans rfl, (Qa BK293.out 7).trans rfl, (Qa BK293.out 8).trans rfl⟩ (fun hHeld => ?_); refine with_tabW impl_Held_order.tab1 impl_Held_order.bits1 (fun HT_ HW_ => ?_)
 generalize w10.drew = w11 at BK292 BK293 HB hHeld ⊢
 refine Qy (i := 0) (N := some 7) (v := ?_) (a' := ?_) #[true, false, false, false, false, false, false, false] rfl rfl (Qv HT_.out (by kernel_rfl)) (fun _ _ _ h => h) (Or.inl ⟨by rfl, ?_⟩) ?_ ?_
 rotate_left
 ·intro w'
  go_simp
  with_reducible rfl
 rotate_left
 ·simp only [Act.put, List.setIfInBounds_toArray, List.set_cons_zero, List.set_cons_succ, Qr, Qt]
  rfl
 refine Qy (i := 2) (N := some 9) (v := ?_) (a' := ?_) #[true, false, true, false, false, false, false, false] rfl rfl (Qv HT_.out (by kernel_rfl)) (fun _ _ _ h => h) (Or.inl ⟨by rfl, ?_⟩) ?_ ?_
 rotate_left
 ·intro w'
  go_simp
  with_reducible rfl
 rotate_left
 ·simp only [Act.put, List.setIfInBounds_toArray, List.set_cons_zero, List.set_cons_succ, Qr, Qt]
  rfl
 refine take_ (i := 1) (N := some 8) (v := ?_) (a' := ?_) #[true, true, true, false, false, false, false, false] rfl rfl (Q5 HT_.out HW_.out (by kernel_rfl)) (fun _ _ _ h => h) (Or.inl ⟨by rfl, ?_⟩) hHeld ?_ ?_
 rotate_left
 ·rintro w' ⟨s0, s1, s2, s3, s4, s5, s6, s7, s8, s9, s10, s11, s12, s13, s14, s15, s16, s17⟩
  go_simp
  with_reducible rfl
 rotate_left
 ·simp only [Act.put, List.setIfInBounds_toArray, List.set_cons_zero, List.set_cons_succ, Qr, Qt]
  rfl
 refine take_ (i := 3) (N := some 10) (v := ?_) (a' := ?_) #[true, true, true, true, false, false, false, false] rfl rfl (Q5 HT_.out HW_.out (by kernel_rfl)) (fun _ _ _ h => h) (Or.inl ⟨by rfl, ?_⟩) hHeld ?_ ?_
 rotate_left
 ·rintro w' ⟨s0, s1, s2, s3, s4, s5, s6, s7, s8, s9, s10, s11, s12, s13, s14, s15, s16, s17⟩
  go_simp
  with_reducible rfl
 rotate_left
 ·simp only [Act.put, List.setIfInBounds_toArray, List.set_cons_zero, List.set_cons_succ, Qr, Qt]
  rfl
 refine join_ (σ := Nat × Nat) 2 #[true, true, true, true, true, true, false, false] (fun s_ => [(5, .pointer (some ⟨s_.1, 0, none⟩)), (6, .pointer (some ⟨s_.2, 0, none⟩))]) (fun s_ w' => (w'.cell? ⟨gb292, 0, none⟩ = some (.int .i64 a0_0) ∧ w'.cell? ⟨gb292, 1, none⟩ = some (.bool a0_1) ∧ w'.cell? ⟨gb292, 2, none⟩ = some (.int .i64 a0_2) ∧ w'.cell? ⟨gb292, 3, none⟩ = some (.int .i64 a0_3) ∧ w'.cell? ⟨gb292, 4, none⟩ = some (.int .i64 a0_4) ∧ w'.cell? ⟨gb292, 5, none⟩ = some (.int .i64 a0_5) ∧ w'.cell? ⟨gb292, 6, none⟩ = some (.int .i64 a0_6) ∧ w'.cell? ⟨gb292, 7, none⟩ = some (.int .i64 a0_7) ∧ w'.cell? ⟨gb292, 8, none⟩ = some (.bool a0_8) ∧ w'.cell? ⟨gb293, 0, none⟩ = some (.int .i64 a1_0) ∧ w'.cell? ⟨gb293, 1, none⟩ = some (.bool a1_1) ∧ w'.cell? ⟨gb293, 2, none⟩ = some (.int .i64 a1_2) ∧ w'.cell? ⟨gb293, 3, none⟩ = some (.int .i64 a1_3) ∧ w'.cell? ⟨gb293, 4, none⟩ = some (.int .i64 a1_4) ∧ w'.cell? ⟨gb293, 5, none⟩ = some (.int .i64 a1_5) ∧ w'.cell? ⟨gb293, 6, none⟩ = some (.int .i64 a1_6) ∧ w'.cell? ⟨gb293, 7, none⟩ = some (.int .i64 a1_7) ∧ w'.cell? ⟨gb293, 8, none⟩ = some (.bool a1_8)) ∧ (w'.heap[gb292]? = some (.cells #[.int .i64 a0_0, .bool a0_1, .int .i64 a0_2, .int .i64 a0_3, .int .i64 a0_4, .int .i64 a0_5, .int .i64 a0_6, .int .i64 a0_7, .bool a0_8] 73 (0, 0))) ∧ (w'.heap[gb293]? = some (.cells #[.int .i64 a1_0, .bool a1_1, .int .i64 a1_2, .int .i64 a1_3, .int .i64 a1_4, .int .i64 a1_5, .int .i64 a1_6, .int .i64 a1_7, .bool a1_8] 73 (0, 0))) ∧ (w'.heap[s_.1]? = some (.cells #[.int .i64 0, .int .i64 0, .int .i64 0, .int .i64 0, .int .i64 0, .int .i64 0, .bool false] 42 (0, 0))) ∧ (w'.heap[s_.2]? = some (.cells #[.int .i64 0, .int .i64 0, .int .i64 0, .int .i64 0, .int .i64 0, .int .i64 0, .bool false] 42 (0, 0))) ∧ (w.heap.size ≤ s_.1) ∧ (w.heap.size ≤ s_.1) ∧ (gb292 ≠ s_.1) ∧ (s_.1 ≠ gb292) ∧ (gb293 ≠ s_.1) ∧ (s_.1 ≠ gb293) ∧ (s_.2 ≠ s_.1) ∧ (s_.1 ≠ s_.2) ∧ (w.heap.size ≤ s_.2) ∧ (w.heap.size ≤ s_.2) ∧ (gb292 ≠ s_.2) ∧ (s_.2 ≠ gb292) ∧ (gb293 ≠ s_.2) ∧ (s_.2 ≠ gb293) ∧ (Below w.heap.size w w')) ?_ ?_
 rotate_left
 ·intro hCont
  refine two_ (i := 4) (j := 5) (Ni := some 5) (Nj := some 6) #[true, true, true, true, true, false, false, false] #[true, true, true, true, false, true, false, false] rfl rfl rfl rfl (two_of HT_.out (by kernel_rfl)) (by decide) (by decide) (fun K hK => ?_) (fun K hK => ?_)
  ·skip
   refine box_step ?hg (N := 5) ?hd (cs := #[.int .i64 0, .int .i64 0, .int .i64 0, .int .i64 0, .int .i64 0, .int .i64 0, .bool false]) (t := 42) ?hr ?_; (case hd => rfl); (case hg => rfl); (case hr => first | (go_simp; done) | (go_simp; rfl))
   intro gb294 hg w12 hbox hb
   have n0_ := Aside0.mk (Qm (g := gb292) (o := .cells #[.int .i64 a0_0, .bool a0_1, .int .i64 a0_2, .int .i64 a0_3, .int .i64 a0_4, .int .i64 a0_5, .int .i64 a0_6, .int .i64 a0_7, .bool a0_8] 73 (0, 0)) (by (with_reducible repeat (first | refine Qi ?_ _ | refine Qj ?_ | refine Qh ?_ _)); exact BK292.out) hb)
   have n1_ := Aside0.mk (Qm (g := gb293) (o := .cells #[.int .i64 a1_0, .bool a1_1, .int .i64 a1_2, .int .i64 a1_3, .int .i64 a1_4, .int .i64 a1_5, .int .i64 a1_6, .int .i64 a1_7, .bool a1_8] 73 (0, 0)) (by (with_reducible repeat (first | refine Qi ?_ _ | refine Qj ?_ | refine Qh ?_ _)); exact BK293.out) hb)
   have n2_ := Aside0.mk (Qn (by repeat (first | (with_reducible first | exact HB.out | apply Qg | apply Qb | apply Qe | refine Qc ?_ GE292.out | refine Qc ?_ GE293.out) | exact HB.out)) hb)
   have n3_ := Aside0.mk (hbox)
   have n4_ := Aside0.mk ((by rw [hg]; exact (Ql (by repeat (first | (with_reducible first | exact HB.out | apply Qg | apply Qb | apply Qe | refine Qc ?_ GE292.out | refine Qc ?_ GE293.out) | exact HB.out))) : w.heap.size ≤ gb294))
   have n5_ := Aside0.mk ((by rw [hg]; exact (Ql (by repeat (first | (with_reducible first | exact HB.out | apply Qg | apply Qb | apply Qe | refine Qc ?_ GE292.out | refine Qc ?_ GE293.out) | exact HB.out))) : w.heap.size ≤ gb294))
   have n6_ := Aside0.mk ((by rw [hg]; exact Nat.ne_of_lt (Qs (g := gb292) (o := .cells #[.int .i64 a0_0, .bool a0_1, .int .i64 a0_2, .int .i64 a0_3, .int .i64 a0_4, .int .i64 a0_5, .int .i64 a0_6, .int .i64 a0_7, .bool a0_8] 73 (0, 0)) (by (with_reducible repeat (first | refine Qi ?_ _ | refine Qj ?_ | refine Qh ?_ _)); exact BK292.out)) : gb292 ≠ gb294))
   have n7_ := Aside0.mk ((by rw [hg]; exact Nat.ne_of_gt (Qs (g := gb292) (o := .cells #[.int .i64 a0_0, .bool a0_1, .int .i64 a0_2, .int .i64 a0_3, .int .i64 a0_4, .int .i64 a0_5, .int .i64 a0_6, .int .i64 a0_7, .bool a0_8] 73 (0, 0)) (by (with_reducible repeat (first | refine Qi ?_ _ | refine Qj ?_ | refine Qh ?_ _)); exact BK292.out)) : gb294 ≠ gb292))
   have n8_ := Aside0.mk ((by rw [hg]; exact Nat.ne_of_lt (Qs (g := gb293) (o := .cells #[.int .i64 a1_0, .bool a1_1, .int .i64 a1_2, .int .i64 a1_3, .int .i64 a1_4, .int .i64 a1_5, .int .i64 a1_6, .int .i64 a1_7, .bool a1_8] 73 (0, 0)) (by (with_reducible repeat (first | refine Qi ?_ _ | refine Qj ?_ | refine Qh ?_ _)); exact BK293.out)) : gb293 ≠ gb294))
   have n9_ := Aside0.mk ((by rw [hg]; exact Nat.ne_of_gt (Qs (g := gb293) (o := .cells #[.int .i64 a1_0, .bool a1_1, .int .i64 a1_2, .int .i64 a1_3, .int .i64 a1_4, .int .i64 a1_5, .int .i64 a1_6, .int .i64 a1_7, .bool a1_8] 73 (0, 0)) (by (with_reducible repeat (first | refine Qi ?_ _ | refine Qj ?_ | refine Qh ?_ _)); exact BK293.out)) : gb294 ≠ gb293))
   clear BK292
   clear BK293
   clear HB
   have BK292 := n0_
   have BK293 := n1_
   have HB := n2_
   have BK294 := n3_
   have GW294 := n4_
   have GE294 := n5_
   have NB292_294 := n6_
   have NB294_292 := n7_
   have NB293_294 := n8_
   have NB294_293 := n9_
   clear n0_ n1_ n2_ n3_ n4_ n5_ n6_ n7_ n8_ n9_
   clear hb hbox hg
   refine hK.out _ _ ⟨(Qa BK292.out 0).trans rfl, (Qa BK292.out 1).trans rfl, (Qa BK292.out 2).trans rfl, (Qa BK292.out 3).trans rfl, (Qa BK292.out 4).trans rfl, (Qa BK292.out 5).trans rfl, (Qa BK292.out 6).trans rfl, (Qa BK292.out 7).trans rfl, (Qa BK292.out 8).trans rfl, (Qa BK293.out 0).trans rfl, (Qa BK293.out 1).trans rfl, (Qa BK293.out 2).trans rfl, (Qa BK293.out 3).trans rfl, (Qa BK293.out 4).trans rfl, (Qa BK293.out 5).trans rfl, (Qa BK293.out 6).trans rfl, (Qa BK293.out 7).trans rfl, (Qa BK293.out 8).trans rfl⟩ (fun hHeld => ?_)
   clear hK K
   refine Q4 (a' := ?_) ?_ ?_
   rotate_left
   ·show Act.put _ (some 5) _ = _
    simp only [Act.put, List.setIfInBounds_toArray, List.set_cons_zero, List.set_cons_succ, Qr, Qt]
    rfl
   refine one_ (i := 5) (N := some 6) #[true, true, true, true, true, true, false, false] rfl rfl (Q6 HT_.out (by kernel_rfl)) (by decide) (fun K hK => ?_)
   refine box_step ?hg (N := 6) ?hd (cs := #[.int .i64 0, .int .i64 0, .int .i64 0, .int .i64 0, .int .i64 0, .int .i64 0, .bool false]) (t := 42) ?hr ?_; (case hd => rfl); (case hg => rfl); (case hr => first | (go_simp; done) | (go_simp; rfl))
   intro gb295 hg w13 hbox hb
   have n0_ := Aside0.mk (Qm (g := gb292) (o := .cells #[.int .i64 a0_0, .bool a0_1, .int .i64 a0_2, .int .i64 a0_3, .int .i64 a0_4, .int .i64 a0_5, .int .i64 a0_6, .int .i64 a0_7, .bool a0_8] 73 (0, 0)) (by (with_reducible repeat (first | refine Qi ?_ _ | refine Qj ?_ | refine Qh ?_ _)); exact BK292.out) hb)
   have n1_ := Aside0.mk (Qm (g := gb293) (o := .cells #[.int .i64 a1_0, .bool a1_1, .int .i64 a1_2, .int .i64 a1_3, .int .i64 a1_4, .int .i64 a1_5, .int .i64 a1_6, .int .i64 a1_7, .bool a1_8] 73 (0, 0)) (by (with_reducible repeat (first | refine Qi ?_ _ | refine Qj ?_ | refine Qh ?_ _)); exact BK293.out) hb)
   have n2_ := Aside0.mk (Qm (g := gb294) (o := .cells #[.int .i64 0, .int .i64 0, .int .i64 0, .int .i64 0, .int .i64 0, .int .i64 0, .bool false] 42 (0, 0)) (by (with_reducible repeat (first | refine Qi ?_ _ | refine Qj ?_ | refine Qh ?_ _)); exact BK294.out) hb)
   have n3_ := Aside0.mk (Qn (by repeat (first | (with_reducible first | exact HB.out | apply Qg | apply Qb | apply Qe | refine Qc ?_ GE292.out | refine Qc ?_ GE293.out | refine Qc ?_ GE294.out) | exact HB.out)) hb)
   have n4_ := Aside0.mk (hbox)
   have n5_ := Aside0.mk ((by rw [hg]; exact (Ql (by repeat (first | (with_reducible first | exact HB.out | apply Qg | apply Qb | apply Qe | refine Qc ?_ GE292.out | refine Qc ?_ GE293.out | refine Qc ?_ GE294.out) | exact HB.out))) : w.heap.size ≤ gb295))
   have n6_ := Aside0.mk ((by rw [hg]; exact (Ql (by repeat (first | (with_reducible first | exact HB.out | apply Qg | apply Qb | apply Qe | refine Qc ?_ GE292.out | refine Qc ?_ GE293.out | refine Qc ?_ GE294.out) | exact HB.out))) : w.heap.size ≤ gb295))
   have n7_ := Aside0.mk ((by rw [hg]; exact Nat.ne_of_lt (Qs (g := gb292) (o := .cells #[.int .i64 a0_0, .bool a0_1, .int .i64 a0_2, .int .i64 a0_3, .int .i64 a0_4, .int .i64 a0_5, .int .i64 a0_6, .int .i64 a0_7, .bool a0_8] 73 (0, 0)) (by (with_reducible repeat (first | refine Qi ?_ _ | refine Qj ?_ | refine Qh ?_ _)); exact BK292.out)) : gb292 ≠ gb295))
   have n8_ := Aside0.mk ((by rw [hg]; exact Nat.ne_of_gt (Qs (g := gb292) (o := .cells #[.int .i64 a0_0, .bool a0_1, .int .i64 a0_2, .int .i64 a0_3, .int .i64 a0_4, .int .i64 a0_5, .int .i64 a0_6, .int .i64 a0_7, .bool a0_8] 73 (0, 0)) (by (with_reducible repeat (first | refine Qi ?_ _ | refine Qj ?_ | refine Qh ?_ _)); exact BK292.out)) : gb295 ≠ gb292))
   have n9_ := Aside0.mk ((by rw [hg]; exact Nat.ne_of_lt (Qs (g := gb293) (o := .cells #[.int .i64 a1_0, .bool a1_1, .int .i64 a1_2, .int .i64 a1_3, .int .i64 a1_4, .int .i64 a1_5, .int .i64 a1_6, .int .i64 a1_7, .bool a1_8] 73 (0, 0)) (by (with_reducible repeat (first | refine Qi ?_ _ | refine Qj ?_ | refine Qh ?_ _)); exact BK293.out)) : gb293 ≠ gb295))
   have n10_ := Aside0.mk ((by rw [hg]; exact Nat.ne_of_gt (Qs (g := gb293) (o := .cells #[.int .i64 a1_0, .bool a1_1, .int .i64 a1_2, .int .i64 a1_3, .int .i64 a1_4, .int .i64 a1_5, .int .i64 a1_6, .int .i64 a1_7, .bool a1_8] 73 (0, 0)) (by (with_reducible repeat (first | refine Qi ?_ _ | refine Qj ?_ | refine Qh ?_ _)); exact BK293.out)) : gb295 ≠ gb293))
   have n11_ := Aside0.mk ((by rw [hg]; exact Nat.ne_of_lt (Qs (g := gb294) (o := .cells #[.int .i64 0, .int .i64 0, .int .i64 0, .int .i64 0, .int .i64 0, .int .i64 0, .bool false] 42 (0, 0)) (by (with_reducible repeat (first | refine Qi ?_ _ | refine Qj ?_ | refine Qh ?_ _)); exact BK294.out)) : gb294 ≠ gb295))
   have n12_ := Aside0.mk ((by rw [hg]; exact Nat.ne_of_gt (Qs (g := gb294) (o := .cells #[.int .i64 0, .int .i64 0, .int .i64 0, .int .i64 0, .int .i64 0, .int .i64 0, .bool false] 42 (0, 0)) (by (with_reducible repeat (first | refine Qi ?_ _ | refine Qj ?_ | refine Qh ?_ _)); exact BK294.out)) : gb295 ≠ gb294))
   clear BK292
   clear BK293
   clear BK294
   clear HB
   have BK292 := n0_
   have BK293 := n1_
   have BK294 := n2_
   have HB := n3_
   have BK295 := n4_
   have GW295 := n5_
   have GE295 := n6_
   have NB292_295 := n7_
   have NB295_292 := n8_
   have NB293_295 := n9_
   have NB295_293 := n10_
   have NB294_295 := n11_
   have NB295_294 := n12_
   clear n0_ n1_ n2_ n3_ n4_ n5_ n6_ n7_ n8_ n9_ n10_ n11_ n12_
   clear hb hbox hg
   refine hK.out _ _ ⟨(Qa BK292.out 0).trans rfl, (Qa BK292.out 1).trans rfl, (Qa BK292.out 2).trans rfl, (Qa BK292.out 3).trans rfl, (Qa BK292.out 4).trans rfl, (Qa BK292.out 5).trans rfl, (Qa BK292.out 6).trans rfl, (Qa BK292.out 7).trans rfl, (Qa BK292.out 8).trans rfl, (Qa BK293.out 0).trans rfl, (Qa BK293.out 1).trans rfl, (Qa BK293.out 2).trans rfl, (Qa BK293.out 3).trans rfl, (Qa BK293.out 4).trans rfl, (Qa BK293.out 5).trans rfl, (Qa BK293.out 6).trans rfl, (Qa BK293.out 7).trans rfl, (Qa BK293.out 8).trans rfl⟩ (fun hHeld => ?_)
   clear hK K
   refine Q4 (a' := ?_) ?_ ?_
   rotate_left
   ·show Act.put _ (some 6) _ = _
    simp only [Act.put, List.setIfInBounds_toArray, List.set_cons_zero, List.set_cons_succ, Qr, Qt]
    rfl
   exact Q4 (by simp only [putAll, Act.put, List.setIfInBounds_toArray, List.set_cons_zero, List.set_cons_succ]) (hCont (gb294, gb295) _ ⟨hHeld, (by (with_reducible repeat (first | refine Qi ?_ _ | refine Qj ?_ | refine Qh ?_ _)); exact BK292.out), (by (with_reducible repeat (first | refine Qi ?_ _ | refine Qj ?_ | refine Qh ?_ _)); exact BK293.out), (by (with_reducible repeat (first | refine Qi ?_ _ | refine Qj ?_ | refine Qh ?_ _)); exact BK294.out), (by (with_reducible repeat (first | refine Qi ?_ _ | refine Qj ?_ | refine Qh ?_ _)); exact BK295.out), GW294.out, GE294.out, NB292_294.out, NB294_292.out, NB293_294.out, NB294_293.out, NB295_294.out, NB294_295.out, GW295.out, GE295.out, NB292_295.out, NB295_292.out, NB293_295.out, NB295_293.out, (by repeat (first | (with_reducible first | exact HB.out | apply Qg | apply Qb | apply Qe | refine Qc ?_ GE292.out | refine Qc ?_ GE293.out | refine Qc ?_ GE294.out | refine Qc ?_ GE295.out) | exact HB.out))⟩)
  ·skip
   refine box_step ?hg (N := 6) ?hd (cs := #[.int .i64 0, .int .i64 0, .int .i64 0, .int .i64 0, .int .i64 0, .int .i64 0, .bool false]) (t := 42) ?hr ?_; (case hd => rfl); (case hg => rfl); (case hr => first | (go_simp; done) | (go_simp; rfl))
   intro gb295 hg w12 hbox hb
   have n0_ := Aside0.mk (Qm (g := gb292) (o := .cells #[.int .i64 a0_0, .bool a0_1, .int .i64 a0_2, .int .i64 a0_3, .int .i64 a0_4, .int .i64 a0_5, .int .i64 a0_6, .int .i64 a0_7, .bool a0_8] 73 (0, 0)) (by (with_reducible repeat (first | refine Qi ?_ _ | refine Qj ?_ | refine Qh ?_ _)); exact BK292.out) hb)
   have n1_ := Aside0.mk (Qm (g := gb293) (o := .cells #[.int .i64 a1_0, .bool a1_1, .int .i64 a1_2, .int .i64 a1_3, .int .i64 a1_4, .int .i64 a1_5, .int .i64 a1_6, .int .i64 a1_7, .bool a1_8] 73 (0, 0)) (by (with_reducible repeat (first | refine Qi ?_ _ | refine Qj ?_ | refine Qh ?_ _)); exact BK293.out) hb)
   have n2_ := Aside0.mk (Qn (by repeat (first | (with_reducible first | exact HB.out | apply Qg | apply Qb | apply Qe | refine Qc ?_ GE292.out | refine Qc ?_ GE293.out) | exact HB.out)) hb)
   have n3_ := Aside0.mk (hbox)
   have n4_ := Aside0.mk ((by rw [hg]; exact (Ql (by repeat (first | (with_reducible first | exact HB.out | apply Qg | apply Qb | apply Qe | refine Qc ?_ GE292.out | refine Qc ?_ GE293.out) | exact HB.out))) : w.heap.size ≤ gb295))
   have n5_ := Aside0.mk ((by rw [hg]; exact (Ql (by repeat (first | (with_reducible first | exact HB.out | apply Qg | apply Qb | apply Qe | refine Qc ?_ GE292.out | refine Qc ?_ GE293.out) | exact HB.out))) : w.heap.size ≤ gb295))
   have n6_ := Aside0.mk ((by rw [hg]; exact Nat.ne_of_lt (Qs (g := gb292) (o := .cells #[.int .i64 a0_0, .bool a0_1, .int .i64 a0_2, .int .i64 a0_3, .int .i64 a0_4, .int .i64 a0_5, .int .i64 a0_6, .int .i64 a0_7, .bool a0_8] 73 (0, 0)) (by (with_reducible repeat (first | refine Qi ?_ _ | refine Qj ?_ | refine Qh ?_ _)); exact BK292.out)) : gb292 ≠ gb295))
   have n7_ := Aside0.mk ((by rw [hg]; exact Nat.ne_of_gt (Qs (g := gb292) (o := .cells #[.int .i64 a0_0, .bool a0_1, .int .i64 a0_2, .int .i64 a0_3, .int .i64 a0_4, .int .i64 a0_5, .int .i64 a0_6, .int .i64 a0_7, .bool a0_8] 73 (0, 0)) (by (with_reducible repeat (first | refine Qi ?_ _ | refine Qj ?_ | refine Qh ?_ _)); exact BK292.out)) : gb295 ≠ gb292))
   have n8_ := Aside0.mk ((by rw [hg]; exact Nat.ne_of_lt (Qs (g := gb293) (o := .cells #[.int .i64 a1_0, .bool a1_1, .int .i64 a1_2, .int .i64 a1_3, .int .i64 a1_4, .int .i64 a1_5, .int .i64 a1_6, .int .i64 a1_7, .bool a1_8] 73 (0, 0)) (by (with_reducible repeat (first | refine Qi ?_ _ | refine Qj ?_ | refine Qh ?_ _)); exact BK293.out)) : gb293 ≠ gb295))
   have n9_ := Aside0.mk ((by rw [hg]; exact Nat.ne_of_gt (Qs (g := gb293) (o := .cells #[.int .i64 a1_0, .bool a1_1, .int .i64 a1_2, .int .i64 a1_3, .int .i64 a1_4, .int .i64 a1_5, .int .i64 a1_6, .int .i64 a1_7, .bool a1_8] 73 (0, 0)) (by (with_reducible repeat (first | refine Qi ?_ _ | refine Qj ?_ | refine Qh ?_ _)); exact BK293.out)) : gb295 ≠ gb293))
   clear BK292
   clear BK293
   clear HB
   have BK292 := n0_
   have BK293 := n1_
   have HB := n2_
   have BK295 := n3_
   have GW295 := n4_
   have GE295 := n5_
   have NB292_295 := n6_
   have NB295_292 := n7_
   have NB293_295 := n8_
   have NB295_293 := n9_
   clear n0_ n1_ n2_ n3_ n4_ n5_ n6_ n7_ n8_ n9_
   clear hb hbox hg
   refine hK.out _ _ ⟨(Qa BK292.out 0).trans rfl, (Qa BK292.out 1).trans rfl, (Qa BK292.out 2).trans rfl, (Qa BK292.out 3).trans rfl, (Qa BK292.out 4).trans rfl, (Qa BK292.out 5).trans rfl, (Qa BK292.out 6).trans rfl, (Qa BK292.out 7).trans rfl, (Qa BK292.out 8).trans rfl, (Qa BK293.out 0).trans rfl, (Qa BK293.out 1).trans rfl, (Qa BK293.out 2).trans rfl, (Qa BK293.out 3).trans rfl, (Qa BK293.out 4).trans rfl, (Qa BK293.out 5).trans rfl, (Qa BK293.out 6).trans rfl, (Qa BK293.out 7).trans rfl, (Qa BK293.out 8).trans rfl⟩ (fun hHeld => ?_)
   clear hK K
   refine Q4 (a' := ?_) ?_ ?_
   rotate_left
   ·show Act.put _ (some 6) _ = _
    simp only [Act.put, List.setIfInBounds_toArray, List.set_cons_zero, List.set_cons_succ, Qr, Qt]
    rfl
   refine one_ (i := 4) (N := some 5) #[true, true, true, true, true, true, false, false] rfl rfl (Q6 HT_.out (by kernel_rfl)) (by decide) (fun K hK => ?_)
   refine box_step ?hg (N := 5) ?hd (cs := #[.int .i64 0, .int .i64 0, .int .i64 0, .int .i64 0, .int .i64 0, .int .i64 0, .bool false]) (t := 42) ?hr ?_; (case hd => rfl); (case hg => rfl); (case hr => first | (go_simp; done) | (go_simp; rfl))
   intro gb294 hg w13 hbox hb
   have n0_ := Aside0.mk (Qm (g := gb292) (o := .cells #[.int .i64 a0_0, .bool a0_1, .int .i64 a0_2, .int .i64 a0_3, .int .i64 a0_4, .int .i64 a0_5, .int .i64 a0_6, .int .i64 a0_7, .bool a0_8] 73 (0, 0)) (by (with_reducible repeat (first | refine Qi ?_ _ | refine Qj ?_ | refine Qh ?_ _)); exact BK292.out) hb)
   have n1_ := Aside0.mk (Qm (g := gb293) (o := .cells #[.int .i64 a1_0, .bool a1_1, .int .i64 a1_2, .int .i64 a1_3, .int .i64 a1_4, .int .i64 a1_5, .int .i64 a1_6, .int .i64 a1_7, .bool a1_8] 73 (0, 0)) (by (with_reducible repeat (first | refine Qi ?_ _ | refine Qj ?_ | refine Qh ?_ _)); exact BK293.out) hb)
   have n2_ := Aside0.mk (Qm (g := gb295) (o := .cells #[.int .i64 0, .int .i64 0, .int .i64 0, .int .i64 0, .int .i64 0, .int .i64 0, .bool false] 42 (0, 0)) (by (with_reducible repeat (first | refine Qi ?_ _ | refine Qj ?_ | refine Qh ?_ _)); exact BK295.out) hb)
   have n3_ := Aside0.mk (Qn (by repeat (first | (with_reducible first | exact HB.out | apply Qg | apply Qb | apply Qe | refine Qc ?_ GE292.out | refine Qc ?_ GE293.out | refine Qc ?_ GE295.out) | exact HB.out)) hb)
   have n4_ := Aside0.mk (hbox)
   have n5_ := Aside0.mk ((by rw [hg]; exact (Ql (by repeat (first | (with_reducible first | exact HB.out | apply Qg | apply Qb | apply Qe | refine Qc ?_ GE292.out | refine Qc ?_ GE293.out | refine Qc ?_ GE295.out) | exact HB.out))) : w.heap.size ≤ gb294))
   have n6_ := Aside0.mk ((by rw [hg]; exact (Ql (by repeat (first | (with_reducible first | exact HB.out | apply Qg | apply Qb | apply Qe | refine Qc ?_ GE292.out | refine Qc ?_ GE293.out | refine Qc ?_ GE295.out) | exact HB.out))) : w.heap.size ≤ gb294))
   have n7_ := Aside0.mk ((by rw [hg]; exact Nat.ne_of_lt (Qs (g := gb292) (o := .cells #[.int .i64 a0_0, .bool a0_1, .int .i64 a0_2, .int .i64 a0_3, .int .i64 a0_4, .int .i64 a0_5, .int .i64 a0_6, .int .i64 a0_7, .bool a0_8] 73 (0, 0)) (by (with_reducible repeat (first | refine Qi ?_ _ | refine Qj ?_ | refine Qh ?_ _)); exact BK292.out)) : gb292 ≠ gb294))
   have n8_ := Aside0.mk ((by rw [hg]; exact Nat.ne_of_gt (Qs (g := gb292) (o := .cells #[.int .i64 a0_0, .bool a0_1, .int .i64 a0_2, .int .i64 a0_3, .int .i64 a0_4, .int .i64 a0_5, .int .i64 a0_6, .int .i64 a0_7, .bool a0_8] 73 (0, 0)) (by (with_reducible repeat (first | refine Qi ?_ _ | refine Qj ?_ | refine Qh ?_ _)); exact BK292.out)) : gb294 ≠ gb292))
   have n9_ := Aside0.mk ((by rw [hg]; exact Nat.ne_of_lt (Qs (g := gb293) (o := .cells #[.int .i64 a1_0, .bool a1_1, .int .i64 a1_2, .int .i64 a1_3, .int .i64 a1_4, .int .i64 a1_5, .int .i64 a1_6, .int .i64 a1_7, .bool a1_8] 73 (0, 0)) (by (with_reducible repeat (first | refine Qi ?_ _ | refine Qj ?_ | refine Qh ?_ _)); exact BK293.out)) : gb293 ≠ gb294))
   have n10_ := Aside0.mk ((by rw [hg]; exact Nat.ne_of_gt (Qs (g := gb293) (o := .cells #[.int .i64 a1_0, .bool a1_1, .int .i64 a1_2, .int .i64 a1_3, .int .i64 a1_4, .int .i64 a1_5, .int .i64 a1_6, .int .i64 a1_7, .bool a1_8] 73 (0, 0)) (by (with_reducible repeat (first | refine Qi ?_ _ | refine Qj ?_ | refine Qh ?_ _)); exact BK293.out)) : gb294 ≠ gb293))
   have n11_ := Aside0.mk ((by rw [hg]; exact Nat.ne_of_lt (Qs (g := gb295) (o := .cells #[.int .i64 0, .int .i64 0, .int .i64 0, .int .i64 0, .int .i64 0, .int .i64 0, .bool false] 42 (0, 0)) (by (with_reducible repeat (first | refine Qi ?_ _ | refine Qj ?_ | refine Qh ?_ _)); exact BK295.out)) : gb295 ≠ gb294))
   have n12_ := Aside0.mk ((by rw [hg]; exact Nat.ne_of_gt (Qs (g := gb295) (o := .cells #[.int .i64 0, .int .i64 0, .int .i64 0, .int .i64 0, .int .i64 0, .int .i64 0, .bool false] 42 (0, 0)) (by (with_reducible repeat (first | refine Qi ?_ _ | refine Qj ?_ | refine Qh ?_ _)); exact BK295.out)) : gb294 ≠ gb295))
   clear BK292
   clear BK293
   clear BK295
   clear HB
   have BK292 := n0_
   have BK293 := n1_
   have BK295 := n2_
   have HB := n3_
   have BK294 := n4_
   have GW294 := n5_
   have GE294 := n6_
   have NB292_294 := n7_
   have NB294_292 := n8_
   have NB293_294 := n9_
   have NB294_293 := n10_
   have NB295_294 := n11_
   have NB294_295 := n12_
   clear n0_ n1_ n2_ n3_ n4_ n5_ n6_ n7_ n8_ n9_ n10_ n11_ n12_
   clear hb hbox hg
   refine hK.out _ _ ⟨(Qa BK292.out 0).trans rfl, (Qa BK292.out 1).trans rfl, (Qa BK292.out 2).trans rfl, (Qa BK292.out 3).trans rfl, (Qa BK292.out 4).trans rfl, (Qa BK292.out 5).trans rfl, (Qa BK292.out 6).trans rfl, (Qa BK292.out 7).trans rfl, (Qa BK292.out 8).trans rfl, (Qa BK293.out 0).trans rfl, (Qa BK293.out 1).trans rfl, (Qa BK293.out 2).trans rfl, (Qa BK293.out 3).trans rfl, (Qa BK293.out 4).trans rfl, (Qa BK293.out 5).trans rfl, (Qa BK293.out 6).trans rfl, (Qa BK293.out 7).trans rfl, (Qa BK293.out 8).trans rfl⟩ (fun hHeld => ?_)
   clear hK K
   refine Q4 (a' := ?_) ?_ ?_
   rotate_left
   ·show Act.put _ (some 5) _ = _
    simp only [Act.put, List.setIfInBounds_toArray, List.set_cons_zero, List.set_cons_succ, Qr, Qt]
    rfl
   exact Q4 (by simp only [putAll, Act.put, List.setIfInBounds_toArray, List.set_cons_zero, List.set_cons_succ]) (hCont (gb294, gb295) _ ⟨hHeld, (by (with_reducible repeat (first | refine Qi ?_ _ | refine Qj ?_ | refine Qh ?_ _)); exact BK292.out), (by (with_reducible repeat (first | refine Qi ?_ _ | refine Qj ?_ | refine Qh ?_ _)); exact BK293.out), (by (with_reducible repeat (first | refine Qi ?_ _ | refine Qj ?_ | refine Qh ?_ _)); exact BK294.out), (by (with_reducible repeat (first | refine Qi ?_ _ | refine Qj ?_ | refine Qh ?_ _)); exact BK295.out), GW294.out, GE294.out, NB292_294.out, NB294_292.out, NB293_294.out, NB294_293.out, NB295_294.out, NB294_295.out, GW295.out, GE295.out, NB292_295.out, NB295_292.out, NB293_295.out, NB295_293.out, (by repeat (first | (with_reducible first | exact HB.out | apply Qg | apply Qb | apply Qe | refine Qc ?_ GE292.out | refine Qc ?_ GE293.out | refine Qc ?_ GE295.out | refine Qc ?_ GE294.out) | exact HB.out))⟩)
 rintro ⟨gb294, gb295⟩ w14 ⟨hS_, h0_, h1_, h2_, h3_, h4_, h5_, h6_, h7_, h8_, h9_, h10_, h11_, h12_, h13_, h14_, h15_, h16_, h17_, h18_⟩
 have n0_ : Aside0 (w14.heap[gb292]? = some (.cells #[.int .i64 a0_0, .bool a0_1, .int .i64 a0_2, .int .i64 a0_3, .int .i64 a0_4, .int .i64 a0_5, .int .i64 a0_6, .int .i64 a0_7, .bool a0_8] 73 (0, 0))) := ⟨h0_⟩
 have n1_ : Aside0 (w14.heap[gb293]? = some (.cells #[.int .i64 a1_0, .bool a1_1, .int .i64 a1_2, .int .i64 a1_3, .int .i64 a1_4, .int .i64 a1_5, .int .i64 a1_6, .int .i64 a1_7, .bool a1_8] 73 (0, 0))) := ⟨h1_⟩
 have n2_ : Aside0 (w14.heap[gb294]? = some (.cells #[.int .i64 0, .int .i64 0, .int .i64 0, .int .i64 0, .int .i64 0, .int .i64 0, .bool false] 42 (0, 0))) := ⟨h2_⟩
 have n3_ : Aside0 (w14.heap[gb295]? = some (.cells #[.int .i64 0, .int .i64 0, .int .i64 0, .int .i64 0, .int .i64 0, .int .i64 0, .bool false] 42 (0, 0))) := ⟨h3_⟩
 have n4_ : Aside0 (w.heap.size ≤ gb294) := ⟨h4_⟩
 have n5_ : Aside0 (w.heap.size ≤ gb294) := ⟨h5_⟩
 have n6_ : Aside0 (gb292 ≠ gb294) := ⟨h6_⟩
 have n7_ : Aside0 (gb294 ≠ gb292) := ⟨h7_⟩
 have n8_ : Aside0 (gb293 ≠ gb294) := ⟨h8_⟩
 have n9_ : Aside0 (gb294 ≠ gb293) := ⟨h9_⟩
 have n10_ : Aside0 (gb295 ≠ gb294) := ⟨h10_⟩
 have n11_ : Aside0 (gb294 ≠ gb295) := ⟨h11_⟩
 have n12_ : Aside0 (w.heap.size ≤ gb295) := ⟨h12_⟩
 have n13_ : Aside0 (w.heap.size ≤ gb295) := ⟨h13_⟩
 have n14_ : Aside0 (gb292 ≠ gb295) := ⟨h14_⟩
 have n15_ : Aside0 (gb295 ≠ gb292) := ⟨h15_⟩
 have n16_ : Aside0 (gb293 ≠ gb295) := ⟨h16_⟩
 have n17_ : Aside0 (gb295 ≠ gb293) := ⟨h17_⟩
 have n18_ : Aside0 (Below w.heap.size w w14) := ⟨h18_⟩
 clear BK292
 clear BK293
 clear HB
 clear h0_ h1_ h2_ h3_ h4_ h5_ h6_ h7_ h8_ h9_ h10_ h11_ h12_ h13_ h14_ h15_ h16_ h17_ h18_
 have BK292 := n0_
 have BK293 := n1_
 have BK294 := n2_
 have BK295 := n3_
 have GW294 := n4_
 have GE294 := n5_
 have NB292_294 := n6_
 have NB294_292 := n7_
 have NB293_294 := n8_
 have NB294_293 := n9_
 have NB295_294 := n10_
 have NB294_295 := n11_
 have GW295 := n12_
 have GE295 := n13_
 have NB292_295 := n14_
 have NB295_292 := n15_
 have NB293_295 := n16_
 have NB295_293 := n17_
 have HB := n18_
 clear n0_ n1_ n2_ n3_ n4_ n5_ n6_ n7_ n8_ n9_ n10_ n11_ n12_ n13_ n14_ n15_ n16_ n17_ n18_
 have hHeld : w14.cell? ⟨gb292, 0, none⟩ = some (.int .i64 a0_0) ∧ w14.cell? ⟨gb292, 1, none⟩ = some (.bool a0_1) ∧ w14.cell? ⟨gb292, 2, none⟩ = some (.int .i64 a0_2) ∧ w14.cell? ⟨gb292, 3, none⟩ = some (.int .i64 a0_3) ∧ w14.cell? ⟨gb292, 4, none⟩ = some (.int .i64 a0_4) ∧ w14.cell? ⟨gb292, 5, none⟩ = some (.int .i64 a0_5) ∧ w14.cell? ⟨gb292, 6, none⟩ = some (.int .i64 a0_6) ∧ w14.cell? ⟨gb292, 7, none⟩ = some (.int .i64 a0_7) ∧ w14.cell? ⟨gb292, 8, none⟩ = some (.bool a0_8) ∧ w14.cell? ⟨gb293, 0, none⟩ = some (.int .i64 a1_0) ∧ w14.cell? ⟨gb293, 1, none⟩ = some (.bool a1_1) ∧ w14.cell? ⟨gb293, 2, none⟩ = some (.int .i64 a1_2) ∧ w14.cell? ⟨gb293, 3, none⟩ = some (.int .i64 a1_3) ∧ w14.cell? ⟨gb293, 4, none⟩ = some (.int .i64 a1_4) ∧ w14.cell? ⟨gb293, 5, none⟩ = some (.int .i64 a1_5) ∧ w14.cell? ⟨gb293, 6, none⟩ = some (.int .i64 a1_6) ∧ w14.cell? ⟨gb293, 7, none⟩ = some (.int .i64 a1_7) ∧ w14.cell? ⟨gb293, 8, none⟩ = some (.bool a1_8) := hS_
 refine Q4 (a' := ?_) ?_ ?_
 rotate_left
 ·simp only [putAll, Act.put, List.setIfInBounds_toArray, List.set_cons_zero, List.set_cons_succ]
  rfl
 refine one_ (i := 6) (N := none) #[true, true, true, true, true, true, true, false] rfl rfl (Q6 HT_.out (by kernel_rfl)) (by decide) (fun K hK => ?_)
 refine Base.store_step (by rfl) rfl 42 (.tmp 5) (.tmp 8) rfl (g := gb294) rfl (u := .agg #[.int .i64 a0_2, .int .i64 a0_3, .int .i64 a0_4, .int .i64 a0_5, .int .i64 a0_6, .int .i64 a0_7, .bool a0_8]) rfl [.int .i64 a0_2, .int .i64 a0_3, .int .i64 a0_4, .int .i64 a0_5, .int .i64 a0_6, .int .i64 a0_7, .bool a0_8] rfl (by kernel_rfl) BK294.out rfl (by simp [Value.oneCell']) ?_
 intro wn_ hx_ hf_ hB_
 have n292_ := Aside0.mk ((hf_ gb292 NB292_294.out).trans BK292.out)
 have n293_ := Aside0.mk ((hf_ gb293 NB293_294.out).trans BK293.out)
 have n295_ := Aside0.mk ((hf_ gb295 NB295_294.out).trans BK295.out)
 have nx_ := Aside0.mk hx_
 have nb_ := Aside0.mk (hB_ _ _ HB.out GE294.out)
 clear BK292 BK293 BK294 BK295 HB hHeld hx_ hf_ hB_
 have BK292 := n292_
 have BK293 := n293_
 have BK295 := n295_
 have BK294 := nx_
 have HB := nb_
 clear n292_ n293_ n295_ nx_ nb_
 refine hK.out _ _ ⟨(Qa BK292.out 0).trans rfl, (Qa BK292.out 1).trans rfl, (Qa BK292.out 2).trans rfl, (Qa BK292.out 3).trans rfl, (Qa BK292.out 4).trans rfl, (Qa BK292.out 5).trans rfl, (Qa BK292.out 6).trans rfl, (Qa BK292.out 7).trans rfl, (Qa BK292.out 8).trans rfl, (Qa BK293.out 0).trans rfl, (Qa BK293.out 1).trans rfl, (Qa BK293.out 2).trans rfl, (Qa BK293.out 3).trans rfl, (Qa BK293.out 4).trans rfl, (Qa BK293.out 5).trans rfl, (Qa BK293.out 6).trans rfl, (Qa BK293.out 7).trans rfl, (Qa BK293.out 8).trans rfl⟩ (fun hHeld => ?_)
 clear hK K
 refine one_ (i := 7) (N := none) #[true, true, true, true, true, true, true, true] rfl rfl (Q6 HT_.out (by kernel_rfl)) (by decide) (fun K hK => ?_)
 refine Base.store_step (by rfl) rfl 42 (.tmp 6) (.tmp 10) rfl (g := gb295) rfl (u := .agg #[.int .i64 a1_2, .int .i64 a1_3, .int .i64 a1_4, .int .i64 a1_5, .int .i64 a1_6, .int .i64 a1_7, .bool a1_8]) rfl [.int .i64 a1_2, .int .i64 a1_3, .int .i64 a1_4, .int .i64 a1_5, .int .i64 a1_6, .int .i64 a1_7, .bool a1_8] rfl (by kernel_rfl) BK295.out rfl (by simp [Value.oneCell']) ?_
 intro w29 hx_ hf_ hB_
 have n292_ := Aside0.mk ((hf_ gb292 NB292_295.out).trans BK292.out)
 have n293_ := Aside0.mk ((hf_ gb293 NB293_295.out).trans BK293.out)
 have n294_ := Aside0.mk ((hf_ gb294 NB294_295.out).trans BK294.out)
 have nx_ := Aside0.mk hx_
 have nb_ := Aside0.mk (hB_ _ _ HB.out GE295.out)
 clear BK292 BK293 BK294 BK295 HB hHeld hx_ hf_ hB_
 have BK292 := n292_
 have BK293 := n293_
 have BK294 := n294_
 have BK295 := nx_
 have HB := nb_
 clear n292_ n293_ n294_ nx_ nb_
 refine hK.out _ _ ⟨(Qa BK292.out 0).trans rfl, (Qa BK292.out 1).trans rfl, (Qa BK292.out 2).trans rfl, (Qa BK292.out 3).trans rfl, (Qa BK292.out 4).trans rfl, (Qa BK292.out 5).trans rfl, (Qa BK292.out 6).trans rfl, (Qa BK292.out 7).trans rfl, (Qa BK292.out 8).trans rfl, (Qa BK293.out 0).trans rfl, (Qa BK293.out 1).trans rfl, (Qa BK293.out 2).trans rfl, (Qa BK293.out 3).trans rfl, (Qa BK293.out 4).trans rfl, (Qa BK293.out 5).trans rfl, (Qa BK293.out 6).trans rfl, (Qa BK293.out 7).trans rfl, (Qa BK293.out 8).trans rfl⟩ (fun hHeld => ?_)
 clear hK K
 refine done_ (done_of HT_.out (by kernel_rfl)) ?_
 have kz292_0 := (Qa BK292.out 0).trans rfl
 have kz292_1 := (Qa BK292.out 1).trans rfl
 have kz292_2 := (Qa BK292.out 2).trans rfl
 have kz292_3 := (Qa BK292.out 3).trans rfl
 have kz292_4 := (Qa BK292.out 4).trans rfl
 have kz292_5 := (Qa BK292.out 5).trans rfl
 have kz292_6 := (Qa BK292.out 6).trans rfl
 have kz292_7 := (Qa BK292.out 7).trans rfl
 have kz292_8 := (Qa BK292.out 8).trans rfl
 have kz293_0 := (Qa BK293.out 0).trans rfl
 have kz293_1 := (Qa BK293.out 1).trans rfl
 have kz293_2 := (Qa BK293.out 2).trans rfl
 have kz293_3 := (Qa BK293.out 3).trans rfl
 have kz293_4 := (Qa BK293.out 4).trans rfl
 have kz293_5 := (Qa BK293.out 5).trans rfl
 have kz293_6 := (Qa BK293.out 6).trans rfl
 have kz293_7 := (Qa BK293.out 7).trans rfl
 have kz293_8 := (Qa BK293.out 8).trans rfl
 have kz294_0 := (Qa BK294.out 0).trans rfl
 have kz294_1 := (Qa BK294.out 1).trans rfl
 have kz294_2 := (Qa BK294.out 2).trans rfl
 have kz294_3 := (Qa BK294.out 3).trans rfl
 have kz294_4 := (Qa BK294.out 4).trans rfl
 have kz294_5 := (Qa BK294.out 5).trans rfl
 have kz294_6 := (Qa BK294.out 6).trans rfl
 have kz295_0 := (Qa BK295.out 0).trans rfl
 have kz295_1 := (Qa BK295.out 1).trans rfl
 have kz295_2 := (Qa BK295.out 2).trans rfl
 have kz295_3 := (Qa BK295.out 3).trans rfl
 have kz295_4 := (Qa BK295.out 4).trans rfl
 have kz295_5 := (Qa BK295.out 5).trans rfl
 have kz295_6 := (Qa BK295.out 6).trans rfl
 try go_wp2
 have n0_ := Aside0.mk (Qj BK292.out)
 have n1_ := Aside0.mk (Qj BK293.out)
 have n2_ := Aside0.mk (Qj BK294.out)
 have n3_ := Aside0.mk (Qj BK295.out)
 have n4_ := Aside0.mk (Qe HB.out)
 clear BK292
 clear BK293
 clear BK294
 clear BK295
 clear HB
 have BK292 := n0_
 have BK293 := n1_
 have BK294 := n2_
 have BK295 := n3_
 have HB := n4_
 clear n0_ n1_ n2_ n3_ n4_
 refine start_ (n := 28) (S := fun w' => w'.cell? ⟨gb292, 0, none⟩ = some (.int .i64 a0_0) ∧ w'.cell? ⟨gb292, 1, none⟩ = some (.bool a0_1) ∧ w'.cell? ⟨gb292, 2, none⟩ = some (.int .i64 a0_2) ∧ w'.cell? ⟨gb292, 3, none⟩ = some (.int .i64 a0_3) ∧ w'.cell? ⟨gb292, 4, none⟩ = some (.int .i64 a0_4) ∧ w'.cell? ⟨gb292, 5, none⟩ = some (.int .i64 a0_5) ∧ w'.cell? ⟨gb292, 6, none⟩ = some (.int .i64 a0_6) ∧ w'.cell? ⟨gb292, 7, none⟩ = some (.int .i64 a0_7) ∧ w'.cell? ⟨gb292, 8, none⟩ = some (.bool a0_8) ∧ w'.cell? ⟨gb293, 0, none⟩ = some (.int .i64 a1_0) ∧ w'.cell? ⟨gb293, 1, none⟩ = some (.bool a1_1) ∧ w'.cell? ⟨gb293, 2, none⟩ = some (.int .i64 a1_2) ∧ w'.cell? ⟨gb293, 3, none⟩ = some (.int .i64 a1_3) ∧ w'.cell? ⟨gb293, 4, none⟩ = some (.int .i64 a1_4) ∧ w'.cell? ⟨gb293, 5, none⟩ = some (.int .i64 a1_5) ∧ w'.cell? ⟨gb293, 6, none⟩ = some (.int .i64 a1_6) ∧ w'.cell? ⟨gb293, 7, none⟩ = some (.int .i64 a1_7) ∧ w'.cell? ⟨gb293, 8, none⟩ = some (.bool a1_8) ∧ w'.cell? ⟨gb294, 0, none⟩ = some (.int .i64 a0_2) ∧ w'.cell? ⟨gb294, 1, none⟩ = some (.int .i64 a0_3) ∧ w'.cell? ⟨gb294, 2, none⟩ = some (.int .i64 a0_4) ∧ w'.cell? ⟨gb294, 3, none⟩ = some (.int .i64 a0_5) ∧ w'.cell? ⟨gb294, 4, none⟩ = some (.int .i64 a0_6) ∧ w'.cell? ⟨gb294, 5, none⟩ = some (.int .i64 a0_7) ∧ w'.cell? ⟨gb294, 6, none⟩ = some (.bool a0_8) ∧ w'.cell? ⟨gb295, 0, none⟩ = some (.int .i64 a1_2) ∧ w'.cell? ⟨gb295, 1, none⟩ = some (.int .i64 a1_3) ∧ w'.cell? ⟨gb295, 2, none⟩ = some (.int .i64 a1_4) ∧ w'.cell? ⟨gb295, 3, none⟩ = some (.int .i64 a1_5) ∧ w'.cell? ⟨gb295, 4, none⟩ = some (.int .i64 a1_6) ∧ w'.cell? ⟨gb295, 5, none⟩ = some (.int .i64 a1_7) ∧ w'.cell? ⟨gb295, 6, none⟩ = some (.bool a1_8)) (ds := []) #[false, false, false, false, false, false, false, false, false, false, false, false, false, false, false, false, false, false, false, false, false, false, false, false, false, false, false, false] (by kernel_rfl) rfl rfl ⟨(Qa BK292.out 0).trans rfl, (Qa BK292.out 1).trans rfl, (Qa BK292.out 2).trans rfl, (Qa BK292.out 3).trans rfl, (Qa BK292.out 4).trans rfl, (Qa BK292.out 5).trans rfl, (Qa BK292.out 6).trans rfl, (Qa BK292.out 7).trans rfl, (Qa BK292.out 8).trans rfl, (Qa BK293.out 0).trans rfl, (Qa BK293.out 1).trans rfl, (Qa BK293.out 2).trans rfl, (Qa BK293.out 3).trans rfl, (Qa BK293.out 4).trans rfl, (Qa BK293.out 5).trans rfl, (Qa BK293.out 6).trans rfl, (Qa BK293.out 7).trans rfl, (Qa BK293.out 8).trans rfl, (Qa BK294.out 0).trans rfl, (Qa BK294.out 1).trans rfl, (Qa BK294.out 2).trans rfl, (Qa BK294.out 3).trans rfl, (Qa BK294.out 4).trans rfl, (Qa BK294.out 5).trans rfl, (Qa BK294.out 6).trans rfl, (Qa BK295.out 0).trans rfl, (Qa BK295.out 1).trans rfl, (Qa BK295.out 2).trans rfl, (Qa BK295.out 3).trans rfl, (Qa BK295.out 4).trans rfl, (Qa BK295.out 5).trans rfl, (Qa BK295.out 6).trans rfl⟩ (fun hHeld => ?_); refine with_tabW impl_Held_order.tab2 impl_Held_order.bits2 (fun HT_ HW_ => ?_)
 generalize w29.drew = w30 at BK292 BK293 BK294 BK295 HB hHeld ⊢
 refine Qy (i := 0) (N := some 11) (v := ?_) (a' := ?_) #[true, false, false, false, false, false, false, false, false, false, false, false, false, false, false, false, false, false, false, false, false, false, false, false, false, false, false, false] rfl rfl (Qv HT_.out (by kernel_rfl)) (fun _ _ _ h => h) (Or.inl ⟨by rfl, ?_⟩) ?_ ?_
 rotate_left
 ·intro w'
  go_simp
  with_reducible rfl
 rotate_left
 ·simp only [Act.put, List.setIfInBounds_toArray, List.set_cons_zero, List.set_cons_succ, Qr, Qt]
  rfl
 refine Qy (i := 2) (N := some 13) (v := ?_) (a' := ?_) #[true, false, true, false, false, false, false, false, false, false, false, false, false, false, false, false, false, false, false, false, false, false, false, false, false, false, false, false] rfl rfl (Qv HT_.out (by kernel_rfl)) (fun _ _ _ h => h) (Or.inl ⟨by rfl, ?_⟩) ?_ ?_
 rotate_left
 ·intro w'
  go_simp
  with_reducible rfl
 rotate_left
 ·simp only [Act.put, List.setIfInBounds_toArray, List.set_cons_zero, List.set_cons_succ, Qr, Qt]
  rfl
 refine Qy (i := 5) (N := some 16) (v := ?_) (a' := ?_) #[true, false, true, false, false, true, false, false, false, false, false, false, false, false, false, false, false, false, false, false, false, false, false, false, false, false, false, false] rfl rfl (Qv HT_.out (by kernel_rfl)) (fun _ _ _ h => h) (Or.inl ⟨by rfl, ?_⟩) ?_ ?_
 rotate_left
 ·intro w'
  go_simp
  with_reducible rfl
 rotate_left
 ·simp only [Act.put, List.setIfInBounds_toArray, List.set_cons_zero, List.set_cons_succ, Qr, Qt]
  rfl
 refine Qy (i := 7) (N := some 18) (v := ?_) (a' := ?_) #[true, false, true, false, false, true, false, true, false, false, false, false, false, false, false, false, false, false, false, false, false, false, false, false, false, false, false, false] rfl rfl (Qv HT_.out (by kernel_rfl)) (fun _ _ _ h => h) (Or.inl ⟨by rfl, ?_⟩) ?_ ?_
 rotate_left
 ·intro w'
  go_simp
  with_reducible rfl
 rotate_left
 ·simp only [Act.put, List.setIfInBounds_toArray, List.set_cons_zero, List.set_cons_succ, Qr, Qt]
  rfl
 refine Qy (i := 10) (N := some 21) (v := ?_) (a' := ?_) #[true, false, true, false, false, true, false, true, false, false, true, false, false, false, false, false, false, false, false, false, false, false, false, false, false, false, false, false] rfl rfl (Qv HT_.out (by kernel_rfl)) (fun _ _ _ h => h) (Or.inl ⟨by rfl, ?_⟩) ?_ ?_
 rotate_left
 ·intro w'
  go_simp
  with_reducible rfl
 rotate_left
 ·simp only [Act.put, List.setIfInBounds_toArray, List.set_cons_zero, List.set_cons_succ, Qr, Qt]
  rfl
 refine Qy (i := 12) (N := some 23) (v := ?_) (a' := ?_) #[true, false, true, false, false, true, false, true, false, false, true, false, true, false, false, false, false, false, false, false, false, false, false, false, false, false, false, false] rfl rfl (Qv HT_.out (by kernel_rfl)) (fun _ _ _ h => h) (Or.inl ⟨by rfl, ?_⟩) ?_ ?_
 rotate_left
 ·intro w'
  go_simp
  with_reducible rfl
 rotate_left
 ·simp only [Act.put, List.setIfInBounds_toArray, List.set_cons_zero, List.set_cons_succ, Qr, Qt]
  rfl
 refine Qy (i := 15) (N := some 26) (v := ?_) (a' := ?_) #[true, false, true, false, false, true, false, true, false, false, true, false, true, false, false, true, false, false, false, false, false, false, false, false, false, false, false, false] rfl rfl (Qv HT_.out (by kernel_rfl)) (fun _ _ _ h => h) (Or.inl ⟨by rfl, ?_⟩) ?_ ?_
 rotate_left
 ·intro w'
  go_simp
  with_reducible rfl
 rotate_left
 ·simp only [Act.put, List.setIfInBounds_toArray, List.set_cons_zero, List.set_cons_succ, Qr, Qt]
  rfl
 refine Qy (i := 17) (N := some 28) (v := ?_) (a' := ?_) #[true, false, true, false, false, true, false, true, false, false, true, false, true, false, false, true, false, true, false, false, false, false, false, false, false, false, false, false] rfl rfl (Qv HT_.out (by kernel_rfl)) (fun _ _ _ h => h) (Or.inl ⟨by rfl, ?_⟩) ?_ ?_
 rotate_left
 ·intro w'
  go_simp
  with_reducible rfl
 rotate_left
 ·simp only [Act.put, List.setIfInBounds_toArray, List.set_cons_zero, List.set_cons_succ, Qr, Qt]
  rfl
 refine Qy (i := 20) (N := some 31) (v := ?_) (a' := ?_) #[true, false, true, false, false, true, false, true, false, false, true, false, true, false, false, true, false, true, false, false, true, false, false, false, false, false, false, false] rfl rfl (Qv HT_.out (by kernel_rfl)) (fun _ _ _ h => h) (Or.inl ⟨by rfl, ?_⟩) ?_ ?_
 rotate_left
 ·intro w'
  go_simp
  with_reducible rfl
 rotate_left
 ·simp only [Act.put, List.setIfInBounds_toArray, List.set_cons_zero, List.set_cons_succ, Qr, Qt]
  rfl
 refine Qy (i := 22) (N := some 33) (v := ?_) (a' := ?_) #[true, false, true, false, false, true, false, true, false, false, true, false, true, false, false, true, false, true, false, false, true, false, true, false, false, false, false, false] rfl rfl (Qv HT_.out (by kernel_rfl)) (fun _ _ _ h => h) (Or.inl ⟨by rfl, ?_⟩) ?_ ?_
 rotate_left
 ·intro w'
  go_simp
  with_reducible rfl
 rotate_left
 ·simp only [Act.put, List.setIfInBounds_toArray, List.set_cons_zero, List.set_cons_succ, Qr, Qt]
  rfl
 refine take_ (i := 1) (N := some 12) (v := ?_) (a' := ?_) #[true, true, true, false, false, true, false, true, false, false, true, false, true, false, false, true, false, true, false, false, true, false, true, false, false, false, false, false] rfl rfl (Q5 HT_.out HW_.out (by kernel_rfl)) (fun _ _ _ h => h) (Or.inl ⟨by rfl, ?_⟩) hHeld ?_ ?_
 rotate_left
 ·rintro w' ⟨s0, s1, s2, s3, s4, s5, s6, s7, s8, s9, s10, s11, s12, s13, s14, s15, s16, s17, s18, s19, s20, s21, s22, s23, s24, s25, s26, s27, s28, s29, s30, s31⟩
  go_simp
  with_reducible rfl
 rotate_left
 ·simp only [Act.put, List.setIfInBounds_toArray, List.set_cons_zero, List.set_cons_succ, Qr, Qt]
  rfl
 refine take_ (i := 3) (N := some 14) (v := ?_) (a' := ?_) #[true, true, true, true, false, true, false, true, false, false, true, false, true, false, false, true, false, true, false, false, true, false, true, false, false, false, false, false] rfl rfl (Q5 HT_.out HW_.out (by kernel_rfl)) (fun _ _ _ h => h) (Or.inl ⟨by rfl, ?_⟩) hHeld ?_ ?_
 rotate_left
 ·rintro w' ⟨s0, s1, s2, s3, s4, s5, s6, s7, s8, s9, s10, s11, s12, s13, s14, s15, s16, s17, s18, s19, s20, s21, s22, s23, s24, s25, s26, s27, s28, s29, s30, s31⟩
  go_simp
  with_reducible rfl
 rotate_left
 ·simp only [Act.put, List.setIfInBounds_toArray, List.set_cons_zero, List.set_cons_succ, Qr, Qt]
  rfl
 refine take_ (i := 6) (N := some 17) (v := ?_) (a' := ?_) #[true, true, true, true, false, true, true, true, false, false, true, false, true, false, false, true, false, true, false, false, true, false, true, false, false, false, false, false] rfl rfl (Q5 HT_.out HW_.out (by kernel_rfl)) (fun _ _ _ h => h) (Or.inl ⟨by rfl, ?_⟩) hHeld ?_ ?_
 rotate_left
 ·rintro w' ⟨s0, s1, s2, s3, s4, s5, s6, s7, s8, s9, s10, s11, s12, s13, s14, s15, s16, s17, s18, s19, s20, s21, s22, s23, s24, s25, s26, s27, s28, s29, s30, s31⟩
  go_simp
  with_reducible rfl
 rotate_left
 ·simp only [Act.put, List.setIfInBounds_toArray, List.set_cons_zero, List.set_cons_succ, Qr, Qt]
  rfl
 refine take_ (i := 8) (N := some 19) (v := ?_) (a' := ?_) #[true, true, true, true, false, true, true, true, true, false, true, false, true, false, false, true, false, true, false, false, true, false, true, false, false, false, false, false] rfl rfl (Q5 HT_.out HW_.out (by kernel_rfl)) (fun _ _ _ h => h) (Or.inl ⟨by rfl, ?_⟩) hHeld ?_ ?_
 rotate_left
 ·rintro w' ⟨s0, s1, s2, s3, s4, s5, s6, s7, s8, s9, s10, s11, s12, s13, s14, s15, s16, s17, s18, s19, s20, s21, s22, s23, s24, s25, s26, s27, s28, s29, s30, s31⟩
  go_simp
  with_reducible rfl
 rotate_left
 ·simp only [Act.put, List.setIfInBounds_toArray, List.set_cons_zero, List.set_cons_succ, Qr, Qt]
  rfl
 refine take_ (i := 11) (N := some 22) (v := ?_) (a' := ?_) #[true, true, true, true, false, true, true, true, true, false, true, true, true, false, false, true, false, true, false, false, true, false, true, false, false, false, false, false] rfl rfl (Q5 HT_.out HW_.out (by kernel_rfl)) (fun _ _ _ h => h) (Or.inl ⟨by rfl, ?_⟩) hHeld ?_ ?_
 rotate_left
 ·rintro w' ⟨s0, s1, s2, s3, s4, s5, s6, s7, s8, s9, s10, s11, s12, s13, s14, s15, s16, s17, s18, s19, s20, s21, s22, s23, s24, s25, s26, s27, s28, s29, s30, s31⟩
  go_simp
  with_reducible rfl
 rotate_left
 ·simp only [Act.put, List.setIfInBounds_toArray, List.set_cons_zero, List.set_cons_succ, Qr, Qt]
  rfl
 refine take_ (i := 13) (N := some 24) (v := ?_) (a' := ?_) #[true, true, true, true, false, true, true, true, true, false, true, true, true, true, false, true, false, true, false, false, true, false, true, false, false, false, false, false] rfl rfl (Q5 HT_.out HW_.out (by kernel_rfl)) (fun _ _ _ h => h) (Or.inl ⟨by rfl, ?_⟩) hHeld ?_ ?_
 rotate_left
 ·rintro w' ⟨s0, s1, s2, s3, s4, s5, s6, s7, s8, s9, s10, s11, s12, s13, s14, s15, s16, s17, s18, s19, s20, s21, s22, s23, s24, s25, s26, s27, s28, s29, s30, s31⟩
  go_simp
  with_reducible rfl
 rotate_left
 ·simp only [Act.put, List.setIfInBounds_toArray, List.set_cons_zero, List.set_cons_succ, Qr, Qt]
  rfl
 refine take_ (i := 16) (N := some 27) (v := ?_) (a' := ?_) #[true, true, true, true, false, true, true, true, true, false, true, true, true, true, false, true, true, true, false, false, true, false, true, false, false, false, false, false] rfl rfl (Q5 HT_.out HW_.out (by kernel_rfl)) (fun _ _ _ h => h) (Or.inl ⟨by rfl, ?_⟩) hHeld ?_ ?_
 rotate_left
 ·rintro w' ⟨s0, s1, s2, s3, s4, s5, s6, s7, s8, s9, s10, s11, s12, s13, s14, s15, s16, s17, s18, s19, s20, s21, s22, s23, s24, s25, s26, s27, s28, s29, s30, s31⟩
  go_simp
  with_reducible rfl
 rotate_left
 ·simp only [Act.put, List.setIfInBounds_toArray, List.set_cons_zero, List.set_cons_succ, Qr, Qt]
  rfl
 refine take_ (i := 18) (N := some 29) (v := ?_) (a' := ?_) #[true, true, true, true, false, true, true, true, true, false, true, true, true, true, false, true, true, true, true, false, true, false, true, false, false, false, false, false] rfl rfl (Q5 HT_.out HW_.out (by kernel_rfl)) (fun _ _ _ h => h) (Or.inl ⟨by rfl, ?_⟩) hHeld ?_ ?_
 rotate_left
 ·rintro w' ⟨s0, s1, s2, s3, s4, s5, s6, s7, s8, s9, s10, s11, s12, s13, s14, s15, s16, s17, s18, s19, s20, s21, s22, s23, s24, s25, s26, s27, s28, s29, s30, s31⟩
  go_simp
  with_reducible rfl
 rotate_left
 ·simp only [Act.put, List.setIfInBounds_toArray, List.set_cons_zero, List.set_cons_succ, Qr, Qt]
  rfl
 refine take_ (i := 21) (N := some 32) (v := ?_) (a' := ?_) #[true, true, true, true, false, true, true, true, true, false, true, true, true, true, false, true, true, true, true, false, true, true, true, false, false, false, false, false] rfl rfl (Q5 HT_.out HW_.out (by kernel_rfl)) (fun _ _ _ h => h) (Or.inl ⟨by rfl, ?_⟩) hHeld ?_ ?_
 rotate_left
 ·rintro w' ⟨s0, s1, s2, s3, s4, s5, s6, s7, s8, s9, s10, s11, s12, s13, s14, s15, s16, s17, s18, s19, s20, s21, s22, s23, s24, s25, s26, s27, s28, s29, s30, s31⟩
  go_simp
  with_reducible rfl
 rotate_left
 ·simp only [Act.put, List.setIfInBounds_toArray, List.set_cons_zero, List.set_cons_succ, Qr, Qt]
  rfl
 refine take_ (i := 23) (N := some 34) (v := ?_) (a' := ?_) #[true, true, true, true, false, true, true, true, true, false, true, true, true, true, false, true, true, true, true, false, true, true, true, true, false, false, false, false] rfl rfl (Q5 HT_.out HW_.out (by kernel_rfl)) (fun _ _ _ h => h) (Or.inl ⟨by rfl, ?_⟩) hHeld ?_ ?_
 rotate_left
 ·rintro w' ⟨s0, s1, s2, s3, s4, s5, s6, s7, s8, s9, s10, s11, s12, s13, s14, s15, s16, s17, s18, s19, s20, s21, s22, s23, s24, s25, s26, s27, s28, s29, s30, s31⟩
  go_simp
  with_reducible rfl
 rotate_left
 ·simp only [Act.put, List.setIfInBounds_toArray, List.set_cons_zero, List.set_cons_succ, Qr, Qt]
  rfl
 refine one_ (i := 4) (N := some 15) #[true, true, true, true, true, true, true, true, true, false, true, true, true, true, false, true, true, true, true, false, true, true, true, true, false, false, false, false] rfl rfl (Q6 HT_.out (by kernel_rfl)) (by decide) (fun K hK => ?_)
 refine goes_ Try.func136 (by kernel_rfl) rfl #[.int .i64 a0_0, .int .i64 a1_0] (by rfl) rfl rfl (by (try simp only [List.map_toArray, List.map_cons, List.map_nil]); first | done | rfl | (simp only [List.length_drop, List.length_take]; rfl)) ?_
 with_reducible refine (cmp_Compare_int64.calls a0_0 a1_0 t296 _ A3.out).mono ?_
 rintro e w' ⟨rfl, ⟨nd, rfl⟩⟩
 refine ⟨_, rfl, ?_⟩
 refine hK.out _ _ ⟨(Qa BK292.out 0).trans rfl, (Qa BK292.out 1).trans rfl, (Qa BK292.out 2).trans rfl, (Qa BK292.out 3).trans rfl, (Qa BK292.out 4).trans rfl, (Qa BK292.out 5).trans rfl, (Qa BK292.out 6).trans rfl, (Qa BK292.out 7).trans rfl, (Qa BK292.out 8).trans rfl, (Qa BK293.out 0).trans rfl, (Qa BK293.out 1).trans rfl, (Qa BK293.out 2).trans rfl, (Qa BK293.out 3).trans rfl, (Qa BK293.out 4).trans rfl, (Qa BK293.out 5).trans rfl, (Qa BK293.out 6).trans rfl, (Qa BK293.out 7).trans rfl, (Qa BK293.out 8).trans rfl, (Qa BK294.out 0).trans rfl, (Qa BK294.out 1).trans rfl, (Qa BK294.out 2).trans rfl, (Qa BK294.out 3).trans rfl, (Qa BK294.out 4).trans rfl, (Qa BK294.out 5).trans rfl, (Qa BK294.out 6).trans rfl, (Qa BK295.out 0).trans rfl, (Qa BK295.out 1).trans rfl, (Qa BK295.out 2).trans rfl, (Qa BK295.out 3).trans rfl, (Qa BK295.out 4).trans rfl, (Qa BK295.out 5).trans rfl, (Qa BK295.out 6).trans rfl⟩ (fun hHeld => ?_)
 clear hK K
 refine Q4 (a' := ?_) ?_ ?_
 rotate_left
 ·show Act.put _ (some 15) _ = _
  simp only [Act.put, List.setIfInBounds_toArray, List.set_cons_zero, List.set_cons_succ, Qr, Qt]
  rfl
 refine one_ (i := 9) (N := some 20) #[true, true, true, true, true, true, true, true, true, true, true, true, true, true, false, true, true, true, true, false, true, true, true, true, false, false, false, false] rfl rfl (Q6 HT_.out (by kernel_rfl)) (by decide) (fun K hK => ?_)
 refine goes_ Try.func136 (by kernel_rfl) rfl #[.int .i64 a0_2, .int .i64 a1_2] (by rfl) rfl rfl (by (try simp only [List.map_toArray, List.map_cons, List.map_nil]); first | done | rfl | (simp only [List.length_drop, List.length_take]; rfl)) ?_
 with_reducible refine (cmp_Compare_int64.calls a0_2 a1_2 t297 _ A4.out).mono ?_
 rintro e w' ⟨rfl, ⟨nd, rfl⟩⟩
 refine ⟨_, rfl, ?_⟩
 refine hK.out _ _ ⟨(Qa BK292.out 0).trans rfl, (Qa BK292.out 1).trans rfl, (Qa BK292.out 2).trans rfl, (Qa BK292.out 3).trans rfl, (Qa BK292.out 4).trans rfl, (Qa BK292.out 5).trans rfl, (Qa BK292.out 6).trans rfl, (Qa BK292.out 7).trans rfl, (Qa BK292.out 8).trans rfl, (Qa BK293.out 0).trans rfl, (Qa BK293.out 1).trans rfl, (Qa BK293.out 2).trans rfl, (Qa BK293.out 3).trans rfl, (Qa BK293.out 4).trans rfl, (Qa BK293.out 5).trans rfl, (Qa BK293.out 6).trans rfl, (Qa BK293.out 7).trans rfl, (Qa BK293.out 8).trans rfl, (Qa BK294.out 0).trans rfl, (Qa BK294.out 1).trans rfl, (Qa BK294.out 2).trans rfl, (Qa BK294.out 3).trans rfl, (Qa BK294.out 4).trans rfl, (Qa BK294.out 5).trans rfl, (Qa BK294.out 6).trans rfl, (Qa BK295.out 0).trans rfl, (Qa BK295.out 1).trans rfl, (Qa BK295.out 2).trans rfl, (Qa BK295.out 3).trans rfl, (Qa BK295.out 4).trans rfl, (Qa BK295.out 5).trans rfl, (Qa BK295.out 6).trans rfl⟩ (fun hHeld => ?_)
 clear hK K
 refine Q4 (a' := ?_) ?_ ?_
 rotate_left
 ·show Act.put _ (some 20) _ = _
  simp only [Act.put, List.setIfInBounds_toArray, List.set_cons_zero, List.set_cons_succ, Qr, Qt]
  rfl
 refine one_ (i := 14) (N := some 25) #[true, true, true, true, true, true, true, true, true, true, true, true, true, true, true, true, true, true, true, false, true, true, true, true, false, false, false, false] rfl rfl (Q6 HT_.out (by kernel_rfl)) (by decide) (fun K hK => ?_)
 refine goes_ Try.func136 (by kernel_rfl) rfl #[.int .i64 a0_3, .int .i64 a1_3] (by rfl) rfl rfl (by (try simp only [List.map_toArray, List.map_cons, List.map_nil]); first | done | rfl | (simp only [List.length_drop, List.length_take]; rfl)) ?_
 with_reducible refine (cmp_Compare_int64.calls a0_3 a1_3 t298 _ A5.out).mono ?_
 rintro e w' ⟨rfl, ⟨nd, rfl⟩⟩
 refine ⟨_, rfl, ?_⟩
 refine hK.out _ _ ⟨(Qa BK292.out 0).trans rfl, (Qa BK292.out 1).trans rfl, (Qa BK292.out 2).trans rfl, (Qa BK292.out 3).trans rfl, (Qa BK292.out 4).trans rfl, (Qa BK292.out 5).trans rfl, (Qa BK292.out 6).trans rfl, (Qa BK292.out 7).trans rfl, (Qa BK292.out 8).trans rfl, (Qa BK293.out 0).trans rfl, (Qa BK293.out 1).trans rfl, (Qa BK293.out 2).trans rfl, (Qa BK293.out 3).trans rfl, (Qa BK293.out 4).trans rfl, (Qa BK293.out 5).trans rfl, (Qa BK293.out 6).trans rfl, (Qa BK293.out 7).trans rfl, (Qa BK293.out 8).trans rfl, (Qa BK294.out 0).trans rfl, (Qa BK294.out 1).trans rfl, (Qa BK294.out 2).trans rfl, (Qa BK294.out 3).trans rfl, (Qa BK294.out 4).trans rfl, (Qa BK294.out 5).trans rfl, (Qa BK294.out 6).trans rfl, (Qa BK295.out 0).trans rfl, (Qa BK295.out 1).trans rfl, (Qa BK295.out 2).trans rfl, (Qa BK295.out 3).trans rfl, (Qa BK295.out 4).trans rfl, (Qa BK295.out 5).trans rfl, (Qa BK295.out 6).trans rfl⟩ (fun hHeld => ?_)
 clear hK K
 refine Q4 (a' := ?_) ?_ ?_
 rotate_left
 ·show Act.put _ (some 25) _ = _
  simp only [Act.put, List.setIfInBounds_toArray, List.set_cons_zero, List.set_cons_succ, Qr, Qt]
  rfl
 refine one_ (i := 19) (N := some 30) #[true, true, true, true, true, true, true, true, true, true, true, true, true, true, true, true, true, true, true, true, true, true, true, true, false, false, false, false] rfl rfl (Q6 HT_.out (by kernel_rfl)) (by decide) (fun K hK => ?_)
 refine goes_ Try.func136 (by kernel_rfl) rfl #[.int .i64 a0_4, .int .i64 a1_4] (by rfl) rfl rfl (by (try simp only [List.map_toArray, List.map_cons, List.map_nil]); first | done | rfl | (simp only [List.length_drop, List.length_take]; rfl)) ?_
 with_reducible refine (cmp_Compare_int64.calls a0_4 a1_4 t299 _ A6.out).mono ?_
 rintro e w' ⟨rfl, ⟨nd, rfl⟩⟩
 refine ⟨_, rfl, ?_⟩
 refine hK.out _ _ ⟨(Qa BK292.out 0).trans rfl, (Qa BK292.out 1).trans rfl, (Qa BK292.out 2).trans rfl, (Qa BK292.out 3).trans rfl, (Qa BK292.out 4).trans rfl, (Qa BK292.out 5).trans rfl, (Qa BK292.out 6).trans rfl, (Qa BK292.out 7).trans rfl, (Qa BK292.out 8).trans rfl, (Qa BK293.out 0).trans rfl, (Qa BK293.out 1).trans rfl, (Qa BK293.out 2).trans rfl, (Qa BK293.out 3).trans rfl, (Qa BK293.out 4).trans rfl, (Qa BK293.out 5).trans rfl, (Qa BK293.out 6).trans rfl, (Qa BK293.out 7).trans rfl, (Qa BK293.out 8).trans rfl, (Qa BK294.out 0).trans rfl, (Qa BK294.out 1).trans rfl, (Qa BK294.out 2).trans rfl, (Qa BK294.out 3).trans rfl, (Qa BK294.out 4).trans rfl, (Qa BK294.out 5).trans rfl, (Qa BK294.out 6).trans rfl, (Qa BK295.out 0).trans rfl, (Qa BK295.out 1).trans rfl, (Qa BK295.out 2).trans rfl, (Qa BK295.out 3).trans rfl, (Qa BK295.out 4).trans rfl, (Qa BK295.out 5).trans rfl, (Qa BK295.out 6).trans rfl⟩ (fun hHeld => ?_)
 clear hK K
 refine Q4 (a' := ?_) ?_ ?_
 rotate_left
 ·show Act.put _ (some 30) _ = _
  simp only [Act.put, List.setIfInBounds_toArray, List.set_cons_zero, List.set_cons_succ, Qr, Qt]
  rfl
 refine one_ (i := 24) (N := some 35) #[true, true, true, true, true, true, true, true, true, true, true, true, true, true, true, true, true, true, true, true, true, true, true, true, true, false, false, false] rfl rfl (Q6 HT_.out (by kernel_rfl)) (by decide) (fun K hK => ?_)
 refine goes_ Try.func136 (by kernel_rfl) rfl #[.int .i64 a0_6, .int .i64 a1_6] (by rfl) rfl rfl (by (try simp only [List.map_toArray, List.map_cons, List.map_nil]); first | done | rfl | (simp only [List.length_drop, List.length_take]; rfl)) ?_
 with_reducible refine (cmp_Compare_int64.calls a0_6 a1_6 t300 _ A7.out).mono ?_
 rintro e w' ⟨rfl, ⟨nd, rfl⟩⟩
 refine ⟨_, rfl, ?_⟩
 refine hK.out _ _ ⟨(Qa BK292.out 0).trans rfl, (Qa BK292.out 1).trans rfl, (Qa BK292.out 2).trans rfl, (Qa BK292.out 3).trans rfl, (Qa BK292.out 4).trans rfl, (Qa BK292.out 5).trans rfl, (Qa BK292.out 6).trans rfl, (Qa BK292.out 7).trans rfl, (Qa BK292.out 8).trans rfl, (Qa BK293.out 0).trans rfl, (Qa BK293.out 1).trans rfl, (Qa BK293.out 2).trans rfl, (Qa BK293.out 3).trans rfl, (Qa BK293.out 4).trans rfl, (Qa BK293.out 5).trans rfl, (Qa BK293.out 6).trans rfl, (Qa BK293.out 7).trans rfl, (Qa BK293.out 8).trans rfl, (Qa BK294.out 0).trans rfl, (Qa BK294.out 1).trans rfl, (Qa BK294.out 2).trans rfl, (Qa BK294.out 3).trans rfl, (Qa BK294.out 4).trans rfl, (Qa BK294.out 5).trans rfl, (Qa BK294.out 6).trans rfl, (Qa BK295.out 0).trans rfl, (Qa BK295.out 1).trans rfl, (Qa BK295.out 2).trans rfl, (Qa BK295.out 3).trans rfl, (Qa BK295.out 4).trans rfl, (Qa BK295.out 5).trans rfl, (Qa BK295.out 6).trans rfl⟩ (fun hHeld => ?_)
 clear hK K
 refine Q4 (a' := ?_) ?_ ?_
 rotate_left
 ·show Act.put _ (some 35) _ = _
  simp only [Act.put, List.setIfInBounds_toArray, List.set_cons_zero, List.set_cons_succ, Qr, Qt]
  rfl
 refine one_ (i := 25) (N := some 36) #[true, true, true, true, true, true, true, true, true, true, true, true, true, true, true, true, true, true, true, true, true, true, true, true, true, true, false, false] rfl rfl (Q6 HT_.out (by kernel_rfl)) (by decide) (fun K hK => ?_)
 refine Kd.R_lit_step (Kd.int .i64) _ 3 ?hg (N := 36) ?hd (xs := ([t296, t297, t298, t299, t300] : List Int)) (inner := [.int .i64 t296, .int .i64 t297, .int .i64 t298, .int .i64 t299, .int .i64 t300]) (ok := fun _ => True) (okp := fun _ => True) ?hr ?hp (fun _ hk => hk) trivial (Below.refl _ _) (Nat.le_refl _) (by simp) ?_; (case hd => rfl); (case hg => rfl); (case hr => first | (go_simp; done) | (go_simp; rfl)); (case hp => exact (Reps.one (show Kd.M (Kd.int .i64) _ _ _ t296 [.int .i64 t296] from rfl) (Reps.one (show Kd.M (Kd.int .i64) _ _ _ t297 [.int .i64 t297] from rfl) (Reps.one (show Kd.M (Kd.int .i64) _ _ _ t298 [.int .i64 t298] from rfl) (Reps.one (show Kd.M (Kd.int .i64) _ _ _ t299 [.int .i64 t299] from rfl) (Reps.one (show Kd.M (Kd.int .i64) _ _ _ t300 [.int .i64 t300] from rfl) (Reps.none _ _)))))))
 intro v302 w31 ho32 hb hg_ hnew_
 clear hg_ hnew_
 (first | rw [← Ny301.out] at ho32 | (simp only [Int.reduceToNat] at ho32; rw [← Ny301.out] at ho32))
 have n0_ := Aside0.mk (Kd.R_lower ho32 (Ql (by repeat (first | (with_reducible first | exact HB.out | apply Qg | apply Qb | apply Qe | refine Qc ?_ GE292.out | refine Qc ?_ GE293.out | refine Qc ?_ GE294.out | refine Qc ?_ GE295.out) | exact HB.out))))
 have n1_ := Aside0.mk (Qm (g := gb292) (o := .cells #[.int .i64 a0_0, .bool a0_1, .int .i64 a0_2, .int .i64 a0_3, .int .i64 a0_4, .int .i64 a0_5, .int .i64 a0_6, .int .i64 a0_7, .bool a0_8] 73 (0, 0)) (by (with_reducible repeat (first | refine Qi ?_ _ | refine Qj ?_ | refine Qh ?_ _)); exact BK292.out) hb)
 have n2_ := Aside0.mk (Qm (g := gb293) (o := .cells #[.int .i64 a1_0, .bool a1_1, .int .i64 a1_2, .int .i64 a1_3, .int .i64 a1_4, .int .i64 a1_5, .int .i64 a1_6, .int .i64 a1_7, .bool a1_8] 73 (0, 0)) (by (with_reducible repeat (first | refine Qi ?_ _ | refine Qj ?_ | refine Qh ?_ _)); exact BK293.out) hb)
 have n3_ := Aside0.mk (Qm (g := gb294) (o := .cells #[.int .i64 a0_2, .int .i64 a0_3, .int .i64 a0_4, .int .i64 a0_5, .int .i64 a0_6, .int .i64 a0_7, .bool a0_8] 42 (0, 0)) (by (with_reducible repeat (first | refine Qi ?_ _ | refine Qj ?_ | refine Qh ?_ _)); exact BK294.out) hb)
 have n4_ := Aside0.mk (Qm (g := gb295) (o := .cells #[.int .i64 a1_2, .int .i64 a1_3, .int .i64 a1_4, .int .i64 a1_5, .int .i64 a1_6, .int .i64 a1_7, .bool a1_8] 42 (0, 0)) (by (with_reducible repeat (first | refine Qi ?_ _ | refine Qj ?_ | refine Qh ?_ _)); exact BK295.out) hb)
 have n5_ := Aside0.mk (Qn (by repeat (first | (with_reducible first | exact HB.out | apply Qg | apply Qb | apply Qe | refine Qc ?_ GE292.out | refine Qc ?_ GE293.out | refine Qc ?_ GE294.out | refine Qc ?_ GE295.out) | exact HB.out)) hb)
 clear BK292
 clear BK293
 clear BK294
 clear BK295
 clear HB
 have HO303 := n0_
 have BK292 := n1_
 have BK293 := n2_
 have BK294 := n3_
 have BK295 := n4_
 have HB := n5_
 clear n0_ n1_ n2_ n3_ n4_ n5_
 clear hb ho32
 obtain ⟨Ao33, co33, eo33⟩ := Kd.R_slice HO303.out
 (first | subst eo33 | (injection eo33 with f1_ f2_ f3_; have f4_ := f1_.symm; have f5_ := f3_.symm; clear f1_ f2_ f3_; subst f4_; subst f5_))
 refine hK.out _ _ ⟨(Qa BK292.out 0).trans rfl, (Qa BK292.out 1).trans rfl, (Qa BK292.out 2).trans rfl, (Qa BK292.out 3).trans rfl, (Qa BK292.out 4).trans rfl, (Qa BK292.out 5).trans rfl, (Qa BK292.out 6).trans rfl, (Qa BK292.out 7).trans rfl, (Qa BK292.out 8).trans rfl, (Qa BK293.out 0).trans rfl, (Qa BK293.out 1).trans rfl, (Qa BK293.out 2).trans rfl, (Qa BK293.out 3).trans rfl, (Qa BK293.out 4).trans rfl, (Qa BK293.out 5).trans rfl, (Qa BK293.out 6).trans rfl, (Qa BK293.out 7).trans rfl, (Qa BK293.out 8).trans rfl, (Qa BK294.out 0).trans rfl, (Qa BK294.out 1).trans rfl, (Qa BK294.out 2).trans rfl, (Qa BK294.out 3).trans rfl, (Qa BK294.out 4).trans rfl, (Qa BK294.out 5).trans rfl, (Qa BK294.out 6).trans rfl, (Qa BK295.out 0).trans rfl, (Qa BK295.out 1).trans rfl, (Qa BK295.out 2).trans rfl, (Qa BK295.out 3).trans rfl, (Qa BK295.out 4).trans rfl, (Qa BK295.out 5).trans rfl, (Qa BK295.out 6).trans rfl⟩ (fun hHeld => ?_)
 clear hK K
 refine Q4 (a' := ?_) ?_ ?_
 rotate_left
 ·show Act.put _ (some 36) _ = _
  simp only [Act.put, List.setIfInBounds_toArray, List.set_cons_zero, List.set_cons_succ, Qr, Qt]
  rfl
 refine one_ (i := 26) (N := some 37) #[true, true, true, true, true, true, true, true, true, true, true, true, true, true, true, true, true, true, true, true, true, true, true, true, true, true, true, false] rfl rfl (Q6 HT_.out (by kernel_rfl)) (by decide) (fun K hK => ?_)
 refine goes_ Try.func135 (by kernel_rfl) rfl #[.slice Ao33 y301.length co33] (by rfl) rfl rfl (by (try simp only [List.map_toArray, List.map_cons, List.map_nil]); first | done | rfl | (simp only [List.length_drop, List.length_take]; rfl)) ?_
 with_reducible refine (cmp_Or_int.calls k _ _ y301 t304 _ ?side1 ?side2 A8.out).mono ?_
 (case side1 => repeat (first | exact (Kd.R_reads' HO303.out).2.2 | (with_reducible refine Kd.C_alloc ?_ _) | (with_reducible refine Kd.C_drewN ?_ _) | (with_reducible refine Kd.C_drew ?_)))
 (case side2 => exact (Kd.R_reads' HO303.out).2.1)
 rintro e w' ⟨rfl, ⟨nd, rfl⟩⟩
 refine ⟨_, rfl, ?_⟩
 refine hK.out _ _ ⟨(Qa BK292.out 0).trans rfl, (Qa BK292.out 1).trans rfl, (Qa BK292.out 2).trans rfl, (Qa BK292.out 3).trans rfl, (Qa BK292.out 4).trans rfl, (Qa BK292.out 5).trans rfl, (Qa BK292.out 6).trans rfl, (Qa BK292.out 7).trans rfl, (Qa BK292.out 8).trans rfl, (Qa BK293.out 0).trans rfl, (Qa BK293.out 1).trans rfl, (Qa BK293.out 2).trans rfl, (Qa BK293.out 3).trans rfl, (Qa BK293.out 4).trans rfl, (Qa BK293.out 5).trans rfl, (Qa BK293.out 6).trans rfl, (Qa BK293.out 7).trans rfl, (Qa BK293.out 8).trans rfl, (Qa BK294.out 0).trans rfl, (Qa BK294.out 1).trans rfl, (Qa BK294.out 2).trans rfl, (Qa BK294.out 3).trans rfl, (Qa BK294.out 4).trans rfl, (Qa BK294.out 5).trans rfl, (Qa BK294.out 6).trans rfl, (Qa BK295.out 0).trans rfl, (Qa BK295.out 1).trans rfl, (Qa BK295.out 2).trans rfl, (Qa BK295.out 3).trans rfl, (Qa BK295.out 4).trans rfl, (Qa BK295.out 5).trans rfl, (Qa BK295.out 6).trans rfl⟩ (fun hHeld => ?_)
 clear hK K
 refine Q4 (a' := ?_) ?_ ?_
 rotate_left
 ·show Act.put _ (some 37) _ = _
  simp only [Act.put, List.setIfInBounds_toArray, List.set_cons_zero, List.set_cons_succ, Qr, Qt]
  rfl
 refine Qy (i := 27) (N := some 4) (v := ?_) (a' := ?_) #[true, true, true, true, true, true, true, true, true, true, true, true, true, true, true, true, true, true, true, true, true, true, true, true, true, true, true, true] rfl rfl (Qv HT_.out (by kernel_rfl)) (fun _ _ _ h => h) (Or.inl ⟨by rfl, ?_⟩) ?_ ?_
 rotate_left
 ·intro w'
  go_simp
  with_reducible rfl
 rotate_left
 ·simp only [Act.put, List.setIfInBounds_toArray, List.set_cons_zero, List.set_cons_succ, Qr, Qt]
  rfl
 refine done_ (done_of HT_.out (by kernel_rfl)) ?_
 try go_wp2
 go_ret
 exact ⟨by first | rfl | (simp [Qp, Qo] <;> rfl) | (simp [*, Qp, Qo] <;> rfl), by repeat (first | (with_reducible first | exact HB.out | apply Qg | apply Qb | apply Qe | refine Qc ?_ GE292.out | refine Qc ?_ GE293.out | refine Qc ?_ GE294.out | refine Qc ?_ GE295.out) | exact HB.out)⟩
end Go.Proofs.Ytmgmaflfednngaa.PFnExactRibPut
