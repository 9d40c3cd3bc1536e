-- A copy, made by trim.py (its own words shortened): not an official print.
import Derived.Test.YtmgmaflfednngaaZExactTellerRightPFnExactTellerRightx0
import Derived.Test.YtmgmaflfednngaaZExactTellerRightPFnExactTellerRightx1
namespace Go.Proofs.Ytmgmaflfednngaa.PFnExactTellerRight
open Go.RowKit Go.Proofs.YtmgmaflfednngaaW.PrintWords Go.Proofs.YtmgmaflfednngaaW.PrintLast Go.Proofs.YtmgmaflfednngaaW.PrintMore
attribute [local go_sem] max2_int min2_int max_two min_two max_three min_three max_four min_four   -- for this text's walks alone
set_option linter.unusedVariables false
set_option linter.unusedSimpArgs false
attribute [local go_sem high] eqA42
def impl_in.f (a0 : Int) (a1 : Int) (a2 : Int) : Option (Bool) := if a1 ≤ a0 then (some (decide (a0 ≤ a2))) else (some false)
set_option maxHeartbeats 8000000 in
set_option maxRecDepth 100000 in
theorem impl_in.calls (a0 : Int) (a1 : Int) (a2 : Int) (r : Bool) (w : World) (h : impl_in.f a0 a1 a2 = some r) :
  Calls Try.prog 90 #[.int .i64 a0, .int .i64 a1, .int .i64 a2] w fun e w' => e = .returned (.bool r) ∧ Drawn0 w w' := by
 have H : (if a1 ≤ a0 then (some (decide (a0 ≤ a2))) else (some false)) = some r := h
 clear h
 by_cases c4 : a1 ≤ a0
 ·rw [if_pos c4] at H
  have c4b0 : decide (a1 ≤ a0) = true := decide_eq_true c4
  clear c4
  obtain rfl := Option.some.inj H
  go_enter Try.func90, Try.ntmps90
  go_wp2
  go_ret
  exact ⟨by first | rfl | (simp; done) | (simp [*]; done), by repeat (first | exact Drawn0.refl _ | apply Drawn0.step)⟩
 ·rw [if_neg c4] at H
  have c4b0 : decide (a1 ≤ a0) = false := decide_eq_false c4
  clear c4
  obtain rfl := Option.some.inj H
  go_enter Try.func90, Try.ntmps90
  go_wp2
  go_ret
  exact ⟨by first | rfl | (simp; done) | (simp [*]; done), by repeat (first | exact Drawn0.refl _ | apply Drawn0.step)⟩
def impl_isVni.f (a0 : Int) : Option (Bool) := (impl_in.f a0 1 16777215).bind fun t229 => (some t229)
set_option maxHeartbeats 8000000 in
set_option maxRecDepth 100000 in
theorem impl_isVni.calls (a0 : Int) (r : Bool) (w : World) (h : impl_isVni.f a0 = some r) :
  Calls Try.prog 77 #[.int .i64 a0] w fun e w' => e = .returned (.bool r) ∧ Drawn0 w w' := by
 have H : ((impl_in.f a0 1 16777215).bind fun t229 => (some t229)) = some r := h
 clear h
 replace H := Option.bind_eq_some_iff.mp H
 obtain ⟨t229, A20, H⟩ := H
 replace H : (some t229) = some r := H
 have A2 := Aside0.mk A20
 clear A20
 obtain rfl := Option.some.inj H
 go_enter Try.func77, Try.ntmps77
 go_wp2_with (first | ((with_reducible refine Qq (f := 90) rfl ?_); refine Qy (some 4) rfl rfl Try.func90 (by kernel_rfl) rfl #[.int .i64 a0, .int .i64 1, .int .i64 16777215] rfl (by (try simp only [List.map_toArray, List.map_cons, List.map_nil]); first | done | rfl | (simp only [List.length_drop, List.length_take]; rfl)) ?_; (with_reducible refine (impl_in.calls a0 1 16777215 t229 _ A2.out).mono ?_); rintro e w' ⟨rfl, ⟨nd, rfl⟩⟩; refine ⟨_, rfl, ?_⟩))
 go_ret
 exact ⟨by first | rfl | (simp; done) | (simp [*]; done), by repeat (first | exact Drawn0.refl _ | apply Drawn0.step)⟩
def impl_isHouse.f (a0 : Int) : Option (Bool) := (impl_in.f a0 1 4).bind fun t230 => (some t230)
set_option maxHeartbeats 8000000 in
set_option maxRecDepth 100000 in
theorem impl_isHouse.calls (a0 : Int) (r : Bool) (w : World) (h : impl_isHouse.f a0 = some r) :
  Calls Try.prog 111 #[.int .i64 a0] w fun e w' => e = .returned (.bool r) ∧ Drawn0 w w' := by
 have H : ((impl_in.f a0 1 4).bind fun t230 => (some t230)) = some r := h
 clear h
 replace H := Option.bind_eq_some_iff.mp H
 obtain ⟨t230, A20, H⟩ := H
 replace H : (some t230) = some r := H
 have A2 := Aside0.mk A20
 clear A20
 obtain rfl := Option.some.inj H
 go_enter Try.func111, Try.ntmps111
 go_wp2_with (first | ((with_reducible refine Qq (f := 90) rfl ?_); refine Qy (some 4) rfl rfl Try.func90 (by kernel_rfl) rfl #[.int .i64 a0, .int .i64 1, .int .i64 4] rfl (by (try simp only [List.map_toArray, List.map_cons, List.map_nil]); first | done | rfl | (simp only [List.length_drop, List.length_take]; rfl)) ?_; (with_reducible refine (impl_in.calls a0 1 4 t230 _ A2.out).mono ?_); rintro e w' ⟨rfl, ⟨nd, rfl⟩⟩; refine ⟨_, rfl, ?_⟩))
 go_ret
 exact ⟨by first | rfl | (simp; done) | (simp [*]; done), by repeat (first | exact Drawn0.refl _ | apply Drawn0.step)⟩
def impl_isMac.f (a0 : Int) : Option (Bool) := (impl_in.f a0 0 281474976710655).bind fun t231 => (some t231)
set_option maxHeartbeats 8000000 in
set_option maxRecDepth 100000 in
theorem impl_isMac.calls (a0 : Int) (r : Bool) (w : World) (h : impl_isMac.f a0 = some r) :
  Calls Try.prog 137 #[.int .i64 a0] w fun e w' => e = .returned (.bool r) ∧ Drawn0 w w' := by
 have H : ((impl_in.f a0 0 281474976710655).bind fun t231 => (some t231)) = some r := h
 clear h
 replace H := Option.bind_eq_some_iff.mp H
 obtain ⟨t231, A20, H⟩ := H
 replace H : (some t231) = some r := H
 have A2 := Aside0.mk A20
 clear A20
 obtain rfl := Option.some.inj H
 go_enter Try.func137, Try.ntmps137
 go_wp2_with (first | ((with_reducible refine Qq (f := 90) rfl ?_); refine Qy (some 4) rfl rfl Try.func90 (by kernel_rfl) rfl #[.int .i64 a0, .int .i64 0, .int .i64 281474976710655] rfl (by (try simp only [List.map_toArray, List.map_cons, List.map_nil]); first | done | rfl | (simp only [List.length_drop, List.length_take]; rfl)) ?_; (with_reducible refine (impl_in.calls a0 0 281474976710655 t231 _ A2.out).mono ?_); rintro e w' ⟨rfl, ⟨nd, rfl⟩⟩; refine ⟨_, rfl, ?_⟩))
 go_ret
 exact ⟨by first | rfl | (simp; done) | (simp [*]; done), by repeat (first | exact Drawn0.refl _ | apply Drawn0.step)⟩
def impl_IsGroup.f (a0 : Int) : Option (Bool) := (impl_isMac.f a0).bind fun t232 => (if t232 = true then (some ((Go.bits .and .i64 (a0 / 1099511627776) 1) == 1)) else (some false))
set_option maxHeartbeats 8000000 in
set_option maxRecDepth 100000 in
theorem impl_IsGroup.calls (a0 : Int) (r : Bool) (w : World) (h : impl_IsGroup.f a0 = some r) :
  Calls Try.prog 138 #[.int .i64 a0] w fun e w' => e = .returned (.bool r) ∧ Drawn0 w w' := by
 have H : ((impl_isMac.f a0).bind fun t232 => (if t232 = true then (some ((Go.bits .and .i64 (a0 / 1099511627776) 1) == 1)) else (some false))) = some r := h
 clear h
 replace H := Option.bind_eq_some_iff.mp H
 obtain ⟨t232, A20, H⟩ := H
 replace H : (if t232 = true then (some ((Go.bits .and .i64 (a0 / 1099511627776) 1) == 1)) else (some false)) = some r := H
 have A2 := Aside0.mk A20
 clear A20
 by_cases c3 : t232 = true
 ·subst c3
  have H1 : (some ((Go.bits .and .i64 (a0 / 1099511627776) 1) == 1)) = some r := by rw [if_pos rfl] at H; exact H
  clear H
  have H := H1
  clear H1
  obtain rfl := Option.some.inj H
  go_enter Try.func138, Try.ntmps138
  go_wp2_with (first | ((with_reducible refine Qq (f := 137) rfl ?_); refine Qy (some 4) rfl rfl Try.func137 (by kernel_rfl) rfl #[.int .i64 a0] rfl (by (try simp only [List.map_toArray, List.map_cons, List.map_nil]); first | done | rfl | (simp only [List.length_drop, List.length_take]; rfl)) ?_; (with_reducible refine (impl_isMac.calls a0 true _ A2.out).mono ?_); rintro e w' ⟨rfl, ⟨nd, rfl⟩⟩; refine ⟨_, rfl, ?_⟩))
  go_ret
  exact ⟨by first | rfl | (simp; done) | (simp [*]; done), by repeat (first | exact Drawn0.refl _ | apply Drawn0.step)⟩
 ·replace c3 := Bool.eq_false_iff.mpr c3
  subst c3
  have H1 : (some false) = some r := by rw [if_neg (show ¬ (false = true) by decide)] at H; exact H
  clear H
  have H := H1
  clear H1
  obtain rfl := Option.some.inj H
  go_enter Try.func138, Try.ntmps138
  go_wp2_with (first | ((with_reducible refine Qq (f := 137) rfl ?_); refine Qy (some 4) rfl rfl Try.func137 (by kernel_rfl) rfl #[.int .i64 a0] rfl (by (try simp only [List.map_toArray, List.map_cons, List.map_nil]); first | done | rfl | (simp only [List.length_drop, List.length_take]; rfl)) ?_; (with_reducible refine (impl_isMac.calls a0 false _ A2.out).mono ?_); rintro e w' ⟨rfl, ⟨nd, rfl⟩⟩; refine ⟨_, rfl, ?_⟩))
  go_ret
  exact ⟨by first | rfl | (simp; done) | (simp [*]; done), by repeat (first | exact Drawn0.refl _ | apply Drawn0.step)⟩
def impl_isGuest.f (a0 : Int) : Option (Bool) := (impl_isMac.f a0).bind fun t233 => (if t233 = true then ((impl_IsGroup.f a0).bind fun t234 => (some (!t234))) else (some false))
set_option maxHeartbeats 8000000 in
set_option maxRecDepth 100000 in
theorem impl_isGuest.calls (a0 : Int) (r : Bool) (w : World) (h : impl_isGuest.f a0 = some r) :
  Calls Try.prog 112 #[.int .i64 a0] w fun e w' => e = .returned (.bool r) ∧ Drawn0 w w' := by
 have H : ((impl_isMac.f a0).bind fun t233 => (if t233 = true then ((impl_IsGroup.f a0).bind fun t234 => (some (!t234))) else (some false))) = some r := h
 clear h
 replace H := Option.bind_eq_some_iff.mp H
 obtain ⟨t233, A20, H⟩ := H
 replace H : (if t233 = true then ((impl_IsGroup.f a0).bind fun t234 => (some (!t234))) else (some false)) = some r := H
 have A2 := Aside0.mk A20
 clear A20
 by_cases c3 : t233 = true
 ·subst c3
  have H1 : ((impl_IsGroup.f a0).bind fun t234 => (some (!t234))) = some r := by rw [if_pos rfl] at H; exact H
  clear H
  have H := H1
  clear H1
  replace H := Option.bind_eq_some_iff.mp H
  obtain ⟨t234, A40, H⟩ := H
  replace H : (some (!t234)) = some r := H
  have A4 := Aside0.mk A40
  clear A40
  obtain rfl := Option.some.inj H
  go_enter Try.func112, Try.ntmps112
  go_wp2_with (first | ((with_reducible refine Qq (f := 137) rfl ?_); refine Qy (some 4) rfl rfl Try.func137 (by kernel_rfl) rfl #[.int .i64 a0] rfl (by (try simp only [List.map_toArray, List.map_cons, List.map_nil]); first | done | rfl | (simp only [List.length_drop, List.length_take]; rfl)) ?_; (with_reducible refine (impl_isMac.calls a0 true _ A2.out).mono ?_); rintro e w' ⟨rfl, ⟨nd, rfl⟩⟩; refine ⟨_, rfl, ?_⟩) | (go_at_call 138; (with_reducible refine (impl_IsGroup.calls a0 t234 _ A4.out).mono ?_); rintro e w' ⟨rfl, ⟨nd, rfl⟩⟩))
  go_ret
  exact ⟨by first | rfl | (simp; done) | (simp [*]; done), by repeat (first | exact Drawn0.refl _ | apply Drawn0.step)⟩
 ·replace c3 := Bool.eq_false_iff.mpr c3
  subst c3
  have H1 : (some false) = some r := by rw [if_neg (show ¬ (false = true) by decide)] at H; exact H
  clear H
  have H := H1
  clear H1
  obtain rfl := Option.some.inj H
  go_enter Try.func112, Try.ntmps112
  go_wp2_with (first | ((with_reducible refine Qq (f := 137) rfl ?_); refine Qy (some 4) rfl rfl Try.func137 (by kernel_rfl) rfl #[.int .i64 a0] rfl (by (try simp only [List.map_toArray, List.map_cons, List.map_nil]); first | done | rfl | (simp only [List.length_drop, List.length_take]; rfl)) ?_; (with_reducible refine (impl_isMac.calls a0 false _ A2.out).mono ?_); rintro e w' ⟨rfl, ⟨nd, rfl⟩⟩; refine ⟨_, rfl, ?_⟩))
  go_ret
  exact ⟨by first | rfl | (simp; done) | (simp [*]; done), by repeat (first | exact Drawn0.refl _ | apply Drawn0.step)⟩
def impl_isIp.f (a0 : Int) : Option (Bool) := (impl_in.f a0 0 4294967295).bind fun t235 => (some t235)
set_option maxHeartbeats 8000000 in
set_option maxRecDepth 100000 in
theorem impl_isIp.calls (a0 : Int) (r : Bool) (w : World) (h : impl_isIp.f a0 = some r) :
  Calls Try.prog 113 #[.int .i64 a0] w fun e w' => e = .returned (.bool r) ∧ Drawn0 w w' := by
 have H : ((impl_in.f a0 0 4294967295).bind fun t235 => (some t235)) = some r := h
 clear h
 replace H := Option.bind_eq_some_iff.mp H
 obtain ⟨t235, A20, H⟩ := H
 replace H : (some t235) = some r := H
 have A2 := Aside0.mk A20
 clear A20
 obtain rfl := Option.some.inj H
 go_enter Try.func113, Try.ntmps113
 go_wp2_with (first | ((with_reducible refine Qq (f := 90) rfl ?_); refine Qy (some 4) rfl rfl Try.func90 (by kernel_rfl) rfl #[.int .i64 a0, .int .i64 0, .int .i64 4294967295] rfl (by (try simp only [List.map_toArray, List.map_cons, List.map_nil]); first | done | rfl | (simp only [List.length_drop, List.length_take]; rfl)) ?_; (with_reducible refine (impl_in.calls a0 0 4294967295 t235 _ A2.out).mono ?_); rintro e w' ⟨rfl, ⟨nd, rfl⟩⟩; refine ⟨_, rfl, ?_⟩))
 go_ret
 exact ⟨by first | rfl | (simp; done) | (simp [*]; done), by repeat (first | exact Drawn0.refl _ | apply Drawn0.step)⟩
def impl_isTime.f (a0 : Int) : Option (Bool) := (impl_in.f a0 0 1000000).bind fun t236 => (some t236)
set_option maxHeartbeats 8000000 in
set_option maxRecDepth 100000 in
theorem impl_isTime.calls (a0 : Int) (r : Bool) (w : World) (h : impl_isTime.f a0 = some r) :
  Calls Try.prog 114 #[.int .i64 a0] w fun e w' => e = .returned (.bool r) ∧ Drawn0 w w' := by
 have H : ((impl_in.f a0 0 1000000).bind fun t236 => (some t236)) = some r := h
 clear h
 replace H := Option.bind_eq_some_iff.mp H
 obtain ⟨t236, A20, H⟩ := H
 replace H : (some t236) = some r := H
 have A2 := Aside0.mk A20
 clear A20
 obtain rfl := Option.some.inj H
 go_enter Try.func114, Try.ntmps114
 go_wp2_with (first | ((with_reducible refine Qq (f := 90) rfl ?_); refine Qy (some 4) rfl rfl Try.func90 (by kernel_rfl) rfl #[.int .i64 a0, .int .i64 0, .int .i64 1000000] rfl (by (try simp only [List.map_toArray, List.map_cons, List.map_nil]); first | done | rfl | (simp only [List.length_drop, List.length_take]; rfl)) ?_; (with_reducible refine (impl_in.calls a0 0 1000000 t236 _ A2.out).mono ?_); rintro e w' ⟨rfl, ⟨nd, rfl⟩⟩; refine ⟨_, rfl, ?_⟩))
 go_ret
 exact ⟨by first | rfl | (simp; done) | (simp [*]; done), by repeat (first | exact Drawn0.refl _ | apply Drawn0.step)⟩
def impl_RouteRight.j0 : Nat → Bool → Int → Int → Int → Int → Int → Int → Bool → Option (Bool)
 | 0, _, _, _, _, _, _, _, _ => none
 | k + 1, x12, x238000, x238001, x238002, x238003, x238004, x238005, x238006 => if x12 = true then (some false) else (if x238000 = 2 then ((impl_isGuest.f x238002).bind fun t240 => (if t240 = true then ((impl_isIp.f x238003).bind fun t241 => (if t241 = true then ((impl_isTime.f x238005).bind fun t242 => (some t242)) else (some false))) else (some false))) else (some (x238000 == 3 && (x238002 == 0 && (x238003 == 0 && (x238005 == 0 && (!x238006)))))))
def impl_RouteRight.f (k : Nat) (a0_0 : Int) (a0_1 : Int) (a0_2 : Int) (a0_3 : Int) (a0_4 : Int) (a0_5 : Int) (a0_6 : Bool) : Option (Bool) := (impl_isVni.f a0_1).bind fun t238 => (if t238 = true then ((impl_isHouse.f a0_4).bind fun t239 => (impl_RouteRight.j0 k (!t239) a0_0 a0_1 a0_2 a0_3 a0_4 a0_5 a0_6)) else (impl_RouteRight.j0 k true a0_0 a0_1 a0_2 a0_3 a0_4 a0_5 a0_6))
theorem impl_RouteRight.mono_l : ∀ k, (∀ y0 y1 y2 y3 y4 y5 y6 y7, LeO (impl_RouteRight.j0 k y0 y1 y2 y3 y4 y5 y6 y7) (impl_RouteRight.j0 (k + 1) y0 y1 y2 y3 y4 y5 y6 y7))
 | 0 => fun _ _ _ _ _ _ _ _ r h => by simp [impl_RouteRight.j0] at h
 | k + 1 => by
  have ih0 := impl_RouteRight.mono_l k
  ·intro y0 y1 y2 y3 y4 y5 y6 y7
   unfold impl_RouteRight.j0
   repeat' first
   | (with_reducible exact ih0 _ _ _ _ _ _ _ _)
   | (with_reducible exact LeO.refl _)
   | (with_reducible exact LeO.none _)
   | (with_reducible refine LeO.ite ?_ ?_)
   | (with_reducible refine LeO.bind ?_ (fun _ => ?_))
   | exact ih0 _ _ _ _ _ _ _ _
   | exact LeO.none _
   | refine LeO.ite ?_ ?_
   | refine LeO.bind ?_ (fun _ => ?_)
theorem impl_RouteRight.mono : ∀ a0 a1 a2 a3 a4 a5 a6 k, LeO (impl_RouteRight.f k a0 a1 a2 a3 a4 a5 a6) (impl_RouteRight.f (k + 1) a0 a1 a2 a3 a4 a5 a6) := by
 intro a0 a1 a2 a3 a4 a5 a6 k
 have ih0 := impl_RouteRight.mono_l k
 unfold impl_RouteRight.f
 repeat' first
   | (with_reducible exact ih0 _ _ _ _ _ _ _ _)
   | (with_reducible exact LeO.refl _)
   | (with_reducible exact LeO.none _)
   | (with_reducible refine LeO.ite ?_ ?_)
   | (with_reducible refine LeO.bind ?_ (fun _ => ?_))
   | exact ih0 _ _ _ _ _ _ _ _
   | exact LeO.none _
   | refine LeO.ite ?_ ?_
   | refine LeO.bind ?_ (fun _ => ?_)
set_option maxHeartbeats 8000000 in
set_option maxRecDepth 100000 in
theorem impl_RouteRight.calls (k : Nat) (a0_0 : Int) (a0_1 : Int) (a0_2 : Int) (a0_3 : Int) (a0_4 : Int) (a0_5 : Int) (a0_6 : Bool) (r : Bool) (w : World) (h : impl_RouteRight.f k a0_0 a0_1 a0_2 a0_3 a0_4 a0_5 a0_6 = some r) :
  Calls Try.prog 71 #[.agg #[.int .i64 a0_0, .int .i64 a0_1, .int .i64 a0_2, .int .i64 a0_3, .int .i64 a0_4, .int .i64 a0_5, .bool a0_6]] w fun e w' => e = .returned (.bool r) ∧ Below w.heap.size w w' := by
 have hu42 := Try.underlying42
 have HB := Aside0.mk (Below.refl w.heap.size w)
 have H : ((impl_isVni.f a0_1).bind fun t238 => (if t238 = true then ((impl_isHouse.f a0_4).bind fun t239 => (impl_RouteRight.j0 k (!t239) a0_0 a0_1 a0_2 a0_3 a0_4 a0_5 a0_6)) else (impl_RouteRight.j0 k true a0_0 a0_1 a0_2 a0_3 a0_4 a0_5 a0_6))) = some r := h
 clear h
 have HC2 := Aside0.mk H
 clear H
 go_enter Try.func71, Try.ntmps71
 go_upto_region 1 with (first | ((with_reducible refine Qw (N := 1) rfl ?_); refine Qu ?hg (N := 1) ?hd (cs := #[.int .i64 a0_0, .int .i64 a0_1, .int .i64 a0_2, .int .i64 a0_3, .int .i64 a0_4, .int .i64 a0_5, .bool a0_6]) (t := 42) ?hr ?_; (case hd => rfl); (case hg => rfl); (case hr => first | (go_simp; done) | (go_simp; rfl)); intro gb237 hg w3 hbox hb; have n0_ := Aside0.mk (Qn (by repeat (first | (with_reducible first | exact HB.out | apply Qe | apply Qc | apply Qd) | exact HB.out)) hb); have n1_ := Aside0.mk (hbox); have n2_ := Aside0.mk ((by rw [hg]; exact (Qj (by repeat (first | (with_reducible first | exact HB.out | apply Qe | apply Qc | apply Qd) | exact HB.out))) : w.heap.size ≤ gb237)); have n3_ := Aside0.mk ((by rw [hg]; exact (Qj (by repeat (first | (with_reducible first | exact HB.out | apply Qe | apply Qc | apply Qd) | exact HB.out))) : w.heap.size ≤ gb237)); clear HB; have HB := n0_; have BK237 := n1_; have GW237 := n2_; have GE237 := n3_; clear n0_ n1_ n2_ n3_; clear hb hbox hg))
 (try simp only [Act.put, List.setIfInBounds_toArray, List.set_cons_zero, List.set_cons_succ])
 go_cut [12] (fun v12 wc => ∃ (kq : Nat) (x12_1 : Bool), v12 = .bool x12_1 ∧ Aside0 (impl_RouteRight.j0 kq x12_1 a0_0 a0_1 a0_2 a0_3 a0_4 a0_5 a0_6 = some r) ∧ Aside0 (kq ≤ k) ∧ Aside0 (wc.heap[gb237]? = some (.cells #[.int .i64 a0_0, .int .i64 a0_1, .int .i64 a0_2, .int .i64 a0_3, .int .i64 a0_4, .int .i64 a0_5, .bool a0_6] 42 (0, 0))) ∧ Aside0 (Below w.heap.size w wc))
 case first =>
  have H := HC2.out
  clear HC2
  replace H := Option.bind_eq_some_iff.mp H
  obtain ⟨t238, A40, H⟩ := H
  replace H : (if t238 = true then ((impl_isHouse.f a0_4).bind fun t239 => (impl_RouteRight.j0 k (!t239) a0_0 a0_1 a0_2 a0_3 a0_4 a0_5 a0_6)) else (impl_RouteRight.j0 k true a0_0 a0_1 a0_2 a0_3 a0_4 a0_5 a0_6)) = some r := H
  have A4 := Aside0.mk A40
  clear A40
  by_cases c5 : t238 = true
  ·subst c5
   have H1 : ((impl_isHouse.f a0_4).bind fun t239 => (impl_RouteRight.j0 k (!t239) a0_0 a0_1 a0_2 a0_3 a0_4 a0_5 a0_6)) = some r := by rw [if_pos rfl] at H; exact H
   clear H
   have H := H1
   clear H1
   replace H := Option.bind_eq_some_iff.mp H
   obtain ⟨t239, A60, H⟩ := H
   replace H : (impl_RouteRight.j0 k (!t239) a0_0 a0_1 a0_2 a0_3 a0_4 a0_5 a0_6) = some r := H
   have A6 := Aside0.mk A60
   clear A60
   have H' := Aside0.mk H
   clear H
   have hcz7_0 : w3.cell? ⟨gb237, 0, none⟩ = some (.int .i64 a0_0) := (Qa BK237.out 0).trans rfl
   have hcz7_1 : w3.cell? ⟨gb237, 1, none⟩ = some (.int .i64 a0_1) := (Qa BK237.out 1).trans rfl
   have hcz7_2 : w3.cell? ⟨gb237, 2, none⟩ = some (.int .i64 a0_2) := (Qa BK237.out 2).trans rfl
   have hcz7_3 : w3.cell? ⟨gb237, 3, none⟩ = some (.int .i64 a0_3) := (Qa BK237.out 3).trans rfl
   have hcz7_4 : w3.cell? ⟨gb237, 4, none⟩ = some (.int .i64 a0_4) := (Qa BK237.out 4).trans rfl
   have hcz7_5 : w3.cell? ⟨gb237, 5, none⟩ = some (.int .i64 a0_5) := (Qa BK237.out 5).trans rfl
   have hcz7_6 : w3.cell? ⟨gb237, 6, none⟩ = some (.bool a0_6) := (Qa BK237.out 6).trans rfl
   have hfz7_0 := Qb BK237.out 0
   have hfz7_1 := Qb BK237.out 1
   have hfz7_2 := Qb BK237.out 2
   have hfz7_3 := Qb BK237.out 3
   have hfz7_4 := Qb BK237.out 4
   have hfz7_5 := Qb BK237.out 5
   have hfz7_6 := Qb BK237.out 6
   go_wp2_with (first | ((with_reducible refine Qq (f := 77) rfl ?_); refine Qy (some 5) rfl rfl Try.func77 (by kernel_rfl) rfl #[.int .i64 a0_1] rfl (by (try simp only [List.map_toArray, List.map_cons, List.map_nil]); first | done | rfl | (simp only [List.length_drop, List.length_take]; rfl)) ?_; (with_reducible refine (impl_isVni.calls a0_1 true _ A4.out).mono ?_); rintro e w' ⟨rfl, ⟨nd, rfl⟩⟩; refine ⟨_, rfl, ?_⟩) | (go_at_call 111; (with_reducible refine (impl_isHouse.calls a0_4 t239 _ A6.out).mono ?_); rintro e w' ⟨rfl, ⟨nd, rfl⟩⟩))
   go_meet
   case rel => exact ⟨_, (!t239), (by first | rfl | (simp; done) | (simp [*]; done)), H', ⟨by first | omega | exact Nat.le_refl _⟩, ⟨by (with_reducible repeat (first | refine Qg ?_ _ | refine Qi ?_ | refine Qh ?_ _)); exact BK237.out⟩, ⟨by repeat (first | (with_reducible first | exact HB.out | apply Qe | apply Qc | apply Qd | refine Qf ?_ GE237.out) | exact HB.out)⟩⟩
  ·replace c5 := Bool.eq_false_iff.mpr c5
   subst c5
   have H1 : (impl_RouteRight.j0 k true a0_0 a0_1 a0_2 a0_3 a0_4 a0_5 a0_6) = some r := by rw [if_neg (show ¬ (false = true) by decide)] at H; exact H
   clear H
   have H := H1
   clear H1
   have H' := Aside0.mk H
   clear H
   have hcz8_0 : w3.cell? ⟨gb237, 0, none⟩ = some (.int .i64 a0_0) := (Qa BK237.out 0).trans rfl
   have hcz8_1 : w3.cell? ⟨gb237, 1, none⟩ = some (.int .i64 a0_1) := (Qa BK237.out 1).trans rfl
   have hcz8_2 : w3.cell? ⟨gb237, 2, none⟩ = some (.int .i64 a0_2) := (Qa BK237.out 2).trans rfl
   have hcz8_3 : w3.cell? ⟨gb237, 3, none⟩ = some (.int .i64 a0_3) := (Qa BK237.out 3).trans rfl
   have hcz8_4 : w3.cell? ⟨gb237, 4, none⟩ = some (.int .i64 a0_4) := (Qa BK237.out 4).trans rfl
   have hcz8_5 : w3.cell? ⟨gb237, 5, none⟩ = some (.int .i64 a0_5) := (Qa BK237.out 5).trans rfl
   have hcz8_6 : w3.cell? ⟨gb237, 6, none⟩ = some (.bool a0_6) := (Qa BK237.out 6).trans rfl
   have hfz8_0 := Qb BK237.out 0
   have hfz8_1 := Qb BK237.out 1
   have hfz8_2 := Qb BK237.out 2
   have hfz8_3 := Qb BK237.out 3
   have hfz8_4 := Qb BK237.out 4
   have hfz8_5 := Qb BK237.out 5
   have hfz8_6 := Qb BK237.out 6
   go_wp2_with (first | ((with_reducible refine Qq (f := 77) rfl ?_); refine Qy (some 5) rfl rfl Try.func77 (by kernel_rfl) rfl #[.int .i64 a0_1] rfl (by (try simp only [List.map_toArray, List.map_cons, List.map_nil]); first | done | rfl | (simp only [List.length_drop, List.length_take]; rfl)) ?_; (with_reducible refine (impl_isVni.calls a0_1 false _ A4.out).mono ?_); rintro e w' ⟨rfl, ⟨nd, rfl⟩⟩; refine ⟨_, rfl, ?_⟩))
   go_meet
   case rel => exact ⟨_, (true), (by first | rfl | (simp; done) | (simp [*]; done)), H', ⟨by first | omega | exact Nat.le_refl _⟩, ⟨by (with_reducible repeat (first | refine Qg ?_ _ | refine Qi ?_ | refine Qh ?_ _)); exact BK237.out⟩, ⟨by repeat (first | (with_reducible first | exact HB.out | apply Qe | apply Qc | apply Qd | refine Qf ?_ GE237.out) | exact HB.out)⟩⟩
 case rest =>
  clear HC2
  try clear p2
  try clear c5
  try clear c7
  try clear hcz7_0
  try clear hcz7_1
  try clear hcz7_2
  try clear hcz7_3
  try clear hcz7_4
  try clear hcz7_5
  try clear hcz7_6
  try clear hcz8_0
  try clear hcz8_1
  try clear hcz8_2
  try clear hcz8_3
  try clear hcz8_4
  try clear hcz8_5
  try clear hcz8_6
  try clear hfz7_0
  try clear hfz7_1
  try clear hfz7_2
  try clear hfz7_3
  try clear hfz7_4
  try clear hfz7_5
  try clear hfz7_6
  try clear hfz8_0
  try clear hfz8_1
  try clear hfz8_2
  try clear hfz8_3
  try clear hfz8_4
  try clear hfz8_5
  try clear hfz8_6
  obtain ⟨kq, x12_1, rfl, HA, HJ1, BK237, HB⟩ := hcut
  cases kq with
  | zero => exact absurd HA.out (by simp [impl_RouteRight.j0])
  | succ kj1 =>
   have H := HA.out
   clear HA
   simp only [impl_RouteRight.j0] at H
   by_cases c9 : x12_1 = true
   ·subst c9
    have H1 : (some false) = some r := by rw [if_pos rfl] at H; exact H
    clear H
    have H := H1
    clear H1
    obtain rfl := Option.some.inj H
    go_wp2
    go_ret
    exact ⟨by first | rfl | (simp [Qm, Ql] <;> rfl) | (simp [*, Qm, Ql] <;> rfl), by repeat (first | (with_reducible first | exact HB.out | apply Qe | apply Qc | apply Qd | refine Qf ?_ GE237.out) | exact HB.out)⟩
   ·replace c9 := Bool.eq_false_iff.mpr c9
    subst c9
    have H1 : (if a0_0 = 2 then ((impl_isGuest.f a0_2).bind fun t240 => (if t240 = true then ((impl_isIp.f a0_3).bind fun t241 => (if t241 = true then ((impl_isTime.f a0_5).bind fun t242 => (some t242)) else (some false))) else (some false))) else (some (a0_0 == 3 && (a0_2 == 0 && (a0_3 == 0 && (a0_5 == 0 && (!a0_6))))))) = some r := by rw [if_neg (show ¬ (false = true) by decide)] at H; exact H
    clear H
    have H := H1
    clear H1
    by_cases c10 : a0_0 = 2
    ·rw [if_pos c10] at H
     have c10b0 : (a0_0 == 2) = true := beq_iff_eq.mpr c10
     have c10b1 : (a0_0 != 2) = false := bne_eq_false_iff_eq.mpr c10
     clear c10
     replace H := Option.bind_eq_some_iff.mp H
     obtain ⟨t240, A110, H⟩ := H
     replace H : (if t240 = true then ((impl_isIp.f a0_3).bind fun t241 => (if t241 = true then ((impl_isTime.f a0_5).bind fun t242 => (some t242)) else (some false))) else (some false)) = some r := H
     have A11 := Aside0.mk A110
     clear A110
     by_cases c12 : t240 = true
     ·subst c12
      have H1 : ((impl_isIp.f a0_3).bind fun t241 => (if t241 = true then ((impl_isTime.f a0_5).bind fun t242 => (some t242)) else (some false))) = some r := by rw [if_pos rfl] at H; exact H
      clear H
      have H := H1
      clear H1
      replace H := Option.bind_eq_some_iff.mp H
      obtain ⟨t241, A130, H⟩ := H
      replace H : (if t241 = true then ((impl_isTime.f a0_5).bind fun t242 => (some t242)) else (some false)) = some r := H
      have A13 := Aside0.mk A130
      clear A130
      by_cases c14 : t241 = true
      ·subst c14
       have H1 : ((impl_isTime.f a0_5).bind fun t242 => (some t242)) = some r := by rw [if_pos rfl] at H; exact H
       clear H
       have H := H1
       clear H1
       replace H := Option.bind_eq_some_iff.mp H
       obtain ⟨t242, A150, H⟩ := H
       replace H : (some t242) = some r := H
       have A15 := Aside0.mk A150
       clear A150
       obtain rfl := Option.some.inj H
       have hcz16_0 : wc.cell? ⟨gb237, 0, none⟩ = some (.int .i64 a0_0) := (Qa BK237.out 0).trans rfl
       have hcz16_1 : wc.cell? ⟨gb237, 1, none⟩ = some (.int .i64 a0_1) := (Qa BK237.out 1).trans rfl
       have hcz16_2 : wc.cell? ⟨gb237, 2, none⟩ = some (.int .i64 a0_2) := (Qa BK237.out 2).trans rfl
       have hcz16_3 : wc.cell? ⟨gb237, 3, none⟩ = some (.int .i64 a0_3) := (Qa BK237.out 3).trans rfl
       have hcz16_4 : wc.cell? ⟨gb237, 4, none⟩ = some (.int .i64 a0_4) := (Qa BK237.out 4).trans rfl
       have hcz16_5 : wc.cell? ⟨gb237, 5, none⟩ = some (.int .i64 a0_5) := (Qa BK237.out 5).trans rfl
       have hcz16_6 : wc.cell? ⟨gb237, 6, none⟩ = some (.bool a0_6) := (Qa BK237.out 6).trans rfl
       have hfz16_0 := Qb BK237.out 0
       have hfz16_1 := Qb BK237.out 1
       have hfz16_2 := Qb BK237.out 2
       have hfz16_3 := Qb BK237.out 3
       have hfz16_4 := Qb BK237.out 4
       have hfz16_5 := Qb BK237.out 5
       have hfz16_6 := Qb BK237.out 6
       go_wp2_with (first | ((with_reducible refine Qq (f := 112) rfl ?_); refine Qy (some 18) rfl rfl Try.func112 (by kernel_rfl) rfl #[.int .i64 a0_2] rfl (by (try simp only [List.map_toArray, List.map_cons, List.map_nil]); first | done | rfl | (simp only [List.length_drop, List.length_take]; rfl)) ?_; (with_reducible refine (impl_isGuest.calls a0_2 true _ A11.out).mono ?_); rintro e w' ⟨rfl, ⟨nd, rfl⟩⟩; refine ⟨_, rfl, ?_⟩) | (go_at_call 113; (with_reducible refine (impl_isIp.calls a0_3 true _ A13.out).mono ?_); rintro e w' ⟨rfl, ⟨nd, rfl⟩⟩) | (go_at_call 114; (with_reducible refine (impl_isTime.calls a0_5 t242 _ A15.out).mono ?_); rintro e w' ⟨rfl, ⟨nd, rfl⟩⟩))
       go_ret
       exact ⟨by first | rfl | (simp [Qm, Ql] <;> rfl) | (simp [*, Qm, Ql] <;> rfl), by repeat (first | (with_reducible first | exact HB.out | apply Qe | apply Qc | apply Qd | refine Qf ?_ GE237.out) | exact HB.out)⟩
      ·replace c14 := Bool.eq_false_iff.mpr c14
       subst c14
       have H1 : (some false) = some r := by rw [if_neg (show ¬ (false = true) by decide)] at H; exact H
       clear H
       have H := H1
       clear H1
       obtain rfl := Option.some.inj H
       have hcz17_0 : wc.cell? ⟨gb237, 0, none⟩ = some (.int .i64 a0_0) := (Qa BK237.out 0).trans rfl
       have hcz17_1 : wc.cell? ⟨gb237, 1, none⟩ = some (.int .i64 a0_1) := (Qa BK237.out 1).trans rfl
       have hcz17_2 : wc.cell? ⟨gb237, 2, none⟩ = some (.int .i64 a0_2) := (Qa BK237.out 2).trans rfl
       have hcz17_3 : wc.cell? ⟨gb237, 3, none⟩ = some (.int .i64 a0_3) := (Qa BK237.out 3).trans rfl
       have hcz17_4 : wc.cell? ⟨gb237, 4, none⟩ = some (.int .i64 a0_4) := (Qa BK237.out 4).trans rfl
       have hcz17_5 : wc.cell? ⟨gb237, 5, none⟩ = some (.int .i64 a0_5) := (Qa BK237.out 5).trans rfl
       have hcz17_6 : wc.cell? ⟨gb237, 6, none⟩ = some (.bool a0_6) := (Qa BK237.out 6).trans rfl
       have hfz17_0 := Qb BK237.out 0
       have hfz17_1 := Qb BK237.out 1
       have hfz17_2 := Qb BK237.out 2
       have hfz17_3 := Qb BK237.out 3
       have hfz17_4 := Qb BK237.out 4
       have hfz17_5 := Qb BK237.out 5
       have hfz17_6 := Qb BK237.out 6
       go_wp2_with (first | ((with_reducible refine Qq (f := 112) rfl ?_); refine Qy (some 18) rfl rfl Try.func112 (by kernel_rfl) rfl #[.int .i64 a0_2] rfl (by (try simp only [List.map_toArray, List.map_cons, List.map_nil]); first | done | rfl | (simp only [List.length_drop, List.length_take]; rfl)) ?_; (with_reducible refine (impl_isGuest.calls a0_2 true _ A11.out).mono ?_); rintro e w' ⟨rfl, ⟨nd, rfl⟩⟩; refine ⟨_, rfl, ?_⟩) | (go_at_call 113; (with_reducible refine (impl_isIp.calls a0_3 false _ A13.out).mono ?_); rintro e w' ⟨rfl, ⟨nd, rfl⟩⟩))
       go_ret
       exact ⟨by first | rfl | (simp [Qm, Ql] <;> rfl) | (simp [*, Qm, Ql] <;> rfl), by repeat (first | (with_reducible first | exact HB.out | apply Qe | apply Qc | apply Qd | refine Qf ?_ GE237.out) | exact HB.out)⟩
     ·replace c12 := Bool.eq_false_iff.mpr c12
      subst c12
      have H1 : (some false) = some r := by rw [if_neg (show ¬ (false = true) by decide)] at H; exact H
      clear H
      have H := H1
      clear H1
      obtain rfl := Option.some.inj H
      have hcz18_0 : wc.cell? ⟨gb237, 0, none⟩ = some (.int .i64 a0_0) := (Qa BK237.out 0).trans rfl
      have hcz18_1 : wc.cell? ⟨gb237, 1, none⟩ = some (.int .i64 a0_1) := (Qa BK237.out 1).trans rfl
      have hcz18_2 : wc.cell? ⟨gb237, 2, none⟩ = some (.int .i64 a0_2) := (Qa BK237.out 2).trans rfl
      have hcz18_3 : wc.cell? ⟨gb237, 3, none⟩ = some (.int .i64 a0_3) := (Qa BK237.out 3).trans rfl
      have hcz18_4 : wc.cell? ⟨gb237, 4, none⟩ = some (.int .i64 a0_4) := (Qa BK237.out 4).trans rfl
      have hcz18_5 : wc.cell? ⟨gb237, 5, none⟩ = some (.int .i64 a0_5) := (Qa BK237.out 5).trans rfl
      have hcz18_6 : wc.cell? ⟨gb237, 6, none⟩ = some (.bool a0_6) := (Qa BK237.out 6).trans rfl
      have hfz18_0 := Qb BK237.out 0
      have hfz18_1 := Qb BK237.out 1
      have hfz18_2 := Qb BK237.out 2
      have hfz18_3 := Qb BK237.out 3
      have hfz18_4 := Qb BK237.out 4
      have hfz18_5 := Qb BK237.out 5
      have hfz18_6 := Qb BK237.out 6
      go_wp2_with (first | ((with_reducible refine Qq (f := 112) rfl ?_); refine Qy (some 18) rfl rfl Try.func112 (by kernel_rfl) rfl #[.int .i64 a0_2] rfl (by (try simp only [List.map_toArray, List.map_cons, List.map_nil]); first | done | rfl | (simp only [List.length_drop, List.length_take]; rfl)) ?_; (with_reducible refine (impl_isGuest.calls a0_2 false _ A11.out).mono ?_); rintro e w' ⟨rfl, ⟨nd, rfl⟩⟩; refine ⟨_, rfl, ?_⟩))
      go_ret
      exact ⟨by first | rfl | (simp [Qm, Ql] <;> rfl) | (simp [*, Qm, Ql] <;> rfl), by repeat (first | (with_reducible first | exact HB.out | apply Qe | apply Qc | apply Qd | refine Qf ?_ GE237.out) | exact HB.out)⟩
    ·rw [if_neg c10] at H
     have c10b0 : (a0_0 == 2) = false := beq_eq_false_iff_ne.mpr c10
     have c10b1 : (a0_0 != 2) = true := bne_iff_ne.mpr c10
     obtain rfl := Option.some.inj H
     have hcz19_0 : wc.cell? ⟨gb237, 0, none⟩ = some (.int .i64 a0_0) := (Qa BK237.out 0).trans rfl
     have hcz19_1 : wc.cell? ⟨gb237, 1, none⟩ = some (.int .i64 a0_1) := (Qa BK237.out 1).trans rfl
     have hcz19_2 : wc.cell? ⟨gb237, 2, none⟩ = some (.int .i64 a0_2) := (Qa BK237.out 2).trans rfl
     have hcz19_3 : wc.cell? ⟨gb237, 3, none⟩ = some (.int .i64 a0_3) := (Qa BK237.out 3).trans rfl
     have hcz19_4 : wc.cell? ⟨gb237, 4, none⟩ = some (.int .i64 a0_4) := (Qa BK237.out 4).trans rfl
     have hcz19_5 : wc.cell? ⟨gb237, 5, none⟩ = some (.int .i64 a0_5) := (Qa BK237.out 5).trans rfl
     have hcz19_6 : wc.cell? ⟨gb237, 6, none⟩ = some (.bool a0_6) := (Qa BK237.out 6).trans rfl
     have hfz19_0 := Qb BK237.out 0
     have hfz19_1 := Qb BK237.out 1
     have hfz19_2 := Qb BK237.out 2
     have hfz19_3 := Qb BK237.out 3
     have hfz19_4 := Qb BK237.out 4
     have hfz19_5 := Qb BK237.out 5
     have hfz19_6 := Qb BK237.out 6
     go_wp2
     go_ret
     exact ⟨by first | rfl | (simp [Qm, Ql] <;> rfl) | (simp [*, Qm, Ql] <;> rfl), by repeat (first | (with_reducible first | exact HB.out | apply Qe | apply Qc | apply Qd | refine Qf ?_ GE237.out) | exact HB.out)⟩
def impl_isPeer.f (a0 : Int) : Option (Bool) := (impl_in.f a0 1 9).bind fun t243 => (some t243)
set_option maxHeartbeats 8000000 in
set_option maxRecDepth 100000 in
theorem impl_isPeer.calls (a0 : Int) (r : Bool) (w : World) (h : impl_isPeer.f a0 = some r) :
  Calls Try.prog 102 #[.int .i64 a0] w fun e w' => e = .returned (.bool r) ∧ Drawn0 w w' := by
 have H : ((impl_in.f a0 1 9).bind fun t243 => (some t243)) = some r := h
 clear h
 replace H := Option.bind_eq_some_iff.mp H
 obtain ⟨t243, A20, H⟩ := H
 replace H : (some t243) = some r := H
 have A2 := Aside0.mk A20
 clear A20
 obtain rfl := Option.some.inj H
 go_enter Try.func102, Try.ntmps102
 go_wp2_with (first | ((with_reducible refine Qq (f := 90) rfl ?_); refine Qy (some 4) rfl rfl Try.func90 (by kernel_rfl) rfl #[.int .i64 a0, .int .i64 1, .int .i64 9] rfl (by (try simp only [List.map_toArray, List.map_cons, List.map_nil]); first | done | rfl | (simp only [List.length_drop, List.length_take]; rfl)) ?_; (with_reducible refine (impl_in.calls a0 1 9 t243 _ A2.out).mono ?_); rintro e w' ⟨rfl, ⟨nd, rfl⟩⟩; refine ⟨_, rfl, ?_⟩))
 go_ret
 exact ⟨by first | rfl | (simp; done) | (simp [*]; done), by repeat (first | exact Drawn0.refl _ | apply Drawn0.step)⟩
def cmp_Or_int.l0 : Nat → Int → List Int → Int → Int → Option (Int)
 | 0, _, _, _, _ => none
 | k + 1, x3, x6, x7, x8 => if x8 < x7 then (if 0 ≤ x8 then (if x8 < (x6.length : Int) then (if (rd x6 x8) = x3 then (cmp_Or_int.l0 k x3 x6 x7 (wrap64 (x8 + 1))) else (some (rd x6 x8))) else (none)) else (none)) else (some x3)
def cmp_Or_int.f (k : Nat) (l0 : List Int) : Option (Int) := cmp_Or_int.l0 k 0 l0 (l0.length : Int) 0
theorem cmp_Or_int.mono_l : ∀ k, (∀ y0 y1 y2 y3, LeO (cmp_Or_int.l0 k y0 y1 y2 y3) (cmp_Or_int.l0 (k + 1) y0 y1 y2 y3))
 | 0 => fun _ _ _ _ r h => by simp [cmp_Or_int.l0] at h
 | k + 1 => by
  have ih0 := cmp_Or_int.mono_l k
  ·intro y0 y1 y2 y3
   unfold cmp_Or_int.l0
   repeat' first
   | (with_reducible exact ih0 _ _ _ _)
   | (with_reducible exact LeO.refl _)
   | (with_reducible exact LeO.none _)
   | (with_reducible refine LeO.ite ?_ ?_)
   | (with_reducible refine LeO.bind ?_ (fun _ => ?_))
   | exact ih0 _ _ _ _
   | exact LeO.none _
   | refine LeO.ite ?_ ?_
   | refine LeO.bind ?_ (fun _ => ?_)
theorem cmp_Or_int.mono : ∀ a0 k, LeO (cmp_Or_int.f k a0) (cmp_Or_int.f (k + 1) a0) := by
 intro a0 k
 have ih0 := cmp_Or_int.mono_l k
 unfold cmp_Or_int.f
 repeat' first
   | (with_reducible exact ih0 _ _ _ _)
   | (with_reducible exact LeO.refl _)
   | (with_reducible exact LeO.none _)
   | (with_reducible refine LeO.ite ?_ ?_)
   | (with_reducible refine LeO.bind ?_ (fun _ => ?_))
   | exact ih0 _ _ _ _
   | exact LeO.none _
   | refine LeO.ite ?_ ?_
   | refine LeO.bind ?_ (fun _ => ?_)
set_option maxHeartbeats 8000000 in
set_option maxRecDepth 100000 in
theorem cmp_Or_int.calls (k : Nat) (A0 : Option Addr) (c0 : Nat) (l0 : List Int) (r : Int) (w : World) (hr0 : Kd.C (Kd.int .i64) w A0 l0.length l0) (hc0 : l0.length ≤ c0) (h : cmp_Or_int.f k l0 = some r) :
  Calls Try.prog 135 #[.slice A0 l0.length c0] w fun e w' => e = .returned (.int .i64 r) ∧ Drawn0 w w' := by
 have HR0 := Aside0.mk hr0
 have HC0 := Aside0.mk hc0
 clear hr0 hc0
 have H : (cmp_Or_int.l0 k 0 l0 (l0.length : Int) 0) = some r := h
 clear h
 have H' := Aside0.mk H
 clear H
 go_enter Try.func135, Try.ntmps135
 go_wp2
 go_loopg [8] k (fun kq v8 w' => ∃ (x8_1 : Int), v8 = .int .i64 x8_1 ∧ Aside0 (cmp_Or_int.l0 kq 0 l0 (l0.length : Int) x8_1 = some r) ∧ Aside0 (kq ≤ k) ∧ Drawn0 w w')
 case atStart => exact ⟨(0), (by first | rfl | (simp; done) | (simp [*]; done)), H', ⟨Nat.le_refl _⟩, by repeat (first | exact Drawn0.refl _ | apply Drawn0.step)⟩
 case round =>
  clear H'
  try clear c1
  obtain ⟨x8_1, rfl, HA, HK1, ⟨m1, rfl⟩⟩ := hrel
  cases gk with
  | zero => exact absurd HA.out (by simp [cmp_Or_int.l0])
  | succ k1 =>
   have H := HA.out
   clear HA
   simp only [cmp_Or_int.l0] at H
   by_cases c2 : x8_1 < (l0.length : Int)
   ·rw [if_pos c2] at H
    have c2b0 : decide (x8_1 < (l0.length : Int)) = true := decide_eq_true c2
    clear c2
    by_cases c3 : 0 ≤ x8_1
    ·rw [if_pos c3] at H
     have c3b0 : decide (0 ≤ x8_1) = true := decide_eq_true c3
     clear c3
     by_cases c4 : x8_1 < (l0.length : Int)
     ·rw [if_pos c4] at H
      have c4b0 : decide (x8_1 < (l0.length : Int)) = true := decide_eq_true c4
      clear c4
      by_cases c5 : (rd l0 x8_1) = 0
      ·rw [if_pos c5] at H
       have c5b0 : ((rd l0 x8_1) == 0) = true := beq_iff_eq.mpr c5
       have c5b1 : ((rd l0 x8_1) != 0) = false := bne_eq_false_iff_eq.mpr c5
       clear c5
       have H' := Aside0.mk H
       clear H
       have p244 : 0 ≤ (x8_1 : Int) := of_decide_eq_true (by assumption)
       have q244 : x8_1 < (l0.length : Int) := of_decide_eq_true (by assumption)
       obtain ⟨ad244, e244, hx244_0⟩ := Kd.at_int HR0.out x8_1 p244 q244
       cases e244
       replace p244 := eq_true p244
       replace q244 := eq_true q244
       go_wp2
       go_roundg k1
       case measure => have := HK1.out; omega
       case rel => exact ⟨(wrap64 (x8_1 + 1)), (by first | rfl | (simp; done) | (simp [*]; done)), H', ⟨by have := HK1.out; omega⟩, by repeat (first | exact Drawn0.refl _ | apply Drawn0.step)⟩
      ·rw [if_neg c5] at H
       have c5b0 : ((rd l0 x8_1) == 0) = false := beq_eq_false_iff_ne.mpr c5
       have c5b1 : ((rd l0 x8_1) != 0) = true := bne_iff_ne.mpr c5
       obtain rfl := Option.some.inj H
       have p244 : 0 ≤ (x8_1 : Int) := of_decide_eq_true (by assumption)
       have q244 : x8_1 < (l0.length : Int) := of_decide_eq_true (by assumption)
       obtain ⟨ad244, e244, hx244_0⟩ := Kd.at_int HR0.out x8_1 p244 q244
       cases e244
       replace p244 := eq_true p244
       replace q244 := eq_true q244
       go_wp2
       go_ret
       exact ⟨by first | rfl | (simp; done) | (simp [*]; done), by repeat (first | exact Drawn0.refl _ | apply Drawn0.step)⟩
     ·rw [if_neg c4] at H
      exact absurd H (by simp)
    ·rw [if_neg c3] at H
     exact absurd H (by simp)
   ·rw [if_neg c2] at H
    have c2b0 : decide (x8_1 < (l0.length : Int)) = false := decide_eq_false c2
    clear c2
    obtain rfl := Option.some.inj H
    go_wp2
    go_ret
    exact ⟨by first | rfl | (simp; done) | (simp [*]; done), by repeat (first | exact Drawn0.refl _ | apply Drawn0.step)⟩
def cmp_isNaN_int64.f (a0 : Int) : Option (Bool) := some (a0 != a0)
set_option maxHeartbeats 8000000 in
set_option maxRecDepth 100000 in
theorem cmp_isNaN_int64.calls (a0 : Int) (r : Bool) (w : World) (h : cmp_isNaN_int64.f a0 = some r) :
  Calls Try.prog 161 #[.int .i64 a0] w fun e w' => e = .returned (.bool r) ∧ Drawn0 w w' := by
 have H : (some (a0 != a0)) = some r := h
 clear h
 obtain rfl := Option.some.inj H
 go_enter Try.func161, Try.ntmps161
 go_wp2
 go_ret
 exact ⟨by first | rfl | (simp; done) | (simp [*]; done), by repeat (first | exact Drawn0.refl _ | apply Drawn0.step)⟩
def cmp_Compare_int64.f (a0 : Int) (a1 : Int) : Option (Int) := (cmp_isNaN_int64.f a0).bind fun t245 => ((cmp_isNaN_int64.f a1).bind fun t246 => (if t245 = true then (if t246 = true then (some 0) else (some (-1))) else (if t246 = true then (some 1) else (if a0 < a1 then (some (-1)) else (if a0 > a1 then (some 1) else (some 0))))))
set_option maxHeartbeats 8000000 in
set_option maxRecDepth 100000 in
theorem cmp_Compare_int64.calls (a0 : Int) (a1 : Int) (r : Int) (w : World) (h : cmp_Compare_int64.f a0 a1 = some r) :
  Calls Try.prog 136 #[.int .i64 a0, .int .i64 a1] w fun e w' => e = .returned (.int .i64 r) ∧ Drawn0 w w' := by
 have H : ((cmp_isNaN_int64.f a0).bind fun t245 => ((cmp_isNaN_int64.f a1).bind fun t246 => (if t245 = true then (if t246 = true then (some 0) else (some (-1))) else (if t246 = true then (some 1) else (if a0 < a1 then (some (-1)) else (if a0 > a1 then (some 1) else (some 0))))))) = some r := h
 clear h
 replace H := Option.bind_eq_some_iff.mp H
 obtain ⟨t245, A30, H⟩ := H
 replace H : ((cmp_isNaN_int64.f a1).bind fun t246 => (if t245 = true then (if t246 = true then (some 0) else (some (-1))) else (if t246 = true then (some 1) else (if a0 < a1 then (some (-1)) else (if a0 > a1 then (some 1) else (some 0)))))) = some r := H
 have A3 := Aside0.mk A30
 clear A30
 replace H := Option.bind_eq_some_iff.mp H
 obtain ⟨t246, A40, H⟩ := H
 replace H : (if t245 = true then (if t246 = true then (some 0) else (some (-1))) else (if t246 = true then (some 1) else (if a0 < a1 then (some (-1)) else (if a0 > a1 then (some 1) else (some 0))))) = some r := H
 have A4 := Aside0.mk A40
 clear A40
 by_cases c5 : t245 = true
 ·subst c5
  have H1 : (if t246 = true then (some 0) else (some (-1))) = some r := by rw [if_pos rfl] at H; exact H
  clear H
  have H := H1
  clear H1
  by_cases c6 : t246 = true
  ·subst c6
   have H1 : (some 0) = some r := by rw [if_pos rfl] at H; exact H
   clear H
   have H := H1
   clear H1
   obtain rfl := Option.some.inj H
   go_enter Try.func136, Try.ntmps136
   go_wp2_with (first | ((with_reducible refine Qq (f := 161) rfl ?_); refine Qy (some 8) rfl rfl Try.func161 (by kernel_rfl) rfl #[.int .i64 a0] rfl (by (try simp only [List.map_toArray, List.map_cons, List.map_nil]); first | done | rfl | (simp only [List.length_drop, List.length_take]; rfl)) ?_; (with_reducible refine (cmp_isNaN_int64.calls a0 true _ A3.out).mono ?_); rintro e w' ⟨rfl, ⟨nd, rfl⟩⟩; refine ⟨_, rfl, ?_⟩) | ((with_reducible refine Qq (f := 161) rfl ?_); refine Qy (some 10) rfl rfl Try.func161 (by kernel_rfl) rfl #[.int .i64 a1] rfl (by (try simp only [List.map_toArray, List.map_cons, List.map_nil]); first | done | rfl | (simp only [List.length_drop, List.length_take]; rfl)) ?_; (with_reducible refine (cmp_isNaN_int64.calls a1 true _ A4.out).mono ?_); rintro e w' ⟨rfl, ⟨nd, rfl⟩⟩; refine ⟨_, rfl, ?_⟩))
   go_ret
   exact ⟨by first | rfl | (simp; done) | (simp [*]; done), by repeat (first | exact Drawn0.refl _ | apply Drawn0.step)⟩
  ·replace c6 := Bool.eq_false_iff.mpr c6
   subst c6
   have H1 : (some (-1)) = some r := by rw [if_neg (show ¬ (false = true) by decide)] at H; exact H
   clear H
   have H := H1
   clear H1
   obtain rfl := Option.some.inj H
   go_enter Try.func136, Try.ntmps136
   go_wp2_with (first | ((with_reducible refine Qq (f := 161) rfl ?_); refine Qy (some 8) rfl rfl Try.func161 (by kernel_rfl) rfl #[.int .i64 a0] rfl (by (try simp only [List.map_toArray, List.map_cons, List.map_nil]); first | done | rfl | (simp only [List.length_drop, List.length_take]; rfl)) ?_; (with_reducible refine (cmp_isNaN_int64.calls a0 true _ A3.out).mono ?_); rintro e w' ⟨rfl, ⟨nd, rfl⟩⟩; refine ⟨_, rfl, ?_⟩) | ((with_reducible refine Qq (f := 161) rfl ?_); refine Qy (some 10) rfl rfl Try.func161 (by kernel_rfl) rfl #[.int .i64 a1] rfl (by (try simp only [List.map_toArray, List.map_cons, List.map_nil]); first | done | rfl | (simp only [List.length_drop, List.length_take]; rfl)) ?_; (with_reducible refine (cmp_isNaN_int64.calls a1 false _ A4.out).mono ?_); rintro e w' ⟨rfl, ⟨nd, rfl⟩⟩; refine ⟨_, rfl, ?_⟩))
   go_ret
   exact ⟨by first | rfl | (simp; done) | (simp [*]; done), by repeat (first | exact Drawn0.refl _ | apply Drawn0.step)⟩
 ·replace c5 := Bool.eq_false_iff.mpr c5
  subst c5
  have H1 : (if t246 = true then (some 1) else (if a0 < a1 then (some (-1)) else (if a0 > a1 then (some 1) else (some 0)))) = some r := by rw [if_neg (show ¬ (false = true) by decide)] at H; exact H
  clear H
  have H := H1
  clear H1
  by_cases c7 : t246 = true
  ·subst c7
   have H1 : (some 1) = some r := by rw [if_pos rfl] at H; exact H
   clear H
   have H := H1
   clear H1
   obtain rfl := Option.some.inj H
   go_enter Try.func136, Try.ntmps136
   go_wp2_with (first | ((with_reducible refine Qq (f := 161) rfl ?_); refine Qy (some 8) rfl rfl Try.func161 (by kernel_rfl) rfl #[.int .i64 a0] rfl (by (try simp only [List.map_toArray, List.map_cons, List.map_nil]); first | done | rfl | (simp only [List.length_drop, List.length_take]; rfl)) ?_; (with_reducible refine (cmp_isNaN_int64.calls a0 false _ A3.out).mono ?_); rintro e w' ⟨rfl, ⟨nd, rfl⟩⟩; refine ⟨_, rfl, ?_⟩) | ((with_reducible refine Qq (f := 161) rfl ?_); refine Qy (some 10) rfl rfl Try.func161 (by kernel_rfl) rfl #[.int .i64 a1] rfl (by (try simp only [List.map_toArray, List.map_cons, List.map_nil]); first | done | rfl | (simp only [List.length_drop, List.length_take]; rfl)) ?_; (with_reducible refine (cmp_isNaN_int64.calls a1 true _ A4.out).mono ?_); rintro e w' ⟨rfl, ⟨nd, rfl⟩⟩; refine ⟨_, rfl, ?_⟩))
   go_ret
   exact ⟨by first | rfl | (simp; done) | (simp [*]; done), by repeat (first | exact Drawn0.refl _ | apply Drawn0.step)⟩
  ·replace c7 := Bool.eq_false_iff.mpr c7
   subst c7
   have H1 : (if a0 < a1 then (some (-1)) else (if a0 > a1 then (some 1) else (some 0))) = some r := by rw [if_neg (show ¬ (false = true) by decide)] at H; exact H
   clear H
   have H := H1
   clear H1
   by_cases c8 : a0 < a1
   ·rw [if_pos c8] at H
    have c8b0 : decide (a0 < a1) = true := decide_eq_true c8
    clear c8
    obtain rfl := Option.some.inj H
    go_enter Try.func136, Try.ntmps136
    go_wp2_with (first | ((with_reducible refine Qq (f := 161) rfl ?_); refine Qy (some 8) rfl rfl Try.func161 (by kernel_rfl) rfl #[.int .i64 a0] rfl (by (try simp only [List.map_toArray, List.map_cons, List.map_nil]); first | done | rfl | (simp only [List.length_drop, List.length_take]; rfl)) ?_; (with_reducible refine (cmp_isNaN_int64.calls a0 false _ A3.out).mono ?_); rintro e w' ⟨rfl, ⟨nd, rfl⟩⟩; refine ⟨_, rfl, ?_⟩) | ((with_reducible refine Qq (f := 161) rfl ?_); refine Qy (some 10) rfl rfl Try.func161 (by kernel_rfl) rfl #[.int .i64 a1] rfl (by (try simp only [List.map_toArray, List.map_cons, List.map_nil]); first | done | rfl | (simp only [List.length_drop, List.length_take]; rfl)) ?_; (with_reducible refine (cmp_isNaN_int64.calls a1 false _ A4.out).mono ?_); rintro e w' ⟨rfl, ⟨nd, rfl⟩⟩; refine ⟨_, rfl, ?_⟩))
    go_ret
    exact ⟨by first | rfl | (simp; done) | (simp [*]; done), by repeat (first | exact Drawn0.refl _ | apply Drawn0.step)⟩
   ·rw [if_neg c8] at H
    have c8b0 : decide (a0 < a1) = false := decide_eq_false c8
    clear c8
    by_cases c9 : a0 > a1
    ·rw [if_pos c9] at H
     have c9b0 : decide (a1 < a0) = true := decide_eq_true c9
     clear c9
     obtain rfl := Option.some.inj H
     go_enter Try.func136, Try.ntmps136
     go_wp2_with (first | ((with_reducible refine Qq (f := 161) rfl ?_); refine Qy (some 8) rfl rfl Try.func161 (by kernel_rfl) rfl #[.int .i64 a0] rfl (by (try simp only [List.map_toArray, List.map_cons, List.map_nil]); first | done | rfl | (simp only [List.length_drop, List.length_take]; rfl)) ?_; (with_reducible refine (cmp_isNaN_int64.calls a0 false _ A3.out).mono ?_); rintro e w' ⟨rfl, ⟨nd, rfl⟩⟩; refine ⟨_, rfl, ?_⟩) | ((with_reducible refine Qq (f := 161) rfl ?_); refine Qy (some 10) rfl rfl Try.func161 (by kernel_rfl) rfl #[.int .i64 a1] rfl (by (try simp only [List.map_toArray, List.map_cons, List.map_nil]); first | done | rfl | (simp only [List.length_drop, List.length_take]; rfl)) ?_; (with_reducible refine (cmp_isNaN_int64.calls a1 false _ A4.out).mono ?_); rintro e w' ⟨rfl, ⟨nd, rfl⟩⟩; refine ⟨_, rfl, ?_⟩))
     go_ret
     exact ⟨by first | rfl | (simp; done) | (simp [*]; done), by repeat (first | exact Drawn0.refl _ | apply Drawn0.step)⟩
    ·rw [if_neg c9] at H
     have c9b0 : decide (a1 < a0) = false := decide_eq_false c9
     clear c9
     obtain rfl := Option.some.inj H
     go_enter Try.func136, Try.ntmps136
     go_wp2_with (first | ((with_reducible refine Qq (f := 161) rfl ?_); refine Qy (some 8) rfl rfl Try.func161 (by kernel_rfl) rfl #[.int .i64 a0] rfl (by (try simp only [List.map_toArray, List.map_cons, List.map_nil]); first | done | rfl | (simp only [List.length_drop, List.length_take]; rfl)) ?_; (with_reducible refine (cmp_isNaN_int64.calls a0 false _ A3.out).mono ?_); rintro e w' ⟨rfl, ⟨nd, rfl⟩⟩; refine ⟨_, rfl, ?_⟩) | ((with_reducible refine Qq (f := 161) rfl ?_); refine Qy (some 10) rfl rfl Try.func161 (by kernel_rfl) rfl #[.int .i64 a1] rfl (by (try simp only [List.map_toArray, List.map_cons, List.map_nil]); first | done | rfl | (simp only [List.length_drop, List.length_take]; rfl)) ?_; (with_reducible refine (cmp_isNaN_int64.calls a1 false _ A4.out).mono ?_); rintro e w' ⟨rfl, ⟨nd, rfl⟩⟩; refine ⟨_, rfl, ?_⟩))
     go_ret
     exact ⟨by first | rfl | (simp; done) | (simp [*]; done), by repeat (first | exact Drawn0.refl _ | apply Drawn0.step)⟩
end Go.Proofs.Ytmgmaflfednngaa.PFnExactTellerRight
