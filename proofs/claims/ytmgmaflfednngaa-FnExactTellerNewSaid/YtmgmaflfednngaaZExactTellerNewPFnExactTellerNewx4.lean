-- A copy, made by trim.py (its own words shortened): not an official print.
import Derived.Test.YtmgmaflfednngaaZExactTellerNewPFnExactTellerNewx0
import Derived.Test.YtmgmaflfednngaaZExactTellerNewPFnExactTellerNewx3
import Derived.Test.YtmgmaflfednngaaZExactTellerNewSlices
namespace Go.Proofs.Ytmgmaflfednngaa.PFnExactTellerNew
open Go.RowKit Go.Proofs.YtmgmaflfednngaaW.PrintWords Go.Proofs.YtmgmaflfednngaaW.PrintLast Go.Proofs.YtmgmaflfednngaaW.PrintMore
attribute [local go_sem] max2_int min2_int max_two min_two max_three min_three max_four min_four   -- for this text's walks alone
set_option linter.unusedVariables false
set_option linter.unusedSimpArgs false
def impl_Held_order.f (k : Nat) (a0_0 : Int) (a0_1 : Bool) (a0_2 : Int) (a0_3 : Int) (a0_4 : Int) (a0_5 : Int) (a0_6 : Int) (a0_7 : Int) (a0_8 : Bool) (a1_0 : Int) (a1_1 : Bool) (a1_2 : Int) (a1_3 : Int) (a1_4 : Int) (a1_5 : Int) (a1_6 : Int) (a1_7 : Int) (a1_8 : Bool) : Option (Int) := (cmp_Compare_int64.f a0_0 a1_0).bind fun t142 => ((cmp_Compare_int64.f a0_2 a1_2).bind fun t143 => ((cmp_Compare_int64.f a0_3 a1_3).bind fun t144 => ((cmp_Compare_int64.f a0_4 a1_4).bind fun t145 => ((cmp_Compare_int64.f a0_6 a1_6).bind fun t146 => ((cmp_Or_int.f k (([t142, t143, t144, t145, t146] : List Int))).bind fun t150 => (some t150))))))
theorem impl_Held_order.mono : ∀ a0 a1 a2 a3 a4 a5 a6 a7 a8 a9 a10 a11 a12 a13 a14 a15 a16 a17 k, LeO (impl_Held_order.f k a0 a1 a2 a3 a4 a5 a6 a7 a8 a9 a10 a11 a12 a13 a14 a15 a16 a17) (impl_Held_order.f (k + 1) a0 a1 a2 a3 a4 a5 a6 a7 a8 a9 a10 a11 a12 a13 a14 a15 a16 a17) := by
 intro a0 a1 a2 a3 a4 a5 a6 a7 a8 a9 a10 a11 a12 a13 a14 a15 a16 a17 k
 unfold impl_Held_order.f
 repeat' first
   | (with_reducible exact cmp_Or_int.mono _ _)
   | (with_reducible exact LeO.refl _)
   | (with_reducible exact LeO.none _)
   | (with_reducible refine LeO.ite ?_ ?_)
   | (with_reducible refine LeO.bind ?_ (fun _ => ?_))
   | exact cmp_Or_int.mono _ _
   | exact LeO.none _
   | refine LeO.ite ?_ ?_
   | refine LeO.bind ?_ (fun _ => ?_)
def impl_Held_order.T1 : Bool × List (List Nat × List Nat) := (true, [([], []), ([0], [0]), ([], []), ([2], [2]), ([], []), ([], []), ([4, 1, 0, 1, 4, 5], [1, 4]), ([5, 3, 6, 0, 1, 2, 3, 4, 5, 6], [3, 5])])
def impl_Held_order.B1 : List Nat := [0, 1, 0, 4, 0, 0, 51, 127]
theorem impl_Held_order.tab1 : rtab .any (opsOf Try.f103 1) = impl_Held_order.T1 := by kernel_rfl
theorem impl_Held_order.bits1 : waitsOk impl_Held_order.T1.2 impl_Held_order.B1 = true := by kernel_rfl
def impl_Held_order.T2 : Bool × List (List Nat × List Nat) := (true, [([], []), ([0], [0]), ([], []), ([2], [2]), ([1, 3], [1, 3]), ([], []), ([5], [5]), ([], []), ([7], [7]), ([6, 8, 4], [6, 8]), ([], []), ([10], [10]), ([], []), ([12], [12]), ([11, 13, 9], [11, 13]), ([], []), ([15], [15]), ([], []), ([17], [17]), ([16, 18, 14], [16, 18]), ([], []), ([20], [20]), ([], []), ([22], [22]), ([21, 23, 19], [21, 23]), ([4, 9, 14, 19, 24], [4, 9, 14, 19, 24]), ([25, 24], [25]), ([26, 26, 0, 1, 2, 3, 4, 5, 6, 7, 8, 9, 10, 11, 12, 13, 14, 15, 16, 17, 18, 19, 20, 21, 22, 23, 24, 25, 26], [26])])
def impl_Held_order.B2 : List Nat := [0, 1, 0, 4, 15, 0, 32, 0, 128, 511, 0, 1024, 0, 4096, 16383, 0, 32768, 0, 131072, 524287, 0, 1048576, 0, 4194304, 16777215, 33554431, 67108863, 134217727]
theorem impl_Held_order.tab2 : rtab .any (opsOf Try.f103 2) = impl_Held_order.T2 := by kernel_rfl
theorem impl_Held_order.bits2 : waitsOk impl_Held_order.T2.2 impl_Held_order.B2 = true := by kernel_rfl
set_option maxHeartbeats 8000000 in
set_option maxRecDepth 100000 in
theorem impl_Held_order.calls (k : Nat) (a0_0 : Int) (a0_1 : Bool) (a0_2 : Int) (a0_3 : Int) (a0_4 : Int) (a0_5 : Int) (a0_6 : Int) (a0_7 : Int) (a0_8 : Bool) (a1_0 : Int) (a1_1 : Bool) (a1_2 : Int) (a1_3 : Int) (a1_4 : Int) (a1_5 : Int) (a1_6 : Int) (a1_7 : Int) (a1_8 : Bool) (r : Int) (w : World) (h : impl_Held_order.f k a0_0 a0_1 a0_2 a0_3 a0_4 a0_5 a0_6 a0_7 a0_8 a1_0 a1_1 a1_2 a1_3 a1_4 a1_5 a1_6 a1_7 a1_8 = some r) :
  Calls Try.prog 103 #[.agg #[.int .i64 a0_0, .bool a0_1, .int .i64 a0_2, .int .i64 a0_3, .int .i64 a0_4, .int .i64 a0_5, .int .i64 a0_6, .int .i64 a0_7, .bool a0_8], .agg #[.int .i64 a1_0, .bool a1_1, .int .i64 a1_2, .int .i64 a1_3, .int .i64 a1_4, .int .i64 a1_5, .int .i64 a1_6, .int .i64 a1_7, .bool a1_8]] w fun e w' => e = .returned (.int .i64 r) ∧ Below w.heap.size w w' := by
 have hu73 := Try.underlying73
 have hu42 := Try.underlying42
 have HB := Aside0.mk (Below.refl w.heap.size w)
 have H : ((cmp_Compare_int64.f a0_0 a1_0).bind fun t142 => ((cmp_Compare_int64.f a0_2 a1_2).bind fun t143 => ((cmp_Compare_int64.f a0_3 a1_3).bind fun t144 => ((cmp_Compare_int64.f a0_4 a1_4).bind fun t145 => ((cmp_Compare_int64.f a0_6 a1_6).bind fun t146 => ((cmp_Or_int.f k (([t142, t143, t144, t145, t146] : List Int))).bind fun t150 => (some t150))))))) = some r := h
 clear h
 replace H := Option.bind_eq_some_iff.mp H
 obtain ⟨t142, A30, H⟩ := H
 replace H : ((cmp_Compare_int64.f a0_2 a1_2).bind fun t143 => ((cmp_Compare_int64.f a0_3 a1_3).bind fun t144 => ((cmp_Compare_int64.f a0_4 a1_4).bind fun t145 => ((cmp_Compare_int64.f a0_6 a1_6).bind fun t146 => ((cmp_Or_int.f k (([t142, t143, t144, t145, t146] : List Int))).bind fun t150 => (some t150)))))) = some r := H
 have A3 := Aside0.mk A30
 clear A30
 replace H := Option.bind_eq_some_iff.mp H
 obtain ⟨t143, A40, H⟩ := H
 replace H : ((cmp_Compare_int64.f a0_3 a1_3).bind fun t144 => ((cmp_Compare_int64.f a0_4 a1_4).bind fun t145 => ((cmp_Compare_int64.f a0_6 a1_6).bind fun t146 => ((cmp_Or_int.f k (([t142, t143, t144, t145, t146] : List Int))).bind fun t150 => (some t150))))) = some r := H
 have A4 := Aside0.mk A40
 clear A40
 replace H := Option.bind_eq_some_iff.mp H
 obtain ⟨t144, A50, H⟩ := H
 replace H : ((cmp_Compare_int64.f a0_4 a1_4).bind fun t145 => ((cmp_Compare_int64.f a0_6 a1_6).bind fun t146 => ((cmp_Or_int.f k (([t142, t143, t144, t145, t146] : List Int))).bind fun t150 => (some t150)))) = some r := H
 have A5 := Aside0.mk A50
 clear A50
 replace H := Option.bind_eq_some_iff.mp H
 obtain ⟨t145, A60, H⟩ := H
 replace H : ((cmp_Compare_int64.f a0_6 a1_6).bind fun t146 => ((cmp_Or_int.f k (([t142, t143, t144, t145, t146] : List Int))).bind fun t150 => (some t150))) = some r := H
 have A6 := Aside0.mk A60
 clear A60
 replace H := Option.bind_eq_some_iff.mp H
 obtain ⟨t146, A70, H⟩ := H
 replace H : ((cmp_Or_int.f k (([t142, t143, t144, t145, t146] : List Int))).bind fun t150 => (some t150)) = some r := H
 have A7 := Aside0.mk A70
 clear A70
 obtain ⟨y147, hy147⟩ : ∃ y_ : List Int, y_ = (([t142, t143, t144, t145, t146] : List Int)) := ⟨_, rfl⟩
 replace H : ((cmp_Or_int.f k y147).bind fun t150 => (some t150)) = some r := by first | (rw [hy147]; with_reducible exact H) | (have H2_ := (Option.bind_some _ _).symm.trans H; rw [hy147]; with_reducible exact H2_) | (have H2_ := (Option.bind_some _ _).symm.trans H; with_reducible exact H2_) | with_reducible exact H | (rw [hy147]; exact H) | exact H
 have Ny147 := Aside0.mk hy147
 clear hy147
 replace H := Option.bind_eq_some_iff.mp H
 obtain ⟨t150, A80, H⟩ := H
 replace H : (some t150) = some r := H
 have A8 := Aside0.mk A80
 clear A80
 obtain rfl := Option.some.inj H
 go_enter Try.func103, Try.ntmps103
 try go_wp2_with (first | ((with_reducible refine Qs (N := 2) rfl ?_); refine Qr ?hg (N := 2) ?hd (cs := #[.int .i64 a0_0, .bool a0_1, .int .i64 a0_2, .int .i64 a0_3, .int .i64 a0_4, .int .i64 a0_5, .int .i64 a0_6, .int .i64 a0_7, .bool a0_8]) (t := 73) ?hr ?_; (case hd => rfl); (case hg => rfl); (case hr => first | (go_simp; done) | (go_simp; rfl)); intro gb138 hg w9 hbox hb; have n0_ := Aside0.mk (Ql (by repeat (first | (with_reducible first | exact HB.out | apply Qe | apply Qb | apply Qf) | exact HB.out)) hb); have n1_ := Aside0.mk (hbox); have n2_ := Aside0.mk ((by rw [hg]; exact (Qk (by repeat (first | (with_reducible first | exact HB.out | apply Qe | apply Qb | apply Qf) | exact HB.out))) : w.heap.size ≤ gb138)); have n3_ := Aside0.mk ((by rw [hg]; exact (Qk (by repeat (first | (with_reducible first | exact HB.out | apply Qe | apply Qb | apply Qf) | exact HB.out))) : w.heap.size ≤ gb138)); clear HB; have HB := n0_; have BK138 := n1_; have GW138 := n2_; have GE138 := n3_; clear n0_ n1_ n2_ n3_; clear hb hbox hg) | ((with_reducible refine Qs (N := 3) rfl ?_); refine Qr ?hg (N := 3) ?hd (cs := #[.int .i64 a1_0, .bool a1_1, .int .i64 a1_2, .int .i64 a1_3, .int .i64 a1_4, .int .i64 a1_5, .int .i64 a1_6, .int .i64 a1_7, .bool a1_8]) (t := 73) ?hr ?_; (case hd => rfl); (case hg => rfl); (case hr => first | (go_simp; done) | (go_simp; rfl)); intro gb139 hg w10 hbox hb; have n0_ := Aside0.mk (Qo (g := gb138) (o := .cells #[.int .i64 a0_0, .bool a0_1, .int .i64 a0_2, .int .i64 a0_3, .int .i64 a0_4, .int .i64 a0_5, .int .i64 a0_6, .int .i64 a0_7, .bool a0_8] 73 (0, 0)) (by (with_reducible repeat (first | refine Qh ?_ _ | refine Qj ?_ | refine Qi ?_ _)); exact BK138.out) hb); have n1_ := Aside0.mk (Ql (by repeat (first | (with_reducible first | exact HB.out | apply Qe | apply Qb | apply Qf | refine Qg ?_ GE138.out) | exact HB.out)) hb); have n2_ := Aside0.mk (hbox); have n3_ := Aside0.mk ((by rw [hg]; exact (Qk (by repeat (first | (with_reducible first | exact HB.out | apply Qe | apply Qb | apply Qf | refine Qg ?_ GE138.out) | exact HB.out))) : w.heap.size ≤ gb139)); have n4_ := Aside0.mk ((by rw [hg]; exact (Qk (by repeat (first | (with_reducible first | exact HB.out | apply Qe | apply Qb | apply Qf | refine Qg ?_ GE138.out) | exact HB.out))) : w.heap.size ≤ gb139)); have n5_ := Aside0.mk ((by rw [hg]; exact Nat.ne_of_lt (Qt (g := gb138) (o := .cells #[.int .i64 a0_0, .bool a0_1, .int .i64 a0_2, .int .i64 a0_3, .int .i64 a0_4, .int .i64 a0_5, .int .i64 a0_6, .int .i64 a0_7, .bool a0_8] 73 (0, 0)) (by (with_reducible repeat (first | refine Qh ?_ _ | refine Qj ?_ | refine Qi ?_ _)); exact BK138.out)) : gb138 ≠ gb139)); have n6_ := Aside0.mk ((by rw [hg]; exact Nat.ne_of_gt (Qt (g := gb138) (o := .cells #[.int .i64 a0_0, .bool a0_1, .int .i64 a0_2, .int .i64 a0_3, .int .i64 a0_4, .int .i64 a0_5, .int .i64 a0_6, .int .i64 a0_7, .bool a0_8] 73 (0, 0)) (by (with_reducible repeat (first | refine Qh ?_ _ | refine Qj ?_ | refine Qi ?_ _)); exact BK138.out)) : gb139 ≠ gb138)); clear BK138; clear HB; have BK138 := n0_; have HB := n1_; have BK139 := n2_; have GW139 := n3_; have GE139 := n4_; have NB138_139 := n5_; have NB139_138 := n6_; clear n0_ n1_ n2_ n3_ n4_ n5_ n6_; clear hb hbox hg))
 have n0_ := Aside0.mk (Qj BK138.out)
 have n1_ := Aside0.mk (Qj BK139.out)
 have n2_ := Aside0.mk (Qf HB.out)
 clear BK138
 clear BK139
 clear HB
 have BK138 := n0_
 have BK139 := n1_
 have HB := n2_
 clear n0_ n1_ n2_
 refine start_ (n := 8) (S := fun w' => w'.cell? ⟨gb138, 0, none⟩ = some (.int .i64 a0_0) ∧ w'.cell? ⟨gb138, 1, none⟩ = some (.bool a0_1) ∧ w'.cell? ⟨gb138, 2, none⟩ = some (.int .i64 a0_2) ∧ w'.cell? ⟨gb138, 3, none⟩ = some (.int .i64 a0_3) ∧ w'.cell? ⟨gb138, 4, none⟩ = some (.int .i64 a0_4) ∧ w'.cell? ⟨gb138, 5, none⟩ = some (.int .i64 a0_5) ∧ w'.cell? ⟨gb138, 6, none⟩ = some (.int .i64 a0_6) ∧ w'.cell? ⟨gb138, 7, none⟩ = some (.int .i64 a0_7) ∧ w'.cell? ⟨gb138, 8, none⟩ = some (.bool a0_8) ∧ w'.cell? ⟨gb139, 0, none⟩ = some (.int .i64 a1_0) ∧ w'.cell? ⟨gb139, 1, none⟩ = some (.bool a1_1) ∧ w'.cell? ⟨gb139, 2, none⟩ = some (.int .i64 a1_2) ∧ w'.cell? ⟨gb139, 3, none⟩ = some (.int .i64 a1_3) ∧ w'.cell? ⟨gb139, 4, none⟩ = some (.int .i64 a1_4) ∧ w'.cell? ⟨gb139, 5, none⟩ = some (.int .i64 a1_5) ∧ w'.cell? ⟨gb139, 6, none⟩ = some (.int .i64 a1_6) ∧ w'.cell? ⟨gb139, 7, none⟩ = some (.int .i64 a1_7) ∧ w'.cell? ⟨gb139, 8, none⟩ = some (.bool a1_8)) (ds := []) #[false, false, false, false, false, false, false, false] (by kernel_rfl) rfl rfl ⟨(Qa BK138.out 0).trans rfl, (Qa BK138.out 1).trans rfl, (Qa BK138.out 2).trans rfl, (Qa BK138.out 3).trans rfl, (Qa BK138.out 4).trans rfl, (Qa BK138.out 5).trans rfl, (Qa BK138.out 6).trans rfl, (Qa BK138.out 7).trans rfl, (Qa BK138.out 8).trans rfl, (Qa BK139.out 0).trans rfl, (Qa BK139.out 1).trans rfl, (Qa BK139.out 2).trans rfl, (Qa BK139.out 3).trans rfl, (Qa BK139.out 4).trans rfl, (Qa BK139.out 5).trans rfl, (Qa BK139.out 6).trans rfl, (Qa BK139.out 7).trans rfl, (Qa BK139.out 8).trans rfl⟩ (fun hHeld => ?_); refine with_tabW impl_Held_order.tab1 impl_Held_order.bits1 (fun HT_ HW_ => ?_)
 generalize w10.drew = w11 at BK138 BK139 HB hHeld ⊢
 refine Q1 (i := 0) (N := some 7) (v := ?_) (a' := ?_) #[true, false, false, false, false, false, false, false] rfl rfl (Q0 HT_.out (by kernel_rfl)) (fun _ _ _ h => h) (Or.inl ⟨by rfl, ?_⟩) ?_ ?_
 rotate_left
 ·intro w'
  go_simp
  with_reducible rfl
 rotate_left
 ·simp only [Act.put, List.setIfInBounds_toArray, List.set_cons_zero, List.set_cons_succ, Qu, Qv]
  rfl
 refine Q1 (i := 2) (N := some 9) (v := ?_) (a' := ?_) #[true, false, true, false, false, false, false, false] rfl rfl (Q0 HT_.out (by kernel_rfl)) (fun _ _ _ h => h) (Or.inl ⟨by rfl, ?_⟩) ?_ ?_
 rotate_left
 ·intro w'
  go_simp
  with_reducible rfl
 rotate_left
 ·simp only [Act.put, List.setIfInBounds_toArray, List.set_cons_zero, List.set_cons_succ, Qu, Qv]
  rfl
 refine take_ (i := 1) (N := some 8) (v := ?_) (a' := ?_) #[true, true, true, false, false, false, false, false] rfl rfl (take_ofW HT_.out HW_.out (by kernel_rfl)) (fun _ _ _ h => h) (Or.inl ⟨by rfl, ?_⟩) hHeld ?_ ?_
 rotate_left
 ·rintro w' ⟨s0, s1, s2, s3, s4, s5, s6, s7, s8, s9, s10, s11, s12, s13, s14, s15, s16, s17⟩
  go_simp
  with_reducible rfl
 rotate_left
 ·simp only [Act.put, List.setIfInBounds_toArray, List.set_cons_zero, List.set_cons_succ, Qu, Qv]
  rfl
 refine take_ (i := 3) (N := some 10) (v := ?_) (a' := ?_) #[true, true, true, true, false, false, false, false] rfl rfl (take_ofW HT_.out HW_.out (by kernel_rfl)) (fun _ _ _ h => h) (Or.inl ⟨by rfl, ?_⟩) hHeld ?_ ?_
 rotate_left
 ·rintro w' ⟨s0, s1, s2, s3, s4, s5, s6, s7, s8, s9, s10, s11, s12, s13, s14, s15, s16, s17⟩
  go_simp
  with_reducible rfl
 rotate_left
 ·simp only [Act.put, List.setIfInBounds_toArray, List.set_cons_zero, List.set_cons_succ, Qu, Qv]
  rfl
 refine join_ (σ := Nat × Nat) 2 #[true, true, true, true, true, true, false, false] (fun s_ => [(5, .pointer (some ⟨s_.1, 0, none⟩)), (6, .pointer (some ⟨s_.2, 0, none⟩))]) (fun s_ w' => (w'.cell? ⟨gb138, 0, none⟩ = some (.int .i64 a0_0) ∧ w'.cell? ⟨gb138, 1, none⟩ = some (.bool a0_1) ∧ w'.cell? ⟨gb138, 2, none⟩ = some (.int .i64 a0_2) ∧ w'.cell? ⟨gb138, 3, none⟩ = some (.int .i64 a0_3) ∧ w'.cell? ⟨gb138, 4, none⟩ = some (.int .i64 a0_4) ∧ w'.cell? ⟨gb138, 5, none⟩ = some (.int .i64 a0_5) ∧ w'.cell? ⟨gb138, 6, none⟩ = some (.int .i64 a0_6) ∧ w'.cell? ⟨gb138, 7, none⟩ = some (.int .i64 a0_7) ∧ w'.cell? ⟨gb138, 8, none⟩ = some (.bool a0_8) ∧ w'.cell? ⟨gb139, 0, none⟩ = some (.int .i64 a1_0) ∧ w'.cell? ⟨gb139, 1, none⟩ = some (.bool a1_1) ∧ w'.cell? ⟨gb139, 2, none⟩ = some (.int .i64 a1_2) ∧ w'.cell? ⟨gb139, 3, none⟩ = some (.int .i64 a1_3) ∧ w'.cell? ⟨gb139, 4, none⟩ = some (.int .i64 a1_4) ∧ w'.cell? ⟨gb139, 5, none⟩ = some (.int .i64 a1_5) ∧ w'.cell? ⟨gb139, 6, none⟩ = some (.int .i64 a1_6) ∧ w'.cell? ⟨gb139, 7, none⟩ = some (.int .i64 a1_7) ∧ w'.cell? ⟨gb139, 8, none⟩ = some (.bool a1_8)) ∧ (w'.heap[gb138]? = some (.cells #[.int .i64 a0_0, .bool a0_1, .int .i64 a0_2, .int .i64 a0_3, .int .i64 a0_4, .int .i64 a0_5, .int .i64 a0_6, .int .i64 a0_7, .bool a0_8] 73 (0, 0))) ∧ (w'.heap[gb139]? = some (.cells #[.int .i64 a1_0, .bool a1_1, .int .i64 a1_2, .int .i64 a1_3, .int .i64 a1_4, .int .i64 a1_5, .int .i64 a1_6, .int .i64 a1_7, .bool a1_8] 73 (0, 0))) ∧ (w'.heap[s_.1]? = some (.cells #[.int .i64 0, .int .i64 0, .int .i64 0, .int .i64 0, .int .i64 0, .int .i64 0, .bool false] 42 (0, 0))) ∧ (w'.heap[s_.2]? = some (.cells #[.int .i64 0, .int .i64 0, .int .i64 0, .int .i64 0, .int .i64 0, .int .i64 0, .bool false] 42 (0, 0))) ∧ (w.heap.size ≤ s_.1) ∧ (w.heap.size ≤ s_.1) ∧ (gb138 ≠ s_.1) ∧ (s_.1 ≠ gb138) ∧ (gb139 ≠ s_.1) ∧ (s_.1 ≠ gb139) ∧ (s_.2 ≠ s_.1) ∧ (s_.1 ≠ s_.2) ∧ (w.heap.size ≤ s_.2) ∧ (w.heap.size ≤ s_.2) ∧ (gb138 ≠ s_.2) ∧ (s_.2 ≠ gb138) ∧ (gb139 ≠ s_.2) ∧ (s_.2 ≠ gb139) ∧ (Below w.heap.size w w')) ?_ ?_
 rotate_left
 ·intro hCont
  refine two_ (i := 4) (j := 5) (Ni := some 5) (Nj := some 6) #[true, true, true, true, true, false, false, false] #[true, true, true, true, false, true, false, false] rfl rfl rfl rfl (two_of HT_.out (by kernel_rfl)) (by decide) (by decide) (fun K hK => ?_) (fun K hK => ?_)
  ·skip
   refine box_step ?hg (N := 5) ?hd (cs := #[.int .i64 0, .int .i64 0, .int .i64 0, .int .i64 0, .int .i64 0, .int .i64 0, .bool false]) (t := 42) ?hr ?_; (case hd => rfl); (case hg => rfl); (case hr => first | (go_simp; done) | (go_simp; rfl))
   intro gb140 hg w12 hbox hb
   have n0_ := Aside0.mk (Qo (g := gb138) (o := .cells #[.int .i64 a0_0, .bool a0_1, .int .i64 a0_2, .int .i64 a0_3, .int .i64 a0_4, .int .i64 a0_5, .int .i64 a0_6, .int .i64 a0_7, .bool a0_8] 73 (0, 0)) (by (with_reducible repeat (first | refine Qh ?_ _ | refine Qj ?_ | refine Qi ?_ _)); exact BK138.out) hb)
   have n1_ := Aside0.mk (Qo (g := gb139) (o := .cells #[.int .i64 a1_0, .bool a1_1, .int .i64 a1_2, .int .i64 a1_3, .int .i64 a1_4, .int .i64 a1_5, .int .i64 a1_6, .int .i64 a1_7, .bool a1_8] 73 (0, 0)) (by (with_reducible repeat (first | refine Qh ?_ _ | refine Qj ?_ | refine Qi ?_ _)); exact BK139.out) hb)
   have n2_ := Aside0.mk (Ql (by repeat (first | (with_reducible first | exact HB.out | apply Qe | apply Qb | apply Qf | refine Qg ?_ GE138.out | refine Qg ?_ GE139.out) | exact HB.out)) hb)
   have n3_ := Aside0.mk (hbox)
   have n4_ := Aside0.mk ((by rw [hg]; exact (Qk (by repeat (first | (with_reducible first | exact HB.out | apply Qe | apply Qb | apply Qf | refine Qg ?_ GE138.out | refine Qg ?_ GE139.out) | exact HB.out))) : w.heap.size ≤ gb140))
   have n5_ := Aside0.mk ((by rw [hg]; exact (Qk (by repeat (first | (with_reducible first | exact HB.out | apply Qe | apply Qb | apply Qf | refine Qg ?_ GE138.out | refine Qg ?_ GE139.out) | exact HB.out))) : w.heap.size ≤ gb140))
   have n6_ := Aside0.mk ((by rw [hg]; exact Nat.ne_of_lt (Qt (g := gb138) (o := .cells #[.int .i64 a0_0, .bool a0_1, .int .i64 a0_2, .int .i64 a0_3, .int .i64 a0_4, .int .i64 a0_5, .int .i64 a0_6, .int .i64 a0_7, .bool a0_8] 73 (0, 0)) (by (with_reducible repeat (first | refine Qh ?_ _ | refine Qj ?_ | refine Qi ?_ _)); exact BK138.out)) : gb138 ≠ gb140))
   have n7_ := Aside0.mk ((by rw [hg]; exact Nat.ne_of_gt (Qt (g := gb138) (o := .cells #[.int .i64 a0_0, .bool a0_1, .int .i64 a0_2, .int .i64 a0_3, .int .i64 a0_4, .int .i64 a0_5, .int .i64 a0_6, .int .i64 a0_7, .bool a0_8] 73 (0, 0)) (by (with_reducible repeat (first | refine Qh ?_ _ | refine Qj ?_ | refine Qi ?_ _)); exact BK138.out)) : gb140 ≠ gb138))
   have n8_ := Aside0.mk ((by rw [hg]; exact Nat.ne_of_lt (Qt (g := gb139) (o := .cells #[.int .i64 a1_0, .bool a1_1, .int .i64 a1_2, .int .i64 a1_3, .int .i64 a1_4, .int .i64 a1_5, .int .i64 a1_6, .int .i64 a1_7, .bool a1_8] 73 (0, 0)) (by (with_reducible repeat (first | refine Qh ?_ _ | refine Qj ?_ | refine Qi ?_ _)); exact BK139.out)) : gb139 ≠ gb140))
   have n9_ := Aside0.mk ((by rw [hg]; exact Nat.ne_of_gt (Qt (g := gb139) (o := .cells #[.int .i64 a1_0, .bool a1_1, .int .i64 a1_2, .int .i64 a1_3, .int .i64 a1_4, .int .i64 a1_5, .int .i64 a1_6, .int .i64 a1_7, .bool a1_8] 73 (0, 0)) (by (with_reducible repeat (first | refine Qh ?_ _ | refine Qj ?_ | refine Qi ?_ _)); exact BK139.out)) : gb140 ≠ gb139))
   clear BK138
   clear BK139
   clear HB
   have BK138 := n0_
   have BK139 := n1_
   have HB := n2_
   have BK140 := n3_
   have GW140 := n4_
   have GE140 := n5_
   have NB138_140 := n6_
   have NB140_138 := n7_
   have NB139_140 := n8_
   have NB140_139 := n9_
   clear n0_ n1_ n2_ n3_ n4_ n5_ n6_ n7_ n8_ n9_
   clear hb hbox hg
   refine hK.out _ _ ⟨(Qa BK138.out 0).trans rfl, (Qa BK138.out 1).trans rfl, (Qa BK138.out 2).trans rfl, (Qa BK138.out 3).trans rfl, (Qa BK138.out 4).trans rfl, (Qa BK138.out 5).trans rfl, (Qa BK138.out 6).trans rfl, (Qa BK138.out 7).trans rfl, (Qa BK138.out 8).trans rfl, (Qa BK139.out 0).trans rfl, (Qa BK139.out 1).trans rfl, (Qa BK139.out 2).trans rfl, (Qa BK139.out 3).trans rfl, (Qa BK139.out 4).trans rfl, (Qa BK139.out 5).trans rfl, (Qa BK139.out 6).trans rfl, (Qa BK139.out 7).trans rfl, (Qa BK139.out 8).trans rfl⟩ (fun hHeld => ?_)
   clear hK K
   refine norm_ (a' := ?_) ?_ ?_
   rotate_left
   ·show Act.put _ (some 5) _ = _
    simp only [Act.put, List.setIfInBounds_toArray, List.set_cons_zero, List.set_cons_succ, Qu, Qv]
    rfl
   refine one_ (i := 5) (N := some 6) #[true, true, true, true, true, true, false, false] rfl rfl (one_of HT_.out (by kernel_rfl)) (by decide) (fun K hK => ?_)
   refine box_step ?hg (N := 6) ?hd (cs := #[.int .i64 0, .int .i64 0, .int .i64 0, .int .i64 0, .int .i64 0, .int .i64 0, .bool false]) (t := 42) ?hr ?_; (case hd => rfl); (case hg => rfl); (case hr => first | (go_simp; done) | (go_simp; rfl))
   intro gb141 hg w13 hbox hb
   have n0_ := Aside0.mk (Qo (g := gb138) (o := .cells #[.int .i64 a0_0, .bool a0_1, .int .i64 a0_2, .int .i64 a0_3, .int .i64 a0_4, .int .i64 a0_5, .int .i64 a0_6, .int .i64 a0_7, .bool a0_8] 73 (0, 0)) (by (with_reducible repeat (first | refine Qh ?_ _ | refine Qj ?_ | refine Qi ?_ _)); exact BK138.out) hb)
   have n1_ := Aside0.mk (Qo (g := gb139) (o := .cells #[.int .i64 a1_0, .bool a1_1, .int .i64 a1_2, .int .i64 a1_3, .int .i64 a1_4, .int .i64 a1_5, .int .i64 a1_6, .int .i64 a1_7, .bool a1_8] 73 (0, 0)) (by (with_reducible repeat (first | refine Qh ?_ _ | refine Qj ?_ | refine Qi ?_ _)); exact BK139.out) hb)
   have n2_ := Aside0.mk (Qo (g := gb140) (o := .cells #[.int .i64 0, .int .i64 0, .int .i64 0, .int .i64 0, .int .i64 0, .int .i64 0, .bool false] 42 (0, 0)) (by (with_reducible repeat (first | refine Qh ?_ _ | refine Qj ?_ | refine Qi ?_ _)); exact BK140.out) hb)
   have n3_ := Aside0.mk (Ql (by repeat (first | (with_reducible first | exact HB.out | apply Qe | apply Qb | apply Qf | refine Qg ?_ GE138.out | refine Qg ?_ GE139.out | refine Qg ?_ GE140.out) | exact HB.out)) hb)
   have n4_ := Aside0.mk (hbox)
   have n5_ := Aside0.mk ((by rw [hg]; exact (Qk (by repeat (first | (with_reducible first | exact HB.out | apply Qe | apply Qb | apply Qf | refine Qg ?_ GE138.out | refine Qg ?_ GE139.out | refine Qg ?_ GE140.out) | exact HB.out))) : w.heap.size ≤ gb141))
   have n6_ := Aside0.mk ((by rw [hg]; exact (Qk (by repeat (first | (with_reducible first | exact HB.out | apply Qe | apply Qb | apply Qf | refine Qg ?_ GE138.out | refine Qg ?_ GE139.out | refine Qg ?_ GE140.out) | exact HB.out))) : w.heap.size ≤ gb141))
   have n7_ := Aside0.mk ((by rw [hg]; exact Nat.ne_of_lt (Qt (g := gb138) (o := .cells #[.int .i64 a0_0, .bool a0_1, .int .i64 a0_2, .int .i64 a0_3, .int .i64 a0_4, .int .i64 a0_5, .int .i64 a0_6, .int .i64 a0_7, .bool a0_8] 73 (0, 0)) (by (with_reducible repeat (first | refine Qh ?_ _ | refine Qj ?_ | refine Qi ?_ _)); exact BK138.out)) : gb138 ≠ gb141))
   have n8_ := Aside0.mk ((by rw [hg]; exact Nat.ne_of_gt (Qt (g := gb138) (o := .cells #[.int .i64 a0_0, .bool a0_1, .int .i64 a0_2, .int .i64 a0_3, .int .i64 a0_4, .int .i64 a0_5, .int .i64 a0_6, .int .i64 a0_7, .bool a0_8] 73 (0, 0)) (by (with_reducible repeat (first | refine Qh ?_ _ | refine Qj ?_ | refine Qi ?_ _)); exact BK138.out)) : gb141 ≠ gb138))
   have n9_ := Aside0.mk ((by rw [hg]; exact Nat.ne_of_lt (Qt (g := gb139) (o := .cells #[.int .i64 a1_0, .bool a1_1, .int .i64 a1_2, .int .i64 a1_3, .int .i64 a1_4, .int .i64 a1_5, .int .i64 a1_6, .int .i64 a1_7, .bool a1_8] 73 (0, 0)) (by (with_reducible repeat (first | refine Qh ?_ _ | refine Qj ?_ | refine Qi ?_ _)); exact BK139.out)) : gb139 ≠ gb141))
   have n10_ := Aside0.mk ((by rw [hg]; exact Nat.ne_of_gt (Qt (g := gb139) (o := .cells #[.int .i64 a1_0, .bool a1_1, .int .i64 a1_2, .int .i64 a1_3, .int .i64 a1_4, .int .i64 a1_5, .int .i64 a1_6, .int .i64 a1_7, .bool a1_8] 73 (0, 0)) (by (with_reducible repeat (first | refine Qh ?_ _ | refine Qj ?_ | refine Qi ?_ _)); exact BK139.out)) : gb141 ≠ gb139))
   have n11_ := Aside0.mk ((by rw [hg]; exact Nat.ne_of_lt (Qt (g := gb140) (o := .cells #[.int .i64 0, .int .i64 0, .int .i64 0, .int .i64 0, .int .i64 0, .int .i64 0, .bool false] 42 (0, 0)) (by (with_reducible repeat (first | refine Qh ?_ _ | refine Qj ?_ | refine Qi ?_ _)); exact BK140.out)) : gb140 ≠ gb141))
   have n12_ := Aside0.mk ((by rw [hg]; exact Nat.ne_of_gt (Qt (g := gb140) (o := .cells #[.int .i64 0, .int .i64 0, .int .i64 0, .int .i64 0, .int .i64 0, .int .i64 0, .bool false] 42 (0, 0)) (by (with_reducible repeat (first | refine Qh ?_ _ | refine Qj ?_ | refine Qi ?_ _)); exact BK140.out)) : gb141 ≠ gb140))
   clear BK138
   clear BK139
   clear BK140
   clear HB
   have BK138 := n0_
   have BK139 := n1_
   have BK140 := n2_
   have HB := n3_
   have BK141 := n4_
   have GW141 := n5_
   have GE141 := n6_
   have NB138_141 := n7_
   have NB141_138 := n8_
   have NB139_141 := n9_
   have NB141_139 := n10_
   have NB140_141 := n11_
   have NB141_140 := n12_
   clear n0_ n1_ n2_ n3_ n4_ n5_ n6_ n7_ n8_ n9_ n10_ n11_ n12_
   clear hb hbox hg
   refine hK.out _ _ ⟨(Qa BK138.out 0).trans rfl, (Qa BK138.out 1).trans rfl, (Qa BK138.out 2).trans rfl, (Qa BK138.out 3).trans rfl, (Qa BK138.out 4).trans rfl, (Qa BK138.out 5).trans rfl, (Qa BK138.out 6).trans rfl, (Qa BK138.out 7).trans rfl, (Qa BK138.out 8).trans rfl, (Qa BK139.out 0).trans rfl, (Qa BK139.out 1).trans rfl, (Qa BK139.out 2).trans rfl, (Qa BK139.out 3).trans rfl, (Qa BK139.out 4).trans rfl, (Qa BK139.out 5).trans rfl, (Qa BK139.out 6).trans rfl, (Qa BK139.out 7).trans rfl, (Qa BK139.out 8).trans rfl⟩ (fun hHeld => ?_)
   clear hK K
   refine norm_ (a' := ?_) ?_ ?_
   rotate_left
   ·show Act.put _ (some 6) _ = _
    simp only [Act.put, List.setIfInBounds_toArray, List.set_cons_zero, List.set_cons_succ, Qu, Qv]
    rfl
   exact norm_ (by simp only [putAll, Act.put, List.setIfInBounds_toArray, List.set_cons_zero, List.set_cons_succ]) (hCont (gb140, gb141) _ ⟨hHeld, (by (with_reducible repeat (first | refine Qh ?_ _ | refine Qj ?_ | refine Qi ?_ _)); exact BK138.out), (by (with_reducible repeat (first | refine Qh ?_ _ | refine Qj ?_ | refine Qi ?_ _)); exact BK139.out), (by (with_reducible repeat (first | refine Qh ?_ _ | refine Qj ?_ | refine Qi ?_ _)); exact BK140.out), (by (with_reducible repeat (first | refine Qh ?_ _ | refine Qj ?_ | refine Qi ?_ _)); exact BK141.out), GW140.out, GE140.out, NB138_140.out, NB140_138.out, NB139_140.out, NB140_139.out, NB141_140.out, NB140_141.out, GW141.out, GE141.out, NB138_141.out, NB141_138.out, NB139_141.out, NB141_139.out, (by repeat (first | (with_reducible first | exact HB.out | apply Qe | apply Qb | apply Qf | refine Qg ?_ GE138.out | refine Qg ?_ GE139.out | refine Qg ?_ GE140.out | refine Qg ?_ GE141.out) | exact HB.out))⟩)
  ·skip
   refine box_step ?hg (N := 6) ?hd (cs := #[.int .i64 0, .int .i64 0, .int .i64 0, .int .i64 0, .int .i64 0, .int .i64 0, .bool false]) (t := 42) ?hr ?_; (case hd => rfl); (case hg => rfl); (case hr => first | (go_simp; done) | (go_simp; rfl))
   intro gb141 hg w12 hbox hb
   have n0_ := Aside0.mk (Qo (g := gb138) (o := .cells #[.int .i64 a0_0, .bool a0_1, .int .i64 a0_2, .int .i64 a0_3, .int .i64 a0_4, .int .i64 a0_5, .int .i64 a0_6, .int .i64 a0_7, .bool a0_8] 73 (0, 0)) (by (with_reducible repeat (first | refine Qh ?_ _ | refine Qj ?_ | refine Qi ?_ _)); exact BK138.out) hb)
   have n1_ := Aside0.mk (Qo (g := gb139) (o := .cells #[.int .i64 a1_0, .bool a1_1, .int .i64 a1_2, .int .i64 a1_3, .int .i64 a1_4, .int .i64 a1_5, .int .i64 a1_6, .int .i64 a1_7, .bool a1_8] 73 (0, 0)) (by (with_reducible repeat (first | refine Qh ?_ _ | refine Qj ?_ | refine Qi ?_ _)); exact BK139.out) hb)
   have n2_ := Aside0.mk (Ql (by repeat (first | (with_reducible first | exact HB.out | apply Qe | apply Qb | apply Qf | refine Qg ?_ GE138.out | refine Qg ?_ GE139.out) | exact HB.out)) hb)
   have n3_ := Aside0.mk (hbox)
   have n4_ := Aside0.mk ((by rw [hg]; exact (Qk (by repeat (first | (with_reducible first | exact HB.out | apply Qe | apply Qb | apply Qf | refine Qg ?_ GE138.out | refine Qg ?_ GE139.out) | exact HB.out))) : w.heap.size ≤ gb141))
   have n5_ := Aside0.mk ((by rw [hg]; exact (Qk (by repeat (first | (with_reducible first | exact HB.out | apply Qe | apply Qb | apply Qf | refine Qg ?_ GE138.out | refine Qg ?_ GE139.out) | exact HB.out))) : w.heap.size ≤ gb141))
   have n6_ := Aside0.mk ((by rw [hg]; exact Nat.ne_of_lt (Qt (g := gb138) (o := .cells #[.int .i64 a0_0, .bool a0_1, .int .i64 a0_2, .int .i64 a0_3, .int .i64 a0_4, .int .i64 a0_5, .int .i64 a0_6, .int .i64 a0_7, .bool a0_8] 73 (0, 0)) (by (with_reducible repeat (first | refine Qh ?_ _ | refine Qj ?_ | refine Qi ?_ _)); exact BK138.out)) : gb138 ≠ gb141))
   have n7_ := Aside0.mk ((by rw [hg]; exact Nat.ne_of_gt (Qt (g := gb138) (o := .cells #[.int .i64 a0_0, .bool a0_1, .int .i64 a0_2, .int .i64 a0_3, .int .i64 a0_4, .int .i64 a0_5, .int .i64 a0_6, .int .i64 a0_7, .bool a0_8] 73 (0, 0)) (by (with_reducible repeat (first | refine Qh ?_ _ | refine Qj ?_ | refine Qi ?_ _)); exact BK138.out)) : gb141 ≠ gb138))
   have n8_ := Aside0.mk ((by rw [hg]; exact Nat.ne_of_lt (Qt (g := gb139) (o := .cells #[.int .i64 a1_0, .bool a1_1, .int .i64 a1_2, .int .i64 a1_3, .int .i64 a1_4, .int .i64 a1_5, .int .i64 a1_6, .int .i64 a1_7, .bool a1_8] 73 (0, 0)) (by (with_reducible repeat (first | refine Qh ?_ _ | refine Qj ?_ | refine Qi ?_ _)); exact BK139.out)) : gb139 ≠ gb141))
   have n9_ := Aside0.mk ((by rw [hg]; exact Nat.ne_of_gt (Qt (g := gb139) (o := .cells #[.int .i64 a1_0, .bool a1_1, .int .i64 a1_2, .int .i64 a1_3, .int .i64 a1_4, .int .i64 a1_5, .int .i64 a1_6, .int .i64 a1_7, .bool a1_8] 73 (0, 0)) (by (with_reducible repeat (first | refine Qh ?_ _ | refine Qj ?_ | refine Qi ?_ _)); exact BK139.out)) : gb141 ≠ gb139))
   clear BK138
   clear BK139
   clear HB
   have BK138 := n0_
   have BK139 := n1_
   have HB := n2_
   have BK141 := n3_
   have GW141 := n4_
   have GE141 := n5_
   have NB138_141 := n6_
   have NB141_138 := n7_
   have NB139_141 := n8_
   have NB141_139 := n9_
   clear n0_ n1_ n2_ n3_ n4_ n5_ n6_ n7_ n8_ n9_
   clear hb hbox hg
   refine hK.out _ _ ⟨(Qa BK138.out 0).trans rfl, (Qa BK138.out 1).trans rfl, (Qa BK138.out 2).trans rfl, (Qa BK138.out 3).trans rfl, (Qa BK138.out 4).trans rfl, (Qa BK138.out 5).trans rfl, (Qa BK138.out 6).trans rfl, (Qa BK138.out 7).trans rfl, (Qa BK138.out 8).trans rfl, (Qa BK139.out 0).trans rfl, (Qa BK139.out 1).trans rfl, (Qa BK139.out 2).trans rfl, (Qa BK139.out 3).trans rfl, (Qa BK139.out 4).trans rfl, (Qa BK139.out 5).trans rfl, (Qa BK139.out 6).trans rfl, (Qa BK139.out 7).trans rfl, (Qa BK139.out 8).trans rfl⟩ (fun hHeld => ?_)
   clear hK K
   refine norm_ (a' := ?_) ?_ ?_
   rotate_left
   ·show Act.put _ (some 6) _ = _
    simp only [Act.put, List.setIfInBounds_toArray, List.set_cons_zero, List.set_cons_succ, Qu, Qv]
    rfl
   refine one_ (i := 4) (N := some 5) #[true, true, true, true, true, true, false, false] rfl rfl (one_of HT_.out (by kernel_rfl)) (by decide) (fun K hK => ?_)
   refine box_step ?hg (N := 5) ?hd (cs := #[.int .i64 0, .int .i64 0, .int .i64 0, .int .i64 0, .int .i64 0, .int .i64 0, .bool false]) (t := 42) ?hr ?_; (case hd => rfl); (case hg => rfl); (case hr => first | (go_simp; done) | (go_simp; rfl))
   intro gb140 hg w13 hbox hb
   have n0_ := Aside0.mk (Qo (g := gb138) (o := .cells #[.int .i64 a0_0, .bool a0_1, .int .i64 a0_2, .int .i64 a0_3, .int .i64 a0_4, .int .i64 a0_5, .int .i64 a0_6, .int .i64 a0_7, .bool a0_8] 73 (0, 0)) (by (with_reducible repeat (first | refine Qh ?_ _ | refine Qj ?_ | refine Qi ?_ _)); exact BK138.out) hb)
   have n1_ := Aside0.mk (Qo (g := gb139) (o := .cells #[.int .i64 a1_0, .bool a1_1, .int .i64 a1_2, .int .i64 a1_3, .int .i64 a1_4, .int .i64 a1_5, .int .i64 a1_6, .int .i64 a1_7, .bool a1_8] 73 (0, 0)) (by (with_reducible repeat (first | refine Qh ?_ _ | refine Qj ?_ | refine Qi ?_ _)); exact BK139.out) hb)
   have n2_ := Aside0.mk (Qo (g := gb141) (o := .cells #[.int .i64 0, .int .i64 0, .int .i64 0, .int .i64 0, .int .i64 0, .int .i64 0, .bool false] 42 (0, 0)) (by (with_reducible repeat (first | refine Qh ?_ _ | refine Qj ?_ | refine Qi ?_ _)); exact BK141.out) hb)
   have n3_ := Aside0.mk (Ql (by repeat (first | (with_reducible first | exact HB.out | apply Qe | apply Qb | apply Qf | refine Qg ?_ GE138.out | refine Qg ?_ GE139.out | refine Qg ?_ GE141.out) | exact HB.out)) hb)
   have n4_ := Aside0.mk (hbox)
   have n5_ := Aside0.mk ((by rw [hg]; exact (Qk (by repeat (first | (with_reducible first | exact HB.out | apply Qe | apply Qb | apply Qf | refine Qg ?_ GE138.out | refine Qg ?_ GE139.out | refine Qg ?_ GE141.out) | exact HB.out))) : w.heap.size ≤ gb140))
   have n6_ := Aside0.mk ((by rw [hg]; exact (Qk (by repeat (first | (with_reducible first | exact HB.out | apply Qe | apply Qb | apply Qf | refine Qg ?_ GE138.out | refine Qg ?_ GE139.out | refine Qg ?_ GE141.out) | exact HB.out))) : w.heap.size ≤ gb140))
   have n7_ := Aside0.mk ((by rw [hg]; exact Nat.ne_of_lt (Qt (g := gb138) (o := .cells #[.int .i64 a0_0, .bool a0_1, .int .i64 a0_2, .int .i64 a0_3, .int .i64 a0_4, .int .i64 a0_5, .int .i64 a0_6, .int .i64 a0_7, .bool a0_8] 73 (0, 0)) (by (with_reducible repeat (first | refine Qh ?_ _ | refine Qj ?_ | refine Qi ?_ _)); exact BK138.out)) : gb138 ≠ gb140))
   have n8_ := Aside0.mk ((by rw [hg]; exact Nat.ne_of_gt (Qt (g := gb138) (o := .cells #[.int .i64 a0_0, .bool a0_1, .int .i64 a0_2, .int .i64 a0_3, .int .i64 a0_4, .int .i64 a0_5, .int .i64 a0_6, .int .i64 a0_7, .bool a0_8] 73 (0, 0)) (by (with_reducible repeat (first | refine Qh ?_ _ | refine Qj ?_ | refine Qi ?_ _)); exact BK138.out)) : gb140 ≠ gb138))
   have n9_ := Aside0.mk ((by rw [hg]; exact Nat.ne_of_lt (Qt (g := gb139) (o := .cells #[.int .i64 a1_0, .bool a1_1, .int .i64 a1_2, .int .i64 a1_3, .int .i64 a1_4, .int .i64 a1_5, .int .i64 a1_6, .int .i64 a1_7, .bool a1_8] 73 (0, 0)) (by (with_reducible repeat (first | refine Qh ?_ _ | refine Qj ?_ | refine Qi ?_ _)); exact BK139.out)) : gb139 ≠ gb140))
   have n10_ := Aside0.mk ((by rw [hg]; exact Nat.ne_of_gt (Qt (g := gb139) (o := .cells #[.int .i64 a1_0, .bool a1_1, .int .i64 a1_2, .int .i64 a1_3, .int .i64 a1_4, .int .i64 a1_5, .int .i64 a1_6, .int .i64 a1_7, .bool a1_8] 73 (0, 0)) (by (with_reducible repeat (first | refine Qh ?_ _ | refine Qj ?_ | refine Qi ?_ _)); exact BK139.out)) : gb140 ≠ gb139))
   have n11_ := Aside0.mk ((by rw [hg]; exact Nat.ne_of_lt (Qt (g := gb141) (o := .cells #[.int .i64 0, .int .i64 0, .int .i64 0, .int .i64 0, .int .i64 0, .int .i64 0, .bool false] 42 (0, 0)) (by (with_reducible repeat (first | refine Qh ?_ _ | refine Qj ?_ | refine Qi ?_ _)); exact BK141.out)) : gb141 ≠ gb140))
   have n12_ := Aside0.mk ((by rw [hg]; exact Nat.ne_of_gt (Qt (g := gb141) (o := .cells #[.int .i64 0, .int .i64 0, .int .i64 0, .int .i64 0, .int .i64 0, .int .i64 0, .bool false] 42 (0, 0)) (by (with_reducible repeat (first | refine Qh ?_ _ | refine Qj ?_ | refine Qi ?_ _)); exact BK141.out)) : gb140 ≠ gb141))
   clear BK138
   clear BK139
   clear BK141
   clear HB
   have BK138 := n0_
   have BK139 := n1_
   have BK141 := n2_
   have HB := n3_
   have BK140 := n4_
   have GW140 := n5_
   have GE140 := n6_
   have NB138_140 := n7_
   have NB140_138 := n8_
   have NB139_140 := n9_
   have NB140_139 := n10_
   have NB141_140 := n11_
   have NB140_141 := n12_
   clear n0_ n1_ n2_ n3_ n4_ n5_ n6_ n7_ n8_ n9_ n10_ n11_ n12_
   clear hb hbox hg
   refine hK.out _ _ ⟨(Qa BK138.out 0).trans rfl, (Qa BK138.out 1).trans rfl, (Qa BK138.out 2).trans rfl, (Qa BK138.out 3).trans rfl, (Qa BK138.out 4).trans rfl, (Qa BK138.out 5).trans rfl, (Qa BK138.out 6).trans rfl, (Qa BK138.out 7).trans rfl, (Qa BK138.out 8).trans rfl, (Qa BK139.out 0).trans rfl, (Qa BK139.out 1).trans rfl, (Qa BK139.out 2).trans rfl, (Qa BK139.out 3).trans rfl, (Qa BK139.out 4).trans rfl, (Qa BK139.out 5).trans rfl, (Qa BK139.out 6).trans rfl, (Qa BK139.out 7).trans rfl, (Qa BK139.out 8).trans rfl⟩ (fun hHeld => ?_)
   clear hK K
   refine norm_ (a' := ?_) ?_ ?_
   rotate_left
   ·show Act.put _ (some 5) _ = _
    simp only [Act.put, List.setIfInBounds_toArray, List.set_cons_zero, List.set_cons_succ, Qu, Qv]
    rfl
   exact norm_ (by simp only [putAll, Act.put, List.setIfInBounds_toArray, List.set_cons_zero, List.set_cons_succ]) (hCont (gb140, gb141) _ ⟨hHeld, (by (with_reducible repeat (first | refine Qh ?_ _ | refine Qj ?_ | refine Qi ?_ _)); exact BK138.out), (by (with_reducible repeat (first | refine Qh ?_ _ | refine Qj ?_ | refine Qi ?_ _)); exact BK139.out), (by (with_reducible repeat (first | refine Qh ?_ _ | refine Qj ?_ | refine Qi ?_ _)); exact BK140.out), (by (with_reducible repeat (first | refine Qh ?_ _ | refine Qj ?_ | refine Qi ?_ _)); exact BK141.out), GW140.out, GE140.out, NB138_140.out, NB140_138.out, NB139_140.out, NB140_139.out, NB141_140.out, NB140_141.out, GW141.out, GE141.out, NB138_141.out, NB141_138.out, NB139_141.out, NB141_139.out, (by repeat (first | (with_reducible first | exact HB.out | apply Qe | apply Qb | apply Qf | refine Qg ?_ GE138.out | refine Qg ?_ GE139.out | refine Qg ?_ GE141.out | refine Qg ?_ GE140.out) | exact HB.out))⟩)
 rintro ⟨gb140, gb141⟩ w14 ⟨hS_, h0_, h1_, h2_, h3_, h4_, h5_, h6_, h7_, h8_, h9_, h10_, h11_, h12_, h13_, h14_, h15_, h16_, h17_, h18_⟩
 have n0_ : Aside0 (w14.heap[gb138]? = some (.cells #[.int .i64 a0_0, .bool a0_1, .int .i64 a0_2, .int .i64 a0_3, .int .i64 a0_4, .int .i64 a0_5, .int .i64 a0_6, .int .i64 a0_7, .bool a0_8] 73 (0, 0))) := ⟨h0_⟩
 have n1_ : Aside0 (w14.heap[gb139]? = some (.cells #[.int .i64 a1_0, .bool a1_1, .int .i64 a1_2, .int .i64 a1_3, .int .i64 a1_4, .int .i64 a1_5, .int .i64 a1_6, .int .i64 a1_7, .bool a1_8] 73 (0, 0))) := ⟨h1_⟩
 have n2_ : Aside0 (w14.heap[gb140]? = some (.cells #[.int .i64 0, .int .i64 0, .int .i64 0, .int .i64 0, .int .i64 0, .int .i64 0, .bool false] 42 (0, 0))) := ⟨h2_⟩
 have n3_ : Aside0 (w14.heap[gb141]? = some (.cells #[.int .i64 0, .int .i64 0, .int .i64 0, .int .i64 0, .int .i64 0, .int .i64 0, .bool false] 42 (0, 0))) := ⟨h3_⟩
 have n4_ : Aside0 (w.heap.size ≤ gb140) := ⟨h4_⟩
 have n5_ : Aside0 (w.heap.size ≤ gb140) := ⟨h5_⟩
 have n6_ : Aside0 (gb138 ≠ gb140) := ⟨h6_⟩
 have n7_ : Aside0 (gb140 ≠ gb138) := ⟨h7_⟩
 have n8_ : Aside0 (gb139 ≠ gb140) := ⟨h8_⟩
 have n9_ : Aside0 (gb140 ≠ gb139) := ⟨h9_⟩
 have n10_ : Aside0 (gb141 ≠ gb140) := ⟨h10_⟩
 have n11_ : Aside0 (gb140 ≠ gb141) := ⟨h11_⟩
 have n12_ : Aside0 (w.heap.size ≤ gb141) := ⟨h12_⟩
 have n13_ : Aside0 (w.heap.size ≤ gb141) := ⟨h13_⟩
 have n14_ : Aside0 (gb138 ≠ gb141) := ⟨h14_⟩
 have n15_ : Aside0 (gb141 ≠ gb138) := ⟨h15_⟩
 have n16_ : Aside0 (gb139 ≠ gb141) := ⟨h16_⟩
 have n17_ : Aside0 (gb141 ≠ gb139) := ⟨h17_⟩
 have n18_ : Aside0 (Below w.heap.size w w14) := ⟨h18_⟩
 clear BK138
 clear BK139
 clear HB
 clear h0_ h1_ h2_ h3_ h4_ h5_ h6_ h7_ h8_ h9_ h10_ h11_ h12_ h13_ h14_ h15_ h16_ h17_ h18_
 have BK138 := n0_
 have BK139 := n1_
 have BK140 := n2_
 have BK141 := n3_
 have GW140 := n4_
 have GE140 := n5_
 have NB138_140 := n6_
 have NB140_138 := n7_
 have NB139_140 := n8_
 have NB140_139 := n9_
 have NB141_140 := n10_
 have NB140_141 := n11_
 have GW141 := n12_
 have GE141 := n13_
 have NB138_141 := n14_
 have NB141_138 := n15_
 have NB139_141 := n16_
 have NB141_139 := n17_
 have HB := n18_
 clear n0_ n1_ n2_ n3_ n4_ n5_ n6_ n7_ n8_ n9_ n10_ n11_ n12_ n13_ n14_ n15_ n16_ n17_ n18_
 have hHeld : w14.cell? ⟨gb138, 0, none⟩ = some (.int .i64 a0_0) ∧ w14.cell? ⟨gb138, 1, none⟩ = some (.bool a0_1) ∧ w14.cell? ⟨gb138, 2, none⟩ = some (.int .i64 a0_2) ∧ w14.cell? ⟨gb138, 3, none⟩ = some (.int .i64 a0_3) ∧ w14.cell? ⟨gb138, 4, none⟩ = some (.int .i64 a0_4) ∧ w14.cell? ⟨gb138, 5, none⟩ = some (.int .i64 a0_5) ∧ w14.cell? ⟨gb138, 6, none⟩ = some (.int .i64 a0_6) ∧ w14.cell? ⟨gb138, 7, none⟩ = some (.int .i64 a0_7) ∧ w14.cell? ⟨gb138, 8, none⟩ = some (.bool a0_8) ∧ w14.cell? ⟨gb139, 0, none⟩ = some (.int .i64 a1_0) ∧ w14.cell? ⟨gb139, 1, none⟩ = some (.bool a1_1) ∧ w14.cell? ⟨gb139, 2, none⟩ = some (.int .i64 a1_2) ∧ w14.cell? ⟨gb139, 3, none⟩ = some (.int .i64 a1_3) ∧ w14.cell? ⟨gb139, 4, none⟩ = some (.int .i64 a1_4) ∧ w14.cell? ⟨gb139, 5, none⟩ = some (.int .i64 a1_5) ∧ w14.cell? ⟨gb139, 6, none⟩ = some (.int .i64 a1_6) ∧ w14.cell? ⟨gb139, 7, none⟩ = some (.int .i64 a1_7) ∧ w14.cell? ⟨gb139, 8, none⟩ = some (.bool a1_8) := hS_
 refine norm_ (a' := ?_) ?_ ?_
 rotate_left
 ·simp only [putAll, Act.put, List.setIfInBounds_toArray, List.set_cons_zero, List.set_cons_succ]
  rfl
 refine one_ (i := 6) (N := none) #[true, true, true, true, true, true, true, false] rfl rfl (one_of HT_.out (by kernel_rfl)) (by decide) (fun K hK => ?_)
 refine Base.store_step (by rfl) rfl 42 (.tmp 5) (.tmp 8) rfl (g := gb140) rfl (u := .agg #[.int .i64 a0_2, .int .i64 a0_3, .int .i64 a0_4, .int .i64 a0_5, .int .i64 a0_6, .int .i64 a0_7, .bool a0_8]) rfl [.int .i64 a0_2, .int .i64 a0_3, .int .i64 a0_4, .int .i64 a0_5, .int .i64 a0_6, .int .i64 a0_7, .bool a0_8] rfl (by kernel_rfl) BK140.out rfl (by simp [Value.oneCell']) ?_
 intro wn_ hx_ hf_ hB_
 have n138_ := Aside0.mk ((hf_ gb138 NB138_140.out).trans BK138.out)
 have n139_ := Aside0.mk ((hf_ gb139 NB139_140.out).trans BK139.out)
 have n141_ := Aside0.mk ((hf_ gb141 NB141_140.out).trans BK141.out)
 have nx_ := Aside0.mk hx_
 have nb_ := Aside0.mk (hB_ _ _ HB.out GE140.out)
 clear BK138 BK139 BK140 BK141 HB hHeld hx_ hf_ hB_
 have BK138 := n138_
 have BK139 := n139_
 have BK141 := n141_
 have BK140 := nx_
 have HB := nb_
 clear n138_ n139_ n141_ nx_ nb_
 refine hK.out _ _ ⟨(Qa BK138.out 0).trans rfl, (Qa BK138.out 1).trans rfl, (Qa BK138.out 2).trans rfl, (Qa BK138.out 3).trans rfl, (Qa BK138.out 4).trans rfl, (Qa BK138.out 5).trans rfl, (Qa BK138.out 6).trans rfl, (Qa BK138.out 7).trans rfl, (Qa BK138.out 8).trans rfl, (Qa BK139.out 0).trans rfl, (Qa BK139.out 1).trans rfl, (Qa BK139.out 2).trans rfl, (Qa BK139.out 3).trans rfl, (Qa BK139.out 4).trans rfl, (Qa BK139.out 5).trans rfl, (Qa BK139.out 6).trans rfl, (Qa BK139.out 7).trans rfl, (Qa BK139.out 8).trans rfl⟩ (fun hHeld => ?_)
 clear hK K
 refine one_ (i := 7) (N := none) #[true, true, true, true, true, true, true, true] rfl rfl (one_of HT_.out (by kernel_rfl)) (by decide) (fun K hK => ?_)
 refine Base.store_step (by rfl) rfl 42 (.tmp 6) (.tmp 10) rfl (g := gb141) rfl (u := .agg #[.int .i64 a1_2, .int .i64 a1_3, .int .i64 a1_4, .int .i64 a1_5, .int .i64 a1_6, .int .i64 a1_7, .bool a1_8]) rfl [.int .i64 a1_2, .int .i64 a1_3, .int .i64 a1_4, .int .i64 a1_5, .int .i64 a1_6, .int .i64 a1_7, .bool a1_8] rfl (by kernel_rfl) BK141.out rfl (by simp [Value.oneCell']) ?_
 intro w29 hx_ hf_ hB_
 have n138_ := Aside0.mk ((hf_ gb138 NB138_141.out).trans BK138.out)
 have n139_ := Aside0.mk ((hf_ gb139 NB139_141.out).trans BK139.out)
 have n140_ := Aside0.mk ((hf_ gb140 NB140_141.out).trans BK140.out)
 have nx_ := Aside0.mk hx_
 have nb_ := Aside0.mk (hB_ _ _ HB.out GE141.out)
 clear BK138 BK139 BK140 BK141 HB hHeld hx_ hf_ hB_
 have BK138 := n138_
 have BK139 := n139_
 have BK140 := n140_
 have BK141 := nx_
 have HB := nb_
 clear n138_ n139_ n140_ nx_ nb_
 refine hK.out _ _ ⟨(Qa BK138.out 0).trans rfl, (Qa BK138.out 1).trans rfl, (Qa BK138.out 2).trans rfl, (Qa BK138.out 3).trans rfl, (Qa BK138.out 4).trans rfl, (Qa BK138.out 5).trans rfl, (Qa BK138.out 6).trans rfl, (Qa BK138.out 7).trans rfl, (Qa BK138.out 8).trans rfl, (Qa BK139.out 0).trans rfl, (Qa BK139.out 1).trans rfl, (Qa BK139.out 2).trans rfl, (Qa BK139.out 3).trans rfl, (Qa BK139.out 4).trans rfl, (Qa BK139.out 5).trans rfl, (Qa BK139.out 6).trans rfl, (Qa BK139.out 7).trans rfl, (Qa BK139.out 8).trans rfl⟩ (fun hHeld => ?_)
 clear hK K
 refine done_ (done_of HT_.out (by kernel_rfl)) ?_
 have kz138_0 := (Qa BK138.out 0).trans rfl
 have kz138_1 := (Qa BK138.out 1).trans rfl
 have kz138_2 := (Qa BK138.out 2).trans rfl
 have kz138_3 := (Qa BK138.out 3).trans rfl
 have kz138_4 := (Qa BK138.out 4).trans rfl
 have kz138_5 := (Qa BK138.out 5).trans rfl
 have kz138_6 := (Qa BK138.out 6).trans rfl
 have kz138_7 := (Qa BK138.out 7).trans rfl
 have kz138_8 := (Qa BK138.out 8).trans rfl
 have kz139_0 := (Qa BK139.out 0).trans rfl
 have kz139_1 := (Qa BK139.out 1).trans rfl
 have kz139_2 := (Qa BK139.out 2).trans rfl
 have kz139_3 := (Qa BK139.out 3).trans rfl
 have kz139_4 := (Qa BK139.out 4).trans rfl
 have kz139_5 := (Qa BK139.out 5).trans rfl
 have kz139_6 := (Qa BK139.out 6).trans rfl
 have kz139_7 := (Qa BK139.out 7).trans rfl
 have kz139_8 := (Qa BK139.out 8).trans rfl
 have kz140_0 := (Qa BK140.out 0).trans rfl
 have kz140_1 := (Qa BK140.out 1).trans rfl
 have kz140_2 := (Qa BK140.out 2).trans rfl
 have kz140_3 := (Qa BK140.out 3).trans rfl
 have kz140_4 := (Qa BK140.out 4).trans rfl
 have kz140_5 := (Qa BK140.out 5).trans rfl
 have kz140_6 := (Qa BK140.out 6).trans rfl
 have kz141_0 := (Qa BK141.out 0).trans rfl
 have kz141_1 := (Qa BK141.out 1).trans rfl
 have kz141_2 := (Qa BK141.out 2).trans rfl
 have kz141_3 := (Qa BK141.out 3).trans rfl
 have kz141_4 := (Qa BK141.out 4).trans rfl
 have kz141_5 := (Qa BK141.out 5).trans rfl
 have kz141_6 := (Qa BK141.out 6).trans rfl
 try go_wp2
 have n0_ := Aside0.mk (Qj BK138.out)
 have n1_ := Aside0.mk (Qj BK139.out)
 have n2_ := Aside0.mk (Qj BK140.out)
 have n3_ := Aside0.mk (Qj BK141.out)
 have n4_ := Aside0.mk (Qf HB.out)
 clear BK138
 clear BK139
 clear BK140
 clear BK141
 clear HB
 have BK138 := n0_
 have BK139 := n1_
 have BK140 := n2_
 have BK141 := n3_
 have HB := n4_
 clear n0_ n1_ n2_ n3_ n4_
 refine start_ (n := 28) (S := fun w' => w'.cell? ⟨gb138, 0, none⟩ = some (.int .i64 a0_0) ∧ w'.cell? ⟨gb138, 1, none⟩ = some (.bool a0_1) ∧ w'.cell? ⟨gb138, 2, none⟩ = some (.int .i64 a0_2) ∧ w'.cell? ⟨gb138, 3, none⟩ = some (.int .i64 a0_3) ∧ w'.cell? ⟨gb138, 4, none⟩ = some (.int .i64 a0_4) ∧ w'.cell? ⟨gb138, 5, none⟩ = some (.int .i64 a0_5) ∧ w'.cell? ⟨gb138, 6, none⟩ = some (.int .i64 a0_6) ∧ w'.cell? ⟨gb138, 7, none⟩ = some (.int .i64 a0_7) ∧ w'.cell? ⟨gb138, 8, none⟩ = some (.bool a0_8) ∧ w'.cell? ⟨gb139, 0, none⟩ = some (.int .i64 a1_0) ∧ w'.cell? ⟨gb139, 1, none⟩ = some (.bool a1_1) ∧ w'.cell? ⟨gb139, 2, none⟩ = some (.int .i64 a1_2) ∧ w'.cell? ⟨gb139, 3, none⟩ = some (.int .i64 a1_3) ∧ w'.cell? ⟨gb139, 4, none⟩ = some (.int .i64 a1_4) ∧ w'.cell? ⟨gb139, 5, none⟩ = some (.int .i64 a1_5) ∧ w'.cell? ⟨gb139, 6, none⟩ = some (.int .i64 a1_6) ∧ w'.cell? ⟨gb139, 7, none⟩ = some (.int .i64 a1_7) ∧ w'.cell? ⟨gb139, 8, none⟩ = some (.bool a1_8) ∧ w'.cell? ⟨gb140, 0, none⟩ = some (.int .i64 a0_2) ∧ w'.cell? ⟨gb140, 1, none⟩ = some (.int .i64 a0_3) ∧ w'.cell? ⟨gb140, 2, none⟩ = some (.int .i64 a0_4) ∧ w'.cell? ⟨gb140, 3, none⟩ = some (.int .i64 a0_5) ∧ w'.cell? ⟨gb140, 4, none⟩ = some (.int .i64 a0_6) ∧ w'.cell? ⟨gb140, 5, none⟩ = some (.int .i64 a0_7) ∧ w'.cell? ⟨gb140, 6, none⟩ = some (.bool a0_8) ∧ w'.cell? ⟨gb141, 0, none⟩ = some (.int .i64 a1_2) ∧ w'.cell? ⟨gb141, 1, none⟩ = some (.int .i64 a1_3) ∧ w'.cell? ⟨gb141, 2, none⟩ = some (.int .i64 a1_4) ∧ w'.cell? ⟨gb141, 3, none⟩ = some (.int .i64 a1_5) ∧ w'.cell? ⟨gb141, 4, none⟩ = some (.int .i64 a1_6) ∧ w'.cell? ⟨gb141, 5, none⟩ = some (.int .i64 a1_7) ∧ w'.cell? ⟨gb141, 6, none⟩ = some (.bool a1_8)) (ds := []) #[false, false, false, false, false, false, false, false, false, false, false, false, false, false, false, false, false, false, false, false, false, false, false, false, false, false, false, false] (by kernel_rfl) rfl rfl ⟨(Qa BK138.out 0).trans rfl, (Qa BK138.out 1).trans rfl, (Qa BK138.out 2).trans rfl, (Qa BK138.out 3).trans rfl, (Qa BK138.out 4).trans rfl, (Qa BK138.out 5).trans rfl, (Qa BK138.out 6).trans rfl, (Qa BK138.out 7).trans rfl, (Qa BK138.out 8).trans rfl, (Qa BK139.out 0).trans rfl, (Qa BK139.out 1).trans rfl, (Qa BK139.out 2).trans rfl, (Qa BK139.out 3).trans rfl, (Qa BK139.out 4).trans rfl, (Qa BK139.out 5).trans rfl, (Qa BK139.out 6).trans rfl, (Qa BK139.out 7).trans rfl, (Qa BK139.out 8).trans rfl, (Qa BK140.out 0).trans rfl, (Qa BK140.out 1).trans rfl, (Qa BK140.out 2).trans rfl, (Qa BK140.out 3).trans rfl, (Qa BK140.out 4).trans rfl, (Qa BK140.out 5).trans rfl, (Qa BK140.out 6).trans rfl, (Qa BK141.out 0).trans rfl, (Qa BK141.out 1).trans rfl, (Qa BK141.out 2).trans rfl, (Qa BK141.out 3).trans rfl, (Qa BK141.out 4).trans rfl, (Qa BK141.out 5).trans rfl, (Qa BK141.out 6).trans rfl⟩ (fun hHeld => ?_); refine with_tabW impl_Held_order.tab2 impl_Held_order.bits2 (fun HT_ HW_ => ?_)
 generalize w29.drew = w30 at BK138 BK139 BK140 BK141 HB hHeld ⊢
 refine Q1 (i := 0) (N := some 11) (v := ?_) (a' := ?_) #[true, false, false, false, false, false, false, false, false, false, false, false, false, false, false, false, false, false, false, false, false, false, false, false, false, false, false, false] rfl rfl (Q0 HT_.out (by kernel_rfl)) (fun _ _ _ h => h) (Or.inl ⟨by rfl, ?_⟩) ?_ ?_
 rotate_left
 ·intro w'
  go_simp
  with_reducible rfl
 rotate_left
 ·simp only [Act.put, List.setIfInBounds_toArray, List.set_cons_zero, List.set_cons_succ, Qu, Qv]
  rfl
 refine Q1 (i := 2) (N := some 13) (v := ?_) (a' := ?_) #[true, false, true, false, false, false, false, false, false, false, false, false, false, false, false, false, false, false, false, false, false, false, false, false, false, false, false, false] rfl rfl (Q0 HT_.out (by kernel_rfl)) (fun _ _ _ h => h) (Or.inl ⟨by rfl, ?_⟩) ?_ ?_
 rotate_left
 ·intro w'
  go_simp
  with_reducible rfl
 rotate_left
 ·simp only [Act.put, List.setIfInBounds_toArray, List.set_cons_zero, List.set_cons_succ, Qu, Qv]
  rfl
 refine Q1 (i := 5) (N := some 16) (v := ?_) (a' := ?_) #[true, false, true, false, false, true, false, false, false, false, false, false, false, false, false, false, false, false, false, false, false, false, false, false, false, false, false, false] rfl rfl (Q0 HT_.out (by kernel_rfl)) (fun _ _ _ h => h) (Or.inl ⟨by rfl, ?_⟩) ?_ ?_
 rotate_left
 ·intro w'
  go_simp
  with_reducible rfl
 rotate_left
 ·simp only [Act.put, List.setIfInBounds_toArray, List.set_cons_zero, List.set_cons_succ, Qu, Qv]
  rfl
 refine Q1 (i := 7) (N := some 18) (v := ?_) (a' := ?_) #[true, false, true, false, false, true, false, true, false, false, false, false, false, false, false, false, false, false, false, false, false, false, false, false, false, false, false, false] rfl rfl (Q0 HT_.out (by kernel_rfl)) (fun _ _ _ h => h) (Or.inl ⟨by rfl, ?_⟩) ?_ ?_
 rotate_left
 ·intro w'
  go_simp
  with_reducible rfl
 rotate_left
 ·simp only [Act.put, List.setIfInBounds_toArray, List.set_cons_zero, List.set_cons_succ, Qu, Qv]
  rfl
 refine Q1 (i := 10) (N := some 21) (v := ?_) (a' := ?_) #[true, false, true, false, false, true, false, true, false, false, true, false, false, false, false, false, false, false, false, false, false, false, false, false, false, false, false, false] rfl rfl (Q0 HT_.out (by kernel_rfl)) (fun _ _ _ h => h) (Or.inl ⟨by rfl, ?_⟩) ?_ ?_
 rotate_left
 ·intro w'
  go_simp
  with_reducible rfl
 rotate_left
 ·simp only [Act.put, List.setIfInBounds_toArray, List.set_cons_zero, List.set_cons_succ, Qu, Qv]
  rfl
 refine Q1 (i := 12) (N := some 23) (v := ?_) (a' := ?_) #[true, false, true, false, false, true, false, true, false, false, true, false, true, false, false, false, false, false, false, false, false, false, false, false, false, false, false, false] rfl rfl (Q0 HT_.out (by kernel_rfl)) (fun _ _ _ h => h) (Or.inl ⟨by rfl, ?_⟩) ?_ ?_
 rotate_left
 ·intro w'
  go_simp
  with_reducible rfl
 rotate_left
 ·simp only [Act.put, List.setIfInBounds_toArray, List.set_cons_zero, List.set_cons_succ, Qu, Qv]
  rfl
 refine Q1 (i := 15) (N := some 26) (v := ?_) (a' := ?_) #[true, false, true, false, false, true, false, true, false, false, true, false, true, false, false, true, false, false, false, false, false, false, false, false, false, false, false, false] rfl rfl (Q0 HT_.out (by kernel_rfl)) (fun _ _ _ h => h) (Or.inl ⟨by rfl, ?_⟩) ?_ ?_
 rotate_left
 ·intro w'
  go_simp
  with_reducible rfl
 rotate_left
 ·simp only [Act.put, List.setIfInBounds_toArray, List.set_cons_zero, List.set_cons_succ, Qu, Qv]
  rfl
 refine Q1 (i := 17) (N := some 28) (v := ?_) (a' := ?_) #[true, false, true, false, false, true, false, true, false, false, true, false, true, false, false, true, false, true, false, false, false, false, false, false, false, false, false, false] rfl rfl (Q0 HT_.out (by kernel_rfl)) (fun _ _ _ h => h) (Or.inl ⟨by rfl, ?_⟩) ?_ ?_
 rotate_left
 ·intro w'
  go_simp
  with_reducible rfl
 rotate_left
 ·simp only [Act.put, List.setIfInBounds_toArray, List.set_cons_zero, List.set_cons_succ, Qu, Qv]
  rfl
 refine Q1 (i := 20) (N := some 31) (v := ?_) (a' := ?_) #[true, false, true, false, false, true, false, true, false, false, true, false, true, false, false, true, false, true, false, false, true, false, false, false, false, false, false, false] rfl rfl (Q0 HT_.out (by kernel_rfl)) (fun _ _ _ h => h) (Or.inl ⟨by rfl, ?_⟩) ?_ ?_
 rotate_left
 ·intro w'
  go_simp
  with_reducible rfl
 rotate_left
 ·simp only [Act.put, List.setIfInBounds_toArray, List.set_cons_zero, List.set_cons_succ, Qu, Qv]
  rfl
 refine Q1 (i := 22) (N := some 33) (v := ?_) (a' := ?_) #[true, false, true, false, false, true, false, true, false, false, true, false, true, false, false, true, false, true, false, false, true, false, true, false, false, false, false, false] rfl rfl (Q0 HT_.out (by kernel_rfl)) (fun _ _ _ h => h) (Or.inl ⟨by rfl, ?_⟩) ?_ ?_
 rotate_left
 ·intro w'
  go_simp
  with_reducible rfl
 rotate_left
 ·simp only [Act.put, List.setIfInBounds_toArray, List.set_cons_zero, List.set_cons_succ, Qu, Qv]
  rfl
 refine take_ (i := 1) (N := some 12) (v := ?_) (a' := ?_) #[true, true, true, false, false, true, false, true, false, false, true, false, true, false, false, true, false, true, false, false, true, false, true, false, false, false, false, false] rfl rfl (take_ofW HT_.out HW_.out (by kernel_rfl)) (fun _ _ _ h => h) (Or.inl ⟨by rfl, ?_⟩) hHeld ?_ ?_
 rotate_left
 ·rintro w' ⟨s0, s1, s2, s3, s4, s5, s6, s7, s8, s9, s10, s11, s12, s13, s14, s15, s16, s17, s18, s19, s20, s21, s22, s23, s24, s25, s26, s27, s28, s29, s30, s31⟩
  go_simp
  with_reducible rfl
 rotate_left
 ·simp only [Act.put, List.setIfInBounds_toArray, List.set_cons_zero, List.set_cons_succ, Qu, Qv]
  rfl
 refine take_ (i := 3) (N := some 14) (v := ?_) (a' := ?_) #[true, true, true, true, false, true, false, true, false, false, true, false, true, false, false, true, false, true, false, false, true, false, true, false, false, false, false, false] rfl rfl (take_ofW HT_.out HW_.out (by kernel_rfl)) (fun _ _ _ h => h) (Or.inl ⟨by rfl, ?_⟩) hHeld ?_ ?_
 rotate_left
 ·rintro w' ⟨s0, s1, s2, s3, s4, s5, s6, s7, s8, s9, s10, s11, s12, s13, s14, s15, s16, s17, s18, s19, s20, s21, s22, s23, s24, s25, s26, s27, s28, s29, s30, s31⟩
  go_simp
  with_reducible rfl
 rotate_left
 ·simp only [Act.put, List.setIfInBounds_toArray, List.set_cons_zero, List.set_cons_succ, Qu, Qv]
  rfl
 refine take_ (i := 6) (N := some 17) (v := ?_) (a' := ?_) #[true, true, true, true, false, true, true, true, false, false, true, false, true, false, false, true, false, true, false, false, true, false, true, false, false, false, false, false] rfl rfl (take_ofW HT_.out HW_.out (by kernel_rfl)) (fun _ _ _ h => h) (Or.inl ⟨by rfl, ?_⟩) hHeld ?_ ?_
 rotate_left
 ·rintro w' ⟨s0, s1, s2, s3, s4, s5, s6, s7, s8, s9, s10, s11, s12, s13, s14, s15, s16, s17, s18, s19, s20, s21, s22, s23, s24, s25, s26, s27, s28, s29, s30, s31⟩
  go_simp
  with_reducible rfl
 rotate_left
 ·simp only [Act.put, List.setIfInBounds_toArray, List.set_cons_zero, List.set_cons_succ, Qu, Qv]
  rfl
 refine take_ (i := 8) (N := some 19) (v := ?_) (a' := ?_) #[true, true, true, true, false, true, true, true, true, false, true, false, true, false, false, true, false, true, false, false, true, false, true, false, false, false, false, false] rfl rfl (take_ofW HT_.out HW_.out (by kernel_rfl)) (fun _ _ _ h => h) (Or.inl ⟨by rfl, ?_⟩) hHeld ?_ ?_
 rotate_left
 ·rintro w' ⟨s0, s1, s2, s3, s4, s5, s6, s7, s8, s9, s10, s11, s12, s13, s14, s15, s16, s17, s18, s19, s20, s21, s22, s23, s24, s25, s26, s27, s28, s29, s30, s31⟩
  go_simp
  with_reducible rfl
 rotate_left
 ·simp only [Act.put, List.setIfInBounds_toArray, List.set_cons_zero, List.set_cons_succ, Qu, Qv]
  rfl
 refine take_ (i := 11) (N := some 22) (v := ?_) (a' := ?_) #[true, true, true, true, false, true, true, true, true, false, true, true, true, false, false, true, false, true, false, false, true, false, true, false, false, false, false, false] rfl rfl (take_ofW HT_.out HW_.out (by kernel_rfl)) (fun _ _ _ h => h) (Or.inl ⟨by rfl, ?_⟩) hHeld ?_ ?_
 rotate_left
 ·rintro w' ⟨s0, s1, s2, s3, s4, s5, s6, s7, s8, s9, s10, s11, s12, s13, s14, s15, s16, s17, s18, s19, s20, s21, s22, s23, s24, s25, s26, s27, s28, s29, s30, s31⟩
  go_simp
  with_reducible rfl
 rotate_left
 ·simp only [Act.put, List.setIfInBounds_toArray, List.set_cons_zero, List.set_cons_succ, Qu, Qv]
  rfl
 refine take_ (i := 13) (N := some 24) (v := ?_) (a' := ?_) #[true, true, true, true, false, true, true, true, true, false, true, true, true, true, false, true, false, true, false, false, true, false, true, false, false, false, false, false] rfl rfl (take_ofW HT_.out HW_.out (by kernel_rfl)) (fun _ _ _ h => h) (Or.inl ⟨by rfl, ?_⟩) hHeld ?_ ?_
 rotate_left
 ·rintro w' ⟨s0, s1, s2, s3, s4, s5, s6, s7, s8, s9, s10, s11, s12, s13, s14, s15, s16, s17, s18, s19, s20, s21, s22, s23, s24, s25, s26, s27, s28, s29, s30, s31⟩
  go_simp
  with_reducible rfl
 rotate_left
 ·simp only [Act.put, List.setIfInBounds_toArray, List.set_cons_zero, List.set_cons_succ, Qu, Qv]
  rfl
 refine take_ (i := 16) (N := some 27) (v := ?_) (a' := ?_) #[true, true, true, true, false, true, true, true, true, false, true, true, true, true, false, true, true, true, false, false, true, false, true, false, false, false, false, false] rfl rfl (take_ofW HT_.out HW_.out (by kernel_rfl)) (fun _ _ _ h => h) (Or.inl ⟨by rfl, ?_⟩) hHeld ?_ ?_
 rotate_left
 ·rintro w' ⟨s0, s1, s2, s3, s4, s5, s6, s7, s8, s9, s10, s11, s12, s13, s14, s15, s16, s17, s18, s19, s20, s21, s22, s23, s24, s25, s26, s27, s28, s29, s30, s31⟩
  go_simp
  with_reducible rfl
 rotate_left
 ·simp only [Act.put, List.setIfInBounds_toArray, List.set_cons_zero, List.set_cons_succ, Qu, Qv]
  rfl
 refine take_ (i := 18) (N := some 29) (v := ?_) (a' := ?_) #[true, true, true, true, false, true, true, true, true, false, true, true, true, true, false, true, true, true, true, false, true, false, true, false, false, false, false, false] rfl rfl (take_ofW HT_.out HW_.out (by kernel_rfl)) (fun _ _ _ h => h) (Or.inl ⟨by rfl, ?_⟩) hHeld ?_ ?_
 rotate_left
 ·rintro w' ⟨s0, s1, s2, s3, s4, s5, s6, s7, s8, s9, s10, s11, s12, s13, s14, s15, s16, s17, s18, s19, s20, s21, s22, s23, s24, s25, s26, s27, s28, s29, s30, s31⟩
  go_simp
  with_reducible rfl
 rotate_left
 ·simp only [Act.put, List.setIfInBounds_toArray, List.set_cons_zero, List.set_cons_succ, Qu, Qv]
  rfl
 refine take_ (i := 21) (N := some 32) (v := ?_) (a' := ?_) #[true, true, true, true, false, true, true, true, true, false, true, true, true, true, false, true, true, true, true, false, true, true, true, false, false, false, false, false] rfl rfl (take_ofW HT_.out HW_.out (by kernel_rfl)) (fun _ _ _ h => h) (Or.inl ⟨by rfl, ?_⟩) hHeld ?_ ?_
 rotate_left
 ·rintro w' ⟨s0, s1, s2, s3, s4, s5, s6, s7, s8, s9, s10, s11, s12, s13, s14, s15, s16, s17, s18, s19, s20, s21, s22, s23, s24, s25, s26, s27, s28, s29, s30, s31⟩
  go_simp
  with_reducible rfl
 rotate_left
 ·simp only [Act.put, List.setIfInBounds_toArray, List.set_cons_zero, List.set_cons_succ, Qu, Qv]
  rfl
 refine take_ (i := 23) (N := some 34) (v := ?_) (a' := ?_) #[true, true, true, true, false, true, true, true, true, false, true, true, true, true, false, true, true, true, true, false, true, true, true, true, false, false, false, false] rfl rfl (take_ofW HT_.out HW_.out (by kernel_rfl)) (fun _ _ _ h => h) (Or.inl ⟨by rfl, ?_⟩) hHeld ?_ ?_
 rotate_left
 ·rintro w' ⟨s0, s1, s2, s3, s4, s5, s6, s7, s8, s9, s10, s11, s12, s13, s14, s15, s16, s17, s18, s19, s20, s21, s22, s23, s24, s25, s26, s27, s28, s29, s30, s31⟩
  go_simp
  with_reducible rfl
 rotate_left
 ·simp only [Act.put, List.setIfInBounds_toArray, List.set_cons_zero, List.set_cons_succ, Qu, Qv]
  rfl
 refine one_ (i := 4) (N := some 15) #[true, true, true, true, true, true, true, true, true, false, true, true, true, true, false, true, true, true, true, false, true, true, true, true, false, false, false, false] rfl rfl (one_of HT_.out (by kernel_rfl)) (by decide) (fun K hK => ?_)
 refine goes_ Try.func136 (by kernel_rfl) rfl #[.int .i64 a0_0, .int .i64 a1_0] (by rfl) rfl rfl (by (try simp only [List.map_toArray, List.map_cons, List.map_nil]); first | done | rfl | (simp only [List.length_drop, List.length_take]; rfl)) ?_
 with_reducible refine (cmp_Compare_int64.calls a0_0 a1_0 t142 _ A3.out).mono ?_
 rintro e w' ⟨rfl, ⟨nd, rfl⟩⟩
 refine ⟨_, rfl, ?_⟩
 refine hK.out _ _ ⟨(Qa BK138.out 0).trans rfl, (Qa BK138.out 1).trans rfl, (Qa BK138.out 2).trans rfl, (Qa BK138.out 3).trans rfl, (Qa BK138.out 4).trans rfl, (Qa BK138.out 5).trans rfl, (Qa BK138.out 6).trans rfl, (Qa BK138.out 7).trans rfl, (Qa BK138.out 8).trans rfl, (Qa BK139.out 0).trans rfl, (Qa BK139.out 1).trans rfl, (Qa BK139.out 2).trans rfl, (Qa BK139.out 3).trans rfl, (Qa BK139.out 4).trans rfl, (Qa BK139.out 5).trans rfl, (Qa BK139.out 6).trans rfl, (Qa BK139.out 7).trans rfl, (Qa BK139.out 8).trans rfl, (Qa BK140.out 0).trans rfl, (Qa BK140.out 1).trans rfl, (Qa BK140.out 2).trans rfl, (Qa BK140.out 3).trans rfl, (Qa BK140.out 4).trans rfl, (Qa BK140.out 5).trans rfl, (Qa BK140.out 6).trans rfl, (Qa BK141.out 0).trans rfl, (Qa BK141.out 1).trans rfl, (Qa BK141.out 2).trans rfl, (Qa BK141.out 3).trans rfl, (Qa BK141.out 4).trans rfl, (Qa BK141.out 5).trans rfl, (Qa BK141.out 6).trans rfl⟩ (fun hHeld => ?_)
 clear hK K
 refine norm_ (a' := ?_) ?_ ?_
 rotate_left
 ·show Act.put _ (some 15) _ = _
  simp only [Act.put, List.setIfInBounds_toArray, List.set_cons_zero, List.set_cons_succ, Qu, Qv]
  rfl
 refine one_ (i := 9) (N := some 20) #[true, true, true, true, true, true, true, true, true, true, true, true, true, true, false, true, true, true, true, false, true, true, true, true, false, false, false, false] rfl rfl (one_of HT_.out (by kernel_rfl)) (by decide) (fun K hK => ?_)
 refine goes_ Try.func136 (by kernel_rfl) rfl #[.int .i64 a0_2, .int .i64 a1_2] (by rfl) rfl rfl (by (try simp only [List.map_toArray, List.map_cons, List.map_nil]); first | done | rfl | (simp only [List.length_drop, List.length_take]; rfl)) ?_
 with_reducible refine (cmp_Compare_int64.calls a0_2 a1_2 t143 _ A4.out).mono ?_
 rintro e w' ⟨rfl, ⟨nd, rfl⟩⟩
 refine ⟨_, rfl, ?_⟩
 refine hK.out _ _ ⟨(Qa BK138.out 0).trans rfl, (Qa BK138.out 1).trans rfl, (Qa BK138.out 2).trans rfl, (Qa BK138.out 3).trans rfl, (Qa BK138.out 4).trans rfl, (Qa BK138.out 5).trans rfl, (Qa BK138.out 6).trans rfl, (Qa BK138.out 7).trans rfl, (Qa BK138.out 8).trans rfl, (Qa BK139.out 0).trans rfl, (Qa BK139.out 1).trans rfl, (Qa BK139.out 2).trans rfl, (Qa BK139.out 3).trans rfl, (Qa BK139.out 4).trans rfl, (Qa BK139.out 5).trans rfl, (Qa BK139.out 6).trans rfl, (Qa BK139.out 7).trans rfl, (Qa BK139.out 8).trans rfl, (Qa BK140.out 0).trans rfl, (Qa BK140.out 1).trans rfl, (Qa BK140.out 2).trans rfl, (Qa BK140.out 3).trans rfl, (Qa BK140.out 4).trans rfl, (Qa BK140.out 5).trans rfl, (Qa BK140.out 6).trans rfl, (Qa BK141.out 0).trans rfl, (Qa BK141.out 1).trans rfl, (Qa BK141.out 2).trans rfl, (Qa BK141.out 3).trans rfl, (Qa BK141.out 4).trans rfl, (Qa BK141.out 5).trans rfl, (Qa BK141.out 6).trans rfl⟩ (fun hHeld => ?_)
 clear hK K
 refine norm_ (a' := ?_) ?_ ?_
 rotate_left
 ·show Act.put _ (some 20) _ = _
  simp only [Act.put, List.setIfInBounds_toArray, List.set_cons_zero, List.set_cons_succ, Qu, Qv]
  rfl
 refine one_ (i := 14) (N := some 25) #[true, true, true, true, true, true, true, true, true, true, true, true, true, true, true, true, true, true, true, false, true, true, true, true, false, false, false, false] rfl rfl (one_of HT_.out (by kernel_rfl)) (by decide) (fun K hK => ?_)
 refine goes_ Try.func136 (by kernel_rfl) rfl #[.int .i64 a0_3, .int .i64 a1_3] (by rfl) rfl rfl (by (try simp only [List.map_toArray, List.map_cons, List.map_nil]); first | done | rfl | (simp only [List.length_drop, List.length_take]; rfl)) ?_
 with_reducible refine (cmp_Compare_int64.calls a0_3 a1_3 t144 _ A5.out).mono ?_
 rintro e w' ⟨rfl, ⟨nd, rfl⟩⟩
 refine ⟨_, rfl, ?_⟩
 refine hK.out _ _ ⟨(Qa BK138.out 0).trans rfl, (Qa BK138.out 1).trans rfl, (Qa BK138.out 2).trans rfl, (Qa BK138.out 3).trans rfl, (Qa BK138.out 4).trans rfl, (Qa BK138.out 5).trans rfl, (Qa BK138.out 6).trans rfl, (Qa BK138.out 7).trans rfl, (Qa BK138.out 8).trans rfl, (Qa BK139.out 0).trans rfl, (Qa BK139.out 1).trans rfl, (Qa BK139.out 2).trans rfl, (Qa BK139.out 3).trans rfl, (Qa BK139.out 4).trans rfl, (Qa BK139.out 5).trans rfl, (Qa BK139.out 6).trans rfl, (Qa BK139.out 7).trans rfl, (Qa BK139.out 8).trans rfl, (Qa BK140.out 0).trans rfl, (Qa BK140.out 1).trans rfl, (Qa BK140.out 2).trans rfl, (Qa BK140.out 3).trans rfl, (Qa BK140.out 4).trans rfl, (Qa BK140.out 5).trans rfl, (Qa BK140.out 6).trans rfl, (Qa BK141.out 0).trans rfl, (Qa BK141.out 1).trans rfl, (Qa BK141.out 2).trans rfl, (Qa BK141.out 3).trans rfl, (Qa BK141.out 4).trans rfl, (Qa BK141.out 5).trans rfl, (Qa BK141.out 6).trans rfl⟩ (fun hHeld => ?_)
 clear hK K
 refine norm_ (a' := ?_) ?_ ?_
 rotate_left
 ·show Act.put _ (some 25) _ = _
  simp only [Act.put, List.setIfInBounds_toArray, List.set_cons_zero, List.set_cons_succ, Qu, Qv]
  rfl
 refine one_ (i := 19) (N := some 30) #[true, true, true, true, true, true, true, true, true, true, true, true, true, true, true, true, true, true, true, true, true, true, true, true, false, false, false, false] rfl rfl (one_of HT_.out (by kernel_rfl)) (by decide) (fun K hK => ?_)
 refine goes_ Try.func136 (by kernel_rfl) rfl #[.int .i64 a0_4, .int .i64 a1_4] (by rfl) rfl rfl (by (try simp only [List.map_toArray, List.map_cons, List.map_nil]); first | done | rfl | (simp only [List.length_drop, List.length_take]; rfl)) ?_
 with_reducible refine (cmp_Compare_int64.calls a0_4 a1_4 t145 _ A6.out).mono ?_
 rintro e w' ⟨rfl, ⟨nd, rfl⟩⟩
 refine ⟨_, rfl, ?_⟩
 refine hK.out _ _ ⟨(Qa BK138.out 0).trans rfl, (Qa BK138.out 1).trans rfl, (Qa BK138.out 2).trans rfl, (Qa BK138.out 3).trans rfl, (Qa BK138.out 4).trans rfl, (Qa BK138.out 5).trans rfl, (Qa BK138.out 6).trans rfl, (Qa BK138.out 7).trans rfl, (Qa BK138.out 8).trans rfl, (Qa BK139.out 0).trans rfl, (Qa BK139.out 1).trans rfl, (Qa BK139.out 2).trans rfl, (Qa BK139.out 3).trans rfl, (Qa BK139.out 4).trans rfl, (Qa BK139.out 5).trans rfl, (Qa BK139.out 6).trans rfl, (Qa BK139.out 7).trans rfl, (Qa BK139.out 8).trans rfl, (Qa BK140.out 0).trans rfl, (Qa BK140.out 1).trans rfl, (Qa BK140.out 2).trans rfl, (Qa BK140.out 3).trans rfl, (Qa BK140.out 4).trans rfl, (Qa BK140.out 5).trans rfl, (Qa BK140.out 6).trans rfl, (Qa BK141.out 0).trans rfl, (Qa BK141.out 1).trans rfl, (Qa BK141.out 2).trans rfl, (Qa BK141.out 3).trans rfl, (Qa BK141.out 4).trans rfl, (Qa BK141.out 5).trans rfl, (Qa BK141.out 6).trans rfl⟩ (fun hHeld => ?_)
 clear hK K
 refine norm_ (a' := ?_) ?_ ?_
 rotate_left
 ·show Act.put _ (some 30) _ = _
  simp only [Act.put, List.setIfInBounds_toArray, List.set_cons_zero, List.set_cons_succ, Qu, Qv]
  rfl
 refine one_ (i := 24) (N := some 35) #[true, true, true, true, true, true, true, true, true, true, true, true, true, true, true, true, true, true, true, true, true, true, true, true, true, false, false, false] rfl rfl (one_of HT_.out (by kernel_rfl)) (by decide) (fun K hK => ?_)
 refine goes_ Try.func136 (by kernel_rfl) rfl #[.int .i64 a0_6, .int .i64 a1_6] (by rfl) rfl rfl (by (try simp only [List.map_toArray, List.map_cons, List.map_nil]); first | done | rfl | (simp only [List.length_drop, List.length_take]; rfl)) ?_
 with_reducible refine (cmp_Compare_int64.calls a0_6 a1_6 t146 _ A7.out).mono ?_
 rintro e w' ⟨rfl, ⟨nd, rfl⟩⟩
 refine ⟨_, rfl, ?_⟩
 refine hK.out _ _ ⟨(Qa BK138.out 0).trans rfl, (Qa BK138.out 1).trans rfl, (Qa BK138.out 2).trans rfl, (Qa BK138.out 3).trans rfl, (Qa BK138.out 4).trans rfl, (Qa BK138.out 5).trans rfl, (Qa BK138.out 6).trans rfl, (Qa BK138.out 7).trans rfl, (Qa BK138.out 8).trans rfl, (Qa BK139.out 0).trans rfl, (Qa BK139.out 1).trans rfl, (Qa BK139.out 2).trans rfl, (Qa BK139.out 3).trans rfl, (Qa BK139.out 4).trans rfl, (Qa BK139.out 5).trans rfl, (Qa BK139.out 6).trans rfl, (Qa BK139.out 7).trans rfl, (Qa BK139.out 8).trans rfl, (Qa BK140.out 0).trans rfl, (Qa BK140.out 1).trans rfl, (Qa BK140.out 2).trans rfl, (Qa BK140.out 3).trans rfl, (Qa BK140.out 4).trans rfl, (Qa BK140.out 5).trans rfl, (Qa BK140.out 6).trans rfl, (Qa BK141.out 0).trans rfl, (Qa BK141.out 1).trans rfl, (Qa BK141.out 2).trans rfl, (Qa BK141.out 3).trans rfl, (Qa BK141.out 4).trans rfl, (Qa BK141.out 5).trans rfl, (Qa BK141.out 6).trans rfl⟩ (fun hHeld => ?_)
 clear hK K
 refine norm_ (a' := ?_) ?_ ?_
 rotate_left
 ·show Act.put _ (some 35) _ = _
  simp only [Act.put, List.setIfInBounds_toArray, List.set_cons_zero, List.set_cons_succ, Qu, Qv]
  rfl
 refine one_ (i := 25) (N := some 36) #[true, true, true, true, true, true, true, true, true, true, true, true, true, true, true, true, true, true, true, true, true, true, true, true, true, true, false, false] rfl rfl (one_of HT_.out (by kernel_rfl)) (by decide) (fun K hK => ?_)
 refine Kd.R_lit_step (Kd.int .i64) _ 3 ?hg (N := 36) ?hd (xs := ([t142, t143, t144, t145, t146] : List Int)) (inner := [.int .i64 t142, .int .i64 t143, .int .i64 t144, .int .i64 t145, .int .i64 t146]) (ok := fun _ => True) (okp := fun _ => True) ?hr ?hp (fun _ hk => hk) trivial (Below.refl _ _) (Nat.le_refl _) (by simp) ?_; (case hd => rfl); (case hg => rfl); (case hr => first | (go_simp; done) | (go_simp; rfl)); (case hp => exact (Reps.one (show Kd.M (Kd.int .i64) _ _ _ t142 [.int .i64 t142] from rfl) (Reps.one (show Kd.M (Kd.int .i64) _ _ _ t143 [.int .i64 t143] from rfl) (Reps.one (show Kd.M (Kd.int .i64) _ _ _ t144 [.int .i64 t144] from rfl) (Reps.one (show Kd.M (Kd.int .i64) _ _ _ t145 [.int .i64 t145] from rfl) (Reps.one (show Kd.M (Kd.int .i64) _ _ _ t146 [.int .i64 t146] from rfl) (Reps.none _ _)))))))
 intro v148 w31 ho32 hb hg_ hnew_
 clear hg_ hnew_
 (first | rw [← Ny147.out] at ho32 | (simp only [Int.reduceToNat] at ho32; rw [← Ny147.out] at ho32))
 have n0_ := Aside0.mk (Kd.R_lower ho32 (Qk (by repeat (first | (with_reducible first | exact HB.out | apply Qe | apply Qb | apply Qf | refine Qg ?_ GE138.out | refine Qg ?_ GE139.out | refine Qg ?_ GE140.out | refine Qg ?_ GE141.out) | exact HB.out))))
 have n1_ := Aside0.mk (Qo (g := gb138) (o := .cells #[.int .i64 a0_0, .bool a0_1, .int .i64 a0_2, .int .i64 a0_3, .int .i64 a0_4, .int .i64 a0_5, .int .i64 a0_6, .int .i64 a0_7, .bool a0_8] 73 (0, 0)) (by (with_reducible repeat (first | refine Qh ?_ _ | refine Qj ?_ | refine Qi ?_ _)); exact BK138.out) hb)
 have n2_ := Aside0.mk (Qo (g := gb139) (o := .cells #[.int .i64 a1_0, .bool a1_1, .int .i64 a1_2, .int .i64 a1_3, .int .i64 a1_4, .int .i64 a1_5, .int .i64 a1_6, .int .i64 a1_7, .bool a1_8] 73 (0, 0)) (by (with_reducible repeat (first | refine Qh ?_ _ | refine Qj ?_ | refine Qi ?_ _)); exact BK139.out) hb)
 have n3_ := Aside0.mk (Qo (g := gb140) (o := .cells #[.int .i64 a0_2, .int .i64 a0_3, .int .i64 a0_4, .int .i64 a0_5, .int .i64 a0_6, .int .i64 a0_7, .bool a0_8] 42 (0, 0)) (by (with_reducible repeat (first | refine Qh ?_ _ | refine Qj ?_ | refine Qi ?_ _)); exact BK140.out) hb)
 have n4_ := Aside0.mk (Qo (g := gb141) (o := .cells #[.int .i64 a1_2, .int .i64 a1_3, .int .i64 a1_4, .int .i64 a1_5, .int .i64 a1_6, .int .i64 a1_7, .bool a1_8] 42 (0, 0)) (by (with_reducible repeat (first | refine Qh ?_ _ | refine Qj ?_ | refine Qi ?_ _)); exact BK141.out) hb)
 have n5_ := Aside0.mk (Ql (by repeat (first | (with_reducible first | exact HB.out | apply Qe | apply Qb | apply Qf | refine Qg ?_ GE138.out | refine Qg ?_ GE139.out | refine Qg ?_ GE140.out | refine Qg ?_ GE141.out) | exact HB.out)) hb)
 clear BK138
 clear BK139
 clear BK140
 clear BK141
 clear HB
 have HO149 := n0_
 have BK138 := n1_
 have BK139 := n2_
 have BK140 := n3_
 have BK141 := n4_
 have HB := n5_
 clear n0_ n1_ n2_ n3_ n4_ n5_
 clear hb ho32
 obtain ⟨Ao33, co33, eo33⟩ := Kd.R_slice HO149.out
 (first | subst eo33 | (injection eo33 with f1_ f2_ f3_; have f4_ := f1_.symm; have f5_ := f3_.symm; clear f1_ f2_ f3_; subst f4_; subst f5_))
 refine hK.out _ _ ⟨(Qa BK138.out 0).trans rfl, (Qa BK138.out 1).trans rfl, (Qa BK138.out 2).trans rfl, (Qa BK138.out 3).trans rfl, (Qa BK138.out 4).trans rfl, (Qa BK138.out 5).trans rfl, (Qa BK138.out 6).trans rfl, (Qa BK138.out 7).trans rfl, (Qa BK138.out 8).trans rfl, (Qa BK139.out 0).trans rfl, (Qa BK139.out 1).trans rfl, (Qa BK139.out 2).trans rfl, (Qa BK139.out 3).trans rfl, (Qa BK139.out 4).trans rfl, (Qa BK139.out 5).trans rfl, (Qa BK139.out 6).trans rfl, (Qa BK139.out 7).trans rfl, (Qa BK139.out 8).trans rfl, (Qa BK140.out 0).trans rfl, (Qa BK140.out 1).trans rfl, (Qa BK140.out 2).trans rfl, (Qa BK140.out 3).trans rfl, (Qa BK140.out 4).trans rfl, (Qa BK140.out 5).trans rfl, (Qa BK140.out 6).trans rfl, (Qa BK141.out 0).trans rfl, (Qa BK141.out 1).trans rfl, (Qa BK141.out 2).trans rfl, (Qa BK141.out 3).trans rfl, (Qa BK141.out 4).trans rfl, (Qa BK141.out 5).trans rfl, (Qa BK141.out 6).trans rfl⟩ (fun hHeld => ?_)
 clear hK K
 refine norm_ (a' := ?_) ?_ ?_
 rotate_left
 ·show Act.put _ (some 36) _ = _
  simp only [Act.put, List.setIfInBounds_toArray, List.set_cons_zero, List.set_cons_succ, Qu, Qv]
  rfl
 refine one_ (i := 26) (N := some 37) #[true, true, true, true, true, true, true, true, true, true, true, true, true, true, true, true, true, true, true, true, true, true, true, true, true, true, true, false] rfl rfl (one_of HT_.out (by kernel_rfl)) (by decide) (fun K hK => ?_)
 refine goes_ Try.func135 (by kernel_rfl) rfl #[.slice Ao33 y147.length co33] (by rfl) rfl rfl (by (try simp only [List.map_toArray, List.map_cons, List.map_nil]); first | done | rfl | (simp only [List.length_drop, List.length_take]; rfl)) ?_
 with_reducible refine (cmp_Or_int.calls k _ _ y147 t150 _ ?side1 ?side2 A8.out).mono ?_
 (case side1 => repeat (first | exact (Kd.R_reads' HO149.out).2.2 | (with_reducible refine Kd.C_alloc ?_ _) | (with_reducible refine Kd.C_drewN ?_ _) | (with_reducible refine Kd.C_drew ?_)))
 (case side2 => exact (Kd.R_reads' HO149.out).2.1)
 rintro e w' ⟨rfl, ⟨nd, rfl⟩⟩
 refine ⟨_, rfl, ?_⟩
 refine hK.out _ _ ⟨(Qa BK138.out 0).trans rfl, (Qa BK138.out 1).trans rfl, (Qa BK138.out 2).trans rfl, (Qa BK138.out 3).trans rfl, (Qa BK138.out 4).trans rfl, (Qa BK138.out 5).trans rfl, (Qa BK138.out 6).trans rfl, (Qa BK138.out 7).trans rfl, (Qa BK138.out 8).trans rfl, (Qa BK139.out 0).trans rfl, (Qa BK139.out 1).trans rfl, (Qa BK139.out 2).trans rfl, (Qa BK139.out 3).trans rfl, (Qa BK139.out 4).trans rfl, (Qa BK139.out 5).trans rfl, (Qa BK139.out 6).trans rfl, (Qa BK139.out 7).trans rfl, (Qa BK139.out 8).trans rfl, (Qa BK140.out 0).trans rfl, (Qa BK140.out 1).trans rfl, (Qa BK140.out 2).trans rfl, (Qa BK140.out 3).trans rfl, (Qa BK140.out 4).trans rfl, (Qa BK140.out 5).trans rfl, (Qa BK140.out 6).trans rfl, (Qa BK141.out 0).trans rfl, (Qa BK141.out 1).trans rfl, (Qa BK141.out 2).trans rfl, (Qa BK141.out 3).trans rfl, (Qa BK141.out 4).trans rfl, (Qa BK141.out 5).trans rfl, (Qa BK141.out 6).trans rfl⟩ (fun hHeld => ?_)
 clear hK K
 refine norm_ (a' := ?_) ?_ ?_
 rotate_left
 ·show Act.put _ (some 37) _ = _
  simp only [Act.put, List.setIfInBounds_toArray, List.set_cons_zero, List.set_cons_succ, Qu, Qv]
  rfl
 refine Q1 (i := 27) (N := some 4) (v := ?_) (a' := ?_) #[true, true, true, true, true, true, true, true, true, true, true, true, true, true, true, true, true, true, true, true, true, true, true, true, true, true, true, true] rfl rfl (Q0 HT_.out (by kernel_rfl)) (fun _ _ _ h => h) (Or.inl ⟨by rfl, ?_⟩) ?_ ?_
 rotate_left
 ·intro w'
  go_simp
  with_reducible rfl
 rotate_left
 ·simp only [Act.put, List.setIfInBounds_toArray, List.set_cons_zero, List.set_cons_succ, Qu, Qv]
  rfl
 refine done_ (done_of HT_.out (by kernel_rfl)) ?_
 try go_wp2
 go_ret
 exact ⟨by first | rfl | (simp [Qn, Qm] <;> rfl) | (simp [*, Qn, Qm] <;> rfl), by repeat (first | (with_reducible first | exact HB.out | apply Qe | apply Qb | apply Qf | refine Qg ?_ GE138.out | refine Qg ?_ GE139.out | refine Qg ?_ GE140.out | refine Qg ?_ GE141.out) | exact HB.out)⟩
end Go.Proofs.Ytmgmaflfednngaa.PFnExactTellerNew
