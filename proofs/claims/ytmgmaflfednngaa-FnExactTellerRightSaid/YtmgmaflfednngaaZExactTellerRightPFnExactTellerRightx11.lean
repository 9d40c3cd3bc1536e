-- A copy, made by trim.py (its own words shortened): not an official print.
import Derived.Test.YtmgmaflfednngaaZExactTellerRightPFnExactTellerRightx0
import Derived.Test.YtmgmaflfednngaaZExactTellerRightPFnExactTellerRightx10
import Derived.Test.YtmgmaflfednngaaZExactTellerRightSlices
namespace Go.Proofs.Ytmgmaflfednngaa.PFnExactTellerRight
open Go.RowKit Go.Proofs.YtmgmaflfednngaaW.PrintWords Go.Proofs.YtmgmaflfednngaaW.PrintLast Go.Proofs.YtmgmaflfednngaaW.PrintMore
attribute [local go_sem] max2_int min2_int max_two min_two max_three min_three max_four min_four   -- for this text's walks alone
set_option linter.unusedVariables false
set_option linter.unusedSimpArgs false
def impl_Held_order.f (k : Nat) (a0_0 : Int) (a0_1 : Bool) (a0_2 : Int) (a0_3 : Int) (a0_4 : Int) (a0_5 : Int) (a0_6 : Int) (a0_7 : Int) (a0_8 : Bool) (a1_0 : Int) (a1_1 : Bool) (a1_2 : Int) (a1_3 : Int) (a1_4 : Int) (a1_5 : Int) (a1_6 : Int) (a1_7 : Int) (a1_8 : Bool) : Option (Int) := (cmp_Compare_int64.f a0_0 a1_0).bind fun t251 => ((cmp_Compare_int64.f a0_2 a1_2).bind fun t252 => ((cmp_Compare_int64.f a0_3 a1_3).bind fun t253 => ((cmp_Compare_int64.f a0_4 a1_4).bind fun t254 => ((cmp_Compare_int64.f a0_6 a1_6).bind fun t255 => ((cmp_Or_int.f k (([t251, t252, t253, t254, t255] : List Int))).bind fun t259 => (some t259))))))
theorem impl_Held_order.mono : ∀ a0 a1 a2 a3 a4 a5 a6 a7 a8 a9 a10 a11 a12 a13 a14 a15 a16 a17 k, LeO (impl_Held_order.f k a0 a1 a2 a3 a4 a5 a6 a7 a8 a9 a10 a11 a12 a13 a14 a15 a16 a17) (impl_Held_order.f (k + 1) a0 a1 a2 a3 a4 a5 a6 a7 a8 a9 a10 a11 a12 a13 a14 a15 a16 a17) := by
 intro a0 a1 a2 a3 a4 a5 a6 a7 a8 a9 a10 a11 a12 a13 a14 a15 a16 a17 k
 unfold impl_Held_order.f
 repeat' first
   | (with_reducible exact cmp_Or_int.mono _ _)
   | (with_reducible exact LeO.refl _)
   | (with_reducible exact LeO.none _)
   | (with_reducible refine LeO.ite ?_ ?_)
   | (with_reducible refine LeO.bind ?_ (fun _ => ?_))
   | exact cmp_Or_int.mono _ _
   | exact LeO.none _
   | refine LeO.ite ?_ ?_
   | refine LeO.bind ?_ (fun _ => ?_)
def impl_Held_order.T1 : Bool × List (List Nat × List Nat) := (true, [([], []), ([0], [0]), ([], []), ([2], [2]), ([], []), ([], []), ([4, 1, 0, 1, 4, 5], [1, 4]), ([5, 3, 6, 0, 1, 2, 3, 4, 5, 6], [3, 5])])
def impl_Held_order.B1 : List Nat := [0, 1, 0, 4, 0, 0, 51, 127]
theorem impl_Held_order.tab1 : rtab .any (opsOf Try.f103 1) = impl_Held_order.T1 := by kernel_rfl
theorem impl_Held_order.bits1 : waitsOk impl_Held_order.T1.2 impl_Held_order.B1 = true := by kernel_rfl
def impl_Held_order.T2 : Bool × List (List Nat × List Nat) := (true, [([], []), ([0], [0]), ([], []), ([2], [2]), ([1, 3], [1, 3]), ([], []), ([5], [5]), ([], []), ([7], [7]), ([6, 8, 4], [6, 8]), ([], []), ([10], [10]), ([], []), ([12], [12]), ([11, 13, 9], [11, 13]), ([], []), ([15], [15]), ([], []), ([17], [17]), ([16, 18, 14], [16, 18]), ([], []), ([20], [20]), ([], []), ([22], [22]), ([21, 23, 19], [21, 23]), ([4, 9, 14, 19, 24], [4, 9, 14, 19, 24]), ([25, 24], [25]), ([26, 26, 0, 1, 2, 3, 4, 5, 6, 7, 8, 9, 10, 11, 12, 13, 14, 15, 16, 17, 18, 19, 20, 21, 22, 23, 24, 25, 26], [26])])
def impl_Held_order.B2 : List Nat := [0, 1, 0, 4, 15, 0, 32, 0, 128, 511, 0, 1024, 0, 4096, 16383, 0, 32768, 0, 131072, 524287, 0, 1048576, 0, 4194304, 16777215, 33554431, 67108863, 134217727]
theorem impl_Held_order.tab2 : rtab .any (opsOf Try.f103 2) = impl_Held_order.T2 := by kernel_rfl
theorem impl_Held_order.bits2 : waitsOk impl_Held_order.T2.2 impl_Held_order.B2 = true := by kernel_rfl
set_option maxHeartbeats 8000000 in
set_option maxRecDepth 100000 in
theorem impl_Held_order.calls (k : Nat) (a0_0 : Int) (a0_1 : Bool) (a0_2 : Int) (a0_3 : Int) (a0_4 : Int) (a0_5 : Int) (a0_6 : Int) (a0_7 : Int) (a0_8 : Bool) (a1_0 : Int) (a1_1 : Bool) (a1_2 : Int) (a1_3 : Int) (a1_4 : Int) (a1_5 : Int) (a1_6 : Int) (a1_7 : Int) (a1_8 : Bool) (r : Int) (w : World) (h : impl_Held_order.f k a0_0 a0_1 a0_2 a0_3 a0_4 a0_5 a0_6 a0_7 a0_8 a1_0 a1_1 a1_2 a1_3 a1_4 a1_5 a1_6 a1_7 a1_8 = some r) :
  Calls Try.prog 103 #[.agg #[.int .i64 a0_0, .bool a0_1, .int .i64 a0_2, .int .i64 a0_3, .int .i64 a0_4, .int .i64 a0_5, .int .i64 a0_6, .int .i64 a0_7, .bool a0_8], .agg #[.int .i64 a1_0, .bool a1_1, .int .i64 a1_2, .int .i64 a1_3, .int .i64 a1_4, .int .i64 a1_5, .int .i64 a1_6, .int .i64 a1_7, .bool a1_8]] w fun e w' => e = .returned (.int .i64 r) ∧ Below w.heap.size w w' := by
 have hu73 := Try.underlying73
 have hu42 := Try.underlying42
 have HB := Aside0.mk (Below.refl w.heap.size w)
 have H : ((cmp_Compare_int64.f a0_0 a1_0).bind fun t251 => ((cmp_Compare_int64.f a0_2 a1_2).bind fun t252 => ((cmp_Compare_int64.f a0_3 a1_3).bind fun t253 => ((cmp_Compare_int64.f a0_4 a1_4).bind fun t254 => ((cmp_Compare_int64.f a0_6 a1_6).bind fun t255 => ((cmp_Or_int.f k (([t251, t252, t253, t254, t255] : List Int))).bind fun t259 => (some t259))))))) = some r := h
 clear h
 replace H := Option.bind_eq_some_iff.mp H
 obtain ⟨t251, A30, H⟩ := H
 replace H : ((cmp_Compare_int64.f a0_2 a1_2).bind fun t252 => ((cmp_Compare_int64.f a0_3 a1_3).bind fun t253 => ((cmp_Compare_int64.f a0_4 a1_4).bind fun t254 => ((cmp_Compare_int64.f a0_6 a1_6).bind fun t255 => ((cmp_Or_int.f k (([t251, t252, t253, t254, t255] : List Int))).bind fun t259 => (some t259)))))) = some r := H
 have A3 := Aside0.mk A30
 clear A30
 replace H := Option.bind_eq_some_iff.mp H
 obtain ⟨t252, A40, H⟩ := H
 replace H : ((cmp_Compare_int64.f a0_3 a1_3).bind fun t253 => ((cmp_Compare_int64.f a0_4 a1_4).bind fun t254 => ((cmp_Compare_int64.f a0_6 a1_6).bind fun t255 => ((cmp_Or_int.f k (([t251, t252, t253, t254, t255] : List Int))).bind fun t259 => (some t259))))) = some r := H
 have A4 := Aside0.mk A40
 clear A40
 replace H := Option.bind_eq_some_iff.mp H
 obtain ⟨t253, A50, H⟩ := H
 replace H : ((cmp_Compare_int64.f a0_4 a1_4).bind fun t254 => ((cmp_Compare_int64.f a0_6 a1_6).bind fun t255 => ((cmp_Or_int.f k (([t251, t252, t253, t254, t255] : List Int))).bind fun t259 => (some t259)))) = some r := H
 have A5 := Aside0.mk A50
 clear A50
 replace H := Option.bind_eq_some_iff.mp H
 obtain ⟨t254, A60, H⟩ := H
 replace H : ((cmp_Compare_int64.f a0_6 a1_6).bind fun t255 => ((cmp_Or_int.f k (([t251, t252, t253, t254, t255] : List Int))).bind fun t259 => (some t259))) = some r := H
 have A6 := Aside0.mk A60
 clear A60
 replace H := Option.bind_eq_some_iff.mp H
 obtain ⟨t255, A70, H⟩ := H
 replace H : ((cmp_Or_int.f k (([t251, t252, t253, t254, t255] : List Int))).bind fun t259 => (some t259)) = some r := H
 have A7 := Aside0.mk A70
 clear A70
 obtain ⟨y256, hy256⟩ : ∃ y_ : List Int, y_ = (([t251, t252, t253, t254, t255] : List Int)) := ⟨_, rfl⟩
 replace H : ((cmp_Or_int.f k y256).bind fun t259 => (some t259)) = some r := by first | (rw [hy256]; with_reducible exact H) | (have H2_ := (Option.bind_some _ _).symm.trans H; rw [hy256]; with_reducible exact H2_) | (have H2_ := (Option.bind_some _ _).symm.trans H; with_reducible exact H2_) | with_reducible exact H | (rw [hy256]; exact H) | exact H
 have Ny256 := Aside0.mk hy256
 clear hy256
 replace H := Option.bind_eq_some_iff.mp H
 obtain ⟨t259, A80, H⟩ := H
 replace H : (some t259) = some r := H
 have A8 := Aside0.mk A80
 clear A80
 obtain rfl := Option.some.inj H
 go_enter Try.func103, Try.ntmps103
 try go_wp2_with (first | ((with_reducible refine Qw (N := 2) rfl ?_); refine Qu ?hg (N := 2) ?hd (cs := #[.int .i64 a0_0, .bool a0_1, .int .i64 a0_2, .int .i64 a0_3, .int .i64 a0_4, .int .i64 a0_5, .int .i64 a0_6, .int .i64 a0_7, .bool a0_8]) (t := 73) ?hr ?_; (case hd => rfl); (case hg => rfl); (case hr => first | (go_simp; done) | (go_simp; rfl)); intro gb247 hg w9 hbox hb; have n0_ := Aside0.mk (Qn (by repeat (first | (with_reducible first | exact HB.out | apply Qe | apply Qc | apply Qd) | exact HB.out)) hb); have n1_ := Aside0.mk (hbox); have n2_ := Aside0.mk ((by rw [hg]; exact (Qj (by repeat (first | (with_reducible first | exact HB.out | apply Qe | apply Qc | apply Qd) | exact HB.out))) : w.heap.size ≤ gb247)); have n3_ := Aside0.mk ((by rw [hg]; exact (Qj (by repeat (first | (with_reducible first | exact HB.out | apply Qe | apply Qc | apply Qd) | exact HB.out))) : w.heap.size ≤ gb247)); clear HB; have HB := n0_; have BK247 := n1_; have GW247 := n2_; have GE247 := n3_; clear n0_ n1_ n2_ n3_; clear hb hbox hg) | ((with_reducible refine Qw (N := 3) rfl ?_); refine Qu ?hg (N := 3) ?hd (cs := #[.int .i64 a1_0, .bool a1_1, .int .i64 a1_2, .int .i64 a1_3, .int .i64 a1_4, .int .i64 a1_5, .int .i64 a1_6, .int .i64 a1_7, .bool a1_8]) (t := 73) ?hr ?_; (case hd => rfl); (case hg => rfl); (case hr => first | (go_simp; done) | (go_simp; rfl)); intro gb248 hg w10 hbox hb; have n0_ := Aside0.mk (Qo (g := gb247) (o := .cells #[.int .i64 a0_0, .bool a0_1, .int .i64 a0_2, .int .i64 a0_3, .int .i64 a0_4, .int .i64 a0_5, .int .i64 a0_6, .int .i64 a0_7, .bool a0_8] 73 (0, 0)) (by (with_reducible repeat (first | refine Qg ?_ _ | refine Qi ?_ | refine Qh ?_ _)); exact BK247.out) hb); have n1_ := Aside0.mk (Qn (by repeat (first | (with_reducible first | exact HB.out | apply Qe | apply Qc | apply Qd | refine Qf ?_ GE247.out) | exact HB.out)) hb); have n2_ := Aside0.mk (hbox); have n3_ := Aside0.mk ((by rw [hg]; exact (Qj (by repeat (first | (with_reducible first | exact HB.out | apply Qe | apply Qc | apply Qd | refine Qf ?_ GE247.out) | exact HB.out))) : w.heap.size ≤ gb248)); have n4_ := Aside0.mk ((by rw [hg]; exact (Qj (by repeat (first | (with_reducible first | exact HB.out | apply Qe | apply Qc | apply Qd | refine Qf ?_ GE247.out) | exact HB.out))) : w.heap.size ≤ gb248)); have n5_ := Aside0.mk ((by rw [hg]; exact Nat.ne_of_lt (Qv (g := gb247) (o := .cells #[.int .i64 a0_0, .bool a0_1, .int .i64 a0_2, .int .i64 a0_3, .int .i64 a0_4, .int .i64 a0_5, .int .i64 a0_6, .int .i64 a0_7, .bool a0_8] 73 (0, 0)) (by (with_reducible repeat (first | refine Qg ?_ _ | refine Qi ?_ | refine Qh ?_ _)); exact BK247.out)) : gb247 ≠ gb248)); have n6_ := Aside0.mk ((by rw [hg]; exact Nat.ne_of_gt (Qv (g := gb247) (o := .cells #[.int .i64 a0_0, .bool a0_1, .int .i64 a0_2, .int .i64 a0_3, .int .i64 a0_4, .int .i64 a0_5, .int .i64 a0_6, .int .i64 a0_7, .bool a0_8] 73 (0, 0)) (by (with_reducible repeat (first | refine Qg ?_ _ | refine Qi ?_ | refine Qh ?_ _)); exact BK247.out)) : gb248 ≠ gb247)); clear BK247; clear HB; have BK247 := n0_; have HB := n1_; have BK248 := n2_; have GW248 := n3_; have GE248 := n4_; have NB247_248 := n5_; have NB248_247 := n6_; clear n0_ n1_ n2_ n3_ n4_ n5_ n6_; clear hb hbox hg))
 have n0_ := Aside0.mk (Qi BK247.out)
 have n1_ := Aside0.mk (Qi BK248.out)
 have n2_ := Aside0.mk (Qd HB.out)
 clear BK247
 clear BK248
 clear HB
 have BK247 := n0_
 have BK248 := n1_
 have HB := n2_
 clear n0_ n1_ n2_
 refine start_ (n := 8) (S := fun w' => w'.cell? ⟨gb247, 0, none⟩ = some (.int .i64 a0_0) ∧ w'.cell? ⟨gb247, 1, none⟩ = some (.bool a0_1) ∧ w'.cell? ⟨gb247, 2, none⟩ = some (.int .i64 a0_2) ∧ w'.cell? ⟨gb247, 3, none⟩ = some (.int .i64 a0_3) ∧ w'.cell? ⟨gb247, 4, none⟩ = some (.int .i64 a0_4) ∧ w'.cell? ⟨gb247, 5, none⟩ = some (.int .i64 a0_5) ∧ w'.cell? ⟨gb247, 6, none⟩ = some (.int .i64 a0_6) ∧ w'.cell? ⟨gb247, 7, none⟩ = some (.int .i64 a0_7) ∧ w'.cell? ⟨gb247, 8, none⟩ = some (.bool a0_8) ∧ w'.cell? ⟨gb248, 0, none⟩ = some (.int .i64 a1_0) ∧ w'.cell? ⟨gb248, 1, none⟩ = some (.bool a1_1) ∧ w'.cell? ⟨gb248, 2, none⟩ = some (.int .i64 a1_2) ∧ w'.cell? ⟨gb248, 3, none⟩ = some (.int .i64 a1_3) ∧ w'.cell? ⟨gb248, 4, none⟩ = some (.int .i64 a1_4) ∧ w'.cell? ⟨gb248, 5, none⟩ = some (.int .i64 a1_5) ∧ w'.cell? ⟨gb248, 6, none⟩ = some (.int .i64 a1_6) ∧ w'.cell? ⟨gb248, 7, none⟩ = some (.int .i64 a1_7) ∧ w'.cell? ⟨gb248, 8, none⟩ = some (.bool a1_8)) (ds := []) #[false, false, false, false, false, false, false, false] (by kernel_rfl) rfl rfl ⟨(Qa BK247.out 0).trans rfl, (Qa BK247.out 1).trans rfl, (Qa BK247.out 2).trans rfl, (Qa BK247.out 3).trans rfl, (Qa BK247.out 4).trans rfl, (Qa BK247.out 5).trans rfl, (Qa BK247.out 6).trans rfl, (Qa BK247.out 7).trans rfl, (Qa BK247.out 8).trans rfl, (Qa BK248.out 0).trans rfl, (Qa BK248.out 1).trans rfl, (Qa BK248.out 2).trans rfl, (Qa BK248.out 3).trans rfl, (Qa BK248.out 4).trans rfl, (Qa BK248.out 5).trans rfl, (Qa BK248.out 6).trans rfl, (Qa BK248.out 7).trans rfl, (Qa BK248.out 8).trans rfl⟩ (fun hHeld => ?_); refine with_tabW impl_Held_order.tab1 impl_Held_order.bits1 (fun HT_ HW_ => ?_)
 generalize w10.drew = w11 at BK247 BK248 HB hHeld ⊢
 refine Qx (i := 0) (N := some 7) (v := ?_) (a' := ?_) #[true, false, false, false, false, false, false, false] rfl rfl (Qt HT_.out (by kernel_rfl)) (fun _ _ _ h => h) (Or.inl ⟨by rfl, ?_⟩) ?_ ?_
 rotate_left
 ·intro w'
  go_simp
  with_reducible rfl
 rotate_left
 ·simp only [Act.put, List.setIfInBounds_toArray, List.set_cons_zero, List.set_cons_succ, Qr, Qs]
  rfl
 refine Qx (i := 2) (N := some 9) (v := ?_) (a' := ?_) #[true, false, true, false, false, false, false, false] rfl rfl (Qt HT_.out (by kernel_rfl)) (fun _ _ _ h => h) (Or.inl ⟨by rfl, ?_⟩) ?_ ?_
 rotate_left
 ·intro w'
  go_simp
  with_reducible rfl
 rotate_left
 ·simp only [Act.put, List.setIfInBounds_toArray, List.set_cons_zero, List.set_cons_succ, Qr, Qs]
  rfl
 refine take_ (i := 1) (N := some 8) (v := ?_) (a' := ?_) #[true, true, true, false, false, false, false, false] rfl rfl (Qz HT_.out HW_.out (by kernel_rfl)) (fun _ _ _ h => h) (Or.inl ⟨by rfl, ?_⟩) hHeld ?_ ?_
 rotate_left
 ·rintro w' ⟨s0, s1, s2, s3, s4, s5, s6, s7, s8, s9, s10, s11, s12, s13, s14, s15, s16, s17⟩
  go_simp
  with_reducible rfl
 rotate_left
 ·simp only [Act.put, List.setIfInBounds_toArray, List.set_cons_zero, List.set_cons_succ, Qr, Qs]
  rfl
 refine take_ (i := 3) (N := some 10) (v := ?_) (a' := ?_) #[true, true, true, true, false, false, false, false] rfl rfl (Qz HT_.out HW_.out (by kernel_rfl)) (fun _ _ _ h => h) (Or.inl ⟨by rfl, ?_⟩) hHeld ?_ ?_
 rotate_left
 ·rintro w' ⟨s0, s1, s2, s3, s4, s5, s6, s7, s8, s9, s10, s11, s12, s13, s14, s15, s16, s17⟩
  go_simp
  with_reducible rfl
 rotate_left
 ·simp only [Act.put, List.setIfInBounds_toArray, List.set_cons_zero, List.set_cons_succ, Qr, Qs]
  rfl
 refine join_ (σ := Nat × Nat) 2 #[true, true, true, true, true, true, false, false] (fun s_ => [(5, .pointer (some ⟨s_.1, 0, none⟩)), (6, .pointer (some ⟨s_.2, 0, none⟩))]) (fun s_ w' => (w'.cell? ⟨gb247, 0, none⟩ = some (.int .i64 a0_0) ∧ w'.cell? ⟨gb247, 1, none⟩ = some (.bool a0_1) ∧ w'.cell? ⟨gb247, 2, none⟩ = some (.int .i64 a0_2) ∧ w'.cell? ⟨gb247, 3, none⟩ = some (.int .i64 a0_3) ∧ w'.cell? ⟨gb247, 4, none⟩ = some (.int .i64 a0_4) ∧ w'.cell? ⟨gb247, 5, none⟩ = some (.int .i64 a0_5) ∧ w'.cell? ⟨gb247, 6, none⟩ = some (.int .i64 a0_6) ∧ w'.cell? ⟨gb247, 7, none⟩ = some (.int .i64 a0_7) ∧ w'.cell? ⟨gb247, 8, none⟩ = some (.bool a0_8) ∧ w'.cell? ⟨gb248, 0, none⟩ = some (.int .i64 a1_0) ∧ w'.cell? ⟨gb248, 1, none⟩ = some (.bool a1_1) ∧ w'.cell? ⟨gb248, 2, none⟩ = some (.int .i64 a1_2) ∧ w'.cell? ⟨gb248, 3, none⟩ = some (.int .i64 a1_3) ∧ w'.cell? ⟨gb248, 4, none⟩ = some (.int .i64 a1_4) ∧ w'.cell? ⟨gb248, 5, none⟩ = some (.int .i64 a1_5) ∧ w'.cell? ⟨gb248, 6, none⟩ = some (.int .i64 a1_6) ∧ w'.cell? ⟨gb248, 7, none⟩ = some (.int .i64 a1_7) ∧ w'.cell? ⟨gb248, 8, none⟩ = some (.bool a1_8)) ∧ (w'.heap[gb247]? = some (.cells #[.int .i64 a0_0, .bool a0_1, .int .i64 a0_2, .int .i64 a0_3, .int .i64 a0_4, .int .i64 a0_5, .int .i64 a0_6, .int .i64 a0_7, .bool a0_8] 73 (0, 0))) ∧ (w'.heap[gb248]? = some (.cells #[.int .i64 a1_0, .bool a1_1, .int .i64 a1_2, .int .i64 a1_3, .int .i64 a1_4, .int .i64 a1_5, .int .i64 a1_6, .int .i64 a1_7, .bool a1_8] 73 (0, 0))) ∧ (w'.heap[s_.1]? = some (.cells #[.int .i64 0, .int .i64 0, .int .i64 0, .int .i64 0, .int .i64 0, .int .i64 0, .bool false] 42 (0, 0))) ∧ (w'.heap[s_.2]? = some (.cells #[.int .i64 0, .int .i64 0, .int .i64 0, .int .i64 0, .int .i64 0, .int .i64 0, .bool false] 42 (0, 0))) ∧ (w.heap.size ≤ s_.1) ∧ (w.heap.size ≤ s_.1) ∧ (gb247 ≠ s_.1) ∧ (s_.1 ≠ gb247) ∧ (gb248 ≠ s_.1) ∧ (s_.1 ≠ gb248) ∧ (s_.2 ≠ s_.1) ∧ (s_.1 ≠ s_.2) ∧ (w.heap.size ≤ s_.2) ∧ (w.heap.size ≤ s_.2) ∧ (gb247 ≠ s_.2) ∧ (s_.2 ≠ gb247) ∧ (gb248 ≠ s_.2) ∧ (s_.2 ≠ gb248) ∧ (Below w.heap.size w w')) ?_ ?_
 rotate_left
 ·intro hCont
  refine two_ (i := 4) (j := 5) (Ni := some 5) (Nj := some 6) #[true, true, true, true, true, false, false, false] #[true, true, true, true, false, true, false, false] rfl rfl rfl rfl (two_of HT_.out (by kernel_rfl)) (by decide) (by decide) (fun K hK => ?_) (fun K hK => ?_)
  ·skip
   refine box_step ?hg (N := 5) ?hd (cs := #[.int .i64 0, .int .i64 0, .int .i64 0, .int .i64 0, .int .i64 0, .int .i64 0, .bool false]) (t := 42) ?hr ?_; (case hd => rfl); (case hg => rfl); (case hr => first | (go_simp; done) | (go_simp; rfl))
   intro gb249 hg w12 hbox hb
   have n0_ := Aside0.mk (Qo (g := gb247) (o := .cells #[.int .i64 a0_0, .bool a0_1, .int .i64 a0_2, .int .i64 a0_3, .int .i64 a0_4, .int .i64 a0_5, .int .i64 a0_6, .int .i64 a0_7, .bool a0_8] 73 (0, 0)) (by (with_reducible repeat (first | refine Qg ?_ _ | refine Qi ?_ | refine Qh ?_ _)); exact BK247.out) hb)
   have n1_ := Aside0.mk (Qo (g := gb248) (o := .cells #[.int .i64 a1_0, .bool a1_1, .int .i64 a1_2, .int .i64 a1_3, .int .i64 a1_4, .int .i64 a1_5, .int .i64 a1_6, .int .i64 a1_7, .bool a1_8] 73 (0, 0)) (by (with_reducible repeat (first | refine Qg ?_ _ | refine Qi ?_ | refine Qh ?_ _)); exact BK248.out) hb)
   have n2_ := Aside0.mk (Qn (by repeat (first | (with_reducible first | exact HB.out | apply Qe | apply Qc | apply Qd | refine Qf ?_ GE247.out | refine Qf ?_ GE248.out) | exact HB.out)) hb)
   have n3_ := Aside0.mk (hbox)
   have n4_ := Aside0.mk ((by rw [hg]; exact (Qj (by repeat (first | (with_reducible first | exact HB.out | apply Qe | apply Qc | apply Qd | refine Qf ?_ GE247.out | refine Qf ?_ GE248.out) | exact HB.out))) : w.heap.size ≤ gb249))
   have n5_ := Aside0.mk ((by rw [hg]; exact (Qj (by repeat (first | (with_reducible first | exact HB.out | apply Qe | apply Qc | apply Qd | refine Qf ?_ GE247.out | refine Qf ?_ GE248.out) | exact HB.out))) : w.heap.size ≤ gb249))
   have n6_ := Aside0.mk ((by rw [hg]; exact Nat.ne_of_lt (Qv (g := gb247) (o := .cells #[.int .i64 a0_0, .bool a0_1, .int .i64 a0_2, .int .i64 a0_3, .int .i64 a0_4, .int .i64 a0_5, .int .i64 a0_6, .int .i64 a0_7, .bool a0_8] 73 (0, 0)) (by (with_reducible repeat (first | refine Qg ?_ _ | refine Qi ?_ | refine Qh ?_ _)); exact BK247.out)) : gb247 ≠ gb249))
   have n7_ := Aside0.mk ((by rw [hg]; exact Nat.ne_of_gt (Qv (g := gb247) (o := .cells #[.int .i64 a0_0, .bool a0_1, .int .i64 a0_2, .int .i64 a0_3, .int .i64 a0_4, .int .i64 a0_5, .int .i64 a0_6, .int .i64 a0_7, .bool a0_8] 73 (0, 0)) (by (with_reducible repeat (first | refine Qg ?_ _ | refine Qi ?_ | refine Qh ?_ _)); exact BK247.out)) : gb249 ≠ gb247))
   have n8_ := Aside0.mk ((by rw [hg]; exact Nat.ne_of_lt (Qv (g := gb248) (o := .cells #[.int .i64 a1_0, .bool a1_1, .int .i64 a1_2, .int .i64 a1_3, .int .i64 a1_4, .int .i64 a1_5, .int .i64 a1_6, .int .i64 a1_7, .bool a1_8] 73 (0, 0)) (by (with_reducible repeat (first | refine Qg ?_ _ | refine Qi ?_ | refine Qh ?_ _)); exact BK248.out)) : gb248 ≠ gb249))
   have n9_ := Aside0.mk ((by rw [hg]; exact Nat.ne_of_gt (Qv (g := gb248) (o := .cells #[.int .i64 a1_0, .bool a1_1, .int .i64 a1_2, .int .i64 a1_3, .int .i64 a1_4, .int .i64 a1_5, .int .i64 a1_6, .int .i64 a1_7, .bool a1_8] 73 (0, 0)) (by (with_reducible repeat (first | refine Qg ?_ _ | refine Qi ?_ | refine Qh ?_ _)); exact BK248.out)) : gb249 ≠ gb248))
   clear BK247
   clear BK248
   clear HB
   have BK247 := n0_
   have BK248 := n1_
   have HB := n2_
   have BK249 := n3_
   have GW249 := n4_
   have GE249 := n5_
   have NB247_249 := n6_
   have NB249_247 := n7_
   have NB248_249 := n8_
   have NB249_248 := n9_
   clear n0_ n1_ n2_ n3_ n4_ n5_ n6_ n7_ n8_ n9_
   clear hb hbox hg
   refine hK.out _ _ ⟨(Qa BK247.out 0).trans rfl, (Qa BK247.out 1).trans rfl, (Qa BK247.out 2).trans rfl, (Qa BK247.out 3).trans rfl, (Qa BK247.out 4).trans rfl, (Qa BK247.out 5).trans rfl, (Qa BK247.out 6).trans rfl, (Qa BK247.out 7).trans rfl, (Qa BK247.out 8).trans rfl, (Qa BK248.out 0).trans rfl, (Qa BK248.out 1).trans rfl, (Qa BK248.out 2).trans rfl, (Qa BK248.out 3).trans rfl, (Qa BK248.out 4).trans rfl, (Qa BK248.out 5).trans rfl, (Qa BK248.out 6).trans rfl, (Qa BK248.out 7).trans rfl, (Qa BK248.out 8).trans rfl⟩ (fun hHeld => ?_)
   clear hK K
   refine norm_ (a' := ?_) ?_ ?_
   rotate_left
   ·show Act.put _ (some 5) _ = _
    simp only [Act.put, List.setIfInBounds_toArray, List.set_cons_zero, List.set_cons_succ, Qr, Qs]
    rfl
   refine one_ (i := 5) (N := some 6) #[true, true, true, true, true, true, false, false] rfl rfl (one_of HT_.out (by kernel_rfl)) (by decide) (fun K hK => ?_)
   refine box_step ?hg (N := 6) ?hd (cs := #[.int .i64 0, .int .i64 0, .int .i64 0, .int .i64 0, .int .i64 0, .int .i64 0, .bool false]) (t := 42) ?hr ?_; (case hd => rfl); (case hg => rfl); (case hr => first | (go_simp; done) | (go_simp; rfl))
   intro gb250 hg w13 hbox hb
   have n0_ := Aside0.mk (Qo (g := gb247) (o := .cells #[.int .i64 a0_0, .bool a0_1, .int .i64 a0_2, .int .i64 a0_3, .int .i64 a0_4, .int .i64 a0_5, .int .i64 a0_6, .int .i64 a0_7, .bool a0_8] 73 (0, 0)) (by (with_reducible repeat (first | refine Qg ?_ _ | refine Qi ?_ | refine Qh ?_ _)); exact BK247.out) hb)
   have n1_ := Aside0.mk (Qo (g := gb248) (o := .cells #[.int .i64 a1_0, .bool a1_1, .int .i64 a1_2, .int .i64 a1_3, .int .i64 a1_4, .int .i64 a1_5, .int .i64 a1_6, .int .i64 a1_7, .bool a1_8] 73 (0, 0)) (by (with_reducible repeat (first | refine Qg ?_ _ | refine Qi ?_ | refine Qh ?_ _)); exact BK248.out) hb)
   have n2_ := Aside0.mk (Qo (g := gb249) (o := .cells #[.int .i64 0, .int .i64 0, .int .i64 0, .int .i64 0, .int .i64 0, .int .i64 0, .bool false] 42 (0, 0)) (by (with_reducible repeat (first | refine Qg ?_ _ | refine Qi ?_ | refine Qh ?_ _)); exact BK249.out) hb)
   have n3_ := Aside0.mk (Qn (by repeat (first | (with_reducible first | exact HB.out | apply Qe | apply Qc | apply Qd | refine Qf ?_ GE247.out | refine Qf ?_ GE248.out | refine Qf ?_ GE249.out) | exact HB.out)) hb)
   have n4_ := Aside0.mk (hbox)
   have n5_ := Aside0.mk ((by rw [hg]; exact (Qj (by repeat (first | (with_reducible first | exact HB.out | apply Qe | apply Qc | apply Qd | refine Qf ?_ GE247.out | refine Qf ?_ GE248.out | refine Qf ?_ GE249.out) | exact HB.out))) : w.heap.size ≤ gb250))
   have n6_ := Aside0.mk ((by rw [hg]; exact (Qj (by repeat (first | (with_reducible first | exact HB.out | apply Qe | apply Qc | apply Qd | refine Qf ?_ GE247.out | refine Qf ?_ GE248.out | refine Qf ?_ GE249.out) | exact HB.out))) : w.heap.size ≤ gb250))
   have n7_ := Aside0.mk ((by rw [hg]; exact Nat.ne_of_lt (Qv (g := gb247) (o := .cells #[.int .i64 a0_0, .bool a0_1, .int .i64 a0_2, .int .i64 a0_3, .int .i64 a0_4, .int .i64 a0_5, .int .i64 a0_6, .int .i64 a0_7, .bool a0_8] 73 (0, 0)) (by (with_reducible repeat (first | refine Qg ?_ _ | refine Qi ?_ | refine Qh ?_ _)); exact BK247.out)) : gb247 ≠ gb250))
   have n8_ := Aside0.mk ((by rw [hg]; exact Nat.ne_of_gt (Qv (g := gb247) (o := .cells #[.int .i64 a0_0, .bool a0_1, .int .i64 a0_2, .int .i64 a0_3, .int .i64 a0_4, .int .i64 a0_5, .int .i64 a0_6, .int .i64 a0_7, .bool a0_8] 73 (0, 0)) (by (with_reducible repeat (first | refine Qg ?_ _ | refine Qi ?_ | refine Qh ?_ _)); exact BK247.out)) : gb250 ≠ gb247))
   have n9_ := Aside0.mk ((by rw [hg]; exact Nat.ne_of_lt (Qv (g := gb248) (o := .cells #[.int .i64 a1_0, .bool a1_1, .int .i64 a1_2, .int .i64 a1_3, .int .i64 a1_4, .int .i64 a1_5, .int .i64 a1_6, .int .i64 a1_7, .bool a1_8] 73 (0, 0)) (by (with_reducible repeat (first | refine Qg ?_ _ | refine Qi ?_ | refine Qh ?_ _)); exact BK248.out)) : gb248 ≠ gb250))
   have n10_ := Aside0.mk ((by rw [hg]; exact Nat.ne_of_gt (Qv (g := gb248) (o := .cells #[.int .i64 a1_0, .bool a1_1, .int .i64 a1_2, .int .i64 a1_3, .int .i64 a1_4, .int .i64 a1_5, .int .i64 a1_6, .int .i64 a1_7, .bool a1_8] 73 (0, 0)) (by (with_reducible repeat (first | refine Qg ?_ _ | refine Qi ?_ | refine Qh ?_ _)); exact BK248.out)) : gb250 ≠ gb248))
   have n11_ := Aside0.mk ((by rw [hg]; exact Nat.ne_of_lt (Qv (g := gb249) (o := .cells #[.int .i64 0, .int .i64 0, .int .i64 0, .int .i64 0, .int .i64 0, .int .i64 0, .bool false] 42 (0, 0)) (by (with_reducible repeat (first | refine Qg ?_ _ | refine Qi ?_ | refine Qh ?_ _)); exact BK249.out)) : gb249 ≠ gb250))
   have n12_ := Aside0.mk ((by rw [hg]; exact Nat.ne_of_gt (Qv (g := gb249) (o := .cells #[.int .i64 0, .int .i64 0, .int .i64 0, .int .i64 0, .int .i64 0, .int .i64 0, .bool false] 42 (0, 0)) (by (with_reducible repeat (first | refine Qg ?_ _ | refine Qi ?_ | refine Qh ?_ _)); exact BK249.out)) : gb250 ≠ gb249))
   clear BK247
   clear BK248
   clear BK249
   clear HB
   have BK247 := n0_
   have BK248 := n1_
   have BK249 := n2_
   have HB := n3_
   have BK250 := n4_
   have GW250 := n5_
   have GE250 := n6_
   have NB247_250 := n7_
   have NB250_247 := n8_
   have NB248_250 := n9_
   have NB250_248 := n10_
   have NB249_250 := n11_
   have NB250_249 := n12_
   clear n0_ n1_ n2_ n3_ n4_ n5_ n6_ n7_ n8_ n9_ n10_ n11_ n12_
   clear hb hbox hg
   refine hK.out _ _ ⟨(Qa BK247.out 0).trans rfl, (Qa BK247.out 1).trans rfl, (Qa BK247.out 2).trans rfl, (Qa BK247.out 3).trans rfl, (Qa BK247.out 4).trans rfl, (Qa BK247.out 5).trans rfl, (Qa BK247.out 6).trans rfl, (Qa BK247.out 7).trans rfl, (Qa BK247.out 8).trans rfl, (Qa BK248.out 0).trans rfl, (Qa BK248.out 1).trans rfl, (Qa BK248.out 2).trans rfl, (Qa BK248.out 3).trans rfl, (Qa BK248.out 4).trans rfl, (Qa BK248.out 5).trans rfl, (Qa BK248.out 6).trans rfl, (Qa BK248.out 7).trans rfl, (Qa BK248.out 8).trans rfl⟩ (fun hHeld => ?_)
   clear hK K
   refine norm_ (a' := ?_) ?_ ?_
   rotate_left
   ·show Act.put _ (some 6) _ = _
    simp only [Act.put, List.setIfInBounds_toArray, List.set_cons_zero, List.set_cons_succ, Qr, Qs]
    rfl
   exact norm_ (by simp only [putAll, Act.put, List.setIfInBounds_toArray, List.set_cons_zero, List.set_cons_succ]) (hCont (gb249, gb250) _ ⟨hHeld, (by (with_reducible repeat (first | refine Qg ?_ _ | refine Qi ?_ | refine Qh ?_ _)); exact BK247.out), (by (with_reducible repeat (first | refine Qg ?_ _ | refine Qi ?_ | refine Qh ?_ _)); exact BK248.out), (by (with_reducible repeat (first | refine Qg ?_ _ | refine Qi ?_ | refine Qh ?_ _)); exact BK249.out), (by (with_reducible repeat (first | refine Qg ?_ _ | refine Qi ?_ | refine Qh ?_ _)); exact BK250.out), GW249.out, GE249.out, NB247_249.out, NB249_247.out, NB248_249.out, NB249_248.out, NB250_249.out, NB249_250.out, GW250.out, GE250.out, NB247_250.out, NB250_247.out, NB248_250.out, NB250_248.out, (by repeat (first | (with_reducible first | exact HB.out | apply Qe | apply Qc | apply Qd | refine Qf ?_ GE247.out | refine Qf ?_ GE248.out | refine Qf ?_ GE249.out | refine Qf ?_ GE250.out) | exact HB.out))⟩)
  ·skip
   refine box_step ?hg (N := 6) ?hd (cs := #[.int .i64 0, .int .i64 0, .int .i64 0, .int .i64 0, .int .i64 0, .int .i64 0, .bool false]) (t := 42) ?hr ?_; (case hd => rfl); (case hg => rfl); (case hr => first | (go_simp; done) | (go_simp; rfl))
   intro gb250 hg w12 hbox hb
   have n0_ := Aside0.mk (Qo (g := gb247) (o := .cells #[.int .i64 a0_0, .bool a0_1, .int .i64 a0_2, .int .i64 a0_3, .int .i64 a0_4, .int .i64 a0_5, .int .i64 a0_6, .int .i64 a0_7, .bool a0_8] 73 (0, 0)) (by (with_reducible repeat (first | refine Qg ?_ _ | refine Qi ?_ | refine Qh ?_ _)); exact BK247.out) hb)
   have n1_ := Aside0.mk (Qo (g := gb248) (o := .cells #[.int .i64 a1_0, .bool a1_1, .int .i64 a1_2, .int .i64 a1_3, .int .i64 a1_4, .int .i64 a1_5, .int .i64 a1_6, .int .i64 a1_7, .bool a1_8] 73 (0, 0)) (by (with_reducible repeat (first | refine Qg ?_ _ | refine Qi ?_ | refine Qh ?_ _)); exact BK248.out) hb)
   have n2_ := Aside0.mk (Qn (by repeat (first | (with_reducible first | exact HB.out | apply Qe | apply Qc | apply Qd | refine Qf ?_ GE247.out | refine Qf ?_ GE248.out) | exact HB.out)) hb)
   have n3_ := Aside0.mk (hbox)
   have n4_ := Aside0.mk ((by rw [hg]; exact (Qj (by repeat (first | (with_reducible first | exact HB.out | apply Qe | apply Qc | apply Qd | refine Qf ?_ GE247.out | refine Qf ?_ GE248.out) | exact HB.out))) : w.heap.size ≤ gb250))
   have n5_ := Aside0.mk ((by rw [hg]; exact (Qj (by repeat (first | (with_reducible first | exact HB.out | apply Qe | apply Qc | apply Qd | refine Qf ?_ GE247.out | refine Qf ?_ GE248.out) | exact HB.out))) : w.heap.size ≤ gb250))
   have n6_ := Aside0.mk ((by rw [hg]; exact Nat.ne_of_lt (Qv (g := gb247) (o := .cells #[.int .i64 a0_0, .bool a0_1, .int .i64 a0_2, .int .i64 a0_3, .int .i64 a0_4, .int .i64 a0_5, .int .i64 a0_6, .int .i64 a0_7, .bool a0_8] 73 (0, 0)) (by (with_reducible repeat (first | refine Qg ?_ _ | refine Qi ?_ | refine Qh ?_ _)); exact BK247.out)) : gb247 ≠ gb250))
   have n7_ := Aside0.mk ((by rw [hg]; exact Nat.ne_of_gt (Qv (g := gb247) (o := .cells #[.int .i64 a0_0, .bool a0_1, .int .i64 a0_2, .int .i64 a0_3, .int .i64 a0_4, .int .i64 a0_5, .int .i64 a0_6, .int .i64 a0_7, .bool a0_8] 73 (0, 0)) (by (with_reducible repeat (first | refine Qg ?_ _ | refine Qi ?_ | refine Qh ?_ _)); exact BK247.out)) : gb250 ≠ gb247))
   have n8_ := Aside0.mk ((by rw [hg]; exact Nat.ne_of_lt (Qv (g := gb248) (o := .cells #[.int .i64 a1_0, .bool a1_1, .int .i64 a1_2, .int .i64 a1_3, .int .i64 a1_4, .int .i64 a1_5, .int .i64 a1_6, .int .i64 a1_7, .bool a1_8] 73 (0, 0)) (by (with_reducible repeat (first | refine Qg ?_ _ | refine Qi ?_ | refine Qh ?_ _)); exact BK248.out)) : gb248 ≠ gb250))
   have n9_ := Aside0.mk ((by rw [hg]; exact Nat.ne_of_gt (Qv (g := gb248) (o := .cells #[.int .i64 a1_0, .bool a1_1, .int .i64 a1_2, .int .i64 a1_3, .int .i64 a1_4, .int .i64 a1_5, .int .i64 a1_6, .int .i64 a1_7, .bool a1_8] 73 (0, 0)) (by (with_reducible repeat (first | refine Qg ?_ _ | refine Qi ?_ | refine Qh ?_ _)); exact BK248.out)) : gb250 ≠ gb248))
   clear BK247
   clear BK248
   clear HB
   have BK247 := n0_
   have BK248 := n1_
   have HB := n2_
   have BK250 := n3_
   have GW250 := n4_
   have GE250 := n5_
   have NB247_250 := n6_
   have NB250_247 := n7_
   have NB248_250 := n8_
   have NB250_248 := n9_
   clear n0_ n1_ n2_ n3_ n4_ n5_ n6_ n7_ n8_ n9_
   clear hb hbox hg
   refine hK.out _ _ ⟨(Qa BK247.out 0).trans rfl, (Qa BK247.out 1).trans rfl, (Qa BK247.out 2).trans rfl, (Qa BK247.out 3).trans rfl, (Qa BK247.out 4).trans rfl, (Qa BK247.out 5).trans rfl, (Qa BK247.out 6).trans rfl, (Qa BK247.out 7).trans rfl, (Qa BK247.out 8).trans rfl, (Qa BK248.out 0).trans rfl, (Qa BK248.out 1).trans rfl, (Qa BK248.out 2).trans rfl, (Qa BK248.out 3).trans rfl, (Qa BK248.out 4).trans rfl, (Qa BK248.out 5).trans rfl, (Qa BK248.out 6).trans rfl, (Qa BK248.out 7).trans rfl, (Qa BK248.out 8).trans rfl⟩ (fun hHeld => ?_)
   clear hK K
   refine norm_ (a' := ?_) ?_ ?_
   rotate_left
   ·show Act.put _ (some 6) _ = _
    simp only [Act.put, List.setIfInBounds_toArray, List.set_cons_zero, List.set_cons_succ, Qr, Qs]
    rfl
   refine one_ (i := 4) (N := some 5) #[true, true, true, true, true, true, false, false] rfl rfl (one_of HT_.out (by kernel_rfl)) (by decide) (fun K hK => ?_)
   refine box_step ?hg (N := 5) ?hd (cs := #[.int .i64 0, .int .i64 0, .int .i64 0, .int .i64 0, .int .i64 0, .int .i64 0, .bool false]) (t := 42) ?hr ?_; (case hd => rfl); (case hg => rfl); (case hr => first | (go_simp; done) | (go_simp; rfl))
   intro gb249 hg w13 hbox hb
   have n0_ := Aside0.mk (Qo (g := gb247) (o := .cells #[.int .i64 a0_0, .bool a0_1, .int .i64 a0_2, .int .i64 a0_3, .int .i64 a0_4, .int .i64 a0_5, .int .i64 a0_6, .int .i64 a0_7, .bool a0_8] 73 (0, 0)) (by (with_reducible repeat (first | refine Qg ?_ _ | refine Qi ?_ | refine Qh ?_ _)); exact BK247.out) hb)
   have n1_ := Aside0.mk (Qo (g := gb248) (o := .cells #[.int .i64 a1_0, .bool a1_1, .int .i64 a1_2, .int .i64 a1_3, .int .i64 a1_4, .int .i64 a1_5, .int .i64 a1_6, .int .i64 a1_7, .bool a1_8] 73 (0, 0)) (by (with_reducible repeat (first | refine Qg ?_ _ | refine Qi ?_ | refine Qh ?_ _)); exact BK248.out) hb)
   have n2_ := Aside0.mk (Qo (g := gb250) (o := .cells #[.int .i64 0, .int .i64 0, .int .i64 0, .int .i64 0, .int .i64 0, .int .i64 0, .bool false] 42 (0, 0)) (by (with_reducible repeat (first | refine Qg ?_ _ | refine Qi ?_ | refine Qh ?_ _)); exact BK250.out) hb)
   have n3_ := Aside0.mk (Qn (by repeat (first | (with_reducible first | exact HB.out | apply Qe | apply Qc | apply Qd | refine Qf ?_ GE247.out | refine Qf ?_ GE248.out | refine Qf ?_ GE250.out) | exact HB.out)) hb)
   have n4_ := Aside0.mk (hbox)
   have n5_ := Aside0.mk ((by rw [hg]; exact (Qj (by repeat (first | (with_reducible first | exact HB.out | apply Qe | apply Qc | apply Qd | refine Qf ?_ GE247.out | refine Qf ?_ GE248.out | refine Qf ?_ GE250.out) | exact HB.out))) : w.heap.size ≤ gb249))
   have n6_ := Aside0.mk ((by rw [hg]; exact (Qj (by repeat (first | (with_reducible first | exact HB.out | apply Qe | apply Qc | apply Qd | refine Qf ?_ GE247.out | refine Qf ?_ GE248.out | refine Qf ?_ GE250.out) | exact HB.out))) : w.heap.size ≤ gb249))
   have n7_ := Aside0.mk ((by rw [hg]; exact Nat.ne_of_lt (Qv (g := gb247) (o := .cells #[.int .i64 a0_0, .bool a0_1, .int .i64 a0_2, .int .i64 a0_3, .int .i64 a0_4, .int .i64 a0_5, .int .i64 a0_6, .int .i64 a0_7, .bool a0_8] 73 (0, 0)) (by (with_reducible repeat (first | refine Qg ?_ _ | refine Qi ?_ | refine Qh ?_ _)); exact BK247.out)) : gb247 ≠ gb249))
   have n8_ := Aside0.mk ((by rw [hg]; exact Nat.ne_of_gt (Qv (g := gb247) (o := .cells #[.int .i64 a0_0, .bool a0_1, .int .i64 a0_2, .int .i64 a0_3, .int .i64 a0_4, .int .i64 a0_5, .int .i64 a0_6, .int .i64 a0_7, .bool a0_8] 73 (0, 0)) (by (with_reducible repeat (first | refine Qg ?_ _ | refine Qi ?_ | refine Qh ?_ _)); exact BK247.out)) : gb249 ≠ gb247))
   have n9_ := Aside0.mk ((by rw [hg]; exact Nat.ne_of_lt (Qv (g := gb248) (o := .cells #[.int .i64 a1_0, .bool a1_1, .int .i64 a1_2, .int .i64 a1_3, .int .i64 a1_4, .int .i64 a1_5, .int .i64 a1_6, .int .i64 a1_7, .bool a1_8] 73 (0, 0)) (by (with_reducible repeat (first | refine Qg ?_ _ | refine Qi ?_ | refine Qh ?_ _)); exact BK248.out)) : gb248 ≠ gb249))
   have n10_ := Aside0.mk ((by rw [hg]; exact Nat.ne_of_gt (Qv (g := gb248) (o := .cells #[.int .i64 a1_0, .bool a1_1, .int .i64 a1_2, .int .i64 a1_3, .int .i64 a1_4, .int .i64 a1_5, .int .i64 a1_6, .int .i64 a1_7, .bool a1_8] 73 (0, 0)) (by (with_reducible repeat (first | refine Qg ?_ _ | refine Qi ?_ | refine Qh ?_ _)); exact BK248.out)) : gb249 ≠ gb248))
   have n11_ := Aside0.mk ((by rw [hg]; exact Nat.ne_of_lt (Qv (g := gb250) (o := .cells #[.int .i64 0, .int .i64 0, .int .i64 0, .int .i64 0, .int .i64 0, .int .i64 0, .bool false] 42 (0, 0)) (by (with_reducible repeat (first | refine Qg ?_ _ | refine Qi ?_ | refine Qh ?_ _)); exact BK250.out)) : gb250 ≠ gb249))
   have n12_ := Aside0.mk ((by rw [hg]; exact Nat.ne_of_gt (Qv (g := gb250) (o := .cells #[.int .i64 0, .int .i64 0, .int .i64 0, .int .i64 0, .int .i64 0, .int .i64 0, .bool false] 42 (0, 0)) (by (with_reducible repeat (first | refine Qg ?_ _ | refine Qi ?_ | refine Qh ?_ _)); exact BK250.out)) : gb249 ≠ gb250))
   clear BK247
   clear BK248
   clear BK250
   clear HB
   have BK247 := n0_
   have BK248 := n1_
   have BK250 := n2_
   have HB := n3_
   have BK249 := n4_
   have GW249 := n5_
   have GE249 := n6_
   have NB247_249 := n7_
   have NB249_247 := n8_
   have NB248_249 := n9_
   have NB249_248 := n10_
   have NB250_249 := n11_
   have NB249_250 := n12_
   clear n0_ n1_ n2_ n3_ n4_ n5_ n6_ n7_ n8_ n9_ n10_ n11_ n12_
   clear hb hbox hg
   refine hK.out _ _ ⟨(Qa BK247.out 0).trans rfl, (Qa BK247.out 1).trans rfl, (Qa BK247.out 2).trans rfl, (Qa BK247.out 3).trans rfl, (Qa BK247.out 4).trans rfl, (Qa BK247.out 5).trans rfl, (Qa BK247.out 6).trans rfl, (Qa BK247.out 7).trans rfl, (Qa BK247.out 8).trans rfl, (Qa BK248.out 0).trans rfl, (Qa BK248.out 1).trans rfl, (Qa BK248.out 2).trans rfl, (Qa BK248.out 3).trans rfl, (Qa BK248.out 4).trans rfl, (Qa BK248.out 5).trans rfl, (Qa BK248.out 6).trans rfl, (Qa BK248.out 7).trans rfl, (Qa BK248.out 8).trans rfl⟩ (fun hHeld => ?_)
   clear hK K
   refine norm_ (a' := ?_) ?_ ?_
   rotate_left
   ·show Act.put _ (some 5) _ = _
    simp only [Act.put, List.setIfInBounds_toArray, List.set_cons_zero, List.set_cons_succ, Qr, Qs]
    rfl
   exact norm_ (by simp only [putAll, Act.put, List.setIfInBounds_toArray, List.set_cons_zero, List.set_cons_succ]) (hCont (gb249, gb250) _ ⟨hHeld, (by (with_reducible repeat (first | refine Qg ?_ _ | refine Qi ?_ | refine Qh ?_ _)); exact BK247.out), (by (with_reducible repeat (first | refine Qg ?_ _ | refine Qi ?_ | refine Qh ?_ _)); exact BK248.out), (by (with_reducible repeat (first | refine Qg ?_ _ | refine Qi ?_ | refine Qh ?_ _)); exact BK249.out), (by (with_reducible repeat (first | refine Qg ?_ _ | refine Qi ?_ | refine Qh ?_ _)); exact BK250.out), GW249.out, GE249.out, NB247_249.out, NB249_247.out, NB248_249.out, NB249_248.out, NB250_249.out, NB249_250.out, GW250.out, GE250.out, NB247_250.out, NB250_247.out, NB248_250.out, NB250_248.out, (by repeat (first | (with_reducible first | exact HB.out | apply Qe | apply Qc | apply Qd | refine Qf ?_ GE247.out | refine Qf ?_ GE248.out | refine Qf ?_ GE250.out | refine Qf ?_ GE249.out) | exact HB.out))⟩)
 rintro ⟨gb249, gb250⟩ w14 ⟨hS_, h0_, h1_, h2_, h3_, h4_, h5_, h6_, h7_, h8_, h9_, h10_, h11_, h12_, h13_, h14_, h15_, h16_, h17_, h18_⟩
 have n0_ : Aside0 (w14.heap[gb247]? = some (.cells #[.int .i64 a0_0, .bool a0_1, .int .i64 a0_2, .int .i64 a0_3, .int .i64 a0_4, .int .i64 a0_5, .int .i64 a0_6, .int .i64 a0_7, .bool a0_8] 73 (0, 0))) := ⟨h0_⟩
 have n1_ : Aside0 (w14.heap[gb248]? = some (.cells #[.int .i64 a1_0, .bool a1_1, .int .i64 a1_2, .int .i64 a1_3, .int .i64 a1_4, .int .i64 a1_5, .int .i64 a1_6, .int .i64 a1_7, .bool a1_8] 73 (0, 0))) := ⟨h1_⟩
 have n2_ : Aside0 (w14.heap[gb249]? = some (.cells #[.int .i64 0, .int .i64 0, .int .i64 0, .int .i64 0, .int .i64 0, .int .i64 0, .bool false] 42 (0, 0))) := ⟨h2_⟩
 have n3_ : Aside0 (w14.heap[gb250]? = some (.cells #[.int .i64 0, .int .i64 0, .int .i64 0, .int .i64 0, .int .i64 0, .int .i64 0, .bool false] 42 (0, 0))) := ⟨h3_⟩
 have n4_ : Aside0 (w.heap.size ≤ gb249) := ⟨h4_⟩
 have n5_ : Aside0 (w.heap.size ≤ gb249) := ⟨h5_⟩
 have n6_ : Aside0 (gb247 ≠ gb249) := ⟨h6_⟩
 have n7_ : Aside0 (gb249 ≠ gb247) := ⟨h7_⟩
 have n8_ : Aside0 (gb248 ≠ gb249) := ⟨h8_⟩
 have n9_ : Aside0 (gb249 ≠ gb248) := ⟨h9_⟩
 have n10_ : Aside0 (gb250 ≠ gb249) := ⟨h10_⟩
 have n11_ : Aside0 (gb249 ≠ gb250) := ⟨h11_⟩
 have n12_ : Aside0 (w.heap.size ≤ gb250) := ⟨h12_⟩
 have n13_ : Aside0 (w.heap.size ≤ gb250) := ⟨h13_⟩
 have n14_ : Aside0 (gb247 ≠ gb250) := ⟨h14_⟩
 have n15_ : Aside0 (gb250 ≠ gb247) := ⟨h15_⟩
 have n16_ : Aside0 (gb248 ≠ gb250) := ⟨h16_⟩
 have n17_ : Aside0 (gb250 ≠ gb248) := ⟨h17_⟩
 have n18_ : Aside0 (Below w.heap.size w w14) := ⟨h18_⟩
 clear BK247
 clear BK248
 clear HB
 clear h0_ h1_ h2_ h3_ h4_ h5_ h6_ h7_ h8_ h9_ h10_ h11_ h12_ h13_ h14_ h15_ h16_ h17_ h18_
 have BK247 := n0_
 have BK248 := n1_
 have BK249 := n2_
 have BK250 := n3_
 have GW249 := n4_
 have GE249 := n5_
 have NB247_249 := n6_
 have NB249_247 := n7_
 have NB248_249 := n8_
 have NB249_248 := n9_
 have NB250_249 := n10_
 have NB249_250 := n11_
 have GW250 := n12_
 have GE250 := n13_
 have NB247_250 := n14_
 have NB250_247 := n15_
 have NB248_250 := n16_
 have NB250_248 := n17_
 have HB := n18_
 clear n0_ n1_ n2_ n3_ n4_ n5_ n6_ n7_ n8_ n9_ n10_ n11_ n12_ n13_ n14_ n15_ n16_ n17_ n18_
 have hHeld : w14.cell? ⟨gb247, 0, none⟩ = some (.int .i64 a0_0) ∧ w14.cell? ⟨gb247, 1, none⟩ = some (.bool a0_1) ∧ w14.cell? ⟨gb247, 2, none⟩ = some (.int .i64 a0_2) ∧ w14.cell? ⟨gb247, 3, none⟩ = some (.int .i64 a0_3) ∧ w14.cell? ⟨gb247, 4, none⟩ = some (.int .i64 a0_4) ∧ w14.cell? ⟨gb247, 5, none⟩ = some (.int .i64 a0_5) ∧ w14.cell? ⟨gb247, 6, none⟩ = some (.int .i64 a0_6) ∧ w14.cell? ⟨gb247, 7, none⟩ = some (.int .i64 a0_7) ∧ w14.cell? ⟨gb247, 8, none⟩ = some (.bool a0_8) ∧ w14.cell? ⟨gb248, 0, none⟩ = some (.int .i64 a1_0) ∧ w14.cell? ⟨gb248, 1, none⟩ = some (.bool a1_1) ∧ w14.cell? ⟨gb248, 2, none⟩ = some (.int .i64 a1_2) ∧ w14.cell? ⟨gb248, 3, none⟩ = some (.int .i64 a1_3) ∧ w14.cell? ⟨gb248, 4, none⟩ = some (.int .i64 a1_4) ∧ w14.cell? ⟨gb248, 5, none⟩ = some (.int .i64 a1_5) ∧ w14.cell? ⟨gb248, 6, none⟩ = some (.int .i64 a1_6) ∧ w14.cell? ⟨gb248, 7, none⟩ = some (.int .i64 a1_7) ∧ w14.cell? ⟨gb248, 8, none⟩ = some (.bool a1_8) := hS_
 refine norm_ (a' := ?_) ?_ ?_
 rotate_left
 ·simp only [putAll, Act.put, List.setIfInBounds_toArray, List.set_cons_zero, List.set_cons_succ]
  rfl
 refine one_ (i := 6) (N := none) #[true, true, true, true, true, true, true, false] rfl rfl (one_of HT_.out (by kernel_rfl)) (by decide) (fun K hK => ?_)
 refine Base.store_step (by rfl) rfl 42 (.tmp 5) (.tmp 8) rfl (g := gb249) rfl (u := .agg #[.int .i64 a0_2, .int .i64 a0_3, .int .i64 a0_4, .int .i64 a0_5, .int .i64 a0_6, .int .i64 a0_7, .bool a0_8]) rfl [.int .i64 a0_2, .int .i64 a0_3, .int .i64 a0_4, .int .i64 a0_5, .int .i64 a0_6, .int .i64 a0_7, .bool a0_8] rfl (by kernel_rfl) BK249.out rfl (by simp [Value.oneCell']) ?_
 intro wn_ hx_ hf_ hB_
 have n247_ := Aside0.mk ((hf_ gb247 NB247_249.out).trans BK247.out)
 have n248_ := Aside0.mk ((hf_ gb248 NB248_249.out).trans BK248.out)
 have n250_ := Aside0.mk ((hf_ gb250 NB250_249.out).trans BK250.out)
 have nx_ := Aside0.mk hx_
 have nb_ := Aside0.mk (hB_ _ _ HB.out GE249.out)
 clear BK247 BK248 BK249 BK250 HB hHeld hx_ hf_ hB_
 have BK247 := n247_
 have BK248 := n248_
 have BK250 := n250_
 have BK249 := nx_
 have HB := nb_
 clear n247_ n248_ n250_ nx_ nb_
 refine hK.out _ _ ⟨(Qa BK247.out 0).trans rfl, (Qa BK247.out 1).trans rfl, (Qa BK247.out 2).trans rfl, (Qa BK247.out 3).trans rfl, (Qa BK247.out 4).trans rfl, (Qa BK247.out 5).trans rfl, (Qa BK247.out 6).trans rfl, (Qa BK247.out 7).trans rfl, (Qa BK247.out 8).trans rfl, (Qa BK248.out 0).trans rfl, (Qa BK248.out 1).trans rfl, (Qa BK248.out 2).trans rfl, (Qa BK248.out 3).trans rfl, (Qa BK248.out 4).trans rfl, (Qa BK248.out 5).trans rfl, (Qa BK248.out 6).trans rfl, (Qa BK248.out 7).trans rfl, (Qa BK248.out 8).trans rfl⟩ (fun hHeld => ?_)
 clear hK K
 refine one_ (i := 7) (N := none) #[true, true, true, true, true, true, true, true] rfl rfl (one_of HT_.out (by kernel_rfl)) (by decide) (fun K hK => ?_)
 refine Base.store_step (by rfl) rfl 42 (.tmp 6) (.tmp 10) rfl (g := gb250) rfl (u := .agg #[.int .i64 a1_2, .int .i64 a1_3, .int .i64 a1_4, .int .i64 a1_5, .int .i64 a1_6, .int .i64 a1_7, .bool a1_8]) rfl [.int .i64 a1_2, .int .i64 a1_3, .int .i64 a1_4, .int .i64 a1_5, .int .i64 a1_6, .int .i64 a1_7, .bool a1_8] rfl (by kernel_rfl) BK250.out rfl (by simp [Value.oneCell']) ?_
 intro w29 hx_ hf_ hB_
 have n247_ := Aside0.mk ((hf_ gb247 NB247_250.out).trans BK247.out)
 have n248_ := Aside0.mk ((hf_ gb248 NB248_250.out).trans BK248.out)
 have n249_ := Aside0.mk ((hf_ gb249 NB249_250.out).trans BK249.out)
 have nx_ := Aside0.mk hx_
 have nb_ := Aside0.mk (hB_ _ _ HB.out GE250.out)
 clear BK247 BK248 BK249 BK250 HB hHeld hx_ hf_ hB_
 have BK247 := n247_
 have BK248 := n248_
 have BK249 := n249_
 have BK250 := nx_
 have HB := nb_
 clear n247_ n248_ n249_ nx_ nb_
 refine hK.out _ _ ⟨(Qa BK247.out 0).trans rfl, (Qa BK247.out 1).trans rfl, (Qa BK247.out 2).trans rfl, (Qa BK247.out 3).trans rfl, (Qa BK247.out 4).trans rfl, (Qa BK247.out 5).trans rfl, (Qa BK247.out 6).trans rfl, (Qa BK247.out 7).trans rfl, (Qa BK247.out 8).trans rfl, (Qa BK248.out 0).trans rfl, (Qa BK248.out 1).trans rfl, (Qa BK248.out 2).trans rfl, (Qa BK248.out 3).trans rfl, (Qa BK248.out 4).trans rfl, (Qa BK248.out 5).trans rfl, (Qa BK248.out 6).trans rfl, (Qa BK248.out 7).trans rfl, (Qa BK248.out 8).trans rfl⟩ (fun hHeld => ?_)
 clear hK K
 refine done_ (done_of HT_.out (by kernel_rfl)) ?_
 have kz247_0 := (Qa BK247.out 0).trans rfl
 have kz247_1 := (Qa BK247.out 1).trans rfl
 have kz247_2 := (Qa BK247.out 2).trans rfl
 have kz247_3 := (Qa BK247.out 3).trans rfl
 have kz247_4 := (Qa BK247.out 4).trans rfl
 have kz247_5 := (Qa BK247.out 5).trans rfl
 have kz247_6 := (Qa BK247.out 6).trans rfl
 have kz247_7 := (Qa BK247.out 7).trans rfl
 have kz247_8 := (Qa BK247.out 8).trans rfl
 have kz248_0 := (Qa BK248.out 0).trans rfl
 have kz248_1 := (Qa BK248.out 1).trans rfl
 have kz248_2 := (Qa BK248.out 2).trans rfl
 have kz248_3 := (Qa BK248.out 3).trans rfl
 have kz248_4 := (Qa BK248.out 4).trans rfl
 have kz248_5 := (Qa BK248.out 5).trans rfl
 have kz248_6 := (Qa BK248.out 6).trans rfl
 have kz248_7 := (Qa BK248.out 7).trans rfl
 have kz248_8 := (Qa BK248.out 8).trans rfl
 have kz249_0 := (Qa BK249.out 0).trans rfl
 have kz249_1 := (Qa BK249.out 1).trans rfl
 have kz249_2 := (Qa BK249.out 2).trans rfl
 have kz249_3 := (Qa BK249.out 3).trans rfl
 have kz249_4 := (Qa BK249.out 4).trans rfl
 have kz249_5 := (Qa BK249.out 5).trans rfl
 have kz249_6 := (Qa BK249.out 6).trans rfl
 have kz250_0 := (Qa BK250.out 0).trans rfl
 have kz250_1 := (Qa BK250.out 1).trans rfl
 have kz250_2 := (Qa BK250.out 2).trans rfl
 have kz250_3 := (Qa BK250.out 3).trans rfl
 have kz250_4 := (Qa BK250.out 4).trans rfl
 have kz250_5 := (Qa BK250.out 5).trans rfl
 have kz250_6 := (Qa BK250.out 6).trans rfl
 try go_wp2
 have n0_ := Aside0.mk (Qi BK247.out)
 have n1_ := Aside0.mk (Qi BK248.out)
 have n2_ := Aside0.mk (Qi BK249.out)
 have n3_ := Aside0.mk (Qi BK250.out)
 have n4_ := Aside0.mk (Qd HB.out)
 clear BK247
 clear BK248
 clear BK249
 clear BK250
 clear HB
 have BK247 := n0_
 have BK248 := n1_
 have BK249 := n2_
 have BK250 := n3_
 have HB := n4_
 clear n0_ n1_ n2_ n3_ n4_
 refine start_ (n := 28) (S := fun w' => w'.cell? ⟨gb247, 0, none⟩ = some (.int .i64 a0_0) ∧ w'.cell? ⟨gb247, 1, none⟩ = some (.bool a0_1) ∧ w'.cell? ⟨gb247, 2, none⟩ = some (.int .i64 a0_2) ∧ w'.cell? ⟨gb247, 3, none⟩ = some (.int .i64 a0_3) ∧ w'.cell? ⟨gb247, 4, none⟩ = some (.int .i64 a0_4) ∧ w'.cell? ⟨gb247, 5, none⟩ = some (.int .i64 a0_5) ∧ w'.cell? ⟨gb247, 6, none⟩ = some (.int .i64 a0_6) ∧ w'.cell? ⟨gb247, 7, none⟩ = some (.int .i64 a0_7) ∧ w'.cell? ⟨gb247, 8, none⟩ = some (.bool a0_8) ∧ w'.cell? ⟨gb248, 0, none⟩ = some (.int .i64 a1_0) ∧ w'.cell? ⟨gb248, 1, none⟩ = some (.bool a1_1) ∧ w'.cell? ⟨gb248, 2, none⟩ = some (.int .i64 a1_2) ∧ w'.cell? ⟨gb248, 3, none⟩ = some (.int .i64 a1_3) ∧ w'.cell? ⟨gb248, 4, none⟩ = some (.int .i64 a1_4) ∧ w'.cell? ⟨gb248, 5, none⟩ = some (.int .i64 a1_5) ∧ w'.cell? ⟨gb248, 6, none⟩ = some (.int .i64 a1_6) ∧ w'.cell? ⟨gb248, 7, none⟩ = some (.int .i64 a1_7) ∧ w'.cell? ⟨gb248, 8, none⟩ = some (.bool a1_8) ∧ w'.cell? ⟨gb249, 0, none⟩ = some (.int .i64 a0_2) ∧ w'.cell? ⟨gb249, 1, none⟩ = some (.int .i64 a0_3) ∧ w'.cell? ⟨gb249, 2, none⟩ = some (.int .i64 a0_4) ∧ w'.cell? ⟨gb249, 3, none⟩ = some (.int .i64 a0_5) ∧ w'.cell? ⟨gb249, 4, none⟩ = some (.int .i64 a0_6) ∧ w'.cell? ⟨gb249, 5, none⟩ = some (.int .i64 a0_7) ∧ w'.cell? ⟨gb249, 6, none⟩ = some (.bool a0_8) ∧ w'.cell? ⟨gb250, 0, none⟩ = some (.int .i64 a1_2) ∧ w'.cell? ⟨gb250, 1, none⟩ = some (.int .i64 a1_3) ∧ w'.cell? ⟨gb250, 2, none⟩ = some (.int .i64 a1_4) ∧ w'.cell? ⟨gb250, 3, none⟩ = some (.int .i64 a1_5) ∧ w'.cell? ⟨gb250, 4, none⟩ = some (.int .i64 a1_6) ∧ w'.cell? ⟨gb250, 5, none⟩ = some (.int .i64 a1_7) ∧ w'.cell? ⟨gb250, 6, none⟩ = some (.bool a1_8)) (ds := []) #[false, false, false, false, false, false, false, false, false, false, false, false, false, false, false, false, false, false, false, false, false, false, false, false, false, false, false, false] (by kernel_rfl) rfl rfl ⟨(Qa BK247.out 0).trans rfl, (Qa BK247.out 1).trans rfl, (Qa BK247.out 2).trans rfl, (Qa BK247.out 3).trans rfl, (Qa BK247.out 4).trans rfl, (Qa BK247.out 5).trans rfl, (Qa BK247.out 6).trans rfl, (Qa BK247.out 7).trans rfl, (Qa BK247.out 8).trans rfl, (Qa BK248.out 0).trans rfl, (Qa BK248.out 1).trans rfl, (Qa BK248.out 2).trans rfl, (Qa BK248.out 3).trans rfl, (Qa BK248.out 4).trans rfl, (Qa BK248.out 5).trans rfl, (Qa BK248.out 6).trans rfl, (Qa BK248.out 7).trans rfl, (Qa BK248.out 8).trans rfl, (Qa BK249.out 0).trans rfl, (Qa BK249.out 1).trans rfl, (Qa BK249.out 2).trans rfl, (Qa BK249.out 3).trans rfl, (Qa BK249.out 4).trans rfl, (Qa BK249.out 5).trans rfl, (Qa BK249.out 6).trans rfl, (Qa BK250.out 0).trans rfl, (Qa BK250.out 1).trans rfl, (Qa BK250.out 2).trans rfl, (Qa BK250.out 3).trans rfl, (Qa BK250.out 4).trans rfl, (Qa BK250.out 5).trans rfl, (Qa BK250.out 6).trans rfl⟩ (fun hHeld => ?_); refine with_tabW impl_Held_order.tab2 impl_Held_order.bits2 (fun HT_ HW_ => ?_)
 generalize w29.drew = w30 at BK247 BK248 BK249 BK250 HB hHeld ⊢
 refine Qx (i := 0) (N := some 11) (v := ?_) (a' := ?_) #[true, false, false, false, false, false, false, false, false, false, false, false, false, false, false, false, false, false, false, false, false, false, false, false, false, false, false, false] rfl rfl (Qt HT_.out (by kernel_rfl)) (fun _ _ _ h => h) (Or.inl ⟨by rfl, ?_⟩) ?_ ?_
 rotate_left
 ·intro w'
  go_simp
  with_reducible rfl
 rotate_left
 ·simp only [Act.put, List.setIfInBounds_toArray, List.set_cons_zero, List.set_cons_succ, Qr, Qs]
  rfl
 refine Qx (i := 2) (N := some 13) (v := ?_) (a' := ?_) #[true, false, true, false, false, false, false, false, false, false, false, false, false, false, false, false, false, false, false, false, false, false, false, false, false, false, false, false] rfl rfl (Qt HT_.out (by kernel_rfl)) (fun _ _ _ h => h) (Or.inl ⟨by rfl, ?_⟩) ?_ ?_
 rotate_left
 ·intro w'
  go_simp
  with_reducible rfl
 rotate_left
 ·simp only [Act.put, List.setIfInBounds_toArray, List.set_cons_zero, List.set_cons_succ, Qr, Qs]
  rfl
 refine Qx (i := 5) (N := some 16) (v := ?_) (a' := ?_) #[true, false, true, false, false, true, false, false, false, false, false, false, false, false, false, false, false, false, false, false, false, false, false, false, false, false, false, false] rfl rfl (Qt HT_.out (by kernel_rfl)) (fun _ _ _ h => h) (Or.inl ⟨by rfl, ?_⟩) ?_ ?_
 rotate_left
 ·intro w'
  go_simp
  with_reducible rfl
 rotate_left
 ·simp only [Act.put, List.setIfInBounds_toArray, List.set_cons_zero, List.set_cons_succ, Qr, Qs]
  rfl
 refine Qx (i := 7) (N := some 18) (v := ?_) (a' := ?_) #[true, false, true, false, false, true, false, true, false, false, false, false, false, false, false, false, false, false, false, false, false, false, false, false, false, false, false, false] rfl rfl (Qt HT_.out (by kernel_rfl)) (fun _ _ _ h => h) (Or.inl ⟨by rfl, ?_⟩) ?_ ?_
 rotate_left
 ·intro w'
  go_simp
  with_reducible rfl
 rotate_left
 ·simp only [Act.put, List.setIfInBounds_toArray, List.set_cons_zero, List.set_cons_succ, Qr, Qs]
  rfl
 refine Qx (i := 10) (N := some 21) (v := ?_) (a' := ?_) #[true, false, true, false, false, true, false, true, false, false, true, false, false, false, false, false, false, false, false, false, false, false, false, false, false, false, false, false] rfl rfl (Qt HT_.out (by kernel_rfl)) (fun _ _ _ h => h) (Or.inl ⟨by rfl, ?_⟩) ?_ ?_
 rotate_left
 ·intro w'
  go_simp
  with_reducible rfl
 rotate_left
 ·simp only [Act.put, List.setIfInBounds_toArray, List.set_cons_zero, List.set_cons_succ, Qr, Qs]
  rfl
 refine Qx (i := 12) (N := some 23) (v := ?_) (a' := ?_) #[true, false, true, false, false, true, false, true, false, false, true, false, true, false, false, false, false, false, false, false, false, false, false, false, false, false, false, false] rfl rfl (Qt HT_.out (by kernel_rfl)) (fun _ _ _ h => h) (Or.inl ⟨by rfl, ?_⟩) ?_ ?_
 rotate_left
 ·intro w'
  go_simp
  with_reducible rfl
 rotate_left
 ·simp only [Act.put, List.setIfInBounds_toArray, List.set_cons_zero, List.set_cons_succ, Qr, Qs]
  rfl
 refine Qx (i := 15) (N := some 26) (v := ?_) (a' := ?_) #[true, false, true, false, false, true, false, true, false, false, true, false, true, false, false, true, false, false, false, false, false, false, false, false, false, false, false, false] rfl rfl (Qt HT_.out (by kernel_rfl)) (fun _ _ _ h => h) (Or.inl ⟨by rfl, ?_⟩) ?_ ?_
 rotate_left
 ·intro w'
  go_simp
  with_reducible rfl
 rotate_left
 ·simp only [Act.put, List.setIfInBounds_toArray, List.set_cons_zero, List.set_cons_succ, Qr, Qs]
  rfl
 refine Qx (i := 17) (N := some 28) (v := ?_) (a' := ?_) #[true, false, true, false, false, true, false, true, false, false, true, false, true, false, false, true, false, true, false, false, false, false, false, false, false, false, false, false] rfl rfl (Qt HT_.out (by kernel_rfl)) (fun _ _ _ h => h) (Or.inl ⟨by rfl, ?_⟩) ?_ ?_
 rotate_left
 ·intro w'
  go_simp
  with_reducible rfl
 rotate_left
 ·simp only [Act.put, List.setIfInBounds_toArray, List.set_cons_zero, List.set_cons_succ, Qr, Qs]
  rfl
 refine Qx (i := 20) (N := some 31) (v := ?_) (a' := ?_) #[true, false, true, false, false, true, false, true, false, false, true, false, true, false, false, true, false, true, false, false, true, false, false, false, false, false, false, false] rfl rfl (Qt HT_.out (by kernel_rfl)) (fun _ _ _ h => h) (Or.inl ⟨by rfl, ?_⟩) ?_ ?_
 rotate_left
 ·intro w'
  go_simp
  with_reducible rfl
 rotate_left
 ·simp only [Act.put, List.setIfInBounds_toArray, List.set_cons_zero, List.set_cons_succ, Qr, Qs]
  rfl
 refine Qx (i := 22) (N := some 33) (v := ?_) (a' := ?_) #[true, false, true, false, false, true, false, true, false, false, true, false, true, false, false, true, false, true, false, false, true, false, true, false, false, false, false, false] rfl rfl (Qt HT_.out (by kernel_rfl)) (fun _ _ _ h => h) (Or.inl ⟨by rfl, ?_⟩) ?_ ?_
 rotate_left
 ·intro w'
  go_simp
  with_reducible rfl
 rotate_left
 ·simp only [Act.put, List.setIfInBounds_toArray, List.set_cons_zero, List.set_cons_succ, Qr, Qs]
  rfl
 refine take_ (i := 1) (N := some 12) (v := ?_) (a' := ?_) #[true, true, true, false, false, true, false, true, false, false, true, false, true, false, false, true, false, true, false, false, true, false, true, false, false, false, false, false] rfl rfl (Qz HT_.out HW_.out (by kernel_rfl)) (fun _ _ _ h => h) (Or.inl ⟨by rfl, ?_⟩) hHeld ?_ ?_
 rotate_left
 ·rintro w' ⟨s0, s1, s2, s3, s4, s5, s6, s7, s8, s9, s10, s11, s12, s13, s14, s15, s16, s17, s18, s19, s20, s21, s22, s23, s24, s25, s26, s27, s28, s29, s30, s31⟩
  go_simp
  with_reducible rfl
 rotate_left
 ·simp only [Act.put, List.setIfInBounds_toArray, List.set_cons_zero, List.set_cons_succ, Qr, Qs]
  rfl
 refine take_ (i := 3) (N := some 14) (v := ?_) (a' := ?_) #[true, true, true, true, false, true, false, true, false, false, true, false, true, false, false, true, false, true, false, false, true, false, true, false, false, false, false, false] rfl rfl (Qz HT_.out HW_.out (by kernel_rfl)) (fun _ _ _ h => h) (Or.inl ⟨by rfl, ?_⟩) hHeld ?_ ?_
 rotate_left
 ·rintro w' ⟨s0, s1, s2, s3, s4, s5, s6, s7, s8, s9, s10, s11, s12, s13, s14, s15, s16, s17, s18, s19, s20, s21, s22, s23, s24, s25, s26, s27, s28, s29, s30, s31⟩
  go_simp
  with_reducible rfl
 rotate_left
 ·simp only [Act.put, List.setIfInBounds_toArray, List.set_cons_zero, List.set_cons_succ, Qr, Qs]
  rfl
 refine take_ (i := 6) (N := some 17) (v := ?_) (a' := ?_) #[true, true, true, true, false, true, true, true, false, false, true, false, true, false, false, true, false, true, false, false, true, false, true, false, false, false, false, false] rfl rfl (Qz HT_.out HW_.out (by kernel_rfl)) (fun _ _ _ h => h) (Or.inl ⟨by rfl, ?_⟩) hHeld ?_ ?_
 rotate_left
 ·rintro w' ⟨s0, s1, s2, s3, s4, s5, s6, s7, s8, s9, s10, s11, s12, s13, s14, s15, s16, s17, s18, s19, s20, s21, s22, s23, s24, s25, s26, s27, s28, s29, s30, s31⟩
  go_simp
  with_reducible rfl
 rotate_left
 ·simp only [Act.put, List.setIfInBounds_toArray, List.set_cons_zero, List.set_cons_succ, Qr, Qs]
  rfl
 refine take_ (i := 8) (N := some 19) (v := ?_) (a' := ?_) #[true, true, true, true, false, true, true, true, true, false, true, false, true, false, false, true, false, true, false, false, true, false, true, false, false, false, false, false] rfl rfl (Qz HT_.out HW_.out (by kernel_rfl)) (fun _ _ _ h => h) (Or.inl ⟨by rfl, ?_⟩) hHeld ?_ ?_
 rotate_left
 ·rintro w' ⟨s0, s1, s2, s3, s4, s5, s6, s7, s8, s9, s10, s11, s12, s13, s14, s15, s16, s17, s18, s19, s20, s21, s22, s23, s24, s25, s26, s27, s28, s29, s30, s31⟩
  go_simp
  with_reducible rfl
 rotate_left
 ·simp only [Act.put, List.setIfInBounds_toArray, List.set_cons_zero, List.set_cons_succ, Qr, Qs]
  rfl
 refine take_ (i := 11) (N := some 22) (v := ?_) (a' := ?_) #[true, true, true, true, false, true, true, true, true, false, true, true, true, false, false, true, false, true, false, false, true, false, true, false, false, false, false, false] rfl rfl (Qz HT_.out HW_.out (by kernel_rfl)) (fun _ _ _ h => h) (Or.inl ⟨by rfl, ?_⟩) hHeld ?_ ?_
 rotate_left
 ·rintro w' ⟨s0, s1, s2, s3, s4, s5, s6, s7, s8, s9, s10, s11, s12, s13, s14, s15, s16, s17, s18, s19, s20, s21, s22, s23, s24, s25, s26, s27, s28, s29, s30, s31⟩
  go_simp
  with_reducible rfl
 rotate_left
 ·simp only [Act.put, List.setIfInBounds_toArray, List.set_cons_zero, List.set_cons_succ, Qr, Qs]
  rfl
 refine take_ (i := 13) (N := some 24) (v := ?_) (a' := ?_) #[true, true, true, true, false, true, true, true, true, false, true, true, true, true, false, true, false, true, false, false, true, false, true, false, false, false, false, false] rfl rfl (Qz HT_.out HW_.out (by kernel_rfl)) (fun _ _ _ h => h) (Or.inl ⟨by rfl, ?_⟩) hHeld ?_ ?_
 rotate_left
 ·rintro w' ⟨s0, s1, s2, s3, s4, s5, s6, s7, s8, s9, s10, s11, s12, s13, s14, s15, s16, s17, s18, s19, s20, s21, s22, s23, s24, s25, s26, s27, s28, s29, s30, s31⟩
  go_simp
  with_reducible rfl
 rotate_left
 ·simp only [Act.put, List.setIfInBounds_toArray, List.set_cons_zero, List.set_cons_succ, Qr, Qs]
  rfl
 refine take_ (i := 16) (N := some 27) (v := ?_) (a' := ?_) #[true, true, true, true, false, true, true, true, true, false, true, true, true, true, false, true, true, true, false, false, true, false, true, false, false, false, false, false] rfl rfl (Qz HT_.out HW_.out (by kernel_rfl)) (fun _ _ _ h => h) (Or.inl ⟨by rfl, ?_⟩) hHeld ?_ ?_
 rotate_left
 ·rintro w' ⟨s0, s1, s2, s3, s4, s5, s6, s7, s8, s9, s10, s11, s12, s13, s14, s15, s16, s17, s18, s19, s20, s21, s22, s23, s24, s25, s26, s27, s28, s29, s30, s31⟩
  go_simp
  with_reducible rfl
 rotate_left
 ·simp only [Act.put, List.setIfInBounds_toArray, List.set_cons_zero, List.set_cons_succ, Qr, Qs]
  rfl
 refine take_ (i := 18) (N := some 29) (v := ?_) (a' := ?_) #[true, true, true, true, false, true, true, true, true, false, true, true, true, true, false, true, true, true, true, false, true, false, true, false, false, false, false, false] rfl rfl (Qz HT_.out HW_.out (by kernel_rfl)) (fun _ _ _ h => h) (Or.inl ⟨by rfl, ?_⟩) hHeld ?_ ?_
 rotate_left
 ·rintro w' ⟨s0, s1, s2, s3, s4, s5, s6, s7, s8, s9, s10, s11, s12, s13, s14, s15, s16, s17, s18, s19, s20, s21, s22, s23, s24, s25, s26, s27, s28, s29, s30, s31⟩
  go_simp
  with_reducible rfl
 rotate_left
 ·simp only [Act.put, List.setIfInBounds_toArray, List.set_cons_zero, List.set_cons_succ, Qr, Qs]
  rfl
 refine take_ (i := 21) (N := some 32) (v := ?_) (a' := ?_) #[true, true, true, true, false, true, true, true, true, false, true, true, true, true, false, true, true, true, true, false, true, true, true, false, false, false, false, false] rfl rfl (Qz HT_.out HW_.out (by kernel_rfl)) (fun _ _ _ h => h) (Or.inl ⟨by rfl, ?_⟩) hHeld ?_ ?_
 rotate_left
 ·rintro w' ⟨s0, s1, s2, s3, s4, s5, s6, s7, s8, s9, s10, s11, s12, s13, s14, s15, s16, s17, s18, s19, s20, s21, s22, s23, s24, s25, s26, s27, s28, s29, s30, s31⟩
  go_simp
  with_reducible rfl
 rotate_left
 ·simp only [Act.put, List.setIfInBounds_toArray, List.set_cons_zero, List.set_cons_succ, Qr, Qs]
  rfl
 refine take_ (i := 23) (N := some 34) (v := ?_) (a' := ?_) #[true, true, true, true, false, true, true, true, true, false, true, true, true, true, false, true, true, true, true, false, true, true, true, true, false, false, false, false] rfl rfl (Qz HT_.out HW_.out (by kernel_rfl)) (fun _ _ _ h => h) (Or.inl ⟨by rfl, ?_⟩) hHeld ?_ ?_
 rotate_left
 ·rintro w' ⟨s0, s1, s2, s3, s4, s5, s6, s7, s8, s9, s10, s11, s12, s13, s14, s15, s16, s17, s18, s19, s20, s21, s22, s23, s24, s25, s26, s27, s28, s29, s30, s31⟩
  go_simp
  with_reducible rfl
 rotate_left
 ·simp only [Act.put, List.setIfInBounds_toArray, List.set_cons_zero, List.set_cons_succ, Qr, Qs]
  rfl
 refine one_ (i := 4) (N := some 15) #[true, true, true, true, true, true, true, true, true, false, true, true, true, true, false, true, true, true, true, false, true, true, true, true, false, false, false, false] rfl rfl (one_of HT_.out (by kernel_rfl)) (by decide) (fun K hK => ?_)
 refine goes_ Try.func136 (by kernel_rfl) rfl #[.int .i64 a0_0, .int .i64 a1_0] (by rfl) rfl rfl (by (try simp only [List.map_toArray, List.map_cons, List.map_nil]); first | done | rfl | (simp only [List.length_drop, List.length_take]; rfl)) ?_
 with_reducible refine (cmp_Compare_int64.calls a0_0 a1_0 t251 _ A3.out).mono ?_
 rintro e w' ⟨rfl, ⟨nd, rfl⟩⟩
 refine ⟨_, rfl, ?_⟩
 refine hK.out _ _ ⟨(Qa BK247.out 0).trans rfl, (Qa BK247.out 1).trans rfl, (Qa BK247.out 2).trans rfl, (Qa BK247.out 3).trans rfl, (Qa BK247.out 4).trans rfl, (Qa BK247.out 5).trans rfl, (Qa BK247.out 6).trans rfl, (Qa BK247.out 7).trans rfl, (Qa BK247.out 8).trans rfl, (Qa BK248.out 0).trans rfl, (Qa BK248.out 1).trans rfl, (Qa BK248.out 2).trans rfl, (Qa BK248.out 3).trans rfl, (Qa BK248.out 4).trans rfl, (Qa BK248.out 5).trans rfl, (Qa BK248.out 6).trans rfl, (Qa BK248.out 7).trans rfl, (Qa BK248.out 8).trans rfl, (Qa BK249.out 0).trans rfl, (Qa BK249.out 1).trans rfl, (Qa BK249.out 2).trans rfl, (Qa BK249.out 3).trans rfl, (Qa BK249.out 4).trans rfl, (Qa BK249.out 5).trans rfl, (Qa BK249.out 6).trans rfl, (Qa BK250.out 0).trans rfl, (Qa BK250.out 1).trans rfl, (Qa BK250.out 2).trans rfl, (Qa BK250.out 3).trans rfl, (Qa BK250.out 4).trans rfl, (Qa BK250.out 5).trans rfl, (Qa BK250.out 6).trans rfl⟩ (fun hHeld => ?_)
 clear hK K
 refine norm_ (a' := ?_) ?_ ?_
 rotate_left
 ·show Act.put _ (some 15) _ = _
  simp only [Act.put, List.setIfInBounds_toArray, List.set_cons_zero, List.set_cons_succ, Qr, Qs]
  rfl
 refine one_ (i := 9) (N := some 20) #[true, true, true, true, true, true, true, true, true, true, true, true, true, true, false, true, true, true, true, false, true, true, true, true, false, false, false, false] rfl rfl (one_of HT_.out (by kernel_rfl)) (by decide) (fun K hK => ?_)
 refine goes_ Try.func136 (by kernel_rfl) rfl #[.int .i64 a0_2, .int .i64 a1_2] (by rfl) rfl rfl (by (try simp only [List.map_toArray, List.map_cons, List.map_nil]); first | done | rfl | (simp only [List.length_drop, List.length_take]; rfl)) ?_
 with_reducible refine (cmp_Compare_int64.calls a0_2 a1_2 t252 _ A4.out).mono ?_
 rintro e w' ⟨rfl, ⟨nd, rfl⟩⟩
 refine ⟨_, rfl, ?_⟩
 refine hK.out _ _ ⟨(Qa BK247.out 0).trans rfl, (Qa BK247.out 1).trans rfl, (Qa BK247.out 2).trans rfl, (Qa BK247.out 3).trans rfl, (Qa BK247.out 4).trans rfl, (Qa BK247.out 5).trans rfl, (Qa BK247.out 6).trans rfl, (Qa BK247.out 7).trans rfl, (Qa BK247.out 8).trans rfl, (Qa BK248.out 0).trans rfl, (Qa BK248.out 1).trans rfl, (Qa BK248.out 2).trans rfl, (Qa BK248.out 3).trans rfl, (Qa BK248.out 4).trans rfl, (Qa BK248.out 5).trans rfl, (Qa BK248.out 6).trans rfl, (Qa BK248.out 7).trans rfl, (Qa BK248.out 8).trans rfl, (Qa BK249.out 0).trans rfl, (Qa BK249.out 1).trans rfl, (Qa BK249.out 2).trans rfl, (Qa BK249.out 3).trans rfl, (Qa BK249.out 4).trans rfl, (Qa BK249.out 5).trans rfl, (Qa BK249.out 6).trans rfl, (Qa BK250.out 0).trans rfl, (Qa BK250.out 1).trans rfl, (Qa BK250.out 2).trans rfl, (Qa BK250.out 3).trans rfl, (Qa BK250.out 4).trans rfl, (Qa BK250.out 5).trans rfl, (Qa BK250.out 6).trans rfl⟩ (fun hHeld => ?_)
 clear hK K
 refine norm_ (a' := ?_) ?_ ?_
 rotate_left
 ·show Act.put _ (some 20) _ = _
  simp only [Act.put, List.setIfInBounds_toArray, List.set_cons_zero, List.set_cons_succ, Qr, Qs]
  rfl
 refine one_ (i := 14) (N := some 25) #[true, true, true, true, true, true, true, true, true, true, true, true, true, true, true, true, true, true, true, false, true, true, true, true, false, false, false, false] rfl rfl (one_of HT_.out (by kernel_rfl)) (by decide) (fun K hK => ?_)
 refine goes_ Try.func136 (by kernel_rfl) rfl #[.int .i64 a0_3, .int .i64 a1_3] (by rfl) rfl rfl (by (try simp only [List.map_toArray, List.map_cons, List.map_nil]); first | done | rfl | (simp only [List.length_drop, List.length_take]; rfl)) ?_
 with_reducible refine (cmp_Compare_int64.calls a0_3 a1_3 t253 _ A5.out).mono ?_
 rintro e w' ⟨rfl, ⟨nd, rfl⟩⟩
 refine ⟨_, rfl, ?_⟩
 refine hK.out _ _ ⟨(Qa BK247.out 0).trans rfl, (Qa BK247.out 1).trans rfl, (Qa BK247.out 2).trans rfl, (Qa BK247.out 3).trans rfl, (Qa BK247.out 4).trans rfl, (Qa BK247.out 5).trans rfl, (Qa BK247.out 6).trans rfl, (Qa BK247.out 7).trans rfl, (Qa BK247.out 8).trans rfl, (Qa BK248.out 0).trans rfl, (Qa BK248.out 1).trans rfl, (Qa BK248.out 2).trans rfl, (Qa BK248.out 3).trans rfl, (Qa BK248.out 4).trans rfl, (Qa BK248.out 5).trans rfl, (Qa BK248.out 6).trans rfl, (Qa BK248.out 7).trans rfl, (Qa BK248.out 8).trans rfl, (Qa BK249.out 0).trans rfl, (Qa BK249.out 1).trans rfl, (Qa BK249.out 2).trans rfl, (Qa BK249.out 3).trans rfl, (Qa BK249.out 4).trans rfl, (Qa BK249.out 5).trans rfl, (Qa BK249.out 6).trans rfl, (Qa BK250.out 0).trans rfl, (Qa BK250.out 1).trans rfl, (Qa BK250.out 2).trans rfl, (Qa BK250.out 3).trans rfl, (Qa BK250.out 4).trans rfl, (Qa BK250.out 5).trans rfl, (Qa BK250.out 6).trans rfl⟩ (fun hHeld => ?_)
 clear hK K
 refine norm_ (a' := ?_) ?_ ?_
 rotate_left
 ·show Act.put _ (some 25) _ = _
  simp only [Act.put, List.setIfInBounds_toArray, List.set_cons_zero, List.set_cons_succ, Qr, Qs]
  rfl
 refine one_ (i := 19) (N := some 30) #[true, true, true, true, true, true, true, true, true, true, true, true, true, true, true, true, true, true, true, true, true, true, true, true, false, false, false, false] rfl rfl (one_of HT_.out (by kernel_rfl)) (by decide) (fun K hK => ?_)
 refine goes_ Try.func136 (by kernel_rfl) rfl #[.int .i64 a0_4, .int .i64 a1_4] (by rfl) rfl rfl (by (try simp only [List.map_toArray, List.map_cons, List.map_nil]); first | done | rfl | (simp only [List.length_drop, List.length_take]; rfl)) ?_
 with_reducible refine (cmp_Compare_int64.calls a0_4 a1_4 t254 _ A6.out).mono ?_
 rintro e w' ⟨rfl, ⟨nd, rfl⟩⟩
 refine ⟨_, rfl, ?_⟩
 refine hK.out _ _ ⟨(Qa BK247.out 0).trans rfl, (Qa BK247.out 1).trans rfl, (Qa BK247.out 2).trans rfl, (Qa BK247.out 3).trans rfl, (Qa BK247.out 4).trans rfl, (Qa BK247.out 5).trans rfl, (Qa BK247.out 6).trans rfl, (Qa BK247.out 7).trans rfl, (Qa BK247.out 8).trans rfl, (Qa BK248.out 0).trans rfl, (Qa BK248.out 1).trans rfl, (Qa BK248.out 2).trans rfl, (Qa BK248.out 3).trans rfl, (Qa BK248.out 4).trans rfl, (Qa BK248.out 5).trans rfl, (Qa BK248.out 6).trans rfl, (Qa BK248.out 7).trans rfl, (Qa BK248.out 8).trans rfl, (Qa BK249.out 0).trans rfl, (Qa BK249.out 1).trans rfl, (Qa BK249.out 2).trans rfl, (Qa BK249.out 3).trans rfl, (Qa BK249.out 4).trans rfl, (Qa BK249.out 5).trans rfl, (Qa BK249.out 6).trans rfl, (Qa BK250.out 0).trans rfl, (Qa BK250.out 1).trans rfl, (Qa BK250.out 2).trans rfl, (Qa BK250.out 3).trans rfl, (Qa BK250.out 4).trans rfl, (Qa BK250.out 5).trans rfl, (Qa BK250.out 6).trans rfl⟩ (fun hHeld => ?_)
 clear hK K
 refine norm_ (a' := ?_) ?_ ?_
 rotate_left
 ·show Act.put _ (some 30) _ = _
  simp only [Act.put, List.setIfInBounds_toArray, List.set_cons_zero, List.set_cons_succ, Qr, Qs]
  rfl
 refine one_ (i := 24) (N := some 35) #[true, true, true, true, true, true, true, true, true, true, true, true, true, true, true, true, true, true, true, true, true, true, true, true, true, false, false, false] rfl rfl (one_of HT_.out (by kernel_rfl)) (by decide) (fun K hK => ?_)
 refine goes_ Try.func136 (by kernel_rfl) rfl #[.int .i64 a0_6, .int .i64 a1_6] (by rfl) rfl rfl (by (try simp only [List.map_toArray, List.map_cons, List.map_nil]); first | done | rfl | (simp only [List.length_drop, List.length_take]; rfl)) ?_
 with_reducible refine (cmp_Compare_int64.calls a0_6 a1_6 t255 _ A7.out).mono ?_
 rintro e w' ⟨rfl, ⟨nd, rfl⟩⟩
 refine ⟨_, rfl, ?_⟩
 refine hK.out _ _ ⟨(Qa BK247.out 0).trans rfl, (Qa BK247.out 1).trans rfl, (Qa BK247.out 2).trans rfl, (Qa BK247.out 3).trans rfl, (Qa BK247.out 4).trans rfl, (Qa BK247.out 5).trans rfl, (Qa BK247.out 6).trans rfl, (Qa BK247.out 7).trans rfl, (Qa BK247.out 8).trans rfl, (Qa BK248.out 0).trans rfl, (Qa BK248.out 1).trans rfl, (Qa BK248.out 2).trans rfl, (Qa BK248.out 3).trans rfl, (Qa BK248.out 4).trans rfl, (Qa BK248.out 5).trans rfl, (Qa BK248.out 6).trans rfl, (Qa BK248.out 7).trans rfl, (Qa BK248.out 8).trans rfl, (Qa BK249.out 0).trans rfl, (Qa BK249.out 1).trans rfl, (Qa BK249.out 2).trans rfl, (Qa BK249.out 3).trans rfl, (Qa BK249.out 4).trans rfl, (Qa BK249.out 5).trans rfl, (Qa BK249.out 6).trans rfl, (Qa BK250.out 0).trans rfl, (Qa BK250.out 1).trans rfl, (Qa BK250.out 2).trans rfl, (Qa BK250.out 3).trans rfl, (Qa BK250.out 4).trans rfl, (Qa BK250.out 5).trans rfl, (Qa BK250.out 6).trans rfl⟩ (fun hHeld => ?_)
 clear hK K
 refine norm_ (a' := ?_) ?_ ?_
 rotate_left
 ·show Act.put _ (some 35) _ = _
  simp only [Act.put, List.setIfInBounds_toArray, List.set_cons_zero, List.set_cons_succ, Qr, Qs]
  rfl
 refine one_ (i := 25) (N := some 36) #[true, true, true, true, true, true, true, true, true, true, true, true, true, true, true, true, true, true, true, true, true, true, true, true, true, true, false, false] rfl rfl (one_of HT_.out (by kernel_rfl)) (by decide) (fun K hK => ?_)
 refine Kd.R_lit_step (Kd.int .i64) _ 3 ?hg (N := 36) ?hd (xs := ([t251, t252, t253, t254, t255] : List Int)) (inner := [.int .i64 t251, .int .i64 t252, .int .i64 t253, .int .i64 t254, .int .i64 t255]) (ok := fun _ => True) (okp := fun _ => True) ?hr ?hp (fun _ hk => hk) trivial (Below.refl _ _) (Nat.le_refl _) (by simp) ?_; (case hd => rfl); (case hg => rfl); (case hr => first | (go_simp; done) | (go_simp; rfl)); (case hp => exact (Reps.one (show Kd.M (Kd.int .i64) _ _ _ t251 [.int .i64 t251] from rfl) (Reps.one (show Kd.M (Kd.int .i64) _ _ _ t252 [.int .i64 t252] from rfl) (Reps.one (show Kd.M (Kd.int .i64) _ _ _ t253 [.int .i64 t253] from rfl) (Reps.one (show Kd.M (Kd.int .i64) _ _ _ t254 [.int .i64 t254] from rfl) (Reps.one (show Kd.M (Kd.int .i64) _ _ _ t255 [.int .i64 t255] from rfl) (Reps.none _ _)))))))
 intro v257 w31 ho32 hb hg_ hnew_
 clear hg_ hnew_
 (first | rw [← Ny256.out] at ho32 | (simp only [Int.reduceToNat] at ho32; rw [← Ny256.out] at ho32))
 have n0_ := Aside0.mk (Kd.R_lower ho32 (Qj (by repeat (first | (with_reducible first | exact HB.out | apply Qe | apply Qc | apply Qd | refine Qf ?_ GE247.out | refine Qf ?_ GE248.out | refine Qf ?_ GE249.out | refine Qf ?_ GE250.out) | exact HB.out))))
 have n1_ := Aside0.mk (Qo (g := gb247) (o := .cells #[.int .i64 a0_0, .bool a0_1, .int .i64 a0_2, .int .i64 a0_3, .int .i64 a0_4, .int .i64 a0_5, .int .i64 a0_6, .int .i64 a0_7, .bool a0_8] 73 (0, 0)) (by (with_reducible repeat (first | refine Qg ?_ _ | refine Qi ?_ | refine Qh ?_ _)); exact BK247.out) hb)
 have n2_ := Aside0.mk (Qo (g := gb248) (o := .cells #[.int .i64 a1_0, .bool a1_1, .int .i64 a1_2, .int .i64 a1_3, .int .i64 a1_4, .int .i64 a1_5, .int .i64 a1_6, .int .i64 a1_7, .bool a1_8] 73 (0, 0)) (by (with_reducible repeat (first | refine Qg ?_ _ | refine Qi ?_ | refine Qh ?_ _)); exact BK248.out) hb)
 have n3_ := Aside0.mk (Qo (g := gb249) (o := .cells #[.int .i64 a0_2, .int .i64 a0_3, .int .i64 a0_4, .int .i64 a0_5, .int .i64 a0_6, .int .i64 a0_7, .bool a0_8] 42 (0, 0)) (by (with_reducible repeat (first | refine Qg ?_ _ | refine Qi ?_ | refine Qh ?_ _)); exact BK249.out) hb)
 have n4_ := Aside0.mk (Qo (g := gb250) (o := .cells #[.int .i64 a1_2, .int .i64 a1_3, .int .i64 a1_4, .int .i64 a1_5, .int .i64 a1_6, .int .i64 a1_7, .bool a1_8] 42 (0, 0)) (by (with_reducible repeat (first | refine Qg ?_ _ | refine Qi ?_ | refine Qh ?_ _)); exact BK250.out) hb)
 have n5_ := Aside0.mk (Qn (by repeat (first | (with_reducible first | exact HB.out | apply Qe | apply Qc | apply Qd | refine Qf ?_ GE247.out | refine Qf ?_ GE248.out | refine Qf ?_ GE249.out | refine Qf ?_ GE250.out) | exact HB.out)) hb)
 clear BK247
 clear BK248
 clear BK249
 clear BK250
 clear HB
 have HO258 := n0_
 have BK247 := n1_
 have BK248 := n2_
 have BK249 := n3_
 have BK250 := n4_
 have HB := n5_
 clear n0_ n1_ n2_ n3_ n4_ n5_
 clear hb ho32
 obtain ⟨Ao33, co33, eo33⟩ := Kd.R_slice HO258.out
 (first | subst eo33 | (injection eo33 with f1_ f2_ f3_; have f4_ := f1_.symm; have f5_ := f3_.symm; clear f1_ f2_ f3_; subst f4_; subst f5_))
 refine hK.out _ _ ⟨(Qa BK247.out 0).trans rfl, (Qa BK247.out 1).trans rfl, (Qa BK247.out 2).trans rfl, (Qa BK247.out 3).trans rfl, (Qa BK247.out 4).trans rfl, (Qa BK247.out 5).trans rfl, (Qa BK247.out 6).trans rfl, (Qa BK247.out 7).trans rfl, (Qa BK247.out 8).trans rfl, (Qa BK248.out 0).trans rfl, (Qa BK248.out 1).trans rfl, (Qa BK248.out 2).trans rfl, (Qa BK248.out 3).trans rfl, (Qa BK248.out 4).trans rfl, (Qa BK248.out 5).trans rfl, (Qa BK248.out 6).trans rfl, (Qa BK248.out 7).trans rfl, (Qa BK248.out 8).trans rfl, (Qa BK249.out 0).trans rfl, (Qa BK249.out 1).trans rfl, (Qa BK249.out 2).trans rfl, (Qa BK249.out 3).trans rfl, (Qa BK249.out 4).trans rfl, (Qa BK249.out 5).trans rfl, (Qa BK249.out 6).trans rfl, (Qa BK250.out 0).trans rfl, (Qa BK250.out 1).trans rfl, (Qa BK250.out 2).trans rfl, (Qa BK250.out 3).trans rfl, (Qa BK250.out 4).trans rfl, (Qa BK250.out 5).trans rfl, (Qa BK250.out 6).trans rfl⟩ (fun hHeld => ?_)
 clear hK K
 refine norm_ (a' := ?_) ?_ ?_
 rotate_left
 ·show Act.put _ (some 36) _ = _
  simp only [Act.put, List.setIfInBounds_toArray, List.set_cons_zero, List.set_cons_succ, Qr, Qs]
  rfl
 refine one_ (i := 26) (N := some 37) #[true, true, true, true, true, true, true, true, true, true, true, true, true, true, true, true, true, true, true, true, true, true, true, true, true, true, true, false] rfl rfl (one_of HT_.out (by kernel_rfl)) (by decide) (fun K hK => ?_)
 refine goes_ Try.func135 (by kernel_rfl) rfl #[.slice Ao33 y256.length co33] (by rfl) rfl rfl (by (try simp only [List.map_toArray, List.map_cons, List.map_nil]); first | done | rfl | (simp only [List.length_drop, List.length_take]; rfl)) ?_
 with_reducible refine (cmp_Or_int.calls k _ _ y256 t259 _ ?side1 ?side2 A8.out).mono ?_
 (case side1 => repeat (first | exact (Kd.R_reads' HO258.out).2.2 | (with_reducible refine Kd.C_alloc ?_ _) | (with_reducible refine Kd.C_drewN ?_ _) | (with_reducible refine Kd.C_drew ?_)))
 (case side2 => exact (Kd.R_reads' HO258.out).2.1)
 rintro e w' ⟨rfl, ⟨nd, rfl⟩⟩
 refine ⟨_, rfl, ?_⟩
 refine hK.out _ _ ⟨(Qa BK247.out 0).trans rfl, (Qa BK247.out 1).trans rfl, (Qa BK247.out 2).trans rfl, (Qa BK247.out 3).trans rfl, (Qa BK247.out 4).trans rfl, (Qa BK247.out 5).trans rfl, (Qa BK247.out 6).trans rfl, (Qa BK247.out 7).trans rfl, (Qa BK247.out 8).trans rfl, (Qa BK248.out 0).trans rfl, (Qa BK248.out 1).trans rfl, (Qa BK248.out 2).trans rfl, (Qa BK248.out 3).trans rfl, (Qa BK248.out 4).trans rfl, (Qa BK248.out 5).trans rfl, (Qa BK248.out 6).trans rfl, (Qa BK248.out 7).trans rfl, (Qa BK248.out 8).trans rfl, (Qa BK249.out 0).trans rfl, (Qa BK249.out 1).trans rfl, (Qa BK249.out 2).trans rfl, (Qa BK249.out 3).trans rfl, (Qa BK249.out 4).trans rfl, (Qa BK249.out 5).trans rfl, (Qa BK249.out 6).trans rfl, (Qa BK250.out 0).trans rfl, (Qa BK250.out 1).trans rfl, (Qa BK250.out 2).trans rfl, (Qa BK250.out 3).trans rfl, (Qa BK250.out 4).trans rfl, (Qa BK250.out 5).trans rfl, (Qa BK250.out 6).trans rfl⟩ (fun hHeld => ?_)
 clear hK K
 refine norm_ (a' := ?_) ?_ ?_
 rotate_left
 ·show Act.put _ (some 37) _ = _
  simp only [Act.put, List.setIfInBounds_toArray, List.set_cons_zero, List.set_cons_succ, Qr, Qs]
  rfl
 refine Qx (i := 27) (N := some 4) (v := ?_) (a' := ?_) #[true, true, true, true, true, true, true, true, true, true, true, true, true, true, true, true, true, true, true, true, true, true, true, true, true, true, true, true] rfl rfl (Qt HT_.out (by kernel_rfl)) (fun _ _ _ h => h) (Or.inl ⟨by rfl, ?_⟩) ?_ ?_
 rotate_left
 ·intro w'
  go_simp
  with_reducible rfl
 rotate_left
 ·simp only [Act.put, List.setIfInBounds_toArray, List.set_cons_zero, List.set_cons_succ, Qr, Qs]
  rfl
 refine done_ (done_of HT_.out (by kernel_rfl)) ?_
 try go_wp2
 go_ret
 exact ⟨by first | rfl | (simp [Qm, Ql] <;> rfl) | (simp [*, Qm, Ql] <;> rfl), by repeat (first | (with_reducible first | exact HB.out | apply Qe | apply Qc | apply Qd | refine Qf ?_ GE247.out | refine Qf ?_ GE248.out | refine Qf ?_ GE249.out | refine Qf ?_ GE250.out) | exact HB.out)⟩
end Go.Proofs.Ytmgmaflfednngaa.PFnExactTellerRight
