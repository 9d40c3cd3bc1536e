-- A copy, made by trim.py (its own words shortened): not an official print.
import Derived.Test.YtmgmaflfednngaaZExactTellerRightPFnExactTellerRightx0
import Derived.Test.YtmgmaflfednngaaZExactTellerRightSlices
namespace Go.Proofs.Ytmgmaflfednngaa.PFnExactTellerRight
open Go.RowKit Go.Proofs.YtmgmaflfednngaaW.PrintWords Go.Proofs.YtmgmaflfednngaaW.PrintLast Go.Proofs.YtmgmaflfednngaaW.PrintMore
attribute [local go_sem] max2_int min2_int max_two min_two max_three min_three max_four min_four   -- for this text's walks alone
set_option linter.unusedVariables false
set_option linter.unusedSimpArgs false
def spec_l06Less.f (a0_0 : Int) (a0_1 : Bool) (a0_2 : Int) (a0_3 : Int) (a0_4 : Int) (a0_5 : Int) (a0_6 : Int) (a0_7 : Int) (a0_8 : Bool) (a1_0 : Int) (a1_1 : Bool) (a1_2 : Int) (a1_3 : Int) (a1_4 : Int) (a1_5 : Int) (a1_6 : Int) (a1_7 : Int) (a1_8 : Bool) : Option (Bool) := if a0_0 = a1_0 then (if a0_2 = a1_2 then (if a0_3 = a1_3 then (if a0_4 = a1_4 then (some (decide (a0_6 < a1_6))) else (some (decide (a0_4 < a1_4)))) else (some (decide (a0_3 < a1_3)))) else (some (decide (a0_2 < a1_2)))) else (some (decide (a0_0 < a1_0)))
def spec_l06Less.T1 : Bool × List (List Nat × List Nat) := (true, [([], []), ([0], [0]), ([], []), ([2], [2]), ([], []), ([], []), ([4, 1, 0, 1, 4, 5], [1, 4]), ([5, 3, 6, 0, 1, 2, 3, 4, 5, 6], [3, 5])])
def spec_l06Less.B1 : List Nat := [0, 1, 0, 4, 0, 0, 51, 127]
theorem spec_l06Less.tab1 : rtab .any (opsOf Try.f101 1) = spec_l06Less.T1 := by kernel_rfl
theorem spec_l06Less.bits1 : waitsOk spec_l06Less.T1.2 spec_l06Less.B1 = true := by kernel_rfl
set_option maxHeartbeats 8000000 in
set_option maxRecDepth 100000 in
theorem spec_l06Less.calls (a0_0 : Int) (a0_1 : Bool) (a0_2 : Int) (a0_3 : Int) (a0_4 : Int) (a0_5 : Int) (a0_6 : Int) (a0_7 : Int) (a0_8 : Bool) (a1_0 : Int) (a1_1 : Bool) (a1_2 : Int) (a1_3 : Int) (a1_4 : Int) (a1_5 : Int) (a1_6 : Int) (a1_7 : Int) (a1_8 : Bool) (r : Bool) (w : World) (h : spec_l06Less.f a0_0 a0_1 a0_2 a0_3 a0_4 a0_5 a0_6 a0_7 a0_8 a1_0 a1_1 a1_2 a1_3 a1_4 a1_5 a1_6 a1_7 a1_8 = some r) :
  Calls Try.prog 101 #[.agg #[.int .i64 a0_0, .bool a0_1, .int .i64 a0_2, .int .i64 a0_3, .int .i64 a0_4, .int .i64 a0_5, .int .i64 a0_6, .int .i64 a0_7, .bool a0_8], .agg #[.int .i64 a1_0, .bool a1_1, .int .i64 a1_2, .int .i64 a1_3, .int .i64 a1_4, .int .i64 a1_5, .int .i64 a1_6, .int .i64 a1_7, .bool a1_8]] w fun e w' => e = .returned (.bool r) ∧ Below w.heap.size w w' := by
 have hu73 := Try.underlying73
 have hu42 := Try.underlying42
 have HB := Aside0.mk (Below.refl w.heap.size w)
 have H : (if a0_0 = a1_0 then (if a0_2 = a1_2 then (if a0_3 = a1_3 then (if a0_4 = a1_4 then (some (decide (a0_6 < a1_6))) else (some (decide (a0_4 < a1_4)))) else (some (decide (a0_3 < a1_3)))) else (some (decide (a0_2 < a1_2)))) else (some (decide (a0_0 < a1_0)))) = some r := h
 clear h
 have HH_ := Aside0.mk H
 clear H
 go_enter Try.func101, Try.ntmps101
 try go_wp2_with (first | ((with_reducible refine Qw (N := 2) rfl ?_); refine Qu ?hg (N := 2) ?hd (cs := #[.int .i64 a0_0, .bool a0_1, .int .i64 a0_2, .int .i64 a0_3, .int .i64 a0_4, .int .i64 a0_5, .int .i64 a0_6, .int .i64 a0_7, .bool a0_8]) (t := 73) ?hr ?_; (case hd => rfl); (case hg => rfl); (case hr => first | (go_simp; done) | (go_simp; rfl)); intro gb200 hg w7 hbox hb; have n0_ := Aside0.mk (Qn (by repeat (first | (with_reducible first | exact HB.out | apply Qe | apply Qc | apply Qd) | exact HB.out)) hb); have n1_ := Aside0.mk (hbox); have n2_ := Aside0.mk ((by rw [hg]; exact (Qj (by repeat (first | (with_reducible first | exact HB.out | apply Qe | apply Qc | apply Qd) | exact HB.out))) : w.heap.size ≤ gb200)); have n3_ := Aside0.mk ((by rw [hg]; exact (Qj (by repeat (first | (with_reducible first | exact HB.out | apply Qe | apply Qc | apply Qd) | exact HB.out))) : w.heap.size ≤ gb200)); clear HB; have HB := n0_; have BK200 := n1_; have GW200 := n2_; have GE200 := n3_; clear n0_ n1_ n2_ n3_; clear hb hbox hg) | ((with_reducible refine Qw (N := 3) rfl ?_); refine Qu ?hg (N := 3) ?hd (cs := #[.int .i64 a1_0, .bool a1_1, .int .i64 a1_2, .int .i64 a1_3, .int .i64 a1_4, .int .i64 a1_5, .int .i64 a1_6, .int .i64 a1_7, .bool a1_8]) (t := 73) ?hr ?_; (case hd => rfl); (case hg => rfl); (case hr => first | (go_simp; done) | (go_simp; rfl)); intro gb201 hg w8 hbox hb; have n0_ := Aside0.mk (Qo (g := gb200) (o := .cells #[.int .i64 a0_0, .bool a0_1, .int .i64 a0_2, .int .i64 a0_3, .int .i64 a0_4, .int .i64 a0_5, .int .i64 a0_6, .int .i64 a0_7, .bool a0_8] 73 (0, 0)) (by (with_reducible repeat (first | refine Qg ?_ _ | refine Qi ?_ | refine Qh ?_ _)); exact BK200.out) hb); have n1_ := Aside0.mk (Qn (by repeat (first | (with_reducible first | exact HB.out | apply Qe | apply Qc | apply Qd | refine Qf ?_ GE200.out) | exact HB.out)) hb); have n2_ := Aside0.mk (hbox); have n3_ := Aside0.mk ((by rw [hg]; exact (Qj (by repeat (first | (with_reducible first | exact HB.out | apply Qe | apply Qc | apply Qd | refine Qf ?_ GE200.out) | exact HB.out))) : w.heap.size ≤ gb201)); have n4_ := Aside0.mk ((by rw [hg]; exact (Qj (by repeat (first | (with_reducible first | exact HB.out | apply Qe | apply Qc | apply Qd | refine Qf ?_ GE200.out) | exact HB.out))) : w.heap.size ≤ gb201)); have n5_ := Aside0.mk ((by rw [hg]; exact Nat.ne_of_lt (Qv (g := gb200) (o := .cells #[.int .i64 a0_0, .bool a0_1, .int .i64 a0_2, .int .i64 a0_3, .int .i64 a0_4, .int .i64 a0_5, .int .i64 a0_6, .int .i64 a0_7, .bool a0_8] 73 (0, 0)) (by (with_reducible repeat (first | refine Qg ?_ _ | refine Qi ?_ | refine Qh ?_ _)); exact BK200.out)) : gb200 ≠ gb201)); have n6_ := Aside0.mk ((by rw [hg]; exact Nat.ne_of_gt (Qv (g := gb200) (o := .cells #[.int .i64 a0_0, .bool a0_1, .int .i64 a0_2, .int .i64 a0_3, .int .i64 a0_4, .int .i64 a0_5, .int .i64 a0_6, .int .i64 a0_7, .bool a0_8] 73 (0, 0)) (by (with_reducible repeat (first | refine Qg ?_ _ | refine Qi ?_ | refine Qh ?_ _)); exact BK200.out)) : gb201 ≠ gb200)); clear BK200; clear HB; have BK200 := n0_; have HB := n1_; have BK201 := n2_; have GW201 := n3_; have GE201 := n4_; have NB200_201 := n5_; have NB201_200 := n6_; clear n0_ n1_ n2_ n3_ n4_ n5_ n6_; clear hb hbox hg))
 have n0_ := Aside0.mk (Qi BK200.out)
 have n1_ := Aside0.mk (Qi BK201.out)
 have n2_ := Aside0.mk (Qd HB.out)
 clear BK200
 clear BK201
 clear HB
 have BK200 := n0_
 have BK201 := n1_
 have HB := n2_
 clear n0_ n1_ n2_
 refine start_ (n := 8) (S := fun w' => w'.cell? ⟨gb200, 0, none⟩ = some (.int .i64 a0_0) ∧ w'.cell? ⟨gb200, 1, none⟩ = some (.bool a0_1) ∧ w'.cell? ⟨gb200, 2, none⟩ = some (.int .i64 a0_2) ∧ w'.cell? ⟨gb200, 3, none⟩ = some (.int .i64 a0_3) ∧ w'.cell? ⟨gb200, 4, none⟩ = some (.int .i64 a0_4) ∧ w'.cell? ⟨gb200, 5, none⟩ = some (.int .i64 a0_5) ∧ w'.cell? ⟨gb200, 6, none⟩ = some (.int .i64 a0_6) ∧ w'.cell? ⟨gb200, 7, none⟩ = some (.int .i64 a0_7) ∧ w'.cell? ⟨gb200, 8, none⟩ = some (.bool a0_8) ∧ w'.cell? ⟨gb201, 0, none⟩ = some (.int .i64 a1_0) ∧ w'.cell? ⟨gb201, 1, none⟩ = some (.bool a1_1) ∧ w'.cell? ⟨gb201, 2, none⟩ = some (.int .i64 a1_2) ∧ w'.cell? ⟨gb201, 3, none⟩ = some (.int .i64 a1_3) ∧ w'.cell? ⟨gb201, 4, none⟩ = some (.int .i64 a1_4) ∧ w'.cell? ⟨gb201, 5, none⟩ = some (.int .i64 a1_5) ∧ w'.cell? ⟨gb201, 6, none⟩ = some (.int .i64 a1_6) ∧ w'.cell? ⟨gb201, 7, none⟩ = some (.int .i64 a1_7) ∧ w'.cell? ⟨gb201, 8, none⟩ = some (.bool a1_8)) (ds := []) #[false, false, false, false, false, false, false, false] (by kernel_rfl) rfl rfl ⟨(Qa BK200.out 0).trans rfl, (Qa BK200.out 1).trans rfl, (Qa BK200.out 2).trans rfl, (Qa BK200.out 3).trans rfl, (Qa BK200.out 4).trans rfl, (Qa BK200.out 5).trans rfl, (Qa BK200.out 6).trans rfl, (Qa BK200.out 7).trans rfl, (Qa BK200.out 8).trans rfl, (Qa BK201.out 0).trans rfl, (Qa BK201.out 1).trans rfl, (Qa BK201.out 2).trans rfl, (Qa BK201.out 3).trans rfl, (Qa BK201.out 4).trans rfl, (Qa BK201.out 5).trans rfl, (Qa BK201.out 6).trans rfl, (Qa BK201.out 7).trans rfl, (Qa BK201.out 8).trans rfl⟩ (fun hHeld => ?_); refine with_tabW spec_l06Less.tab1 spec_l06Less.bits1 (fun HT_ HW_ => ?_)
 generalize w8.drew = w9 at BK200 BK201 HB hHeld ⊢
 refine Qx (i := 0) (N := some 7) (v := ?_) (a' := ?_) #[true, false, false, false, false, false, false, false] rfl rfl (Qt HT_.out (by kernel_rfl)) (fun _ _ _ h => h) (Or.inl ⟨by rfl, ?_⟩) ?_ ?_
 rotate_left
 ·intro w'
  go_simp
  with_reducible rfl
 rotate_left
 ·simp only [Act.put, List.setIfInBounds_toArray, List.set_cons_zero, List.set_cons_succ, Qr, Qs]
  rfl
 refine Qx (i := 2) (N := some 9) (v := ?_) (a' := ?_) #[true, false, true, false, false, false, false, false] rfl rfl (Qt HT_.out (by kernel_rfl)) (fun _ _ _ h => h) (Or.inl ⟨by rfl, ?_⟩) ?_ ?_
 rotate_left
 ·intro w'
  go_simp
  with_reducible rfl
 rotate_left
 ·simp only [Act.put, List.setIfInBounds_toArray, List.set_cons_zero, List.set_cons_succ, Qr, Qs]
  rfl
 refine take_ (i := 1) (N := some 8) (v := ?_) (a' := ?_) #[true, true, true, false, false, false, false, false] rfl rfl (Qz HT_.out HW_.out (by kernel_rfl)) (fun _ _ _ h => h) (Or.inl ⟨by rfl, ?_⟩) hHeld ?_ ?_
 rotate_left
 ·rintro w' ⟨s0, s1, s2, s3, s4, s5, s6, s7, s8, s9, s10, s11, s12, s13, s14, s15, s16, s17⟩
  go_simp
  with_reducible rfl
 rotate_left
 ·simp only [Act.put, List.setIfInBounds_toArray, List.set_cons_zero, List.set_cons_succ, Qr, Qs]
  rfl
 refine take_ (i := 3) (N := some 10) (v := ?_) (a' := ?_) #[true, true, true, true, false, false, false, false] rfl rfl (Qz HT_.out HW_.out (by kernel_rfl)) (fun _ _ _ h => h) (Or.inl ⟨by rfl, ?_⟩) hHeld ?_ ?_
 rotate_left
 ·rintro w' ⟨s0, s1, s2, s3, s4, s5, s6, s7, s8, s9, s10, s11, s12, s13, s14, s15, s16, s17⟩
  go_simp
  with_reducible rfl
 rotate_left
 ·simp only [Act.put, List.setIfInBounds_toArray, List.set_cons_zero, List.set_cons_succ, Qr, Qs]
  rfl
 refine join_ (σ := Nat × Nat) 2 #[true, true, true, true, true, true, false, false] (fun s_ => [(5, .pointer (some ⟨s_.1, 0, none⟩)), (6, .pointer (some ⟨s_.2, 0, none⟩))]) (fun s_ w' => (w'.cell? ⟨gb200, 0, none⟩ = some (.int .i64 a0_0) ∧ w'.cell? ⟨gb200, 1, none⟩ = some (.bool a0_1) ∧ w'.cell? ⟨gb200, 2, none⟩ = some (.int .i64 a0_2) ∧ w'.cell? ⟨gb200, 3, none⟩ = some (.int .i64 a0_3) ∧ w'.cell? ⟨gb200, 4, none⟩ = some (.int .i64 a0_4) ∧ w'.cell? ⟨gb200, 5, none⟩ = some (.int .i64 a0_5) ∧ w'.cell? ⟨gb200, 6, none⟩ = some (.int .i64 a0_6) ∧ w'.cell? ⟨gb200, 7, none⟩ = some (.int .i64 a0_7) ∧ w'.cell? ⟨gb200, 8, none⟩ = some (.bool a0_8) ∧ w'.cell? ⟨gb201, 0, none⟩ = some (.int .i64 a1_0) ∧ w'.cell? ⟨gb201, 1, none⟩ = some (.bool a1_1) ∧ w'.cell? ⟨gb201, 2, none⟩ = some (.int .i64 a1_2) ∧ w'.cell? ⟨gb201, 3, none⟩ = some (.int .i64 a1_3) ∧ w'.cell? ⟨gb201, 4, none⟩ = some (.int .i64 a1_4) ∧ w'.cell? ⟨gb201, 5, none⟩ = some (.int .i64 a1_5) ∧ w'.cell? ⟨gb201, 6, none⟩ = some (.int .i64 a1_6) ∧ w'.cell? ⟨gb201, 7, none⟩ = some (.int .i64 a1_7) ∧ w'.cell? ⟨gb201, 8, none⟩ = some (.bool a1_8)) ∧ (w'.heap[gb200]? = some (.cells #[.int .i64 a0_0, .bool a0_1, .int .i64 a0_2, .int .i64 a0_3, .int .i64 a0_4, .int .i64 a0_5, .int .i64 a0_6, .int .i64 a0_7, .bool a0_8] 73 (0, 0))) ∧ (w'.heap[gb201]? = some (.cells #[.int .i64 a1_0, .bool a1_1, .int .i64 a1_2, .int .i64 a1_3, .int .i64 a1_4, .int .i64 a1_5, .int .i64 a1_6, .int .i64 a1_7, .bool a1_8] 73 (0, 0))) ∧ (w'.heap[s_.1]? = some (.cells #[.int .i64 0, .int .i64 0, .int .i64 0, .int .i64 0, .int .i64 0, .int .i64 0, .bool false] 42 (0, 0))) ∧ (w'.heap[s_.2]? = some (.cells #[.int .i64 0, .int .i64 0, .int .i64 0, .int .i64 0, .int .i64 0, .int .i64 0, .bool false] 42 (0, 0))) ∧ (w.heap.size ≤ s_.1) ∧ (w.heap.size ≤ s_.1) ∧ (gb200 ≠ s_.1) ∧ (s_.1 ≠ gb200) ∧ (gb201 ≠ s_.1) ∧ (s_.1 ≠ gb201) ∧ (s_.2 ≠ s_.1) ∧ (s_.1 ≠ s_.2) ∧ (w.heap.size ≤ s_.2) ∧ (w.heap.size ≤ s_.2) ∧ (gb200 ≠ s_.2) ∧ (s_.2 ≠ gb200) ∧ (gb201 ≠ s_.2) ∧ (s_.2 ≠ gb201) ∧ (Below w.heap.size w w')) ?_ ?_
 rotate_left
 ·intro hCont
  refine two_ (i := 4) (j := 5) (Ni := some 5) (Nj := some 6) #[true, true, true, true, true, false, false, false] #[true, true, true, true, false, true, false, false] rfl rfl rfl rfl (two_of HT_.out (by kernel_rfl)) (by decide) (by decide) (fun K hK => ?_) (fun K hK => ?_)
  ·skip
   refine box_step ?hg (N := 5) ?hd (cs := #[.int .i64 0, .int .i64 0, .int .i64 0, .int .i64 0, .int .i64 0, .int .i64 0, .bool false]) (t := 42) ?hr ?_; (case hd => rfl); (case hg => rfl); (case hr => first | (go_simp; done) | (go_simp; rfl))
   intro gb202 hg w10 hbox hb
   have n0_ := Aside0.mk (Qo (g := gb200) (o := .cells #[.int .i64 a0_0, .bool a0_1, .int .i64 a0_2, .int .i64 a0_3, .int .i64 a0_4, .int .i64 a0_5, .int .i64 a0_6, .int .i64 a0_7, .bool a0_8] 73 (0, 0)) (by (with_reducible repeat (first | refine Qg ?_ _ | refine Qi ?_ | refine Qh ?_ _)); exact BK200.out) hb)
   have n1_ := Aside0.mk (Qo (g := gb201) (o := .cells #[.int .i64 a1_0, .bool a1_1, .int .i64 a1_2, .int .i64 a1_3, .int .i64 a1_4, .int .i64 a1_5, .int .i64 a1_6, .int .i64 a1_7, .bool a1_8] 73 (0, 0)) (by (with_reducible repeat (first | refine Qg ?_ _ | refine Qi ?_ | refine Qh ?_ _)); exact BK201.out) hb)
   have n2_ := Aside0.mk (Qn (by repeat (first | (with_reducible first | exact HB.out | apply Qe | apply Qc | apply Qd | refine Qf ?_ GE200.out | refine Qf ?_ GE201.out) | exact HB.out)) hb)
   have n3_ := Aside0.mk (hbox)
   have n4_ := Aside0.mk ((by rw [hg]; exact (Qj (by repeat (first | (with_reducible first | exact HB.out | apply Qe | apply Qc | apply Qd | refine Qf ?_ GE200.out | refine Qf ?_ GE201.out) | exact HB.out))) : w.heap.size ≤ gb202))
   have n5_ := Aside0.mk ((by rw [hg]; exact (Qj (by repeat (first | (with_reducible first | exact HB.out | apply Qe | apply Qc | apply Qd | refine Qf ?_ GE200.out | refine Qf ?_ GE201.out) | exact HB.out))) : w.heap.size ≤ gb202))
   have n6_ := Aside0.mk ((by rw [hg]; exact Nat.ne_of_lt (Qv (g := gb200) (o := .cells #[.int .i64 a0_0, .bool a0_1, .int .i64 a0_2, .int .i64 a0_3, .int .i64 a0_4, .int .i64 a0_5, .int .i64 a0_6, .int .i64 a0_7, .bool a0_8] 73 (0, 0)) (by (with_reducible repeat (first | refine Qg ?_ _ | refine Qi ?_ | refine Qh ?_ _)); exact BK200.out)) : gb200 ≠ gb202))
   have n7_ := Aside0.mk ((by rw [hg]; exact Nat.ne_of_gt (Qv (g := gb200) (o := .cells #[.int .i64 a0_0, .bool a0_1, .int .i64 a0_2, .int .i64 a0_3, .int .i64 a0_4, .int .i64 a0_5, .int .i64 a0_6, .int .i64 a0_7, .bool a0_8] 73 (0, 0)) (by (with_reducible repeat (first | refine Qg ?_ _ | refine Qi ?_ | refine Qh ?_ _)); exact BK200.out)) : gb202 ≠ gb200))
   have n8_ := Aside0.mk ((by rw [hg]; exact Nat.ne_of_lt (Qv (g := gb201) (o := .cells #[.int .i64 a1_0, .bool a1_1, .int .i64 a1_2, .int .i64 a1_3, .int .i64 a1_4, .int .i64 a1_5, .int .i64 a1_6, .int .i64 a1_7, .bool a1_8] 73 (0, 0)) (by (with_reducible repeat (first | refine Qg ?_ _ | refine Qi ?_ | refine Qh ?_ _)); exact BK201.out)) : gb201 ≠ gb202))
   have n9_ := Aside0.mk ((by rw [hg]; exact Nat.ne_of_gt (Qv (g := gb201) (o := .cells #[.int .i64 a1_0, .bool a1_1, .int .i64 a1_2, .int .i64 a1_3, .int .i64 a1_4, .int .i64 a1_5, .int .i64 a1_6, .int .i64 a1_7, .bool a1_8] 73 (0, 0)) (by (with_reducible repeat (first | refine Qg ?_ _ | refine Qi ?_ | refine Qh ?_ _)); exact BK201.out)) : gb202 ≠ gb201))
   clear BK200
   clear BK201
   clear HB
   have BK200 := n0_
   have BK201 := n1_
   have HB := n2_
   have BK202 := n3_
   have GW202 := n4_
   have GE202 := n5_
   have NB200_202 := n6_
   have NB202_200 := n7_
   have NB201_202 := n8_
   have NB202_201 := n9_
   clear n0_ n1_ n2_ n3_ n4_ n5_ n6_ n7_ n8_ n9_
   clear hb hbox hg
   refine hK.out _ _ ⟨(Qa BK200.out 0).trans rfl, (Qa BK200.out 1).trans rfl, (Qa BK200.out 2).trans rfl, (Qa BK200.out 3).trans rfl, (Qa BK200.out 4).trans rfl, (Qa BK200.out 5).trans rfl, (Qa BK200.out 6).trans rfl, (Qa BK200.out 7).trans rfl, (Qa BK200.out 8).trans rfl, (Qa BK201.out 0).trans rfl, (Qa BK201.out 1).trans rfl, (Qa BK201.out 2).trans rfl, (Qa BK201.out 3).trans rfl, (Qa BK201.out 4).trans rfl, (Qa BK201.out 5).trans rfl, (Qa BK201.out 6).trans rfl, (Qa BK201.out 7).trans rfl, (Qa BK201.out 8).trans rfl⟩ (fun hHeld => ?_)
   clear hK K
   refine norm_ (a' := ?_) ?_ ?_
   rotate_left
   ·show Act.put _ (some 5) _ = _
    simp only [Act.put, List.setIfInBounds_toArray, List.set_cons_zero, List.set_cons_succ, Qr, Qs]
    rfl
   refine one_ (i := 5) (N := some 6) #[true, true, true, true, true, true, false, false] rfl rfl (one_of HT_.out (by kernel_rfl)) (by decide) (fun K hK => ?_)
   refine box_step ?hg (N := 6) ?hd (cs := #[.int .i64 0, .int .i64 0, .int .i64 0, .int .i64 0, .int .i64 0, .int .i64 0, .bool false]) (t := 42) ?hr ?_; (case hd => rfl); (case hg => rfl); (case hr => first | (go_simp; done) | (go_simp; rfl))
   intro gb203 hg w11 hbox hb
   have n0_ := Aside0.mk (Qo (g := gb200) (o := .cells #[.int .i64 a0_0, .bool a0_1, .int .i64 a0_2, .int .i64 a0_3, .int .i64 a0_4, .int .i64 a0_5, .int .i64 a0_6, .int .i64 a0_7, .bool a0_8] 73 (0, 0)) (by (with_reducible repeat (first | refine Qg ?_ _ | refine Qi ?_ | refine Qh ?_ _)); exact BK200.out) hb)
   have n1_ := Aside0.mk (Qo (g := gb201) (o := .cells #[.int .i64 a1_0, .bool a1_1, .int .i64 a1_2, .int .i64 a1_3, .int .i64 a1_4, .int .i64 a1_5, .int .i64 a1_6, .int .i64 a1_7, .bool a1_8] 73 (0, 0)) (by (with_reducible repeat (first | refine Qg ?_ _ | refine Qi ?_ | refine Qh ?_ _)); exact BK201.out) hb)
   have n2_ := Aside0.mk (Qo (g := gb202) (o := .cells #[.int .i64 0, .int .i64 0, .int .i64 0, .int .i64 0, .int .i64 0, .int .i64 0, .bool false] 42 (0, 0)) (by (with_reducible repeat (first | refine Qg ?_ _ | refine Qi ?_ | refine Qh ?_ _)); exact BK202.out) hb)
   have n3_ := Aside0.mk (Qn (by repeat (first | (with_reducible first | exact HB.out | apply Qe | apply Qc | apply Qd | refine Qf ?_ GE200.out | refine Qf ?_ GE201.out | refine Qf ?_ GE202.out) | exact HB.out)) hb)
   have n4_ := Aside0.mk (hbox)
   have n5_ := Aside0.mk ((by rw [hg]; exact (Qj (by repeat (first | (with_reducible first | exact HB.out | apply Qe | apply Qc | apply Qd | refine Qf ?_ GE200.out | refine Qf ?_ GE201.out | refine Qf ?_ GE202.out) | exact HB.out))) : w.heap.size ≤ gb203))
   have n6_ := Aside0.mk ((by rw [hg]; exact (Qj (by repeat (first | (with_reducible first | exact HB.out | apply Qe | apply Qc | apply Qd | refine Qf ?_ GE200.out | refine Qf ?_ GE201.out | refine Qf ?_ GE202.out) | exact HB.out))) : w.heap.size ≤ gb203))
   have n7_ := Aside0.mk ((by rw [hg]; exact Nat.ne_of_lt (Qv (g := gb200) (o := .cells #[.int .i64 a0_0, .bool a0_1, .int .i64 a0_2, .int .i64 a0_3, .int .i64 a0_4, .int .i64 a0_5, .int .i64 a0_6, .int .i64 a0_7, .bool a0_8] 73 (0, 0)) (by (with_reducible repeat (first | refine Qg ?_ _ | refine Qi ?_ | refine Qh ?_ _)); exact BK200.out)) : gb200 ≠ gb203))
   have n8_ := Aside0.mk ((by rw [hg]; exact Nat.ne_of_gt (Qv (g := gb200) (o := .cells #[.int .i64 a0_0, .bool a0_1, .int .i64 a0_2, .int .i64 a0_3, .int .i64 a0_4, .int .i64 a0_5, .int .i64 a0_6, .int .i64 a0_7, .bool a0_8] 73 (0, 0)) (by (with_reducible repeat (first | refine Qg ?_ _ | refine Qi ?_ | refine Qh ?_ _)); exact BK200.out)) : gb203 ≠ gb200))
   have n9_ := Aside0.mk ((by rw [hg]; exact Nat.ne_of_lt (Qv (g := gb201) (o := .cells #[.int .i64 a1_0, .bool a1_1, .int .i64 a1_2, .int .i64 a1_3, .int .i64 a1_4, .int .i64 a1_5, .int .i64 a1_6, .int .i64 a1_7, .bool a1_8] 73 (0, 0)) (by (with_reducible repeat (first | refine Qg ?_ _ | refine Qi ?_ | refine Qh ?_ _)); exact BK201.out)) : gb201 ≠ gb203))
   have n10_ := Aside0.mk ((by rw [hg]; exact Nat.ne_of_gt (Qv (g := gb201) (o := .cells #[.int .i64 a1_0, .bool a1_1, .int .i64 a1_2, .int .i64 a1_3, .int .i64 a1_4, .int .i64 a1_5, .int .i64 a1_6, .int .i64 a1_7, .bool a1_8] 73 (0, 0)) (by (with_reducible repeat (first | refine Qg ?_ _ | refine Qi ?_ | refine Qh ?_ _)); exact BK201.out)) : gb203 ≠ gb201))
   have n11_ := Aside0.mk ((by rw [hg]; exact Nat.ne_of_lt (Qv (g := gb202) (o := .cells #[.int .i64 0, .int .i64 0, .int .i64 0, .int .i64 0, .int .i64 0, .int .i64 0, .bool false] 42 (0, 0)) (by (with_reducible repeat (first | refine Qg ?_ _ | refine Qi ?_ | refine Qh ?_ _)); exact BK202.out)) : gb202 ≠ gb203))
   have n12_ := Aside0.mk ((by rw [hg]; exact Nat.ne_of_gt (Qv (g := gb202) (o := .cells #[.int .i64 0, .int .i64 0, .int .i64 0, .int .i64 0, .int .i64 0, .int .i64 0, .bool false] 42 (0, 0)) (by (with_reducible repeat (first | refine Qg ?_ _ | refine Qi ?_ | refine Qh ?_ _)); exact BK202.out)) : gb203 ≠ gb202))
   clear BK200
   clear BK201
   clear BK202
   clear HB
   have BK200 := n0_
   have BK201 := n1_
   have BK202 := n2_
   have HB := n3_
   have BK203 := n4_
   have GW203 := n5_
   have GE203 := n6_
   have NB200_203 := n7_
   have NB203_200 := n8_
   have NB201_203 := n9_
   have NB203_201 := n10_
   have NB202_203 := n11_
   have NB203_202 := n12_
   clear n0_ n1_ n2_ n3_ n4_ n5_ n6_ n7_ n8_ n9_ n10_ n11_ n12_
   clear hb hbox hg
   refine hK.out _ _ ⟨(Qa BK200.out 0).trans rfl, (Qa BK200.out 1).trans rfl, (Qa BK200.out 2).trans rfl, (Qa BK200.out 3).trans rfl, (Qa BK200.out 4).trans rfl, (Qa BK200.out 5).trans rfl, (Qa BK200.out 6).trans rfl, (Qa BK200.out 7).trans rfl, (Qa BK200.out 8).trans rfl, (Qa BK201.out 0).trans rfl, (Qa BK201.out 1).trans rfl, (Qa BK201.out 2).trans rfl, (Qa BK201.out 3).trans rfl, (Qa BK201.out 4).trans rfl, (Qa BK201.out 5).trans rfl, (Qa BK201.out 6).trans rfl, (Qa BK201.out 7).trans rfl, (Qa BK201.out 8).trans rfl⟩ (fun hHeld => ?_)
   clear hK K
   refine norm_ (a' := ?_) ?_ ?_
   rotate_left
   ·show Act.put _ (some 6) _ = _
    simp only [Act.put, List.setIfInBounds_toArray, List.set_cons_zero, List.set_cons_succ, Qr, Qs]
    rfl
   exact norm_ (by simp only [putAll, Act.put, List.setIfInBounds_toArray, List.set_cons_zero, List.set_cons_succ]) (hCont (gb202, gb203) _ ⟨hHeld, (by (with_reducible repeat (first | refine Qg ?_ _ | refine Qi ?_ | refine Qh ?_ _)); exact BK200.out), (by (with_reducible repeat (first | refine Qg ?_ _ | refine Qi ?_ | refine Qh ?_ _)); exact BK201.out), (by (with_reducible repeat (first | refine Qg ?_ _ | refine Qi ?_ | refine Qh ?_ _)); exact BK202.out), (by (with_reducible repeat (first | refine Qg ?_ _ | refine Qi ?_ | refine Qh ?_ _)); exact BK203.out), GW202.out, GE202.out, NB200_202.out, NB202_200.out, NB201_202.out, NB202_201.out, NB203_202.out, NB202_203.out, GW203.out, GE203.out, NB200_203.out, NB203_200.out, NB201_203.out, NB203_201.out, (by repeat (first | (with_reducible first | exact HB.out | apply Qe | apply Qc | apply Qd | refine Qf ?_ GE200.out | refine Qf ?_ GE201.out | refine Qf ?_ GE202.out | refine Qf ?_ GE203.out) | exact HB.out))⟩)
  ·skip
   refine box_step ?hg (N := 6) ?hd (cs := #[.int .i64 0, .int .i64 0, .int .i64 0, .int .i64 0, .int .i64 0, .int .i64 0, .bool false]) (t := 42) ?hr ?_; (case hd => rfl); (case hg => rfl); (case hr => first | (go_simp; done) | (go_simp; rfl))
   intro gb203 hg w10 hbox hb
   have n0_ := Aside0.mk (Qo (g := gb200) (o := .cells #[.int .i64 a0_0, .bool a0_1, .int .i64 a0_2, .int .i64 a0_3, .int .i64 a0_4, .int .i64 a0_5, .int .i64 a0_6, .int .i64 a0_7, .bool a0_8] 73 (0, 0)) (by (with_reducible repeat (first | refine Qg ?_ _ | refine Qi ?_ | refine Qh ?_ _)); exact BK200.out) hb)
   have n1_ := Aside0.mk (Qo (g := gb201) (o := .cells #[.int .i64 a1_0, .bool a1_1, .int .i64 a1_2, .int .i64 a1_3, .int .i64 a1_4, .int .i64 a1_5, .int .i64 a1_6, .int .i64 a1_7, .bool a1_8] 73 (0, 0)) (by (with_reducible repeat (first | refine Qg ?_ _ | refine Qi ?_ | refine Qh ?_ _)); exact BK201.out) hb)
   have n2_ := Aside0.mk (Qn (by repeat (first | (with_reducible first | exact HB.out | apply Qe | apply Qc | apply Qd | refine Qf ?_ GE200.out | refine Qf ?_ GE201.out) | exact HB.out)) hb)
   have n3_ := Aside0.mk (hbox)
   have n4_ := Aside0.mk ((by rw [hg]; exact (Qj (by repeat (first | (with_reducible first | exact HB.out | apply Qe | apply Qc | apply Qd | refine Qf ?_ GE200.out | refine Qf ?_ GE201.out) | exact HB.out))) : w.heap.size ≤ gb203))
   have n5_ := Aside0.mk ((by rw [hg]; exact (Qj (by repeat (first | (with_reducible first | exact HB.out | apply Qe | apply Qc | apply Qd | refine Qf ?_ GE200.out | refine Qf ?_ GE201.out) | exact HB.out))) : w.heap.size ≤ gb203))
   have n6_ := Aside0.mk ((by rw [hg]; exact Nat.ne_of_lt (Qv (g := gb200) (o := .cells #[.int .i64 a0_0, .bool a0_1, .int .i64 a0_2, .int .i64 a0_3, .int .i64 a0_4, .int .i64 a0_5, .int .i64 a0_6, .int .i64 a0_7, .bool a0_8] 73 (0, 0)) (by (with_reducible repeat (first | refine Qg ?_ _ | refine Qi ?_ | refine Qh ?_ _)); exact BK200.out)) : gb200 ≠ gb203))
   have n7_ := Aside0.mk ((by rw [hg]; exact Nat.ne_of_gt (Qv (g := gb200) (o := .cells #[.int .i64 a0_0, .bool a0_1, .int .i64 a0_2, .int .i64 a0_3, .int .i64 a0_4, .int .i64 a0_5, .int .i64 a0_6, .int .i64 a0_7, .bool a0_8] 73 (0, 0)) (by (with_reducible repeat (first | refine Qg ?_ _ | refine Qi ?_ | refine Qh ?_ _)); exact BK200.out)) : gb203 ≠ gb200))
   have n8_ := Aside0.mk ((by rw [hg]; exact Nat.ne_of_lt (Qv (g := gb201) (o := .cells #[.int .i64 a1_0, .bool a1_1, .int .i64 a1_2, .int .i64 a1_3, .int .i64 a1_4, .int .i64 a1_5, .int .i64 a1_6, .int .i64 a1_7, .bool a1_8] 73 (0, 0)) (by (with_reducible repeat (first | refine Qg ?_ _ | refine Qi ?_ | refine Qh ?_ _)); exact BK201.out)) : gb201 ≠ gb203))
   have n9_ := Aside0.mk ((by rw [hg]; exact Nat.ne_of_gt (Qv (g := gb201) (o := .cells #[.int .i64 a1_0, .bool a1_1, .int .i64 a1_2, .int .i64 a1_3, .int .i64 a1_4, .int .i64 a1_5, .int .i64 a1_6, .int .i64 a1_7, .bool a1_8] 73 (0, 0)) (by (with_reducible repeat (first | refine Qg ?_ _ | refine Qi ?_ | refine Qh ?_ _)); exact BK201.out)) : gb203 ≠ gb201))
   clear BK200
   clear BK201
   clear HB
   have BK200 := n0_
   have BK201 := n1_
   have HB := n2_
   have BK203 := n3_
   have GW203 := n4_
   have GE203 := n5_
   have NB200_203 := n6_
   have NB203_200 := n7_
   have NB201_203 := n8_
   have NB203_201 := n9_
   clear n0_ n1_ n2_ n3_ n4_ n5_ n6_ n7_ n8_ n9_
   clear hb hbox hg
   refine hK.out _ _ ⟨(Qa BK200.out 0).trans rfl, (Qa BK200.out 1).trans rfl, (Qa BK200.out 2).trans rfl, (Qa BK200.out 3).trans rfl, (Qa BK200.out 4).trans rfl, (Qa BK200.out 5).trans rfl, (Qa BK200.out 6).trans rfl, (Qa BK200.out 7).trans rfl, (Qa BK200.out 8).trans rfl, (Qa BK201.out 0).trans rfl, (Qa BK201.out 1).trans rfl, (Qa BK201.out 2).trans rfl, (Qa BK201.out 3).trans rfl, (Qa BK201.out 4).trans rfl, (Qa BK201.out 5).trans rfl, (Qa BK201.out 6).trans rfl, (Qa BK201.out 7).trans rfl, (Qa BK201.out 8).trans rfl⟩ (fun hHeld => ?_)
   clear hK K
   refine norm_ (a' := ?_) ?_ ?_
   rotate_left
   ·show Act.put _ (some 6) _ = _
    simp only [Act.put, List.setIfInBounds_toArray, List.set_cons_zero, List.set_cons_succ, Qr, Qs]
    rfl
   refine one_ (i := 4) (N := some 5) #[true, true, true, true, true, true, false, false] rfl rfl (one_of HT_.out (by kernel_rfl)) (by decide) (fun K hK => ?_)
   refine box_step ?hg (N := 5) ?hd (cs := #[.int .i64 0, .int .i64 0, .int .i64 0, .int .i64 0, .int .i64 0, .int .i64 0, .bool false]) (t := 42) ?hr ?_; (case hd => rfl); (case hg => rfl); (case hr => first | (go_simp; done) | (go_simp; rfl))
   intro gb202 hg w11 hbox hb
   have n0_ := Aside0.mk (Qo (g := gb200) (o := .cells #[.int .i64 a0_0, .bool a0_1, .int .i64 a0_2, .int .i64 a0_3, .int .i64 a0_4, .int .i64 a0_5, .int .i64 a0_6, .int .i64 a0_7, .bool a0_8] 73 (0, 0)) (by (with_reducible repeat (first | refine Qg ?_ _ | refine Qi ?_ | refine Qh ?_ _)); exact BK200.out) hb)
   have n1_ := Aside0.mk (Qo (g := gb201) (o := .cells #[.int .i64 a1_0, .bool a1_1, .int .i64 a1_2, .int .i64 a1_3, .int .i64 a1_4, .int .i64 a1_5, .int .i64 a1_6, .int .i64 a1_7, .bool a1_8] 73 (0, 0)) (by (with_reducible repeat (first | refine Qg ?_ _ | refine Qi ?_ | refine Qh ?_ _)); exact BK201.out) hb)
   have n2_ := Aside0.mk (Qo (g := gb203) (o := .cells #[.int .i64 0, .int .i64 0, .int .i64 0, .int .i64 0, .int .i64 0, .int .i64 0, .bool false] 42 (0, 0)) (by (with_reducible repeat (first | refine Qg ?_ _ | refine Qi ?_ | refine Qh ?_ _)); exact BK203.out) hb)
   have n3_ := Aside0.mk (Qn (by repeat (first | (with_reducible first | exact HB.out | apply Qe | apply Qc | apply Qd | refine Qf ?_ GE200.out | refine Qf ?_ GE201.out | refine Qf ?_ GE203.out) | exact HB.out)) hb)
   have n4_ := Aside0.mk (hbox)
   have n5_ := Aside0.mk ((by rw [hg]; exact (Qj (by repeat (first | (with_reducible first | exact HB.out | apply Qe | apply Qc | apply Qd | refine Qf ?_ GE200.out | refine Qf ?_ GE201.out | refine Qf ?_ GE203.out) | exact HB.out))) : w.heap.size ≤ gb202))
   have n6_ := Aside0.mk ((by rw [hg]; exact (Qj (by repeat (first | (with_reducible first | exact HB.out | apply Qe | apply Qc | apply Qd | refine Qf ?_ GE200.out | refine Qf ?_ GE201.out | refine Qf ?_ GE203.out) | exact HB.out))) : w.heap.size ≤ gb202))
   have n7_ := Aside0.mk ((by rw [hg]; exact Nat.ne_of_lt (Qv (g := gb200) (o := .cells #[.int .i64 a0_0, .bool a0_1, .int .i64 a0_2, .int .i64 a0_3, .int .i64 a0_4, .int .i64 a0_5, .int .i64 a0_6, .int .i64 a0_7, .bool a0_8] 73 (0, 0)) (by (with_reducible repeat (first | refine Qg ?_ _ | refine Qi ?_ | refine Qh ?_ _)); exact BK200.out)) : gb200 ≠ gb202))
   have n8_ := Aside0.mk ((by rw [hg]; exact Nat.ne_of_gt (Qv (g := gb200) (o := .cells #[.int .i64 a0_0, .bool a0_1, .int .i64 a0_2, .int .i64 a0_3, .int .i64 a0_4, .int .i64 a0_5, .int .i64 a0_6, .int .i64 a0_7, .bool a0_8] 73 (0, 0)) (by (with_reducible repeat (first | refine Qg ?_ _ | refine Qi ?_ | refine Qh ?_ _)); exact BK200.out)) : gb202 ≠ gb200))
   have n9_ := Aside0.mk ((by rw [hg]; exact Nat.ne_of_lt (Qv (g := gb201) (o := .cells #[.int .i64 a1_0, .bool a1_1, .int .i64 a1_2, .int .i64 a1_3, .int .i64 a1_4, .int .i64 a1_5, .int .i64 a1_6, .int .i64 a1_7, .bool a1_8] 73 (0, 0)) (by (with_reducible repeat (first | refine Qg ?_ _ | refine Qi ?_ | refine Qh ?_ _)); exact BK201.out)) : gb201 ≠ gb202))
   have n10_ := Aside0.mk ((by rw [hg]; exact Nat.ne_of_gt (Qv (g := gb201) (o := .cells #[.int .i64 a1_0, .bool a1_1, .int .i64 a1_2, .int .i64 a1_3, .int .i64 a1_4, .int .i64 a1_5, .int .i64 a1_6, .int .i64 a1_7, .bool a1_8] 73 (0, 0)) (by (with_reducible repeat (first | refine Qg ?_ _ | refine Qi ?_ | refine Qh ?_ _)); exact BK201.out)) : gb202 ≠ gb201))
   have n11_ := Aside0.mk ((by rw [hg]; exact Nat.ne_of_lt (Qv (g := gb203) (o := .cells #[.int .i64 0, .int .i64 0, .int .i64 0, .int .i64 0, .int .i64 0, .int .i64 0, .bool false] 42 (0, 0)) (by (with_reducible repeat (first | refine Qg ?_ _ | refine Qi ?_ | refine Qh ?_ _)); exact BK203.out)) : gb203 ≠ gb202))
   have n12_ := Aside0.mk ((by rw [hg]; exact Nat.ne_of_gt (Qv (g := gb203) (o := .cells #[.int .i64 0, .int .i64 0, .int .i64 0, .int .i64 0, .int .i64 0, .int .i64 0, .bool false] 42 (0, 0)) (by (with_reducible repeat (first | refine Qg ?_ _ | refine Qi ?_ | refine Qh ?_ _)); exact BK203.out)) : gb202 ≠ gb203))
   clear BK200
   clear BK201
   clear BK203
   clear HB
   have BK200 := n0_
   have BK201 := n1_
   have BK203 := n2_
   have HB := n3_
   have BK202 := n4_
   have GW202 := n5_
   have GE202 := n6_
   have NB200_202 := n7_
   have NB202_200 := n8_
   have NB201_202 := n9_
   have NB202_201 := n10_
   have NB203_202 := n11_
   have NB202_203 := n12_
   clear n0_ n1_ n2_ n3_ n4_ n5_ n6_ n7_ n8_ n9_ n10_ n11_ n12_
   clear hb hbox hg
   refine hK.out _ _ ⟨(Qa BK200.out 0).trans rfl, (Qa BK200.out 1).trans rfl, (Qa BK200.out 2).trans rfl, (Qa BK200.out 3).trans rfl, (Qa BK200.out 4).trans rfl, (Qa BK200.out 5).trans rfl, (Qa BK200.out 6).trans rfl, (Qa BK200.out 7).trans rfl, (Qa BK200.out 8).trans rfl, (Qa BK201.out 0).trans rfl, (Qa BK201.out 1).trans rfl, (Qa BK201.out 2).trans rfl, (Qa BK201.out 3).trans rfl, (Qa BK201.out 4).trans rfl, (Qa BK201.out 5).trans rfl, (Qa BK201.out 6).trans rfl, (Qa BK201.out 7).trans rfl, (Qa BK201.out 8).trans rfl⟩ (fun hHeld => ?_)
   clear hK K
   refine norm_ (a' := ?_) ?_ ?_
   rotate_left
   ·show Act.put _ (some 5) _ = _
    simp only [Act.put, List.setIfInBounds_toArray, List.set_cons_zero, List.set_cons_succ, Qr, Qs]
    rfl
   exact norm_ (by simp only [putAll, Act.put, List.setIfInBounds_toArray, List.set_cons_zero, List.set_cons_succ]) (hCont (gb202, gb203) _ ⟨hHeld, (by (with_reducible repeat (first | refine Qg ?_ _ | refine Qi ?_ | refine Qh ?_ _)); exact BK200.out), (by (with_reducible repeat (first | refine Qg ?_ _ | refine Qi ?_ | refine Qh ?_ _)); exact BK201.out), (by (with_reducible repeat (first | refine Qg ?_ _ | refine Qi ?_ | refine Qh ?_ _)); exact BK202.out), (by (with_reducible repeat (first | refine Qg ?_ _ | refine Qi ?_ | refine Qh ?_ _)); exact BK203.out), GW202.out, GE202.out, NB200_202.out, NB202_200.out, NB201_202.out, NB202_201.out, NB203_202.out, NB202_203.out, GW203.out, GE203.out, NB200_203.out, NB203_200.out, NB201_203.out, NB203_201.out, (by repeat (first | (with_reducible first | exact HB.out | apply Qe | apply Qc | apply Qd | refine Qf ?_ GE200.out | refine Qf ?_ GE201.out | refine Qf ?_ GE203.out | refine Qf ?_ GE202.out) | exact HB.out))⟩)
 rintro ⟨gb202, gb203⟩ w12 ⟨hS_, h0_, h1_, h2_, h3_, h4_, h5_, h6_, h7_, h8_, h9_, h10_, h11_, h12_, h13_, h14_, h15_, h16_, h17_, h18_⟩
 have n0_ : Aside0 (w12.heap[gb200]? = some (.cells #[.int .i64 a0_0, .bool a0_1, .int .i64 a0_2, .int .i64 a0_3, .int .i64 a0_4, .int .i64 a0_5, .int .i64 a0_6, .int .i64 a0_7, .bool a0_8] 73 (0, 0))) := ⟨h0_⟩
 have n1_ : Aside0 (w12.heap[gb201]? = some (.cells #[.int .i64 a1_0, .bool a1_1, .int .i64 a1_2, .int .i64 a1_3, .int .i64 a1_4, .int .i64 a1_5, .int .i64 a1_6, .int .i64 a1_7, .bool a1_8] 73 (0, 0))) := ⟨h1_⟩
 have n2_ : Aside0 (w12.heap[gb202]? = some (.cells #[.int .i64 0, .int .i64 0, .int .i64 0, .int .i64 0, .int .i64 0, .int .i64 0, .bool false] 42 (0, 0))) := ⟨h2_⟩
 have n3_ : Aside0 (w12.heap[gb203]? = some (.cells #[.int .i64 0, .int .i64 0, .int .i64 0, .int .i64 0, .int .i64 0, .int .i64 0, .bool false] 42 (0, 0))) := ⟨h3_⟩
 have n4_ : Aside0 (w.heap.size ≤ gb202) := ⟨h4_⟩
 have n5_ : Aside0 (w.heap.size ≤ gb202) := ⟨h5_⟩
 have n6_ : Aside0 (gb200 ≠ gb202) := ⟨h6_⟩
 have n7_ : Aside0 (gb202 ≠ gb200) := ⟨h7_⟩
 have n8_ : Aside0 (gb201 ≠ gb202) := ⟨h8_⟩
 have n9_ : Aside0 (gb202 ≠ gb201) := ⟨h9_⟩
 have n10_ : Aside0 (gb203 ≠ gb202) := ⟨h10_⟩
 have n11_ : Aside0 (gb202 ≠ gb203) := ⟨h11_⟩
 have n12_ : Aside0 (w.heap.size ≤ gb203) := ⟨h12_⟩
 have n13_ : Aside0 (w.heap.size ≤ gb203) := ⟨h13_⟩
 have n14_ : Aside0 (gb200 ≠ gb203) := ⟨h14_⟩
 have n15_ : Aside0 (gb203 ≠ gb200) := ⟨h15_⟩
 have n16_ : Aside0 (gb201 ≠ gb203) := ⟨h16_⟩
 have n17_ : Aside0 (gb203 ≠ gb201) := ⟨h17_⟩
 have n18_ : Aside0 (Below w.heap.size w w12) := ⟨h18_⟩
 clear BK200
 clear BK201
 clear HB
 clear h0_ h1_ h2_ h3_ h4_ h5_ h6_ h7_ h8_ h9_ h10_ h11_ h12_ h13_ h14_ h15_ h16_ h17_ h18_
 have BK200 := n0_
 have BK201 := n1_
 have BK202 := n2_
 have BK203 := n3_
 have GW202 := n4_
 have GE202 := n5_
 have NB200_202 := n6_
 have NB202_200 := n7_
 have NB201_202 := n8_
 have NB202_201 := n9_
 have NB203_202 := n10_
 have NB202_203 := n11_
 have GW203 := n12_
 have GE203 := n13_
 have NB200_203 := n14_
 have NB203_200 := n15_
 have NB201_203 := n16_
 have NB203_201 := n17_
 have HB := n18_
 clear n0_ n1_ n2_ n3_ n4_ n5_ n6_ n7_ n8_ n9_ n10_ n11_ n12_ n13_ n14_ n15_ n16_ n17_ n18_
 have hHeld : w12.cell? ⟨gb200, 0, none⟩ = some (.int .i64 a0_0) ∧ w12.cell? ⟨gb200, 1, none⟩ = some (.bool a0_1) ∧ w12.cell? ⟨gb200, 2, none⟩ = some (.int .i64 a0_2) ∧ w12.cell? ⟨gb200, 3, none⟩ = some (.int .i64 a0_3) ∧ w12.cell? ⟨gb200, 4, none⟩ = some (.int .i64 a0_4) ∧ w12.cell? ⟨gb200, 5, none⟩ = some (.int .i64 a0_5) ∧ w12.cell? ⟨gb200, 6, none⟩ = some (.int .i64 a0_6) ∧ w12.cell? ⟨gb200, 7, none⟩ = some (.int .i64 a0_7) ∧ w12.cell? ⟨gb200, 8, none⟩ = some (.bool a0_8) ∧ w12.cell? ⟨gb201, 0, none⟩ = some (.int .i64 a1_0) ∧ w12.cell? ⟨gb201, 1, none⟩ = some (.bool a1_1) ∧ w12.cell? ⟨gb201, 2, none⟩ = some (.int .i64 a1_2) ∧ w12.cell? ⟨gb201, 3, none⟩ = some (.int .i64 a1_3) ∧ w12.cell? ⟨gb201, 4, none⟩ = some (.int .i64 a1_4) ∧ w12.cell? ⟨gb201, 5, none⟩ = some (.int .i64 a1_5) ∧ w12.cell? ⟨gb201, 6, none⟩ = some (.int .i64 a1_6) ∧ w12.cell? ⟨gb201, 7, none⟩ = some (.int .i64 a1_7) ∧ w12.cell? ⟨gb201, 8, none⟩ = some (.bool a1_8) := hS_
 refine norm_ (a' := ?_) ?_ ?_
 rotate_left
 ·simp only [putAll, Act.put, List.setIfInBounds_toArray, List.set_cons_zero, List.set_cons_succ]
  rfl
 refine one_ (i := 6) (N := none) #[true, true, true, true, true, true, true, false] rfl rfl (one_of HT_.out (by kernel_rfl)) (by decide) (fun K hK => ?_)
 refine Base.store_step (by rfl) rfl 42 (.tmp 5) (.tmp 8) rfl (g := gb202) rfl (u := .agg #[.int .i64 a0_2, .int .i64 a0_3, .int .i64 a0_4, .int .i64 a0_5, .int .i64 a0_6, .int .i64 a0_7, .bool a0_8]) rfl [.int .i64 a0_2, .int .i64 a0_3, .int .i64 a0_4, .int .i64 a0_5, .int .i64 a0_6, .int .i64 a0_7, .bool a0_8] rfl (by kernel_rfl) BK202.out rfl (by simp [Value.oneCell']) ?_
 intro wn_ hx_ hf_ hB_
 have n200_ := Aside0.mk ((hf_ gb200 NB200_202.out).trans BK200.out)
 have n201_ := Aside0.mk ((hf_ gb201 NB201_202.out).trans BK201.out)
 have n203_ := Aside0.mk ((hf_ gb203 NB203_202.out).trans BK203.out)
 have nx_ := Aside0.mk hx_
 have nb_ := Aside0.mk (hB_ _ _ HB.out GE202.out)
 clear BK200 BK201 BK202 BK203 HB hHeld hx_ hf_ hB_
 have BK200 := n200_
 have BK201 := n201_
 have BK203 := n203_
 have BK202 := nx_
 have HB := nb_
 clear n200_ n201_ n203_ nx_ nb_
 refine hK.out _ _ ⟨(Qa BK200.out 0).trans rfl, (Qa BK200.out 1).trans rfl, (Qa BK200.out 2).trans rfl, (Qa BK200.out 3).trans rfl, (Qa BK200.out 4).trans rfl, (Qa BK200.out 5).trans rfl, (Qa BK200.out 6).trans rfl, (Qa BK200.out 7).trans rfl, (Qa BK200.out 8).trans rfl, (Qa BK201.out 0).trans rfl, (Qa BK201.out 1).trans rfl, (Qa BK201.out 2).trans rfl, (Qa BK201.out 3).trans rfl, (Qa BK201.out 4).trans rfl, (Qa BK201.out 5).trans rfl, (Qa BK201.out 6).trans rfl, (Qa BK201.out 7).trans rfl, (Qa BK201.out 8).trans rfl⟩ (fun hHeld => ?_)
 clear hK K
 refine one_ (i := 7) (N := none) #[true, true, true, true, true, true, true, true] rfl rfl (one_of HT_.out (by kernel_rfl)) (by decide) (fun K hK => ?_)
 refine Base.store_step (by rfl) rfl 42 (.tmp 6) (.tmp 10) rfl (g := gb203) rfl (u := .agg #[.int .i64 a1_2, .int .i64 a1_3, .int .i64 a1_4, .int .i64 a1_5, .int .i64 a1_6, .int .i64 a1_7, .bool a1_8]) rfl [.int .i64 a1_2, .int .i64 a1_3, .int .i64 a1_4, .int .i64 a1_5, .int .i64 a1_6, .int .i64 a1_7, .bool a1_8] rfl (by kernel_rfl) BK203.out rfl (by simp [Value.oneCell']) ?_
 intro wn_ hx_ hf_ hB_
 have n200_ := Aside0.mk ((hf_ gb200 NB200_203.out).trans BK200.out)
 have n201_ := Aside0.mk ((hf_ gb201 NB201_203.out).trans BK201.out)
 have n202_ := Aside0.mk ((hf_ gb202 NB202_203.out).trans BK202.out)
 have nx_ := Aside0.mk hx_
 have nb_ := Aside0.mk (hB_ _ _ HB.out GE203.out)
 clear BK200 BK201 BK202 BK203 HB hHeld hx_ hf_ hB_
 have BK200 := n200_
 have BK201 := n201_
 have BK202 := n202_
 have BK203 := nx_
 have HB := nb_
 clear n200_ n201_ n202_ nx_ nb_
 refine hK.out _ _ ⟨(Qa BK200.out 0).trans rfl, (Qa BK200.out 1).trans rfl, (Qa BK200.out 2).trans rfl, (Qa BK200.out 3).trans rfl, (Qa BK200.out 4).trans rfl, (Qa BK200.out 5).trans rfl, (Qa BK200.out 6).trans rfl, (Qa BK200.out 7).trans rfl, (Qa BK200.out 8).trans rfl, (Qa BK201.out 0).trans rfl, (Qa BK201.out 1).trans rfl, (Qa BK201.out 2).trans rfl, (Qa BK201.out 3).trans rfl, (Qa BK201.out 4).trans rfl, (Qa BK201.out 5).trans rfl, (Qa BK201.out 6).trans rfl, (Qa BK201.out 7).trans rfl, (Qa BK201.out 8).trans rfl⟩ (fun hHeld => ?_)
 clear hK K
 refine done_ (done_of HT_.out (by kernel_rfl)) ?_
 have kz200_0 := (Qa BK200.out 0).trans rfl
 have kz200_1 := (Qa BK200.out 1).trans rfl
 have kz200_2 := (Qa BK200.out 2).trans rfl
 have kz200_3 := (Qa BK200.out 3).trans rfl
 have kz200_4 := (Qa BK200.out 4).trans rfl
 have kz200_5 := (Qa BK200.out 5).trans rfl
 have kz200_6 := (Qa BK200.out 6).trans rfl
 have kz200_7 := (Qa BK200.out 7).trans rfl
 have kz200_8 := (Qa BK200.out 8).trans rfl
 have kz201_0 := (Qa BK201.out 0).trans rfl
 have kz201_1 := (Qa BK201.out 1).trans rfl
 have kz201_2 := (Qa BK201.out 2).trans rfl
 have kz201_3 := (Qa BK201.out 3).trans rfl
 have kz201_4 := (Qa BK201.out 4).trans rfl
 have kz201_5 := (Qa BK201.out 5).trans rfl
 have kz201_6 := (Qa BK201.out 6).trans rfl
 have kz201_7 := (Qa BK201.out 7).trans rfl
 have kz201_8 := (Qa BK201.out 8).trans rfl
 have kz202_0 := (Qa BK202.out 0).trans rfl
 have kz202_1 := (Qa BK202.out 1).trans rfl
 have kz202_2 := (Qa BK202.out 2).trans rfl
 have kz202_3 := (Qa BK202.out 3).trans rfl
 have kz202_4 := (Qa BK202.out 4).trans rfl
 have kz202_5 := (Qa BK202.out 5).trans rfl
 have kz202_6 := (Qa BK202.out 6).trans rfl
 have kz203_0 := (Qa BK203.out 0).trans rfl
 have kz203_1 := (Qa BK203.out 1).trans rfl
 have kz203_2 := (Qa BK203.out 2).trans rfl
 have kz203_3 := (Qa BK203.out 3).trans rfl
 have kz203_4 := (Qa BK203.out 4).trans rfl
 have kz203_5 := (Qa BK203.out 5).trans rfl
 have kz203_6 := (Qa BK203.out 6).trans rfl
 have H := HH_.out
 clear HH_
 by_cases c3 : a0_0 = a1_0
 ·rw [if_pos c3] at H
  have c3b0 : (a0_0 == a1_0) = true := beq_iff_eq.mpr c3
  have c3b1 : (a0_0 != a1_0) = false := bne_eq_false_iff_eq.mpr c3
  clear c3
  by_cases c4 : a0_2 = a1_2
  ·rw [if_pos c4] at H
   have c4b0 : (a0_2 == a1_2) = true := beq_iff_eq.mpr c4
   have c4b1 : (a0_2 != a1_2) = false := bne_eq_false_iff_eq.mpr c4
   clear c4
   by_cases c5 : a0_3 = a1_3
   ·rw [if_pos c5] at H
    have c5b0 : (a0_3 == a1_3) = true := beq_iff_eq.mpr c5
    have c5b1 : (a0_3 != a1_3) = false := bne_eq_false_iff_eq.mpr c5
    clear c5
    by_cases c6 : a0_4 = a1_4
    ·rw [if_pos c6] at H
     have c6b0 : (a0_4 == a1_4) = true := beq_iff_eq.mpr c6
     have c6b1 : (a0_4 != a1_4) = false := bne_eq_false_iff_eq.mpr c6
     clear c6
     obtain rfl := Option.some.inj H
     try go_wp2
     go_ret
     exact ⟨by first | rfl | (simp [Qm, Ql] <;> rfl) | (simp [*, Qm, Ql] <;> rfl), by repeat (first | (with_reducible first | exact HB.out | apply Qe | apply Qc | apply Qd | refine Qf ?_ GE200.out | refine Qf ?_ GE201.out | refine Qf ?_ GE202.out | refine Qf ?_ GE203.out) | exact HB.out)⟩
    ·rw [if_neg c6] at H
     have c6b0 : (a0_4 == a1_4) = false := beq_eq_false_iff_ne.mpr c6
     have c6b1 : (a0_4 != a1_4) = true := bne_iff_ne.mpr c6
     obtain rfl := Option.some.inj H
     try go_wp2
     go_ret
     exact ⟨by first | rfl | (simp [Qm, Ql] <;> rfl) | (simp [*, Qm, Ql] <;> rfl), by repeat (first | (with_reducible first | exact HB.out | apply Qe | apply Qc | apply Qd | refine Qf ?_ GE200.out | refine Qf ?_ GE201.out | refine Qf ?_ GE202.out | refine Qf ?_ GE203.out) | exact HB.out)⟩
   ·rw [if_neg c5] at H
    have c5b0 : (a0_3 == a1_3) = false := beq_eq_false_iff_ne.mpr c5
    have c5b1 : (a0_3 != a1_3) = true := bne_iff_ne.mpr c5
    obtain rfl := Option.some.inj H
    try go_wp2
    go_ret
    exact ⟨by first | rfl | (simp [Qm, Ql] <;> rfl) | (simp [*, Qm, Ql] <;> rfl), by repeat (first | (with_reducible first | exact HB.out | apply Qe | apply Qc | apply Qd | refine Qf ?_ GE200.out | refine Qf ?_ GE201.out | refine Qf ?_ GE202.out | refine Qf ?_ GE203.out) | exact HB.out)⟩
  ·rw [if_neg c4] at H
   have c4b0 : (a0_2 == a1_2) = false := beq_eq_false_iff_ne.mpr c4
   have c4b1 : (a0_2 != a1_2) = true := bne_iff_ne.mpr c4
   obtain rfl := Option.some.inj H
   try go_wp2
   go_ret
   exact ⟨by first | rfl | (simp [Qm, Ql] <;> rfl) | (simp [*, Qm, Ql] <;> rfl), by repeat (first | (with_reducible first | exact HB.out | apply Qe | apply Qc | apply Qd | refine Qf ?_ GE200.out | refine Qf ?_ GE201.out | refine Qf ?_ GE202.out | refine Qf ?_ GE203.out) | exact HB.out)⟩
 ·rw [if_neg c3] at H
  have c3b0 : (a0_0 == a1_0) = false := beq_eq_false_iff_ne.mpr c3
  have c3b1 : (a0_0 != a1_0) = true := bne_iff_ne.mpr c3
  obtain rfl := Option.some.inj H
  try go_wp2
  go_ret
  exact ⟨by first | rfl | (simp [Qm, Ql] <;> rfl) | (simp [*, Qm, Ql] <;> rfl), by repeat (first | (with_reducible first | exact HB.out | apply Qe | apply Qc | apply Qd | refine Qf ?_ GE200.out | refine Qf ?_ GE201.out | refine Qf ?_ GE202.out | refine Qf ?_ GE203.out) | exact HB.out)⟩
end Go.Proofs.Ytmgmaflfednngaa.PFnExactTellerRight
