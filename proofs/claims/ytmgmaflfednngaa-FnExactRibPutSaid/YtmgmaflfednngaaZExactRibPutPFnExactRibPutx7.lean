-- A copy, made by trim.py (its own words shortened): not an official print.
import Derived.Test.YtmgmaflfednngaaZExactRibPutPFnExactRibPutx0
import Derived.Test.YtmgmaflfednngaaZExactRibPutSlices
namespace Go.Proofs.Ytmgmaflfednngaa.PFnExactRibPut
open Go.RowKit Go.Proofs.YtmgmaflfednngaaW.PrintWords Go.Proofs.YtmgmaflfednngaaW.PrintLast Go.Proofs.YtmgmaflfednngaaW.PrintMore
attribute [local go_sem] max2_int min2_int max_two min_two max_three min_three max_four min_four   -- for this text's walks alone
set_option linter.unusedVariables false
set_option linter.unusedSimpArgs false
def spec_l06Less.f (a0_0 : Int) (a0_1 : Bool) (a0_2 : Int) (a0_3 : Int) (a0_4 : Int) (a0_5 : Int) (a0_6 : Int) (a0_7 : Int) (a0_8 : Bool) (a1_0 : Int) (a1_1 : Bool) (a1_2 : Int) (a1_3 : Int) (a1_4 : Int) (a1_5 : Int) (a1_6 : Int) (a1_7 : Int) (a1_8 : Bool) : Option (Bool) := if a0_0 = a1_0 then (if a0_2 = a1_2 then (if a0_3 = a1_3 then (if a0_4 = a1_4 then (some (decide (a0_6 < a1_6))) else (some (decide (a0_4 < a1_4)))) else (some (decide (a0_3 < a1_3)))) else (some (decide (a0_2 < a1_2)))) else (some (decide (a0_0 < a1_0)))
def spec_l06Less.T1 : Bool × List (List Nat × List Nat) := (true, [([], []), ([0], [0]), ([], []), ([2], [2]), ([], []), ([], []), ([4, 1, 0, 1, 4, 5], [1, 4]), ([5, 3, 6, 0, 1, 2, 3, 4, 5, 6], [3, 5])])
def spec_l06Less.B1 : List Nat := [0, 1, 0, 4, 0, 0, 51, 127]
theorem spec_l06Less.tab1 : rtab .any (opsOf Try.f101 1) = spec_l06Less.T1 := by kernel_rfl
theorem spec_l06Less.bits1 : waitsOk spec_l06Less.T1.2 spec_l06Less.B1 = true := by kernel_rfl
set_option maxHeartbeats 8000000 in
set_option maxRecDepth 100000 in
theorem spec_l06Less.calls (a0_0 : Int) (a0_1 : Bool) (a0_2 : Int) (a0_3 : Int) (a0_4 : Int) (a0_5 : Int) (a0_6 : Int) (a0_7 : Int) (a0_8 : Bool) (a1_0 : Int) (a1_1 : Bool) (a1_2 : Int) (a1_3 : Int) (a1_4 : Int) (a1_5 : Int) (a1_6 : Int) (a1_7 : Int) (a1_8 : Bool) (r : Bool) (w : World) (h : spec_l06Less.f a0_0 a0_1 a0_2 a0_3 a0_4 a0_5 a0_6 a0_7 a0_8 a1_0 a1_1 a1_2 a1_3 a1_4 a1_5 a1_6 a1_7 a1_8 = some r) :
  Calls Try.prog 101 #[.agg #[.int .i64 a0_0, .bool a0_1, .int .i64 a0_2, .int .i64 a0_3, .int .i64 a0_4, .int .i64 a0_5, .int .i64 a0_6, .int .i64 a0_7, .bool a0_8], .agg #[.int .i64 a1_0, .bool a1_1, .int .i64 a1_2, .int .i64 a1_3, .int .i64 a1_4, .int .i64 a1_5, .int .i64 a1_6, .int .i64 a1_7, .bool a1_8]] w fun e w' => e = .returned (.bool r) ∧ Below w.heap.size w w' := by
 have hu73 := Try.underlying73
 have hu42 := Try.underlying42
 have HB := Aside0.mk (Below.refl w.heap.size w)
 have H : (if a0_0 = a1_0 then (if a0_2 = a1_2 then (if a0_3 = a1_3 then (if a0_4 = a1_4 then (some (decide (a0_6 < a1_6))) else (some (decide (a0_4 < a1_4)))) else (some (decide (a0_3 < a1_3)))) else (some (decide (a0_2 < a1_2)))) else (some (decide (a0_0 < a1_0)))) = some r := h
 clear h
 have HH_ := Aside0.mk H
 clear H
 go_enter Try.func101, Try.ntmps101
 try go_wp2_with (first | ((with_reducible refine Qw (N := 2) rfl ?_); refine Qu ?hg (N := 2) ?hd (cs := #[.int .i64 a0_0, .bool a0_1, .int .i64 a0_2, .int .i64 a0_3, .int .i64 a0_4, .int .i64 a0_5, .int .i64 a0_6, .int .i64 a0_7, .bool a0_8]) (t := 73) ?hr ?_; (case hd => rfl); (case hg => rfl); (case hr => first | (go_simp; done) | (go_simp; rfl)); intro gb195 hg w7 hbox hb; have n0_ := Aside0.mk (Qn (by repeat (first | (with_reducible first | exact HB.out | apply Qg | apply Qb | apply Qe) | exact HB.out)) hb); have n1_ := Aside0.mk (hbox); have n2_ := Aside0.mk ((by rw [hg]; exact (Ql (by repeat (first | (with_reducible first | exact HB.out | apply Qg | apply Qb | apply Qe) | exact HB.out))) : w.heap.size ≤ gb195)); have n3_ := Aside0.mk ((by rw [hg]; exact (Ql (by repeat (first | (with_reducible first | exact HB.out | apply Qg | apply Qb | apply Qe) | exact HB.out))) : w.heap.size ≤ gb195)); clear HB; have HB := n0_; have BK195 := n1_; have GW195 := n2_; have GE195 := n3_; clear n0_ n1_ n2_ n3_; clear hb hbox hg) | ((with_reducible refine Qw (N := 3) rfl ?_); refine Qu ?hg (N := 3) ?hd (cs := #[.int .i64 a1_0, .bool a1_1, .int .i64 a1_2, .int .i64 a1_3, .int .i64 a1_4, .int .i64 a1_5, .int .i64 a1_6, .int .i64 a1_7, .bool a1_8]) (t := 73) ?hr ?_; (case hd => rfl); (case hg => rfl); (case hr => first | (go_simp; done) | (go_simp; rfl)); intro gb196 hg w8 hbox hb; have n0_ := Aside0.mk (Qm (g := gb195) (o := .cells #[.int .i64 a0_0, .bool a0_1, .int .i64 a0_2, .int .i64 a0_3, .int .i64 a0_4, .int .i64 a0_5, .int .i64 a0_6, .int .i64 a0_7, .bool a0_8] 73 (0, 0)) (by (with_reducible repeat (first | refine Qi ?_ _ | refine Qj ?_ | refine Qh ?_ _)); exact BK195.out) hb); have n1_ := Aside0.mk (Qn (by repeat (first | (with_reducible first | exact HB.out | apply Qg | apply Qb | apply Qe | refine Qc ?_ GE195.out) | exact HB.out)) hb); have n2_ := Aside0.mk (hbox); have n3_ := Aside0.mk ((by rw [hg]; exact (Ql (by repeat (first | (with_reducible first | exact HB.out | apply Qg | apply Qb | apply Qe | refine Qc ?_ GE195.out) | exact HB.out))) : w.heap.size ≤ gb196)); have n4_ := Aside0.mk ((by rw [hg]; exact (Ql (by repeat (first | (with_reducible first | exact HB.out | apply Qg | apply Qb | apply Qe | refine Qc ?_ GE195.out) | exact HB.out))) : w.heap.size ≤ gb196)); have n5_ := Aside0.mk ((by rw [hg]; exact Nat.ne_of_lt (Qs (g := gb195) (o := .cells #[.int .i64 a0_0, .bool a0_1, .int .i64 a0_2, .int .i64 a0_3, .int .i64 a0_4, .int .i64 a0_5, .int .i64 a0_6, .int .i64 a0_7, .bool a0_8] 73 (0, 0)) (by (with_reducible repeat (first | refine Qi ?_ _ | refine Qj ?_ | refine Qh ?_ _)); exact BK195.out)) : gb195 ≠ gb196)); have n6_ := Aside0.mk ((by rw [hg]; exact Nat.ne_of_gt (Qs (g := gb195) (o := .cells #[.int .i64 a0_0, .bool a0_1, .int .i64 a0_2, .int .i64 a0_3, .int .i64 a0_4, .int .i64 a0_5, .int .i64 a0_6, .int .i64 a0_7, .bool a0_8] 73 (0, 0)) (by (with_reducible repeat (first | refine Qi ?_ _ | refine Qj ?_ | refine Qh ?_ _)); exact BK195.out)) : gb196 ≠ gb195)); clear BK195; clear HB; have BK195 := n0_; have HB := n1_; have BK196 := n2_; have GW196 := n3_; have GE196 := n4_; have NB195_196 := n5_; have NB196_195 := n6_; clear n0_ n1_ n2_ n3_ n4_ n5_ n6_; clear hb hbox hg))
 have n0_ := Aside0.mk (Qj BK195.out)
 have n1_ := Aside0.mk (Qj BK196.out)
 have n2_ := Aside0.mk (Qe HB.out)
 clear BK195
 clear BK196
 clear HB
 have BK195 := n0_
 have BK196 := n1_
 have HB := n2_
 clear n0_ n1_ n2_
 refine start_ (n := 8) (S := fun w' => w'.cell? ⟨gb195, 0, none⟩ = some (.int .i64 a0_0) ∧ w'.cell? ⟨gb195, 1, none⟩ = some (.bool a0_1) ∧ w'.cell? ⟨gb195, 2, none⟩ = some (.int .i64 a0_2) ∧ w'.cell? ⟨gb195, 3, none⟩ = some (.int .i64 a0_3) ∧ w'.cell? ⟨gb195, 4, none⟩ = some (.int .i64 a0_4) ∧ w'.cell? ⟨gb195, 5, none⟩ = some (.int .i64 a0_5) ∧ w'.cell? ⟨gb195, 6, none⟩ = some (.int .i64 a0_6) ∧ w'.cell? ⟨gb195, 7, none⟩ = some (.int .i64 a0_7) ∧ w'.cell? ⟨gb195, 8, none⟩ = some (.bool a0_8) ∧ w'.cell? ⟨gb196, 0, none⟩ = some (.int .i64 a1_0) ∧ w'.cell? ⟨gb196, 1, none⟩ = some (.bool a1_1) ∧ w'.cell? ⟨gb196, 2, none⟩ = some (.int .i64 a1_2) ∧ w'.cell? ⟨gb196, 3, none⟩ = some (.int .i64 a1_3) ∧ w'.cell? ⟨gb196, 4, none⟩ = some (.int .i64 a1_4) ∧ w'.cell? ⟨gb196, 5, none⟩ = some (.int .i64 a1_5) ∧ w'.cell? ⟨gb196, 6, none⟩ = some (.int .i64 a1_6) ∧ w'.cell? ⟨gb196, 7, none⟩ = some (.int .i64 a1_7) ∧ w'.cell? ⟨gb196, 8, none⟩ = some (.bool a1_8)) (ds := []) #[false, false, false, false, false, false, false, false] (by kernel_rfl) rfl rfl ⟨(Qa BK195.out 0).trans rfl, (Qa BK195.out 1).trans rfl, (Qa BK195.out 2).trans rfl, (Qa BK195.out 3).trans rfl, (Qa BK195.out 4).trans rfl, (Qa BK195.out 5).trans rfl, (Qa BK195.out 6).trans rfl, (Qa BK195.out 7).trans rfl, (Qa BK195.out 8).trans rfl, (Qa BK196.out 0).trans rfl, (Qa BK196.out 1).trans rfl, (Qa BK196.out 2).trans rfl, (Qa BK196.out 3).trans rfl, (Qa BK196.out 4).trans rfl, (Qa BK196.out 5).trans rfl, (Qa BK196.out 6).trans rfl, (Qa BK196.out 7).trans rfl, (Qa BK196.out 8).trans rfl⟩ (fun hHeld => ?_); refine with_tabW spec_l06Less.tab1 spec_l06Less.bits1 (fun HT_ HW_ => ?_)
 generalize w8.drew = w9 at BK195 BK196 HB hHeld ⊢
 refine Qy (i := 0) (N := some 7) (v := ?_) (a' := ?_) #[true, false, false, false, false, false, false, false] rfl rfl (Qv HT_.out (by kernel_rfl)) (fun _ _ _ h => h) (Or.inl ⟨by rfl, ?_⟩) ?_ ?_
 rotate_left
 ·intro w'
  go_simp
  with_reducible rfl
 rotate_left
 ·simp only [Act.put, List.setIfInBounds_toArray, List.set_cons_zero, List.set_cons_succ, Qr, Qt]
  rfl
 refine Qy (i := 2) (N := some 9) (v := ?_) (a' := ?_) #[true, false, true, false, false, false, false, false] rfl rfl (Qv HT_.out (by kernel_rfl)) (fun _ _ _ h => h) (Or.inl ⟨by rfl, ?_⟩) ?_ ?_
 rotate_left
 ·intro w'
  go_simp
  with_reducible rfl
 rotate_left
 ·simp only [Act.put, List.setIfInBounds_toArray, List.set_cons_zero, List.set_cons_succ, Qr, Qt]
  rfl
 refine take_ (i := 1) (N := some 8) (v := ?_) (a' := ?_) #[true, true, true, false, false, false, false, false] rfl rfl (Q5 HT_.out HW_.out (by kernel_rfl)) (fun _ _ _ h => h) (Or.inl ⟨by rfl, ?_⟩) hHeld ?_ ?_
 rotate_left
 ·rintro w' ⟨s0, s1, s2, s3, s4, s5, s6, s7, s8, s9, s10, s11, s12, s13, s14, s15, s16, s17⟩
  go_simp
  with_reducible rfl
 rotate_left
 ·simp only [Act.put, List.setIfInBounds_toArray, List.set_cons_zero, List.set_cons_succ, Qr, Qt]
  rfl
 refine take_ (i := 3) (N := some 10) (v := ?_) (a' := ?_) #[true, true, true, true, false, false, false, false] rfl rfl (Q5 HT_.out HW_.out (by kernel_rfl)) (fun _ _ _ h => h) (Or.inl ⟨by rfl, ?_⟩) hHeld ?_ ?_
 rotate_left
 ·rintro w' ⟨s0, s1, s2, s3, s4, s5, s6, s7, s8, s9, s10, s11, s12, s13, s14, s15, s16, s17⟩
  go_simp
  with_reducible rfl
 rotate_left
 ·simp only [Act.put, List.setIfInBounds_toArray, List.set_cons_zero, List.set_cons_succ, Qr, Qt]
  rfl
 refine join_ (σ := Nat × Nat) 2 #[true, true, true, true, true, true, false, false] (fun s_ => [(5, .pointer (some ⟨s_.1, 0, none⟩)), (6, .pointer (some ⟨s_.2, 0, none⟩))]) (fun s_ w' => (w'.cell? ⟨gb195, 0, none⟩ = some (.int .i64 a0_0) ∧ w'.cell? ⟨gb195, 1, none⟩ = some (.bool a0_1) ∧ w'.cell? ⟨gb195, 2, none⟩ = some (.int .i64 a0_2) ∧ w'.cell? ⟨gb195, 3, none⟩ = some (.int .i64 a0_3) ∧ w'.cell? ⟨gb195, 4, none⟩ = some (.int .i64 a0_4) ∧ w'.cell? ⟨gb195, 5, none⟩ = some (.int .i64 a0_5) ∧ w'.cell? ⟨gb195, 6, none⟩ = some (.int .i64 a0_6) ∧ w'.cell? ⟨gb195, 7, none⟩ = some (.int .i64 a0_7) ∧ w'.cell? ⟨gb195, 8, none⟩ = some (.bool a0_8) ∧ w'.cell? ⟨gb196, 0, none⟩ = some (.int .i64 a1_0) ∧ w'.cell? ⟨gb196, 1, none⟩ = some (.bool a1_1) ∧ w'.cell? ⟨gb196, 2, none⟩ = some (.int .i64 a1_2) ∧ w'.cell? ⟨gb196, 3, none⟩ = some (.int .i64 a1_3) ∧ w'.cell? ⟨gb196, 4, none⟩ = some (.int .i64 a1_4) ∧ w'.cell? ⟨gb196, 5, none⟩ = some (.int .i64 a1_5) ∧ w'.cell? ⟨gb196, 6, none⟩ = some (.int .i64 a1_6) ∧ w'.cell? ⟨gb196, 7, none⟩ = some (.int .i64 a1_7) ∧ w'.cell? ⟨gb196, 8, none⟩ = some (.bool a1_8)) ∧ (w'.heap[gb195]? = some (.cells #[.int .i64 a0_0, .bool a0_1, .int .i64 a0_2, .int .i64 a0_3, .int .i64 a0_4, .int .i64 a0_5, .int .i64 a0_6, .int .i64 a0_7, .bool a0_8] 73 (0, 0))) ∧ (w'.heap[gb196]? = some (.cells #[.int .i64 a1_0, .bool a1_1, .int .i64 a1_2, .int .i64 a1_3, .int .i64 a1_4, .int .i64 a1_5, .int .i64 a1_6, .int .i64 a1_7, .bool a1_8] 73 (0, 0))) ∧ (w'.heap[s_.1]? = some (.cells #[.int .i64 0, .int .i64 0, .int .i64 0, .int .i64 0, .int .i64 0, .int .i64 0, .bool false] 42 (0, 0))) ∧ (w'.heap[s_.2]? = some (.cells #[.int .i64 0, .int .i64 0, .int .i64 0, .int .i64 0, .int .i64 0, .int .i64 0, .bool false] 42 (0, 0))) ∧ (w.heap.size ≤ s_.1) ∧ (w.heap.size ≤ s_.1) ∧ (gb195 ≠ s_.1) ∧ (s_.1 ≠ gb195) ∧ (gb196 ≠ s_.1) ∧ (s_.1 ≠ gb196) ∧ (s_.2 ≠ s_.1) ∧ (s_.1 ≠ s_.2) ∧ (w.heap.size ≤ s_.2) ∧ (w.heap.size ≤ s_.2) ∧ (gb195 ≠ s_.2) ∧ (s_.2 ≠ gb195) ∧ (gb196 ≠ s_.2) ∧ (s_.2 ≠ gb196) ∧ (Below w.heap.size w w')) ?_ ?_
 rotate_left
 ·intro hCont
  refine two_ (i := 4) (j := 5) (Ni := some 5) (Nj := some 6) #[true, true, true, true, true, false, false, false] #[true, true, true, true, false, true, false, false] rfl rfl rfl rfl (two_of HT_.out (by kernel_rfl)) (by decide) (by decide) (fun K hK => ?_) (fun K hK => ?_)
  ·skip
   refine box_step ?hg (N := 5) ?hd (cs := #[.int .i64 0, .int .i64 0, .int .i64 0, .int .i64 0, .int .i64 0, .int .i64 0, .bool false]) (t := 42) ?hr ?_; (case hd => rfl); (case hg => rfl); (case hr => first | (go_simp; done) | (go_simp; rfl))
   intro gb197 hg w10 hbox hb
   have n0_ := Aside0.mk (Qm (g := gb195) (o := .cells #[.int .i64 a0_0, .bool a0_1, .int .i64 a0_2, .int .i64 a0_3, .int .i64 a0_4, .int .i64 a0_5, .int .i64 a0_6, .int .i64 a0_7, .bool a0_8] 73 (0, 0)) (by (with_reducible repeat (first | refine Qi ?_ _ | refine Qj ?_ | refine Qh ?_ _)); exact BK195.out) hb)
   have n1_ := Aside0.mk (Qm (g := gb196) (o := .cells #[.int .i64 a1_0, .bool a1_1, .int .i64 a1_2, .int .i64 a1_3, .int .i64 a1_4, .int .i64 a1_5, .int .i64 a1_6, .int .i64 a1_7, .bool a1_8] 73 (0, 0)) (by (with_reducible repeat (first | refine Qi ?_ _ | refine Qj ?_ | refine Qh ?_ _)); exact BK196.out) hb)
   have n2_ := Aside0.mk (Qn (by repeat (first | (with_reducible first | exact HB.out | apply Qg | apply Qb | apply Qe | refine Qc ?_ GE195.out | refine Qc ?_ GE196.out) | exact HB.out)) hb)
   have n3_ := Aside0.mk (hbox)
   have n4_ := Aside0.mk ((by rw [hg]; exact (Ql (by repeat (first | (with_reducible first | exact HB.out | apply Qg | apply Qb | apply Qe | refine Qc ?_ GE195.out | refine Qc ?_ GE196.out) | exact HB.out))) : w.heap.size ≤ gb197))
   have n5_ := Aside0.mk ((by rw [hg]; exact (Ql (by repeat (first | (with_reducible first | exact HB.out | apply Qg | apply Qb | apply Qe | refine Qc ?_ GE195.out | refine Qc ?_ GE196.out) | exact HB.out))) : w.heap.size ≤ gb197))
   have n6_ := Aside0.mk ((by rw [hg]; exact Nat.ne_of_lt (Qs (g := gb195) (o := .cells #[.int .i64 a0_0, .bool a0_1, .int .i64 a0_2, .int .i64 a0_3, .int .i64 a0_4, .int .i64 a0_5, .int .i64 a0_6, .int .i64 a0_7, .bool a0_8] 73 (0, 0)) (by (with_reducible repeat (first | refine Qi ?_ _ | refine Qj ?_ | refine Qh ?_ _)); exact BK195.out)) : gb195 ≠ gb197))
   have n7_ := Aside0.mk ((by rw [hg]; exact Nat.ne_of_gt (Qs (g := gb195) (o := .cells #[.int .i64 a0_0, .bool a0_1, .int .i64 a0_2, .int .i64 a0_3, .int .i64 a0_4, .int .i64 a0_5, .int .i64 a0_6, .int .i64 a0_7, .bool a0_8] 73 (0, 0)) (by (with_reducible repeat (first | refine Qi ?_ _ | refine Qj ?_ | refine Qh ?_ _)); exact BK195.out)) : gb197 ≠ gb195))
   have n8_ := Aside0.mk ((by rw [hg]; exact Nat.ne_of_lt (Qs (g := gb196) (o := .cells #[.int .i64 a1_0, .bool a1_1, .int .i64 a1_2, .int .i64 a1_3, .int .i64 a1_4, .int .i64 a1_5, .int .i64 a1_6, .int .i64 a1_7, .bool a1_8] 73 (0, 0)) (by (with_reducible repeat (first | refine Qi ?_ _ | refine Qj ?_ | refine Qh ?_ _)); exact BK196.out)) : gb196 ≠ gb197))
   have n9_ := Aside0.mk ((by rw [hg]; exact Nat.ne_of_gt (Qs (g := gb196) (o := .cells #[.int .i64 a1_0, .bool a1_1, .int .i64 a1_2, .int .i64 a1_3, .int .i64 a1_4, .int .i64 a1_5, .int .i64 a1_6, .int .i64 a1_7, .bool a1_8] 73 (0, 0)) (by (with_reducible repeat (first | refine Qi ?_ _ | refine Qj ?_ | refine Qh ?_ _)); exact BK196.out)) : gb197 ≠ gb196))
   clear BK195
   clear BK196
   clear HB
   have BK195 := n0_
   have BK196 := n1_
   have HB := n2_
   have BK197 := n3_
   have GW197 := n4_
   have GE197 := n5_
   have NB195_197 := n6_
   have NB197_195 := n7_
   have NB196_197 := n8_
   have NB197_196 := n9_
   clear n0_ n1_ n2_ n3_ n4_ n5_ n6_ n7_ n8_ n9_
   clear hb hbox hg
   refine hK.out _ _ ⟨(Qa BK195.out 0).trans rfl, (Qa BK195.out 1).trans rfl, (Qa BK195.out 2).trans rfl, (Qa BK195.out 3).trans rfl, (Qa BK195.out 4).trans rfl, (Qa BK195.out 5).trans rfl, (Qa BK195.out 6).trans rfl, (Qa BK195.out 7).trans rfl, (Qa BK195.out 8).trans rfl, (Qa BK196.out 0).trans rfl, (Qa BK196.out 1).trans rfl, (Qa BK196.out 2).trans rfl, (Qa BK196.out 3).trans rfl, (Qa BK196.out 4).trans rfl, (Qa BK196.out 5).trans rfl, (Qa BK196.out 6).trans rfl, (Qa BK196.out 7).trans rfl, (Qa BK196.out 8).trans rfl⟩ (fun hHeld => ?_)
   clear hK K
   refine Q4 (a' := ?_) ?_ ?_
   rotate_left
   ·show Act.put _ (some 5) _ = _
    simp only [Act.put, List.setIfInBounds_toArray, List.set_cons_zero, List.set_cons_succ, Qr, Qt]
    rfl
   refine one_ (i := 5) (N := some 6) #[true, true, true, true, true, true, false, false] rfl rfl (Q6 HT_.out (by kernel_rfl)) (by decide) (fun K hK => ?_)
   refine box_step ?hg (N := 6) ?hd (cs := #[.int .i64 0, .int .i64 0, .int .i64 0, .int .i64 0, .int .i64 0, .int .i64 0, .bool false]) (t := 42) ?hr ?_; (case hd => rfl); (case hg => rfl); (case hr => first | (go_simp; done) | (go_simp; rfl))
   intro gb198 hg w11 hbox hb
   have n0_ := Aside0.mk (Qm (g := gb195) (o := .cells #[.int .i64 a0_0, .bool a0_1, .int .i64 a0_2, .int .i64 a0_3, .int .i64 a0_4, .int .i64 a0_5, .int .i64 a0_6, .int .i64 a0_7, .bool a0_8] 73 (0, 0)) (by (with_reducible repeat (first | refine Qi ?_ _ | refine Qj ?_ | refine Qh ?_ _)); exact BK195.out) hb)
   have n1_ := Aside0.mk (Qm (g := gb196) (o := .cells #[.int .i64 a1_0, .bool a1_1, .int .i64 a1_2, .int .i64 a1_3, .int .i64 a1_4, .int .i64 a1_5, .int .i64 a1_6, .int .i64 a1_7, .bool a1_8] 73 (0, 0)) (by (with_reducible repeat (first | refine Qi ?_ _ | refine Qj ?_ | refine Qh ?_ _)); exact BK196.out) hb)
   have n2_ := Aside0.mk (Qm (g := gb197) (o := .cells #[.int .i64 0, .int .i64 0, .int .i64 0, .int .i64 0, .int .i64 0, .int .i64 0, .bool false] 42 (0, 0)) (by (with_reducible repeat (first | refine Qi ?_ _ | refine Qj ?_ | refine Qh ?_ _)); exact BK197.out) hb)
   have n3_ := Aside0.mk (Qn (by repeat (first | (with_reducible first | exact HB.out | apply Qg | apply Qb | apply Qe | refine Qc ?_ GE195.out | refine Qc ?_ GE196.out | refine Qc ?_ GE197.out) | exact HB.out)) hb)
   have n4_ := Aside0.mk (hbox)
   have n5_ := Aside0.mk ((by rw [hg]; exact (Ql (by repeat (first | (with_reducible first | exact HB.out | apply Qg | apply Qb | apply Qe | refine Qc ?_ GE195.out | refine Qc ?_ GE196.out | refine Qc ?_ GE197.out) | exact HB.out))) : w.heap.size ≤ gb198))
   have n6_ := Aside0.mk ((by rw [hg]; exact (Ql (by repeat (first | (with_reducible first | exact HB.out | apply Qg | apply Qb | apply Qe | refine Qc ?_ GE195.out | refine Qc ?_ GE196.out | refine Qc ?_ GE197.out) | exact HB.out))) : w.heap.size ≤ gb198))
   have n7_ := Aside0.mk ((by rw [hg]; exact Nat.ne_of_lt (Qs (g := gb195) (o := .cells #[.int .i64 a0_0, .bool a0_1, .int .i64 a0_2, .int .i64 a0_3, .int .i64 a0_4, .int .i64 a0_5, .int .i64 a0_6, .int .i64 a0_7, .bool a0_8] 73 (0, 0)) (by (with_reducible repeat (first | refine Qi ?_ _ | refine Qj ?_ | refine Qh ?_ _)); exact BK195.out)) : gb195 ≠ gb198))
   have n8_ := Aside0.mk ((by rw [hg]; exact Nat.ne_of_gt (Qs (g := gb195) (o := .cells #[.int .i64 a0_0, .bool a0_1, .int .i64 a0_2, .int .i64 a0_3, .int .i64 a0_4, .int .i64 a0_5, .int .i64 a0_6, .int .i64 a0_7, .bool a0_8] 73 (0, 0)) (by (with_reducible repeat (first | refine Qi ?_ _ | refine Qj ?_ | refine Qh ?_ _)); exact BK195.out)) : gb198 ≠ gb195))
   have n9_ := Aside0.mk ((by rw [hg]; exact Nat.ne_of_lt (Qs (g := gb196) (o := .cells #[.int .i64 a1_0, .bool a1_1, .int .i64 a1_2, .int .i64 a1_3, .int .i64 a1_4, .int .i64 a1_5, .int .i64 a1_6, .int .i64 a1_7, .bool a1_8] 73 (0, 0)) (by (with_reducible repeat (first | refine Qi ?_ _ | refine Qj ?_ | refine Qh ?_ _)); exact BK196.out)) : gb196 ≠ gb198))
   have n10_ := Aside0.mk ((by rw [hg]; exact Nat.ne_of_gt (Qs (g := gb196) (o := .cells #[.int .i64 a1_0, .bool a1_1, .int .i64 a1_2, .int .i64 a1_3, .int .i64 a1_4, .int .i64 a1_5, .int .i64 a1_6, .int .i64 a1_7, .bool a1_8] 73 (0, 0)) (by (with_reducible repeat (first | refine Qi ?_ _ | refine Qj ?_ | refine Qh ?_ _)); exact BK196.out)) : gb198 ≠ gb196))
   have n11_ := Aside0.mk ((by rw [hg]; exact Nat.ne_of_lt (Qs (g := gb197) (o := .cells #[.int .i64 0, .int .i64 0, .int .i64 0, .int .i64 0, .int .i64 0, .int .i64 0, .bool false] 42 (0, 0)) (by (with_reducible repeat (first | refine Qi ?_ _ | refine Qj ?_ | refine Qh ?_ _)); exact BK197.out)) : gb197 ≠ gb198))
   have n12_ := Aside0.mk ((by rw [hg]; exact Nat.ne_of_gt (Qs (g := gb197) (o := .cells #[.int .i64 0, .int .i64 0, .int .i64 0, .int .i64 0, .int .i64 0, .int .i64 0, .bool false] 42 (0, 0)) (by (with_reducible repeat (first | refine Qi ?_ _ | refine Qj ?_ | refine Qh ?_ _)); exact BK197.out)) : gb198 ≠ gb197))
   clear BK195
   clear BK196
   clear BK197
   clear HB
   have BK195 := n0_
   have BK196 := n1_
   have BK197 := n2_
   have HB := n3_
   have BK198 := n4_
   have GW198 := n5_
   have GE198 := n6_
   have NB195_198 := n7_
   have NB198_195 := n8_
   have NB196_198 := n9_
   have NB198_196 := n10_
   have NB197_198 := n11_
   have NB198_197 := n12_
   clear n0_ n1_ n2_ n3_ n4_ n5_ n6_ n7_ n8_ n9_ n10_ n11_ n12_
   clear hb hbox hg
   refine hK.out _ _ ⟨(Qa BK195.out 0).trans rfl, (Qa BK195.out 1).trans rfl, (Qa BK195.out 2).trans rfl, (Qa BK195.out 3).trans rfl, (Qa BK195.out 4).trans rfl, (Qa BK195.out 5).trans rfl, (Qa BK195.out 6).trans rfl, (Qa BK195.out 7).trans rfl, (Qa BK195.out 8).trans rfl, (Qa BK196.out 0).trans rfl, (Qa BK196.out 1).trans rfl, (Qa BK196.out 2).trans rfl, (Qa BK196.out 3).trans rfl, (Qa BK196.out 4).trans rfl, (Qa BK196.out 5).trans rfl, (Qa BK196.out 6).trans rfl, (Qa BK196.out 7).trans rfl, (Qa BK196.out 8).trans rfl⟩ (fun hHeld => ?_)
   clear hK K
   refine Q4 (a' := ?_) ?_ ?_
   rotate_left
   ·show Act.put _ (some 6) _ = _
    simp only [Act.put, List.setIfInBounds_toArray, List.set_cons_zero, List.set_cons_succ, Qr, Qt]
    rfl
   exact Q4 (by simp only [putAll, Act.put, List.setIfInBounds_toArray, List.set_cons_zero, List.set_cons_succ]) (hCont (gb197, gb198) _ ⟨hHeld, (by (with_reducible repeat (first | refine Qi ?_ _ | refine Qj ?_ | refine Qh ?_ _)); exact BK195.out), (by (with_reducible repeat (first | refine Qi ?_ _ | refine Qj ?_ | refine Qh ?_ _)); exact BK196.out), (by (with_reducible repeat (first | refine Qi ?_ _ | refine Qj ?_ | refine Qh ?_ _)); exact BK197.out), (by (with_reducible repeat (first | refine Qi ?_ _ | refine Qj ?_ | refine Qh ?_ _)); exact BK198.out), GW197.out, GE197.out, NB195_197.out, NB197_195.out, NB196_197.out, NB197_196.out, NB198_197.out, NB197_198.out, GW198.out, GE198.out, NB195_198.out, NB198_195.out, NB196_198.out, NB198_196.out, (by repeat (first | (with_reducible first | exact HB.out | apply Qg | apply Qb | apply Qe | refine Qc ?_ GE195.out | refine Qc ?_ GE196.out | refine Qc ?_ GE197.out | refine Qc ?_ GE198.out) | exact HB.out))⟩)
  ·skip
   refine box_step ?hg (N := 6) ?hd (cs := #[.int .i64 0, .int .i64 0, .int .i64 0, .int .i64 0, .int .i64 0, .int .i64 0, .bool false]) (t := 42) ?hr ?_; (case hd => rfl); (case hg => rfl); (case hr => first | (go_simp; done) | (go_simp; rfl))
   intro gb198 hg w10 hbox hb
   have n0_ := Aside0.mk (Qm (g := gb195) (o := .cells #[.int .i64 a0_0, .bool a0_1, .int .i64 a0_2, .int .i64 a0_3, .int .i64 a0_4, .int .i64 a0_5, .int .i64 a0_6, .int .i64 a0_7, .bool a0_8] 73 (0, 0)) (by (with_reducible repeat (first | refine Qi ?_ _ | refine Qj ?_ | refine Qh ?_ _)); exact BK195.out) hb)
   have n1_ := Aside0.mk (Qm (g := gb196) (o := .cells #[.int .i64 a1_0, .bool a1_1, .int .i64 a1_2, .int .i64 a1_3, .int .i64 a1_4, .int .i64 a1_5, .int .i64 a1_6, .int .i64 a1_7, .bool a1_8] 73 (0, 0)) (by (with_reducible repeat (first | refine Qi ?_ _ | refine Qj ?_ | refine Qh ?_ _)); exact BK196.out) hb)
   have n2_ := Aside0.mk (Qn (by repeat (first | (with_reducible first | exact HB.out | apply Qg | apply Qb | apply Qe | refine Qc ?_ GE195.out | refine Qc ?_ GE196.out) | exact HB.out)) hb)
   have n3_ := Aside0.mk (hbox)
   have n4_ := Aside0.mk ((by rw [hg]; exact (Ql (by repeat (first | (with_reducible first | exact HB.out | apply Qg | apply Qb | apply Qe | refine Qc ?_ GE195.out | refine Qc ?_ GE196.out) | exact HB.out))) : w.heap.size ≤ gb198))
   have n5_ := Aside0.mk ((by rw [hg]; exact (Ql (by repeat (first | (with_reducible first | exact HB.out | apply Qg | apply Qb | apply Qe | refine Qc ?_ GE195.out | refine Qc ?_ GE196.out) | exact HB.out))) : w.heap.size ≤ gb198))
   have n6_ := Aside0.mk ((by rw [hg]; exact Nat.ne_of_lt (Qs (g := gb195) (o := .cells #[.int .i64 a0_0, .bool a0_1, .int .i64 a0_2, .int .i64 a0_3, .int .i64 a0_4, .int .i64 a0_5, .int .i64 a0_6, .int .i64 a0_7, .bool a0_8] 73 (0, 0)) (by (with_reducible repeat (first | refine Qi ?_ _ | refine Qj ?_ | refine Qh ?_ _)); exact BK195.out)) : gb195 ≠ gb198))
   have n7_ := Aside0.mk ((by rw [hg]; exact Nat.ne_of_gt (Qs (g := gb195) (o := .cells #[.int .i64 a0_0, .bool a0_1, .int .i64 a0_2, .int .i64 a0_3, .int .i64 a0_4, .int .i64 a0_5, .int .i64 a0_6, .int .i64 a0_7, .bool a0_8] 73 (0, 0)) (by (with_reducible repeat (first | refine Qi ?_ _ | refine Qj ?_ | refine Qh ?_ _)); exact BK195.out)) : gb198 ≠ gb195))
   have n8_ := Aside0.mk ((by rw [hg]; exact Nat.ne_of_lt (Qs (g := gb196) (o := .cells #[.int .i64 a1_0, .bool a1_1, .int .i64 a1_2, .int .i64 a1_3, .int .i64 a1_4, .int .i64 a1_5, .int .i64 a1_6, .int .i64 a1_7, .bool a1_8] 73 (0, 0)) (by (with_reducible repeat (first | refine Qi ?_ _ | refine Qj ?_ | refine Qh ?_ _)); exact BK196.out)) : gb196 ≠ gb198))
   have n9_ := Aside0.mk ((by rw [hg]; exact Nat.ne_of_gt (Qs (g := gb196) (o := .cells #[.int .i64 a1_0, .bool a1_1, .int .i64 a1_2, .int .i64 a1_3, .int .i64 a1_4, .int .i64 a1_5, .int .i64 a1_6, .int .i64 a1_7, .bool a1_8] 73 (0, 0)) (by (with_reducible repeat (first | refine Qi ?_ _ | refine Qj ?_ | refine Qh ?_ _)); exact BK196.out)) : gb198 ≠ gb196))
   clear BK195
   clear BK196
   clear HB
   have BK195 := n0_
   have BK196 := n1_
   have HB := n2_
   have BK198 := n3_
   have GW198 := n4_
   have GE198 := n5_
   have NB195_198 := n6_
   have NB198_195 := n7_
   have NB196_198 := n8_
   have NB198_196 := n9_
   clear n0_ n1_ n2_ n3_ n4_ n5_ n6_ n7_ n8_ n9_
   clear hb hbox hg
   refine hK.out _ _ ⟨(Qa BK195.out 0).trans rfl, (Qa BK195.out 1).trans rfl, (Qa BK195.out 2).trans rfl, (Qa BK195.out 3).trans rfl, (Qa BK195.out 4).trans rfl, (Qa BK195.out 5).trans rfl, (Qa BK195.out 6).trans rfl, (Qa BK195.out 7).trans rfl, (Qa BK195.out 8).trans rfl, (Qa BK196.out 0).trans rfl, (Qa BK196.out 1).trans rfl, (Qa BK196.out 2).trans rfl, (Qa BK196.out 3).trans rfl, (Qa BK196.out 4).trans rfl, (Qa BK196.out 5).trans rfl, (Qa BK196.out 6).trans rfl, (Qa BK196.out 7).trans rfl, (Qa BK196.out 8).trans rfl⟩ (fun hHeld => ?_)
   clear hK K
   refine Q4 (a' := ?_) ?_ ?_
   rotate_left
   ·show Act.put _ (some 6) _ = _
    simp only [Act.put, List.setIfInBounds_toArray, List.set_cons_zero, List.set_cons_succ, Qr, Qt]
    rfl
   refine one_ (i := 4) (N := some 5) #[true, true, true, true, true, true, false, false] rfl rfl (Q6 HT_.out (by kernel_rfl)) (by decide) (fun K hK => ?_)
   refine box_step ?hg (N := 5) ?hd (cs := #[.int .i64 0, .int .i64 0, .int .i64 0, .int .i64 0, .int .i64 0, .int .i64 0, .bool false]) (t := 42) ?hr ?_; (case hd => rfl); (case hg => rfl); (case hr => first | (go_simp; done) | (go_simp; rfl))
   intro gb197 hg w11 hbox hb
   have n0_ := Aside0.mk (Qm (g := gb195) (o := .cells #[.int .i64 a0_0, .bool a0_1, .int .i64 a0_2, .int .i64 a0_3, .int .i64 a0_4, .int .i64 a0_5, .int .i64 a0_6, .int .i64 a0_7, .bool a0_8] 73 (0, 0)) (by (with_reducible repeat (first | refine Qi ?_ _ | refine Qj ?_ | refine Qh ?_ _)); exact BK195.out) hb)
   have n1_ := Aside0.mk (Qm (g := gb196) (o := .cells #[.int .i64 a1_0, .bool a1_1, .int .i64 a1_2, .int .i64 a1_3, .int .i64 a1_4, .int .i64 a1_5, .int .i64 a1_6, .int .i64 a1_7, .bool a1_8] 73 (0, 0)) (by (with_reducible repeat (first | refine Qi ?_ _ | refine Qj ?_ | refine Qh ?_ _)); exact BK196.out) hb)
   have n2_ := Aside0.mk (Qm (g := gb198) (o := .cells #[.int .i64 0, .int .i64 0, .int .i64 0, .int .i64 0, .int .i64 0, .int .i64 0, .bool false] 42 (0, 0)) (by (with_reducible repeat (first | refine Qi ?_ _ | refine Qj ?_ | refine Qh ?_ _)); exact BK198.out) hb)
   have n3_ := Aside0.mk (Qn (by repeat (first | (with_reducible first | exact HB.out | apply Qg | apply Qb | apply Qe | refine Qc ?_ GE195.out | refine Qc ?_ GE196.out | refine Qc ?_ GE198.out) | exact HB.out)) hb)
   have n4_ := Aside0.mk (hbox)
   have n5_ := Aside0.mk ((by rw [hg]; exact (Ql (by repeat (first | (with_reducible first | exact HB.out | apply Qg | apply Qb | apply Qe | refine Qc ?_ GE195.out | refine Qc ?_ GE196.out | refine Qc ?_ GE198.out) | exact HB.out))) : w.heap.size ≤ gb197))
   have n6_ := Aside0.mk ((by rw [hg]; exact (Ql (by repeat (first | (with_reducible first | exact HB.out | apply Qg | apply Qb | apply Qe | refine Qc ?_ GE195.out | refine Qc ?_ GE196.out | refine Qc ?_ GE198.out) | exact HB.out))) : w.heap.size ≤ gb197))
   have n7_ := Aside0.mk ((by rw [hg]; exact Nat.ne_of_lt (Qs (g := gb195) (o := .cells #[.int .i64 a0_0, .bool a0_1, .int .i64 a0_2, .int .i64 a0_3, .int .i64 a0_4, .int .i64 a0_5, .int .i64 a0_6, .int .i64 a0_7, .bool a0_8] 73 (0, 0)) (by (with_reducible repeat (first | refine Qi ?_ _ | refine Qj ?_ | refine Qh ?_ _)); exact BK195.out)) : gb195 ≠ gb197))
   have n8_ := Aside0.mk ((by rw [hg]; exact Nat.ne_of_gt (Qs (g := gb195) (o := .cells #[.int .i64 a0_0, .bool a0_1, .int .i64 a0_2, .int .i64 a0_3, .int .i64 a0_4, .int .i64 a0_5, .int .i64 a0_6, .int .i64 a0_7, .bool a0_8] 73 (0, 0)) (by (with_reducible repeat (first | refine Qi ?_ _ | refine Qj ?_ | refine Qh ?_ _)); exact BK195.out)) : gb197 ≠ gb195))
   have n9_ := Aside0.mk ((by rw [hg]; exact Nat.ne_of_lt (Qs (g := gb196) (o := .cells #[.int .i64 a1_0, .bool a1_1, .int .i64 a1_2, .int .i64 a1_3, .int .i64 a1_4, .int .i64 a1_5, .int .i64 a1_6, .int .i64 a1_7, .bool a1_8] 73 (0, 0)) (by (with_reducible repeat (first | refine Qi ?_ _ | refine Qj ?_ | refine Qh ?_ _)); exact BK196.out)) : gb196 ≠ gb197))
   have n10_ := Aside0.mk ((by rw [hg]; exact Nat.ne_of_gt (Qs (g := gb196) (o := .cells #[.int .i64 a1_0, .bool a1_1, .int .i64 a1_2, .int .i64 a1_3, .int .i64 a1_4, .int .i64 a1_5, .int .i64 a1_6, .int .i64 a1_7, .bool a1_8] 73 (0, 0)) (by (with_reducible repeat (first | refine Qi ?_ _ | refine Qj ?_ | refine Qh ?_ _)); exact BK196.out)) : gb197 ≠ gb196))
   have n11_ := Aside0.mk ((by rw [hg]; exact Nat.ne_of_lt (Qs (g := gb198) (o := .cells #[.int .i64 0, .int .i64 0, .int .i64 0, .int .i64 0, .int .i64 0, .int .i64 0, .bool false] 42 (0, 0)) (by (with_reducible repeat (first | refine Qi ?_ _ | refine Qj ?_ | refine Qh ?_ _)); exact BK198.out)) : gb198 ≠ gb197))
   have n12_ := Aside0.mk ((by rw [hg]; exact Nat.ne_of_gt (Qs (g := gb198) (o := .cells #[.int .i64 0, .int .i64 0, .int .i64 0, .int .i64 0, .int .i64 0, .int .i64 0, .bool false] 42 (0, 0)) (by (with_reducible repeat (first | refine Qi ?_ _ | refine Qj ?_ | refine Qh ?_ _)); exact BK198.out)) : gb197 ≠ gb198))
   clear BK195
   clear BK196
   clear BK198
   clear HB
   have BK195 := n0_
   have BK196 := n1_
   have BK198 := n2_
   have HB := n3_
   have BK197 := n4_
   have GW197 := n5_
   have GE197 := n6_
   have NB195_197 := n7_
   have NB197_195 := n8_
   have NB196_197 := n9_
   have NB197_196 := n10_
   have NB198_197 := n11_
   have NB197_198 := n12_
   clear n0_ n1_ n2_ n3_ n4_ n5_ n6_ n7_ n8_ n9_ n10_ n11_ n12_
   clear hb hbox hg
   refine hK.out _ _ ⟨(Qa BK195.out 0).trans rfl, (Qa BK195.out 1).trans rfl, (Qa BK195.out 2).trans rfl, (Qa BK195.out 3).trans rfl, (Qa BK195.out 4).trans rfl, (Qa BK195.out 5).trans rfl, (Qa BK195.out 6).trans rfl, (Qa BK195.out 7).trans rfl, (Qa BK195.out 8).trans rfl, (Qa BK196.out 0).trans rfl, (Qa BK196.out 1).trans rfl, (Qa BK196.out 2).trans rfl, (Qa BK196.out 3).trans rfl, (Qa BK196.out 4).trans rfl, (Qa BK196.out 5).trans rfl, (Qa BK196.out 6).trans rfl, (Qa BK196.out 7).trans rfl, (Qa BK196.out 8).trans rfl⟩ (fun hHeld => ?_)
   clear hK K
   refine Q4 (a' := ?_) ?_ ?_
   rotate_left
   ·show Act.put _ (some 5) _ = _
    simp only [Act.put, List.setIfInBounds_toArray, List.set_cons_zero, List.set_cons_succ, Qr, Qt]
    rfl
   exact Q4 (by simp only [putAll, Act.put, List.setIfInBounds_toArray, List.set_cons_zero, List.set_cons_succ]) (hCont (gb197, gb198) _ ⟨hHeld, (by (with_reducible repeat (first | refine Qi ?_ _ | refine Qj ?_ | refine Qh ?_ _)); exact BK195.out), (by (with_reducible repeat (first | refine Qi ?_ _ | refine Qj ?_ | refine Qh ?_ _)); exact BK196.out), (by (with_reducible repeat (first | refine Qi ?_ _ | refine Qj ?_ | refine Qh ?_ _)); exact BK197.out), (by (with_reducible repeat (first | refine Qi ?_ _ | refine Qj ?_ | refine Qh ?_ _)); exact BK198.out), GW197.out, GE197.out, NB195_197.out, NB197_195.out, NB196_197.out, NB197_196.out, NB198_197.out, NB197_198.out, GW198.out, GE198.out, NB195_198.out, NB198_195.out, NB196_198.out, NB198_196.out, (by repeat (first | (with_reducible first | exact HB.out | apply Qg | apply Qb | apply Qe | refine Qc ?_ GE195.out | refine Qc ?_ GE196.out | refine Qc ?_ GE198.out | refine Qc ?_ GE197.out) | exact HB.out))⟩)
 rintro ⟨gb197, gb198⟩ w12 ⟨hS_, h0_, h1_, h2_, h3_, h4_, h5_, h6_, h7_, h8_, h9_, h10_, h11_, h12_, h13_, h14_, h15_, h16_, h17_, h18_⟩
 have n0_ : Aside0 (w12.heap[gb195]? = some (.cells #[.int .i64 a0_0, .bool a0_1, .int .i64 a0_2, .int .i64 a0_3, .int .i64 a0_4, .int .i64 a0_5, .int .i64 a0_6, .int .i64 a0_7, .bool a0_8] 73 (0, 0))) := ⟨h0_⟩
 have n1_ : Aside0 (w12.heap[gb196]? = some (.cells #[.int .i64 a1_0, .bool a1_1, .int .i64 a1_2, .int .i64 a1_3, .int .i64 a1_4, .int .i64 a1_5, .int .i64 a1_6, .int .i64 a1_7, .bool a1_8] 73 (0, 0))) := ⟨h1_⟩
 have n2_ : Aside0 (w12.heap[gb197]? = some (.cells #[.int .i64 0, .int .i64 0, .int .i64 0, .int .i64 0, .int .i64 0, .int .i64 0, .bool false] 42 (0, 0))) := ⟨h2_⟩
 have n3_ : Aside0 (w12.heap[gb198]? = some (.cells #[.int .i64 0, .int .i64 0, .int .i64 0, .int .i64 0, .int .i64 0, .int .i64 0, .bool false] 42 (0, 0))) := ⟨h3_⟩
 have n4_ : Aside0 (w.heap.size ≤ gb197) := ⟨h4_⟩
 have n5_ : Aside0 (w.heap.size ≤ gb197) := ⟨h5_⟩
 have n6_ : Aside0 (gb195 ≠ gb197) := ⟨h6_⟩
 have n7_ : Aside0 (gb197 ≠ gb195) := ⟨h7_⟩
 have n8_ : Aside0 (gb196 ≠ gb197) := ⟨h8_⟩
 have n9_ : Aside0 (gb197 ≠ gb196) := ⟨h9_⟩
 have n10_ : Aside0 (gb198 ≠ gb197) := ⟨h10_⟩
 have n11_ : Aside0 (gb197 ≠ gb198) := ⟨h11_⟩
 have n12_ : Aside0 (w.heap.size ≤ gb198) := ⟨h12_⟩
 have n13_ : Aside0 (w.heap.size ≤ gb198) := ⟨h13_⟩
 have n14_ : Aside0 (gb195 ≠ gb198) := ⟨h14_⟩
 have n15_ : Aside0 (gb198 ≠ gb195) := ⟨h15_⟩
 have n16_ : Aside0 (gb196 ≠ gb198) := ⟨h16_⟩
 have n17_ : Aside0 (gb198 ≠ gb196) := ⟨h17_⟩
 have n18_ : Aside0 (Below w.heap.size w w12) := ⟨h18_⟩
 clear BK195
 clear BK196
 clear HB
 clear h0_ h1_ h2_ h3_ h4_ h5_ h6_ h7_ h8_ h9_ h10_ h11_ h12_ h13_ h14_ h15_ h16_ h17_ h18_
 have BK195 := n0_
 have BK196 := n1_
 have BK197 := n2_
 have BK198 := n3_
 have GW197 := n4_
 have GE197 := n5_
 have NB195_197 := n6_
 have NB197_195 := n7_
 have NB196_197 := n8_
 have NB197_196 := n9_
 have NB198_197 := n10_
 have NB197_198 := n11_
 have GW198 := n12_
 have GE198 := n13_
 have NB195_198 := n14_
 have NB198_195 := n15_
 have NB196_198 := n16_
 have NB198_196 := n17_
 have HB := n18_
 clear n0_ n1_ n2_ n3_ n4_ n5_ n6_ n7_ n8_ n9_ n10_ n11_ n12_ n13_ n14_ n15_ n16_ n17_ n18_
 have hHeld : w12.cell? ⟨gb195, 0, none⟩ = some (.int .i64 a0_0) ∧ w12.cell? ⟨gb195, 1, none⟩ = some (.bool a0_1) ∧ w12.cell? ⟨gb195, 2, none⟩ = some (.int .i64 a0_2) ∧ w12.cell? ⟨gb195, 3, none⟩ = some (.int .i64 a0_3) ∧ w12.cell? ⟨gb195, 4, none⟩ = some (.int .i64 a0_4) ∧ w12.cell? ⟨gb195, 5, none⟩ = some (.int .i64 a0_5) ∧ w12.cell? ⟨gb195, 6, none⟩ = some (.int .i64 a0_6) ∧ w12.cell? ⟨gb195, 7, none⟩ = some (.int .i64 a0_7) ∧ w12.cell? ⟨gb195, 8, none⟩ = some (.bool a0_8) ∧ w12.cell? ⟨gb196, 0, none⟩ = some (.int .i64 a1_0) ∧ w12.cell? ⟨gb196, 1, none⟩ = some (.bool a1_1) ∧ w12.cell? ⟨gb196, 2, none⟩ = some (.int .i64 a1_2) ∧ w12.cell? ⟨gb196, 3, none⟩ = some (.int .i64 a1_3) ∧ w12.cell? ⟨gb196, 4, none⟩ = some (.int .i64 a1_4) ∧ w12.cell? ⟨gb196, 5, none⟩ = some (.int .i64 a1_5) ∧ w12.cell? ⟨gb196, 6, none⟩ = some (.int .i64 a1_6) ∧ w12.cell? ⟨gb196, 7, none⟩ = some (.int .i64 a1_7) ∧ w12.cell? ⟨gb196, 8, none⟩ = some (.bool a1_8) := hS_
 refine Q4 (a' := ?_) ?_ ?_
 rotate_left
 ·simp only [putAll, Act.put, List.setIfInBounds_toArray, List.set_cons_zero, List.set_cons_succ]
  rfl
 refine one_ (i := 6) (N := none) #[true, true, true, true, true, true, true, false] rfl rfl (Q6 HT_.out (by kernel_rfl)) (by decide) (fun K hK => ?_)
 refine Base.store_step (by rfl) rfl 42 (.tmp 5) (.tmp 8) rfl (g := gb197) rfl (u := .agg #[.int .i64 a0_2, .int .i64 a0_3, .int .i64 a0_4, .int .i64 a0_5, .int .i64 a0_6, .int .i64 a0_7, .bool a0_8]) rfl [.int .i64 a0_2, .int .i64 a0_3, .int .i64 a0_4, .int .i64 a0_5, .int .i64 a0_6, .int .i64 a0_7, .bool a0_8] rfl (by kernel_rfl) BK197.out rfl (by simp [Value.oneCell']) ?_
 intro wn_ hx_ hf_ hB_
 have n195_ := Aside0.mk ((hf_ gb195 NB195_197.out).trans BK195.out)
 have n196_ := Aside0.mk ((hf_ gb196 NB196_197.out).trans BK196.out)
 have n198_ := Aside0.mk ((hf_ gb198 NB198_197.out).trans BK198.out)
 have nx_ := Aside0.mk hx_
 have nb_ := Aside0.mk (hB_ _ _ HB.out GE197.out)
 clear BK195 BK196 BK197 BK198 HB hHeld hx_ hf_ hB_
 have BK195 := n195_
 have BK196 := n196_
 have BK198 := n198_
 have BK197 := nx_
 have HB := nb_
 clear n195_ n196_ n198_ nx_ nb_
 refine hK.out _ _ ⟨(Qa BK195.out 0).trans rfl, (Qa BK195.out 1).trans rfl, (Qa BK195.out 2).trans rfl, (Qa BK195.out 3).trans rfl, (Qa BK195.out 4).trans rfl, (Qa BK195.out 5).trans rfl, (Qa BK195.out 6).trans rfl, (Qa BK195.out 7).trans rfl, (Qa BK195.out 8).trans rfl, (Qa BK196.out 0).trans rfl, (Qa BK196.out 1).trans rfl, (Qa BK196.out 2).trans rfl, (Qa BK196.out 3).trans rfl, (Qa BK196.out 4).trans rfl, (Qa BK196.out 5).trans rfl, (Qa BK196.out 6).trans rfl, (Qa BK196.out 7).trans rfl, (Qa BK196.out 8).trans rfl⟩ (fun hHeld => ?_)
 clear hK K
 refine one_ (i := 7) (N := none) #[true, true, true, true, true, true, true, true] rfl rfl (Q6 HT_.out (by kernel_rfl)) (by decide) (fun K hK => ?_)
 refine Base.store_step (by rfl) rfl 42 (.tmp 6) (.tmp 10) rfl (g := gb198) rfl (u := .agg #[.int .i64 a1_2, .int .i64 a1_3, .int .i64 a1_4, .int .i64 a1_5, .int .i64 a1_6, .int .i64 a1_7, .bool a1_8]) rfl [.int .i64 a1_2, .int .i64 a1_3, .int .i64 a1_4, .int .i64 a1_5, .int .i64 a1_6, .int .i64 a1_7, .bool a1_8] rfl (by kernel_rfl) BK198.out rfl (by simp [Value.oneCell']) ?_
 intro wn_ hx_ hf_ hB_
 have n195_ := Aside0.mk ((hf_ gb195 NB195_198.out).trans BK195.out)
 have n196_ := Aside0.mk ((hf_ gb196 NB196_198.out).trans BK196.out)
 have n197_ := Aside0.mk ((hf_ gb197 NB197_198.out).trans BK197.out)
 have nx_ := Aside0.mk hx_
 have nb_ := Aside0.mk (hB_ _ _ HB.out GE198.out)
 clear BK195 BK196 BK197 BK198 HB hHeld hx_ hf_ hB_
 have BK195 := n195_
 have BK196 := n196_
 have BK197 := n197_
 have BK198 := nx_
 have HB := nb_
 clear n195_ n196_ n197_ nx_ nb_
 refine hK.out _ _ ⟨(Qa BK195.out 0).trans rfl, (Qa BK195.out 1).trans rfl, (Qa BK195.out 2).trans rfl, (Qa BK195.out 3).trans rfl, (Qa BK195.out 4).trans rfl, (Qa BK195.out 5).trans rfl, (Qa BK195.out 6).trans rfl, (Qa BK195.out 7).trans rfl, (Qa BK195.out 8).trans rfl, (Qa BK196.out 0).trans rfl, (Qa BK196.out 1).trans rfl, (Qa BK196.out 2).trans rfl, (Qa BK196.out 3).trans rfl, (Qa BK196.out 4).trans rfl, (Qa BK196.out 5).trans rfl, (Qa BK196.out 6).trans rfl, (Qa BK196.out 7).trans rfl, (Qa BK196.out 8).trans rfl⟩ (fun hHeld => ?_)
 clear hK K
 refine done_ (done_of HT_.out (by kernel_rfl)) ?_
 have kz195_0 := (Qa BK195.out 0).trans rfl
 have kz195_1 := (Qa BK195.out 1).trans rfl
 have kz195_2 := (Qa BK195.out 2).trans rfl
 have kz195_3 := (Qa BK195.out 3).trans rfl
 have kz195_4 := (Qa BK195.out 4).trans rfl
 have kz195_5 := (Qa BK195.out 5).trans rfl
 have kz195_6 := (Qa BK195.out 6).trans rfl
 have kz195_7 := (Qa BK195.out 7).trans rfl
 have kz195_8 := (Qa BK195.out 8).trans rfl
 have kz196_0 := (Qa BK196.out 0).trans rfl
 have kz196_1 := (Qa BK196.out 1).trans rfl
 have kz196_2 := (Qa BK196.out 2).trans rfl
 have kz196_3 := (Qa BK196.out 3).trans rfl
 have kz196_4 := (Qa BK196.out 4).trans rfl
 have kz196_5 := (Qa BK196.out 5).trans rfl
 have kz196_6 := (Qa BK196.out 6).trans rfl
 have kz196_7 := (Qa BK196.out 7).trans rfl
 have kz196_8 := (Qa BK196.out 8).trans rfl
 have kz197_0 := (Qa BK197.out 0).trans rfl
 have kz197_1 := (Qa BK197.out 1).trans rfl
 have kz197_2 := (Qa BK197.out 2).trans rfl
 have kz197_3 := (Qa BK197.out 3).trans rfl
 have kz197_4 := (Qa BK197.out 4).trans rfl
 have kz197_5 := (Qa BK197.out 5).trans rfl
 have kz197_6 := (Qa BK197.out 6).trans rfl
 have kz198_0 := (Qa BK198.out 0).trans rfl
 have kz198_1 := (Qa BK198.out 1).trans rfl
 have kz198_2 := (Qa BK198.out 2).trans rfl
 have kz198_3 := (Qa BK198.out 3).trans rfl
 have kz198_4 := (Qa BK198.out 4).trans rfl
 have kz198_5 := (Qa BK198.out 5).trans rfl
 have kz198_6 := (Qa BK198.out 6).trans rfl
 have H := HH_.out
 clear HH_
 by_cases c3 : a0_0 = a1_0
 ·rw [if_pos c3] at H
  have c3b0 : (a0_0 == a1_0) = true := beq_iff_eq.mpr c3
  have c3b1 : (a0_0 != a1_0) = false := bne_eq_false_iff_eq.mpr c3
  clear c3
  by_cases c4 : a0_2 = a1_2
  ·rw [if_pos c4] at H
   have c4b0 : (a0_2 == a1_2) = true := beq_iff_eq.mpr c4
   have c4b1 : (a0_2 != a1_2) = false := bne_eq_false_iff_eq.mpr c4
   clear c4
   by_cases c5 : a0_3 = a1_3
   ·rw [if_pos c5] at H
    have c5b0 : (a0_3 == a1_3) = true := beq_iff_eq.mpr c5
    have c5b1 : (a0_3 != a1_3) = false := bne_eq_false_iff_eq.mpr c5
    clear c5
    by_cases c6 : a0_4 = a1_4
    ·rw [if_pos c6] at H
     have c6b0 : (a0_4 == a1_4) = true := beq_iff_eq.mpr c6
     have c6b1 : (a0_4 != a1_4) = false := bne_eq_false_iff_eq.mpr c6
     clear c6
     obtain rfl := Option.some.inj H
     try go_wp2
     go_ret
     exact ⟨by first | rfl | (simp [Qp, Qo] <;> rfl) | (simp [*, Qp, Qo] <;> rfl), by repeat (first | (with_reducible first | exact HB.out | apply Qg | apply Qb | apply Qe | refine Qc ?_ GE195.out | refine Qc ?_ GE196.out | refine Qc ?_ GE197.out | refine Qc ?_ GE198.out) | exact HB.out)⟩
    ·rw [if_neg c6] at H
     have c6b0 : (a0_4 == a1_4) = false := beq_eq_false_iff_ne.mpr c6
     have c6b1 : (a0_4 != a1_4) = true := bne_iff_ne.mpr c6
     obtain rfl := Option.some.inj H
     try go_wp2
     go_ret
     exact ⟨by first | rfl | (simp [Qp, Qo] <;> rfl) | (simp [*, Qp, Qo] <;> rfl), by repeat (first | (with_reducible first | exact HB.out | apply Qg | apply Qb | apply Qe | refine Qc ?_ GE195.out | refine Qc ?_ GE196.out | refine Qc ?_ GE197.out | refine Qc ?_ GE198.out) | exact HB.out)⟩
   ·rw [if_neg c5] at H
    have c5b0 : (a0_3 == a1_3) = false := beq_eq_false_iff_ne.mpr c5
    have c5b1 : (a0_3 != a1_3) = true := bne_iff_ne.mpr c5
    obtain rfl := Option.some.inj H
    try go_wp2
    go_ret
    exact ⟨by first | rfl | (simp [Qp, Qo] <;> rfl) | (simp [*, Qp, Qo] <;> rfl), by repeat (first | (with_reducible first | exact HB.out | apply Qg | apply Qb | apply Qe | refine Qc ?_ GE195.out | refine Qc ?_ GE196.out | refine Qc ?_ GE197.out | refine Qc ?_ GE198.out) | exact HB.out)⟩
  ·rw [if_neg c4] at H
   have c4b0 : (a0_2 == a1_2) = false := beq_eq_false_iff_ne.mpr c4
   have c4b1 : (a0_2 != a1_2) = true := bne_iff_ne.mpr c4
   obtain rfl := Option.some.inj H
   try go_wp2
   go_ret
   exact ⟨by first | rfl | (simp [Qp, Qo] <;> rfl) | (simp [*, Qp, Qo] <;> rfl), by repeat (first | (with_reducible first | exact HB.out | apply Qg | apply Qb | apply Qe | refine Qc ?_ GE195.out | refine Qc ?_ GE196.out | refine Qc ?_ GE197.out | refine Qc ?_ GE198.out) | exact HB.out)⟩
 ·rw [if_neg c3] at H
  have c3b0 : (a0_0 == a1_0) = false := beq_eq_false_iff_ne.mpr c3
  have c3b1 : (a0_0 != a1_0) = true := bne_iff_ne.mpr c3
  obtain rfl := Option.some.inj H
  try go_wp2
  go_ret
  exact ⟨by first | rfl | (simp [Qp, Qo] <;> rfl) | (simp [*, Qp, Qo] <;> rfl), by repeat (first | (with_reducible first | exact HB.out | apply Qg | apply Qb | apply Qe | refine Qc ?_ GE195.out | refine Qc ?_ GE196.out | refine Qc ?_ GE197.out | refine Qc ?_ GE198.out) | exact HB.out)⟩
end Go.Proofs.Ytmgmaflfednngaa.PFnExactRibPut
