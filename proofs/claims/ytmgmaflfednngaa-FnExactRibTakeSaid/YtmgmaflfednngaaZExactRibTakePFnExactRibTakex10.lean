-- A copy, by trim.py of this session's wip/gen, of a text of this claim, without what the row does not reach and without comments: not an official print.
import Derived.Test.YtmgmaflfednngaaZExactRibTakePFnExactRibTakex0
import Derived.Test.YtmgmaflfednngaaZExactRibTakePFnExactRibTakex1
import Derived.Test.YtmgmaflfednngaaZExactRibTakePFnExactRibTakex9
namespace Go.Proofs.Ytmgmaflfednngaa.PFnExactRibTake
open Go.RowKit Go.Proofs.YtmgmaflfednngaaW.PrintWords Go.Proofs.YtmgmaflfednngaaW.PrintLast Go.Proofs.YtmgmaflfednngaaW.PrintMore
attribute [local go_sem] max2_int min2_int max_two min_two max_three min_three max_four min_four   -- for this text's walks alone
set_option linter.unusedVariables false
set_option linter.unusedSimpArgs false
attribute [local go_sem high] eqA42
def spec_l06Take.l0 : Nat → List (S73) → Int → Int → Int → Int → Int → Int → Int → Int → Bool → List (S73) → List (S42) → Int → Option ((List (S73)) × (List (S42)) × Int)
 | 0, _, _, _, _, _, _, _, _, _, _, _, _, _ => none
 | k + 1, x0, x1, x8, x210000, x210001, x210002, x210003, x210004, x210005, x210006, x212000, x212001, x212002 => if x8 < (x0.length : Int) then (if 0 ≤ x8 then (if ((Qc x0 x8).f0) = x1 then ((spec_KeyOf.f ((Qc x0 x8).f2.f0) ((Qc x0 x8).f2.f1) ((Qc x0 x8).f2.f2) ((Qc x0 x8).f2.f3) ((Qc x0 x8).f2.f4) ((Qc x0 x8).f2.f5) ((Qc x0 x8).f2.f6)).bind fun bt221 => ((spec_KeyOf.f x210000 x210001 x210002 x210003 x210004 x210005 x210006).bind fun bt228 => (if (bt221.1 == bt228.1 && (bt221.2.1 == bt228.2.1 && (bt221.2.2.1 == bt228.2.2.1 && (bt221.2.2.2.1 == bt228.2.2.2.1 && (bt221.2.2.2.2.1 == bt228.2.2.2.2.1 && (bt221.2.2.2.2.2.1 == bt228.2.2.2.2.2.1 && (bt221.2.2.2.2.2.2 == bt228.2.2.2.2.2.2))))))) = true then (if x212001.length < 2513169434916 then (spec_l06Take.l0 k x0 x1 (wrap64 (x8 + 1)) x210000 x210001 x210002 x210003 x210004 x210005 x210006 x212000 (x212001 ++ [(⟨(Qc x0 x8).f2.f0, (Qc x0 x8).f2.f1, (Qc x0 x8).f2.f2, (Qc x0 x8).f2.f3, (Qc x0 x8).f2.f4, (Qc x0 x8).f2.f5, (Qc x0 x8).f2.f6⟩ : S42)]) 0) else (none)) else (if x212000.length < 1954687338268 then (spec_l06Take.l0 k x0 x1 (wrap64 (x8 + 1)) x210000 x210001 x210002 x210003 x210004 x210005 x210006 (x212000 ++ [(⟨(Qc x0 x8).f0, (Qc x0 x8).f1, (⟨(Qc x0 x8).f2.f0, (Qc x0 x8).f2.f1, (Qc x0 x8).f2.f2, (Qc x0 x8).f2.f3, (Qc x0 x8).f2.f4, (Qc x0 x8).f2.f5, (Qc x0 x8).f2.f6⟩ : S42)⟩ : S73)]) x212001 x212002) else (none))))) else (if x212000.length < 1954687338268 then (spec_l06Take.l0 k x0 x1 (wrap64 (x8 + 1)) x210000 x210001 x210002 x210003 x210004 x210005 x210006 (x212000 ++ [(⟨(Qc x0 x8).f0, (Qc x0 x8).f1, (⟨(Qc x0 x8).f2.f0, (Qc x0 x8).f2.f1, (Qc x0 x8).f2.f2, (Qc x0 x8).f2.f3, (Qc x0 x8).f2.f4, (Qc x0 x8).f2.f5, (Qc x0 x8).f2.f6⟩ : S42)⟩ : S73)]) x212001 x212002) else (none))) else (none)) else (if x212002 = 0 then (some (x212000, x212001, x212002)) else ((spec_l06Ill.f x212002).bind fun bt212 => (some (bt212.1, bt212.2.1, bt212.2.2))))
def spec_l06Take.f (k : Nat) (l0 : List (S73)) (a1 : Int) (a2_0 : Int) (a2_1 : Int) (a2_2 : Int) (a2_3 : Int) (a2_4 : Int) (a2_5 : Int) (a2_6 : Bool) : Option ((List (S73)) × (List (S42)) × Int) := spec_l06Take.l0 k l0 a1 0 a2_0 a2_1 a2_2 a2_3 a2_4 a2_5 a2_6 ([] : List (S73)) ([] : List (S42)) 6
theorem spec_l06Take.mono_l : ∀ k, (∀ y0 y1 y2 y3 y4 y5 y6 y7 y8 y9 y10 y11 y12, LeO (spec_l06Take.l0 k y0 y1 y2 y3 y4 y5 y6 y7 y8 y9 y10 y11 y12) (spec_l06Take.l0 (k + 1) y0 y1 y2 y3 y4 y5 y6 y7 y8 y9 y10 y11 y12))
 | 0 => fun _ _ _ _ _ _ _ _ _ _ _ _ _ r h => by simp [spec_l06Take.l0] at h
 | k + 1 => by
  have ih0 := spec_l06Take.mono_l k
  ·intro y0 y1 y2 y3 y4 y5 y6 y7 y8 y9 y10 y11 y12
   unfold spec_l06Take.l0
   repeat' first
   | (with_reducible exact ih0 _ _ _ _ _ _ _ _ _ _ _ _ _)
   | (with_reducible exact LeO.refl _)
   | (with_reducible exact LeO.none _)
   | (with_reducible refine LeO.ite ?_ ?_)
   | (with_reducible refine LeO.bind ?_ (fun _ => ?_))
   | exact ih0 _ _ _ _ _ _ _ _ _ _ _ _ _
   | exact LeO.none _
   | refine LeO.ite ?_ ?_
   | refine LeO.bind ?_ (fun _ => ?_)
theorem spec_l06Take.mono : ∀ a0 a1 a2 a3 a4 a5 a6 a7 a8 k, LeO (spec_l06Take.f k a0 a1 a2 a3 a4 a5 a6 a7 a8) (spec_l06Take.f (k + 1) a0 a1 a2 a3 a4 a5 a6 a7 a8) := by
 intro a0 a1 a2 a3 a4 a5 a6 a7 a8 k
 have ih0 := spec_l06Take.mono_l k
 unfold spec_l06Take.f
 repeat' first
   | (with_reducible exact ih0 _ _ _ _ _ _ _ _ _ _ _ _ _)
   | (with_reducible exact LeO.refl _)
   | (with_reducible exact LeO.none _)
   | (with_reducible refine LeO.ite ?_ ?_)
   | (with_reducible refine LeO.bind ?_ (fun _ => ?_))
   | exact ih0 _ _ _ _ _ _ _ _ _ _ _ _ _
   | exact LeO.none _
   | refine LeO.ite ?_ ?_
   | refine LeO.bind ?_ (fun _ => ?_)
def spec_l06Take.T5 : Bool × List (List Nat × List Nat) := (true, [([], []), ([], []), ([0, 1], [0, 1]), ([2], [2]), ([3], [3]), ([], []), ([4, 5], [4, 5]), ([6], [6]), ([7], [7]), ([7], [7]), ([8, 9, 7], [7, 8, 9]), ([10, 7], [7, 10]), ([11, 7], [7, 11]), ([12, 7, 7], [7, 12]), ([7], [7]), ([14, 13, 7], [7, 14]), ([13, 15, 7], [7, 13, 15]), ([7, 16], [7, 16])])
def spec_l06Take.B5 : List Nat := [0, 0, 3, 7, 15, 0, 63, 127, 255, 255, 1023, 2047, 4095, 8191, 255, 32767, 65535, 131071]
theorem spec_l06Take.tab5 : rtab .any (opsOf Try.f70 5) = spec_l06Take.T5 := by kernel_rfl
theorem spec_l06Take.bits5 : waitsOk spec_l06Take.T5.2 spec_l06Take.B5 = true := by kernel_rfl
def spec_l06Take.T6 : Bool × List (List Nat × List Nat) := (true, [([], []), ([0], [0]), ([], []), ([], []), ([2, 3], [2, 3]), ([4], [4]), ([5], [5]), ([6], [6]), ([1, 7], [1, 7]), ([0, 1, 2, 3, 4, 5, 6, 7, 8], []), ([9, 8, 8, 0, 1, 2, 3, 4, 5, 6, 7, 8], [8, 9])])
def spec_l06Take.B6 : List Nat := [0, 1, 0, 0, 12, 28, 60, 124, 255, 511, 1023]
theorem spec_l06Take.tab6 : rtab .any (opsOf Try.f70 6) = spec_l06Take.T6 := by kernel_rfl
theorem spec_l06Take.bits6 : waitsOk spec_l06Take.T6.2 spec_l06Take.B6 = true := by kernel_rfl
def spec_l06Take.T8 : Bool × List (List Nat × List Nat) := (true, [([], []), ([0], [0]), ([], []), ([], []), ([2, 3], [2, 3]), ([4], [4]), ([5], [5]), ([1, 6], [1, 6]), ([0, 1, 2, 3, 4, 5, 6, 7], []), ([8, 7, 7, 0, 1, 2, 3, 4, 5, 6, 7], [7, 8])])
def spec_l06Take.B8 : List Nat := [0, 1, 0, 0, 12, 28, 60, 127, 255, 511]
theorem spec_l06Take.tab8 : rtab .any (opsOf Try.f70 8) = spec_l06Take.T8 := by kernel_rfl
theorem spec_l06Take.bits8 : waitsOk spec_l06Take.T8.2 spec_l06Take.B8 = true := by kernel_rfl
set_option maxHeartbeats 8000000 in
set_option maxRecDepth 100000 in
theorem spec_l06Take.calls (k : Nat) (A0 : Option Addr) (c0 : Nat) (l0 : List (S73)) (a1 : Int) (a2_0 : Int) (a2_1 : Int) (a2_2 : Int) (a2_3 : Int) (a2_4 : Int) (a2_5 : Int) (a2_6 : Bool) (r1 : List (S73)) (r2 : List (S42)) (r3 : Int) (w : World) (hr0 : Kd.C k73 w A0 l0.length l0) (hc0 : l0.length ≤ c0) (h : spec_l06Take.f k l0 a1 a2_0 a2_1 a2_2 a2_3 a2_4 a2_5 a2_6 = some (r1, r2, r3)) :
  Calls Try.prog 70 #[.slice A0 l0.length c0, .int .i64 a1, .agg #[.int .i64 a2_0, .int .i64 a2_1, .int .i64 a2_2, .int .i64 a2_3, .int .i64 a2_4, .int .i64 a2_5, .bool a2_6]] w fun e w' => ∃ v0_ v1_ : Value, e = .returned (.agg #[v0_, v1_, .int .i64 r3]) ∧ Kd.R k73 73 w' w.heap.size (fun _ => True) v0_ r1 ∧ Kd.R k42 42 w' w.heap.size (fun _ => True) v1_ r2 ∧ Below w.heap.size w w' := by
 have hu42 := Try.underlying42
 have hu34 := Try.underlying34
 have hu73 := Try.underlying73
 have HR0 := Aside0.mk hr0
 have HC0 := Aside0.mk hc0
 clear hr0 hc0
 have HB := Aside0.mk (Below.refl w.heap.size w)
 have H : (spec_l06Take.l0 k l0 a1 0 a2_0 a2_1 a2_2 a2_3 a2_4 a2_5 a2_6 ([] : List (S73)) ([] : List (S42)) 6) = some (r1, r2, r3) := h
 clear h
 have H' := Aside0.mk H
 clear H
 go_enter Try.func70, Try.ntmps70
 go_wp2_with (first | ((with_reducible refine Qw (N := 5) rfl ?_); refine Qu ?hg (N := 5) ?hd (cs := #[.int .i64 a2_0, .int .i64 a2_1, .int .i64 a2_2, .int .i64 a2_3, .int .i64 a2_4, .int .i64 a2_5, .bool a2_6]) (t := 42) ?hr ?_; (case hd => rfl); (case hg => rfl); (case hr => first | (go_simp; done) | (go_simp; rfl)); intro gb209 hg w4 hbox hb; have n0_ := Aside0.mk (Qn (by repeat (first | (with_reducible first | exact HB.out | apply Qg | apply Qb | apply Qf) | exact HB.out)) hb); have n1_ := Aside0.mk (hbox); have n2_ := Aside0.mk ((by rw [hg]; exact (Ql (by repeat (first | (with_reducible first | exact HB.out | apply Qg | apply Qb | apply Qf) | exact HB.out))) : w.heap.size ≤ gb209)); have n3_ := Aside0.mk ((by rw [hg]; exact (Ql (by repeat (first | (with_reducible first | exact HB.out | apply Qg | apply Qb | apply Qf) | exact HB.out))) : w.heap.size ≤ gb209)); clear HB; have HB := n0_; have BK209 := n1_; have GW209 := n2_; have GE209 := n3_; clear n0_ n1_ n2_ n3_; clear hb hbox hg) | ((with_reducible refine Qw (N := 6) rfl ?_); refine Qu ?hg (N := 6) ?hd (cs := #[.slice none 0 0, .slice none 0 0, .int .i64 0]) (t := 34) ?hr ?_; (case hd => rfl); (case hg => rfl); (case hr => first | (go_simp; done) | (go_simp; rfl)); intro gb210 hg w5 hbox hb; have n0_ := Aside0.mk (Qm (g := gb209) (o := .cells #[.int .i64 a2_0, .int .i64 a2_1, .int .i64 a2_2, .int .i64 a2_3, .int .i64 a2_4, .int .i64 a2_5, .bool a2_6] 42 (0, 0)) (by (with_reducible repeat (first | refine Qi ?_ _ | refine Qj ?_ | refine Qh ?_ _)); exact BK209.out) hb); have n1_ := Aside0.mk (Qn (by repeat (first | (with_reducible first | exact HB.out | apply Qg | apply Qb | apply Qf | refine Qe ?_ GE209.out) | exact HB.out)) hb); have n2_ := Aside0.mk (hbox); have n3_ := Aside0.mk ((by rw [hg]; exact (Ql (by repeat (first | (with_reducible first | exact HB.out | apply Qg | apply Qb | apply Qf | refine Qe ?_ GE209.out) | exact HB.out))) : w.heap.size ≤ gb210)); have n4_ := Aside0.mk ((by rw [hg]; exact (Ql (by repeat (first | (with_reducible first | exact HB.out | apply Qg | apply Qb | apply Qf | refine Qe ?_ GE209.out) | exact HB.out))) : w.heap.size ≤ gb210)); have n5_ := Aside0.mk ((by rw [hg]; exact Nat.ne_of_lt (Qt (g := gb209) (o := .cells #[.int .i64 a2_0, .int .i64 a2_1, .int .i64 a2_2, .int .i64 a2_3, .int .i64 a2_4, .int .i64 a2_5, .bool a2_6] 42 (0, 0)) (by (with_reducible repeat (first | refine Qi ?_ _ | refine Qj ?_ | refine Qh ?_ _)); exact BK209.out)) : gb209 ≠ gb210)); have n6_ := Aside0.mk ((by rw [hg]; exact Nat.ne_of_gt (Qt (g := gb209) (o := .cells #[.int .i64 a2_0, .int .i64 a2_1, .int .i64 a2_2, .int .i64 a2_3, .int .i64 a2_4, .int .i64 a2_5, .bool a2_6] 42 (0, 0)) (by (with_reducible repeat (first | refine Qi ?_ _ | refine Qj ?_ | refine Qh ?_ _)); exact BK209.out)) : gb210 ≠ gb209)); clear BK209; clear HB; have BK209 := n0_; have HB := n1_; have BK210 := n2_; have GW210 := n3_; have GE210 := n4_; have NB209_210 := n5_; have NB210_209 := n6_; clear n0_ n1_ n2_ n3_ n4_ n5_ n6_; clear hb hbox hg) | ((with_reducible refine Qw (N := 7) rfl ?_); refine Qu ?hg (N := 7) ?hd (cs := #[.slice none 0 0, .slice none 0 0, .int .i64 0]) (t := 34) ?hr ?_; (case hd => rfl); (case hg => rfl); (case hr => first | (go_simp; done) | (go_simp; rfl)); intro gb211 hg w6 hbox hb; have n0_ := Aside0.mk (Qm (g := gb209) (o := .cells #[.int .i64 a2_0, .int .i64 a2_1, .int .i64 a2_2, .int .i64 a2_3, .int .i64 a2_4, .int .i64 a2_5, .bool a2_6] 42 (0, 0)) (by (with_reducible repeat (first | refine Qi ?_ _ | refine Qj ?_ | refine Qh ?_ _)); exact BK209.out) hb); have n1_ := Aside0.mk (Qm (g := gb210) (o := .cells #[.slice none 0 0, .slice none 0 0, .int .i64 0] 34 (0, 0)) (by (with_reducible repeat (first | refine Qi ?_ _ | refine Qj ?_ | refine Qh ?_ _)); exact BK210.out) hb); have n2_ := Aside0.mk (Qn (by repeat (first | (with_reducible first | exact HB.out | apply Qg | apply Qb | apply Qf | refine Qe ?_ GE209.out | refine Qe ?_ GE210.out) | exact HB.out)) hb); have n3_ := Aside0.mk (hbox); have n4_ := Aside0.mk ((by rw [hg]; exact (Ql (by repeat (first | (with_reducible first | exact HB.out | apply Qg | apply Qb | apply Qf | refine Qe ?_ GE209.out | refine Qe ?_ GE210.out) | exact HB.out))) : w.heap.size ≤ gb211)); have n5_ := Aside0.mk ((by rw [hg]; exact (Ql (by repeat (first | (with_reducible first | exact HB.out | apply Qg | apply Qb | apply Qf | refine Qe ?_ GE209.out | refine Qe ?_ GE210.out) | exact HB.out))) : w.heap.size ≤ gb211)); have n6_ := Aside0.mk ((by rw [hg]; exact Nat.ne_of_lt (Qt (g := gb209) (o := .cells #[.int .i64 a2_0, .int .i64 a2_1, .int .i64 a2_2, .int .i64 a2_3, .int .i64 a2_4, .int .i64 a2_5, .bool a2_6] 42 (0, 0)) (by (with_reducible repeat (first | refine Qi ?_ _ | refine Qj ?_ | refine Qh ?_ _)); exact BK209.out)) : gb209 ≠ gb211)); have n7_ := Aside0.mk ((by rw [hg]; exact Nat.ne_of_gt (Qt (g := gb209) (o := .cells #[.int .i64 a2_0, .int .i64 a2_1, .int .i64 a2_2, .int .i64 a2_3, .int .i64 a2_4, .int .i64 a2_5, .bool a2_6] 42 (0, 0)) (by (with_reducible repeat (first | refine Qi ?_ _ | refine Qj ?_ | refine Qh ?_ _)); exact BK209.out)) : gb211 ≠ gb209)); have n8_ := Aside0.mk ((by rw [hg]; exact Nat.ne_of_lt (Qt (g := gb210) (o := .cells #[.slice none 0 0, .slice none 0 0, .int .i64 0] 34 (0, 0)) (by (with_reducible repeat (first | refine Qi ?_ _ | refine Qj ?_ | refine Qh ?_ _)); exact BK210.out)) : gb210 ≠ gb211)); have n9_ := Aside0.mk ((by rw [hg]; exact Nat.ne_of_gt (Qt (g := gb210) (o := .cells #[.slice none 0 0, .slice none 0 0, .int .i64 0] 34 (0, 0)) (by (with_reducible repeat (first | refine Qi ?_ _ | refine Qj ?_ | refine Qh ?_ _)); exact BK210.out)) : gb211 ≠ gb210)); clear BK209; clear BK210; clear HB; have BK209 := n0_; have BK210 := n1_; have HB := n2_; have BK211 := n3_; have GW211 := n4_; have GE211 := n5_; have NB209_211 := n6_; have NB211_209 := n7_; have NB210_211 := n8_; have NB211_210 := n9_; clear n0_ n1_ n2_ n3_ n4_ n5_ n6_ n7_ n8_ n9_; clear hb hbox hg; have hnb7 := NB211_209.out; have hnc7 := NB209_211.out; have hnb8 := NB211_210.out; have hnc8 := NB210_211.out; have hcz9_0 : w6.cell? ⟨gb211, 0, none⟩ = some (.slice none 0 0) := (Qa BK211.out 0).trans rfl; have hcz9_1 : w6.cell? ⟨gb211, 1, none⟩ = some (.slice none 0 0) := (Qa BK211.out 1).trans rfl; have hcz9_2 : w6.cell? ⟨gb211, 2, none⟩ = some (.int .i64 0) := (Qa BK211.out 2).trans rfl; have hfz9_0 := Qd BK211.out 0; have hfz9_1 := Qd BK211.out 1; have hfz9_2 := Qd BK211.out 2))
 go_loopg [8] k (fun kq v8 w' => ∃ (x8_1 : Int) (x212000_1 : List (S73)) (x212001_1 : List (S42)) (x212002_1 : Int) (u212000 : Value) (u212001 : Value), v8 = .int .i64 x8_1 ∧ Aside0 (spec_l06Take.l0 kq l0 a1 x8_1 a2_0 a2_1 a2_2 a2_3 a2_4 a2_5 a2_6 x212000_1 x212001_1 x212002_1 = some (r1, r2, r3)) ∧ Aside0 (kq ≤ k) ∧ Aside0 (Kd.R k73 73 w' w.heap.size (fun _ => True) u212000 x212000_1) ∧ Aside0 (Kd.R k42 42 w' w.heap.size (fun k_ => k_ ≠ gb209) u212001 x212001_1) ∧ Aside0 (w'.heap[gb209]? = some (.cells #[.int .i64 a2_0, .int .i64 a2_1, .int .i64 a2_2, .int .i64 a2_3, .int .i64 a2_4, .int .i64 a2_5, .bool a2_6] 42 (0, 0))) ∧ Aside0 (w'.heap[gb210]? = some (.cells #[(.slice none 0 0), (.slice none 0 0), .int .i64 0] 34 (0, 0))) ∧ Aside0 (w'.heap[gb211]? = some (.cells #[u212000, u212001, .int .i64 x212002_1] 34 (0, 0))) ∧ Aside0 (Below w.heap.size w w'))
 case atStart => exact ⟨(0), (([] : List (S73))), (([] : List (S42))), (6), (.slice none 0 0), (.slice none 0 0), (by first | rfl | (simp; done) | (simp [*]; done)), H', ⟨Nat.le_refl _⟩, ⟨by first | exact Kd.R_nil _ _ _ _ _ | exact Kd.N_nil _ _ _ _ _ | exact Kd.V_nil _ _ _ _ _ | exact Kd.Q_nil _ _ _ _ _ | exact Kd.S_nil _ _ _ _ _⟩, ⟨by first | exact Kd.R_nil _ _ _ _ _ | exact Kd.N_nil _ _ _ _ _ | exact Kd.V_nil _ _ _ _ _ | exact Kd.Q_nil _ _ _ _ _ | exact Kd.S_nil _ _ _ _ _⟩, ⟨by (with_reducible repeat (first | refine Qi ?_ _ | refine Qj ?_ | refine Qh ?_ _)); refine Q1 ?_ NB209_211.out _; (with_reducible repeat (first | refine Qi ?_ _ | refine Qj ?_ | refine Qh ?_ _)); refine Q1 ?_ NB209_211.out _; (with_reducible repeat (first | refine Qi ?_ _ | refine Qj ?_ | refine Qh ?_ _)); refine Q1 ?_ NB209_211.out _; (with_reducible repeat (first | refine Qi ?_ _ | refine Qj ?_ | refine Qh ?_ _)); exact BK209.out⟩, ⟨by (with_reducible repeat (first | refine Qi ?_ _ | refine Qj ?_ | refine Qh ?_ _)); refine Q1 ?_ NB210_211.out _; (with_reducible repeat (first | refine Qi ?_ _ | refine Qj ?_ | refine Qh ?_ _)); refine Q1 ?_ NB210_211.out _; (with_reducible repeat (first | refine Qi ?_ _ | refine Qj ?_ | refine Qh ?_ _)); refine Q1 ?_ NB210_211.out _; (with_reducible repeat (first | refine Qi ?_ _ | refine Qj ?_ | refine Qh ?_ _)); exact BK210.out⟩, ⟨by (with_reducible repeat (first | refine Qi ?_ _ | refine Qj ?_ | refine Qh ?_ _)); refine Qz (cs := #[.slice none 0 0, .slice none 0 0, .int .i64 0]) ?_ 2 _ rfl; (with_reducible repeat (first | refine Qi ?_ _ | refine Qj ?_ | refine Qh ?_ _)); refine Qz (cs := #[.slice none 0 0, .slice none 0 0, .int .i64 0]) ?_ 1 _ rfl; (with_reducible repeat (first | refine Qi ?_ _ | refine Qj ?_ | refine Qh ?_ _)); refine Qz (cs := #[.slice none 0 0, .slice none 0 0, .int .i64 0]) ?_ 0 _ rfl; (with_reducible repeat (first | refine Qi ?_ _ | refine Qj ?_ | refine Qh ?_ _)); exact BK211.out⟩, ⟨by repeat (first | (with_reducible first | exact HB.out | apply Qg | apply Qb | apply Qf | refine Qe ?_ GE209.out | refine Qe ?_ GE210.out | refine Qe ?_ GE211.out) | exact HB.out)⟩⟩
 case round =>
  clear H'
  try clear p2
  try clear c7
  try clear c8
  try clear hcz9_0
  try clear hcz9_1
  try clear hcz9_2
  try clear hfz9_0
  try clear hfz9_1
  try clear hfz9_2
  obtain ⟨x8_1, x212000_1, x212001_1, x212002_1, u212000, u212001, rfl, HA, HK1, HO_212000, HO_212001, BK209, BK210, BK211, HB⟩ := hrel
  cases gk with
  | zero => exact absurd HA.out (by simp [spec_l06Take.l0])
  | succ k1 =>
   have H := HA.out
   clear HA
   simp only [spec_l06Take.l0] at H
   by_cases c10 : x8_1 < (l0.length : Int)
   ·rw [if_pos c10] at H
    have c10b0 : decide (x8_1 < (l0.length : Int)) = true := decide_eq_true c10
    clear c10
    by_cases c11 : 0 ≤ x8_1
    ·rw [if_pos c11] at H
     have c11b0 : decide (0 ≤ x8_1) = true := decide_eq_true c11
     clear c11
     by_cases c12 : ((Qc l0 x8_1).f0) = a1
     ·rw [if_pos c12] at H
      have c12b0 : (((Qc l0 x8_1).f0) == a1) = true := beq_iff_eq.mpr c12
      have c12b1 : (((Qc l0 x8_1).f0) != a1) = false := bne_eq_false_iff_eq.mpr c12
      clear c12
      replace H := Option.bind_eq_some_iff.mp H
      obtain ⟨⟨t221, t222, t223, t224, t225, t226, t227⟩, A130, H⟩ := H
      replace H : ((spec_KeyOf.f a2_0 a2_1 a2_2 a2_3 a2_4 a2_5 a2_6).bind fun bt228 => (if (t221 == bt228.1 && (t222 == bt228.2.1 && (t223 == bt228.2.2.1 && (t224 == bt228.2.2.2.1 && (t225 == bt228.2.2.2.2.1 && (t226 == bt228.2.2.2.2.2.1 && (t227 == bt228.2.2.2.2.2.2))))))) = true then (if x212001_1.length < 2513169434916 then (spec_l06Take.l0 k1 l0 a1 (wrap64 (x8_1 + 1)) a2_0 a2_1 a2_2 a2_3 a2_4 a2_5 a2_6 x212000_1 (x212001_1 ++ [(⟨(Qc l0 x8_1).f2.f0, (Qc l0 x8_1).f2.f1, (Qc l0 x8_1).f2.f2, (Qc l0 x8_1).f2.f3, (Qc l0 x8_1).f2.f4, (Qc l0 x8_1).f2.f5, (Qc l0 x8_1).f2.f6⟩ : S42)]) 0) else (none)) else (if x212000_1.length < 1954687338268 then (spec_l06Take.l0 k1 l0 a1 (wrap64 (x8_1 + 1)) a2_0 a2_1 a2_2 a2_3 a2_4 a2_5 a2_6 (x212000_1 ++ [(⟨(Qc l0 x8_1).f0, (Qc l0 x8_1).f1, (⟨(Qc l0 x8_1).f2.f0, (Qc l0 x8_1).f2.f1, (Qc l0 x8_1).f2.f2, (Qc l0 x8_1).f2.f3, (Qc l0 x8_1).f2.f4, (Qc l0 x8_1).f2.f5, (Qc l0 x8_1).f2.f6⟩ : S42)⟩ : S73)]) x212001_1 x212002_1) else (none)))) = some (r1, r2, r3) := H
      have A13 := Aside0.mk A130
      clear A130
      replace H := Option.bind_eq_some_iff.mp H
      obtain ⟨⟨t228, t229, t230, t231, t232, t233, t234⟩, A140, H⟩ := H
      replace H : (if (t221 == t228 && (t222 == t229 && (t223 == t230 && (t224 == t231 && (t225 == t232 && (t226 == t233 && (t227 == t234))))))) = true then (if x212001_1.length < 2513169434916 then (spec_l06Take.l0 k1 l0 a1 (wrap64 (x8_1 + 1)) a2_0 a2_1 a2_2 a2_3 a2_4 a2_5 a2_6 x212000_1 (x212001_1 ++ [(⟨(Qc l0 x8_1).f2.f0, (Qc l0 x8_1).f2.f1, (Qc l0 x8_1).f2.f2, (Qc l0 x8_1).f2.f3, (Qc l0 x8_1).f2.f4, (Qc l0 x8_1).f2.f5, (Qc l0 x8_1).f2.f6⟩ : S42)]) 0) else (none)) else (if x212000_1.length < 1954687338268 then (spec_l06Take.l0 k1 l0 a1 (wrap64 (x8_1 + 1)) a2_0 a2_1 a2_2 a2_3 a2_4 a2_5 a2_6 (x212000_1 ++ [(⟨(Qc l0 x8_1).f0, (Qc l0 x8_1).f1, (⟨(Qc l0 x8_1).f2.f0, (Qc l0 x8_1).f2.f1, (Qc l0 x8_1).f2.f2, (Qc l0 x8_1).f2.f3, (Qc l0 x8_1).f2.f4, (Qc l0 x8_1).f2.f5, (Qc l0 x8_1).f2.f6⟩ : S42)⟩ : S73)]) x212001_1 x212002_1) else (none))) = some (r1, r2, r3) := H
      have A14 := Aside0.mk A140
      clear A140
      by_cases c15 : (t221 == t228 && (t222 == t229 && (t223 == t230 && (t224 == t231 && (t225 == t232 && (t226 == t233 && (t227 == t234))))))) = true
      ·rw [if_pos c15] at H
       have c15b0 : (t221 == t228 && (t222 == t229 && (t223 == t230 && (t224 == t231 && (t225 == t232 && (t226 == t233 && (t227 == t234))))))) = true := c15
       (try (have c15b1 : decide (t221 = t228 && (t222 == t229 && (t223 == t230 && (t224 == t231 && (t225 == t232 && (t226 == t233 && (t227 == t234))))))) = true := by simpa using c15))
       (try (have c15b2 : (t221 == t228 && (t222 == t229 && (t223 == t230 && (t224 == t231 && (t225 == t232 && (t226 == t233 && (t227 == t234))))))) = true := by simpa using c15))
       clear c15
       by_cases c16 : x212001_1.length < 2513169434916
       ·rw [if_pos c16] at H
        have LMc16 := Aside0.mk c16
        clear c16
        obtain ⟨y236, hy236⟩ : ∃ y_ : List (S42), y_ = (x212001_1 ++ [(⟨(Qc l0 x8_1).f2.f0, (Qc l0 x8_1).f2.f1, (Qc l0 x8_1).f2.f2, (Qc l0 x8_1).f2.f3, (Qc l0 x8_1).f2.f4, (Qc l0 x8_1).f2.f5, (Qc l0 x8_1).f2.f6⟩ : S42)]) := ⟨_, rfl⟩
        replace H : (spec_l06Take.l0 k1 l0 a1 (wrap64 (x8_1 + 1)) a2_0 a2_1 a2_2 a2_3 a2_4 a2_5 a2_6 x212000_1 y236 0) = some (r1, r2, r3) := by first | (rw [hy236]; with_reducible exact H) | (have H2_ := (Option.bind_some _ _).symm.trans H; rw [hy236]; with_reducible exact H2_) | (have H2_ := (Option.bind_some _ _).symm.trans H; with_reducible exact H2_) | with_reducible exact H | (rw [hy236]; exact H) | exact H
        have Ny236 := Aside0.mk hy236
        clear hy236
        have H' := Aside0.mk H
        clear H
        try go_wp2
        have n0_ := Aside0.mk (Kd.R_drew HO_212000.out)
        have n1_ := Aside0.mk (Kd.R_drew HO_212001.out)
        have n2_ := Aside0.mk (Qj BK209.out)
        have n3_ := Aside0.mk (Qj BK210.out)
        have n4_ := Aside0.mk (Qj BK211.out)
        have n5_ := Aside0.mk (Qf HB.out)
        clear HO_212000
        clear HO_212001
        clear BK209
        clear BK210
        clear BK211
        clear HB
        have HO_212000 := n0_
        have HO_212001 := n1_
        have BK209 := n2_
        have BK210 := n3_
        have BK211 := n4_
        have HB := n5_
        clear n0_ n1_ n2_ n3_ n4_ n5_
        have p219 : 0 ≤ (x8_1 : Int) := of_decide_eq_true (by assumption)
        have q219 : x8_1 < (l0.length : Int) := of_decide_eq_true (by assumption)
        obtain ⟨ad219, e219, hx219_0, hx219_1, hx219_2, hx219_3, hx219_4, hx219_5, hx219_6, hx219_7, hx219_8⟩ := Q0 HR0.out x8_1 p219 q219
        have hw219_8 := hx219_8
        have hw219_7 := hx219_7
        have hw219_6 := hx219_6
        have hw219_5 := hx219_5
        have hw219_4 := hx219_4
        have hw219_3 := hx219_3
        have hw219_2 := hx219_2
        have hw219_1 := hx219_1
        have hw219_0 := hx219_0
        cases e219
        replace hx219_0 := (HB.out.cell (World.block_lt_of_cell? w _ hx219_0)).trans hx219_0
        replace hx219_1 := (HB.out.cell (World.block_lt_of_cell? w _ hx219_1)).trans hx219_1
        replace hx219_2 := (HB.out.cell (World.block_lt_of_cell? w _ hx219_2)).trans hx219_2
        replace hx219_3 := (HB.out.cell (World.block_lt_of_cell? w _ hx219_3)).trans hx219_3
        replace hx219_4 := (HB.out.cell (World.block_lt_of_cell? w _ hx219_4)).trans hx219_4
        replace hx219_5 := (HB.out.cell (World.block_lt_of_cell? w _ hx219_5)).trans hx219_5
        replace hx219_6 := (HB.out.cell (World.block_lt_of_cell? w _ hx219_6)).trans hx219_6
        replace hx219_7 := (HB.out.cell (World.block_lt_of_cell? w _ hx219_7)).trans hx219_7
        replace hx219_8 := (HB.out.cell (World.block_lt_of_cell? w _ hx219_8)).trans hx219_8
        replace p219 := eq_true p219
        replace q219 := eq_true q219
        have p220 : 0 ≤ (x8_1 : Int) := of_decide_eq_true (by assumption)
        have q220 : x8_1 < (l0.length : Int) := of_decide_eq_true (by assumption)
        obtain ⟨ad220, e220, hx220_0, hx220_1, hx220_2, hx220_3, hx220_4, hx220_5, hx220_6, hx220_7, hx220_8⟩ := Q0 HR0.out x8_1 p220 q220
        have hw220_8 := hx220_8
        have hw220_7 := hx220_7
        have hw220_6 := hx220_6
        have hw220_5 := hx220_5
        have hw220_4 := hx220_4
        have hw220_3 := hx220_3
        have hw220_2 := hx220_2
        have hw220_1 := hx220_1
        have hw220_0 := hx220_0
        obtain rfl : ad219 = ad220 := (by injection e220)
        replace hx220_0 := (HB.out.cell (World.block_lt_of_cell? w _ hx220_0)).trans hx220_0
        replace hx220_1 := (HB.out.cell (World.block_lt_of_cell? w _ hx220_1)).trans hx220_1
        replace hx220_2 := (HB.out.cell (World.block_lt_of_cell? w _ hx220_2)).trans hx220_2
        replace hx220_3 := (HB.out.cell (World.block_lt_of_cell? w _ hx220_3)).trans hx220_3
        replace hx220_4 := (HB.out.cell (World.block_lt_of_cell? w _ hx220_4)).trans hx220_4
        replace hx220_5 := (HB.out.cell (World.block_lt_of_cell? w _ hx220_5)).trans hx220_5
        replace hx220_6 := (HB.out.cell (World.block_lt_of_cell? w _ hx220_6)).trans hx220_6
        replace hx220_7 := (HB.out.cell (World.block_lt_of_cell? w _ hx220_7)).trans hx220_7
        replace hx220_8 := (HB.out.cell (World.block_lt_of_cell? w _ hx220_8)).trans hx220_8
        replace p220 := eq_true p220
        replace q220 := eq_true q220
        refine start_ (n := 18) (S := fun w' => w'.cell? ⟨gb209, 0, none⟩ = some (.int .i64 a2_0) ∧ w'.cell? ⟨gb209, 1, none⟩ = some (.int .i64 a2_1) ∧ w'.cell? ⟨gb209, 2, none⟩ = some (.int .i64 a2_2) ∧ w'.cell? ⟨gb209, 3, none⟩ = some (.int .i64 a2_3) ∧ w'.cell? ⟨gb209, 4, none⟩ = some (.int .i64 a2_4) ∧ w'.cell? ⟨gb209, 5, none⟩ = some (.int .i64 a2_5) ∧ w'.cell? ⟨gb209, 6, none⟩ = some (.bool a2_6) ∧ w'.cell? (ad219.add ((x8_1).toNat * 9)) = some (.int .i64 ((Qc l0 x8_1).f0)) ∧ w'.cell? ⟨(ad219.add ((x8_1).toNat * 9)).block, (ad219.add ((x8_1).toNat * 9)).off + 1, none⟩ = some (.bool ((Qc l0 x8_1).f1)) ∧ w'.cell? ⟨(ad219.add ((x8_1).toNat * 9)).block, (ad219.add ((x8_1).toNat * 9)).off + 2, none⟩ = some (.int .i64 ((Qc l0 x8_1).f2.f0)) ∧ w'.cell? ⟨(ad219.add ((x8_1).toNat * 9)).block, (ad219.add ((x8_1).toNat * 9)).off + 3, none⟩ = some (.int .i64 ((Qc l0 x8_1).f2.f1)) ∧ w'.cell? ⟨(ad219.add ((x8_1).toNat * 9)).block, (ad219.add ((x8_1).toNat * 9)).off + 4, none⟩ = some (.int .i64 ((Qc l0 x8_1).f2.f2)) ∧ w'.cell? ⟨(ad219.add ((x8_1).toNat * 9)).block, (ad219.add ((x8_1).toNat * 9)).off + 5, none⟩ = some (.int .i64 ((Qc l0 x8_1).f2.f3)) ∧ w'.cell? ⟨(ad219.add ((x8_1).toNat * 9)).block, (ad219.add ((x8_1).toNat * 9)).off + 6, none⟩ = some (.int .i64 ((Qc l0 x8_1).f2.f4)) ∧ w'.cell? ⟨(ad219.add ((x8_1).toNat * 9)).block, (ad219.add ((x8_1).toNat * 9)).off + 7, none⟩ = some (.int .i64 ((Qc l0 x8_1).f2.f5)) ∧ w'.cell? ⟨(ad219.add ((x8_1).toNat * 9)).block, (ad219.add ((x8_1).toNat * 9)).off + 8, none⟩ = some (.bool ((Qc l0 x8_1).f2.f6)) ∧ w'.cell? (ad219.add ((x8_1).toNat * 9)) = some (.int .i64 ((Qc l0 x8_1).f0)) ∧ w'.cell? ⟨(ad219.add ((x8_1).toNat * 9)).block, (ad219.add ((x8_1).toNat * 9)).off + 1, none⟩ = some (.bool ((Qc l0 x8_1).f1)) ∧ w'.cell? ⟨(ad219.add ((x8_1).toNat * 9)).block, (ad219.add ((x8_1).toNat * 9)).off + 2, none⟩ = some (.int .i64 ((Qc l0 x8_1).f2.f0)) ∧ w'.cell? ⟨(ad219.add ((x8_1).toNat * 9)).block, (ad219.add ((x8_1).toNat * 9)).off + 3, none⟩ = some (.int .i64 ((Qc l0 x8_1).f2.f1)) ∧ w'.cell? ⟨(ad219.add ((x8_1).toNat * 9)).block, (ad219.add ((x8_1).toNat * 9)).off + 4, none⟩ = some (.int .i64 ((Qc l0 x8_1).f2.f2)) ∧ w'.cell? ⟨(ad219.add ((x8_1).toNat * 9)).block, (ad219.add ((x8_1).toNat * 9)).off + 5, none⟩ = some (.int .i64 ((Qc l0 x8_1).f2.f3)) ∧ w'.cell? ⟨(ad219.add ((x8_1).toNat * 9)).block, (ad219.add ((x8_1).toNat * 9)).off + 6, none⟩ = some (.int .i64 ((Qc l0 x8_1).f2.f4)) ∧ w'.cell? ⟨(ad219.add ((x8_1).toNat * 9)).block, (ad219.add ((x8_1).toNat * 9)).off + 7, none⟩ = some (.int .i64 ((Qc l0 x8_1).f2.f5)) ∧ w'.cell? ⟨(ad219.add ((x8_1).toNat * 9)).block, (ad219.add ((x8_1).toNat * 9)).off + 8, none⟩ = some (.bool ((Qc l0 x8_1).f2.f6))) (ds := []) #[false, false, false, false, false, false, false, false, false, false, false, false, false, false, false, false, false, false] (by kernel_rfl) rfl rfl ⟨(Qa BK209.out 0).trans rfl, (Qa BK209.out 1).trans rfl, (Qa BK209.out 2).trans rfl, (Qa BK209.out 3).trans rfl, (Qa BK209.out 4).trans rfl, (Qa BK209.out 5).trans rfl, (Qa BK209.out 6).trans rfl, ((HB.out.cell (World.block_lt_of_cell? w _ hw219_0)).trans hw219_0), ((HB.out.cell (World.block_lt_of_cell? w _ hw219_1)).trans hw219_1), ((HB.out.cell (World.block_lt_of_cell? w _ hw219_2)).trans hw219_2), ((HB.out.cell (World.block_lt_of_cell? w _ hw219_3)).trans hw219_3), ((HB.out.cell (World.block_lt_of_cell? w _ hw219_4)).trans hw219_4), ((HB.out.cell (World.block_lt_of_cell? w _ hw219_5)).trans hw219_5), ((HB.out.cell (World.block_lt_of_cell? w _ hw219_6)).trans hw219_6), ((HB.out.cell (World.block_lt_of_cell? w _ hw219_7)).trans hw219_7), ((HB.out.cell (World.block_lt_of_cell? w _ hw219_8)).trans hw219_8), ((HB.out.cell (World.block_lt_of_cell? w _ hw220_0)).trans hw220_0), ((HB.out.cell (World.block_lt_of_cell? w _ hw220_1)).trans hw220_1), ((HB.out.cell (World.block_lt_of_cell? w _ hw220_2)).trans hw220_2), ((HB.out.cell (World.block_lt_of_cell? w _ hw220_3)).trans hw220_3), ((HB.out.cell (World.block_lt_of_cell? w _ hw220_4)).trans hw220_4), ((HB.out.cell (World.block_lt_of_cell? w _ hw220_5)).trans hw220_5), ((HB.out.cell (World.block_lt_of_cell? w _ hw220_6)).trans hw220_6), ((HB.out.cell (World.block_lt_of_cell? w _ hw220_7)).trans hw220_7), ((HB.out.cell (World.block_lt_of_cell? w _ hw220_8)).trans hw220_8)⟩ (fun hHeld => ?_); refine with_tabW spec_l06Take.tab5 spec_l06Take.bits5 (fun HT_ HW_ => ?_)
        generalize wr.drew = w17 at HO_212000 HO_212001 BK209 BK210 BK211 HB hx219_0 hx219_1 hx219_2 hx219_3 hx219_4 hx219_5 hx219_6 hx219_7 hx219_8 hx220_0 hx220_1 hx220_2 hx220_3 hx220_4 hx220_5 hx220_6 hx220_7 hx220_8 hHeld ⊢
        refine Qy (i := 0) (N := some 16) (v := ?_) (a' := ?_) #[true, false, false, false, false, false, false, false, false, false, false, false, false, false, false, false, false, false] rfl rfl (Qv HT_.out (by kernel_rfl)) (fun _ _ _ h => h) (Or.inl ⟨by rfl, ?_⟩) ?_ ?_
        rotate_left
        ·intro w'
         go_simp
         with_reducible rfl
        rotate_left
        ·simp only [Act.put, List.setIfInBounds_toArray, List.set_cons_zero, List.set_cons_succ, Qr, Qs]
         rfl
        refine Qy (i := 1) (N := some 17) (v := ?_) (a' := ?_) #[true, true, false, false, false, false, false, false, false, false, false, false, false, false, false, false, false, false] rfl rfl (Qv HT_.out (by kernel_rfl)) (fun _ _ _ h => h) (Or.inl ⟨by rfl, ?_⟩) ?_ ?_
        rotate_left
        ·intro w'
         go_simp
         with_reducible rfl
        rotate_left
        ·simp only [Act.put, List.setIfInBounds_toArray, List.set_cons_zero, List.set_cons_succ, Qr, Qs]
         rfl
        refine Qy (i := 2) (N := some 18) (v := ?_) (a' := ?_) #[true, true, true, false, false, false, false, false, false, false, false, false, false, false, false, false, false, false] rfl rfl (Qv HT_.out (by kernel_rfl)) (fun _ _ _ h => h) (Or.inl ⟨by rfl, ?_⟩) ?_ ?_
        rotate_left
        ·intro w'
         go_simp
         with_reducible rfl
        rotate_left
        ·simp only [Act.put, List.setIfInBounds_toArray, List.set_cons_zero, List.set_cons_succ, Qr, Qs]
         rfl
        refine Qy (i := 3) (N := some 19) (v := ?_) (a' := ?_) #[true, true, true, true, false, false, false, false, false, false, false, false, false, false, false, false, false, false] rfl rfl (Qv HT_.out (by kernel_rfl)) (fun _ _ _ h => h) (Or.inl ⟨by rfl, ?_⟩) ?_ ?_
        rotate_left
        ·intro w'
         go_simp
         with_reducible rfl
        rotate_left
        ·simp only [Act.put, List.setIfInBounds_toArray, List.set_cons_zero, List.set_cons_succ, Qr, Qs]
         rfl
        refine Qy (i := 5) (N := some 21) (v := ?_) (a' := ?_) #[true, true, true, true, false, true, false, false, false, false, false, false, false, false, false, false, false, false] rfl rfl (Qv HT_.out (by kernel_rfl)) (fun _ _ _ h => h) (Or.inl ⟨by rfl, ?_⟩) ?_ ?_
        rotate_left
        ·intro w'
         go_simp
         with_reducible rfl
        rotate_left
        ·simp only [Act.put, List.setIfInBounds_toArray, List.set_cons_zero, List.set_cons_succ, Qr, Qs]
         rfl
        refine take_ (i := 4) (N := some 20) (v := ?_) (a' := ?_) #[true, true, true, true, true, true, false, false, false, false, false, false, false, false, false, false, false, false] rfl rfl (Q4 HT_.out HW_.out (by kernel_rfl)) (fun _ _ _ h => h) (Or.inl ⟨by rfl, ?_⟩) hHeld ?_ ?_
        rotate_left
        ·rintro w' ⟨s0, s1, s2, s3, s4, s5, s6, s7, s8, s9, s10, s11, s12, s13, s14, s15, s16, s17, s18, s19, s20, s21, s22, s23, s24⟩
         go_simp
         with_reducible rfl
        rotate_left
        ·simp only [Act.put, List.setIfInBounds_toArray, List.set_cons_zero, List.set_cons_succ, Qr, Qs]
         rfl
        refine Qy (i := 6) (N := some 22) (v := ?_) (a' := ?_) #[true, true, true, true, true, true, true, false, false, false, false, false, false, false, false, false, false, false] rfl rfl (Qv HT_.out (by kernel_rfl)) (fun _ _ _ h => h) (Or.inl ⟨by rfl, ?_⟩) ?_ ?_
        rotate_left
        ·intro w'
         go_simp
         with_reducible rfl
        rotate_left
        ·simp only [Act.put, List.setIfInBounds_toArray, List.set_cons_zero, List.set_cons_succ, Qr, Qs]
         rfl
        refine Qy (i := 7) (N := some 23) (v := ?_) (a' := ?_) #[true, true, true, true, true, true, true, true, false, false, false, false, false, false, false, false, false, false] rfl rfl (Qv HT_.out (by kernel_rfl)) (fun _ _ _ h => h) (Or.inl ⟨by rfl, ?_⟩) ?_ ?_
        rotate_left
        ·intro w'
         go_simp
         with_reducible rfl
        rotate_left
        ·simp only [Act.put, List.setIfInBounds_toArray, List.set_cons_zero, List.set_cons_succ, Qr, Qs]
         rfl
        refine Qy (i := 8) (N := some 24) (v := ?_) (a' := ?_) #[true, true, true, true, true, true, true, true, true, false, false, false, false, false, false, false, false, false] rfl rfl (Qv HT_.out (by kernel_rfl)) (fun _ _ _ h => h) (Or.inl ⟨by rfl, ?_⟩) ?_ ?_
        rotate_left
        ·intro w'
         go_simp
         with_reducible rfl
        rotate_left
        ·simp only [Act.put, List.setIfInBounds_toArray, List.set_cons_zero, List.set_cons_succ, Qr, Qs]
         rfl
        refine Qy (i := 9) (N := some 25) (v := ?_) (a' := ?_) #[true, true, true, true, true, true, true, true, true, true, false, false, false, false, false, false, false, false] rfl rfl (Qv HT_.out (by kernel_rfl)) (fun _ _ _ h => h) (Or.inl ⟨by rfl, ?_⟩) ?_ ?_
        rotate_left
        ·intro w'
         go_simp
         with_reducible rfl
        rotate_left
        ·simp only [Act.put, List.setIfInBounds_toArray, List.set_cons_zero, List.set_cons_succ, Qr, Qs]
         rfl
        refine Qy (i := 10) (N := some 26) (v := ?_) (a' := ?_) #[true, true, true, true, true, true, true, true, true, true, true, false, false, false, false, false, false, false] rfl rfl (Qv HT_.out (by kernel_rfl)) (fun _ _ _ h => h) (Or.inl ⟨by rfl, ?_⟩) ?_ ?_
        rotate_left
        ·intro w'
         go_simp
         with_reducible rfl
        rotate_left
        ·simp only [Act.put, List.setIfInBounds_toArray, List.set_cons_zero, List.set_cons_succ, Qr, Qs]
         rfl
        refine Qy (i := 11) (N := some 27) (v := ?_) (a' := ?_) #[true, true, true, true, true, true, true, true, true, true, true, true, false, false, false, false, false, false] rfl rfl (Qv HT_.out (by kernel_rfl)) (fun _ _ _ h => h) (Or.inl ⟨by rfl, ?_⟩) ?_ ?_
        rotate_left
        ·intro w'
         go_simp
         with_reducible rfl
        rotate_left
        ·simp only [Act.put, List.setIfInBounds_toArray, List.set_cons_zero, List.set_cons_succ, Qr, Qs]
         rfl
        refine take_ (i := 12) (N := some 28) (v := ?_) (a' := ?_) #[true, true, true, true, true, true, true, true, true, true, true, true, true, false, false, false, false, false] rfl rfl (Q4 HT_.out HW_.out (by kernel_rfl)) (fun _ _ _ h => h) (Or.inl ⟨by rfl, ?_⟩) hHeld ?_ ?_
        rotate_left
        ·rintro w' ⟨s0, s1, s2, s3, s4, s5, s6, s7, s8, s9, s10, s11, s12, s13, s14, s15, s16, s17, s18, s19, s20, s21, s22, s23, s24⟩
         go_simp
         with_reducible rfl
        rotate_left
        ·simp only [Act.put, List.setIfInBounds_toArray, List.set_cons_zero, List.set_cons_succ, Qr, Qs]
         rfl
        refine take_ (i := 14) (N := some 30) (v := ?_) (a' := ?_) #[true, true, true, true, true, true, true, true, true, true, true, true, true, false, true, false, false, false] rfl rfl (Q4 HT_.out HW_.out (by kernel_rfl)) (fun _ _ _ h => h) (Or.inl ⟨by rfl, ?_⟩) hHeld ?_ ?_
        rotate_left
        ·rintro w' ⟨s0, s1, s2, s3, s4, s5, s6, s7, s8, s9, s10, s11, s12, s13, s14, s15, s16, s17, s18, s19, s20, s21, s22, s23, s24⟩
         go_simp
         with_reducible rfl
        rotate_left
        ·simp only [Act.put, List.setIfInBounds_toArray, List.set_cons_zero, List.set_cons_succ, Qr, Qs]
         rfl
        refine one_ (i := 13) (N := some 29) #[true, true, true, true, true, true, true, true, true, true, true, true, true, true, true, false, false, false] rfl rfl (Q6 HT_.out (by kernel_rfl)) (by decide) (fun K hK => ?_)
        refine goes_ Try.func110 (by kernel_rfl) rfl #[.agg #[.int .i64 ((Qc l0 x8_1).f2.f0), .int .i64 ((Qc l0 x8_1).f2.f1), .int .i64 ((Qc l0 x8_1).f2.f2), .int .i64 ((Qc l0 x8_1).f2.f3), .int .i64 ((Qc l0 x8_1).f2.f4), .int .i64 ((Qc l0 x8_1).f2.f5), .bool ((Qc l0 x8_1).f2.f6)]] (by rfl) rfl rfl (by (try simp only [List.map_toArray, List.map_cons, List.map_nil]); first | done | rfl | (simp only [List.length_drop, List.length_take]; rfl)) ?_
        with_reducible refine (spec_KeyOf.calls ((Qc l0 x8_1).f2.f0) ((Qc l0 x8_1).f2.f1) ((Qc l0 x8_1).f2.f2) ((Qc l0 x8_1).f2.f3) ((Qc l0 x8_1).f2.f4) ((Qc l0 x8_1).f2.f5) ((Qc l0 x8_1).f2.f6) t221 t222 t223 t224 t225 t226 t227 _ A13.out).mono ?_
        rintro e w18 ⟨rfl, hb⟩
        refine ⟨_, rfl, ?_⟩
        have n0_ := Aside0.mk (Kd.R_below (by (with_reducible repeat (first | apply Kd.R_alloc | apply Kd.R_drewN | apply Kd.R_drew)); exact HO_212000.out) hb)
        have n1_ := Aside0.mk (Kd.R_below (by (with_reducible repeat (first | apply Kd.R_alloc | apply Kd.R_drewN | apply Kd.R_drew)); exact HO_212001.out) hb)
        have n2_ := Aside0.mk (Qm (g := gb209) (o := .cells #[.int .i64 a2_0, .int .i64 a2_1, .int .i64 a2_2, .int .i64 a2_3, .int .i64 a2_4, .int .i64 a2_5, .bool a2_6] 42 (0, 0)) (by (with_reducible repeat (first | refine Qi ?_ _ | refine Qj ?_ | refine Qh ?_ _)); exact BK209.out) hb)
        have n3_ := Aside0.mk (Qm (g := gb210) (o := .cells #[.slice none 0 0, .slice none 0 0, .int .i64 0] 34 (0, 0)) (by (with_reducible repeat (first | refine Qi ?_ _ | refine Qj ?_ | refine Qh ?_ _)); exact BK210.out) hb)
        have n4_ := Aside0.mk (Qm (g := gb211) (o := .cells #[u212000, u212001, .int .i64 x212002_1] 34 (0, 0)) (by (with_reducible repeat (first | refine Qi ?_ _ | refine Qj ?_ | refine Qh ?_ _)); exact BK211.out) hb)
        have n5_ := Aside0.mk (Qn (by repeat (first | (with_reducible first | exact HB.out | apply Qg | apply Qb | apply Qf | refine Qe ?_ GE209.out | refine Qe ?_ GE210.out | refine Qe ?_ GE211.out) | exact HB.out)) hb)
        clear HO_212000
        clear HO_212001
        clear BK209
        clear BK210
        clear BK211
        clear HB
        have HO_212000 := n0_
        have HO_212001 := n1_
        have BK209 := n2_
        have BK210 := n3_
        have BK211 := n4_
        have HB := n5_
        clear n0_ n1_ n2_ n3_ n4_ n5_
        (try clear hb)
        (try clear hb2)
        (try clear hk)
        (try clear hi)
        refine hK.out _ _ ⟨(Qa BK209.out 0).trans rfl, (Qa BK209.out 1).trans rfl, (Qa BK209.out 2).trans rfl, (Qa BK209.out 3).trans rfl, (Qa BK209.out 4).trans rfl, (Qa BK209.out 5).trans rfl, (Qa BK209.out 6).trans rfl, ((HB.out.cell (World.block_lt_of_cell? w _ hw219_0)).trans hw219_0), ((HB.out.cell (World.block_lt_of_cell? w _ hw219_1)).trans hw219_1), ((HB.out.cell (World.block_lt_of_cell? w _ hw219_2)).trans hw219_2), ((HB.out.cell (World.block_lt_of_cell? w _ hw219_3)).trans hw219_3), ((HB.out.cell (World.block_lt_of_cell? w _ hw219_4)).trans hw219_4), ((HB.out.cell (World.block_lt_of_cell? w _ hw219_5)).trans hw219_5), ((HB.out.cell (World.block_lt_of_cell? w _ hw219_6)).trans hw219_6), ((HB.out.cell (World.block_lt_of_cell? w _ hw219_7)).trans hw219_7), ((HB.out.cell (World.block_lt_of_cell? w _ hw219_8)).trans hw219_8), ((HB.out.cell (World.block_lt_of_cell? w _ hw220_0)).trans hw220_0), ((HB.out.cell (World.block_lt_of_cell? w _ hw220_1)).trans hw220_1), ((HB.out.cell (World.block_lt_of_cell? w _ hw220_2)).trans hw220_2), ((HB.out.cell (World.block_lt_of_cell? w _ hw220_3)).trans hw220_3), ((HB.out.cell (World.block_lt_of_cell? w _ hw220_4)).trans hw220_4), ((HB.out.cell (World.block_lt_of_cell? w _ hw220_5)).trans hw220_5), ((HB.out.cell (World.block_lt_of_cell? w _ hw220_6)).trans hw220_6), ((HB.out.cell (World.block_lt_of_cell? w _ hw220_7)).trans hw220_7), ((HB.out.cell (World.block_lt_of_cell? w _ hw220_8)).trans hw220_8)⟩ (fun hHeld => ?_)
        clear hK K
        refine Q5 (a' := ?_) ?_ ?_
        rotate_left
        ·show Act.put _ (some 29) _ = _
         simp only [Act.put, List.setIfInBounds_toArray, List.set_cons_zero, List.set_cons_succ, Qr, Qs]
         rfl
        refine one_ (i := 15) (N := some 31) #[true, true, true, true, true, true, true, true, true, true, true, true, true, true, true, true, false, false] rfl rfl (Q6 HT_.out (by kernel_rfl)) (by decide) (fun K hK => ?_)
        refine goes_ Try.func110 (by kernel_rfl) rfl #[.agg #[.int .i64 a2_0, .int .i64 a2_1, .int .i64 a2_2, .int .i64 a2_3, .int .i64 a2_4, .int .i64 a2_5, .bool a2_6]] (by rfl) rfl rfl (by (try simp only [List.map_toArray, List.map_cons, List.map_nil]); first | done | rfl | (simp only [List.length_drop, List.length_take]; rfl)) ?_
        with_reducible refine (spec_KeyOf.calls a2_0 a2_1 a2_2 a2_3 a2_4 a2_5 a2_6 t228 t229 t230 t231 t232 t233 t234 _ A14.out).mono ?_
        rintro e w19 ⟨rfl, hb⟩
        refine ⟨_, rfl, ?_⟩
        have n0_ := Aside0.mk (Kd.R_below (by (with_reducible repeat (first | apply Kd.R_alloc | apply Kd.R_drewN | apply Kd.R_drew)); exact HO_212000.out) hb)
        have n1_ := Aside0.mk (Kd.R_below (by (with_reducible repeat (first | apply Kd.R_alloc | apply Kd.R_drewN | apply Kd.R_drew)); exact HO_212001.out) hb)
        have n2_ := Aside0.mk (Qm (g := gb209) (o := .cells #[.int .i64 a2_0, .int .i64 a2_1, .int .i64 a2_2, .int .i64 a2_3, .int .i64 a2_4, .int .i64 a2_5, .bool a2_6] 42 (0, 0)) (by (with_reducible repeat (first | refine Qi ?_ _ | refine Qj ?_ | refine Qh ?_ _)); exact BK209.out) hb)
        have n3_ := Aside0.mk (Qm (g := gb210) (o := .cells #[.slice none 0 0, .slice none 0 0, .int .i64 0] 34 (0, 0)) (by (with_reducible repeat (first | refine Qi ?_ _ | refine Qj ?_ | refine Qh ?_ _)); exact BK210.out) hb)
        have n4_ := Aside0.mk (Qm (g := gb211) (o := .cells #[u212000, u212001, .int .i64 x212002_1] 34 (0, 0)) (by (with_reducible repeat (first | refine Qi ?_ _ | refine Qj ?_ | refine Qh ?_ _)); exact BK211.out) hb)
        have n5_ := Aside0.mk (Qn (by repeat (first | (with_reducible first | exact HB.out | apply Qg | apply Qb | apply Qf | refine Qe ?_ GE209.out | refine Qe ?_ GE210.out | refine Qe ?_ GE211.out) | exact HB.out)) hb)
        clear HO_212000
        clear HO_212001
        clear BK209
        clear BK210
        clear BK211
        clear HB
        have HO_212000 := n0_
        have HO_212001 := n1_
        have BK209 := n2_
        have BK210 := n3_
        have BK211 := n4_
        have HB := n5_
        clear n0_ n1_ n2_ n3_ n4_ n5_
        (try clear hb)
        (try clear hb2)
        (try clear hk)
        (try clear hi)
        refine hK.out _ _ ⟨(Qa BK209.out 0).trans rfl, (Qa BK209.out 1).trans rfl, (Qa BK209.out 2).trans rfl, (Qa BK209.out 3).trans rfl, (Qa BK209.out 4).trans rfl, (Qa BK209.out 5).trans rfl, (Qa BK209.out 6).trans rfl, ((HB.out.cell (World.block_lt_of_cell? w _ hw219_0)).trans hw219_0), ((HB.out.cell (World.block_lt_of_cell? w _ hw219_1)).trans hw219_1), ((HB.out.cell (World.block_lt_of_cell? w _ hw219_2)).trans hw219_2), ((HB.out.cell (World.block_lt_of_cell? w _ hw219_3)).trans hw219_3), ((HB.out.cell (World.block_lt_of_cell? w _ hw219_4)).trans hw219_4), ((HB.out.cell (World.block_lt_of_cell? w _ hw219_5)).trans hw219_5), ((HB.out.cell (World.block_lt_of_cell? w _ hw219_6)).trans hw219_6), ((HB.out.cell (World.block_lt_of_cell? w _ hw219_7)).trans hw219_7), ((HB.out.cell (World.block_lt_of_cell? w _ hw219_8)).trans hw219_8), ((HB.out.cell (World.block_lt_of_cell? w _ hw220_0)).trans hw220_0), ((HB.out.cell (World.block_lt_of_cell? w _ hw220_1)).trans hw220_1), ((HB.out.cell (World.block_lt_of_cell? w _ hw220_2)).trans hw220_2), ((HB.out.cell (World.block_lt_of_cell? w _ hw220_3)).trans hw220_3), ((HB.out.cell (World.block_lt_of_cell? w _ hw220_4)).trans hw220_4), ((HB.out.cell (World.block_lt_of_cell? w _ hw220_5)).trans hw220_5), ((HB.out.cell (World.block_lt_of_cell? w _ hw220_6)).trans hw220_6), ((HB.out.cell (World.block_lt_of_cell? w _ hw220_7)).trans hw220_7), ((HB.out.cell (World.block_lt_of_cell? w _ hw220_8)).trans hw220_8)⟩ (fun hHeld => ?_)
        clear hK K
        refine Q5 (a' := ?_) ?_ ?_
        rotate_left
        ·show Act.put _ (some 31) _ = _
         simp only [Act.put, List.setIfInBounds_toArray, List.set_cons_zero, List.set_cons_succ, Qr, Qs]
         rfl
        refine Qy (i := 16) (N := some 32) (v := ?_) (a' := ?_) #[true, true, true, true, true, true, true, true, true, true, true, true, true, true, true, true, true, false] rfl rfl (Qv HT_.out (by kernel_rfl)) (fun _ _ _ h => h) (Or.inl ⟨by rfl, ?_⟩) ?_ ?_
        rotate_left
        ·intro w'
         go_simp
         with_reducible rfl
        rotate_left
        ·simp only [Act.put, List.setIfInBounds_toArray, List.set_cons_zero, List.set_cons_succ, Qr, Qs]
         rfl
        refine Qy (i := 17) (N := some 33) (v := ?_) (a' := ?_) #[true, true, true, true, true, true, true, true, true, true, true, true, true, true, true, true, true, true] rfl rfl (Qv HT_.out (by kernel_rfl)) (fun _ _ _ h => h) (Or.inl ⟨by rfl, ?_⟩) ?_ ?_
        rotate_left
        ·intro w'
         go_simp
         with_reducible rfl
        rotate_left
        ·simp only [Act.put, List.setIfInBounds_toArray, List.set_cons_zero, List.set_cons_succ, Qr, Qs]
         rfl
        refine done_ (done_of HT_.out (by kernel_rfl)) ?_
        try go_wp2
        have n0_ := Aside0.mk (Kd.R_drew HO_212000.out)
        have n1_ := Aside0.mk (Kd.R_drew HO_212001.out)
        have n2_ := Aside0.mk (Qj BK209.out)
        have n3_ := Aside0.mk (Qj BK210.out)
        have n4_ := Aside0.mk (Qj BK211.out)
        have n5_ := Aside0.mk (Qf HB.out)
        clear HO_212000
        clear HO_212001
        clear BK209
        clear BK210
        clear BK211
        clear HB
        have HO_212000 := n0_
        have HO_212001 := n1_
        have BK209 := n2_
        have BK210 := n3_
        have BK211 := n4_
        have HB := n5_
        clear n0_ n1_ n2_ n3_ n4_ n5_
        have p235 : 0 ≤ (x8_1 : Int) := of_decide_eq_true (by assumption)
        have q235 : x8_1 < (l0.length : Int) := of_decide_eq_true (by assumption)
        obtain ⟨ad235, e235, hx235_0, hx235_1, hx235_2, hx235_3, hx235_4, hx235_5, hx235_6, hx235_7, hx235_8⟩ := Q0 HR0.out x8_1 p235 q235
        have hw235_8 := hx235_8
        have hw235_7 := hx235_7
        have hw235_6 := hx235_6
        have hw235_5 := hx235_5
        have hw235_4 := hx235_4
        have hw235_3 := hx235_3
        have hw235_2 := hx235_2
        have hw235_1 := hx235_1
        have hw235_0 := hx235_0
        obtain rfl : ad219 = ad235 := (by injection e235)
        replace hx235_0 := (HB.out.cell (World.block_lt_of_cell? w _ hx235_0)).trans hx235_0
        replace hx235_1 := (HB.out.cell (World.block_lt_of_cell? w _ hx235_1)).trans hx235_1
        replace hx235_2 := (HB.out.cell (World.block_lt_of_cell? w _ hx235_2)).trans hx235_2
        replace hx235_3 := (HB.out.cell (World.block_lt_of_cell? w _ hx235_3)).trans hx235_3
        replace hx235_4 := (HB.out.cell (World.block_lt_of_cell? w _ hx235_4)).trans hx235_4
        replace hx235_5 := (HB.out.cell (World.block_lt_of_cell? w _ hx235_5)).trans hx235_5
        replace hx235_6 := (HB.out.cell (World.block_lt_of_cell? w _ hx235_6)).trans hx235_6
        replace hx235_7 := (HB.out.cell (World.block_lt_of_cell? w _ hx235_7)).trans hx235_7
        replace hx235_8 := (HB.out.cell (World.block_lt_of_cell? w _ hx235_8)).trans hx235_8
        replace p235 := eq_true p235
        replace q235 := eq_true q235
        refine start_ (n := 11) (S := fun w' => w'.cell? ⟨gb211, 0, none⟩ = some (u212000) ∧ w'.cell? ⟨gb211, 1, none⟩ = some (u212001) ∧ w'.cell? ⟨gb211, 2, none⟩ = some (.int .i64 x212002_1) ∧ w'.cell? (ad219.add ((x8_1).toNat * 9)) = some (.int .i64 ((Qc l0 x8_1).f0)) ∧ w'.cell? ⟨(ad219.add ((x8_1).toNat * 9)).block, (ad219.add ((x8_1).toNat * 9)).off + 1, none⟩ = some (.bool ((Qc l0 x8_1).f1)) ∧ w'.cell? ⟨(ad219.add ((x8_1).toNat * 9)).block, (ad219.add ((x8_1).toNat * 9)).off + 2, none⟩ = some (.int .i64 ((Qc l0 x8_1).f2.f0)) ∧ w'.cell? ⟨(ad219.add ((x8_1).toNat * 9)).block, (ad219.add ((x8_1).toNat * 9)).off + 3, none⟩ = some (.int .i64 ((Qc l0 x8_1).f2.f1)) ∧ w'.cell? ⟨(ad219.add ((x8_1).toNat * 9)).block, (ad219.add ((x8_1).toNat * 9)).off + 4, none⟩ = some (.int .i64 ((Qc l0 x8_1).f2.f2)) ∧ w'.cell? ⟨(ad219.add ((x8_1).toNat * 9)).block, (ad219.add ((x8_1).toNat * 9)).off + 5, none⟩ = some (.int .i64 ((Qc l0 x8_1).f2.f3)) ∧ w'.cell? ⟨(ad219.add ((x8_1).toNat * 9)).block, (ad219.add ((x8_1).toNat * 9)).off + 6, none⟩ = some (.int .i64 ((Qc l0 x8_1).f2.f4)) ∧ w'.cell? ⟨(ad219.add ((x8_1).toNat * 9)).block, (ad219.add ((x8_1).toNat * 9)).off + 7, none⟩ = some (.int .i64 ((Qc l0 x8_1).f2.f5)) ∧ w'.cell? ⟨(ad219.add ((x8_1).toNat * 9)).block, (ad219.add ((x8_1).toNat * 9)).off + 8, none⟩ = some (.bool ((Qc l0 x8_1).f2.f6))) (ds := [10]) #[false, false, false, false, false, false, false, false, false, false, false] (by kernel_rfl) rfl rfl ⟨(Qa BK211.out 0).trans rfl, (Qa BK211.out 1).trans rfl, (Qa BK211.out 2).trans rfl, ((HB.out.cell (World.block_lt_of_cell? w _ hw235_0)).trans hw235_0), ((HB.out.cell (World.block_lt_of_cell? w _ hw235_1)).trans hw235_1), ((HB.out.cell (World.block_lt_of_cell? w _ hw235_2)).trans hw235_2), ((HB.out.cell (World.block_lt_of_cell? w _ hw235_3)).trans hw235_3), ((HB.out.cell (World.block_lt_of_cell? w _ hw235_4)).trans hw235_4), ((HB.out.cell (World.block_lt_of_cell? w _ hw235_5)).trans hw235_5), ((HB.out.cell (World.block_lt_of_cell? w _ hw235_6)).trans hw235_6), ((HB.out.cell (World.block_lt_of_cell? w _ hw235_7)).trans hw235_7), ((HB.out.cell (World.block_lt_of_cell? w _ hw235_8)).trans hw235_8)⟩ (fun hHeld => ?_); refine with_tabW spec_l06Take.tab6 spec_l06Take.bits6 (fun HT_ HW_ => ?_)
        generalize w19.drew = w20 at HO_212000 HO_212001 BK209 BK210 BK211 HB hx235_0 hx235_1 hx235_2 hx235_3 hx235_4 hx235_5 hx235_6 hx235_7 hx235_8 hHeld ⊢
        refine Qy (i := 0) (N := some 34) (v := ?_) (a' := ?_) #[true, false, false, false, false, false, false, false, false, false, false] rfl rfl (Qv HT_.out (by kernel_rfl)) (fun _ _ _ h => h) (Or.inl ⟨by rfl, ?_⟩) ?_ ?_
        rotate_left
        ·intro w'
         go_simp
         with_reducible rfl
        rotate_left
        ·simp only [Act.put, List.setIfInBounds_toArray, List.set_cons_zero, List.set_cons_succ, Qr, Qs]
         rfl
        refine Qy (i := 2) (N := some 36) (v := ?_) (a' := ?_) #[true, false, true, false, false, false, false, false, false, false, false] rfl rfl (Qv HT_.out (by kernel_rfl)) (fun _ _ _ h => h) (Or.inl ⟨by rfl, ?_⟩) ?_ ?_
        rotate_left
        ·intro w'
         go_simp
         with_reducible rfl
        rotate_left
        ·simp only [Act.put, List.setIfInBounds_toArray, List.set_cons_zero, List.set_cons_succ, Qr, Qs]
         rfl
        refine Qy (i := 3) (N := some 37) (v := ?_) (a' := ?_) #[true, false, true, true, false, false, false, false, false, false, false] rfl rfl (Qv HT_.out (by kernel_rfl)) (fun _ _ _ h => h) (Or.inl ⟨by rfl, ?_⟩) ?_ ?_
        rotate_left
        ·intro w'
         go_simp
         with_reducible rfl
        rotate_left
        ·simp only [Act.put, List.setIfInBounds_toArray, List.set_cons_zero, List.set_cons_succ, Qr, Qs]
         rfl
        refine Qy (i := 4) (N := some 38) (v := ?_) (a' := ?_) #[true, false, true, true, true, false, false, false, false, false, false] rfl rfl (Qv HT_.out (by kernel_rfl)) (fun _ _ _ h => h) (Or.inl ⟨by rfl, ?_⟩) ?_ ?_
        rotate_left
        ·intro w'
         go_simp
         with_reducible rfl
        rotate_left
        ·simp only [Act.put, List.setIfInBounds_toArray, List.set_cons_zero, List.set_cons_succ, Qr, Qs]
         rfl
        refine Qy (i := 5) (N := some 39) (v := ?_) (a' := ?_) #[true, false, true, true, true, true, false, false, false, false, false] rfl rfl (Qv HT_.out (by kernel_rfl)) (fun _ _ _ h => h) (Or.inl ⟨by rfl, ?_⟩) ?_ ?_
        rotate_left
        ·intro w'
         go_simp
         with_reducible rfl
        rotate_left
        ·simp only [Act.put, List.setIfInBounds_toArray, List.set_cons_zero, List.set_cons_succ, Qr, Qs]
         rfl
        refine take_ (i := 1) (N := some 35) (v := ?_) (a' := ?_) #[true, true, true, true, true, true, false, false, false, false, false] rfl rfl (Q4 HT_.out HW_.out (by kernel_rfl)) (fun _ _ _ h => h) (Or.inl ⟨by rfl, ?_⟩) hHeld ?_ ?_
        rotate_left
        ·rintro w' ⟨s0, s1, s2, s3, s4, s5, s6, s7, s8, s9, s10, s11⟩
         go_simp
         with_reducible rfl
        rotate_left
        ·simp only [Act.put, List.setIfInBounds_toArray, List.set_cons_zero, List.set_cons_succ, Qr, Qs]
         rfl
        refine take_ (i := 6) (N := some 40) (v := ?_) (a' := ?_) #[true, true, true, true, true, true, true, false, false, false, false] rfl rfl (Q4 HT_.out HW_.out (by kernel_rfl)) (fun _ _ _ h => h) (Or.inl ⟨by rfl, ?_⟩) hHeld ?_ ?_
        rotate_left
        ·rintro w' ⟨s0, s1, s2, s3, s4, s5, s6, s7, s8, s9, s10, s11⟩
         go_simp
         with_reducible rfl
        rotate_left
        ·simp only [Act.put, List.setIfInBounds_toArray, List.set_cons_zero, List.set_cons_succ, Qr, Qs]
         rfl
        refine one_ (i := 7) (N := some 41) #[true, true, true, true, true, true, true, true, false, false, false] rfl rfl (Q6 HT_.out (by kernel_rfl)) (by decide) (fun K hK => ?_)
        refine value_ (w1 := ?_) (v := ?_) (by rfl) rfl ?_ ?_
        rotate_left 2
        ·go_simp
         constructor
         ·rfl
         ·rfl
        refine hK.out _ _ ⟨(Qa (Qh BK211.out _) 0).trans rfl, (Qa (Qh BK211.out _) 1).trans rfl, (Qa (Qh BK211.out _) 2).trans rfl, (World.cell?_alloc_lt _ _ _ (World.block_lt_of_cell? _ _ (((HB.out.cell (World.block_lt_of_cell? w _ hw235_0)).trans hw235_0)))).trans (((HB.out.cell (World.block_lt_of_cell? w _ hw235_0)).trans hw235_0)), (World.cell?_alloc_lt _ _ _ (World.block_lt_of_cell? _ _ (((HB.out.cell (World.block_lt_of_cell? w _ hw235_1)).trans hw235_1)))).trans (((HB.out.cell (World.block_lt_of_cell? w _ hw235_1)).trans hw235_1)), (World.cell?_alloc_lt _ _ _ (World.block_lt_of_cell? _ _ (((HB.out.cell (World.block_lt_of_cell? w _ hw235_2)).trans hw235_2)))).trans (((HB.out.cell (World.block_lt_of_cell? w _ hw235_2)).trans hw235_2)), (World.cell?_alloc_lt _ _ _ (World.block_lt_of_cell? _ _ (((HB.out.cell (World.block_lt_of_cell? w _ hw235_3)).trans hw235_3)))).trans (((HB.out.cell (World.block_lt_of_cell? w _ hw235_3)).trans hw235_3)), (World.cell?_alloc_lt _ _ _ (World.block_lt_of_cell? _ _ (((HB.out.cell (World.block_lt_of_cell? w _ hw235_4)).trans hw235_4)))).trans (((HB.out.cell (World.block_lt_of_cell? w _ hw235_4)).trans hw235_4)), (World.cell?_alloc_lt _ _ _ (World.block_lt_of_cell? _ _ (((HB.out.cell (World.block_lt_of_cell? w _ hw235_5)).trans hw235_5)))).trans (((HB.out.cell (World.block_lt_of_cell? w _ hw235_5)).trans hw235_5)), (World.cell?_alloc_lt _ _ _ (World.block_lt_of_cell? _ _ (((HB.out.cell (World.block_lt_of_cell? w _ hw235_6)).trans hw235_6)))).trans (((HB.out.cell (World.block_lt_of_cell? w _ hw235_6)).trans hw235_6)), (World.cell?_alloc_lt _ _ _ (World.block_lt_of_cell? _ _ (((HB.out.cell (World.block_lt_of_cell? w _ hw235_7)).trans hw235_7)))).trans (((HB.out.cell (World.block_lt_of_cell? w _ hw235_7)).trans hw235_7)), (World.cell?_alloc_lt _ _ _ (World.block_lt_of_cell? _ _ (((HB.out.cell (World.block_lt_of_cell? w _ hw235_8)).trans hw235_8)))).trans (((HB.out.cell (World.block_lt_of_cell? w _ hw235_8)).trans hw235_8))⟩ (fun hHeld => ?_)
        clear hK K
        refine Q5 (a' := ?_) ?_ ?_
        rotate_left
        ·show Act.put _ (some 41) _ = _
         simp only [Act.put, List.setIfInBounds_toArray, List.set_cons_zero, List.set_cons_succ, Qr, Qs]
         rfl
        refine one_ (i := 8) (N := some 42) #[true, true, true, true, true, true, true, true, true, false, false] rfl rfl (Q6 HT_.out (by kernel_rfl)) (by decide) (fun K hK => ?_)
        refine Kd.R_append_step k42 (w0 := w) w.heap.size (by rfl) (.tmp 35) (.tmp 41) 24 42 (.agg #[(.int .i64 0), (.int .i64 0), (.int .i64 0), (.int .i64 0), (.int .i64 0), (.int .i64 0), (.bool false)]) 56 rfl Try.underlying24 info42 rfl (by decide) (by omega) u212001 x212001_1 (⟨(Qc l0 x8_1).f2.f0, (Qc l0 x8_1).f2.f1, (Qc l0 x8_1).f2.f2, (Qc l0 x8_1).f2.f3, (Qc l0 x8_1).f2.f4, (Qc l0 x8_1).f2.f5, (Qc l0 x8_1).f2.f6⟩ : S42) [.int .i64 ((Qc l0 x8_1).f2.f0), .int .i64 ((Qc l0 x8_1).f2.f1), .int .i64 ((Qc l0 x8_1).f2.f2), .int .i64 ((Qc l0 x8_1).f2.f3), .int .i64 ((Qc l0 x8_1).f2.f4), .int .i64 ((Qc l0 x8_1).f2.f5), .bool ((Qc l0 x8_1).f2.f6)] (fun k_ => k_ ≠ gb209) (fun _ => False) rfl rfl ?aP (fun _ hk => hk.elim) ?aF ?aO ?aB ?aS ?aL ?_
        (case aP => exact k42_mkM _ _ _ (⟨(Qc l0 x8_1).f2.f0, (Qc l0 x8_1).f2.f1, (Qc l0 x8_1).f2.f2, (Qc l0 x8_1).f2.f3, (Qc l0 x8_1).f2.f4, (Qc l0 x8_1).f2.f5, (Qc l0 x8_1).f2.f6⟩ : S42))
        (case aB => exact (by repeat (first | (with_reducible first | exact HB.out | apply Qg | apply Qb | apply Qf | refine Qe ?_ GE209.out | refine Qe ?_ GE210.out | refine Qe ?_ GE211.out) | exact HB.out)))
        (case aF => exact (fun k_ hk => Kd.freshB (g := gb209) (o := .cells #[.int .i64 a2_0, .int .i64 a2_1, .int .i64 a2_2, .int .i64 a2_3, .int .i64 a2_4, .int .i64 a2_5, .bool a2_6] 42 (0, 0)) (by (with_reducible repeat (first | refine Qi ?_ _ | refine Qj ?_ | refine Qh ?_ _)); exact BK209.out) k_ hk))
        (case aO => exact (by (with_reducible repeat (first | apply Kd.R_alloc | apply Kd.R_drewN | apply Kd.R_drew)); exact HO_212001.out))
        (case aS => exact (Ql (by repeat (first | (with_reducible first | exact HB.out | apply Qg | apply Qb | apply Qf | refine Qe ?_ GE209.out | refine Qe ?_ GE210.out | refine Qe ?_ GE211.out) | exact HB.out))))
        (case aL => have := LMc16.out; omega)
        intro v237 w21 ho hb hg hat
        rw [← Ny236.out] at ho
        have n0_ := Aside0.mk (Kd.R_over' (by (with_reducible repeat (first | apply Kd.R_alloc | apply Kd.R_drewN | apply Kd.R_drew)); exact HO_212000.out) (Kd.R_typed (by (with_reducible repeat (first | apply Kd.R_alloc | apply Kd.R_drewN | apply Kd.R_drew)); exact HO_212001.out)) (by decide) hg)
        have n1_ := Aside0.mk (blk_grown (g := gb209) (o := .cells #[.int .i64 a2_0, .int .i64 a2_1, .int .i64 a2_2, .int .i64 a2_3, .int .i64 a2_4, .int .i64 a2_5, .bool a2_6] 42 (0, 0)) (by (with_reducible repeat (first | refine Qi ?_ _ | refine Qj ?_ | refine Qh ?_ _)); exact BK209.out) hg (Kd.R_away HO_212001.out (fun _ hk => hk)))
        have n2_ := Aside0.mk (blk_grown (g := gb210) (o := .cells #[.slice none 0 0, .slice none 0 0, .int .i64 0] 34 (0, 0)) (by (with_reducible repeat (first | refine Qi ?_ _ | refine Qj ?_ | refine Qh ?_ _)); exact BK210.out) hg (Kd.R_ne HO_212001.out BK210.out (by decide)))
        have n3_ := Aside0.mk (blk_grown (g := gb211) (o := .cells #[u212000, u212001, .int .i64 x212002_1] 34 (0, 0)) (by (with_reducible repeat (first | refine Qi ?_ _ | refine Qj ?_ | refine Qh ?_ _)); exact BK211.out) hg (Kd.R_ne HO_212001.out BK211.out (by decide)))
        have n4_ := Aside0.mk (hb)
        have n5_ := Aside0.mk (ho)
        clear HO_212000
        clear BK209
        clear BK210
        clear BK211
        clear HB
        clear HO_212001
        have HO_212000 := n0_
        have BK209 := n1_
        have BK210 := n2_
        have BK211 := n3_
        have HB := n4_
        have HO238 := n5_
        clear n0_ n1_ n2_ n3_ n4_ n5_
        clear ho hb hg hat
        obtain ⟨Ao22, co22, eo22⟩ := Kd.R_slice HO238.out
        (first | subst eo22 | (injection eo22 with f1_ f2_ f3_; have f4_ := f1_.symm; have f5_ := f3_.symm; clear f1_ f2_ f3_; subst f4_; subst f5_))
        refine hK.out _ _ ⟨(Qa BK211.out 0).trans rfl, (Qa BK211.out 1).trans rfl, (Qa BK211.out 2).trans rfl, ((HB.out.cell (World.block_lt_of_cell? w _ hw235_0)).trans hw235_0), ((HB.out.cell (World.block_lt_of_cell? w _ hw235_1)).trans hw235_1), ((HB.out.cell (World.block_lt_of_cell? w _ hw235_2)).trans hw235_2), ((HB.out.cell (World.block_lt_of_cell? w _ hw235_3)).trans hw235_3), ((HB.out.cell (World.block_lt_of_cell? w _ hw235_4)).trans hw235_4), ((HB.out.cell (World.block_lt_of_cell? w _ hw235_5)).trans hw235_5), ((HB.out.cell (World.block_lt_of_cell? w _ hw235_6)).trans hw235_6), ((HB.out.cell (World.block_lt_of_cell? w _ hw235_7)).trans hw235_7), ((HB.out.cell (World.block_lt_of_cell? w _ hw235_8)).trans hw235_8)⟩ (fun hHeld => ?_)
        clear hK K
        refine Q5 (a' := ?_) ?_ ?_
        rotate_left
        ·show Act.put _ (some 42) _ = _
         simp only [Act.put, List.setIfInBounds_toArray, List.set_cons_zero, List.set_cons_succ, Qr, Qs]
         rfl
        refine Qy (i := 9) (N := some 43) (v := ?_) (a' := ?_) #[true, true, true, true, true, true, true, true, true, true, false] rfl rfl (Qv HT_.out (by kernel_rfl)) (fun _ _ _ h => h) (Or.inl ⟨by rfl, ?_⟩) ?_ ?_
        rotate_left
        ·intro w'
         go_simp
         with_reducible rfl
        rotate_left
        ·simp only [Act.put, List.setIfInBounds_toArray, List.set_cons_zero, List.set_cons_succ, Qr, Qs]
         rfl
        refine last_ (i := 10) (N := none) #[true, true, true, true, true, true, true, true, true, true, true] rfl rfl (Q6 HT_.out (by kernel_rfl)) (by decide) (fun K hK => ?_)
        have hs23 : w21.cell? ⟨gb211, 1, none⟩ = some (u212001) := (Qa BK211.out 1).trans rfl
        have hfs23 := Qd BK211.out 1
        have hns23_0 := NB209_211.out
        have hns23_1 := NB210_211.out
        have hms23_0 := NB211_209.out
        have hms23_1 := NB211_210.out
        refine skip_ (w1 := ?_) (by rfl) rfl ?_ ?_
        rotate_left
        ·go_simp
         rfl
        refine hK.out _ _ ?_
        clear hK K
        refine done_ (done_of HT_.out (by kernel_rfl)) ?_
        have hnb24 := NB211_209.out
        have hnc24 := NB209_211.out
        have hnb25 := NB211_210.out
        have hnc25 := NB210_211.out
        have hcz26_0 : w21.cell? ⟨gb211, 0, none⟩ = some (u212000) := (Qa BK211.out 0).trans rfl
        have hcz26_1 : w21.cell? ⟨gb211, 1, none⟩ = some (u212001) := (Qa BK211.out 1).trans rfl
        have hcz26_2 : w21.cell? ⟨gb211, 2, none⟩ = some (.int .i64 x212002_1) := (Qa BK211.out 2).trans rfl
        have hfz26_0 := Qd BK211.out 0
        have hfz26_1 := Qd BK211.out 1
        have hfz26_2 := Qd BK211.out 2
        try go_wp2
        go_roundg k1
        case measure => have := HK1.out; omega
        case rel => exact ⟨(wrap64 (x8_1 + 1)), (x212000_1), (y236), (0), (u212000), (.slice Ao22 y236.length co22), (by first | rfl | (simp; done) | (simp [*]; done)), H', ⟨by have := HK1.out; omega⟩, ⟨by (with_reducible repeat (first | apply Kd.R_alloc | apply Kd.R_drewN | apply Kd.R_drew)); exact Kd.R_mono (Kd.R_far (p := ⟨gb211, 2, none⟩) (Kd.R_far (p := ⟨gb211, 1, none⟩) (Kd.R_types HO_212000.out BK211.out (by decide)) (fun _ hk => hk.2) (.slice Ao22 y236.length co22)) (fun _ hk => hk.2) (.int .i64 0)) (fun _ hk => trivial)⟩, ⟨by (with_reducible repeat (first | apply Kd.R_alloc | apply Kd.R_drewN | apply Kd.R_drew)); exact Kd.R_mono (Kd.R_far (p := ⟨gb211, 2, none⟩) (Kd.R_far (p := ⟨gb211, 1, none⟩) (Kd.R_types HO238.out BK211.out (by decide)) (fun _ hk => hk.2) (.slice Ao22 y236.length co22)) (fun _ hk => hk.2) (.int .i64 0)) (fun _ hk => hk.1)⟩, ⟨by (with_reducible repeat (first | refine Qi ?_ _ | refine Qj ?_ | refine Qh ?_ _)); refine Q1 ?_ NB209_211.out _; (with_reducible repeat (first | refine Qi ?_ _ | refine Qj ?_ | refine Qh ?_ _)); refine Q1 ?_ NB209_211.out _; (with_reducible repeat (first | refine Qi ?_ _ | refine Qj ?_ | refine Qh ?_ _)); exact BK209.out⟩, ⟨by (with_reducible repeat (first | refine Qi ?_ _ | refine Qj ?_ | refine Qh ?_ _)); refine Q1 ?_ NB210_211.out _; (with_reducible repeat (first | refine Qi ?_ _ | refine Qj ?_ | refine Qh ?_ _)); refine Q1 ?_ NB210_211.out _; (with_reducible repeat (first | refine Qi ?_ _ | refine Qj ?_ | refine Qh ?_ _)); exact BK210.out⟩, ⟨by (with_reducible repeat (first | refine Qi ?_ _ | refine Qj ?_ | refine Qh ?_ _)); refine Qz (cs := #[u212000, .slice Ao22 y236.length co22, .int .i64 x212002_1]) ?_ 2 _ rfl; (with_reducible repeat (first | refine Qi ?_ _ | refine Qj ?_ | refine Qh ?_ _)); refine Qz (cs := #[u212000, u212001, .int .i64 x212002_1]) ?_ 1 _ rfl; (with_reducible repeat (first | refine Qi ?_ _ | refine Qj ?_ | refine Qh ?_ _)); exact BK211.out⟩, ⟨by repeat (first | (with_reducible first | exact HB.out | apply Qg | apply Qb | apply Qf | refine Qe ?_ GE209.out | refine Qe ?_ GE210.out | refine Qe ?_ GE211.out) | exact HB.out)⟩⟩
       ·rw [if_neg c16] at H
        exact absurd H (by simp)
      ·rw [if_neg c15] at H
       have c15b0 : (t221 == t228 && (t222 == t229 && (t223 == t230 && (t224 == t231 && (t225 == t232 && (t226 == t233 && (t227 == t234))))))) = false := by simpa using c15
       (try (have c15b1 : decide (t221 = t228 && (t222 == t229 && (t223 == t230 && (t224 == t231 && (t225 == t232 && (t226 == t233 && (t227 == t234))))))) = false := by simpa using c15))
       (try (have c15b2 : (t221 == t228 && (t222 == t229 && (t223 == t230 && (t224 == t231 && (t225 == t232 && (t226 == t233 && (t227 == t234))))))) = false := by simpa using c15))
       (try (have c15b3 : ¬ (t221 = t228 && (t222 == t229 && (t223 == t230 && (t224 == t231 && (t225 == t232 && (t226 == t233 && (t227 == t234))))))) := by simpa using c15))
       clear c15
       by_cases c27 : x212000_1.length < 1954687338268
       ·rw [if_pos c27] at H
        have LMc27 := Aside0.mk c27
        clear c27
        obtain ⟨y240, hy240⟩ : ∃ y_ : List (S73), y_ = (x212000_1 ++ [(⟨(Qc l0 x8_1).f0, (Qc l0 x8_1).f1, (⟨(Qc l0 x8_1).f2.f0, (Qc l0 x8_1).f2.f1, (Qc l0 x8_1).f2.f2, (Qc l0 x8_1).f2.f3, (Qc l0 x8_1).f2.f4, (Qc l0 x8_1).f2.f5, (Qc l0 x8_1).f2.f6⟩ : S42)⟩ : S73)]) := ⟨_, rfl⟩
        replace H : (spec_l06Take.l0 k1 l0 a1 (wrap64 (x8_1 + 1)) a2_0 a2_1 a2_2 a2_3 a2_4 a2_5 a2_6 y240 x212001_1 x212002_1) = some (r1, r2, r3) := by first | (rw [hy240]; with_reducible exact H) | (have H2_ := (Option.bind_some _ _).symm.trans H; rw [hy240]; with_reducible exact H2_) | (have H2_ := (Option.bind_some _ _).symm.trans H; with_reducible exact H2_) | with_reducible exact H | (rw [hy240]; exact H) | exact H
        have Ny240 := Aside0.mk hy240
        clear hy240
        have H' := Aside0.mk H
        clear H
        try go_wp2
        have n0_ := Aside0.mk (Kd.R_drew HO_212000.out)
        have n1_ := Aside0.mk (Kd.R_drew HO_212001.out)
        have n2_ := Aside0.mk (Qj BK209.out)
        have n3_ := Aside0.mk (Qj BK210.out)
        have n4_ := Aside0.mk (Qj BK211.out)
        have n5_ := Aside0.mk (Qf HB.out)
        clear HO_212000
        clear HO_212001
        clear BK209
        clear BK210
        clear BK211
        clear HB
        have HO_212000 := n0_
        have HO_212001 := n1_
        have BK209 := n2_
        have BK210 := n3_
        have BK211 := n4_
        have HB := n5_
        clear n0_ n1_ n2_ n3_ n4_ n5_
        have p219 : 0 ≤ (x8_1 : Int) := of_decide_eq_true (by assumption)
        have q219 : x8_1 < (l0.length : Int) := of_decide_eq_true (by assumption)
        obtain ⟨ad219, e219, hx219_0, hx219_1, hx219_2, hx219_3, hx219_4, hx219_5, hx219_6, hx219_7, hx219_8⟩ := Q0 HR0.out x8_1 p219 q219
        have hw219_8 := hx219_8
        have hw219_7 := hx219_7
        have hw219_6 := hx219_6
        have hw219_5 := hx219_5
        have hw219_4 := hx219_4
        have hw219_3 := hx219_3
        have hw219_2 := hx219_2
        have hw219_1 := hx219_1
        have hw219_0 := hx219_0
        cases e219
        replace hx219_0 := (HB.out.cell (World.block_lt_of_cell? w _ hx219_0)).trans hx219_0
        replace hx219_1 := (HB.out.cell (World.block_lt_of_cell? w _ hx219_1)).trans hx219_1
        replace hx219_2 := (HB.out.cell (World.block_lt_of_cell? w _ hx219_2)).trans hx219_2
        replace hx219_3 := (HB.out.cell (World.block_lt_of_cell? w _ hx219_3)).trans hx219_3
        replace hx219_4 := (HB.out.cell (World.block_lt_of_cell? w _ hx219_4)).trans hx219_4
        replace hx219_5 := (HB.out.cell (World.block_lt_of_cell? w _ hx219_5)).trans hx219_5
        replace hx219_6 := (HB.out.cell (World.block_lt_of_cell? w _ hx219_6)).trans hx219_6
        replace hx219_7 := (HB.out.cell (World.block_lt_of_cell? w _ hx219_7)).trans hx219_7
        replace hx219_8 := (HB.out.cell (World.block_lt_of_cell? w _ hx219_8)).trans hx219_8
        replace p219 := eq_true p219
        replace q219 := eq_true q219
        have p220 : 0 ≤ (x8_1 : Int) := of_decide_eq_true (by assumption)
        have q220 : x8_1 < (l0.length : Int) := of_decide_eq_true (by assumption)
        obtain ⟨ad220, e220, hx220_0, hx220_1, hx220_2, hx220_3, hx220_4, hx220_5, hx220_6, hx220_7, hx220_8⟩ := Q0 HR0.out x8_1 p220 q220
        have hw220_8 := hx220_8
        have hw220_7 := hx220_7
        have hw220_6 := hx220_6
        have hw220_5 := hx220_5
        have hw220_4 := hx220_4
        have hw220_3 := hx220_3
        have hw220_2 := hx220_2
        have hw220_1 := hx220_1
        have hw220_0 := hx220_0
        obtain rfl : ad219 = ad220 := (by injection e220)
        replace hx220_0 := (HB.out.cell (World.block_lt_of_cell? w _ hx220_0)).trans hx220_0
        replace hx220_1 := (HB.out.cell (World.block_lt_of_cell? w _ hx220_1)).trans hx220_1
        replace hx220_2 := (HB.out.cell (World.block_lt_of_cell? w _ hx220_2)).trans hx220_2
        replace hx220_3 := (HB.out.cell (World.block_lt_of_cell? w _ hx220_3)).trans hx220_3
        replace hx220_4 := (HB.out.cell (World.block_lt_of_cell? w _ hx220_4)).trans hx220_4
        replace hx220_5 := (HB.out.cell (World.block_lt_of_cell? w _ hx220_5)).trans hx220_5
        replace hx220_6 := (HB.out.cell (World.block_lt_of_cell? w _ hx220_6)).trans hx220_6
        replace hx220_7 := (HB.out.cell (World.block_lt_of_cell? w _ hx220_7)).trans hx220_7
        replace hx220_8 := (HB.out.cell (World.block_lt_of_cell? w _ hx220_8)).trans hx220_8
        replace p220 := eq_true p220
        replace q220 := eq_true q220
        refine start_ (n := 18) (S := fun w' => w'.cell? ⟨gb209, 0, none⟩ = some (.int .i64 a2_0) ∧ w'.cell? ⟨gb209, 1, none⟩ = some (.int .i64 a2_1) ∧ w'.cell? ⟨gb209, 2, none⟩ = some (.int .i64 a2_2) ∧ w'.cell? ⟨gb209, 3, none⟩ = some (.int .i64 a2_3) ∧ w'.cell? ⟨gb209, 4, none⟩ = some (.int .i64 a2_4) ∧ w'.cell? ⟨gb209, 5, none⟩ = some (.int .i64 a2_5) ∧ w'.cell? ⟨gb209, 6, none⟩ = some (.bool a2_6) ∧ w'.cell? (ad219.add ((x8_1).toNat * 9)) = some (.int .i64 ((Qc l0 x8_1).f0)) ∧ w'.cell? ⟨(ad219.add ((x8_1).toNat * 9)).block, (ad219.add ((x8_1).toNat * 9)).off + 1, none⟩ = some (.bool ((Qc l0 x8_1).f1)) ∧ w'.cell? ⟨(ad219.add ((x8_1).toNat * 9)).block, (ad219.add ((x8_1).toNat * 9)).off + 2, none⟩ = some (.int .i64 ((Qc l0 x8_1).f2.f0)) ∧ w'.cell? ⟨(ad219.add ((x8_1).toNat * 9)).block, (ad219.add ((x8_1).toNat * 9)).off + 3, none⟩ = some (.int .i64 ((Qc l0 x8_1).f2.f1)) ∧ w'.cell? ⟨(ad219.add ((x8_1).toNat * 9)).block, (ad219.add ((x8_1).toNat * 9)).off + 4, none⟩ = some (.int .i64 ((Qc l0 x8_1).f2.f2)) ∧ w'.cell? ⟨(ad219.add ((x8_1).toNat * 9)).block, (ad219.add ((x8_1).toNat * 9)).off + 5, none⟩ = some (.int .i64 ((Qc l0 x8_1).f2.f3)) ∧ w'.cell? ⟨(ad219.add ((x8_1).toNat * 9)).block, (ad219.add ((x8_1).toNat * 9)).off + 6, none⟩ = some (.int .i64 ((Qc l0 x8_1).f2.f4)) ∧ w'.cell? ⟨(ad219.add ((x8_1).toNat * 9)).block, (ad219.add ((x8_1).toNat * 9)).off + 7, none⟩ = some (.int .i64 ((Qc l0 x8_1).f2.f5)) ∧ w'.cell? ⟨(ad219.add ((x8_1).toNat * 9)).block, (ad219.add ((x8_1).toNat * 9)).off + 8, none⟩ = some (.bool ((Qc l0 x8_1).f2.f6)) ∧ w'.cell? (ad219.add ((x8_1).toNat * 9)) = some (.int .i64 ((Qc l0 x8_1).f0)) ∧ w'.cell? ⟨(ad219.add ((x8_1).toNat * 9)).block, (ad219.add ((x8_1).toNat * 9)).off + 1, none⟩ = some (.bool ((Qc l0 x8_1).f1)) ∧ w'.cell? ⟨(ad219.add ((x8_1).toNat * 9)).block, (ad219.add ((x8_1).toNat * 9)).off + 2, none⟩ = some (.int .i64 ((Qc l0 x8_1).f2.f0)) ∧ w'.cell? ⟨(ad219.add ((x8_1).toNat * 9)).block, (ad219.add ((x8_1).toNat * 9)).off + 3, none⟩ = some (.int .i64 ((Qc l0 x8_1).f2.f1)) ∧ w'.cell? ⟨(ad219.add ((x8_1).toNat * 9)).block, (ad219.add ((x8_1).toNat * 9)).off + 4, none⟩ = some (.int .i64 ((Qc l0 x8_1).f2.f2)) ∧ w'.cell? ⟨(ad219.add ((x8_1).toNat * 9)).block, (ad219.add ((x8_1).toNat * 9)).off + 5, none⟩ = some (.int .i64 ((Qc l0 x8_1).f2.f3)) ∧ w'.cell? ⟨(ad219.add ((x8_1).toNat * 9)).block, (ad219.add ((x8_1).toNat * 9)).off + 6, none⟩ = some (.int .i64 ((Qc l0 x8_1).f2.f4)) ∧ w'.cell? ⟨(ad219.add ((x8_1).toNat * 9)).block, (ad219.add ((x8_1).toNat * 9)).off + 7, none⟩ = some (.int .i64 ((Qc l0 x8_1).f2.f5)) ∧ w'.cell? ⟨(ad219.add ((x8_1).toNat * 9)).block, (ad219.add ((x8_1).toNat * 9)).off + 8, none⟩ = some (.bool ((Qc l0 x8_1).f2.f6))) (ds := []) #[false, false, false, false, false, false, false, false, false, false, false, false, false, false, false, false, false, false] (by kernel_rfl) rfl rfl ⟨(Qa BK209.out 0).trans rfl, (Qa BK209.out 1).trans rfl, (Qa BK209.out 2).trans rfl, (Qa BK209.out 3).trans rfl, (Qa BK209.out 4).trans rfl, (Qa BK209.out 5).trans rfl, (Qa BK209.out 6).trans rfl, ((HB.out.cell (World.block_lt_of_cell? w _ hw219_0)).trans hw219_0), ((HB.out.cell (World.block_lt_of_cell? w _ hw219_1)).trans hw219_1), ((HB.out.cell (World.block_lt_of_cell? w _ hw219_2)).trans hw219_2), ((HB.out.cell (World.block_lt_of_cell? w _ hw219_3)).trans hw219_3), ((HB.out.cell (World.block_lt_of_cell? w _ hw219_4)).trans hw219_4), ((HB.out.cell (World.block_lt_of_cell? w _ hw219_5)).trans hw219_5), ((HB.out.cell (World.block_lt_of_cell? w _ hw219_6)).trans hw219_6), ((HB.out.cell (World.block_lt_of_cell? w _ hw219_7)).trans hw219_7), ((HB.out.cell (World.block_lt_of_cell? w _ hw219_8)).trans hw219_8), ((HB.out.cell (World.block_lt_of_cell? w _ hw220_0)).trans hw220_0), ((HB.out.cell (World.block_lt_of_cell? w _ hw220_1)).trans hw220_1), ((HB.out.cell (World.block_lt_of_cell? w _ hw220_2)).trans hw220_2), ((HB.out.cell (World.block_lt_of_cell? w _ hw220_3)).trans hw220_3), ((HB.out.cell (World.block_lt_of_cell? w _ hw220_4)).trans hw220_4), ((HB.out.cell (World.block_lt_of_cell? w _ hw220_5)).trans hw220_5), ((HB.out.cell (World.block_lt_of_cell? w _ hw220_6)).trans hw220_6), ((HB.out.cell (World.block_lt_of_cell? w _ hw220_7)).trans hw220_7), ((HB.out.cell (World.block_lt_of_cell? w _ hw220_8)).trans hw220_8)⟩ (fun hHeld => ?_); refine with_tabW spec_l06Take.tab5 spec_l06Take.bits5 (fun HT_ HW_ => ?_)
        generalize wr.drew = w28 at HO_212000 HO_212001 BK209 BK210 BK211 HB hx219_0 hx219_1 hx219_2 hx219_3 hx219_4 hx219_5 hx219_6 hx219_7 hx219_8 hx220_0 hx220_1 hx220_2 hx220_3 hx220_4 hx220_5 hx220_6 hx220_7 hx220_8 hHeld ⊢
        refine Qy (i := 0) (N := some 16) (v := ?_) (a' := ?_) #[true, false, false, false, false, false, false, false, false, false, false, false, false, false, false, false, false, false] rfl rfl (Qv HT_.out (by kernel_rfl)) (fun _ _ _ h => h) (Or.inl ⟨by rfl, ?_⟩) ?_ ?_
        rotate_left
        ·intro w'
         go_simp
         with_reducible rfl
        rotate_left
        ·simp only [Act.put, List.setIfInBounds_toArray, List.set_cons_zero, List.set_cons_succ, Qr, Qs]
         rfl
        refine Qy (i := 1) (N := some 17) (v := ?_) (a' := ?_) #[true, true, false, false, false, false, false, false, false, false, false, false, false, false, false, false, false, false] rfl rfl (Qv HT_.out (by kernel_rfl)) (fun _ _ _ h => h) (Or.inl ⟨by rfl, ?_⟩) ?_ ?_
        rotate_left
        ·intro w'
         go_simp
         with_reducible rfl
        rotate_left
        ·simp only [Act.put, List.setIfInBounds_toArray, List.set_cons_zero, List.set_cons_succ, Qr, Qs]
         rfl
        refine Qy (i := 2) (N := some 18) (v := ?_) (a' := ?_) #[true, true, true, false, false, false, false, false, false, false, false, false, false, false, false, false, false, false] rfl rfl (Qv HT_.out (by kernel_rfl)) (fun _ _ _ h => h) (Or.inl ⟨by rfl, ?_⟩) ?_ ?_
        rotate_left
        ·intro w'
         go_simp
         with_reducible rfl
        rotate_left
        ·simp only [Act.put, List.setIfInBounds_toArray, List.set_cons_zero, List.set_cons_succ, Qr, Qs]
         rfl
        refine Qy (i := 3) (N := some 19) (v := ?_) (a' := ?_) #[true, true, true, true, false, false, false, false, false, false, false, false, false, false, false, false, false, false] rfl rfl (Qv HT_.out (by kernel_rfl)) (fun _ _ _ h => h) (Or.inl ⟨by rfl, ?_⟩) ?_ ?_
        rotate_left
        ·intro w'
         go_simp
         with_reducible rfl
        rotate_left
        ·simp only [Act.put, List.setIfInBounds_toArray, List.set_cons_zero, List.set_cons_succ, Qr, Qs]
         rfl
        refine Qy (i := 5) (N := some 21) (v := ?_) (a' := ?_) #[true, true, true, true, false, true, false, false, false, false, false, false, false, false, false, false, false, false] rfl rfl (Qv HT_.out (by kernel_rfl)) (fun _ _ _ h => h) (Or.inl ⟨by rfl, ?_⟩) ?_ ?_
        rotate_left
        ·intro w'
         go_simp
         with_reducible rfl
        rotate_left
        ·simp only [Act.put, List.setIfInBounds_toArray, List.set_cons_zero, List.set_cons_succ, Qr, Qs]
         rfl
        refine take_ (i := 4) (N := some 20) (v := ?_) (a' := ?_) #[true, true, true, true, true, true, false, false, false, false, false, false, false, false, false, false, false, false] rfl rfl (Q4 HT_.out HW_.out (by kernel_rfl)) (fun _ _ _ h => h) (Or.inl ⟨by rfl, ?_⟩) hHeld ?_ ?_
        rotate_left
        ·rintro w' ⟨s0, s1, s2, s3, s4, s5, s6, s7, s8, s9, s10, s11, s12, s13, s14, s15, s16, s17, s18, s19, s20, s21, s22, s23, s24⟩
         go_simp
         with_reducible rfl
        rotate_left
        ·simp only [Act.put, List.setIfInBounds_toArray, List.set_cons_zero, List.set_cons_succ, Qr, Qs]
         rfl
        refine Qy (i := 6) (N := some 22) (v := ?_) (a' := ?_) #[true, true, true, true, true, true, true, false, false, false, false, false, false, false, false, false, false, false] rfl rfl (Qv HT_.out (by kernel_rfl)) (fun _ _ _ h => h) (Or.inl ⟨by rfl, ?_⟩) ?_ ?_
        rotate_left
        ·intro w'
         go_simp
         with_reducible rfl
        rotate_left
        ·simp only [Act.put, List.setIfInBounds_toArray, List.set_cons_zero, List.set_cons_succ, Qr, Qs]
         rfl
        refine Qy (i := 7) (N := some 23) (v := ?_) (a' := ?_) #[true, true, true, true, true, true, true, true, false, false, false, false, false, false, false, false, false, false] rfl rfl (Qv HT_.out (by kernel_rfl)) (fun _ _ _ h => h) (Or.inl ⟨by rfl, ?_⟩) ?_ ?_
        rotate_left
        ·intro w'
         go_simp
         with_reducible rfl
        rotate_left
        ·simp only [Act.put, List.setIfInBounds_toArray, List.set_cons_zero, List.set_cons_succ, Qr, Qs]
         rfl
        refine Qy (i := 8) (N := some 24) (v := ?_) (a' := ?_) #[true, true, true, true, true, true, true, true, true, false, false, false, false, false, false, false, false, false] rfl rfl (Qv HT_.out (by kernel_rfl)) (fun _ _ _ h => h) (Or.inl ⟨by rfl, ?_⟩) ?_ ?_
        rotate_left
        ·intro w'
         go_simp
         with_reducible rfl
        rotate_left
        ·simp only [Act.put, List.setIfInBounds_toArray, List.set_cons_zero, List.set_cons_succ, Qr, Qs]
         rfl
        refine Qy (i := 9) (N := some 25) (v := ?_) (a' := ?_) #[true, true, true, true, true, true, true, true, true, true, false, false, false, false, false, false, false, false] rfl rfl (Qv HT_.out (by kernel_rfl)) (fun _ _ _ h => h) (Or.inl ⟨by rfl, ?_⟩) ?_ ?_
        rotate_left
        ·intro w'
         go_simp
         with_reducible rfl
        rotate_left
        ·simp only [Act.put, List.setIfInBounds_toArray, List.set_cons_zero, List.set_cons_succ, Qr, Qs]
         rfl
        refine Qy (i := 10) (N := some 26) (v := ?_) (a' := ?_) #[true, true, true, true, true, true, true, true, true, true, true, false, false, false, false, false, false, false] rfl rfl (Qv HT_.out (by kernel_rfl)) (fun _ _ _ h => h) (Or.inl ⟨by rfl, ?_⟩) ?_ ?_
        rotate_left
        ·intro w'
         go_simp
         with_reducible rfl
        rotate_left
        ·simp only [Act.put, List.setIfInBounds_toArray, List.set_cons_zero, List.set_cons_succ, Qr, Qs]
         rfl
        refine Qy (i := 11) (N := some 27) (v := ?_) (a' := ?_) #[true, true, true, true, true, true, true, true, true, true, true, true, false, false, false, false, false, false] rfl rfl (Qv HT_.out (by kernel_rfl)) (fun _ _ _ h => h) (Or.inl ⟨by rfl, ?_⟩) ?_ ?_
        rotate_left
        ·intro w'
         go_simp
         with_reducible rfl
        rotate_left
        ·simp only [Act.put, List.setIfInBounds_toArray, List.set_cons_zero, List.set_cons_succ, Qr, Qs]
         rfl
        refine take_ (i := 12) (N := some 28) (v := ?_) (a' := ?_) #[true, true, true, true, true, true, true, true, true, true, true, true, true, false, false, false, false, false] rfl rfl (Q4 HT_.out HW_.out (by kernel_rfl)) (fun _ _ _ h => h) (Or.inl ⟨by rfl, ?_⟩) hHeld ?_ ?_
        rotate_left
        ·rintro w' ⟨s0, s1, s2, s3, s4, s5, s6, s7, s8, s9, s10, s11, s12, s13, s14, s15, s16, s17, s18, s19, s20, s21, s22, s23, s24⟩
         go_simp
         with_reducible rfl
        rotate_left
        ·simp only [Act.put, List.setIfInBounds_toArray, List.set_cons_zero, List.set_cons_succ, Qr, Qs]
         rfl
        refine take_ (i := 14) (N := some 30) (v := ?_) (a' := ?_) #[true, true, true, true, true, true, true, true, true, true, true, true, true, false, true, false, false, false] rfl rfl (Q4 HT_.out HW_.out (by kernel_rfl)) (fun _ _ _ h => h) (Or.inl ⟨by rfl, ?_⟩) hHeld ?_ ?_
        rotate_left
        ·rintro w' ⟨s0, s1, s2, s3, s4, s5, s6, s7, s8, s9, s10, s11, s12, s13, s14, s15, s16, s17, s18, s19, s20, s21, s22, s23, s24⟩
         go_simp
         with_reducible rfl
        rotate_left
        ·simp only [Act.put, List.setIfInBounds_toArray, List.set_cons_zero, List.set_cons_succ, Qr, Qs]
         rfl
        refine one_ (i := 13) (N := some 29) #[true, true, true, true, true, true, true, true, true, true, true, true, true, true, true, false, false, false] rfl rfl (Q6 HT_.out (by kernel_rfl)) (by decide) (fun K hK => ?_)
        refine goes_ Try.func110 (by kernel_rfl) rfl #[.agg #[.int .i64 ((Qc l0 x8_1).f2.f0), .int .i64 ((Qc l0 x8_1).f2.f1), .int .i64 ((Qc l0 x8_1).f2.f2), .int .i64 ((Qc l0 x8_1).f2.f3), .int .i64 ((Qc l0 x8_1).f2.f4), .int .i64 ((Qc l0 x8_1).f2.f5), .bool ((Qc l0 x8_1).f2.f6)]] (by rfl) rfl rfl (by (try simp only [List.map_toArray, List.map_cons, List.map_nil]); first | done | rfl | (simp only [List.length_drop, List.length_take]; rfl)) ?_
        with_reducible refine (spec_KeyOf.calls ((Qc l0 x8_1).f2.f0) ((Qc l0 x8_1).f2.f1) ((Qc l0 x8_1).f2.f2) ((Qc l0 x8_1).f2.f3) ((Qc l0 x8_1).f2.f4) ((Qc l0 x8_1).f2.f5) ((Qc l0 x8_1).f2.f6) t221 t222 t223 t224 t225 t226 t227 _ A13.out).mono ?_
        rintro e w29 ⟨rfl, hb⟩
        refine ⟨_, rfl, ?_⟩
        have n0_ := Aside0.mk (Kd.R_below (by (with_reducible repeat (first | apply Kd.R_alloc | apply Kd.R_drewN | apply Kd.R_drew)); exact HO_212000.out) hb)
        have n1_ := Aside0.mk (Kd.R_below (by (with_reducible repeat (first | apply Kd.R_alloc | apply Kd.R_drewN | apply Kd.R_drew)); exact HO_212001.out) hb)
        have n2_ := Aside0.mk (Qm (g := gb209) (o := .cells #[.int .i64 a2_0, .int .i64 a2_1, .int .i64 a2_2, .int .i64 a2_3, .int .i64 a2_4, .int .i64 a2_5, .bool a2_6] 42 (0, 0)) (by (with_reducible repeat (first | refine Qi ?_ _ | refine Qj ?_ | refine Qh ?_ _)); exact BK209.out) hb)
        have n3_ := Aside0.mk (Qm (g := gb210) (o := .cells #[.slice none 0 0, .slice none 0 0, .int .i64 0] 34 (0, 0)) (by (with_reducible repeat (first | refine Qi ?_ _ | refine Qj ?_ | refine Qh ?_ _)); exact BK210.out) hb)
        have n4_ := Aside0.mk (Qm (g := gb211) (o := .cells #[u212000, u212001, .int .i64 x212002_1] 34 (0, 0)) (by (with_reducible repeat (first | refine Qi ?_ _ | refine Qj ?_ | refine Qh ?_ _)); exact BK211.out) hb)
        have n5_ := Aside0.mk (Qn (by repeat (first | (with_reducible first | exact HB.out | apply Qg | apply Qb | apply Qf | refine Qe ?_ GE209.out | refine Qe ?_ GE210.out | refine Qe ?_ GE211.out) | exact HB.out)) hb)
        clear HO_212000
        clear HO_212001
        clear BK209
        clear BK210
        clear BK211
        clear HB
        have HO_212000 := n0_
        have HO_212001 := n1_
        have BK209 := n2_
        have BK210 := n3_
        have BK211 := n4_
        have HB := n5_
        clear n0_ n1_ n2_ n3_ n4_ n5_
        (try clear hb)
        (try clear hb2)
        (try clear hk)
        (try clear hi)
        refine hK.out _ _ ⟨(Qa BK209.out 0).trans rfl, (Qa BK209.out 1).trans rfl, (Qa BK209.out 2).trans rfl, (Qa BK209.out 3).trans rfl, (Qa BK209.out 4).trans rfl, (Qa BK209.out 5).trans rfl, (Qa BK209.out 6).trans rfl, ((HB.out.cell (World.block_lt_of_cell? w _ hw219_0)).trans hw219_0), ((HB.out.cell (World.block_lt_of_cell? w _ hw219_1)).trans hw219_1), ((HB.out.cell (World.block_lt_of_cell? w _ hw219_2)).trans hw219_2), ((HB.out.cell (World.block_lt_of_cell? w _ hw219_3)).trans hw219_3), ((HB.out.cell (World.block_lt_of_cell? w _ hw219_4)).trans hw219_4), ((HB.out.cell (World.block_lt_of_cell? w _ hw219_5)).trans hw219_5), ((HB.out.cell (World.block_lt_of_cell? w _ hw219_6)).trans hw219_6), ((HB.out.cell (World.block_lt_of_cell? w _ hw219_7)).trans hw219_7), ((HB.out.cell (World.block_lt_of_cell? w _ hw219_8)).trans hw219_8), ((HB.out.cell (World.block_lt_of_cell? w _ hw220_0)).trans hw220_0), ((HB.out.cell (World.block_lt_of_cell? w _ hw220_1)).trans hw220_1), ((HB.out.cell (World.block_lt_of_cell? w _ hw220_2)).trans hw220_2), ((HB.out.cell (World.block_lt_of_cell? w _ hw220_3)).trans hw220_3), ((HB.out.cell (World.block_lt_of_cell? w _ hw220_4)).trans hw220_4), ((HB.out.cell (World.block_lt_of_cell? w _ hw220_5)).trans hw220_5), ((HB.out.cell (World.block_lt_of_cell? w _ hw220_6)).trans hw220_6), ((HB.out.cell (World.block_lt_of_cell? w _ hw220_7)).trans hw220_7), ((HB.out.cell (World.block_lt_of_cell? w _ hw220_8)).trans hw220_8)⟩ (fun hHeld => ?_)
        clear hK K
        refine Q5 (a' := ?_) ?_ ?_
        rotate_left
        ·show Act.put _ (some 29) _ = _
         simp only [Act.put, List.setIfInBounds_toArray, List.set_cons_zero, List.set_cons_succ, Qr, Qs]
         rfl
        refine one_ (i := 15) (N := some 31) #[true, true, true, true, true, true, true, true, true, true, true, true, true, true, true, true, false, false] rfl rfl (Q6 HT_.out (by kernel_rfl)) (by decide) (fun K hK => ?_)
        refine goes_ Try.func110 (by kernel_rfl) rfl #[.agg #[.int .i64 a2_0, .int .i64 a2_1, .int .i64 a2_2, .int .i64 a2_3, .int .i64 a2_4, .int .i64 a2_5, .bool a2_6]] (by rfl) rfl rfl (by (try simp only [List.map_toArray, List.map_cons, List.map_nil]); first | done | rfl | (simp only [List.length_drop, List.length_take]; rfl)) ?_
        with_reducible refine (spec_KeyOf.calls a2_0 a2_1 a2_2 a2_3 a2_4 a2_5 a2_6 t228 t229 t230 t231 t232 t233 t234 _ A14.out).mono ?_
        rintro e w30 ⟨rfl, hb⟩
        refine ⟨_, rfl, ?_⟩
        have n0_ := Aside0.mk (Kd.R_below (by (with_reducible repeat (first | apply Kd.R_alloc | apply Kd.R_drewN | apply Kd.R_drew)); exact HO_212000.out) hb)
        have n1_ := Aside0.mk (Kd.R_below (by (with_reducible repeat (first | apply Kd.R_alloc | apply Kd.R_drewN | apply Kd.R_drew)); exact HO_212001.out) hb)
        have n2_ := Aside0.mk (Qm (g := gb209) (o := .cells #[.int .i64 a2_0, .int .i64 a2_1, .int .i64 a2_2, .int .i64 a2_3, .int .i64 a2_4, .int .i64 a2_5, .bool a2_6] 42 (0, 0)) (by (with_reducible repeat (first | refine Qi ?_ _ | refine Qj ?_ | refine Qh ?_ _)); exact BK209.out) hb)
        have n3_ := Aside0.mk (Qm (g := gb210) (o := .cells #[.slice none 0 0, .slice none 0 0, .int .i64 0] 34 (0, 0)) (by (with_reducible repeat (first | refine Qi ?_ _ | refine Qj ?_ | refine Qh ?_ _)); exact BK210.out) hb)
        have n4_ := Aside0.mk (Qm (g := gb211) (o := .cells #[u212000, u212001, .int .i64 x212002_1] 34 (0, 0)) (by (with_reducible repeat (first | refine Qi ?_ _ | refine Qj ?_ | refine Qh ?_ _)); exact BK211.out) hb)
        have n5_ := Aside0.mk (Qn (by repeat (first | (with_reducible first | exact HB.out | apply Qg | apply Qb | apply Qf | refine Qe ?_ GE209.out | refine Qe ?_ GE210.out | refine Qe ?_ GE211.out) | exact HB.out)) hb)
        clear HO_212000
        clear HO_212001
        clear BK209
        clear BK210
        clear BK211
        clear HB
        have HO_212000 := n0_
        have HO_212001 := n1_
        have BK209 := n2_
        have BK210 := n3_
        have BK211 := n4_
        have HB := n5_
        clear n0_ n1_ n2_ n3_ n4_ n5_
        (try clear hb)
        (try clear hb2)
        (try clear hk)
        (try clear hi)
        refine hK.out _ _ ⟨(Qa BK209.out 0).trans rfl, (Qa BK209.out 1).trans rfl, (Qa BK209.out 2).trans rfl, (Qa BK209.out 3).trans rfl, (Qa BK209.out 4).trans rfl, (Qa BK209.out 5).trans rfl, (Qa BK209.out 6).trans rfl, ((HB.out.cell (World.block_lt_of_cell? w _ hw219_0)).trans hw219_0), ((HB.out.cell (World.block_lt_of_cell? w _ hw219_1)).trans hw219_1), ((HB.out.cell (World.block_lt_of_cell? w _ hw219_2)).trans hw219_2), ((HB.out.cell (World.block_lt_of_cell? w _ hw219_3)).trans hw219_3), ((HB.out.cell (World.block_lt_of_cell? w _ hw219_4)).trans hw219_4), ((HB.out.cell (World.block_lt_of_cell? w _ hw219_5)).trans hw219_5), ((HB.out.cell (World.block_lt_of_cell? w _ hw219_6)).trans hw219_6), ((HB.out.cell (World.block_lt_of_cell? w _ hw219_7)).trans hw219_7), ((HB.out.cell (World.block_lt_of_cell? w _ hw219_8)).trans hw219_8), ((HB.out.cell (World.block_lt_of_cell? w _ hw220_0)).trans hw220_0), ((HB.out.cell (World.block_lt_of_cell? w _ hw220_1)).trans hw220_1), ((HB.out.cell (World.block_lt_of_cell? w _ hw220_2)).trans hw220_2), ((HB.out.cell (World.block_lt_of_cell? w _ hw220_3)).trans hw220_3), ((HB.out.cell (World.block_lt_of_cell? w _ hw220_4)).trans hw220_4), ((HB.out.cell (World.block_lt_of_cell? w _ hw220_5)).trans hw220_5), ((HB.out.cell (World.block_lt_of_cell? w _ hw220_6)).trans hw220_6), ((HB.out.cell (World.block_lt_of_cell? w _ hw220_7)).trans hw220_7), ((HB.out.cell (World.block_lt_of_cell? w _ hw220_8)).trans hw220_8)⟩ (fun hHeld => ?_)
        clear hK K
        refine Q5 (a' := ?_) ?_ ?_
        rotate_left
        ·show Act.put _ (some 31) _ = _
         simp only [Act.put, List.setIfInBounds_toArray, List.set_cons_zero, List.set_cons_succ, Qr, Qs]
         rfl
        refine Qy (i := 16) (N := some 32) (v := ?_) (a' := ?_) #[true, true, true, true, true, true, true, true, true, true, true, true, true, true, true, true, true, false] rfl rfl (Qv HT_.out (by kernel_rfl)) (fun _ _ _ h => h) (Or.inl ⟨by rfl, ?_⟩) ?_ ?_
        rotate_left
        ·intro w'
         go_simp
         with_reducible rfl
        rotate_left
        ·simp only [Act.put, List.setIfInBounds_toArray, List.set_cons_zero, List.set_cons_succ, Qr, Qs]
         rfl
        refine Qy (i := 17) (N := some 33) (v := ?_) (a' := ?_) #[true, true, true, true, true, true, true, true, true, true, true, true, true, true, true, true, true, true] rfl rfl (Qv HT_.out (by kernel_rfl)) (fun _ _ _ h => h) (Or.inl ⟨by rfl, ?_⟩) ?_ ?_
        rotate_left
        ·intro w'
         go_simp
         with_reducible rfl
        rotate_left
        ·simp only [Act.put, List.setIfInBounds_toArray, List.set_cons_zero, List.set_cons_succ, Qr, Qs]
         rfl
        refine done_ (done_of HT_.out (by kernel_rfl)) ?_
        try go_wp2
        have n0_ := Aside0.mk (Kd.R_drew HO_212000.out)
        have n1_ := Aside0.mk (Kd.R_drew HO_212001.out)
        have n2_ := Aside0.mk (Qj BK209.out)
        have n3_ := Aside0.mk (Qj BK210.out)
        have n4_ := Aside0.mk (Qj BK211.out)
        have n5_ := Aside0.mk (Qf HB.out)
        clear HO_212000
        clear HO_212001
        clear BK209
        clear BK210
        clear BK211
        clear HB
        have HO_212000 := n0_
        have HO_212001 := n1_
        have BK209 := n2_
        have BK210 := n3_
        have BK211 := n4_
        have HB := n5_
        clear n0_ n1_ n2_ n3_ n4_ n5_
        have p239 : 0 ≤ (x8_1 : Int) := of_decide_eq_true (by assumption)
        have q239 : x8_1 < (l0.length : Int) := of_decide_eq_true (by assumption)
        obtain ⟨ad239, e239, hx239_0, hx239_1, hx239_2, hx239_3, hx239_4, hx239_5, hx239_6, hx239_7, hx239_8⟩ := Q0 HR0.out x8_1 p239 q239
        have hw239_8 := hx239_8
        have hw239_7 := hx239_7
        have hw239_6 := hx239_6
        have hw239_5 := hx239_5
        have hw239_4 := hx239_4
        have hw239_3 := hx239_3
        have hw239_2 := hx239_2
        have hw239_1 := hx239_1
        have hw239_0 := hx239_0
        obtain rfl : ad219 = ad239 := (by injection e239)
        replace hx239_0 := (HB.out.cell (World.block_lt_of_cell? w _ hx239_0)).trans hx239_0
        replace hx239_1 := (HB.out.cell (World.block_lt_of_cell? w _ hx239_1)).trans hx239_1
        replace hx239_2 := (HB.out.cell (World.block_lt_of_cell? w _ hx239_2)).trans hx239_2
        replace hx239_3 := (HB.out.cell (World.block_lt_of_cell? w _ hx239_3)).trans hx239_3
        replace hx239_4 := (HB.out.cell (World.block_lt_of_cell? w _ hx239_4)).trans hx239_4
        replace hx239_5 := (HB.out.cell (World.block_lt_of_cell? w _ hx239_5)).trans hx239_5
        replace hx239_6 := (HB.out.cell (World.block_lt_of_cell? w _ hx239_6)).trans hx239_6
        replace hx239_7 := (HB.out.cell (World.block_lt_of_cell? w _ hx239_7)).trans hx239_7
        replace hx239_8 := (HB.out.cell (World.block_lt_of_cell? w _ hx239_8)).trans hx239_8
        replace p239 := eq_true p239
        replace q239 := eq_true q239
        refine start_ (n := 10) (S := fun w' => w'.cell? ⟨gb211, 0, none⟩ = some (u212000) ∧ w'.cell? ⟨gb211, 1, none⟩ = some (u212001) ∧ w'.cell? ⟨gb211, 2, none⟩ = some (.int .i64 x212002_1) ∧ w'.cell? (ad219.add ((x8_1).toNat * 9)) = some (.int .i64 ((Qc l0 x8_1).f0)) ∧ w'.cell? ⟨(ad219.add ((x8_1).toNat * 9)).block, (ad219.add ((x8_1).toNat * 9)).off + 1, none⟩ = some (.bool ((Qc l0 x8_1).f1)) ∧ w'.cell? ⟨(ad219.add ((x8_1).toNat * 9)).block, (ad219.add ((x8_1).toNat * 9)).off + 2, none⟩ = some (.int .i64 ((Qc l0 x8_1).f2.f0)) ∧ w'.cell? ⟨(ad219.add ((x8_1).toNat * 9)).block, (ad219.add ((x8_1).toNat * 9)).off + 3, none⟩ = some (.int .i64 ((Qc l0 x8_1).f2.f1)) ∧ w'.cell? ⟨(ad219.add ((x8_1).toNat * 9)).block, (ad219.add ((x8_1).toNat * 9)).off + 4, none⟩ = some (.int .i64 ((Qc l0 x8_1).f2.f2)) ∧ w'.cell? ⟨(ad219.add ((x8_1).toNat * 9)).block, (ad219.add ((x8_1).toNat * 9)).off + 5, none⟩ = some (.int .i64 ((Qc l0 x8_1).f2.f3)) ∧ w'.cell? ⟨(ad219.add ((x8_1).toNat * 9)).block, (ad219.add ((x8_1).toNat * 9)).off + 6, none⟩ = some (.int .i64 ((Qc l0 x8_1).f2.f4)) ∧ w'.cell? ⟨(ad219.add ((x8_1).toNat * 9)).block, (ad219.add ((x8_1).toNat * 9)).off + 7, none⟩ = some (.int .i64 ((Qc l0 x8_1).f2.f5)) ∧ w'.cell? ⟨(ad219.add ((x8_1).toNat * 9)).block, (ad219.add ((x8_1).toNat * 9)).off + 8, none⟩ = some (.bool ((Qc l0 x8_1).f2.f6))) (ds := [9]) #[false, false, false, false, false, false, false, false, false, false] (by kernel_rfl) rfl rfl ⟨(Qa BK211.out 0).trans rfl, (Qa BK211.out 1).trans rfl, (Qa BK211.out 2).trans rfl, ((HB.out.cell (World.block_lt_of_cell? w _ hw239_0)).trans hw239_0), ((HB.out.cell (World.block_lt_of_cell? w _ hw239_1)).trans hw239_1), ((HB.out.cell (World.block_lt_of_cell? w _ hw239_2)).trans hw239_2), ((HB.out.cell (World.block_lt_of_cell? w _ hw239_3)).trans hw239_3), ((HB.out.cell (World.block_lt_of_cell? w _ hw239_4)).trans hw239_4), ((HB.out.cell (World.block_lt_of_cell? w _ hw239_5)).trans hw239_5), ((HB.out.cell (World.block_lt_of_cell? w _ hw239_6)).trans hw239_6), ((HB.out.cell (World.block_lt_of_cell? w _ hw239_7)).trans hw239_7), ((HB.out.cell (World.block_lt_of_cell? w _ hw239_8)).trans hw239_8)⟩ (fun hHeld => ?_); refine with_tabW spec_l06Take.tab8 spec_l06Take.bits8 (fun HT_ HW_ => ?_)
        generalize w30.drew = w31 at HO_212000 HO_212001 BK209 BK210 BK211 HB hx239_0 hx239_1 hx239_2 hx239_3 hx239_4 hx239_5 hx239_6 hx239_7 hx239_8 hHeld ⊢
        refine Qy (i := 0) (N := some 45) (v := ?_) (a' := ?_) #[true, false, false, false, false, false, false, false, false, false] rfl rfl (Qv HT_.out (by kernel_rfl)) (fun _ _ _ h => h) (Or.inl ⟨by rfl, ?_⟩) ?_ ?_
        rotate_left
        ·intro w'
         go_simp
         with_reducible rfl
        rotate_left
        ·simp only [Act.put, List.setIfInBounds_toArray, List.set_cons_zero, List.set_cons_succ, Qr, Qs]
         rfl
        refine Qy (i := 2) (N := some 47) (v := ?_) (a' := ?_) #[true, false, true, false, false, false, false, false, false, false] rfl rfl (Qv HT_.out (by kernel_rfl)) (fun _ _ _ h => h) (Or.inl ⟨by rfl, ?_⟩) ?_ ?_
        rotate_left
        ·intro w'
         go_simp
         with_reducible rfl
        rotate_left
        ·simp only [Act.put, List.setIfInBounds_toArray, List.set_cons_zero, List.set_cons_succ, Qr, Qs]
         rfl
        refine Qy (i := 3) (N := some 48) (v := ?_) (a' := ?_) #[true, false, true, true, false, false, false, false, false, false] rfl rfl (Qv HT_.out (by kernel_rfl)) (fun _ _ _ h => h) (Or.inl ⟨by rfl, ?_⟩) ?_ ?_
        rotate_left
        ·intro w'
         go_simp
         with_reducible rfl
        rotate_left
        ·simp only [Act.put, List.setIfInBounds_toArray, List.set_cons_zero, List.set_cons_succ, Qr, Qs]
         rfl
        refine Qy (i := 4) (N := some 49) (v := ?_) (a' := ?_) #[true, false, true, true, true, false, false, false, false, false] rfl rfl (Qv HT_.out (by kernel_rfl)) (fun _ _ _ h => h) (Or.inl ⟨by rfl, ?_⟩) ?_ ?_
        rotate_left
        ·intro w'
         go_simp
         with_reducible rfl
        rotate_left
        ·simp only [Act.put, List.setIfInBounds_toArray, List.set_cons_zero, List.set_cons_succ, Qr, Qs]
         rfl
        refine take_ (i := 1) (N := some 46) (v := ?_) (a' := ?_) #[true, true, true, true, true, false, false, false, false, false] rfl rfl (Q4 HT_.out HW_.out (by kernel_rfl)) (fun _ _ _ h => h) (Or.inl ⟨by rfl, ?_⟩) hHeld ?_ ?_
        rotate_left
        ·rintro w' ⟨s0, s1, s2, s3, s4, s5, s6, s7, s8, s9, s10, s11⟩
         go_simp
         with_reducible rfl
        rotate_left
        ·simp only [Act.put, List.setIfInBounds_toArray, List.set_cons_zero, List.set_cons_succ, Qr, Qs]
         rfl
        refine take_ (i := 5) (N := some 50) (v := ?_) (a' := ?_) #[true, true, true, true, true, true, false, false, false, false] rfl rfl (Q4 HT_.out HW_.out (by kernel_rfl)) (fun _ _ _ h => h) (Or.inl ⟨by rfl, ?_⟩) hHeld ?_ ?_
        rotate_left
        ·rintro w' ⟨s0, s1, s2, s3, s4, s5, s6, s7, s8, s9, s10, s11⟩
         go_simp
         with_reducible rfl
        rotate_left
        ·simp only [Act.put, List.setIfInBounds_toArray, List.set_cons_zero, List.set_cons_succ, Qr, Qs]
         rfl
        refine one_ (i := 6) (N := some 51) #[true, true, true, true, true, true, true, false, false, false] rfl rfl (Q6 HT_.out (by kernel_rfl)) (by decide) (fun K hK => ?_)
        refine value_ (w1 := ?_) (v := ?_) (by rfl) rfl ?_ ?_
        rotate_left 2
        ·go_simp
         constructor
         ·rfl
         ·rfl
        refine hK.out _ _ ⟨(Qa (Qh BK211.out _) 0).trans rfl, (Qa (Qh BK211.out _) 1).trans rfl, (Qa (Qh BK211.out _) 2).trans rfl, (World.cell?_alloc_lt _ _ _ (World.block_lt_of_cell? _ _ (((HB.out.cell (World.block_lt_of_cell? w _ hw239_0)).trans hw239_0)))).trans (((HB.out.cell (World.block_lt_of_cell? w _ hw239_0)).trans hw239_0)), (World.cell?_alloc_lt _ _ _ (World.block_lt_of_cell? _ _ (((HB.out.cell (World.block_lt_of_cell? w _ hw239_1)).trans hw239_1)))).trans (((HB.out.cell (World.block_lt_of_cell? w _ hw239_1)).trans hw239_1)), (World.cell?_alloc_lt _ _ _ (World.block_lt_of_cell? _ _ (((HB.out.cell (World.block_lt_of_cell? w _ hw239_2)).trans hw239_2)))).trans (((HB.out.cell (World.block_lt_of_cell? w _ hw239_2)).trans hw239_2)), (World.cell?_alloc_lt _ _ _ (World.block_lt_of_cell? _ _ (((HB.out.cell (World.block_lt_of_cell? w _ hw239_3)).trans hw239_3)))).trans (((HB.out.cell (World.block_lt_of_cell? w _ hw239_3)).trans hw239_3)), (World.cell?_alloc_lt _ _ _ (World.block_lt_of_cell? _ _ (((HB.out.cell (World.block_lt_of_cell? w _ hw239_4)).trans hw239_4)))).trans (((HB.out.cell (World.block_lt_of_cell? w _ hw239_4)).trans hw239_4)), (World.cell?_alloc_lt _ _ _ (World.block_lt_of_cell? _ _ (((HB.out.cell (World.block_lt_of_cell? w _ hw239_5)).trans hw239_5)))).trans (((HB.out.cell (World.block_lt_of_cell? w _ hw239_5)).trans hw239_5)), (World.cell?_alloc_lt _ _ _ (World.block_lt_of_cell? _ _ (((HB.out.cell (World.block_lt_of_cell? w _ hw239_6)).trans hw239_6)))).trans (((HB.out.cell (World.block_lt_of_cell? w _ hw239_6)).trans hw239_6)), (World.cell?_alloc_lt _ _ _ (World.block_lt_of_cell? _ _ (((HB.out.cell (World.block_lt_of_cell? w _ hw239_7)).trans hw239_7)))).trans (((HB.out.cell (World.block_lt_of_cell? w _ hw239_7)).trans hw239_7)), (World.cell?_alloc_lt _ _ _ (World.block_lt_of_cell? _ _ (((HB.out.cell (World.block_lt_of_cell? w _ hw239_8)).trans hw239_8)))).trans (((HB.out.cell (World.block_lt_of_cell? w _ hw239_8)).trans hw239_8))⟩ (fun hHeld => ?_)
        clear hK K
        refine Q5 (a' := ?_) ?_ ?_
        rotate_left
        ·show Act.put _ (some 51) _ = _
         simp only [Act.put, List.setIfInBounds_toArray, List.set_cons_zero, List.set_cons_succ, Qr, Qs]
         rfl
        refine one_ (i := 7) (N := some 52) #[true, true, true, true, true, true, true, true, false, false] rfl rfl (Q6 HT_.out (by kernel_rfl)) (by decide) (fun K hK => ?_)
        refine Kd.R_append_step k73 (w0 := w) w.heap.size (by rfl) (.tmp 46) (.tmp 51) 26 73 (.agg #[(.int .i64 0), (.bool false), (.int .i64 0), (.int .i64 0), (.int .i64 0), (.int .i64 0), (.int .i64 0), (.int .i64 0), (.bool false)]) 72 rfl Try.underlying26 info73 rfl (by decide) (by omega) u212000 x212000_1 (⟨(Qc l0 x8_1).f0, (Qc l0 x8_1).f1, (⟨(Qc l0 x8_1).f2.f0, (Qc l0 x8_1).f2.f1, (Qc l0 x8_1).f2.f2, (Qc l0 x8_1).f2.f3, (Qc l0 x8_1).f2.f4, (Qc l0 x8_1).f2.f5, (Qc l0 x8_1).f2.f6⟩ : S42)⟩ : S73) [.int .i64 ((Qc l0 x8_1).f0), .bool ((Qc l0 x8_1).f1), .int .i64 ((Qc l0 x8_1).f2.f0), .int .i64 ((Qc l0 x8_1).f2.f1), .int .i64 ((Qc l0 x8_1).f2.f2), .int .i64 ((Qc l0 x8_1).f2.f3), .int .i64 ((Qc l0 x8_1).f2.f4), .int .i64 ((Qc l0 x8_1).f2.f5), .bool ((Qc l0 x8_1).f2.f6)] (fun _ => True) (fun _ => False) rfl rfl ?aP (fun _ hk => hk.elim) ?aF ?aO ?aB ?aS ?aL ?_
        (case aP => exact k73_mkM _ _ _ (⟨(Qc l0 x8_1).f0, (Qc l0 x8_1).f1, (⟨(Qc l0 x8_1).f2.f0, (Qc l0 x8_1).f2.f1, (Qc l0 x8_1).f2.f2, (Qc l0 x8_1).f2.f3, (Qc l0 x8_1).f2.f4, (Qc l0 x8_1).f2.f5, (Qc l0 x8_1).f2.f6⟩ : S42)⟩ : S73))
        (case aB => exact (by repeat (first | (with_reducible first | exact HB.out | apply Qg | apply Qb | apply Qf | refine Qe ?_ GE209.out | refine Qe ?_ GE210.out | refine Qe ?_ GE211.out) | exact HB.out)))
        (case aF => exact (fun _ _ => trivial))
        (case aO => exact (by (with_reducible repeat (first | apply Kd.R_alloc | apply Kd.R_drewN | apply Kd.R_drew)); exact HO_212000.out))
        (case aS => exact (Ql (by repeat (first | (with_reducible first | exact HB.out | apply Qg | apply Qb | apply Qf | refine Qe ?_ GE209.out | refine Qe ?_ GE210.out | refine Qe ?_ GE211.out) | exact HB.out))))
        (case aL => have := LMc27.out; omega)
        intro v241 w32 ho hb hg hat
        rw [← Ny240.out] at ho
        have n0_ := Aside0.mk (Kd.R_over' (by (with_reducible repeat (first | apply Kd.R_alloc | apply Kd.R_drewN | apply Kd.R_drew)); exact HO_212001.out) (Kd.R_typed (by (with_reducible repeat (first | apply Kd.R_alloc | apply Kd.R_drewN | apply Kd.R_drew)); exact HO_212000.out)) (by decide) hg)
        have n1_ := Aside0.mk (blk_grown (g := gb209) (o := .cells #[.int .i64 a2_0, .int .i64 a2_1, .int .i64 a2_2, .int .i64 a2_3, .int .i64 a2_4, .int .i64 a2_5, .bool a2_6] 42 (0, 0)) (by (with_reducible repeat (first | refine Qi ?_ _ | refine Qj ?_ | refine Qh ?_ _)); exact BK209.out) hg (Kd.R_ne HO_212000.out BK209.out (by decide)))
        have n2_ := Aside0.mk (blk_grown (g := gb210) (o := .cells #[.slice none 0 0, .slice none 0 0, .int .i64 0] 34 (0, 0)) (by (with_reducible repeat (first | refine Qi ?_ _ | refine Qj ?_ | refine Qh ?_ _)); exact BK210.out) hg (Kd.R_ne HO_212000.out BK210.out (by decide)))
        have n3_ := Aside0.mk (blk_grown (g := gb211) (o := .cells #[u212000, u212001, .int .i64 x212002_1] 34 (0, 0)) (by (with_reducible repeat (first | refine Qi ?_ _ | refine Qj ?_ | refine Qh ?_ _)); exact BK211.out) hg (Kd.R_ne HO_212000.out BK211.out (by decide)))
        have n4_ := Aside0.mk (hb)
        have n5_ := Aside0.mk (ho)
        clear HO_212001
        clear BK209
        clear BK210
        clear BK211
        clear HB
        clear HO_212000
        have HO_212001 := n0_
        have BK209 := n1_
        have BK210 := n2_
        have BK211 := n3_
        have HB := n4_
        have HO242 := n5_
        clear n0_ n1_ n2_ n3_ n4_ n5_
        clear ho hb hg hat
        obtain ⟨Ao33, co33, eo33⟩ := Kd.R_slice HO242.out
        (first | subst eo33 | (injection eo33 with f1_ f2_ f3_; have f4_ := f1_.symm; have f5_ := f3_.symm; clear f1_ f2_ f3_; subst f4_; subst f5_))
        refine hK.out _ _ ⟨(Qa BK211.out 0).trans rfl, (Qa BK211.out 1).trans rfl, (Qa BK211.out 2).trans rfl, ((HB.out.cell (World.block_lt_of_cell? w _ hw239_0)).trans hw239_0), ((HB.out.cell (World.block_lt_of_cell? w _ hw239_1)).trans hw239_1), ((HB.out.cell (World.block_lt_of_cell? w _ hw239_2)).trans hw239_2), ((HB.out.cell (World.block_lt_of_cell? w _ hw239_3)).trans hw239_3), ((HB.out.cell (World.block_lt_of_cell? w _ hw239_4)).trans hw239_4), ((HB.out.cell (World.block_lt_of_cell? w _ hw239_5)).trans hw239_5), ((HB.out.cell (World.block_lt_of_cell? w _ hw239_6)).trans hw239_6), ((HB.out.cell (World.block_lt_of_cell? w _ hw239_7)).trans hw239_7), ((HB.out.cell (World.block_lt_of_cell? w _ hw239_8)).trans hw239_8)⟩ (fun hHeld => ?_)
        clear hK K
        refine Q5 (a' := ?_) ?_ ?_
        rotate_left
        ·show Act.put _ (some 52) _ = _
         simp only [Act.put, List.setIfInBounds_toArray, List.set_cons_zero, List.set_cons_succ, Qr, Qs]
         rfl
        refine Qy (i := 8) (N := some 53) (v := ?_) (a' := ?_) #[true, true, true, true, true, true, true, true, true, false] rfl rfl (Qv HT_.out (by kernel_rfl)) (fun _ _ _ h => h) (Or.inl ⟨by rfl, ?_⟩) ?_ ?_
        rotate_left
        ·intro w'
         go_simp
         with_reducible rfl
        rotate_left
        ·simp only [Act.put, List.setIfInBounds_toArray, List.set_cons_zero, List.set_cons_succ, Qr, Qs]
         rfl
        refine last_ (i := 9) (N := none) #[true, true, true, true, true, true, true, true, true, true] rfl rfl (Q6 HT_.out (by kernel_rfl)) (by decide) (fun K hK => ?_)
        have hs34 : w32.cell? ⟨gb211, 0, none⟩ = some (u212000) := (Qa BK211.out 0).trans rfl
        have hfs34 := Qd BK211.out 0
        have hns34_0 := NB209_211.out
        have hns34_1 := NB210_211.out
        have hms34_0 := NB211_209.out
        have hms34_1 := NB211_210.out
        refine skip_ (w1 := ?_) (by rfl) rfl ?_ ?_
        rotate_left
        ·go_simp
         rfl
        refine hK.out _ _ ?_
        clear hK K
        refine done_ (done_of HT_.out (by kernel_rfl)) ?_
        try go_wp2
        go_roundg k1
        case measure => have := HK1.out; omega
        case rel => exact ⟨(wrap64 (x8_1 + 1)), (y240), (x212001_1), (x212002_1), (.slice Ao33 y240.length co33), (u212001), (by first | rfl | (simp; done) | (simp [*]; done)), H', ⟨by have := HK1.out; omega⟩, ⟨by (with_reducible repeat (first | apply Kd.R_alloc | apply Kd.R_drewN | apply Kd.R_drew)); exact Kd.R_mono (Kd.R_far (p := ⟨gb211, 0, none⟩) (Kd.R_types HO242.out BK211.out (by decide)) (fun _ hk => hk.2) (.slice Ao33 y240.length co33)) (fun _ hk => trivial)⟩, ⟨by (with_reducible repeat (first | apply Kd.R_alloc | apply Kd.R_drewN | apply Kd.R_drew)); exact Kd.R_mono (Kd.R_far (p := ⟨gb211, 0, none⟩) (Kd.R_types HO_212001.out BK211.out (by decide)) (fun _ hk => hk.2) (.slice Ao33 y240.length co33)) (fun _ hk => hk.1)⟩, ⟨by (with_reducible repeat (first | refine Qi ?_ _ | refine Qj ?_ | refine Qh ?_ _)); refine Q1 ?_ NB209_211.out _; (with_reducible repeat (first | refine Qi ?_ _ | refine Qj ?_ | refine Qh ?_ _)); exact BK209.out⟩, ⟨by (with_reducible repeat (first | refine Qi ?_ _ | refine Qj ?_ | refine Qh ?_ _)); refine Q1 ?_ NB210_211.out _; (with_reducible repeat (first | refine Qi ?_ _ | refine Qj ?_ | refine Qh ?_ _)); exact BK210.out⟩, ⟨by (with_reducible repeat (first | refine Qi ?_ _ | refine Qj ?_ | refine Qh ?_ _)); refine Qz (cs := #[u212000, u212001, .int .i64 x212002_1]) ?_ 0 _ rfl; (with_reducible repeat (first | refine Qi ?_ _ | refine Qj ?_ | refine Qh ?_ _)); exact BK211.out⟩, ⟨by repeat (first | (with_reducible first | exact HB.out | apply Qg | apply Qb | apply Qf | refine Qe ?_ GE209.out | refine Qe ?_ GE210.out | refine Qe ?_ GE211.out) | exact HB.out)⟩⟩
       ·rw [if_neg c27] at H
        exact absurd H (by simp)
     ·rw [if_neg c12] at H
      have c12b0 : (((Qc l0 x8_1).f0) == a1) = false := beq_eq_false_iff_ne.mpr c12
      have c12b1 : (((Qc l0 x8_1).f0) != a1) = true := bne_iff_ne.mpr c12
      by_cases c35 : x212000_1.length < 1954687338268
      ·rw [if_pos c35] at H
       have LMc35 := Aside0.mk c35
       clear c35
       obtain ⟨y244, hy244⟩ : ∃ y_ : List (S73), y_ = (x212000_1 ++ [(⟨(Qc l0 x8_1).f0, (Qc l0 x8_1).f1, (⟨(Qc l0 x8_1).f2.f0, (Qc l0 x8_1).f2.f1, (Qc l0 x8_1).f2.f2, (Qc l0 x8_1).f2.f3, (Qc l0 x8_1).f2.f4, (Qc l0 x8_1).f2.f5, (Qc l0 x8_1).f2.f6⟩ : S42)⟩ : S73)]) := ⟨_, rfl⟩
       replace H : (spec_l06Take.l0 k1 l0 a1 (wrap64 (x8_1 + 1)) a2_0 a2_1 a2_2 a2_3 a2_4 a2_5 a2_6 y244 x212001_1 x212002_1) = some (r1, r2, r3) := by first | (rw [hy244]; with_reducible exact H) | (have H2_ := (Option.bind_some _ _).symm.trans H; rw [hy244]; with_reducible exact H2_) | (have H2_ := (Option.bind_some _ _).symm.trans H; with_reducible exact H2_) | with_reducible exact H | (rw [hy244]; exact H) | exact H
       have Ny244 := Aside0.mk hy244
       clear hy244
       have H' := Aside0.mk H
       clear H
       try go_wp2
       have n0_ := Aside0.mk (Kd.R_drew HO_212000.out)
       have n1_ := Aside0.mk (Kd.R_drew HO_212001.out)
       have n2_ := Aside0.mk (Qj BK209.out)
       have n3_ := Aside0.mk (Qj BK210.out)
       have n4_ := Aside0.mk (Qj BK211.out)
       have n5_ := Aside0.mk (Qf HB.out)
       clear HO_212000
       clear HO_212001
       clear BK209
       clear BK210
       clear BK211
       clear HB
       have HO_212000 := n0_
       have HO_212001 := n1_
       have BK209 := n2_
       have BK210 := n3_
       have BK211 := n4_
       have HB := n5_
       clear n0_ n1_ n2_ n3_ n4_ n5_
       have p219 : 0 ≤ (x8_1 : Int) := of_decide_eq_true (by assumption)
       have q219 : x8_1 < (l0.length : Int) := of_decide_eq_true (by assumption)
       obtain ⟨ad219, e219, hx219_0, hx219_1, hx219_2, hx219_3, hx219_4, hx219_5, hx219_6, hx219_7, hx219_8⟩ := Q0 HR0.out x8_1 p219 q219
       have hw219_8 := hx219_8
       have hw219_7 := hx219_7
       have hw219_6 := hx219_6
       have hw219_5 := hx219_5
       have hw219_4 := hx219_4
       have hw219_3 := hx219_3
       have hw219_2 := hx219_2
       have hw219_1 := hx219_1
       have hw219_0 := hx219_0
       cases e219
       replace hx219_0 := (HB.out.cell (World.block_lt_of_cell? w _ hx219_0)).trans hx219_0
       replace hx219_1 := (HB.out.cell (World.block_lt_of_cell? w _ hx219_1)).trans hx219_1
       replace hx219_2 := (HB.out.cell (World.block_lt_of_cell? w _ hx219_2)).trans hx219_2
       replace hx219_3 := (HB.out.cell (World.block_lt_of_cell? w _ hx219_3)).trans hx219_3
       replace hx219_4 := (HB.out.cell (World.block_lt_of_cell? w _ hx219_4)).trans hx219_4
       replace hx219_5 := (HB.out.cell (World.block_lt_of_cell? w _ hx219_5)).trans hx219_5
       replace hx219_6 := (HB.out.cell (World.block_lt_of_cell? w _ hx219_6)).trans hx219_6
       replace hx219_7 := (HB.out.cell (World.block_lt_of_cell? w _ hx219_7)).trans hx219_7
       replace hx219_8 := (HB.out.cell (World.block_lt_of_cell? w _ hx219_8)).trans hx219_8
       replace p219 := eq_true p219
       replace q219 := eq_true q219
       refine start_ (n := 18) (S := fun w' => w'.cell? (ad219.add ((x8_1).toNat * 9)) = some (.int .i64 ((Qc l0 x8_1).f0)) ∧ w'.cell? ⟨(ad219.add ((x8_1).toNat * 9)).block, (ad219.add ((x8_1).toNat * 9)).off + 1, none⟩ = some (.bool ((Qc l0 x8_1).f1)) ∧ w'.cell? ⟨(ad219.add ((x8_1).toNat * 9)).block, (ad219.add ((x8_1).toNat * 9)).off + 2, none⟩ = some (.int .i64 ((Qc l0 x8_1).f2.f0)) ∧ w'.cell? ⟨(ad219.add ((x8_1).toNat * 9)).block, (ad219.add ((x8_1).toNat * 9)).off + 3, none⟩ = some (.int .i64 ((Qc l0 x8_1).f2.f1)) ∧ w'.cell? ⟨(ad219.add ((x8_1).toNat * 9)).block, (ad219.add ((x8_1).toNat * 9)).off + 4, none⟩ = some (.int .i64 ((Qc l0 x8_1).f2.f2)) ∧ w'.cell? ⟨(ad219.add ((x8_1).toNat * 9)).block, (ad219.add ((x8_1).toNat * 9)).off + 5, none⟩ = some (.int .i64 ((Qc l0 x8_1).f2.f3)) ∧ w'.cell? ⟨(ad219.add ((x8_1).toNat * 9)).block, (ad219.add ((x8_1).toNat * 9)).off + 6, none⟩ = some (.int .i64 ((Qc l0 x8_1).f2.f4)) ∧ w'.cell? ⟨(ad219.add ((x8_1).toNat * 9)).block, (ad219.add ((x8_1).toNat * 9)).off + 7, none⟩ = some (.int .i64 ((Qc l0 x8_1).f2.f5)) ∧ w'.cell? ⟨(ad219.add ((x8_1).toNat * 9)).block, (ad219.add ((x8_1).toNat * 9)).off + 8, none⟩ = some (.bool ((Qc l0 x8_1).f2.f6))) (ds := []) #[false, false, false, false, false, false, false, false, false, false, false, false, false, false, false, false, false, false] (by kernel_rfl) rfl rfl ⟨((HB.out.cell (World.block_lt_of_cell? w _ hw219_0)).trans hw219_0), ((HB.out.cell (World.block_lt_of_cell? w _ hw219_1)).trans hw219_1), ((HB.out.cell (World.block_lt_of_cell? w _ hw219_2)).trans hw219_2), ((HB.out.cell (World.block_lt_of_cell? w _ hw219_3)).trans hw219_3), ((HB.out.cell (World.block_lt_of_cell? w _ hw219_4)).trans hw219_4), ((HB.out.cell (World.block_lt_of_cell? w _ hw219_5)).trans hw219_5), ((HB.out.cell (World.block_lt_of_cell? w _ hw219_6)).trans hw219_6), ((HB.out.cell (World.block_lt_of_cell? w _ hw219_7)).trans hw219_7), ((HB.out.cell (World.block_lt_of_cell? w _ hw219_8)).trans hw219_8)⟩ (fun hHeld => ?_); refine with_tabW spec_l06Take.tab5 spec_l06Take.bits5 (fun HT_ HW_ => ?_)
       generalize wr.drew = w36 at HO_212000 HO_212001 BK209 BK210 BK211 HB hx219_0 hx219_1 hx219_2 hx219_3 hx219_4 hx219_5 hx219_6 hx219_7 hx219_8 hHeld ⊢
       refine Qy (i := 0) (N := some 16) (v := ?_) (a' := ?_) #[true, false, false, false, false, false, false, false, false, false, false, false, false, false, false, false, false, false] rfl rfl (Qv HT_.out (by kernel_rfl)) (fun _ _ _ h => h) (Or.inl ⟨by rfl, ?_⟩) ?_ ?_
       rotate_left
       ·intro w'
        go_simp
        with_reducible rfl
       rotate_left
       ·simp only [Act.put, List.setIfInBounds_toArray, List.set_cons_zero, List.set_cons_succ, Qr, Qs]
        rfl
       refine Qy (i := 1) (N := some 17) (v := ?_) (a' := ?_) #[true, true, false, false, false, false, false, false, false, false, false, false, false, false, false, false, false, false] rfl rfl (Qv HT_.out (by kernel_rfl)) (fun _ _ _ h => h) (Or.inl ⟨by rfl, ?_⟩) ?_ ?_
       rotate_left
       ·intro w'
        go_simp
        with_reducible rfl
       rotate_left
       ·simp only [Act.put, List.setIfInBounds_toArray, List.set_cons_zero, List.set_cons_succ, Qr, Qs]
        rfl
       refine Qy (i := 2) (N := some 18) (v := ?_) (a' := ?_) #[true, true, true, false, false, false, false, false, false, false, false, false, false, false, false, false, false, false] rfl rfl (Qv HT_.out (by kernel_rfl)) (fun _ _ _ h => h) (Or.inl ⟨by rfl, ?_⟩) ?_ ?_
       rotate_left
       ·intro w'
        go_simp
        with_reducible rfl
       rotate_left
       ·simp only [Act.put, List.setIfInBounds_toArray, List.set_cons_zero, List.set_cons_succ, Qr, Qs]
        rfl
       refine Qy (i := 3) (N := some 19) (v := ?_) (a' := ?_) #[true, true, true, true, false, false, false, false, false, false, false, false, false, false, false, false, false, false] rfl rfl (Qv HT_.out (by kernel_rfl)) (fun _ _ _ h => h) (Or.inl ⟨by rfl, ?_⟩) ?_ ?_
       rotate_left
       ·intro w'
        go_simp
        with_reducible rfl
       rotate_left
       ·simp only [Act.put, List.setIfInBounds_toArray, List.set_cons_zero, List.set_cons_succ, Qr, Qs]
        rfl
       refine Qy (i := 5) (N := some 21) (v := ?_) (a' := ?_) #[true, true, true, true, false, true, false, false, false, false, false, false, false, false, false, false, false, false] rfl rfl (Qv HT_.out (by kernel_rfl)) (fun _ _ _ h => h) (Or.inl ⟨by rfl, ?_⟩) ?_ ?_
       rotate_left
       ·intro w'
        go_simp
        with_reducible rfl
       rotate_left
       ·simp only [Act.put, List.setIfInBounds_toArray, List.set_cons_zero, List.set_cons_succ, Qr, Qs]
        rfl
       refine take_ (i := 4) (N := some 20) (v := ?_) (a' := ?_) #[true, true, true, true, true, true, false, false, false, false, false, false, false, false, false, false, false, false] rfl rfl (Q4 HT_.out HW_.out (by kernel_rfl)) (fun _ _ _ h => h) (Or.inl ⟨by rfl, ?_⟩) hHeld ?_ ?_
       rotate_left
       ·rintro w' ⟨s0, s1, s2, s3, s4, s5, s6, s7, s8⟩
        go_simp
        with_reducible rfl
       rotate_left
       ·simp only [Act.put, List.setIfInBounds_toArray, List.set_cons_zero, List.set_cons_succ, Qr, Qs]
        rfl
       refine Qy (i := 6) (N := some 22) (v := ?_) (a' := ?_) #[true, true, true, true, true, true, true, false, false, false, false, false, false, false, false, false, false, false] rfl rfl (Qv HT_.out (by kernel_rfl)) (fun _ _ _ h => h) (Or.inl ⟨by rfl, ?_⟩) ?_ ?_
       rotate_left
       ·intro w'
        go_simp
        with_reducible rfl
       rotate_left
       ·simp only [Act.put, List.setIfInBounds_toArray, List.set_cons_zero, List.set_cons_succ, Qr, Qs]
        rfl
       refine Qy (i := 7) (N := some 23) (v := ?_) (a' := ?_) #[true, true, true, true, true, true, true, true, false, false, false, false, false, false, false, false, false, false] rfl rfl (Qv HT_.out (by kernel_rfl)) (fun _ _ _ h => h) (Or.inl ⟨by rfl, ?_⟩) ?_ ?_
       rotate_left
       ·intro w'
        go_simp
        with_reducible rfl
       rotate_left
       ·simp only [Act.put, List.setIfInBounds_toArray, List.set_cons_zero, List.set_cons_succ, Qr, Qs]
        rfl
       refine Qy (i := 8) (N := some 24) (v := undef) (a' := ?_) #[true, true, true, true, true, true, true, true, true, false, false, false, false, false, false, false, false, false] rfl rfl (Qv HT_.out (by kernel_rfl)) (fun _ _ _ h => h) (Or.inr ⟨by rfl, rfl⟩) ?_ ?_
       rotate_left
       ·simp only [Act.put, List.setIfInBounds_toArray, List.set_cons_zero, List.set_cons_succ, Qr, Qs]
        rfl
       refine Qy (i := 9) (N := some 25) (v := undef) (a' := ?_) #[true, true, true, true, true, true, true, true, true, true, false, false, false, false, false, false, false, false] rfl rfl (Qv HT_.out (by kernel_rfl)) (fun _ _ _ h => h) (Or.inr ⟨by rfl, rfl⟩) ?_ ?_
       rotate_left
       ·simp only [Act.put, List.setIfInBounds_toArray, List.set_cons_zero, List.set_cons_succ, Qr, Qs]
        rfl
       refine Qy (i := 10) (N := some 26) (v := undef) (a' := ?_) #[true, true, true, true, true, true, true, true, true, true, true, false, false, false, false, false, false, false] rfl rfl (Qv HT_.out (by kernel_rfl)) (fun _ _ _ h => h) (Or.inr ⟨by rfl, rfl⟩) ?_ ?_
       rotate_left
       ·simp only [Act.put, List.setIfInBounds_toArray, List.set_cons_zero, List.set_cons_succ, Qr, Qs]
        rfl
       refine Qy (i := 11) (N := some 27) (v := undef) (a' := ?_) #[true, true, true, true, true, true, true, true, true, true, true, true, false, false, false, false, false, false] rfl rfl (Qv HT_.out (by kernel_rfl)) (fun _ _ _ h => h) (Or.inr ⟨by rfl, rfl⟩) ?_ ?_
       rotate_left
       ·simp only [Act.put, List.setIfInBounds_toArray, List.set_cons_zero, List.set_cons_succ, Qr, Qs]
        rfl
       refine Qy (i := 12) (N := some 28) (v := undef) (a' := ?_) #[true, true, true, true, true, true, true, true, true, true, true, true, true, false, false, false, false, false] rfl rfl (Qv HT_.out (by kernel_rfl)) (fun _ _ _ h => h) (Or.inr ⟨by rfl, rfl⟩) ?_ ?_
       rotate_left
       ·simp only [Act.put, List.setIfInBounds_toArray, List.set_cons_zero, List.set_cons_succ, Qr, Qs]
        rfl
       refine Qy (i := 13) (N := some 29) (v := undef) (a' := ?_) #[true, true, true, true, true, true, true, true, true, true, true, true, true, true, false, false, false, false] rfl rfl (Qv HT_.out (by kernel_rfl)) (fun _ _ _ h => h) (Or.inr ⟨by rfl, rfl⟩) ?_ ?_
       rotate_left
       ·simp only [Act.put, List.setIfInBounds_toArray, List.set_cons_zero, List.set_cons_succ, Qr, Qs]
        rfl
       refine Qy (i := 14) (N := some 30) (v := undef) (a' := ?_) #[true, true, true, true, true, true, true, true, true, true, true, true, true, true, true, false, false, false] rfl rfl (Qv HT_.out (by kernel_rfl)) (fun _ _ _ h => h) (Or.inr ⟨by rfl, rfl⟩) ?_ ?_
       rotate_left
       ·simp only [Act.put, List.setIfInBounds_toArray, List.set_cons_zero, List.set_cons_succ, Qr, Qs]
        rfl
       refine Qy (i := 15) (N := some 31) (v := undef) (a' := ?_) #[true, true, true, true, true, true, true, true, true, true, true, true, true, true, true, true, false, false] rfl rfl (Qv HT_.out (by kernel_rfl)) (fun _ _ _ h => h) (Or.inr ⟨by rfl, rfl⟩) ?_ ?_
       rotate_left
       ·simp only [Act.put, List.setIfInBounds_toArray, List.set_cons_zero, List.set_cons_succ, Qr, Qs]
        rfl
       refine Qy (i := 16) (N := some 32) (v := undef) (a' := ?_) #[true, true, true, true, true, true, true, true, true, true, true, true, true, true, true, true, true, false] rfl rfl (Qv HT_.out (by kernel_rfl)) (fun _ _ _ h => h) (Or.inr ⟨by rfl, rfl⟩) ?_ ?_
       rotate_left
       ·simp only [Act.put, List.setIfInBounds_toArray, List.set_cons_zero, List.set_cons_succ, Qr, Qs]
        rfl
       refine Qy (i := 17) (N := some 33) (v := ?_) (a' := ?_) #[true, true, true, true, true, true, true, true, true, true, true, true, true, true, true, true, true, true] rfl rfl (Qv HT_.out (by kernel_rfl)) (fun _ _ _ h => h) (Or.inl ⟨by rfl, ?_⟩) ?_ ?_
       rotate_left
       ·intro w'
        go_simp
        with_reducible rfl
       rotate_left
       ·simp only [Act.put, List.setIfInBounds_toArray, List.set_cons_zero, List.set_cons_succ, Qr, Qs]
        rfl
       refine done_ (done_of HT_.out (by kernel_rfl)) ?_
       try go_wp2
       have n0_ := Aside0.mk (Kd.R_drew HO_212000.out)
       have n1_ := Aside0.mk (Kd.R_drew HO_212001.out)
       have n2_ := Aside0.mk (Qj BK209.out)
       have n3_ := Aside0.mk (Qj BK210.out)
       have n4_ := Aside0.mk (Qj BK211.out)
       have n5_ := Aside0.mk (Qf HB.out)
       clear HO_212000
       clear HO_212001
       clear BK209
       clear BK210
       clear BK211
       clear HB
       have HO_212000 := n0_
       have HO_212001 := n1_
       have BK209 := n2_
       have BK210 := n3_
       have BK211 := n4_
       have HB := n5_
       clear n0_ n1_ n2_ n3_ n4_ n5_
       have p243 : 0 ≤ (x8_1 : Int) := of_decide_eq_true (by assumption)
       have q243 : x8_1 < (l0.length : Int) := of_decide_eq_true (by assumption)
       obtain ⟨ad243, e243, hx243_0, hx243_1, hx243_2, hx243_3, hx243_4, hx243_5, hx243_6, hx243_7, hx243_8⟩ := Q0 HR0.out x8_1 p243 q243
       have hw243_8 := hx243_8
       have hw243_7 := hx243_7
       have hw243_6 := hx243_6
       have hw243_5 := hx243_5
       have hw243_4 := hx243_4
       have hw243_3 := hx243_3
       have hw243_2 := hx243_2
       have hw243_1 := hx243_1
       have hw243_0 := hx243_0
       obtain rfl : ad219 = ad243 := (by injection e243)
       replace hx243_0 := (HB.out.cell (World.block_lt_of_cell? w _ hx243_0)).trans hx243_0
       replace hx243_1 := (HB.out.cell (World.block_lt_of_cell? w _ hx243_1)).trans hx243_1
       replace hx243_2 := (HB.out.cell (World.block_lt_of_cell? w _ hx243_2)).trans hx243_2
       replace hx243_3 := (HB.out.cell (World.block_lt_of_cell? w _ hx243_3)).trans hx243_3
       replace hx243_4 := (HB.out.cell (World.block_lt_of_cell? w _ hx243_4)).trans hx243_4
       replace hx243_5 := (HB.out.cell (World.block_lt_of_cell? w _ hx243_5)).trans hx243_5
       replace hx243_6 := (HB.out.cell (World.block_lt_of_cell? w _ hx243_6)).trans hx243_6
       replace hx243_7 := (HB.out.cell (World.block_lt_of_cell? w _ hx243_7)).trans hx243_7
       replace hx243_8 := (HB.out.cell (World.block_lt_of_cell? w _ hx243_8)).trans hx243_8
       replace p243 := eq_true p243
       replace q243 := eq_true q243
       refine start_ (n := 10) (S := fun w' => w'.cell? ⟨gb211, 0, none⟩ = some (u212000) ∧ w'.cell? ⟨gb211, 1, none⟩ = some (u212001) ∧ w'.cell? ⟨gb211, 2, none⟩ = some (.int .i64 x212002_1) ∧ w'.cell? (ad219.add ((x8_1).toNat * 9)) = some (.int .i64 ((Qc l0 x8_1).f0)) ∧ w'.cell? ⟨(ad219.add ((x8_1).toNat * 9)).block, (ad219.add ((x8_1).toNat * 9)).off + 1, none⟩ = some (.bool ((Qc l0 x8_1).f1)) ∧ w'.cell? ⟨(ad219.add ((x8_1).toNat * 9)).block, (ad219.add ((x8_1).toNat * 9)).off + 2, none⟩ = some (.int .i64 ((Qc l0 x8_1).f2.f0)) ∧ w'.cell? ⟨(ad219.add ((x8_1).toNat * 9)).block, (ad219.add ((x8_1).toNat * 9)).off + 3, none⟩ = some (.int .i64 ((Qc l0 x8_1).f2.f1)) ∧ w'.cell? ⟨(ad219.add ((x8_1).toNat * 9)).block, (ad219.add ((x8_1).toNat * 9)).off + 4, none⟩ = some (.int .i64 ((Qc l0 x8_1).f2.f2)) ∧ w'.cell? ⟨(ad219.add ((x8_1).toNat * 9)).block, (ad219.add ((x8_1).toNat * 9)).off + 5, none⟩ = some (.int .i64 ((Qc l0 x8_1).f2.f3)) ∧ w'.cell? ⟨(ad219.add ((x8_1).toNat * 9)).block, (ad219.add ((x8_1).toNat * 9)).off + 6, none⟩ = some (.int .i64 ((Qc l0 x8_1).f2.f4)) ∧ w'.cell? ⟨(ad219.add ((x8_1).toNat * 9)).block, (ad219.add ((x8_1).toNat * 9)).off + 7, none⟩ = some (.int .i64 ((Qc l0 x8_1).f2.f5)) ∧ w'.cell? ⟨(ad219.add ((x8_1).toNat * 9)).block, (ad219.add ((x8_1).toNat * 9)).off + 8, none⟩ = some (.bool ((Qc l0 x8_1).f2.f6))) (ds := [9]) #[false, false, false, false, false, false, false, false, false, false] (by kernel_rfl) rfl rfl ⟨(Qa BK211.out 0).trans rfl, (Qa BK211.out 1).trans rfl, (Qa BK211.out 2).trans rfl, ((HB.out.cell (World.block_lt_of_cell? w _ hw243_0)).trans hw243_0), ((HB.out.cell (World.block_lt_of_cell? w _ hw243_1)).trans hw243_1), ((HB.out.cell (World.block_lt_of_cell? w _ hw243_2)).trans hw243_2), ((HB.out.cell (World.block_lt_of_cell? w _ hw243_3)).trans hw243_3), ((HB.out.cell (World.block_lt_of_cell? w _ hw243_4)).trans hw243_4), ((HB.out.cell (World.block_lt_of_cell? w _ hw243_5)).trans hw243_5), ((HB.out.cell (World.block_lt_of_cell? w _ hw243_6)).trans hw243_6), ((HB.out.cell (World.block_lt_of_cell? w _ hw243_7)).trans hw243_7), ((HB.out.cell (World.block_lt_of_cell? w _ hw243_8)).trans hw243_8)⟩ (fun hHeld => ?_); refine with_tabW spec_l06Take.tab8 spec_l06Take.bits8 (fun HT_ HW_ => ?_)
       generalize w36.drew = w37 at HO_212000 HO_212001 BK209 BK210 BK211 HB hx243_0 hx243_1 hx243_2 hx243_3 hx243_4 hx243_5 hx243_6 hx243_7 hx243_8 hHeld ⊢
       refine Qy (i := 0) (N := some 45) (v := ?_) (a' := ?_) #[true, false, false, false, false, false, false, false, false, false] rfl rfl (Qv HT_.out (by kernel_rfl)) (fun _ _ _ h => h) (Or.inl ⟨by rfl, ?_⟩) ?_ ?_
       rotate_left
       ·intro w'
        go_simp
        with_reducible rfl
       rotate_left
       ·simp only [Act.put, List.setIfInBounds_toArray, List.set_cons_zero, List.set_cons_succ, Qr, Qs]
        rfl
       refine Qy (i := 2) (N := some 47) (v := ?_) (a' := ?_) #[true, false, true, false, false, false, false, false, false, false] rfl rfl (Qv HT_.out (by kernel_rfl)) (fun _ _ _ h => h) (Or.inl ⟨by rfl, ?_⟩) ?_ ?_
       rotate_left
       ·intro w'
        go_simp
        with_reducible rfl
       rotate_left
       ·simp only [Act.put, List.setIfInBounds_toArray, List.set_cons_zero, List.set_cons_succ, Qr, Qs]
        rfl
       refine Qy (i := 3) (N := some 48) (v := ?_) (a' := ?_) #[true, false, true, true, false, false, false, false, false, false] rfl rfl (Qv HT_.out (by kernel_rfl)) (fun _ _ _ h => h) (Or.inl ⟨by rfl, ?_⟩) ?_ ?_
       rotate_left
       ·intro w'
        go_simp
        with_reducible rfl
       rotate_left
       ·simp only [Act.put, List.setIfInBounds_toArray, List.set_cons_zero, List.set_cons_succ, Qr, Qs]
        rfl
       refine Qy (i := 4) (N := some 49) (v := ?_) (a' := ?_) #[true, false, true, true, true, false, false, false, false, false] rfl rfl (Qv HT_.out (by kernel_rfl)) (fun _ _ _ h => h) (Or.inl ⟨by rfl, ?_⟩) ?_ ?_
       rotate_left
       ·intro w'
        go_simp
        with_reducible rfl
       rotate_left
       ·simp only [Act.put, List.setIfInBounds_toArray, List.set_cons_zero, List.set_cons_succ, Qr, Qs]
        rfl
       refine take_ (i := 1) (N := some 46) (v := ?_) (a' := ?_) #[true, true, true, true, true, false, false, false, false, false] rfl rfl (Q4 HT_.out HW_.out (by kernel_rfl)) (fun _ _ _ h => h) (Or.inl ⟨by rfl, ?_⟩) hHeld ?_ ?_
       rotate_left
       ·rintro w' ⟨s0, s1, s2, s3, s4, s5, s6, s7, s8, s9, s10, s11⟩
        go_simp
        with_reducible rfl
       rotate_left
       ·simp only [Act.put, List.setIfInBounds_toArray, List.set_cons_zero, List.set_cons_succ, Qr, Qs]
        rfl
       refine take_ (i := 5) (N := some 50) (v := ?_) (a' := ?_) #[true, true, true, true, true, true, false, false, false, false] rfl rfl (Q4 HT_.out HW_.out (by kernel_rfl)) (fun _ _ _ h => h) (Or.inl ⟨by rfl, ?_⟩) hHeld ?_ ?_
       rotate_left
       ·rintro w' ⟨s0, s1, s2, s3, s4, s5, s6, s7, s8, s9, s10, s11⟩
        go_simp
        with_reducible rfl
       rotate_left
       ·simp only [Act.put, List.setIfInBounds_toArray, List.set_cons_zero, List.set_cons_succ, Qr, Qs]
        rfl
       refine one_ (i := 6) (N := some 51) #[true, true, true, true, true, true, true, false, false, false] rfl rfl (Q6 HT_.out (by kernel_rfl)) (by decide) (fun K hK => ?_)
       refine value_ (w1 := ?_) (v := ?_) (by rfl) rfl ?_ ?_
       rotate_left 2
       ·go_simp
        constructor
        ·rfl
        ·rfl
       refine hK.out _ _ ⟨(Qa (Qh BK211.out _) 0).trans rfl, (Qa (Qh BK211.out _) 1).trans rfl, (Qa (Qh BK211.out _) 2).trans rfl, (World.cell?_alloc_lt _ _ _ (World.block_lt_of_cell? _ _ (((HB.out.cell (World.block_lt_of_cell? w _ hw243_0)).trans hw243_0)))).trans (((HB.out.cell (World.block_lt_of_cell? w _ hw243_0)).trans hw243_0)), (World.cell?_alloc_lt _ _ _ (World.block_lt_of_cell? _ _ (((HB.out.cell (World.block_lt_of_cell? w _ hw243_1)).trans hw243_1)))).trans (((HB.out.cell (World.block_lt_of_cell? w _ hw243_1)).trans hw243_1)), (World.cell?_alloc_lt _ _ _ (World.block_lt_of_cell? _ _ (((HB.out.cell (World.block_lt_of_cell? w _ hw243_2)).trans hw243_2)))).trans (((HB.out.cell (World.block_lt_of_cell? w _ hw243_2)).trans hw243_2)), (World.cell?_alloc_lt _ _ _ (World.block_lt_of_cell? _ _ (((HB.out.cell (World.block_lt_of_cell? w _ hw243_3)).trans hw243_3)))).trans (((HB.out.cell (World.block_lt_of_cell? w _ hw243_3)).trans hw243_3)), (World.cell?_alloc_lt _ _ _ (World.block_lt_of_cell? _ _ (((HB.out.cell (World.block_lt_of_cell? w _ hw243_4)).trans hw243_4)))).trans (((HB.out.cell (World.block_lt_of_cell? w _ hw243_4)).trans hw243_4)), (World.cell?_alloc_lt _ _ _ (World.block_lt_of_cell? _ _ (((HB.out.cell (World.block_lt_of_cell? w _ hw243_5)).trans hw243_5)))).trans (((HB.out.cell (World.block_lt_of_cell? w _ hw243_5)).trans hw243_5)), (World.cell?_alloc_lt _ _ _ (World.block_lt_of_cell? _ _ (((HB.out.cell (World.block_lt_of_cell? w _ hw243_6)).trans hw243_6)))).trans (((HB.out.cell (World.block_lt_of_cell? w _ hw243_6)).trans hw243_6)), (World.cell?_alloc_lt _ _ _ (World.block_lt_of_cell? _ _ (((HB.out.cell (World.block_lt_of_cell? w _ hw243_7)).trans hw243_7)))).trans (((HB.out.cell (World.block_lt_of_cell? w _ hw243_7)).trans hw243_7)), (World.cell?_alloc_lt _ _ _ (World.block_lt_of_cell? _ _ (((HB.out.cell (World.block_lt_of_cell? w _ hw243_8)).trans hw243_8)))).trans (((HB.out.cell (World.block_lt_of_cell? w _ hw243_8)).trans hw243_8))⟩ (fun hHeld => ?_)
       clear hK K
       refine Q5 (a' := ?_) ?_ ?_
       rotate_left
       ·show Act.put _ (some 51) _ = _
        simp only [Act.put, List.setIfInBounds_toArray, List.set_cons_zero, List.set_cons_succ, Qr, Qs]
        rfl
       refine one_ (i := 7) (N := some 52) #[true, true, true, true, true, true, true, true, false, false] rfl rfl (Q6 HT_.out (by kernel_rfl)) (by decide) (fun K hK => ?_)
       refine Kd.R_append_step k73 (w0 := w) w.heap.size (by rfl) (.tmp 46) (.tmp 51) 26 73 (.agg #[(.int .i64 0), (.bool false), (.int .i64 0), (.int .i64 0), (.int .i64 0), (.int .i64 0), (.int .i64 0), (.int .i64 0), (.bool false)]) 72 rfl Try.underlying26 info73 rfl (by decide) (by omega) u212000 x212000_1 (⟨(Qc l0 x8_1).f0, (Qc l0 x8_1).f1, (⟨(Qc l0 x8_1).f2.f0, (Qc l0 x8_1).f2.f1, (Qc l0 x8_1).f2.f2, (Qc l0 x8_1).f2.f3, (Qc l0 x8_1).f2.f4, (Qc l0 x8_1).f2.f5, (Qc l0 x8_1).f2.f6⟩ : S42)⟩ : S73) [.int .i64 ((Qc l0 x8_1).f0), .bool ((Qc l0 x8_1).f1), .int .i64 ((Qc l0 x8_1).f2.f0), .int .i64 ((Qc l0 x8_1).f2.f1), .int .i64 ((Qc l0 x8_1).f2.f2), .int .i64 ((Qc l0 x8_1).f2.f3), .int .i64 ((Qc l0 x8_1).f2.f4), .int .i64 ((Qc l0 x8_1).f2.f5), .bool ((Qc l0 x8_1).f2.f6)] (fun _ => True) (fun _ => False) rfl rfl ?aP (fun _ hk => hk.elim) ?aF ?aO ?aB ?aS ?aL ?_
       (case aP => exact k73_mkM _ _ _ (⟨(Qc l0 x8_1).f0, (Qc l0 x8_1).f1, (⟨(Qc l0 x8_1).f2.f0, (Qc l0 x8_1).f2.f1, (Qc l0 x8_1).f2.f2, (Qc l0 x8_1).f2.f3, (Qc l0 x8_1).f2.f4, (Qc l0 x8_1).f2.f5, (Qc l0 x8_1).f2.f6⟩ : S42)⟩ : S73))
       (case aB => exact (by repeat (first | (with_reducible first | exact HB.out | apply Qg | apply Qb | apply Qf | refine Qe ?_ GE209.out | refine Qe ?_ GE210.out | refine Qe ?_ GE211.out) | exact HB.out)))
       (case aF => exact (fun _ _ => trivial))
       (case aO => exact (by (with_reducible repeat (first | apply Kd.R_alloc | apply Kd.R_drewN | apply Kd.R_drew)); exact HO_212000.out))
       (case aS => exact (Ql (by repeat (first | (with_reducible first | exact HB.out | apply Qg | apply Qb | apply Qf | refine Qe ?_ GE209.out | refine Qe ?_ GE210.out | refine Qe ?_ GE211.out) | exact HB.out))))
       (case aL => have := LMc35.out; omega)
       intro v245 w38 ho hb hg hat
       rw [← Ny244.out] at ho
       have n0_ := Aside0.mk (Kd.R_over' (by (with_reducible repeat (first | apply Kd.R_alloc | apply Kd.R_drewN | apply Kd.R_drew)); exact HO_212001.out) (Kd.R_typed (by (with_reducible repeat (first | apply Kd.R_alloc | apply Kd.R_drewN | apply Kd.R_drew)); exact HO_212000.out)) (by decide) hg)
       have n1_ := Aside0.mk (blk_grown (g := gb209) (o := .cells #[.int .i64 a2_0, .int .i64 a2_1, .int .i64 a2_2, .int .i64 a2_3, .int .i64 a2_4, .int .i64 a2_5, .bool a2_6] 42 (0, 0)) (by (with_reducible repeat (first | refine Qi ?_ _ | refine Qj ?_ | refine Qh ?_ _)); exact BK209.out) hg (Kd.R_ne HO_212000.out BK209.out (by decide)))
       have n2_ := Aside0.mk (blk_grown (g := gb210) (o := .cells #[.slice none 0 0, .slice none 0 0, .int .i64 0] 34 (0, 0)) (by (with_reducible repeat (first | refine Qi ?_ _ | refine Qj ?_ | refine Qh ?_ _)); exact BK210.out) hg (Kd.R_ne HO_212000.out BK210.out (by decide)))
       have n3_ := Aside0.mk (blk_grown (g := gb211) (o := .cells #[u212000, u212001, .int .i64 x212002_1] 34 (0, 0)) (by (with_reducible repeat (first | refine Qi ?_ _ | refine Qj ?_ | refine Qh ?_ _)); exact BK211.out) hg (Kd.R_ne HO_212000.out BK211.out (by decide)))
       have n4_ := Aside0.mk (hb)
       have n5_ := Aside0.mk (ho)
       clear HO_212001
       clear BK209
       clear BK210
       clear BK211
       clear HB
       clear HO_212000
       have HO_212001 := n0_
       have BK209 := n1_
       have BK210 := n2_
       have BK211 := n3_
       have HB := n4_
       have HO246 := n5_
       clear n0_ n1_ n2_ n3_ n4_ n5_
       clear ho hb hg hat
       obtain ⟨Ao39, co39, eo39⟩ := Kd.R_slice HO246.out
       (first | subst eo39 | (injection eo39 with f1_ f2_ f3_; have f4_ := f1_.symm; have f5_ := f3_.symm; clear f1_ f2_ f3_; subst f4_; subst f5_))
       refine hK.out _ _ ⟨(Qa BK211.out 0).trans rfl, (Qa BK211.out 1).trans rfl, (Qa BK211.out 2).trans rfl, ((HB.out.cell (World.block_lt_of_cell? w _ hw243_0)).trans hw243_0), ((HB.out.cell (World.block_lt_of_cell? w _ hw243_1)).trans hw243_1), ((HB.out.cell (World.block_lt_of_cell? w _ hw243_2)).trans hw243_2), ((HB.out.cell (World.block_lt_of_cell? w _ hw243_3)).trans hw243_3), ((HB.out.cell (World.block_lt_of_cell? w _ hw243_4)).trans hw243_4), ((HB.out.cell (World.block_lt_of_cell? w _ hw243_5)).trans hw243_5), ((HB.out.cell (World.block_lt_of_cell? w _ hw243_6)).trans hw243_6), ((HB.out.cell (World.block_lt_of_cell? w _ hw243_7)).trans hw243_7), ((HB.out.cell (World.block_lt_of_cell? w _ hw243_8)).trans hw243_8)⟩ (fun hHeld => ?_)
       clear hK K
       refine Q5 (a' := ?_) ?_ ?_
       rotate_left
       ·show Act.put _ (some 52) _ = _
        simp only [Act.put, List.setIfInBounds_toArray, List.set_cons_zero, List.set_cons_succ, Qr, Qs]
        rfl
       refine Qy (i := 8) (N := some 53) (v := ?_) (a' := ?_) #[true, true, true, true, true, true, true, true, true, false] rfl rfl (Qv HT_.out (by kernel_rfl)) (fun _ _ _ h => h) (Or.inl ⟨by rfl, ?_⟩) ?_ ?_
       rotate_left
       ·intro w'
        go_simp
        with_reducible rfl
       rotate_left
       ·simp only [Act.put, List.setIfInBounds_toArray, List.set_cons_zero, List.set_cons_succ, Qr, Qs]
        rfl
       refine last_ (i := 9) (N := none) #[true, true, true, true, true, true, true, true, true, true] rfl rfl (Q6 HT_.out (by kernel_rfl)) (by decide) (fun K hK => ?_)
       have hs40 : w38.cell? ⟨gb211, 0, none⟩ = some (u212000) := (Qa BK211.out 0).trans rfl
       have hfs40 := Qd BK211.out 0
       have hns40_0 := NB209_211.out
       have hns40_1 := NB210_211.out
       have hms40_0 := NB211_209.out
       have hms40_1 := NB211_210.out
       refine skip_ (w1 := ?_) (by rfl) rfl ?_ ?_
       rotate_left
       ·go_simp
        rfl
       refine hK.out _ _ ?_
       clear hK K
       refine done_ (done_of HT_.out (by kernel_rfl)) ?_
       try go_wp2
       go_roundg k1
       case measure => have := HK1.out; omega
       case rel => exact ⟨(wrap64 (x8_1 + 1)), (y244), (x212001_1), (x212002_1), (.slice Ao39 y244.length co39), (u212001), (by first | rfl | (simp; done) | (simp [*]; done)), H', ⟨by have := HK1.out; omega⟩, ⟨by (with_reducible repeat (first | apply Kd.R_alloc | apply Kd.R_drewN | apply Kd.R_drew)); exact Kd.R_mono (Kd.R_far (p := ⟨gb211, 0, none⟩) (Kd.R_types HO246.out BK211.out (by decide)) (fun _ hk => hk.2) (.slice Ao39 y244.length co39)) (fun _ hk => trivial)⟩, ⟨by (with_reducible repeat (first | apply Kd.R_alloc | apply Kd.R_drewN | apply Kd.R_drew)); exact Kd.R_mono (Kd.R_far (p := ⟨gb211, 0, none⟩) (Kd.R_types HO_212001.out BK211.out (by decide)) (fun _ hk => hk.2) (.slice Ao39 y244.length co39)) (fun _ hk => hk.1)⟩, ⟨by (with_reducible repeat (first | refine Qi ?_ _ | refine Qj ?_ | refine Qh ?_ _)); refine Q1 ?_ NB209_211.out _; (with_reducible repeat (first | refine Qi ?_ _ | refine Qj ?_ | refine Qh ?_ _)); exact BK209.out⟩, ⟨by (with_reducible repeat (first | refine Qi ?_ _ | refine Qj ?_ | refine Qh ?_ _)); refine Q1 ?_ NB210_211.out _; (with_reducible repeat (first | refine Qi ?_ _ | refine Qj ?_ | refine Qh ?_ _)); exact BK210.out⟩, ⟨by (with_reducible repeat (first | refine Qi ?_ _ | refine Qj ?_ | refine Qh ?_ _)); refine Qz (cs := #[u212000, u212001, .int .i64 x212002_1]) ?_ 0 _ rfl; (with_reducible repeat (first | refine Qi ?_ _ | refine Qj ?_ | refine Qh ?_ _)); exact BK211.out⟩, ⟨by repeat (first | (with_reducible first | exact HB.out | apply Qg | apply Qb | apply Qf | refine Qe ?_ GE209.out | refine Qe ?_ GE210.out | refine Qe ?_ GE211.out) | exact HB.out)⟩⟩
      ·rw [if_neg c35] at H
       exact absurd H (by simp)
    ·rw [if_neg c11] at H
     exact absurd H (by simp)
   ·rw [if_neg c10] at H
    have c10b0 : decide (x8_1 < (l0.length : Int)) = false := decide_eq_false c10
    clear c10
    by_cases c41 : x212002_1 = 0
    ·rw [if_pos c41] at H
     have c41b0 : (x212002_1 == 0) = true := beq_iff_eq.mpr c41
     have c41b1 : (x212002_1 != 0) = false := bne_eq_false_iff_eq.mpr c41
     clear c41
     simp only [Option.some.injEq, Prod.mk.injEq] at H
     obtain ⟨rfl, rfl, rfl⟩ := H
     have hnb42 := NB211_209.out
     have hnc42 := NB209_211.out
     have hnb43 := NB211_210.out
     have hnc43 := NB210_211.out
     have hcz44_0 : wr.cell? ⟨gb211, 0, none⟩ = some (u212000) := (Qa BK211.out 0).trans rfl
     have hcz44_1 : wr.cell? ⟨gb211, 1, none⟩ = some (u212001) := (Qa BK211.out 1).trans rfl
     have hcz44_2 : wr.cell? ⟨gb211, 2, none⟩ = some (.int .i64 x212002_1) := (Qa BK211.out 2).trans rfl
     have hfz44_0 := Qd BK211.out 0
     have hfz44_1 := Qd BK211.out 1
     have hfz44_2 := Qd BK211.out 2
     obtain ⟨Ao45, co45, eo45⟩ := Kd.R_slice HO_212000.out
     subst eo45
     have hnb46 := NB210_209.out
     have hnc46 := NB209_210.out
     have hcz47_0 : wr.cell? ⟨gb210, 0, none⟩ = some (.slice none 0 0) := (Qa BK210.out 0).trans rfl
     have hcz47_1 : wr.cell? ⟨gb210, 1, none⟩ = some (.slice none 0 0) := (Qa BK210.out 1).trans rfl
     have hcz47_2 : wr.cell? ⟨gb210, 2, none⟩ = some (.int .i64 0) := (Qa BK210.out 2).trans rfl
     have hfz47_0 := Qd BK210.out 0
     have hfz47_1 := Qd BK210.out 1
     have hfz47_2 := Qd BK210.out 2
     obtain ⟨Ao48, co48, eo48⟩ := Kd.R_slice HO_212001.out
     subst eo48
     go_wp2
     refine bodyPost_ret (results_cell_row rfl _ _ gb210 34 #[.slice Ao45 x212000_1.length co45, .slice Ao48 x212001_1.length co48, .int .i64 x212002_1] (0, 0) _ rfl (by (with_reducible repeat (first | refine Qi ?_ _ | refine Qj ?_ | refine Qh ?_ _)); refine Qz (cs := #[.slice Ao45 x212000_1.length co45, .slice Ao48 x212001_1.length co48, .int .i64 0]) ?_ 2 _ rfl; (with_reducible repeat (first | refine Qi ?_ _ | refine Qj ?_ | refine Qh ?_ _)); refine Qz (cs := #[.slice Ao45 x212000_1.length co45, .slice none 0 0, .int .i64 0]) ?_ 1 _ rfl; (with_reducible repeat (first | refine Qi ?_ _ | refine Qj ?_ | refine Qh ?_ _)); refine Qz (cs := #[.slice none 0 0, .slice none 0 0, .int .i64 0]) ?_ 0 _ rfl; (with_reducible repeat (first | refine Qi ?_ _ | refine Qj ?_ | refine Qh ?_ _)); exact BK210.out) Try.underlying34 rfl (by kernel_rfl)) rfl ?_
     exact ⟨_, _, by first | rfl | (simp [Qp, Qo] <;> rfl) | (simp [*, Qp, Qo] <;> rfl), by (with_reducible repeat (first | apply Kd.R_alloc | apply Kd.R_drewN | apply Kd.R_drew)); exact Kd.R_mono (Kd.R_far (p := ⟨gb210, 2, none⟩) (Kd.R_far (p := ⟨gb210, 1, none⟩) (Kd.R_far (p := ⟨gb210, 0, none⟩) (Kd.R_types HO_212000.out BK210.out (by decide)) (fun _ hk => hk.2) (.slice Ao45 x212000_1.length co45)) (fun _ hk => hk.2) (.slice Ao48 x212001_1.length co48)) (fun _ hk => hk.2) (.int .i64 x212002_1)) (fun _ hk => trivial), by (with_reducible repeat (first | apply Kd.R_alloc | apply Kd.R_drewN | apply Kd.R_drew)); exact Kd.R_mono (Kd.R_far (p := ⟨gb210, 2, none⟩) (Kd.R_far (p := ⟨gb210, 1, none⟩) (Kd.R_far (p := ⟨gb210, 0, none⟩) (Kd.R_types HO_212001.out BK210.out (by decide)) (fun _ hk => hk.2) (.slice Ao45 x212000_1.length co45)) (fun _ hk => hk.2) (.slice Ao48 x212001_1.length co48)) (fun _ hk => hk.2) (.int .i64 x212002_1)) (fun _ hk => trivial), by repeat (first | (with_reducible first | exact HB.out | apply Qg | apply Qb | apply Qf | refine Qe ?_ GE209.out | refine Qe ?_ GE210.out | refine Qe ?_ GE211.out) | exact HB.out)⟩
    ·rw [if_neg c41] at H
     have c41b0 : (x212002_1 == 0) = false := beq_eq_false_iff_ne.mpr c41
     have c41b1 : (x212002_1 != 0) = true := bne_iff_ne.mpr c41
     replace H := Option.bind_eq_some_iff.mp H
     obtain ⟨⟨t212, t215, t218⟩, A490, H⟩ := H
     replace H : (some (t212, t215, t218)) = some (r1, r2, r3) := H
     have A49 := Aside0.mk A490
     clear A490
     simp only [Option.some.injEq, Prod.mk.injEq] at H
     obtain ⟨rfl, rfl, rfl⟩ := H
     have hnb50 := NB211_209.out
     have hnc50 := NB209_211.out
     have hnb51 := NB211_210.out
     have hnc51 := NB210_211.out
     have hcz52_0 : wr.cell? ⟨gb211, 0, none⟩ = some (u212000) := (Qa BK211.out 0).trans rfl
     have hcz52_1 : wr.cell? ⟨gb211, 1, none⟩ = some (u212001) := (Qa BK211.out 1).trans rfl
     have hcz52_2 : wr.cell? ⟨gb211, 2, none⟩ = some (.int .i64 x212002_1) := (Qa BK211.out 2).trans rfl
     have hfz52_0 := Qd BK211.out 0
     have hfz52_1 := Qd BK211.out 1
     have hfz52_2 := Qd BK211.out 2
     go_wp2_with (first | ((with_reducible refine Qq (f := 61) rfl ?_); refine Qx (some 59) rfl rfl Try.func61 (by kernel_rfl) rfl #[.int .i64 x212002_1] rfl (by (try simp only [List.map_toArray, List.map_cons, List.map_nil]); first | done | rfl | (simp only [List.length_drop, List.length_take]; rfl)) ?_; (with_reducible refine (spec_l06Ill.calls x212002_1 t212 t215 t218 _ A49.out).mono ?_); rintro e w53 ⟨v213, v216, rfl, ho0, ho1, hb⟩; refine ⟨_, rfl, ?_⟩; have n0_ := Aside0.mk (Kd.R_elder' (by (with_reducible repeat (first | apply Kd.R_alloc | apply Kd.R_drewN | apply Kd.R_drew)); exact HO_212000.out) (Kd.R_base ho0) hb); have n1_ := Aside0.mk (Kd.R_elder' (by (with_reducible repeat (first | apply Kd.R_alloc | apply Kd.R_drewN | apply Kd.R_drew)); exact HO_212001.out) (Kd.R_base ho1) hb); have n2_ := Aside0.mk (Kd.R_lower (Kd.R_new' ho0 (Kd.R_lt (by (with_reducible repeat (first | apply Kd.R_alloc | apply Kd.R_drewN | apply Kd.R_drew)); exact HO_212000.out))) (Ql (by repeat (first | (with_reducible first | exact HB.out | apply Qg | apply Qb | apply Qf | refine Qe ?_ GE209.out | refine Qe ?_ GE210.out | refine Qe ?_ GE211.out) | exact HB.out)))); have n3_ := Aside0.mk (Kd.R_lower (Kd.R_newB (Kd.R_new' ho1 (Kd.R_lt (by (with_reducible repeat (first | apply Kd.R_alloc | apply Kd.R_drewN | apply Kd.R_drew)); exact HO_212001.out))) (g := gb209) (o := .cells #[.int .i64 a2_0, .int .i64 a2_1, .int .i64 a2_2, .int .i64 a2_3, .int .i64 a2_4, .int .i64 a2_5, .bool a2_6] 42 (0, 0)) (by (with_reducible repeat (first | refine Qi ?_ _ | refine Qj ?_ | refine Qh ?_ _)); exact BK209.out)) (Ql (by repeat (first | (with_reducible first | exact HB.out | apply Qg | apply Qb | apply Qf | refine Qe ?_ GE209.out | refine Qe ?_ GE210.out | refine Qe ?_ GE211.out) | exact HB.out)))); have n4_ := Aside0.mk (Qm (g := gb209) (o := .cells #[.int .i64 a2_0, .int .i64 a2_1, .int .i64 a2_2, .int .i64 a2_3, .int .i64 a2_4, .int .i64 a2_5, .bool a2_6] 42 (0, 0)) (by (with_reducible repeat (first | refine Qi ?_ _ | refine Qj ?_ | refine Qh ?_ _)); exact BK209.out) hb); have n5_ := Aside0.mk (Qm (g := gb210) (o := .cells #[.slice none 0 0, .slice none 0 0, .int .i64 0] 34 (0, 0)) (by (with_reducible repeat (first | refine Qi ?_ _ | refine Qj ?_ | refine Qh ?_ _)); exact BK210.out) hb); have n6_ := Aside0.mk (Qm (g := gb211) (o := .cells #[u212000, u212001, .int .i64 x212002_1] 34 (0, 0)) (by (with_reducible repeat (first | refine Qi ?_ _ | refine Qj ?_ | refine Qh ?_ _)); exact BK211.out) hb); have n7_ := Aside0.mk (Qn (by repeat (first | (with_reducible first | exact HB.out | apply Qg | apply Qb | apply Qf | refine Qe ?_ GE209.out | refine Qe ?_ GE210.out | refine Qe ?_ GE211.out) | exact HB.out)) hb); clear HO_212000; clear HO_212001; clear BK209; clear BK210; clear BK211; clear HB; have HO_212000 := n0_; have HO_212001 := n1_; have HO214 := n2_; have HO217 := n3_; have BK209 := n4_; have BK210 := n5_; have BK211 := n6_; have HB := n7_; clear n0_ n1_ n2_ n3_ n4_ n5_ n6_ n7_; (try clear hb); (try clear hb2); (try clear hk); (try clear hi); (try clear ho0); (try clear ho1); obtain ⟨Ao54, co54, eo54⟩ := Kd.R_slice HO214.out; subst eo54; have hnb55 := NB210_209.out; have hnc55 := NB209_210.out; have hcz56_0 : w53.cell? ⟨gb210, 0, none⟩ = some (.slice none 0 0) := (Qa BK210.out 0).trans rfl; have hcz56_1 : w53.cell? ⟨gb210, 1, none⟩ = some (.slice none 0 0) := (Qa BK210.out 1).trans rfl; have hcz56_2 : w53.cell? ⟨gb210, 2, none⟩ = some (.int .i64 0) := (Qa BK210.out 2).trans rfl; have hfz56_0 := Qd BK210.out 0; have hfz56_1 := Qd BK210.out 1; have hfz56_2 := Qd BK210.out 2; obtain ⟨Ao57, co57, eo57⟩ := Kd.R_slice HO217.out; subst eo57))
     refine bodyPost_ret (results_cell_row rfl _ _ gb210 34 #[.slice Ao54 t212.length co54, .slice Ao57 t215.length co57, .int .i64 t218] (0, 0) _ rfl (by (with_reducible repeat (first | refine Qi ?_ _ | refine Qj ?_ | refine Qh ?_ _)); refine Qz (cs := #[.slice Ao54 t212.length co54, .slice Ao57 t215.length co57, .int .i64 0]) ?_ 2 _ rfl; (with_reducible repeat (first | refine Qi ?_ _ | refine Qj ?_ | refine Qh ?_ _)); refine Qz (cs := #[.slice Ao54 t212.length co54, .slice none 0 0, .int .i64 0]) ?_ 1 _ rfl; (with_reducible repeat (first | refine Qi ?_ _ | refine Qj ?_ | refine Qh ?_ _)); refine Qz (cs := #[.slice none 0 0, .slice none 0 0, .int .i64 0]) ?_ 0 _ rfl; (with_reducible repeat (first | refine Qi ?_ _ | refine Qj ?_ | refine Qh ?_ _)); exact BK210.out) Try.underlying34 rfl (by kernel_rfl)) rfl ?_
     exact ⟨_, _, by first | rfl | (simp [Qp, Qo] <;> rfl) | (simp [*, Qp, Qo] <;> rfl), by (with_reducible repeat (first | apply Kd.R_alloc | apply Kd.R_drewN | apply Kd.R_drew)); exact Kd.R_mono (Kd.R_far (p := ⟨gb210, 2, none⟩) (Kd.R_far (p := ⟨gb210, 1, none⟩) (Kd.R_far (p := ⟨gb210, 0, none⟩) (Kd.R_types HO214.out BK210.out (by decide)) (fun _ hk => hk.2) (.slice Ao54 t212.length co54)) (fun _ hk => hk.2) (.slice Ao57 t215.length co57)) (fun _ hk => hk.2) (.int .i64 t218)) (fun _ hk => trivial), by (with_reducible repeat (first | apply Kd.R_alloc | apply Kd.R_drewN | apply Kd.R_drew)); exact Kd.R_mono (Kd.R_far (p := ⟨gb210, 2, none⟩) (Kd.R_far (p := ⟨gb210, 1, none⟩) (Kd.R_far (p := ⟨gb210, 0, none⟩) (Kd.R_types HO217.out BK210.out (by decide)) (fun _ hk => hk.2) (.slice Ao54 t212.length co54)) (fun _ hk => hk.2) (.slice Ao57 t215.length co57)) (fun _ hk => hk.2) (.int .i64 t218)) (fun _ hk => trivial), by repeat (first | (with_reducible first | exact HB.out | apply Qg | apply Qb | apply Qf | refine Qe ?_ GE209.out | refine Qe ?_ GE210.out | refine Qe ?_ GE211.out) | exact HB.out)⟩
end Go.Proofs.Ytmgmaflfednngaa.PFnExactRibTake
