-- A copy, made by trim.py (its own words shortened): not an official print.
import Derived.Test.YtmgmaflfednngaaZExactRibPutPFnExactRibPutx0
import Derived.Test.YtmgmaflfednngaaZExactRibPutPFnExactRibPutx7
import Derived.Test.YtmgmaflfednngaaZExactRibPutPFnExactRibPutx9
namespace Go.Proofs.Ytmgmaflfednngaa.PFnExactRibPut
open Go.RowKit Go.Proofs.YtmgmaflfednngaaW.PrintWords Go.Proofs.YtmgmaflfednngaaW.PrintLast Go.Proofs.YtmgmaflfednngaaW.PrintMore
attribute [local go_sem] max2_int min2_int max_two min_two max_three min_three max_four min_four   -- for this text's walks alone
set_option linter.unusedVariables false
set_option linter.unusedSimpArgs false
mutual
def spec_l06Put.j1 : Nat → List (S73) → Int → Int → Bool → Int → Int → Int → Int → Int → Int → Bool → Option ((List (S73)) × (List (S42)) × Int)
 | 0, _, _, _, _, _, _, _, _, _, _, _ => none
 | k + 1, x0, x8, x210000, x210001, x210002, x210003, x210004, x210005, x210006, x210007, x210008 => (some (([] : List (S73)) : List (S73))).bind fun y212 => (if 0 ≤ x8 then (if x8 ≤ (x0.length : Int) then ((some (x0.take (x8 : Int).toNat : List (S73))).bind fun y215 => (if y212.length + y215.length < 1954687338268 then ((some (y212 ++ y215 : List (S73))).bind fun y219 => (if y219.length < 1954687338268 then ((some (y219 ++ [(⟨x210000, x210001, (⟨x210002, x210003, x210004, x210005, x210006, x210007, x210008⟩ : S42)⟩ : S73)] : List (S73))).bind fun y222 => (if x8 < (x0.length : Int) then ((spec_l06Less.f x210000 x210001 x210002 x210003 x210004 x210005 x210006 x210007 x210008 ((Qf x0 x8).f0) ((Qf x0 x8).f1) ((Qf x0 x8).f2.f0) ((Qf x0 x8).f2.f1) ((Qf x0 x8).f2.f2) ((Qf x0 x8).f2.f3) ((Qf x0 x8).f2.f4) ((Qf x0 x8).f2.f5) ((Qf x0 x8).f2.f6)).bind fun t226 => (spec_l06Put.j2 k x0 x8 y222 (!t226))) else (spec_l06Put.j2 k x0 x8 y222 false))) else (none))) else (none))) else (none)) else (none))
def spec_l06Put.j2 : Nat → List (S73) → Int → List (S73) → Bool → Option ((List (S73)) × (List (S42)) × Int)
 | 0, _, _, _, _ => none
 | k + 1, x0, x8, x9, x48 => if x48 = true then (if 0 ≤ (wrap64 (x8 + 1)) then (if (wrap64 (x8 + 1)) ≤ (x0.length : Int) then ((some (x0.drop ((wrap64 (x8 + 1)) : Int).toNat : List (S73))).bind fun y227 => (if x9.length + y227.length < 1954687338268 then (some ((x9 ++ y227), ([] : List (S42)), 0)) else (none))) else (none)) else (none)) else (if (x0.length : Int) ≥ 60 then ((spec_l06Ill.f 9).bind fun bt234 => (some (bt234.1, bt234.2.1, bt234.2.2))) else (if 0 ≤ x8 then (if x8 ≤ (x0.length : Int) then ((some (x0.drop (x8 : Int).toNat : List (S73))).bind fun y241 => (if x9.length + y241.length < 1954687338268 then (some ((x9 ++ y241), ([] : List (S42)), 0)) else (none))) else (none)) else (none)))
def spec_l06Put.l0 : Nat → List (S73) → Int → Int → Bool → Int → Int → Int → Int → Int → Int → Bool → Option ((List (S73)) × (List (S42)) × Int)
 | 0, _, _, _, _, _, _, _, _, _, _, _ => none
 | k + 1, x0, x8, x210000, x210001, x210002, x210003, x210004, x210005, x210006, x210007, x210008 => if x8 < (x0.length : Int) then (if 0 ≤ x8 then ((spec_l06Less.f ((Qf x0 x8).f0) ((Qf x0 x8).f1) ((Qf x0 x8).f2.f0) ((Qf x0 x8).f2.f1) ((Qf x0 x8).f2.f2) ((Qf x0 x8).f2.f3) ((Qf x0 x8).f2.f4) ((Qf x0 x8).f2.f5) ((Qf x0 x8).f2.f6) x210000 x210001 x210002 x210003 x210004 x210005 x210006 x210007 x210008).bind fun t211 => (if t211 = true then (spec_l06Put.l0 k x0 (wrap64 (x8 + 1)) x210000 x210001 x210002 x210003 x210004 x210005 x210006 x210007 x210008) else (spec_l06Put.j1 k x0 x8 x210000 x210001 x210002 x210003 x210004 x210005 x210006 x210007 x210008))) else (none)) else (spec_l06Put.j1 k x0 x8 x210000 x210001 x210002 x210003 x210004 x210005 x210006 x210007 x210008)
end
def spec_l06Put.f (k : Nat) (l0 : List (S73)) (a1 : Int) (a2_0 : Int) (a2_1 : Int) (a2_2 : Int) (a2_3 : Int) (a2_4 : Int) (a2_5 : Int) (a2_6 : Bool) : Option ((List (S73)) × (List (S42)) × Int) := spec_l06Put.l0 k l0 0 a1 false a2_0 a2_1 a2_2 a2_3 a2_4 a2_5 a2_6
theorem spec_l06Put.mono_l : ∀ k, (∀ y0 y1 y2 y3 y4 y5 y6 y7 y8 y9 y10, LeO (spec_l06Put.j1 k y0 y1 y2 y3 y4 y5 y6 y7 y8 y9 y10) (spec_l06Put.j1 (k + 1) y0 y1 y2 y3 y4 y5 y6 y7 y8 y9 y10)) ∧ (∀ y0 y1 y2 y3, LeO (spec_l06Put.j2 k y0 y1 y2 y3) (spec_l06Put.j2 (k + 1) y0 y1 y2 y3)) ∧ (∀ y0 y1 y2 y3 y4 y5 y6 y7 y8 y9 y10, LeO (spec_l06Put.l0 k y0 y1 y2 y3 y4 y5 y6 y7 y8 y9 y10) (spec_l06Put.l0 (k + 1) y0 y1 y2 y3 y4 y5 y6 y7 y8 y9 y10))
 | 0 => ⟨fun _ _ _ _ _ _ _ _ _ _ _ r h => by simp [spec_l06Put.j1] at h, fun _ _ _ _ r h => by simp [spec_l06Put.j2] at h, fun _ _ _ _ _ _ _ _ _ _ _ r h => by simp [spec_l06Put.l0] at h⟩
 | k + 1 => by
  obtain ⟨ih0, ih1, ih2⟩ := spec_l06Put.mono_l k
  refine ⟨?_, ?_, ?_⟩
  ·intro y0 y1 y2 y3 y4 y5 y6 y7 y8 y9 y10
   unfold spec_l06Put.j1
   repeat' first
   | (with_reducible exact ih0 _ _ _ _ _ _ _ _ _ _ _)
   | (with_reducible exact ih1 _ _ _ _)
   | (with_reducible exact ih2 _ _ _ _ _ _ _ _ _ _ _)
   | (with_reducible exact LeO.refl _)
   | (with_reducible exact LeO.none _)
   | (with_reducible refine LeO.ite ?_ ?_)
   | (with_reducible refine LeO.bind ?_ (fun _ => ?_))
   | exact ih0 _ _ _ _ _ _ _ _ _ _ _
   | exact ih1 _ _ _ _
   | exact ih2 _ _ _ _ _ _ _ _ _ _ _
   | exact LeO.none _
   | refine LeO.ite ?_ ?_
   | refine LeO.bind ?_ (fun _ => ?_)
  ·intro y0 y1 y2 y3
   unfold spec_l06Put.j2
   repeat' first
   | (with_reducible exact ih0 _ _ _ _ _ _ _ _ _ _ _)
   | (with_reducible exact ih1 _ _ _ _)
   | (with_reducible exact ih2 _ _ _ _ _ _ _ _ _ _ _)
   | (with_reducible exact LeO.refl _)
   | (with_reducible exact LeO.none _)
   | (with_reducible refine LeO.ite ?_ ?_)
   | (with_reducible refine LeO.bind ?_ (fun _ => ?_))
   | exact ih0 _ _ _ _ _ _ _ _ _ _ _
   | exact ih1 _ _ _ _
   | exact ih2 _ _ _ _ _ _ _ _ _ _ _
   | exact LeO.none _
   | refine LeO.ite ?_ ?_
   | refine LeO.bind ?_ (fun _ => ?_)
  ·intro y0 y1 y2 y3 y4 y5 y6 y7 y8 y9 y10
   unfold spec_l06Put.l0
   repeat' first
   | (with_reducible exact ih0 _ _ _ _ _ _ _ _ _ _ _)
   | (with_reducible exact ih1 _ _ _ _)
   | (with_reducible exact ih2 _ _ _ _ _ _ _ _ _ _ _)
   | (with_reducible exact LeO.refl _)
   | (with_reducible exact LeO.none _)
   | (with_reducible refine LeO.ite ?_ ?_)
   | (with_reducible refine LeO.bind ?_ (fun _ => ?_))
   | exact ih0 _ _ _ _ _ _ _ _ _ _ _
   | exact ih1 _ _ _ _
   | exact ih2 _ _ _ _ _ _ _ _ _ _ _
   | exact LeO.none _
   | refine LeO.ite ?_ ?_
   | refine LeO.bind ?_ (fun _ => ?_)
theorem spec_l06Put.mono : ∀ a0 a1 a2 a3 a4 a5 a6 a7 a8 k, LeO (spec_l06Put.f k a0 a1 a2 a3 a4 a5 a6 a7 a8) (spec_l06Put.f (k + 1) a0 a1 a2 a3 a4 a5 a6 a7 a8) := by
 intro a0 a1 a2 a3 a4 a5 a6 a7 a8 k
 obtain ⟨ih0, ih1, ih2⟩ := spec_l06Put.mono_l k
 unfold spec_l06Put.f
 repeat' first
   | (with_reducible exact ih0 _ _ _ _ _ _ _ _ _ _ _)
   | (with_reducible exact ih1 _ _ _ _)
   | (with_reducible exact ih2 _ _ _ _ _ _ _ _ _ _ _)
   | (with_reducible exact LeO.refl _)
   | (with_reducible exact LeO.none _)
   | (with_reducible refine LeO.ite ?_ ?_)
   | (with_reducible refine LeO.bind ?_ (fun _ => ?_))
   | exact ih0 _ _ _ _ _ _ _ _ _ _ _
   | exact ih1 _ _ _ _
   | exact ih2 _ _ _ _ _ _ _ _ _ _ _
   | exact LeO.none _
   | refine LeO.ite ?_ ?_
   | refine LeO.bind ?_ (fun _ => ?_)
def spec_l06Put.T3 : Bool × List (List Nat × List Nat) := (true, [([], []), ([], []), ([1], [1]), ([0, 2], [0, 2]), ([3], [3]), ([4], [4]), ([4], [4]), ([5, 6, 4], [4, 5, 6]), ([7, 4], [4, 7]), ([4], [4]), ([8, 9, 4, 4], [4, 8, 9]), ([4, 10], [4, 10])])
def spec_l06Put.B3 : List Nat := [0, 0, 2, 7, 15, 31, 31, 127, 255, 31, 1023, 2047]
theorem spec_l06Put.tab3 : rtab .any (opsOf Try.f73 3) = spec_l06Put.T3 := by kernel_rfl
theorem spec_l06Put.bits3 : waitsOk spec_l06Put.T3.2 spec_l06Put.B3 = true := by kernel_rfl
def spec_l06Put.T7 : Bool × List (List Nat × List Nat) := (true, [([], []), ([], []), ([1], [1]), ([0, 2], [0, 2]), ([3], [3]), ([4], [4]), ([4], [4]), ([4], [4]), ([6, 7, 4], [4, 6, 7]), ([8, 4], [4, 8]), ([5, 9, 4, 4], [4, 5, 9]), ([10, 4], [4, 10]), ([4, 11], [4, 11])])
def spec_l06Put.B7 : List Nat := [0, 0, 2, 7, 15, 31, 31, 31, 223, 479, 1023, 2047, 4095]
theorem spec_l06Put.tab7 : rtab .any (opsOf Try.f73 7) = spec_l06Put.T7 := by kernel_rfl
theorem spec_l06Put.bits7 : waitsOk spec_l06Put.T7.2 spec_l06Put.B7 = true := by kernel_rfl
set_option maxHeartbeats 8000000 in
set_option maxRecDepth 100000 in
theorem spec_l06Put.calls (k : Nat) (A0 : Option Addr) (c0 : Nat) (l0 : List (S73)) (a1 : Int) (a2_0 : Int) (a2_1 : Int) (a2_2 : Int) (a2_3 : Int) (a2_4 : Int) (a2_5 : Int) (a2_6 : Bool) (r1 : List (S73)) (r2 : List (S42)) (r3 : Int) (w : World) (hr0 : Kd.C k73 w A0 l0.length l0) (hc0 : l0.length ≤ c0) (h : spec_l06Put.f k l0 a1 a2_0 a2_1 a2_2 a2_3 a2_4 a2_5 a2_6 = some (r1, r2, r3)) :
  Calls Try.prog 73 #[.slice A0 l0.length c0, .int .i64 a1, .agg #[.int .i64 a2_0, .int .i64 a2_1, .int .i64 a2_2, .int .i64 a2_3, .int .i64 a2_4, .int .i64 a2_5, .bool a2_6]] w fun e w' => ∃ v0_ v1_ : Value, e = .returned (.agg #[v0_, v1_, .int .i64 r3]) ∧ Kd.R k73 73 w' w.heap.size (fun _ => True) v0_ r1 ∧ Kd.R k42 42 w' w.heap.size (fun _ => True) v1_ r2 ∧ Below w.heap.size w w' := by
 have hu42 := Try.underlying42
 have hu34 := Try.underlying34
 have hu73 := Try.underlying73
 have HR0 := Aside0.mk hr0
 have HC0 := Aside0.mk hc0
 clear hr0 hc0
 have HB := Aside0.mk (Below.refl w.heap.size w)
 have H : (spec_l06Put.l0 k l0 0 a1 false a2_0 a2_1 a2_2 a2_3 a2_4 a2_5 a2_6) = some (r1, r2, r3) := h
 clear h
 have HC4 := Aside0.mk H
 clear H
 go_enter Try.func73, Try.ntmps73
 go_upto_block 0 with (first | ((with_reducible refine Qw (N := 5) rfl ?_); refine Qu ?hg (N := 5) ?hd (cs := #[.int .i64 a2_0, .int .i64 a2_1, .int .i64 a2_2, .int .i64 a2_3, .int .i64 a2_4, .int .i64 a2_5, .bool a2_6]) (t := 42) ?hr ?_; (case hd => rfl); (case hg => rfl); (case hr => first | (go_simp; done) | (go_simp; rfl)); intro gb207 hg w5 hbox hb; have n0_ := Aside0.mk (Qn (by repeat (first | (with_reducible first | exact HB.out | apply Qg | apply Qb | apply Qe) | exact HB.out)) hb); have n1_ := Aside0.mk (hbox); have n2_ := Aside0.mk ((by rw [hg]; exact (Ql (by repeat (first | (with_reducible first | exact HB.out | apply Qg | apply Qb | apply Qe) | exact HB.out))) : w.heap.size ≤ gb207)); have n3_ := Aside0.mk ((by rw [hg]; exact (Ql (by repeat (first | (with_reducible first | exact HB.out | apply Qg | apply Qb | apply Qe) | exact HB.out))) : w.heap.size ≤ gb207)); clear HB; have HB := n0_; have BK207 := n1_; have GW207 := n2_; have GE207 := n3_; clear n0_ n1_ n2_ n3_; clear hb hbox hg) | ((with_reducible refine Qw (N := 6) rfl ?_); refine Qu ?hg (N := 6) ?hd (cs := #[.slice none 0 0, .slice none 0 0, .int .i64 0]) (t := 34) ?hr ?_; (case hd => rfl); (case hg => rfl); (case hr => first | (go_simp; done) | (go_simp; rfl)); intro gb208 hg w6 hbox hb; have n0_ := Aside0.mk (Qm (g := gb207) (o := .cells #[.int .i64 a2_0, .int .i64 a2_1, .int .i64 a2_2, .int .i64 a2_3, .int .i64 a2_4, .int .i64 a2_5, .bool a2_6] 42 (0, 0)) (by (with_reducible repeat (first | refine Qi ?_ _ | refine Qj ?_ | refine Qh ?_ _)); exact BK207.out) hb); have n1_ := Aside0.mk (Qn (by repeat (first | (with_reducible first | exact HB.out | apply Qg | apply Qb | apply Qe | refine Qc ?_ GE207.out) | exact HB.out)) hb); have n2_ := Aside0.mk (hbox); have n3_ := Aside0.mk ((by rw [hg]; exact (Ql (by repeat (first | (with_reducible first | exact HB.out | apply Qg | apply Qb | apply Qe | refine Qc ?_ GE207.out) | exact HB.out))) : w.heap.size ≤ gb208)); have n4_ := Aside0.mk ((by rw [hg]; exact (Ql (by repeat (first | (with_reducible first | exact HB.out | apply Qg | apply Qb | apply Qe | refine Qc ?_ GE207.out) | exact HB.out))) : w.heap.size ≤ gb208)); have n5_ := Aside0.mk ((by rw [hg]; exact Nat.ne_of_lt (Qs (g := gb207) (o := .cells #[.int .i64 a2_0, .int .i64 a2_1, .int .i64 a2_2, .int .i64 a2_3, .int .i64 a2_4, .int .i64 a2_5, .bool a2_6] 42 (0, 0)) (by (with_reducible repeat (first | refine Qi ?_ _ | refine Qj ?_ | refine Qh ?_ _)); exact BK207.out)) : gb207 ≠ gb208)); have n6_ := Aside0.mk ((by rw [hg]; exact Nat.ne_of_gt (Qs (g := gb207) (o := .cells #[.int .i64 a2_0, .int .i64 a2_1, .int .i64 a2_2, .int .i64 a2_3, .int .i64 a2_4, .int .i64 a2_5, .bool a2_6] 42 (0, 0)) (by (with_reducible repeat (first | refine Qi ?_ _ | refine Qj ?_ | refine Qh ?_ _)); exact BK207.out)) : gb208 ≠ gb207)); clear BK207; clear HB; have BK207 := n0_; have HB := n1_; have BK208 := n2_; have GW208 := n3_; have GE208 := n4_; have NB207_208 := n5_; have NB208_207 := n6_; clear n0_ n1_ n2_ n3_ n4_ n5_ n6_; clear hb hbox hg; have hnb7 := NB207_208.out; have hnc7 := NB208_207.out; have hcz8_0 : w6.cell? ⟨gb207, 0, none⟩ = some (.int .i64 a2_0) := (Qa BK207.out 0).trans rfl; have hcz8_1 : w6.cell? ⟨gb207, 1, none⟩ = some (.int .i64 a2_1) := (Qa BK207.out 1).trans rfl; have hcz8_2 : w6.cell? ⟨gb207, 2, none⟩ = some (.int .i64 a2_2) := (Qa BK207.out 2).trans rfl; have hcz8_3 : w6.cell? ⟨gb207, 3, none⟩ = some (.int .i64 a2_3) := (Qa BK207.out 3).trans rfl; have hcz8_4 : w6.cell? ⟨gb207, 4, none⟩ = some (.int .i64 a2_4) := (Qa BK207.out 4).trans rfl; have hcz8_5 : w6.cell? ⟨gb207, 5, none⟩ = some (.int .i64 a2_5) := (Qa BK207.out 5).trans rfl; have hcz8_6 : w6.cell? ⟨gb207, 6, none⟩ = some (.bool a2_6) := (Qa BK207.out 6).trans rfl; have hfz8_0 := Qd BK207.out 0; have hfz8_1 := Qd BK207.out 1; have hfz8_2 := Qd BK207.out 2; have hfz8_3 := Qd BK207.out 3; have hfz8_4 := Qd BK207.out 4; have hfz8_5 := Qd BK207.out 5; have hfz8_6 := Qd BK207.out 6) | ((with_reducible refine Qw (N := 7) rfl ?_); refine Qu ?hg (N := 7) ?hd (cs := #[.int .i64 0, .bool false, .int .i64 0, .int .i64 0, .int .i64 0, .int .i64 0, .int .i64 0, .int .i64 0, .bool false]) (t := 73) ?hr ?_; (case hd => rfl); (case hg => rfl); (case hr => first | (go_simp; done) | (go_simp; rfl)); intro gb209 hg w9 hbox hb; have n0_ := Aside0.mk (Qm (g := gb207) (o := .cells #[.int .i64 a2_0, .int .i64 a2_1, .int .i64 a2_2, .int .i64 a2_3, .int .i64 a2_4, .int .i64 a2_5, .bool a2_6] 42 (0, 0)) (by (with_reducible repeat (first | refine Qi ?_ _ | refine Qj ?_ | refine Qh ?_ _)); exact BK207.out) hb); have n1_ := Aside0.mk (Qm (g := gb208) (o := .cells #[.slice none 0 0, .slice none 0 0, .int .i64 0] 34 (0, 0)) (by (with_reducible repeat (first | refine Qi ?_ _ | refine Qj ?_ | refine Qh ?_ _)); exact BK208.out) hb); have n2_ := Aside0.mk (Qn (by repeat (first | (with_reducible first | exact HB.out | apply Qg | apply Qb | apply Qe | refine Qc ?_ GE207.out | refine Qc ?_ GE208.out) | exact HB.out)) hb); have n3_ := Aside0.mk (hbox); have n4_ := Aside0.mk ((by rw [hg]; exact (Ql (by repeat (first | (with_reducible first | exact HB.out | apply Qg | apply Qb | apply Qe | refine Qc ?_ GE207.out | refine Qc ?_ GE208.out) | exact HB.out))) : w.heap.size ≤ gb209)); have n5_ := Aside0.mk ((by rw [hg]; exact (Ql (by repeat (first | (with_reducible first | exact HB.out | apply Qg | apply Qb | apply Qe | refine Qc ?_ GE207.out | refine Qc ?_ GE208.out) | exact HB.out))) : w.heap.size ≤ gb209)); have n6_ := Aside0.mk ((by rw [hg]; exact Nat.ne_of_lt (Qs (g := gb207) (o := .cells #[.int .i64 a2_0, .int .i64 a2_1, .int .i64 a2_2, .int .i64 a2_3, .int .i64 a2_4, .int .i64 a2_5, .bool a2_6] 42 (0, 0)) (by (with_reducible repeat (first | refine Qi ?_ _ | refine Qj ?_ | refine Qh ?_ _)); exact BK207.out)) : gb207 ≠ gb209)); have n7_ := Aside0.mk ((by rw [hg]; exact Nat.ne_of_gt (Qs (g := gb207) (o := .cells #[.int .i64 a2_0, .int .i64 a2_1, .int .i64 a2_2, .int .i64 a2_3, .int .i64 a2_4, .int .i64 a2_5, .bool a2_6] 42 (0, 0)) (by (with_reducible repeat (first | refine Qi ?_ _ | refine Qj ?_ | refine Qh ?_ _)); exact BK207.out)) : gb209 ≠ gb207)); have n8_ := Aside0.mk ((by rw [hg]; exact Nat.ne_of_lt (Qs (g := gb208) (o := .cells #[.slice none 0 0, .slice none 0 0, .int .i64 0] 34 (0, 0)) (by (with_reducible repeat (first | refine Qi ?_ _ | refine Qj ?_ | refine Qh ?_ _)); exact BK208.out)) : gb208 ≠ gb209)); have n9_ := Aside0.mk ((by rw [hg]; exact Nat.ne_of_gt (Qs (g := gb208) (o := .cells #[.slice none 0 0, .slice none 0 0, .int .i64 0] 34 (0, 0)) (by (with_reducible repeat (first | refine Qi ?_ _ | refine Qj ?_ | refine Qh ?_ _)); exact BK208.out)) : gb209 ≠ gb208)); clear BK207; clear BK208; clear HB; have BK207 := n0_; have BK208 := n1_; have HB := n2_; have BK209 := n3_; have GW209 := n4_; have GE209 := n5_; have NB207_209 := n6_; have NB209_207 := n7_; have NB208_209 := n8_; have NB209_208 := n9_; clear n0_ n1_ n2_ n3_ n4_ n5_ n6_ n7_ n8_ n9_; clear hb hbox hg; have hnb10 := NB209_207.out; have hnc10 := NB207_209.out; have hnb11 := NB209_208.out; have hnc11 := NB208_209.out; have hcz12_0 : w9.cell? ⟨gb209, 0, none⟩ = some (.int .i64 0) := (Qa BK209.out 0).trans rfl; have hcz12_1 : w9.cell? ⟨gb209, 1, none⟩ = some (.bool false) := (Qa BK209.out 1).trans rfl; have hcz12_2 : w9.cell? ⟨gb209, 2, none⟩ = some (.int .i64 0) := (Qa BK209.out 2).trans rfl; have hcz12_3 : w9.cell? ⟨gb209, 3, none⟩ = some (.int .i64 0) := (Qa BK209.out 3).trans rfl; have hcz12_4 : w9.cell? ⟨gb209, 4, none⟩ = some (.int .i64 0) := (Qa BK209.out 4).trans rfl; have hcz12_5 : w9.cell? ⟨gb209, 5, none⟩ = some (.int .i64 0) := (Qa BK209.out 5).trans rfl; have hcz12_6 : w9.cell? ⟨gb209, 6, none⟩ = some (.int .i64 0) := (Qa BK209.out 6).trans rfl; have hcz12_7 : w9.cell? ⟨gb209, 7, none⟩ = some (.int .i64 0) := (Qa BK209.out 7).trans rfl; have hcz12_8 : w9.cell? ⟨gb209, 8, none⟩ = some (.bool false) := (Qa BK209.out 8).trans rfl; have hfz12_0 := Qd BK209.out 0; have hfz12_1 := Qd BK209.out 1; have hfz12_2 := Qd BK209.out 2; have hfz12_3 := Qd BK209.out 3; have hfz12_4 := Qd BK209.out 4; have hfz12_5 := Qd BK209.out 5; have hfz12_6 := Qd BK209.out 6; have hfz12_7 := Qd BK209.out 7; have hfz12_8 := Qd BK209.out 8))
 (try simp only [Act.put, List.setIfInBounds_toArray, List.set_cons_zero, List.set_cons_succ])
 go_cut [8] (fun v8 wc => ∃ (kq : Nat) (x8_3 : Int), v8 = .int .i64 x8_3 ∧ Aside0 (spec_l06Put.j1 kq l0 x8_3 a1 false a2_0 a2_1 a2_2 a2_3 a2_4 a2_5 a2_6 = some (r1, r2, r3)) ∧ Aside0 (kq ≤ k) ∧ Aside0 (wc.heap[gb207]? = some (.cells #[.int .i64 a2_0, .int .i64 a2_1, .int .i64 a2_2, .int .i64 a2_3, .int .i64 a2_4, .int .i64 a2_5, .bool a2_6] 42 (0, 0))) ∧ Aside0 (wc.heap[gb208]? = some (.cells #[(.slice none 0 0), (.slice none 0 0), .int .i64 0] 34 (0, 0))) ∧ Aside0 (wc.heap[gb209]? = some (.cells #[.int .i64 a1, .bool false, .int .i64 a2_0, .int .i64 a2_1, .int .i64 a2_2, .int .i64 a2_3, .int .i64 a2_4, .int .i64 a2_5, .bool a2_6] 73 (0, 0))) ∧ Aside0 (Below w.heap.size w wc))
 case first =>
  have H := HC4.out
  clear HC4
  have H' := Aside0.mk H
  clear H
  go_wp2
  go_loopg [8] k (fun kq v8 w' => ∃ (x8_1 : Int), v8 = .int .i64 x8_1 ∧ Aside0 (spec_l06Put.l0 kq l0 x8_1 a1 false a2_0 a2_1 a2_2 a2_3 a2_4 a2_5 a2_6 = some (r1, r2, r3)) ∧ Aside0 (kq ≤ k) ∧ Aside0 (w'.heap[gb207]? = some (.cells #[.int .i64 a2_0, .int .i64 a2_1, .int .i64 a2_2, .int .i64 a2_3, .int .i64 a2_4, .int .i64 a2_5, .bool a2_6] 42 (0, 0))) ∧ Aside0 (w'.heap[gb208]? = some (.cells #[(.slice none 0 0), (.slice none 0 0), .int .i64 0] 34 (0, 0))) ∧ Aside0 (w'.heap[gb209]? = some (.cells #[.int .i64 a1, .bool false, .int .i64 a2_0, .int .i64 a2_1, .int .i64 a2_2, .int .i64 a2_3, .int .i64 a2_4, .int .i64 a2_5, .bool a2_6] 73 (0, 0))) ∧ Aside0 (Below w.heap.size w w'))
  case atStart => exact ⟨(0), (by first | rfl | (simp; done) | (simp [*]; done)), H', ⟨Nat.le_refl _⟩, ⟨by (with_reducible repeat (first | refine Qi ?_ _ | refine Qj ?_ | refine Qh ?_ _)); refine Q0 ?_ NB207_209.out _; (with_reducible repeat (first | refine Qi ?_ _ | refine Qj ?_ | refine Qh ?_ _)); refine Q0 ?_ NB207_209.out _; (with_reducible repeat (first | refine Qi ?_ _ | refine Qj ?_ | refine Qh ?_ _)); refine Q0 ?_ NB207_209.out _; (with_reducible repeat (first | refine Qi ?_ _ | refine Qj ?_ | refine Qh ?_ _)); refine Q0 ?_ NB207_209.out _; (with_reducible repeat (first | refine Qi ?_ _ | refine Qj ?_ | refine Qh ?_ _)); refine Q0 ?_ NB207_209.out _; (with_reducible repeat (first | refine Qi ?_ _ | refine Qj ?_ | refine Qh ?_ _)); refine Q0 ?_ NB207_209.out _; (with_reducible repeat (first | refine Qi ?_ _ | refine Qj ?_ | refine Qh ?_ _)); refine Q0 ?_ NB207_209.out _; (with_reducible repeat (first | refine Qi ?_ _ | refine Qj ?_ | refine Qh ?_ _)); refine Q0 ?_ NB207_209.out _; (with_reducible repeat (first | refine Qi ?_ _ | refine Qj ?_ | refine Qh ?_ _)); refine Q0 ?_ NB207_209.out _; (with_reducible repeat (first | refine Qi ?_ _ | refine Qj ?_ | refine Qh ?_ _)); exact BK207.out⟩, ⟨by (with_reducible repeat (first | refine Qi ?_ _ | refine Qj ?_ | refine Qh ?_ _)); refine Q0 ?_ NB208_209.out _; (with_reducible repeat (first | refine Qi ?_ _ | refine Qj ?_ | refine Qh ?_ _)); refine Q0 ?_ NB208_209.out _; (with_reducible repeat (first | refine Qi ?_ _ | refine Qj ?_ | refine Qh ?_ _)); refine Q0 ?_ NB208_209.out _; (with_reducible repeat (first | refine Qi ?_ _ | refine Qj ?_ | refine Qh ?_ _)); refine Q0 ?_ NB208_209.out _; (with_reducible repeat (first | refine Qi ?_ _ | refine Qj ?_ | refine Qh ?_ _)); refine Q0 ?_ NB208_209.out _; (with_reducible repeat (first | refine Qi ?_ _ | refine Qj ?_ | refine Qh ?_ _)); refine Q0 ?_ NB208_209.out _; (with_reducible repeat (first | refine Qi ?_ _ | refine Qj ?_ | refine Qh ?_ _)); refine Q0 ?_ NB208_209.out _; (with_reducible repeat (first | refine Qi ?_ _ | refine Qj ?_ | refine Qh ?_ _)); refine Q0 ?_ NB208_209.out _; (with_reducible repeat (first | refine Qi ?_ _ | refine Qj ?_ | refine Qh ?_ _)); refine Q0 ?_ NB208_209.out _; (with_reducible repeat (first | refine Qi ?_ _ | refine Qj ?_ | refine Qh ?_ _)); exact BK208.out⟩, ⟨by (with_reducible repeat (first | refine Qi ?_ _ | refine Qj ?_ | refine Qh ?_ _)); refine Qz (cs := #[.int .i64 a1, .bool false, .int .i64 a2_0, .int .i64 a2_1, .int .i64 a2_2, .int .i64 a2_3, .int .i64 a2_4, .int .i64 a2_5, .bool false]) ?_ 8 _ rfl; (with_reducible repeat (first | refine Qi ?_ _ | refine Qj ?_ | refine Qh ?_ _)); refine Qz (cs := #[.int .i64 a1, .bool false, .int .i64 a2_0, .int .i64 a2_1, .int .i64 a2_2, .int .i64 a2_3, .int .i64 a2_4, .int .i64 0, .bool false]) ?_ 7 _ rfl; (with_reducible repeat (first | refine Qi ?_ _ | refine Qj ?_ | refine Qh ?_ _)); refine Qz (cs := #[.int .i64 a1, .bool false, .int .i64 a2_0, .int .i64 a2_1, .int .i64 a2_2, .int .i64 a2_3, .int .i64 0, .int .i64 0, .bool false]) ?_ 6 _ rfl; (with_reducible repeat (first | refine Qi ?_ _ | refine Qj ?_ | refine Qh ?_ _)); refine Qz (cs := #[.int .i64 a1, .bool false, .int .i64 a2_0, .int .i64 a2_1, .int .i64 a2_2, .int .i64 0, .int .i64 0, .int .i64 0, .bool false]) ?_ 5 _ rfl; (with_reducible repeat (first | refine Qi ?_ _ | refine Qj ?_ | refine Qh ?_ _)); refine Qz (cs := #[.int .i64 a1, .bool false, .int .i64 a2_0, .int .i64 a2_1, .int .i64 0, .int .i64 0, .int .i64 0, .int .i64 0, .bool false]) ?_ 4 _ rfl; (with_reducible repeat (first | refine Qi ?_ _ | refine Qj ?_ | refine Qh ?_ _)); refine Qz (cs := #[.int .i64 a1, .bool false, .int .i64 a2_0, .int .i64 0, .int .i64 0, .int .i64 0, .int .i64 0, .int .i64 0, .bool false]) ?_ 3 _ rfl; (with_reducible repeat (first | refine Qi ?_ _ | refine Qj ?_ | refine Qh ?_ _)); refine Qz (cs := #[.int .i64 a1, .bool false, .int .i64 0, .int .i64 0, .int .i64 0, .int .i64 0, .int .i64 0, .int .i64 0, .bool false]) ?_ 2 _ rfl; (with_reducible repeat (first | refine Qi ?_ _ | refine Qj ?_ | refine Qh ?_ _)); refine Qz (cs := #[.int .i64 a1, .bool false, .int .i64 0, .int .i64 0, .int .i64 0, .int .i64 0, .int .i64 0, .int .i64 0, .bool false]) ?_ 1 _ rfl; (with_reducible repeat (first | refine Qi ?_ _ | refine Qj ?_ | refine Qh ?_ _)); refine Qz (cs := #[.int .i64 0, .bool false, .int .i64 0, .int .i64 0, .int .i64 0, .int .i64 0, .int .i64 0, .int .i64 0, .bool false]) ?_ 0 _ rfl; (with_reducible repeat (first | refine Qi ?_ _ | refine Qj ?_ | refine Qh ?_ _)); exact BK209.out⟩, ⟨by repeat (first | (with_reducible first | exact HB.out | apply Qg | apply Qb | apply Qe | refine Qc ?_ GE207.out | refine Qc ?_ GE208.out | refine Qc ?_ GE209.out) | exact HB.out)⟩⟩
  case round =>
   clear H'
   try clear c1
   try clear p2
   try clear c7
   try clear c10
   try clear c11
   try clear hcz12_0
   try clear hcz12_1
   try clear hcz12_2
   try clear hcz12_3
   try clear hcz12_4
   try clear hcz12_5
   try clear hcz12_6
   try clear hcz12_7
   try clear hcz12_8
   try clear hcz8_0
   try clear hcz8_1
   try clear hcz8_2
   try clear hcz8_3
   try clear hcz8_4
   try clear hcz8_5
   try clear hcz8_6
   try clear hfz12_0
   try clear hfz12_1
   try clear hfz12_2
   try clear hfz12_3
   try clear hfz12_4
   try clear hfz12_5
   try clear hfz12_6
   try clear hfz12_7
   try clear hfz12_8
   try clear hfz8_0
   try clear hfz8_1
   try clear hfz8_2
   try clear hfz8_3
   try clear hfz8_4
   try clear hfz8_5
   try clear hfz8_6
   obtain ⟨x8_1, rfl, HA, HK1, BK207, BK208, BK209, HB⟩ := hrel
   cases gk with
   | zero => exact absurd HA.out (by simp [spec_l06Put.l0])
   | succ k1 =>
    have H := HA.out
    clear HA
    simp only [spec_l06Put.l0] at H
    by_cases c13 : x8_1 < (l0.length : Int)
    ·rw [if_pos c13] at H
     have c13b0 : decide (x8_1 < (l0.length : Int)) = true := decide_eq_true c13
     clear c13
     (first | rw [c13b0] | (simp only [Qr, Qt]; rw [c13b0]) | skip)
     by_cases c14 : 0 ≤ x8_1
     ·rw [if_pos c14] at H
      have c14b0 : decide (0 ≤ x8_1) = true := decide_eq_true c14
      clear c14
      replace H := Option.bind_eq_some_iff.mp H
      obtain ⟨t211, A150, H⟩ := H
      replace H : (if t211 = true then (spec_l06Put.l0 k1 l0 (wrap64 (x8_1 + 1)) a1 false a2_0 a2_1 a2_2 a2_3 a2_4 a2_5 a2_6) else (spec_l06Put.j1 k1 l0 x8_1 a1 false a2_0 a2_1 a2_2 a2_3 a2_4 a2_5 a2_6)) = some (r1, r2, r3) := H
      have A15 := Aside0.mk A150
      clear A150
      by_cases c16 : t211 = true
      ·subst c16
       have H1 : (spec_l06Put.l0 k1 l0 (wrap64 (x8_1 + 1)) a1 false a2_0 a2_1 a2_2 a2_3 a2_4 a2_5 a2_6) = some (r1, r2, r3) := by rw [if_pos rfl] at H; exact H
       clear H
       have H := H1
       clear H1
       have H' := Aside0.mk H
       clear H
       try go_wp2
       have n0_ := Aside0.mk (Qj BK207.out)
       have n1_ := Aside0.mk (Qj BK208.out)
       have n2_ := Aside0.mk (Qj BK209.out)
       have n3_ := Aside0.mk (Qe HB.out)
       clear BK207
       clear BK208
       clear BK209
       clear HB
       have BK207 := n0_
       have BK208 := n1_
       have BK209 := n2_
       have HB := n3_
       clear n0_ n1_ n2_ n3_
       have p210 : 0 ≤ (x8_1 : Int) := of_decide_eq_true (by assumption)
       have q210 : x8_1 < (l0.length : Int) := of_decide_eq_true (by assumption)
       obtain ⟨ad210, e210, hx210_0, hx210_1, hx210_2, hx210_3, hx210_4, hx210_5, hx210_6, hx210_7, hx210_8⟩ := Q1 HR0.out x8_1 p210 q210
       have hw210_8 := hx210_8
       have hw210_7 := hx210_7
       have hw210_6 := hx210_6
       have hw210_5 := hx210_5
       have hw210_4 := hx210_4
       have hw210_3 := hx210_3
       have hw210_2 := hx210_2
       have hw210_1 := hx210_1
       have hw210_0 := hx210_0
       cases e210
       replace hx210_0 := (HB.out.cell (World.block_lt_of_cell? w _ hx210_0)).trans hx210_0
       replace hx210_1 := (HB.out.cell (World.block_lt_of_cell? w _ hx210_1)).trans hx210_1
       replace hx210_2 := (HB.out.cell (World.block_lt_of_cell? w _ hx210_2)).trans hx210_2
       replace hx210_3 := (HB.out.cell (World.block_lt_of_cell? w _ hx210_3)).trans hx210_3
       replace hx210_4 := (HB.out.cell (World.block_lt_of_cell? w _ hx210_4)).trans hx210_4
       replace hx210_5 := (HB.out.cell (World.block_lt_of_cell? w _ hx210_5)).trans hx210_5
       replace hx210_6 := (HB.out.cell (World.block_lt_of_cell? w _ hx210_6)).trans hx210_6
       replace hx210_7 := (HB.out.cell (World.block_lt_of_cell? w _ hx210_7)).trans hx210_7
       replace hx210_8 := (HB.out.cell (World.block_lt_of_cell? w _ hx210_8)).trans hx210_8
       replace p210 := eq_true p210
       replace q210 := eq_true q210
       refine start_ (n := 12) (S := fun w' => w'.cell? ⟨gb209, 0, none⟩ = some (.int .i64 a1) ∧ w'.cell? ⟨gb209, 1, none⟩ = some (.bool false) ∧ w'.cell? ⟨gb209, 2, none⟩ = some (.int .i64 a2_0) ∧ w'.cell? ⟨gb209, 3, none⟩ = some (.int .i64 a2_1) ∧ w'.cell? ⟨gb209, 4, none⟩ = some (.int .i64 a2_2) ∧ w'.cell? ⟨gb209, 5, none⟩ = some (.int .i64 a2_3) ∧ w'.cell? ⟨gb209, 6, none⟩ = some (.int .i64 a2_4) ∧ w'.cell? ⟨gb209, 7, none⟩ = some (.int .i64 a2_5) ∧ w'.cell? ⟨gb209, 8, none⟩ = some (.bool a2_6) ∧ w'.cell? (ad210.add ((x8_1).toNat * 9)) = some (.int .i64 ((Qf l0 x8_1).f0)) ∧ w'.cell? ⟨(ad210.add ((x8_1).toNat * 9)).block, (ad210.add ((x8_1).toNat * 9)).off + 1, none⟩ = some (.bool ((Qf l0 x8_1).f1)) ∧ w'.cell? ⟨(ad210.add ((x8_1).toNat * 9)).block, (ad210.add ((x8_1).toNat * 9)).off + 2, none⟩ = some (.int .i64 ((Qf l0 x8_1).f2.f0)) ∧ w'.cell? ⟨(ad210.add ((x8_1).toNat * 9)).block, (ad210.add ((x8_1).toNat * 9)).off + 3, none⟩ = some (.int .i64 ((Qf l0 x8_1).f2.f1)) ∧ w'.cell? ⟨(ad210.add ((x8_1).toNat * 9)).block, (ad210.add ((x8_1).toNat * 9)).off + 4, none⟩ = some (.int .i64 ((Qf l0 x8_1).f2.f2)) ∧ w'.cell? ⟨(ad210.add ((x8_1).toNat * 9)).block, (ad210.add ((x8_1).toNat * 9)).off + 5, none⟩ = some (.int .i64 ((Qf l0 x8_1).f2.f3)) ∧ w'.cell? ⟨(ad210.add ((x8_1).toNat * 9)).block, (ad210.add ((x8_1).toNat * 9)).off + 6, none⟩ = some (.int .i64 ((Qf l0 x8_1).f2.f4)) ∧ w'.cell? ⟨(ad210.add ((x8_1).toNat * 9)).block, (ad210.add ((x8_1).toNat * 9)).off + 7, none⟩ = some (.int .i64 ((Qf l0 x8_1).f2.f5)) ∧ w'.cell? ⟨(ad210.add ((x8_1).toNat * 9)).block, (ad210.add ((x8_1).toNat * 9)).off + 8, none⟩ = some (.bool ((Qf l0 x8_1).f2.f6))) (ds := []) #[false, false, false, false, false, false, false, false, false, false, false, false] (by kernel_rfl) rfl rfl ⟨(Qa BK209.out 0).trans rfl, (Qa BK209.out 1).trans rfl, (Qa BK209.out 2).trans rfl, (Qa BK209.out 3).trans rfl, (Qa BK209.out 4).trans rfl, (Qa BK209.out 5).trans rfl, (Qa BK209.out 6).trans rfl, (Qa BK209.out 7).trans rfl, (Qa BK209.out 8).trans rfl, ((HB.out.cell (World.block_lt_of_cell? w _ hw210_0)).trans hw210_0), ((HB.out.cell (World.block_lt_of_cell? w _ hw210_1)).trans hw210_1), ((HB.out.cell (World.block_lt_of_cell? w _ hw210_2)).trans hw210_2), ((HB.out.cell (World.block_lt_of_cell? w _ hw210_3)).trans hw210_3), ((HB.out.cell (World.block_lt_of_cell? w _ hw210_4)).trans hw210_4), ((HB.out.cell (World.block_lt_of_cell? w _ hw210_5)).trans hw210_5), ((HB.out.cell (World.block_lt_of_cell? w _ hw210_6)).trans hw210_6), ((HB.out.cell (World.block_lt_of_cell? w _ hw210_7)).trans hw210_7), ((HB.out.cell (World.block_lt_of_cell? w _ hw210_8)).trans hw210_8)⟩ (fun hHeld => ?_); refine with_tabW spec_l06Put.tab3 spec_l06Put.bits3 (fun HT_ HW_ => ?_)
       generalize wr.drew = w17 at BK207 BK208 BK209 HB hx210_0 hx210_1 hx210_2 hx210_3 hx210_4 hx210_5 hx210_6 hx210_7 hx210_8 hHeld ⊢
       refine Qy (i := 0) (N := some 13) (v := ?_) (a' := ?_) #[true, false, false, false, false, false, false, false, false, false, false, false] rfl rfl (Qv HT_.out (by kernel_rfl)) (fun _ _ _ h => h) (Or.inl ⟨by rfl, ?_⟩) ?_ ?_
       rotate_left
       ·intro w'
        go_simp
        with_reducible rfl
       rotate_left
       ·simp only [Act.put, List.setIfInBounds_toArray, List.set_cons_zero, List.set_cons_succ, Qr, Qt]
        rfl
       refine Qy (i := 1) (N := some 14) (v := ?_) (a' := ?_) #[true, true, false, false, false, false, false, false, false, false, false, false] rfl rfl (Qv HT_.out (by kernel_rfl)) (fun _ _ _ h => h) (Or.inl ⟨by rfl, ?_⟩) ?_ ?_
       rotate_left
       ·intro w'
        go_simp
        with_reducible rfl
       rotate_left
       ·simp only [Act.put, List.setIfInBounds_toArray, List.set_cons_zero, List.set_cons_succ, Qr, Qt]
        rfl
       refine Qy (i := 2) (N := some 15) (v := ?_) (a' := ?_) #[true, true, true, false, false, false, false, false, false, false, false, false] rfl rfl (Qv HT_.out (by kernel_rfl)) (fun _ _ _ h => h) (Or.inl ⟨by rfl, ?_⟩) ?_ ?_
       rotate_left
       ·intro w'
        go_simp
        with_reducible rfl
       rotate_left
       ·simp only [Act.put, List.setIfInBounds_toArray, List.set_cons_zero, List.set_cons_succ, Qr, Qt]
        rfl
       refine Qy (i := 3) (N := some 16) (v := ?_) (a' := ?_) #[true, true, true, true, false, false, false, false, false, false, false, false] rfl rfl (Qv HT_.out (by kernel_rfl)) (fun _ _ _ h => h) (Or.inl ⟨by rfl, ?_⟩) ?_ ?_
       rotate_left
       ·intro w'
        go_simp
        with_reducible rfl
       rotate_left
       ·simp only [Act.put, List.setIfInBounds_toArray, List.set_cons_zero, List.set_cons_succ, Qr, Qt]
        rfl
       refine Qy (i := 4) (N := some 17) (v := ?_) (a' := ?_) #[true, true, true, true, true, false, false, false, false, false, false, false] rfl rfl (Qv HT_.out (by kernel_rfl)) (fun _ _ _ h => h) (Or.inl ⟨by rfl, ?_⟩) ?_ ?_
       rotate_left
       ·intro w'
        go_simp
        with_reducible rfl
       rotate_left
       ·simp only [Act.put, List.setIfInBounds_toArray, List.set_cons_zero, List.set_cons_succ, Qr, Qt]
        rfl
       refine Qy (i := 5) (N := some 18) (v := ?_) (a' := ?_) #[true, true, true, true, true, true, false, false, false, false, false, false] rfl rfl (Qv HT_.out (by kernel_rfl)) (fun _ _ _ h => h) (Or.inl ⟨by rfl, ?_⟩) ?_ ?_
       rotate_left
       ·intro w'
        go_simp
        with_reducible rfl
       rotate_left
       ·simp only [Act.put, List.setIfInBounds_toArray, List.set_cons_zero, List.set_cons_succ, Qr, Qt]
        rfl
       refine Qy (i := 6) (N := some 19) (v := ?_) (a' := ?_) #[true, true, true, true, true, true, true, false, false, false, false, false] rfl rfl (Qv HT_.out (by kernel_rfl)) (fun _ _ _ h => h) (Or.inl ⟨by rfl, ?_⟩) ?_ ?_
       rotate_left
       ·intro w'
        go_simp
        with_reducible rfl
       rotate_left
       ·simp only [Act.put, List.setIfInBounds_toArray, List.set_cons_zero, List.set_cons_succ, Qr, Qt]
        rfl
       refine Qy (i := 7) (N := some 20) (v := ?_) (a' := ?_) #[true, true, true, true, true, true, true, true, false, false, false, false] rfl rfl (Qv HT_.out (by kernel_rfl)) (fun _ _ _ h => h) (Or.inl ⟨by rfl, ?_⟩) ?_ ?_
       rotate_left
       ·intro w'
        go_simp
        with_reducible rfl
       rotate_left
       ·simp only [Act.put, List.setIfInBounds_toArray, List.set_cons_zero, List.set_cons_succ, Qr, Qt]
        rfl
       refine take_ (i := 8) (N := some 21) (v := ?_) (a' := ?_) #[true, true, true, true, true, true, true, true, true, false, false, false] rfl rfl (Q5 HT_.out HW_.out (by kernel_rfl)) (fun _ _ _ h => h) (Or.inl ⟨by rfl, ?_⟩) hHeld ?_ ?_
       rotate_left
       ·rintro w' ⟨s0, s1, s2, s3, s4, s5, s6, s7, s8, s9, s10, s11, s12, s13, s14, s15, s16, s17⟩
        go_simp
        with_reducible rfl
       rotate_left
       ·simp only [Act.put, List.setIfInBounds_toArray, List.set_cons_zero, List.set_cons_succ, Qr, Qt]
        rfl
       refine take_ (i := 9) (N := some 22) (v := ?_) (a' := ?_) #[true, true, true, true, true, true, true, true, true, true, false, false] rfl rfl (Q5 HT_.out HW_.out (by kernel_rfl)) (fun _ _ _ h => h) (Or.inl ⟨by rfl, ?_⟩) hHeld ?_ ?_
       rotate_left
       ·rintro w' ⟨s0, s1, s2, s3, s4, s5, s6, s7, s8, s9, s10, s11, s12, s13, s14, s15, s16, s17⟩
        go_simp
        with_reducible rfl
       rotate_left
       ·simp only [Act.put, List.setIfInBounds_toArray, List.set_cons_zero, List.set_cons_succ, Qr, Qt]
        rfl
       refine one_ (i := 10) (N := some 23) #[true, true, true, true, true, true, true, true, true, true, true, false] rfl rfl (Q6 HT_.out (by kernel_rfl)) (by decide) (fun K hK => ?_)
       refine goes_ Try.func101 (by kernel_rfl) rfl #[.agg #[.int .i64 ((Qf l0 x8_1).f0), .bool ((Qf l0 x8_1).f1), .int .i64 ((Qf l0 x8_1).f2.f0), .int .i64 ((Qf l0 x8_1).f2.f1), .int .i64 ((Qf l0 x8_1).f2.f2), .int .i64 ((Qf l0 x8_1).f2.f3), .int .i64 ((Qf l0 x8_1).f2.f4), .int .i64 ((Qf l0 x8_1).f2.f5), .bool ((Qf l0 x8_1).f2.f6)], .agg #[.int .i64 a1, .bool false, .int .i64 a2_0, .int .i64 a2_1, .int .i64 a2_2, .int .i64 a2_3, .int .i64 a2_4, .int .i64 a2_5, .bool a2_6]] (by rfl) rfl rfl (by (try simp only [List.map_toArray, List.map_cons, List.map_nil]); first | done | rfl | (simp only [List.length_drop, List.length_take]; rfl)) ?_
       with_reducible refine (spec_l06Less.calls ((Qf l0 x8_1).f0) ((Qf l0 x8_1).f1) ((Qf l0 x8_1).f2.f0) ((Qf l0 x8_1).f2.f1) ((Qf l0 x8_1).f2.f2) ((Qf l0 x8_1).f2.f3) ((Qf l0 x8_1).f2.f4) ((Qf l0 x8_1).f2.f5) ((Qf l0 x8_1).f2.f6) a1 false a2_0 a2_1 a2_2 a2_3 a2_4 a2_5 a2_6 true _ A15.out).mono ?_
       rintro e w18 ⟨rfl, hb⟩
       refine ⟨_, rfl, ?_⟩
       have n0_ := Aside0.mk (Qm (g := gb207) (o := .cells #[.int .i64 a2_0, .int .i64 a2_1, .int .i64 a2_2, .int .i64 a2_3, .int .i64 a2_4, .int .i64 a2_5, .bool a2_6] 42 (0, 0)) (by (with_reducible repeat (first | refine Qi ?_ _ | refine Qj ?_ | refine Qh ?_ _)); exact BK207.out) hb)
       have n1_ := Aside0.mk (Qm (g := gb208) (o := .cells #[.slice none 0 0, .slice none 0 0, .int .i64 0] 34 (0, 0)) (by (with_reducible repeat (first | refine Qi ?_ _ | refine Qj ?_ | refine Qh ?_ _)); exact BK208.out) hb)
       have n2_ := Aside0.mk (Qm (g := gb209) (o := .cells #[.int .i64 a1, .bool false, .int .i64 a2_0, .int .i64 a2_1, .int .i64 a2_2, .int .i64 a2_3, .int .i64 a2_4, .int .i64 a2_5, .bool a2_6] 73 (0, 0)) (by (with_reducible repeat (first | refine Qi ?_ _ | refine Qj ?_ | refine Qh ?_ _)); exact BK209.out) hb)
       have n3_ := Aside0.mk (Qn (by repeat (first | (with_reducible first | exact HB.out | apply Qg | apply Qb | apply Qe | refine Qc ?_ GE207.out | refine Qc ?_ GE208.out | refine Qc ?_ GE209.out) | exact HB.out)) hb)
       clear BK207
       clear BK208
       clear BK209
       clear HB
       have BK207 := n0_
       have BK208 := n1_
       have BK209 := n2_
       have HB := n3_
       clear n0_ n1_ n2_ n3_
       (try clear hb)
       (try clear hb2)
       (try clear hk)
       (try clear hi)
       refine hK.out _ _ ⟨(Qa BK209.out 0).trans rfl, (Qa BK209.out 1).trans rfl, (Qa BK209.out 2).trans rfl, (Qa BK209.out 3).trans rfl, (Qa BK209.out 4).trans rfl, (Qa BK209.out 5).trans rfl, (Qa BK209.out 6).trans rfl, (Qa BK209.out 7).trans rfl, (Qa BK209.out 8).trans rfl, ((HB.out.cell (World.block_lt_of_cell? w _ hw210_0)).trans hw210_0), ((HB.out.cell (World.block_lt_of_cell? w _ hw210_1)).trans hw210_1), ((HB.out.cell (World.block_lt_of_cell? w _ hw210_2)).trans hw210_2), ((HB.out.cell (World.block_lt_of_cell? w _ hw210_3)).trans hw210_3), ((HB.out.cell (World.block_lt_of_cell? w _ hw210_4)).trans hw210_4), ((HB.out.cell (World.block_lt_of_cell? w _ hw210_5)).trans hw210_5), ((HB.out.cell (World.block_lt_of_cell? w _ hw210_6)).trans hw210_6), ((HB.out.cell (World.block_lt_of_cell? w _ hw210_7)).trans hw210_7), ((HB.out.cell (World.block_lt_of_cell? w _ hw210_8)).trans hw210_8)⟩ (fun hHeld => ?_)
       clear hK K
       refine Q4 (a' := ?_) ?_ ?_
       rotate_left
       ·show Act.put _ (some 23) _ = _
        simp only [Act.put, List.setIfInBounds_toArray, List.set_cons_zero, List.set_cons_succ, Qr, Qt]
        rfl
       refine Qy (i := 11) (N := some 24) (v := ?_) (a' := ?_) #[true, true, true, true, true, true, true, true, true, true, true, true] rfl rfl (Qv HT_.out (by kernel_rfl)) (fun _ _ _ h => h) (Or.inl ⟨by rfl, ?_⟩) ?_ ?_
       rotate_left
       ·intro w'
        go_simp
        with_reducible rfl
       rotate_left
       ·simp only [Act.put, List.setIfInBounds_toArray, List.set_cons_zero, List.set_cons_succ, Qr, Qt]
        rfl
       refine done_ (done_of HT_.out (by kernel_rfl)) ?_
       try go_wp2
       go_roundg k1
       case measure => have := HK1.out; omega
       case rel => exact ⟨(wrap64 (x8_1 + 1)), (by first | rfl | (simp; done) | (simp [*]; done)), H', ⟨by have := HK1.out; omega⟩, ⟨by (with_reducible repeat (first | refine Qi ?_ _ | refine Qj ?_ | refine Qh ?_ _)); exact BK207.out⟩, ⟨by (with_reducible repeat (first | refine Qi ?_ _ | refine Qj ?_ | refine Qh ?_ _)); exact BK208.out⟩, ⟨by (with_reducible repeat (first | refine Qi ?_ _ | refine Qj ?_ | refine Qh ?_ _)); exact BK209.out⟩, ⟨by repeat (first | (with_reducible first | exact HB.out | apply Qg | apply Qb | apply Qe | refine Qc ?_ GE207.out | refine Qc ?_ GE208.out | refine Qc ?_ GE209.out) | exact HB.out)⟩⟩
      ·replace c16 := Bool.eq_false_iff.mpr c16
       subst c16
       have H1 : (spec_l06Put.j1 k1 l0 x8_1 a1 false a2_0 a2_1 a2_2 a2_3 a2_4 a2_5 a2_6) = some (r1, r2, r3) := by rw [if_neg (show ¬ (false = true) by decide)] at H; exact H
       clear H
       have H := H1
       clear H1
       have H' := Aside0.mk H
       clear H
       try go_wp2
       have n0_ := Aside0.mk (Qj BK207.out)
       have n1_ := Aside0.mk (Qj BK208.out)
       have n2_ := Aside0.mk (Qj BK209.out)
       have n3_ := Aside0.mk (Qe HB.out)
       clear BK207
       clear BK208
       clear BK209
       clear HB
       have BK207 := n0_
       have BK208 := n1_
       have BK209 := n2_
       have HB := n3_
       clear n0_ n1_ n2_ n3_
       have p210 : 0 ≤ (x8_1 : Int) := of_decide_eq_true (by assumption)
       have q210 : x8_1 < (l0.length : Int) := of_decide_eq_true (by assumption)
       obtain ⟨ad210, e210, hx210_0, hx210_1, hx210_2, hx210_3, hx210_4, hx210_5, hx210_6, hx210_7, hx210_8⟩ := Q1 HR0.out x8_1 p210 q210
       have hw210_8 := hx210_8
       have hw210_7 := hx210_7
       have hw210_6 := hx210_6
       have hw210_5 := hx210_5
       have hw210_4 := hx210_4
       have hw210_3 := hx210_3
       have hw210_2 := hx210_2
       have hw210_1 := hx210_1
       have hw210_0 := hx210_0
       cases e210
       replace hx210_0 := (HB.out.cell (World.block_lt_of_cell? w _ hx210_0)).trans hx210_0
       replace hx210_1 := (HB.out.cell (World.block_lt_of_cell? w _ hx210_1)).trans hx210_1
       replace hx210_2 := (HB.out.cell (World.block_lt_of_cell? w _ hx210_2)).trans hx210_2
       replace hx210_3 := (HB.out.cell (World.block_lt_of_cell? w _ hx210_3)).trans hx210_3
       replace hx210_4 := (HB.out.cell (World.block_lt_of_cell? w _ hx210_4)).trans hx210_4
       replace hx210_5 := (HB.out.cell (World.block_lt_of_cell? w _ hx210_5)).trans hx210_5
       replace hx210_6 := (HB.out.cell (World.block_lt_of_cell? w _ hx210_6)).trans hx210_6
       replace hx210_7 := (HB.out.cell (World.block_lt_of_cell? w _ hx210_7)).trans hx210_7
       replace hx210_8 := (HB.out.cell (World.block_lt_of_cell? w _ hx210_8)).trans hx210_8
       replace p210 := eq_true p210
       replace q210 := eq_true q210
       refine start_ (n := 12) (S := fun w' => w'.cell? ⟨gb209, 0, none⟩ = some (.int .i64 a1) ∧ w'.cell? ⟨gb209, 1, none⟩ = some (.bool false) ∧ w'.cell? ⟨gb209, 2, none⟩ = some (.int .i64 a2_0) ∧ w'.cell? ⟨gb209, 3, none⟩ = some (.int .i64 a2_1) ∧ w'.cell? ⟨gb209, 4, none⟩ = some (.int .i64 a2_2) ∧ w'.cell? ⟨gb209, 5, none⟩ = some (.int .i64 a2_3) ∧ w'.cell? ⟨gb209, 6, none⟩ = some (.int .i64 a2_4) ∧ w'.cell? ⟨gb209, 7, none⟩ = some (.int .i64 a2_5) ∧ w'.cell? ⟨gb209, 8, none⟩ = some (.bool a2_6) ∧ w'.cell? (ad210.add ((x8_1).toNat * 9)) = some (.int .i64 ((Qf l0 x8_1).f0)) ∧ w'.cell? ⟨(ad210.add ((x8_1).toNat * 9)).block, (ad210.add ((x8_1).toNat * 9)).off + 1, none⟩ = some (.bool ((Qf l0 x8_1).f1)) ∧ w'.cell? ⟨(ad210.add ((x8_1).toNat * 9)).block, (ad210.add ((x8_1).toNat * 9)).off + 2, none⟩ = some (.int .i64 ((Qf l0 x8_1).f2.f0)) ∧ w'.cell? ⟨(ad210.add ((x8_1).toNat * 9)).block, (ad210.add ((x8_1).toNat * 9)).off + 3, none⟩ = some (.int .i64 ((Qf l0 x8_1).f2.f1)) ∧ w'.cell? ⟨(ad210.add ((x8_1).toNat * 9)).block, (ad210.add ((x8_1).toNat * 9)).off + 4, none⟩ = some (.int .i64 ((Qf l0 x8_1).f2.f2)) ∧ w'.cell? ⟨(ad210.add ((x8_1).toNat * 9)).block, (ad210.add ((x8_1).toNat * 9)).off + 5, none⟩ = some (.int .i64 ((Qf l0 x8_1).f2.f3)) ∧ w'.cell? ⟨(ad210.add ((x8_1).toNat * 9)).block, (ad210.add ((x8_1).toNat * 9)).off + 6, none⟩ = some (.int .i64 ((Qf l0 x8_1).f2.f4)) ∧ w'.cell? ⟨(ad210.add ((x8_1).toNat * 9)).block, (ad210.add ((x8_1).toNat * 9)).off + 7, none⟩ = some (.int .i64 ((Qf l0 x8_1).f2.f5)) ∧ w'.cell? ⟨(ad210.add ((x8_1).toNat * 9)).block, (ad210.add ((x8_1).toNat * 9)).off + 8, none⟩ = some (.bool ((Qf l0 x8_1).f2.f6))) (ds := []) #[false, false, false, false, false, false, false, false, false, false, false, false] (by kernel_rfl) rfl rfl ⟨(Qa BK209.out 0).trans rfl, (Qa BK209.out 1).trans rfl, (Qa BK209.out 2).trans rfl, (Qa BK209.out 3).trans rfl, (Qa BK209.out 4).trans rfl, (Qa BK209.out 5).trans rfl, (Qa BK209.out 6).trans rfl, (Qa BK209.out 7).trans rfl, (Qa BK209.out 8).trans rfl, ((HB.out.cell (World.block_lt_of_cell? w _ hw210_0)).trans hw210_0), ((HB.out.cell (World.block_lt_of_cell? w _ hw210_1)).trans hw210_1), ((HB.out.cell (World.block_lt_of_cell? w _ hw210_2)).trans hw210_2), ((HB.out.cell (World.block_lt_of_cell? w _ hw210_3)).trans hw210_3), ((HB.out.cell (World.block_lt_of_cell? w _ hw210_4)).trans hw210_4), ((HB.out.cell (World.block_lt_of_cell? w _ hw210_5)).trans hw210_5), ((HB.out.cell (World.block_lt_of_cell? w _ hw210_6)).trans hw210_6), ((HB.out.cell (World.block_lt_of_cell? w _ hw210_7)).trans hw210_7), ((HB.out.cell (World.block_lt_of_cell? w _ hw210_8)).trans hw210_8)⟩ (fun hHeld => ?_); refine with_tabW spec_l06Put.tab3 spec_l06Put.bits3 (fun HT_ HW_ => ?_)
       generalize wr.drew = w19 at BK207 BK208 BK209 HB hx210_0 hx210_1 hx210_2 hx210_3 hx210_4 hx210_5 hx210_6 hx210_7 hx210_8 hHeld ⊢
       refine Qy (i := 0) (N := some 13) (v := ?_) (a' := ?_) #[true, false, false, false, false, false, false, false, false, false, false, false] rfl rfl (Qv HT_.out (by kernel_rfl)) (fun _ _ _ h => h) (Or.inl ⟨by rfl, ?_⟩) ?_ ?_
       rotate_left
       ·intro w'
        go_simp
        with_reducible rfl
       rotate_left
       ·simp only [Act.put, List.setIfInBounds_toArray, List.set_cons_zero, List.set_cons_succ, Qr, Qt]
        rfl
       refine Qy (i := 1) (N := some 14) (v := ?_) (a' := ?_) #[true, true, false, false, false, false, false, false, false, false, false, false] rfl rfl (Qv HT_.out (by kernel_rfl)) (fun _ _ _ h => h) (Or.inl ⟨by rfl, ?_⟩) ?_ ?_
       rotate_left
       ·intro w'
        go_simp
        with_reducible rfl
       rotate_left
       ·simp only [Act.put, List.setIfInBounds_toArray, List.set_cons_zero, List.set_cons_succ, Qr, Qt]
        rfl
       refine Qy (i := 2) (N := some 15) (v := ?_) (a' := ?_) #[true, true, true, false, false, false, false, false, false, false, false, false] rfl rfl (Qv HT_.out (by kernel_rfl)) (fun _ _ _ h => h) (Or.inl ⟨by rfl, ?_⟩) ?_ ?_
       rotate_left
       ·intro w'
        go_simp
        with_reducible rfl
       rotate_left
       ·simp only [Act.put, List.setIfInBounds_toArray, List.set_cons_zero, List.set_cons_succ, Qr, Qt]
        rfl
       refine Qy (i := 3) (N := some 16) (v := ?_) (a' := ?_) #[true, true, true, true, false, false, false, false, false, false, false, false] rfl rfl (Qv HT_.out (by kernel_rfl)) (fun _ _ _ h => h) (Or.inl ⟨by rfl, ?_⟩) ?_ ?_
       rotate_left
       ·intro w'
        go_simp
        with_reducible rfl
       rotate_left
       ·simp only [Act.put, List.setIfInBounds_toArray, List.set_cons_zero, List.set_cons_succ, Qr, Qt]
        rfl
       refine Qy (i := 4) (N := some 17) (v := ?_) (a' := ?_) #[true, true, true, true, true, false, false, false, false, false, false, false] rfl rfl (Qv HT_.out (by kernel_rfl)) (fun _ _ _ h => h) (Or.inl ⟨by rfl, ?_⟩) ?_ ?_
       rotate_left
       ·intro w'
        go_simp
        with_reducible rfl
       rotate_left
       ·simp only [Act.put, List.setIfInBounds_toArray, List.set_cons_zero, List.set_cons_succ, Qr, Qt]
        rfl
       refine Qy (i := 5) (N := some 18) (v := ?_) (a' := ?_) #[true, true, true, true, true, true, false, false, false, false, false, false] rfl rfl (Qv HT_.out (by kernel_rfl)) (fun _ _ _ h => h) (Or.inl ⟨by rfl, ?_⟩) ?_ ?_
       rotate_left
       ·intro w'
        go_simp
        with_reducible rfl
       rotate_left
       ·simp only [Act.put, List.setIfInBounds_toArray, List.set_cons_zero, List.set_cons_succ, Qr, Qt]
        rfl
       refine Qy (i := 6) (N := some 19) (v := ?_) (a' := ?_) #[true, true, true, true, true, true, true, false, false, false, false, false] rfl rfl (Qv HT_.out (by kernel_rfl)) (fun _ _ _ h => h) (Or.inl ⟨by rfl, ?_⟩) ?_ ?_
       rotate_left
       ·intro w'
        go_simp
        with_reducible rfl
       rotate_left
       ·simp only [Act.put, List.setIfInBounds_toArray, List.set_cons_zero, List.set_cons_succ, Qr, Qt]
        rfl
       refine Qy (i := 7) (N := some 20) (v := ?_) (a' := ?_) #[true, true, true, true, true, true, true, true, false, false, false, false] rfl rfl (Qv HT_.out (by kernel_rfl)) (fun _ _ _ h => h) (Or.inl ⟨by rfl, ?_⟩) ?_ ?_
       rotate_left
       ·intro w'
        go_simp
        with_reducible rfl
       rotate_left
       ·simp only [Act.put, List.setIfInBounds_toArray, List.set_cons_zero, List.set_cons_succ, Qr, Qt]
        rfl
       refine take_ (i := 8) (N := some 21) (v := ?_) (a' := ?_) #[true, true, true, true, true, true, true, true, true, false, false, false] rfl rfl (Q5 HT_.out HW_.out (by kernel_rfl)) (fun _ _ _ h => h) (Or.inl ⟨by rfl, ?_⟩) hHeld ?_ ?_
       rotate_left
       ·rintro w' ⟨s0, s1, s2, s3, s4, s5, s6, s7, s8, s9, s10, s11, s12, s13, s14, s15, s16, s17⟩
        go_simp
        with_reducible rfl
       rotate_left
       ·simp only [Act.put, List.setIfInBounds_toArray, List.set_cons_zero, List.set_cons_succ, Qr, Qt]
        rfl
       refine take_ (i := 9) (N := some 22) (v := ?_) (a' := ?_) #[true, true, true, true, true, true, true, true, true, true, false, false] rfl rfl (Q5 HT_.out HW_.out (by kernel_rfl)) (fun _ _ _ h => h) (Or.inl ⟨by rfl, ?_⟩) hHeld ?_ ?_
       rotate_left
       ·rintro w' ⟨s0, s1, s2, s3, s4, s5, s6, s7, s8, s9, s10, s11, s12, s13, s14, s15, s16, s17⟩
        go_simp
        with_reducible rfl
       rotate_left
       ·simp only [Act.put, List.setIfInBounds_toArray, List.set_cons_zero, List.set_cons_succ, Qr, Qt]
        rfl
       refine one_ (i := 10) (N := some 23) #[true, true, true, true, true, true, true, true, true, true, true, false] rfl rfl (Q6 HT_.out (by kernel_rfl)) (by decide) (fun K hK => ?_)
       refine goes_ Try.func101 (by kernel_rfl) rfl #[.agg #[.int .i64 ((Qf l0 x8_1).f0), .bool ((Qf l0 x8_1).f1), .int .i64 ((Qf l0 x8_1).f2.f0), .int .i64 ((Qf l0 x8_1).f2.f1), .int .i64 ((Qf l0 x8_1).f2.f2), .int .i64 ((Qf l0 x8_1).f2.f3), .int .i64 ((Qf l0 x8_1).f2.f4), .int .i64 ((Qf l0 x8_1).f2.f5), .bool ((Qf l0 x8_1).f2.f6)], .agg #[.int .i64 a1, .bool false, .int .i64 a2_0, .int .i64 a2_1, .int .i64 a2_2, .int .i64 a2_3, .int .i64 a2_4, .int .i64 a2_5, .bool a2_6]] (by rfl) rfl rfl (by (try simp only [List.map_toArray, List.map_cons, List.map_nil]); first | done | rfl | (simp only [List.length_drop, List.length_take]; rfl)) ?_
       with_reducible refine (spec_l06Less.calls ((Qf l0 x8_1).f0) ((Qf l0 x8_1).f1) ((Qf l0 x8_1).f2.f0) ((Qf l0 x8_1).f2.f1) ((Qf l0 x8_1).f2.f2) ((Qf l0 x8_1).f2.f3) ((Qf l0 x8_1).f2.f4) ((Qf l0 x8_1).f2.f5) ((Qf l0 x8_1).f2.f6) a1 false a2_0 a2_1 a2_2 a2_3 a2_4 a2_5 a2_6 false _ A15.out).mono ?_
       rintro e w20 ⟨rfl, hb⟩
       refine ⟨_, rfl, ?_⟩
       have n0_ := Aside0.mk (Qm (g := gb207) (o := .cells #[.int .i64 a2_0, .int .i64 a2_1, .int .i64 a2_2, .int .i64 a2_3, .int .i64 a2_4, .int .i64 a2_5, .bool a2_6] 42 (0, 0)) (by (with_reducible repeat (first | refine Qi ?_ _ | refine Qj ?_ | refine Qh ?_ _)); exact BK207.out) hb)
       have n1_ := Aside0.mk (Qm (g := gb208) (o := .cells #[.slice none 0 0, .slice none 0 0, .int .i64 0] 34 (0, 0)) (by (with_reducible repeat (first | refine Qi ?_ _ | refine Qj ?_ | refine Qh ?_ _)); exact BK208.out) hb)
       have n2_ := Aside0.mk (Qm (g := gb209) (o := .cells #[.int .i64 a1, .bool false, .int .i64 a2_0, .int .i64 a2_1, .int .i64 a2_2, .int .i64 a2_3, .int .i64 a2_4, .int .i64 a2_5, .bool a2_6] 73 (0, 0)) (by (with_reducible repeat (first | refine Qi ?_ _ | refine Qj ?_ | refine Qh ?_ _)); exact BK209.out) hb)
       have n3_ := Aside0.mk (Qn (by repeat (first | (with_reducible first | exact HB.out | apply Qg | apply Qb | apply Qe | refine Qc ?_ GE207.out | refine Qc ?_ GE208.out | refine Qc ?_ GE209.out) | exact HB.out)) hb)
       clear BK207
       clear BK208
       clear BK209
       clear HB
       have BK207 := n0_
       have BK208 := n1_
       have BK209 := n2_
       have HB := n3_
       clear n0_ n1_ n2_ n3_
       (try clear hb)
       (try clear hb2)
       (try clear hk)
       (try clear hi)
       refine hK.out _ _ ⟨(Qa BK209.out 0).trans rfl, (Qa BK209.out 1).trans rfl, (Qa BK209.out 2).trans rfl, (Qa BK209.out 3).trans rfl, (Qa BK209.out 4).trans rfl, (Qa BK209.out 5).trans rfl, (Qa BK209.out 6).trans rfl, (Qa BK209.out 7).trans rfl, (Qa BK209.out 8).trans rfl, ((HB.out.cell (World.block_lt_of_cell? w _ hw210_0)).trans hw210_0), ((HB.out.cell (World.block_lt_of_cell? w _ hw210_1)).trans hw210_1), ((HB.out.cell (World.block_lt_of_cell? w _ hw210_2)).trans hw210_2), ((HB.out.cell (World.block_lt_of_cell? w _ hw210_3)).trans hw210_3), ((HB.out.cell (World.block_lt_of_cell? w _ hw210_4)).trans hw210_4), ((HB.out.cell (World.block_lt_of_cell? w _ hw210_5)).trans hw210_5), ((HB.out.cell (World.block_lt_of_cell? w _ hw210_6)).trans hw210_6), ((HB.out.cell (World.block_lt_of_cell? w _ hw210_7)).trans hw210_7), ((HB.out.cell (World.block_lt_of_cell? w _ hw210_8)).trans hw210_8)⟩ (fun hHeld => ?_)
       clear hK K
       refine Q4 (a' := ?_) ?_ ?_
       rotate_left
       ·show Act.put _ (some 23) _ = _
        simp only [Act.put, List.setIfInBounds_toArray, List.set_cons_zero, List.set_cons_succ, Qr, Qt]
        rfl
       refine Qy (i := 11) (N := some 24) (v := ?_) (a' := ?_) #[true, true, true, true, true, true, true, true, true, true, true, true] rfl rfl (Qv HT_.out (by kernel_rfl)) (fun _ _ _ h => h) (Or.inl ⟨by rfl, ?_⟩) ?_ ?_
       rotate_left
       ·intro w'
        go_simp
        with_reducible rfl
       rotate_left
       ·simp only [Act.put, List.setIfInBounds_toArray, List.set_cons_zero, List.set_cons_succ, Qr, Qt]
        rfl
       refine done_ (done_of HT_.out (by kernel_rfl)) ?_
       try go_wp2
       go_meet
       case rel => exact ⟨_, (x8_1), (by first | rfl | (simp; done) | (simp [*]; done)), H', ⟨by have := HK1.out; first | omega | exact Nat.le_refl _⟩, ⟨by (with_reducible repeat (first | refine Qi ?_ _ | refine Qj ?_ | refine Qh ?_ _)); exact BK207.out⟩, ⟨by (with_reducible repeat (first | refine Qi ?_ _ | refine Qj ?_ | refine Qh ?_ _)); exact BK208.out⟩, ⟨by (with_reducible repeat (first | refine Qi ?_ _ | refine Qj ?_ | refine Qh ?_ _)); exact BK209.out⟩, ⟨by repeat (first | (with_reducible first | exact HB.out | apply Qg | apply Qb | apply Qe | refine Qc ?_ GE207.out | refine Qc ?_ GE208.out | refine Qc ?_ GE209.out) | exact HB.out)⟩⟩
     ·rw [if_neg c14] at H
      exact absurd H (by simp)
    ·rw [if_neg c13] at H
     have c13b0 : decide (x8_1 < (l0.length : Int)) = false := decide_eq_false c13
     clear c13
     (first | rw [c13b0] | (simp only [Qr, Qt]; rw [c13b0]) | skip)
     have H' := Aside0.mk H
     clear H
     try go_wp2
     have n0_ := Aside0.mk (Qj BK207.out)
     have n1_ := Aside0.mk (Qj BK208.out)
     have n2_ := Aside0.mk (Qj BK209.out)
     have n3_ := Aside0.mk (Qe HB.out)
     clear BK207
     clear BK208
     clear BK209
     clear HB
     have BK207 := n0_
     have BK208 := n1_
     have BK209 := n2_
     have HB := n3_
     clear n0_ n1_ n2_ n3_
     refine start_ (n := 12) (S := fun w' => True) (ds := []) #[false, false, false, false, false, false, false, false, false, false, false, false] (by kernel_rfl) rfl rfl trivial (fun hHeld => ?_); refine with_tabW spec_l06Put.tab3 spec_l06Put.bits3 (fun HT_ HW_ => ?_)
     generalize wr.drew = w21 at BK207 BK208 BK209 HB hHeld ⊢
     refine Qy (i := 0) (N := some 13) (v := ?_) (a' := ?_) #[true, false, false, false, false, false, false, false, false, false, false, false] rfl rfl (Qv HT_.out (by kernel_rfl)) (fun _ _ _ h => h) (Or.inl ⟨by rfl, ?_⟩) ?_ ?_
     rotate_left
     ·intro w'
      go_simp
      with_reducible rfl
     rotate_left
     ·simp only [Act.put, List.setIfInBounds_toArray, List.set_cons_zero, List.set_cons_succ, Qr, Qt]
      rfl
     refine Qy (i := 1) (N := some 14) (v := ?_) (a' := ?_) #[true, true, false, false, false, false, false, false, false, false, false, false] rfl rfl (Qv HT_.out (by kernel_rfl)) (fun _ _ _ h => h) (Or.inl ⟨by rfl, ?_⟩) ?_ ?_
     rotate_left
     ·intro w'
      go_simp
      with_reducible rfl
     rotate_left
     ·simp only [Act.put, List.setIfInBounds_toArray, List.set_cons_zero, List.set_cons_succ, Qr, Qt]
      rfl
     refine Qy (i := 2) (N := some 15) (v := ?_) (a' := ?_) #[true, true, true, false, false, false, false, false, false, false, false, false] rfl rfl (Qv HT_.out (by kernel_rfl)) (fun _ _ _ h => h) (Or.inl ⟨by rfl, ?_⟩) ?_ ?_
     rotate_left
     ·intro w'
      go_simp
      with_reducible rfl
     rotate_left
     ·simp only [Act.put, List.setIfInBounds_toArray, List.set_cons_zero, List.set_cons_succ, Qr, Qt]
      rfl
     refine Qy (i := 3) (N := some 16) (v := ?_) (a' := ?_) #[true, true, true, true, false, false, false, false, false, false, false, false] rfl rfl (Qv HT_.out (by kernel_rfl)) (fun _ _ _ h => h) (Or.inl ⟨by rfl, ?_⟩) ?_ ?_
     rotate_left
     ·intro w'
      go_simp
      with_reducible rfl
     rotate_left
     ·simp only [Act.put, List.setIfInBounds_toArray, List.set_cons_zero, List.set_cons_succ, Qr, Qt]
      rfl
     refine Qy (i := 4) (N := some 17) (v := ?_) (a' := ?_) #[true, true, true, true, true, false, false, false, false, false, false, false] rfl rfl (Qv HT_.out (by kernel_rfl)) (fun _ _ _ h => h) (Or.inl ⟨by rfl, ?_⟩) ?_ ?_
     rotate_left
     ·intro w'
      go_simp
      with_reducible rfl
     rotate_left
     ·simp only [Act.put, List.setIfInBounds_toArray, List.set_cons_zero, List.set_cons_succ, Qr, Qt]
      rfl
     refine Qy (i := 5) (N := some 18) (v := undef) (a' := ?_) #[true, true, true, true, true, true, false, false, false, false, false, false] rfl rfl (Qv HT_.out (by kernel_rfl)) (fun _ _ _ h => h) (Or.inr ⟨by rfl, rfl⟩) ?_ ?_
     rotate_left
     ·simp only [Act.put, List.setIfInBounds_toArray, List.set_cons_zero, List.set_cons_succ, Qr, Qt]
      rfl
     refine Qy (i := 6) (N := some 19) (v := undef) (a' := ?_) #[true, true, true, true, true, true, true, false, false, false, false, false] rfl rfl (Qv HT_.out (by kernel_rfl)) (fun _ _ _ h => h) (Or.inr ⟨by rfl, rfl⟩) ?_ ?_
     rotate_left
     ·simp only [Act.put, List.setIfInBounds_toArray, List.set_cons_zero, List.set_cons_succ, Qr, Qt]
      rfl
     refine Qy (i := 7) (N := some 20) (v := undef) (a' := ?_) #[true, true, true, true, true, true, true, true, false, false, false, false] rfl rfl (Qv HT_.out (by kernel_rfl)) (fun _ _ _ h => h) (Or.inr ⟨by rfl, rfl⟩) ?_ ?_
     rotate_left
     ·simp only [Act.put, List.setIfInBounds_toArray, List.set_cons_zero, List.set_cons_succ, Qr, Qt]
      rfl
     refine Qy (i := 8) (N := some 21) (v := undef) (a' := ?_) #[true, true, true, true, true, true, true, true, true, false, false, false] rfl rfl (Qv HT_.out (by kernel_rfl)) (fun _ _ _ h => h) (Or.inr ⟨by rfl, rfl⟩) ?_ ?_
     rotate_left
     ·simp only [Act.put, List.setIfInBounds_toArray, List.set_cons_zero, List.set_cons_succ, Qr, Qt]
      rfl
     refine Qy (i := 9) (N := some 22) (v := undef) (a' := ?_) #[true, true, true, true, true, true, true, true, true, true, false, false] rfl rfl (Qv HT_.out (by kernel_rfl)) (fun _ _ _ h => h) (Or.inr ⟨by rfl, rfl⟩) ?_ ?_
     rotate_left
     ·simp only [Act.put, List.setIfInBounds_toArray, List.set_cons_zero, List.set_cons_succ, Qr, Qt]
      rfl
     refine Qy (i := 10) (N := some 23) (v := undef) (a' := ?_) #[true, true, true, true, true, true, true, true, true, true, true, false] rfl rfl (Qv HT_.out (by kernel_rfl)) (fun _ _ _ h => h) (Or.inr ⟨by rfl, rfl⟩) ?_ ?_
     rotate_left
     ·simp only [Act.put, List.setIfInBounds_toArray, List.set_cons_zero, List.set_cons_succ, Qr, Qt]
      rfl
     refine Qy (i := 11) (N := some 24) (v := ?_) (a' := ?_) #[true, true, true, true, true, true, true, true, true, true, true, true] rfl rfl (Qv HT_.out (by kernel_rfl)) (fun _ _ _ h => h) (Or.inl ⟨by rfl, ?_⟩) ?_ ?_
     rotate_left
     ·intro w'
      go_simp
      with_reducible rfl
     rotate_left
     ·simp only [Act.put, List.setIfInBounds_toArray, List.set_cons_zero, List.set_cons_succ, Qr, Qt]
      rfl
     refine done_ (done_of HT_.out (by kernel_rfl)) ?_
     try go_wp2
     go_meet
     case rel => exact ⟨_, (x8_1), (by first | rfl | (simp; done) | (simp [*]; done)), H', ⟨by have := HK1.out; first | omega | exact Nat.le_refl _⟩, ⟨by (with_reducible repeat (first | refine Qi ?_ _ | refine Qj ?_ | refine Qh ?_ _)); exact BK207.out⟩, ⟨by (with_reducible repeat (first | refine Qi ?_ _ | refine Qj ?_ | refine Qh ?_ _)); exact BK208.out⟩, ⟨by (with_reducible repeat (first | refine Qi ?_ _ | refine Qj ?_ | refine Qh ?_ _)); exact BK209.out⟩, ⟨by repeat (first | (with_reducible first | exact HB.out | apply Qg | apply Qb | apply Qe | refine Qc ?_ GE207.out | refine Qc ?_ GE208.out | refine Qc ?_ GE209.out) | exact HB.out)⟩⟩
 case rest =>
  clear HC4
  try clear c1
  try clear p2
  try clear q2
  try clear hx2
  try clear p6
  try clear c7
  try clear c10
  try clear c11
  try clear c13
  try clear c13b0
  try clear c14
  try clear c14b0
  try clear c16
  try clear p21
  try clear q21
  try clear hx21
  try clear hcz12_0
  try clear hcz12_1
  try clear hcz12_2
  try clear hcz12_3
  try clear hcz12_4
  try clear hcz12_5
  try clear hcz12_6
  try clear hcz12_7
  try clear hcz12_8
  try clear hcz8_0
  try clear hcz8_1
  try clear hcz8_2
  try clear hcz8_3
  try clear hcz8_4
  try clear hcz8_5
  try clear hcz8_6
  try clear hfz12_0
  try clear hfz12_1
  try clear hfz12_2
  try clear hfz12_3
  try clear hfz12_4
  try clear hfz12_5
  try clear hfz12_6
  try clear hfz12_7
  try clear hfz12_8
  try clear hfz8_0
  try clear hfz8_1
  try clear hfz8_2
  try clear hfz8_3
  try clear hfz8_4
  try clear hfz8_5
  try clear hfz8_6
  try clear hx210_0
  try clear hx210_1
  try clear hx210_2
  try clear hx210_3
  try clear hx210_4
  try clear hx210_5
  try clear hx210_6
  try clear hx210_7
  try clear hx210_8
  try clear p2
  try clear p210
  try clear q210
  obtain ⟨kq, x8_3, rfl, HA, HJ3, BK207, BK208, BK209, HB⟩ := hcut
  cases kq with
  | zero => exact absurd HA.out (by simp [spec_l06Put.j1])
  | succ kj3 =>
   have H := HA.out
   clear HA
   simp only [spec_l06Put.j1] at H
   obtain ⟨y212, hy212⟩ : ∃ y_ : List (S73), y_ = (([] : List (S73))) := ⟨_, rfl⟩
   replace H : (if 0 ≤ x8_3 then (if x8_3 ≤ (l0.length : Int) then ((some (l0.take (x8_3 : Int).toNat : List (S73))).bind fun y215 => (if y212.length + y215.length < 1954687338268 then ((some (y212 ++ y215 : List (S73))).bind fun y219 => (if y219.length < 1954687338268 then ((some (y219 ++ [(⟨a1, false, (⟨a2_0, a2_1, a2_2, a2_3, a2_4, a2_5, a2_6⟩ : S42)⟩ : S73)] : List (S73))).bind fun y222 => (if x8_3 < (l0.length : Int) then ((spec_l06Less.f a1 false a2_0 a2_1 a2_2 a2_3 a2_4 a2_5 a2_6 ((Qf l0 x8_3).f0) ((Qf l0 x8_3).f1) ((Qf l0 x8_3).f2.f0) ((Qf l0 x8_3).f2.f1) ((Qf l0 x8_3).f2.f2) ((Qf l0 x8_3).f2.f3) ((Qf l0 x8_3).f2.f4) ((Qf l0 x8_3).f2.f5) ((Qf l0 x8_3).f2.f6)).bind fun t226 => (spec_l06Put.j2 kj3 l0 x8_3 y222 (!t226))) else (spec_l06Put.j2 kj3 l0 x8_3 y222 false))) else (none))) else (none))) else (none)) else (none)) = some (r1, r2, r3) := by first | (rw [hy212]; with_reducible exact H) | (have H2_ := (Option.bind_some _ _).symm.trans H; rw [hy212]; with_reducible exact H2_) | (have H2_ := (Option.bind_some _ _).symm.trans H; with_reducible exact H2_) | with_reducible exact H | (rw [hy212]; exact H) | exact H
   have Ny212 := Aside0.mk hy212
   clear hy212
   by_cases c22 : 0 ≤ x8_3
   ·rw [if_pos c22] at H
    have c22b0 := eq_true c22
    have c22b1 : decide (0 ≤ x8_3) = true := decide_eq_true c22
    clear c22
    by_cases c23 : x8_3 ≤ (l0.length : Int)
    ·rw [if_pos c23] at H
     have c23b0 := eq_true c23
     have c23b1 : decide (x8_3 ≤ (l0.length : Int)) = true := decide_eq_true c23
     clear c23
     obtain ⟨y215, hy215⟩ : ∃ y_ : List (S73), y_ = (l0.take (x8_3 : Int).toNat) := ⟨_, rfl⟩
     replace H : (if y212.length + y215.length < 1954687338268 then ((some (y212 ++ y215 : List (S73))).bind fun y219 => (if y219.length < 1954687338268 then ((some (y219 ++ [(⟨a1, false, (⟨a2_0, a2_1, a2_2, a2_3, a2_4, a2_5, a2_6⟩ : S42)⟩ : S73)] : List (S73))).bind fun y222 => (if x8_3 < (l0.length : Int) then ((spec_l06Less.f a1 false a2_0 a2_1 a2_2 a2_3 a2_4 a2_5 a2_6 ((Qf l0 x8_3).f0) ((Qf l0 x8_3).f1) ((Qf l0 x8_3).f2.f0) ((Qf l0 x8_3).f2.f1) ((Qf l0 x8_3).f2.f2) ((Qf l0 x8_3).f2.f3) ((Qf l0 x8_3).f2.f4) ((Qf l0 x8_3).f2.f5) ((Qf l0 x8_3).f2.f6)).bind fun t226 => (spec_l06Put.j2 kj3 l0 x8_3 y222 (!t226))) else (spec_l06Put.j2 kj3 l0 x8_3 y222 false))) else (none))) else (none)) = some (r1, r2, r3) := by first | (rw [hy215]; with_reducible exact H) | (have H2_ := (Option.bind_some _ _).symm.trans H; rw [hy215]; with_reducible exact H2_) | (have H2_ := (Option.bind_some _ _).symm.trans H; with_reducible exact H2_) | with_reducible exact H | (rw [hy215]; exact H) | exact H
     have Ny215 := Aside0.mk hy215
     clear hy215
     by_cases c24 : y212.length + y215.length < 1954687338268
     ·rw [if_pos c24] at H
      have LMc24 := Aside0.mk c24
      clear c24
      obtain ⟨y219, hy219⟩ : ∃ y_ : List (S73), y_ = (y212 ++ y215) := ⟨_, rfl⟩
      replace H : (if y219.length < 1954687338268 then ((some (y219 ++ [(⟨a1, false, (⟨a2_0, a2_1, a2_2, a2_3, a2_4, a2_5, a2_6⟩ : S42)⟩ : S73)] : List (S73))).bind fun y222 => (if x8_3 < (l0.length : Int) then ((spec_l06Less.f a1 false a2_0 a2_1 a2_2 a2_3 a2_4 a2_5 a2_6 ((Qf l0 x8_3).f0) ((Qf l0 x8_3).f1) ((Qf l0 x8_3).f2.f0) ((Qf l0 x8_3).f2.f1) ((Qf l0 x8_3).f2.f2) ((Qf l0 x8_3).f2.f3) ((Qf l0 x8_3).f2.f4) ((Qf l0 x8_3).f2.f5) ((Qf l0 x8_3).f2.f6)).bind fun t226 => (spec_l06Put.j2 kj3 l0 x8_3 y222 (!t226))) else (spec_l06Put.j2 kj3 l0 x8_3 y222 false))) else (none)) = some (r1, r2, r3) := by first | (rw [hy219]; with_reducible exact H) | (have H2_ := (Option.bind_some _ _).symm.trans H; rw [hy219]; with_reducible exact H2_) | (have H2_ := (Option.bind_some _ _).symm.trans H; with_reducible exact H2_) | with_reducible exact H | (rw [hy219]; exact H) | exact H
      have Ny219 := Aside0.mk hy219
      clear hy219
      by_cases c25 : y219.length < 1954687338268
      ·rw [if_pos c25] at H
       have LMc25 := Aside0.mk c25
       clear c25
       obtain ⟨y222, hy222⟩ : ∃ y_ : List (S73), y_ = (y219 ++ [(⟨a1, false, (⟨a2_0, a2_1, a2_2, a2_3, a2_4, a2_5, a2_6⟩ : S42)⟩ : S73)]) := ⟨_, rfl⟩
       replace H : (if x8_3 < (l0.length : Int) then ((spec_l06Less.f a1 false a2_0 a2_1 a2_2 a2_3 a2_4 a2_5 a2_6 ((Qf l0 x8_3).f0) ((Qf l0 x8_3).f1) ((Qf l0 x8_3).f2.f0) ((Qf l0 x8_3).f2.f1) ((Qf l0 x8_3).f2.f2) ((Qf l0 x8_3).f2.f3) ((Qf l0 x8_3).f2.f4) ((Qf l0 x8_3).f2.f5) ((Qf l0 x8_3).f2.f6)).bind fun t226 => (spec_l06Put.j2 kj3 l0 x8_3 y222 (!t226))) else (spec_l06Put.j2 kj3 l0 x8_3 y222 false)) = some (r1, r2, r3) := by first | (rw [hy222]; with_reducible exact H) | (have H2_ := (Option.bind_some _ _).symm.trans H; rw [hy222]; with_reducible exact H2_) | (have H2_ := (Option.bind_some _ _).symm.trans H; with_reducible exact H2_) | with_reducible exact H | (rw [hy222]; exact H) | exact H
       have Ny222 := Aside0.mk hy222
       clear hy222
       have HC26 := Aside0.mk H
       clear H
       go_upto_region 7 with (first | ((with_reducible refine Qw (N := 27) rfl ?_); refine Kd.R_lit k73 _ 73 ?hg (N := 27) ?hd (xs := ([] : List (S73))) (inner := []) (ok := fun _ => True) (okp := fun _ => True) ?hr ?hp (fun _ hk => hk) trivial (Below.refl _ _) (Nat.le_refl _) (by simp) ?_; (case hd => rfl); (case hg => rfl); (case hr => first | (go_simp; done) | (go_simp; rfl)); (case hp => exact (Reps.none _ _)); intro v213 w27 ho28 hb hg_ hnew_; clear hg_ hnew_; (first | rw [← Ny212.out] at ho28 | (simp only [Int.reduceToNat] at ho28; rw [← Ny212.out] at ho28)); have n0_ := Aside0.mk (Kd.R_lower (Kd.R_newB ho28 (g := gb209) (o := .cells #[.int .i64 a1, .bool false, .int .i64 a2_0, .int .i64 a2_1, .int .i64 a2_2, .int .i64 a2_3, .int .i64 a2_4, .int .i64 a2_5, .bool a2_6] 73 (0, 0)) (by (with_reducible repeat (first | refine Qi ?_ _ | refine Qj ?_ | refine Qh ?_ _)); exact BK209.out)) (Ql (by repeat (first | (with_reducible first | exact HB.out | apply Qg | apply Qb | apply Qe | refine Qc ?_ GE207.out | refine Qc ?_ GE208.out | refine Qc ?_ GE209.out) | exact HB.out)))); have n1_ := Aside0.mk (Qm (g := gb207) (o := .cells #[.int .i64 a2_0, .int .i64 a2_1, .int .i64 a2_2, .int .i64 a2_3, .int .i64 a2_4, .int .i64 a2_5, .bool a2_6] 42 (0, 0)) (by (with_reducible repeat (first | refine Qi ?_ _ | refine Qj ?_ | refine Qh ?_ _)); exact BK207.out) hb); have n2_ := Aside0.mk (Qm (g := gb208) (o := .cells #[.slice none 0 0, .slice none 0 0, .int .i64 0] 34 (0, 0)) (by (with_reducible repeat (first | refine Qi ?_ _ | refine Qj ?_ | refine Qh ?_ _)); exact BK208.out) hb); have n3_ := Aside0.mk (Qm (g := gb209) (o := .cells #[.int .i64 a1, .bool false, .int .i64 a2_0, .int .i64 a2_1, .int .i64 a2_2, .int .i64 a2_3, .int .i64 a2_4, .int .i64 a2_5, .bool a2_6] 73 (0, 0)) (by (with_reducible repeat (first | refine Qi ?_ _ | refine Qj ?_ | refine Qh ?_ _)); exact BK209.out) hb); have n4_ := Aside0.mk (Qn (by repeat (first | (with_reducible first | exact HB.out | apply Qg | apply Qb | apply Qe | refine Qc ?_ GE207.out | refine Qc ?_ GE208.out | refine Qc ?_ GE209.out) | exact HB.out)) hb); clear BK207; clear BK208; clear BK209; clear HB; have HO214 := n0_; have BK207 := n1_; have BK208 := n2_; have BK209 := n3_; have HB := n4_; clear n0_ n1_ n2_ n3_ n4_; clear hb ho28; have q29 : (x8_3 : Int) ≤ ((l0.length : Int) : Int) := of_decide_eq_true (by assumption); obtain ⟨i029, hi029, _, hsz29, _⟩ := info_parts info73; have hroom29 : l0.length ≤ c0 := HC0.out; have hC29 : Kd.C k73 _ A0 l0.length l0 := HR0.out; have hcut29 := cut_to (P := Try.prog) 26 73 .i64 Try.underlying26 hi029 A0 l0.length c0 x8_3 (of_decide_eq_true (by assumption)) q29 hroom29; have hr29 := Kd.C_take (m := (x8_3 : Int).toNat) hC29 (by omega); have hy29 : y215.length = (x8_3 : Int).toNat := (by rw [Ny215.out, List.length_take]; omega); rw [← Ny215.out] at hr29; rw [← hy29] at hcut29; have HR218 := Aside0.mk hr29; have HC218 := Aside0.mk (show y215.length ≤ c0 from by omega); clear hr29 hC29 hroom29 hi029 hsz29; have KY29 := Aside0.mk hy29; clear hy29; replace q29 := eq_true q29) | ((with_reducible refine gate_builtin (b := .append) (xs := #[.tmp 27, .tmp 30]) rfl ?_); at_builtin; refine Kd.R_append_rows k73 (w0 := w) w.heap.size rfl (.tmp 27) (.tmp 30) 26 73 (.agg #[(.int .i64 0), (.bool false), (.int .i64 0), (.int .i64 0), (.int .i64 0), (.int .i64 0), (.int .i64 0), (.int .i64 0), (.bool false)]) 72 rfl Try.underlying26 info73 rfl (by decide) (by omega) v213 y212 y215 _ _ _ (fun k_ => k_ ≠ gb209) (fun _ => False) rfl rfl ?aO ?aR (fun _ _ h => h) (fun _ h => h.elim) ?aF ?aB ?aS ?aL ?_; (case aR => repeat (first | exact (Kd.C_below HR218.out HB.out) | (with_reducible refine Kd.C_alloc ?_ _) | (with_reducible refine Kd.C_drewN ?_ _) | (with_reducible refine Kd.C_drew ?_))); (case aB => exact (by repeat (first | (with_reducible first | exact HB.out | apply Qg | apply Qb | apply Qe | refine Qc ?_ GE207.out | refine Qc ?_ GE208.out | refine Qc ?_ GE209.out) | exact HB.out))); (case aF => exact (fun k_ hk => Kd.freshB (g := gb209) (o := .cells #[.int .i64 a1, .bool false, .int .i64 a2_0, .int .i64 a2_1, .int .i64 a2_2, .int .i64 a2_3, .int .i64 a2_4, .int .i64 a2_5, .bool a2_6] 73 (0, 0)) (by (with_reducible repeat (first | refine Qi ?_ _ | refine Qj ?_ | refine Qh ?_ _)); exact BK209.out) k_ hk)); (case aO => exact (by (with_reducible repeat (first | apply Kd.R_alloc | apply Kd.R_drewN | apply Kd.R_drew)); exact Kd.R_mono HO214.out (fun _ hk => hk.2))); (case aS => exact (Ql (by repeat (first | (with_reducible first | exact HB.out | apply Qg | apply Qb | apply Qe | refine Qc ?_ GE207.out | refine Qc ?_ GE208.out | refine Qc ?_ GE209.out) | exact HB.out)))); (case aL => have := LMc24.out; omega); intro v220 w30 ho hb hg hat; rw [← Ny219.out] at ho; have n0_ := Aside0.mk (blk_grown (g := gb207) (o := .cells #[.int .i64 a2_0, .int .i64 a2_1, .int .i64 a2_2, .int .i64 a2_3, .int .i64 a2_4, .int .i64 a2_5, .bool a2_6] 42 (0, 0)) (by (with_reducible repeat (first | refine Qi ?_ _ | refine Qj ?_ | refine Qh ?_ _)); exact BK207.out) hg (Kd.R_ne HO214.out BK207.out (by decide))); have n1_ := Aside0.mk (blk_grown (g := gb208) (o := .cells #[.slice none 0 0, .slice none 0 0, .int .i64 0] 34 (0, 0)) (by (with_reducible repeat (first | refine Qi ?_ _ | refine Qj ?_ | refine Qh ?_ _)); exact BK208.out) hg (Kd.R_ne HO214.out BK208.out (by decide))); have n2_ := Aside0.mk (blk_grown (g := gb209) (o := .cells #[.int .i64 a1, .bool false, .int .i64 a2_0, .int .i64 a2_1, .int .i64 a2_2, .int .i64 a2_3, .int .i64 a2_4, .int .i64 a2_5, .bool a2_6] 73 (0, 0)) (by (with_reducible repeat (first | refine Qi ?_ _ | refine Qj ?_ | refine Qh ?_ _)); exact BK209.out) hg (Kd.R_away HO214.out (fun _ hk => hk.2))); have n3_ := Aside0.mk (hb); have n4_ := Aside0.mk (ho); clear BK207; clear BK208; clear BK209; clear HB; clear HO214; have BK207 := n0_; have BK208 := n1_; have BK209 := n2_; have HB := n3_; have HO221 := n4_; clear n0_ n1_ n2_ n3_ n4_; clear ho hb hg hat; have hnb31 := NB209_207.out; have hnc31 := NB207_209.out; have hnb32 := NB209_208.out; have hnc32 := NB208_209.out; have hcz33_0 : w30.cell? ⟨gb209, 0, none⟩ = some (.int .i64 a1) := (Qa BK209.out 0).trans rfl; have hcz33_1 : w30.cell? ⟨gb209, 1, none⟩ = some (.bool false) := (Qa BK209.out 1).trans rfl; have hcz33_2 : w30.cell? ⟨gb209, 2, none⟩ = some (.int .i64 a2_0) := (Qa BK209.out 2).trans rfl; have hcz33_3 : w30.cell? ⟨gb209, 3, none⟩ = some (.int .i64 a2_1) := (Qa BK209.out 3).trans rfl; have hcz33_4 : w30.cell? ⟨gb209, 4, none⟩ = some (.int .i64 a2_2) := (Qa BK209.out 4).trans rfl; have hcz33_5 : w30.cell? ⟨gb209, 5, none⟩ = some (.int .i64 a2_3) := (Qa BK209.out 5).trans rfl; have hcz33_6 : w30.cell? ⟨gb209, 6, none⟩ = some (.int .i64 a2_4) := (Qa BK209.out 6).trans rfl; have hcz33_7 : w30.cell? ⟨gb209, 7, none⟩ = some (.int .i64 a2_5) := (Qa BK209.out 7).trans rfl; have hcz33_8 : w30.cell? ⟨gb209, 8, none⟩ = some (.bool a2_6) := (Qa BK209.out 8).trans rfl; have hfz33_0 := Qd BK209.out 0; have hfz33_1 := Qd BK209.out 1; have hfz33_2 := Qd BK209.out 2; have hfz33_3 := Qd BK209.out 3; have hfz33_4 := Qd BK209.out 4; have hfz33_5 := Qd BK209.out 5; have hfz33_6 := Qd BK209.out 6; have hfz33_7 := Qd BK209.out 7; have hfz33_8 := Qd BK209.out 8) | ((with_reducible refine gate_builtin (b := .append) (xs := #[.tmp 32, .tmp 34]) rfl ?_); at_builtin; refine Kd.R_append k73 (w0 := w) w.heap.size rfl (.tmp 32) (.tmp 34) 26 73 (.agg #[(.int .i64 0), (.bool false), (.int .i64 0), (.int .i64 0), (.int .i64 0), (.int .i64 0), (.int .i64 0), (.int .i64 0), (.bool false)]) 72 rfl Try.underlying26 info73 rfl (by decide) (by omega) v220 y219 (⟨a1, false, (⟨a2_0, a2_1, a2_2, a2_3, a2_4, a2_5, a2_6⟩ : S42)⟩ : S73) [.int .i64 a1, .bool false, .int .i64 a2_0, .int .i64 a2_1, .int .i64 a2_2, .int .i64 a2_3, .int .i64 a2_4, .int .i64 a2_5, .bool a2_6] (fun k_ => k_ ≠ gb209) (fun _ => False) rfl rfl ?aP (fun _ hk => hk.elim) ?aF ?aO ?aB ?aS ?aL ?_; (case aP => exact k73_mkM _ _ _ (⟨a1, false, (⟨a2_0, a2_1, a2_2, a2_3, a2_4, a2_5, a2_6⟩ : S42)⟩ : S73)); (case aB => exact (by repeat (first | (with_reducible first | exact HB.out | apply Qg | apply Qb | apply Qe | refine Qc ?_ GE207.out | refine Qc ?_ GE208.out | refine Qc ?_ GE209.out) | exact HB.out))); (case aF => exact (fun k_ hk => Kd.freshB (g := gb209) (o := .cells #[.int .i64 a1, .bool false, .int .i64 a2_0, .int .i64 a2_1, .int .i64 a2_2, .int .i64 a2_3, .int .i64 a2_4, .int .i64 a2_5, .bool a2_6] 73 (0, 0)) (by (with_reducible repeat (first | refine Qi ?_ _ | refine Qj ?_ | refine Qh ?_ _)); exact BK209.out) k_ hk)); (case aO => exact (by (with_reducible repeat (first | apply Kd.R_alloc | apply Kd.R_drewN | apply Kd.R_drew)); exact HO221.out)); (case aS => exact (Ql (by repeat (first | (with_reducible first | exact HB.out | apply Qg | apply Qb | apply Qe | refine Qc ?_ GE207.out | refine Qc ?_ GE208.out | refine Qc ?_ GE209.out) | exact HB.out)))); (case aL => have := LMc25.out; omega); intro v223 w34 ho hb hg hat; rw [← Ny222.out] at ho; have n0_ := Aside0.mk (blk_grown (g := gb207) (o := .cells #[.int .i64 a2_0, .int .i64 a2_1, .int .i64 a2_2, .int .i64 a2_3, .int .i64 a2_4, .int .i64 a2_5, .bool a2_6] 42 (0, 0)) (by (with_reducible repeat (first | refine Qi ?_ _ | refine Qj ?_ | refine Qh ?_ _)); exact BK207.out) hg (Kd.R_ne HO221.out BK207.out (by decide))); have n1_ := Aside0.mk (blk_grown (g := gb208) (o := .cells #[.slice none 0 0, .slice none 0 0, .int .i64 0] 34 (0, 0)) (by (with_reducible repeat (first | refine Qi ?_ _ | refine Qj ?_ | refine Qh ?_ _)); exact BK208.out) hg (Kd.R_ne HO221.out BK208.out (by decide))); have n2_ := Aside0.mk (blk_grown (g := gb209) (o := .cells #[.int .i64 a1, .bool false, .int .i64 a2_0, .int .i64 a2_1, .int .i64 a2_2, .int .i64 a2_3, .int .i64 a2_4, .int .i64 a2_5, .bool a2_6] 73 (0, 0)) (by (with_reducible repeat (first | refine Qi ?_ _ | refine Qj ?_ | refine Qh ?_ _)); exact BK209.out) hg (Kd.R_away HO221.out (fun _ hk => hk))); have n3_ := Aside0.mk (hb); have n4_ := Aside0.mk (ho); clear BK207; clear BK208; clear BK209; clear HB; clear HO221; have BK207 := n0_; have BK208 := n1_; have BK209 := n2_; have HB := n3_; have HO224 := n4_; clear n0_ n1_ n2_ n3_ n4_; clear ho hb hg hat))
       (try simp only [Act.put, List.setIfInBounds_toArray, List.set_cons_zero, List.set_cons_succ])
       go_cut [48] (fun v48 wc => ∃ (kq : Nat) (x48_25 : Bool), v48 = .bool x48_25 ∧ Aside0 (spec_l06Put.j2 kq l0 x8_3 y222 x48_25 = some (r1, r2, r3)) ∧ Aside0 (kq ≤ kj3) ∧ Aside0 (Kd.R k73 73 wc w.heap.size (fun k_ => k_ ≠ gb209) v223 y222) ∧ Aside0 (wc.heap[gb207]? = some (.cells #[.int .i64 a2_0, .int .i64 a2_1, .int .i64 a2_2, .int .i64 a2_3, .int .i64 a2_4, .int .i64 a2_5, .bool a2_6] 42 (0, 0))) ∧ Aside0 (wc.heap[gb208]? = some (.cells #[(.slice none 0 0), (.slice none 0 0), .int .i64 0] 34 (0, 0))) ∧ Aside0 (wc.heap[gb209]? = some (.cells #[.int .i64 a1, .bool false, .int .i64 a2_0, .int .i64 a2_1, .int .i64 a2_2, .int .i64 a2_3, .int .i64 a2_4, .int .i64 a2_5, .bool a2_6] 73 (0, 0))) ∧ Aside0 (Below w.heap.size w wc))
       case first =>
        have H := HC26.out
        clear HC26
        by_cases c35 : x8_3 < (l0.length : Int)
        ·rw [if_pos c35] at H
         have c35b0 : decide (x8_3 < (l0.length : Int)) = true := decide_eq_true c35
         clear c35
         (first | rw [c35b0] | (simp only [Qr, Qt]; rw [c35b0]) | skip)
         replace H := Option.bind_eq_some_iff.mp H
         obtain ⟨t226, A360, H⟩ := H
         replace H : (spec_l06Put.j2 kj3 l0 x8_3 y222 (!t226)) = some (r1, r2, r3) := H
         have A36 := Aside0.mk A360
         clear A360
         have H' := Aside0.mk H
         clear H
         try go_wp2
         have n0_ := Aside0.mk (Kd.R_drew HO224.out)
         have n1_ := Aside0.mk (Qj BK207.out)
         have n2_ := Aside0.mk (Qj BK208.out)
         have n3_ := Aside0.mk (Qj BK209.out)
         have n4_ := Aside0.mk (Qe HB.out)
         clear HO224
         clear BK207
         clear BK208
         clear BK209
         clear HB
         have HO224 := n0_
         have BK207 := n1_
         have BK208 := n2_
         have BK209 := n3_
         have HB := n4_
         clear n0_ n1_ n2_ n3_ n4_
         have p225 : 0 ≤ (x8_3 : Int) := of_decide_eq_true (by assumption)
         have q225 : x8_3 < (l0.length : Int) := of_decide_eq_true (by assumption)
         obtain ⟨ad225, e225, hx225_0, hx225_1, hx225_2, hx225_3, hx225_4, hx225_5, hx225_6, hx225_7, hx225_8⟩ := Q1 HR0.out x8_3 p225 q225
         have hw225_8 := hx225_8
         have hw225_7 := hx225_7
         have hw225_6 := hx225_6
         have hw225_5 := hx225_5
         have hw225_4 := hx225_4
         have hw225_3 := hx225_3
         have hw225_2 := hx225_2
         have hw225_1 := hx225_1
         have hw225_0 := hx225_0
         cases e225
         replace hx225_0 := (HB.out.cell (World.block_lt_of_cell? w _ hx225_0)).trans hx225_0
         replace hx225_1 := (HB.out.cell (World.block_lt_of_cell? w _ hx225_1)).trans hx225_1
         replace hx225_2 := (HB.out.cell (World.block_lt_of_cell? w _ hx225_2)).trans hx225_2
         replace hx225_3 := (HB.out.cell (World.block_lt_of_cell? w _ hx225_3)).trans hx225_3
         replace hx225_4 := (HB.out.cell (World.block_lt_of_cell? w _ hx225_4)).trans hx225_4
         replace hx225_5 := (HB.out.cell (World.block_lt_of_cell? w _ hx225_5)).trans hx225_5
         replace hx225_6 := (HB.out.cell (World.block_lt_of_cell? w _ hx225_6)).trans hx225_6
         replace hx225_7 := (HB.out.cell (World.block_lt_of_cell? w _ hx225_7)).trans hx225_7
         replace hx225_8 := (HB.out.cell (World.block_lt_of_cell? w _ hx225_8)).trans hx225_8
         replace p225 := eq_true p225
         replace q225 := eq_true q225
         refine start_ (n := 13) (S := fun w' => w'.cell? ⟨gb209, 0, none⟩ = some (.int .i64 a1) ∧ w'.cell? ⟨gb209, 1, none⟩ = some (.bool false) ∧ w'.cell? ⟨gb209, 2, none⟩ = some (.int .i64 a2_0) ∧ w'.cell? ⟨gb209, 3, none⟩ = some (.int .i64 a2_1) ∧ w'.cell? ⟨gb209, 4, none⟩ = some (.int .i64 a2_2) ∧ w'.cell? ⟨gb209, 5, none⟩ = some (.int .i64 a2_3) ∧ w'.cell? ⟨gb209, 6, none⟩ = some (.int .i64 a2_4) ∧ w'.cell? ⟨gb209, 7, none⟩ = some (.int .i64 a2_5) ∧ w'.cell? ⟨gb209, 8, none⟩ = some (.bool a2_6) ∧ w'.cell? (ad225.add ((x8_3).toNat * 9)) = some (.int .i64 ((Qf l0 x8_3).f0)) ∧ w'.cell? ⟨(ad225.add ((x8_3).toNat * 9)).block, (ad225.add ((x8_3).toNat * 9)).off + 1, none⟩ = some (.bool ((Qf l0 x8_3).f1)) ∧ w'.cell? ⟨(ad225.add ((x8_3).toNat * 9)).block, (ad225.add ((x8_3).toNat * 9)).off + 2, none⟩ = some (.int .i64 ((Qf l0 x8_3).f2.f0)) ∧ w'.cell? ⟨(ad225.add ((x8_3).toNat * 9)).block, (ad225.add ((x8_3).toNat * 9)).off + 3, none⟩ = some (.int .i64 ((Qf l0 x8_3).f2.f1)) ∧ w'.cell? ⟨(ad225.add ((x8_3).toNat * 9)).block, (ad225.add ((x8_3).toNat * 9)).off + 4, none⟩ = some (.int .i64 ((Qf l0 x8_3).f2.f2)) ∧ w'.cell? ⟨(ad225.add ((x8_3).toNat * 9)).block, (ad225.add ((x8_3).toNat * 9)).off + 5, none⟩ = some (.int .i64 ((Qf l0 x8_3).f2.f3)) ∧ w'.cell? ⟨(ad225.add ((x8_3).toNat * 9)).block, (ad225.add ((x8_3).toNat * 9)).off + 6, none⟩ = some (.int .i64 ((Qf l0 x8_3).f2.f4)) ∧ w'.cell? ⟨(ad225.add ((x8_3).toNat * 9)).block, (ad225.add ((x8_3).toNat * 9)).off + 7, none⟩ = some (.int .i64 ((Qf l0 x8_3).f2.f5)) ∧ w'.cell? ⟨(ad225.add ((x8_3).toNat * 9)).block, (ad225.add ((x8_3).toNat * 9)).off + 8, none⟩ = some (.bool ((Qf l0 x8_3).f2.f6))) (ds := []) #[false, false, false, false, false, false, false, false, false, false, false, false, false] (by kernel_rfl) rfl rfl ⟨(Qa BK209.out 0).trans rfl, (Qa BK209.out 1).trans rfl, (Qa BK209.out 2).trans rfl, (Qa BK209.out 3).trans rfl, (Qa BK209.out 4).trans rfl, (Qa BK209.out 5).trans rfl, (Qa BK209.out 6).trans rfl, (Qa BK209.out 7).trans rfl, (Qa BK209.out 8).trans rfl, ((HB.out.cell (World.block_lt_of_cell? w _ hw225_0)).trans hw225_0), ((HB.out.cell (World.block_lt_of_cell? w _ hw225_1)).trans hw225_1), ((HB.out.cell (World.block_lt_of_cell? w _ hw225_2)).trans hw225_2), ((HB.out.cell (World.block_lt_of_cell? w _ hw225_3)).trans hw225_3), ((HB.out.cell (World.block_lt_of_cell? w _ hw225_4)).trans hw225_4), ((HB.out.cell (World.block_lt_of_cell? w _ hw225_5)).trans hw225_5), ((HB.out.cell (World.block_lt_of_cell? w _ hw225_6)).trans hw225_6), ((HB.out.cell (World.block_lt_of_cell? w _ hw225_7)).trans hw225_7), ((HB.out.cell (World.block_lt_of_cell? w _ hw225_8)).trans hw225_8)⟩ (fun hHeld => ?_); refine with_tabW spec_l06Put.tab7 spec_l06Put.bits7 (fun HT_ HW_ => ?_)
         generalize w34.drew = w37 at HO224 BK207 BK208 BK209 HB hx225_0 hx225_1 hx225_2 hx225_3 hx225_4 hx225_5 hx225_6 hx225_7 hx225_8 hHeld ⊢
         refine Qy (i := 0) (N := some 36) (v := ?_) (a' := ?_) #[true, false, false, false, false, false, false, false, false, false, false, false, false] rfl rfl (Qv HT_.out (by kernel_rfl)) (fun _ _ _ h => h) (Or.inl ⟨by rfl, ?_⟩) ?_ ?_
         rotate_left
         ·intro w'
          go_simp
          with_reducible rfl
         rotate_left
         ·simp only [Act.put, List.setIfInBounds_toArray, List.set_cons_zero, List.set_cons_succ, Qr, Qt]
          rfl
         refine Qy (i := 1) (N := some 37) (v := ?_) (a' := ?_) #[true, true, false, false, false, false, false, false, false, false, false, false, false] rfl rfl (Qv HT_.out (by kernel_rfl)) (fun _ _ _ h => h) (Or.inl ⟨by rfl, ?_⟩) ?_ ?_
         rotate_left
         ·intro w'
          go_simp
          with_reducible rfl
         rotate_left
         ·simp only [Act.put, List.setIfInBounds_toArray, List.set_cons_zero, List.set_cons_succ, Qr, Qt]
          rfl
         refine Qy (i := 2) (N := some 38) (v := ?_) (a' := ?_) #[true, true, true, false, false, false, false, false, false, false, false, false, false] rfl rfl (Qv HT_.out (by kernel_rfl)) (fun _ _ _ h => h) (Or.inl ⟨by rfl, ?_⟩) ?_ ?_
         rotate_left
         ·intro w'
          go_simp
          with_reducible rfl
         rotate_left
         ·simp only [Act.put, List.setIfInBounds_toArray, List.set_cons_zero, List.set_cons_succ, Qr, Qt]
          rfl
         refine Qy (i := 3) (N := some 39) (v := ?_) (a' := ?_) #[true, true, true, true, false, false, false, false, false, false, false, false, false] rfl rfl (Qv HT_.out (by kernel_rfl)) (fun _ _ _ h => h) (Or.inl ⟨by rfl, ?_⟩) ?_ ?_
         rotate_left
         ·intro w'
          go_simp
          with_reducible rfl
         rotate_left
         ·simp only [Act.put, List.setIfInBounds_toArray, List.set_cons_zero, List.set_cons_succ, Qr, Qt]
          rfl
         refine Qy (i := 4) (N := some 40) (v := ?_) (a' := ?_) #[true, true, true, true, true, false, false, false, false, false, false, false, false] rfl rfl (Qv HT_.out (by kernel_rfl)) (fun _ _ _ h => h) (Or.inl ⟨by rfl, ?_⟩) ?_ ?_
         rotate_left
         ·intro w'
          go_simp
          with_reducible rfl
         rotate_left
         ·simp only [Act.put, List.setIfInBounds_toArray, List.set_cons_zero, List.set_cons_succ, Qr, Qt]
          rfl
         refine Qy (i := 6) (N := some 42) (v := ?_) (a' := ?_) #[true, true, true, true, true, false, true, false, false, false, false, false, false] rfl rfl (Qv HT_.out (by kernel_rfl)) (fun _ _ _ h => h) (Or.inl ⟨by rfl, ?_⟩) ?_ ?_
         rotate_left
         ·intro w'
          go_simp
          with_reducible rfl
         rotate_left
         ·simp only [Act.put, List.setIfInBounds_toArray, List.set_cons_zero, List.set_cons_succ, Qr, Qt]
          rfl
         refine Qy (i := 7) (N := some 43) (v := ?_) (a' := ?_) #[true, true, true, true, true, false, true, true, false, false, false, false, false] rfl rfl (Qv HT_.out (by kernel_rfl)) (fun _ _ _ h => h) (Or.inl ⟨by rfl, ?_⟩) ?_ ?_
         rotate_left
         ·intro w'
          go_simp
          with_reducible rfl
         rotate_left
         ·simp only [Act.put, List.setIfInBounds_toArray, List.set_cons_zero, List.set_cons_succ, Qr, Qt]
          rfl
         refine Qy (i := 8) (N := some 44) (v := ?_) (a' := ?_) #[true, true, true, true, true, false, true, true, true, false, false, false, false] rfl rfl (Qv HT_.out (by kernel_rfl)) (fun _ _ _ h => h) (Or.inl ⟨by rfl, ?_⟩) ?_ ?_
         rotate_left
         ·intro w'
          go_simp
          with_reducible rfl
         rotate_left
         ·simp only [Act.put, List.setIfInBounds_toArray, List.set_cons_zero, List.set_cons_succ, Qr, Qt]
          rfl
         refine take_ (i := 5) (N := some 41) (v := ?_) (a' := ?_) #[true, true, true, true, true, true, true, true, true, false, false, false, false] rfl rfl (Q5 HT_.out HW_.out (by kernel_rfl)) (fun _ _ _ h => h) (Or.inl ⟨by rfl, ?_⟩) hHeld ?_ ?_
         rotate_left
         ·rintro w' ⟨s0, s1, s2, s3, s4, s5, s6, s7, s8, s9, s10, s11, s12, s13, s14, s15, s16, s17⟩
          go_simp
          with_reducible rfl
         rotate_left
         ·simp only [Act.put, List.setIfInBounds_toArray, List.set_cons_zero, List.set_cons_succ, Qr, Qt]
          rfl
         refine take_ (i := 9) (N := some 45) (v := ?_) (a' := ?_) #[true, true, true, true, true, true, true, true, true, true, false, false, false] rfl rfl (Q5 HT_.out HW_.out (by kernel_rfl)) (fun _ _ _ h => h) (Or.inl ⟨by rfl, ?_⟩) hHeld ?_ ?_
         rotate_left
         ·rintro w' ⟨s0, s1, s2, s3, s4, s5, s6, s7, s8, s9, s10, s11, s12, s13, s14, s15, s16, s17⟩
          go_simp
          with_reducible rfl
         rotate_left
         ·simp only [Act.put, List.setIfInBounds_toArray, List.set_cons_zero, List.set_cons_succ, Qr, Qt]
          rfl
         refine one_ (i := 10) (N := some 46) #[true, true, true, true, true, true, true, true, true, true, true, false, false] rfl rfl (Q6 HT_.out (by kernel_rfl)) (by decide) (fun K hK => ?_)
         refine goes_ Try.func101 (by kernel_rfl) rfl #[.agg #[.int .i64 a1, .bool false, .int .i64 a2_0, .int .i64 a2_1, .int .i64 a2_2, .int .i64 a2_3, .int .i64 a2_4, .int .i64 a2_5, .bool a2_6], .agg #[.int .i64 ((Qf l0 x8_3).f0), .bool ((Qf l0 x8_3).f1), .int .i64 ((Qf l0 x8_3).f2.f0), .int .i64 ((Qf l0 x8_3).f2.f1), .int .i64 ((Qf l0 x8_3).f2.f2), .int .i64 ((Qf l0 x8_3).f2.f3), .int .i64 ((Qf l0 x8_3).f2.f4), .int .i64 ((Qf l0 x8_3).f2.f5), .bool ((Qf l0 x8_3).f2.f6)]] (by rfl) rfl rfl (by (try simp only [List.map_toArray, List.map_cons, List.map_nil]); first | done | rfl | (simp only [List.length_drop, List.length_take]; rfl)) ?_
         with_reducible refine (spec_l06Less.calls a1 false a2_0 a2_1 a2_2 a2_3 a2_4 a2_5 a2_6 ((Qf l0 x8_3).f0) ((Qf l0 x8_3).f1) ((Qf l0 x8_3).f2.f0) ((Qf l0 x8_3).f2.f1) ((Qf l0 x8_3).f2.f2) ((Qf l0 x8_3).f2.f3) ((Qf l0 x8_3).f2.f4) ((Qf l0 x8_3).f2.f5) ((Qf l0 x8_3).f2.f6) t226 _ A36.out).mono ?_
         rintro e w38 ⟨rfl, hb⟩
         refine ⟨_, rfl, ?_⟩
         have n0_ := Aside0.mk (Kd.R_below (by (with_reducible repeat (first | apply Kd.R_alloc | apply Kd.R_drewN | apply Kd.R_drew)); exact HO224.out) hb)
         have n1_ := Aside0.mk (Qm (g := gb207) (o := .cells #[.int .i64 a2_0, .int .i64 a2_1, .int .i64 a2_2, .int .i64 a2_3, .int .i64 a2_4, .int .i64 a2_5, .bool a2_6] 42 (0, 0)) (by (with_reducible repeat (first | refine Qi ?_ _ | refine Qj ?_ | refine Qh ?_ _)); exact BK207.out) hb)
         have n2_ := Aside0.mk (Qm (g := gb208) (o := .cells #[.slice none 0 0, .slice none 0 0, .int .i64 0] 34 (0, 0)) (by (with_reducible repeat (first | refine Qi ?_ _ | refine Qj ?_ | refine Qh ?_ _)); exact BK208.out) hb)
         have n3_ := Aside0.mk (Qm (g := gb209) (o := .cells #[.int .i64 a1, .bool false, .int .i64 a2_0, .int .i64 a2_1, .int .i64 a2_2, .int .i64 a2_3, .int .i64 a2_4, .int .i64 a2_5, .bool a2_6] 73 (0, 0)) (by (with_reducible repeat (first | refine Qi ?_ _ | refine Qj ?_ | refine Qh ?_ _)); exact BK209.out) hb)
         have n4_ := Aside0.mk (Qn (by repeat (first | (with_reducible first | exact HB.out | apply Qg | apply Qb | apply Qe | refine Qc ?_ GE207.out | refine Qc ?_ GE208.out | refine Qc ?_ GE209.out) | exact HB.out)) hb)
         clear HO224
         clear BK207
         clear BK208
         clear BK209
         clear HB
         have HO224 := n0_
         have BK207 := n1_
         have BK208 := n2_
         have BK209 := n3_
         have HB := n4_
         clear n0_ n1_ n2_ n3_ n4_
         (try clear hb)
         (try clear hb2)
         (try clear hk)
         (try clear hi)
         refine hK.out _ _ ⟨(Qa BK209.out 0).trans rfl, (Qa BK209.out 1).trans rfl, (Qa BK209.out 2).trans rfl, (Qa BK209.out 3).trans rfl, (Qa BK209.out 4).trans rfl, (Qa BK209.out 5).trans rfl, (Qa BK209.out 6).trans rfl, (Qa BK209.out 7).trans rfl, (Qa BK209.out 8).trans rfl, ((HB.out.cell (World.block_lt_of_cell? w _ hw225_0)).trans hw225_0), ((HB.out.cell (World.block_lt_of_cell? w _ hw225_1)).trans hw225_1), ((HB.out.cell (World.block_lt_of_cell? w _ hw225_2)).trans hw225_2), ((HB.out.cell (World.block_lt_of_cell? w _ hw225_3)).trans hw225_3), ((HB.out.cell (World.block_lt_of_cell? w _ hw225_4)).trans hw225_4), ((HB.out.cell (World.block_lt_of_cell? w _ hw225_5)).trans hw225_5), ((HB.out.cell (World.block_lt_of_cell? w _ hw225_6)).trans hw225_6), ((HB.out.cell (World.block_lt_of_cell? w _ hw225_7)).trans hw225_7), ((HB.out.cell (World.block_lt_of_cell? w _ hw225_8)).trans hw225_8)⟩ (fun hHeld => ?_)
         clear hK K
         refine Q4 (a' := ?_) ?_ ?_
         rotate_left
         ·show Act.put _ (some 46) _ = _
          simp only [Act.put, List.setIfInBounds_toArray, List.set_cons_zero, List.set_cons_succ, Qr, Qt]
          rfl
         refine Qy (i := 11) (N := some 47) (v := ?_) (a' := ?_) #[true, true, true, true, true, true, true, true, true, true, true, true, false] rfl rfl (Qv HT_.out (by kernel_rfl)) (fun _ _ _ h => h) (Or.inl ⟨by rfl, ?_⟩) ?_ ?_
         rotate_left
         ·intro w'
          go_simp
          with_reducible rfl
         rotate_left
         ·simp only [Act.put, List.setIfInBounds_toArray, List.set_cons_zero, List.set_cons_succ, Qr, Qt]
          rfl
         refine Qy (i := 12) (N := some 48) (v := ?_) (a' := ?_) #[true, true, true, true, true, true, true, true, true, true, true, true, true] rfl rfl (Qv HT_.out (by kernel_rfl)) (fun _ _ _ h => h) (Or.inl ⟨by rfl, ?_⟩) ?_ ?_
         rotate_left
         ·intro w'
          go_simp
          with_reducible rfl
         rotate_left
         ·simp only [Act.put, List.setIfInBounds_toArray, List.set_cons_zero, List.set_cons_succ, Qr, Qt]
          rfl
         refine done_ (done_of HT_.out (by kernel_rfl)) ?_
         try go_wp2
         go_meet
         case rel => exact ⟨_, (!t226), (by first | rfl | (simp; done) | (simp [*]; done)), H', ⟨by have := HJ3.out; first | omega | exact Nat.le_refl _⟩, ⟨by (with_reducible repeat (first | apply Kd.R_alloc | apply Kd.R_drewN | apply Kd.R_drew)); exact HO224.out⟩, ⟨by (with_reducible repeat (first | refine Qi ?_ _ | refine Qj ?_ | refine Qh ?_ _)); exact BK207.out⟩, ⟨by (with_reducible repeat (first | refine Qi ?_ _ | refine Qj ?_ | refine Qh ?_ _)); exact BK208.out⟩, ⟨by (with_reducible repeat (first | refine Qi ?_ _ | refine Qj ?_ | refine Qh ?_ _)); exact BK209.out⟩, ⟨by repeat (first | (with_reducible first | exact HB.out | apply Qg | apply Qb | apply Qe | refine Qc ?_ GE207.out | refine Qc ?_ GE208.out | refine Qc ?_ GE209.out) | exact HB.out)⟩⟩
        ·rw [if_neg c35] at H
         have c35b0 : decide (x8_3 < (l0.length : Int)) = false := decide_eq_false c35
         clear c35
         (first | rw [c35b0] | (simp only [Qr, Qt]; rw [c35b0]) | skip)
         have H' := Aside0.mk H
         clear H
         try go_wp2
         have n0_ := Aside0.mk (Kd.R_drew HO224.out)
         have n1_ := Aside0.mk (Qj BK207.out)
         have n2_ := Aside0.mk (Qj BK208.out)
         have n3_ := Aside0.mk (Qj BK209.out)
         have n4_ := Aside0.mk (Qe HB.out)
         clear HO224
         clear BK207
         clear BK208
         clear BK209
         clear HB
         have HO224 := n0_
         have BK207 := n1_
         have BK208 := n2_
         have BK209 := n3_
         have HB := n4_
         clear n0_ n1_ n2_ n3_ n4_
         refine start_ (n := 13) (S := fun w' => True) (ds := []) #[false, false, false, false, false, false, false, false, false, false, false, false, false] (by kernel_rfl) rfl rfl trivial (fun hHeld => ?_); refine with_tabW spec_l06Put.tab7 spec_l06Put.bits7 (fun HT_ HW_ => ?_)
         generalize w34.drew = w39 at HO224 BK207 BK208 BK209 HB hHeld ⊢
         refine Qy (i := 0) (N := some 36) (v := ?_) (a' := ?_) #[true, false, false, false, false, false, false, false, false, false, false, false, false] rfl rfl (Qv HT_.out (by kernel_rfl)) (fun _ _ _ h => h) (Or.inl ⟨by rfl, ?_⟩) ?_ ?_
         rotate_left
         ·intro w'
          go_simp
          with_reducible rfl
         rotate_left
         ·simp only [Act.put, List.setIfInBounds_toArray, List.set_cons_zero, List.set_cons_succ, Qr, Qt]
          rfl
         refine Qy (i := 1) (N := some 37) (v := ?_) (a' := ?_) #[true, true, false, false, false, false, false, false, false, false, false, false, false] rfl rfl (Qv HT_.out (by kernel_rfl)) (fun _ _ _ h => h) (Or.inl ⟨by rfl, ?_⟩) ?_ ?_
         rotate_left
         ·intro w'
          go_simp
          with_reducible rfl
         rotate_left
         ·simp only [Act.put, List.setIfInBounds_toArray, List.set_cons_zero, List.set_cons_succ, Qr, Qt]
          rfl
         refine Qy (i := 2) (N := some 38) (v := ?_) (a' := ?_) #[true, true, true, false, false, false, false, false, false, false, false, false, false] rfl rfl (Qv HT_.out (by kernel_rfl)) (fun _ _ _ h => h) (Or.inl ⟨by rfl, ?_⟩) ?_ ?_
         rotate_left
         ·intro w'
          go_simp
          with_reducible rfl
         rotate_left
         ·simp only [Act.put, List.setIfInBounds_toArray, List.set_cons_zero, List.set_cons_succ, Qr, Qt]
          rfl
         refine Qy (i := 3) (N := some 39) (v := ?_) (a' := ?_) #[true, true, true, true, false, false, false, false, false, false, false, false, false] rfl rfl (Qv HT_.out (by kernel_rfl)) (fun _ _ _ h => h) (Or.inl ⟨by rfl, ?_⟩) ?_ ?_
         rotate_left
         ·intro w'
          go_simp
          with_reducible rfl
         rotate_left
         ·simp only [Act.put, List.setIfInBounds_toArray, List.set_cons_zero, List.set_cons_succ, Qr, Qt]
          rfl
         refine Qy (i := 4) (N := some 40) (v := ?_) (a' := ?_) #[true, true, true, true, true, false, false, false, false, false, false, false, false] rfl rfl (Qv HT_.out (by kernel_rfl)) (fun _ _ _ h => h) (Or.inl ⟨by rfl, ?_⟩) ?_ ?_
         rotate_left
         ·intro w'
          go_simp
          with_reducible rfl
         rotate_left
         ·simp only [Act.put, List.setIfInBounds_toArray, List.set_cons_zero, List.set_cons_succ, Qr, Qt]
          rfl
         refine Qy (i := 5) (N := some 41) (v := undef) (a' := ?_) #[true, true, true, true, true, true, false, false, false, false, false, false, false] rfl rfl (Qv HT_.out (by kernel_rfl)) (fun _ _ _ h => h) (Or.inr ⟨by rfl, rfl⟩) ?_ ?_
         rotate_left
         ·simp only [Act.put, List.setIfInBounds_toArray, List.set_cons_zero, List.set_cons_succ, Qr, Qt]
          rfl
         refine Qy (i := 6) (N := some 42) (v := undef) (a' := ?_) #[true, true, true, true, true, true, true, false, false, false, false, false, false] rfl rfl (Qv HT_.out (by kernel_rfl)) (fun _ _ _ h => h) (Or.inr ⟨by rfl, rfl⟩) ?_ ?_
         rotate_left
         ·simp only [Act.put, List.setIfInBounds_toArray, List.set_cons_zero, List.set_cons_succ, Qr, Qt]
          rfl
         refine Qy (i := 7) (N := some 43) (v := undef) (a' := ?_) #[true, true, true, true, true, true, true, true, false, false, false, false, false] rfl rfl (Qv HT_.out (by kernel_rfl)) (fun _ _ _ h => h) (Or.inr ⟨by rfl, rfl⟩) ?_ ?_
         rotate_left
         ·simp only [Act.put, List.setIfInBounds_toArray, List.set_cons_zero, List.set_cons_succ, Qr, Qt]
          rfl
         refine Qy (i := 8) (N := some 44) (v := undef) (a' := ?_) #[true, true, true, true, true, true, true, true, true, false, false, false, false] rfl rfl (Qv HT_.out (by kernel_rfl)) (fun _ _ _ h => h) (Or.inr ⟨by rfl, rfl⟩) ?_ ?_
         rotate_left
         ·simp only [Act.put, List.setIfInBounds_toArray, List.set_cons_zero, List.set_cons_succ, Qr, Qt]
          rfl
         refine Qy (i := 9) (N := some 45) (v := undef) (a' := ?_) #[true, true, true, true, true, true, true, true, true, true, false, false, false] rfl rfl (Qv HT_.out (by kernel_rfl)) (fun _ _ _ h => h) (Or.inr ⟨by rfl, rfl⟩) ?_ ?_
         rotate_left
         ·simp only [Act.put, List.setIfInBounds_toArray, List.set_cons_zero, List.set_cons_succ, Qr, Qt]
          rfl
         refine Qy (i := 10) (N := some 46) (v := undef) (a' := ?_) #[true, true, true, true, true, true, true, true, true, true, true, false, false] rfl rfl (Qv HT_.out (by kernel_rfl)) (fun _ _ _ h => h) (Or.inr ⟨by rfl, rfl⟩) ?_ ?_
         rotate_left
         ·simp only [Act.put, List.setIfInBounds_toArray, List.set_cons_zero, List.set_cons_succ, Qr, Qt]
          rfl
         refine Qy (i := 11) (N := some 47) (v := undef) (a' := ?_) #[true, true, true, true, true, true, true, true, true, true, true, true, false] rfl rfl (Qv HT_.out (by kernel_rfl)) (fun _ _ _ h => h) (Or.inr ⟨by rfl, rfl⟩) ?_ ?_
         rotate_left
         ·simp only [Act.put, List.setIfInBounds_toArray, List.set_cons_zero, List.set_cons_succ, Qr, Qt]
          rfl
         refine Qy (i := 12) (N := some 48) (v := ?_) (a' := ?_) #[true, true, true, true, true, true, true, true, true, true, true, true, true] rfl rfl (Qv HT_.out (by kernel_rfl)) (fun _ _ _ h => h) (Or.inl ⟨by rfl, ?_⟩) ?_ ?_
         rotate_left
         ·intro w'
          go_simp
          with_reducible rfl
         rotate_left
         ·simp only [Act.put, List.setIfInBounds_toArray, List.set_cons_zero, List.set_cons_succ, Qr, Qt]
          rfl
         refine done_ (done_of HT_.out (by kernel_rfl)) ?_
         try go_wp2
         go_meet
         case rel => exact ⟨_, (false), (by first | rfl | (simp; done) | (simp [*]; done)), H', ⟨by have := HJ3.out; first | omega | exact Nat.le_refl _⟩, ⟨by (with_reducible repeat (first | apply Kd.R_alloc | apply Kd.R_drewN | apply Kd.R_drew)); exact HO224.out⟩, ⟨by (with_reducible repeat (first | refine Qi ?_ _ | refine Qj ?_ | refine Qh ?_ _)); exact BK207.out⟩, ⟨by (with_reducible repeat (first | refine Qi ?_ _ | refine Qj ?_ | refine Qh ?_ _)); exact BK208.out⟩, ⟨by (with_reducible repeat (first | refine Qi ?_ _ | refine Qj ?_ | refine Qh ?_ _)); exact BK209.out⟩, ⟨by repeat (first | (with_reducible first | exact HB.out | apply Qg | apply Qb | apply Qe | refine Qc ?_ GE207.out | refine Qc ?_ GE208.out | refine Qc ?_ GE209.out) | exact HB.out)⟩⟩
       case rest =>
        clear HC26
        try clear c1
        try clear c2
        try clear p2
        try clear q2
        try clear hx2
        try clear c3
        try clear p6
        try clear c7
        try clear c10
        try clear c11
        try clear c13
        try clear c13b0
        try clear c14
        try clear c14b0
        try clear c16
        try clear p21
        try clear q21
        try clear hx21
        try clear c22
        try clear c22b0
        try clear c22b1
        try clear p22
        try clear q22
        try clear hx22
        try clear c23
        try clear c23b0
        try clear c23b1
        try clear c24
        try clear c25
        try clear q29
        try clear c31
        try clear c32
        try clear c35
        try clear c35b0
        try clear hcz12_0
        try clear hcz12_1
        try clear hcz12_2
        try clear hcz12_3
        try clear hcz12_4
        try clear hcz12_5
        try clear hcz12_6
        try clear hcz12_7
        try clear hcz12_8
        try clear hcz33_0
        try clear hcz33_1
        try clear hcz33_2
        try clear hcz33_3
        try clear hcz33_4
        try clear hcz33_5
        try clear hcz33_6
        try clear hcz33_7
        try clear hcz33_8
        try clear hcz8_0
        try clear hcz8_1
        try clear hcz8_2
        try clear hcz8_3
        try clear hcz8_4
        try clear hcz8_5
        try clear hcz8_6
        try clear hfz12_0
        try clear hfz12_1
        try clear hfz12_2
        try clear hfz12_3
        try clear hfz12_4
        try clear hfz12_5
        try clear hfz12_6
        try clear hfz12_7
        try clear hfz12_8
        try clear hfz33_0
        try clear hfz33_1
        try clear hfz33_2
        try clear hfz33_3
        try clear hfz33_4
        try clear hfz33_5
        try clear hfz33_6
        try clear hfz33_7
        try clear hfz33_8
        try clear hfz8_0
        try clear hfz8_1
        try clear hfz8_2
        try clear hfz8_3
        try clear hfz8_4
        try clear hfz8_5
        try clear hfz8_6
        try clear hx210_0
        try clear hx210_1
        try clear hx210_2
        try clear hx210_3
        try clear hx210_4
        try clear hx210_5
        try clear hx210_6
        try clear hx210_7
        try clear hx210_8
        try clear hx225_0
        try clear hx225_1
        try clear hx225_2
        try clear hx225_3
        try clear hx225_4
        try clear hx225_5
        try clear hx225_6
        try clear hx225_7
        try clear hx225_8
        try clear p2
        try clear p21
        try clear p210
        try clear p225
        try clear p6
        try clear q2
        try clear q21
        try clear q210
        try clear q225
        try clear q29
        obtain ⟨kq, x48_25, rfl, HA, HJ25, HO_9, BK207, BK208, BK209, HB⟩ := hcut
        cases kq with
        | zero => exact absurd HA.out (by simp [spec_l06Put.j2])
        | succ kj25 =>
         have H := HA.out
         clear HA
         simp only [spec_l06Put.j2] at H
         by_cases c40 : x48_25 = true
         ·subst c40
          have H1 : (if 0 ≤ (wrap64 (x8_3 + 1)) then (if (wrap64 (x8_3 + 1)) ≤ (l0.length : Int) then ((some (l0.drop ((wrap64 (x8_3 + 1)) : Int).toNat : List (S73))).bind fun y227 => (if y222.length + y227.length < 1954687338268 then (some ((y222 ++ y227), ([] : List (S42)), 0)) else (none))) else (none)) else (none)) = some (r1, r2, r3) := by rw [if_pos rfl] at H; exact H
          clear H
          have H := H1
          clear H1
          obtain ⟨ji41, hji41⟩ : ∃ j_ : Int, (wrap64 (x8_3 + 1)) = j_ := ⟨_, rfl⟩
          replace H : (if 0 ≤ (ji41) then (if (ji41) ≤ (l0.length : Int) then ((some (l0.drop ((ji41) : Int).toNat : List (S73))).bind fun y227 => (if y222.length + y227.length < 1954687338268 then (some ((y222 ++ y227), ([] : List (S42)), 0)) else (none))) else (none)) else (none)) = some (r1, r2, r3) := by first | (rw [hji41] at H; exact H) | (simp only [hji41] at H ⊢; exact H)
          have hji41w : (IntKind.i64.wrap (x8_3 + 1)) = ji41 := (Qr _).trans hji41
          by_cases c42 : 0 ≤ (ji41)
          ·rw [if_pos c42] at H
           have c42b0 := eq_true c42
           have c42b1 : decide (0 ≤ (ji41)) = true := decide_eq_true c42
           clear c42
           by_cases c43 : (ji41) ≤ (l0.length : Int)
           ·rw [if_pos c43] at H
            have c43b0 := eq_true c43
            have c43b1 : decide ((ji41) ≤ (l0.length : Int)) = true := decide_eq_true c43
            clear c43
            obtain ⟨y227, hy227⟩ : ∃ y_ : List (S73), y_ = (l0.drop ((ji41) : Int).toNat) := ⟨_, rfl⟩
            replace H : (if y222.length + y227.length < 1954687338268 then (some ((y222 ++ y227), ([] : List (S42)), 0)) else (none)) = some (r1, r2, r3) := by first | (rw [hy227]; with_reducible exact H) | (have H2_ := (Option.bind_some _ _).symm.trans H; rw [hy227]; with_reducible exact H2_) | (have H2_ := (Option.bind_some _ _).symm.trans H; with_reducible exact H2_) | with_reducible exact H | (rw [hy227]; exact H) | exact H
            have Ny227 := Aside0.mk hy227
            clear hy227
            by_cases c44 : y222.length + y227.length < 1954687338268
            ·rw [if_pos c44] at H
             have LMc44 := Aside0.mk c44
             clear c44
             obtain ⟨y231, hy231⟩ : ∃ y_ : List (S73), y_ = (y222 ++ y227) := ⟨_, rfl⟩
             replace H : (some (y231, ([] : List (S42)), 0)) = some (r1, r2, r3) := by first | (rw [hy231]; with_reducible exact H) | (have H2_ := (Option.bind_some _ _).symm.trans H; rw [hy231]; with_reducible exact H2_) | (have H2_ := (Option.bind_some _ _).symm.trans H; with_reducible exact H2_) | with_reducible exact H | (rw [hy231]; exact H) | exact H
             have Ny231 := Aside0.mk hy231
             clear hy231
             simp only [Option.some.injEq, Prod.mk.injEq] at H
             obtain ⟨rfl, rfl, rfl⟩ := H
             have q45 : ((ji41) : Int) ≤ ((l0.length : Int) : Int) := of_decide_eq_true (by assumption)
             obtain ⟨i045, hi045, _, hsz45, _⟩ := info_parts info73
             have hroom45 : l0.length ≤ c0 := HC0.out
             have hC45 : Kd.C k73 _ A0 l0.length l0 := HR0.out
             have q045 : (0 : Int) ≤ ((ji41) : Int) := of_decide_eq_true (by assumption)
             have hcut45 := cut_from (P := Try.prog) 26 73 .i64 Try.underlying26 hi045 9 hsz45 A0 l0.length c0 (ji41) q045 q45
             have hr45 := Kd.C_drop (m := ((ji41) : Int).toNat) (c := c0) hC45 (by omega) hroom45
             obtain ⟨A45, hA45⟩ : ∃ A1, A1 = (if c0 = ((ji41) : Int).toNat then A0 else (A0 : Option Addr).map (·.add (((ji41) : Int).toNat * 9))) := ⟨_, rfl⟩
             obtain ⟨c45, hc45⟩ : ∃ c1, c1 = c0 - ((ji41) : Int).toNat := ⟨_, rfl⟩
             have hy45 : y227.length = l0.length - ((ji41) : Int).toNat := (by rw [Ny227.out, List.length_drop] <;> omega)
             rw [show (l0).drop ((ji41) : Int).toNat = y227 from Ny227.out.symm] at hr45
             replace hr45 : Kd.C k73 _ A45 y227.length y227 := (by rw [hA45]; exact hr45)
             rw [← hy45, ← hA45, ← hc45] at hcut45
             have HR230 := Aside0.mk hr45
             have HC230 := Aside0.mk (show y227.length ≤ c45 from by rw [hy45, hc45]; exact Nat.sub_le_sub_right hroom45 _)
             clear hr45 hC45 hroom45 hi045 hsz45 hc45
             have KY45 := Aside0.mk hy45
             have KA45 := Aside0.mk hA45
             clear hy45 hA45
             replace q45 := eq_true q45
             go_wp2_with (first | ((with_reducible refine gate_builtin (b := .append) (xs := #[.tmp 49, .tmp 53]) rfl ?_); at_builtin; refine Kd.R_append_rows k73 (w0 := w) w.heap.size rfl (.tmp 49) (.tmp 53) 26 73 (.agg #[(.int .i64 0), (.bool false), (.int .i64 0), (.int .i64 0), (.int .i64 0), (.int .i64 0), (.int .i64 0), (.int .i64 0), (.bool false)]) 72 rfl Try.underlying26 info73 rfl (by decide) (by omega) v223 y222 y227 _ _ _ (fun k_ => k_ ≠ gb209) (fun _ => False) rfl rfl ?aO ?aR (fun _ _ h => h) (fun _ h => h.elim) ?aF ?aB ?aS ?aL ?_; (case aR => repeat (first | exact (Kd.C_below HR230.out HB.out) | (with_reducible refine Kd.C_alloc ?_ _) | (with_reducible refine Kd.C_drewN ?_ _) | (with_reducible refine Kd.C_drew ?_))); (case aB => exact (by repeat (first | (with_reducible first | exact HB.out | apply Qg | apply Qb | apply Qe | refine Qc ?_ GE207.out | refine Qc ?_ GE208.out | refine Qc ?_ GE209.out) | exact HB.out))); (case aF => exact (fun k_ hk => Kd.freshB (g := gb209) (o := .cells #[.int .i64 a1, .bool false, .int .i64 a2_0, .int .i64 a2_1, .int .i64 a2_2, .int .i64 a2_3, .int .i64 a2_4, .int .i64 a2_5, .bool a2_6] 73 (0, 0)) (by (with_reducible repeat (first | refine Qi ?_ _ | refine Qj ?_ | refine Qh ?_ _)); exact BK209.out) k_ hk)); (case aO => exact (by (with_reducible repeat (first | apply Kd.R_alloc | apply Kd.R_drewN | apply Kd.R_drew)); exact HO_9.out)); (case aS => exact (Ql (by repeat (first | (with_reducible first | exact HB.out | apply Qg | apply Qb | apply Qe | refine Qc ?_ GE207.out | refine Qc ?_ GE208.out | refine Qc ?_ GE209.out) | exact HB.out)))); (case aL => have := LMc44.out; omega); intro v232 w46 ho hb hg hat; rw [← Ny231.out] at ho; have n0_ := Aside0.mk (blk_grown (g := gb207) (o := .cells #[.int .i64 a2_0, .int .i64 a2_1, .int .i64 a2_2, .int .i64 a2_3, .int .i64 a2_4, .int .i64 a2_5, .bool a2_6] 42 (0, 0)) (by (with_reducible repeat (first | refine Qi ?_ _ | refine Qj ?_ | refine Qh ?_ _)); exact BK207.out) hg (Kd.R_ne HO_9.out BK207.out (by decide))); have n1_ := Aside0.mk (blk_grown (g := gb208) (o := .cells #[.slice none 0 0, .slice none 0 0, .int .i64 0] 34 (0, 0)) (by (with_reducible repeat (first | refine Qi ?_ _ | refine Qj ?_ | refine Qh ?_ _)); exact BK208.out) hg (Kd.R_ne HO_9.out BK208.out (by decide))); have n2_ := Aside0.mk (blk_grown (g := gb209) (o := .cells #[.int .i64 a1, .bool false, .int .i64 a2_0, .int .i64 a2_1, .int .i64 a2_2, .int .i64 a2_3, .int .i64 a2_4, .int .i64 a2_5, .bool a2_6] 73 (0, 0)) (by (with_reducible repeat (first | refine Qi ?_ _ | refine Qj ?_ | refine Qh ?_ _)); exact BK209.out) hg (Kd.R_away HO_9.out (fun _ hk => hk))); have n3_ := Aside0.mk (hb); have n4_ := Aside0.mk (ho); clear BK207; clear BK208; clear BK209; clear HB; clear HO_9; have BK207 := n0_; have BK208 := n1_; have BK209 := n2_; have HB := n3_; have HO233 := n4_; clear n0_ n1_ n2_ n3_ n4_; clear ho hb hg hat; obtain ⟨Ao47, co47, eo47⟩ := Kd.R_slice HO233.out; subst eo47; have hnb48 := NB208_207.out; have hnc48 := NB207_208.out; have hnb49 := NB208_209.out; have hnc49 := NB209_208.out; have hcz50_0 : w46.cell? ⟨gb208, 0, none⟩ = some (.slice none 0 0) := (Qa BK208.out 0).trans rfl; have hcz50_1 : w46.cell? ⟨gb208, 1, none⟩ = some (.slice none 0 0) := (Qa BK208.out 1).trans rfl; have hcz50_2 : w46.cell? ⟨gb208, 2, none⟩ = some (.int .i64 0) := (Qa BK208.out 2).trans rfl; have hfz50_0 := Qd BK208.out 0; have hfz50_1 := Qd BK208.out 1; have hfz50_2 := Qd BK208.out 2))
             refine bodyPost_ret (results_cell_row rfl _ _ gb208 34 #[.slice Ao47 y231.length co47, .slice none 0 0, .int .i64 0] (0, 0) _ rfl (by (with_reducible repeat (first | refine Qi ?_ _ | refine Qj ?_ | refine Qh ?_ _)); refine Qz (cs := #[.slice Ao47 y231.length co47, .slice none 0 0, .int .i64 0]) ?_ 2 _ rfl; (with_reducible repeat (first | refine Qi ?_ _ | refine Qj ?_ | refine Qh ?_ _)); refine Qz (cs := #[.slice Ao47 y231.length co47, .slice none 0 0, .int .i64 0]) ?_ 1 _ rfl; (with_reducible repeat (first | refine Qi ?_ _ | refine Qj ?_ | refine Qh ?_ _)); refine Qz (cs := #[.slice none 0 0, .slice none 0 0, .int .i64 0]) ?_ 0 _ rfl; (with_reducible repeat (first | refine Qi ?_ _ | refine Qj ?_ | refine Qh ?_ _)); exact BK208.out) Try.underlying34 rfl (by kernel_rfl)) rfl ?_
             exact ⟨_, _, by first | rfl | (simp [Qp, Qo] <;> rfl) | (simp only [← hji41]; first | rfl | (simp [Qp, Qo] <;> rfl)) | (simp [*, Qp, Qo] <;> rfl), by (with_reducible repeat (first | apply Kd.R_alloc | apply Kd.R_drewN | apply Kd.R_drew)); exact Kd.R_mono (Kd.R_far (p := ⟨gb208, 2, none⟩) (Kd.R_far (p := ⟨gb208, 1, none⟩) (Kd.R_far (p := ⟨gb208, 0, none⟩) (Kd.R_types HO233.out BK208.out (by decide)) (fun _ hk => hk.2) (.slice Ao47 y231.length co47)) (fun _ hk => hk.2) (.slice none 0 0)) (fun _ hk => hk.2) (.int .i64 0)) (fun _ hk => trivial), by first | exact Kd.R_nil _ _ _ _ _ | exact Kd.N_nil _ _ _ _ _ | exact Kd.V_nil _ _ _ _ _ | exact Kd.Q_nil _ _ _ _ _ | exact Kd.S_nil _ _ _ _ _, by repeat (first | (with_reducible first | exact HB.out | apply Qg | apply Qb | apply Qe | refine Qc ?_ GE207.out | refine Qc ?_ GE208.out | refine Qc ?_ GE209.out) | exact HB.out)⟩
            ·rw [if_neg c44] at H
             exact absurd H (by simp)
           ·rw [if_neg c43] at H
            exact absurd H (by simp)
          ·rw [if_neg c42] at H
           exact absurd H (by simp)
         ·replace c40 := Bool.eq_false_iff.mpr c40
          subst c40
          have H1 : (if (l0.length : Int) ≥ 60 then ((spec_l06Ill.f 9).bind fun bt234 => (some (bt234.1, bt234.2.1, bt234.2.2))) else (if 0 ≤ x8_3 then (if x8_3 ≤ (l0.length : Int) then ((some (l0.drop (x8_3 : Int).toNat : List (S73))).bind fun y241 => (if y222.length + y241.length < 1954687338268 then (some ((y222 ++ y241), ([] : List (S42)), 0)) else (none))) else (none)) else (none))) = some (r1, r2, r3) := by rw [if_neg (show ¬ (false = true) by decide)] at H; exact H
          clear H
          have H := H1
          clear H1
          by_cases c51 : (l0.length : Int) ≥ 60
          ·rw [if_pos c51] at H
           have c51b0 : decide (60 ≤ (l0.length : Int)) = true := decide_eq_true c51
           have c51b1 : decide (60 ≤ l0.length) = true := decide_eq_true (by omega)
           clear c51
           replace H := Option.bind_eq_some_iff.mp H
           obtain ⟨⟨t234, t237, t240⟩, A520, H⟩ := H
           replace H : (some (t234, t237, t240)) = some (r1, r2, r3) := H
           have A52 := Aside0.mk A520
           clear A520
           simp only [Option.some.injEq, Prod.mk.injEq] at H
           obtain ⟨rfl, rfl, rfl⟩ := H
           go_wp2_with (first | ((with_reducible refine Qq (f := 61) rfl ?_); refine Qx (some 59) rfl rfl Try.func61 (by kernel_rfl) rfl #[.int .i64 9] rfl (by (try simp only [List.map_toArray, List.map_cons, List.map_nil]); first | done | rfl | (simp only [List.length_drop, List.length_take]; rfl)) ?_; (with_reducible refine (spec_l06Ill.calls 9 t234 t237 t240 _ A52.out).mono ?_); rintro e w53 ⟨v235, v238, rfl, ho0, ho1, hb⟩; refine ⟨_, rfl, ?_⟩; have n0_ := Aside0.mk (Kd.R_elder' (by (with_reducible repeat (first | apply Kd.R_alloc | apply Kd.R_drewN | apply Kd.R_drew)); exact HO_9.out) (Kd.R_base ho0) hb); have n1_ := Aside0.mk (Kd.R_lower (Kd.R_newB (Kd.R_new' ho0 (Kd.R_lt (by (with_reducible repeat (first | apply Kd.R_alloc | apply Kd.R_drewN | apply Kd.R_drew)); exact HO_9.out))) (g := gb209) (o := .cells #[.int .i64 a1, .bool false, .int .i64 a2_0, .int .i64 a2_1, .int .i64 a2_2, .int .i64 a2_3, .int .i64 a2_4, .int .i64 a2_5, .bool a2_6] 73 (0, 0)) (by (with_reducible repeat (first | refine Qi ?_ _ | refine Qj ?_ | refine Qh ?_ _)); exact BK209.out)) (Ql (by repeat (first | (with_reducible first | exact HB.out | apply Qg | apply Qb | apply Qe | refine Qc ?_ GE207.out | refine Qc ?_ GE208.out | refine Qc ?_ GE209.out) | exact HB.out)))); have n2_ := Aside0.mk (Kd.R_lower (Kd.R_newB ho1 (g := gb207) (o := .cells #[.int .i64 a2_0, .int .i64 a2_1, .int .i64 a2_2, .int .i64 a2_3, .int .i64 a2_4, .int .i64 a2_5, .bool a2_6] 42 (0, 0)) (by (with_reducible repeat (first | refine Qi ?_ _ | refine Qj ?_ | refine Qh ?_ _)); exact BK207.out)) (Ql (by repeat (first | (with_reducible first | exact HB.out | apply Qg | apply Qb | apply Qe | refine Qc ?_ GE207.out | refine Qc ?_ GE208.out | refine Qc ?_ GE209.out) | exact HB.out)))); have n3_ := Aside0.mk (Qm (g := gb207) (o := .cells #[.int .i64 a2_0, .int .i64 a2_1, .int .i64 a2_2, .int .i64 a2_3, .int .i64 a2_4, .int .i64 a2_5, .bool a2_6] 42 (0, 0)) (by (with_reducible repeat (first | refine Qi ?_ _ | refine Qj ?_ | refine Qh ?_ _)); exact BK207.out) hb); have n4_ := Aside0.mk (Qm (g := gb208) (o := .cells #[.slice none 0 0, .slice none 0 0, .int .i64 0] 34 (0, 0)) (by (with_reducible repeat (first | refine Qi ?_ _ | refine Qj ?_ | refine Qh ?_ _)); exact BK208.out) hb); have n5_ := Aside0.mk (Qm (g := gb209) (o := .cells #[.int .i64 a1, .bool false, .int .i64 a2_0, .int .i64 a2_1, .int .i64 a2_2, .int .i64 a2_3, .int .i64 a2_4, .int .i64 a2_5, .bool a2_6] 73 (0, 0)) (by (with_reducible repeat (first | refine Qi ?_ _ | refine Qj ?_ | refine Qh ?_ _)); exact BK209.out) hb); have n6_ := Aside0.mk (Qn (by repeat (first | (with_reducible first | exact HB.out | apply Qg | apply Qb | apply Qe | refine Qc ?_ GE207.out | refine Qc ?_ GE208.out | refine Qc ?_ GE209.out) | exact HB.out)) hb); clear HO_9; clear BK207; clear BK208; clear BK209; clear HB; have HO_9 := n0_; have HO236 := n1_; have HO239 := n2_; have BK207 := n3_; have BK208 := n4_; have BK209 := n5_; have HB := n6_; clear n0_ n1_ n2_ n3_ n4_ n5_ n6_; (try clear hb); (try clear hb2); (try clear hk); (try clear hi); (try clear ho0); (try clear ho1); obtain ⟨Ao54, co54, eo54⟩ := Kd.R_slice HO236.out; subst eo54; have hnb55 := NB208_207.out; have hnc55 := NB207_208.out; have hnb56 := NB208_209.out; have hnc56 := NB209_208.out; have hcz57_0 : w53.cell? ⟨gb208, 0, none⟩ = some (.slice none 0 0) := (Qa BK208.out 0).trans rfl; have hcz57_1 : w53.cell? ⟨gb208, 1, none⟩ = some (.slice none 0 0) := (Qa BK208.out 1).trans rfl; have hcz57_2 : w53.cell? ⟨gb208, 2, none⟩ = some (.int .i64 0) := (Qa BK208.out 2).trans rfl; have hfz57_0 := Qd BK208.out 0; have hfz57_1 := Qd BK208.out 1; have hfz57_2 := Qd BK208.out 2; obtain ⟨Ao58, co58, eo58⟩ := Kd.R_slice HO239.out; subst eo58))
           refine bodyPost_ret (results_cell_row rfl _ _ gb208 34 #[.slice Ao54 t234.length co54, .slice Ao58 t237.length co58, .int .i64 t240] (0, 0) _ rfl (by (with_reducible repeat (first | refine Qi ?_ _ | refine Qj ?_ | refine Qh ?_ _)); refine Qz (cs := #[.slice Ao54 t234.length co54, .slice Ao58 t237.length co58, .int .i64 0]) ?_ 2 _ rfl; (with_reducible repeat (first | refine Qi ?_ _ | refine Qj ?_ | refine Qh ?_ _)); refine Qz (cs := #[.slice Ao54 t234.length co54, .slice none 0 0, .int .i64 0]) ?_ 1 _ rfl; (with_reducible repeat (first | refine Qi ?_ _ | refine Qj ?_ | refine Qh ?_ _)); refine Qz (cs := #[.slice none 0 0, .slice none 0 0, .int .i64 0]) ?_ 0 _ rfl; (with_reducible repeat (first | refine Qi ?_ _ | refine Qj ?_ | refine Qh ?_ _)); exact BK208.out) Try.underlying34 rfl (by kernel_rfl)) rfl ?_
           exact ⟨_, _, by first | rfl | (simp [Qp, Qo] <;> rfl) | (simp [*, Qp, Qo] <;> rfl), by (with_reducible repeat (first | apply Kd.R_alloc | apply Kd.R_drewN | apply Kd.R_drew)); exact Kd.R_mono (Kd.R_far (p := ⟨gb208, 2, none⟩) (Kd.R_far (p := ⟨gb208, 1, none⟩) (Kd.R_far (p := ⟨gb208, 0, none⟩) (Kd.R_types HO236.out BK208.out (by decide)) (fun _ hk => hk.2) (.slice Ao54 t234.length co54)) (fun _ hk => hk.2) (.slice Ao58 t237.length co58)) (fun _ hk => hk.2) (.int .i64 t240)) (fun _ hk => trivial), by (with_reducible repeat (first | apply Kd.R_alloc | apply Kd.R_drewN | apply Kd.R_drew)); exact Kd.R_mono (Kd.R_far (p := ⟨gb208, 2, none⟩) (Kd.R_far (p := ⟨gb208, 1, none⟩) (Kd.R_far (p := ⟨gb208, 0, none⟩) (Kd.R_types HO239.out BK208.out (by decide)) (fun _ hk => hk.2) (.slice Ao54 t234.length co54)) (fun _ hk => hk.2) (.slice Ao58 t237.length co58)) (fun _ hk => hk.2) (.int .i64 t240)) (fun _ hk => trivial), by repeat (first | (with_reducible first | exact HB.out | apply Qg | apply Qb | apply Qe | refine Qc ?_ GE207.out | refine Qc ?_ GE208.out | refine Qc ?_ GE209.out) | exact HB.out)⟩
          ·rw [if_neg c51] at H
           have c51b0 : decide (60 ≤ (l0.length : Int)) = false := decide_eq_false c51
           have c51b1 : decide (60 ≤ l0.length) = false := decide_eq_false (by omega)
           clear c51
           by_cases c59 : 0 ≤ x8_3
           ·rw [if_pos c59] at H
            have c59b0 := eq_true c59
            have c59b1 : decide (0 ≤ x8_3) = true := decide_eq_true c59
            clear c59
            by_cases c60 : x8_3 ≤ (l0.length : Int)
            ·rw [if_pos c60] at H
             have c60b0 := eq_true c60
             have c60b1 : decide (x8_3 ≤ (l0.length : Int)) = true := decide_eq_true c60
             clear c60
             obtain ⟨y241, hy241⟩ : ∃ y_ : List (S73), y_ = (l0.drop (x8_3 : Int).toNat) := ⟨_, rfl⟩
             replace H : (if y222.length + y241.length < 1954687338268 then (some ((y222 ++ y241), ([] : List (S42)), 0)) else (none)) = some (r1, r2, r3) := by first | (rw [hy241]; with_reducible exact H) | (have H2_ := (Option.bind_some _ _).symm.trans H; rw [hy241]; with_reducible exact H2_) | (have H2_ := (Option.bind_some _ _).symm.trans H; with_reducible exact H2_) | with_reducible exact H | (rw [hy241]; exact H) | exact H
             have Ny241 := Aside0.mk hy241
             clear hy241
             by_cases c61 : y222.length + y241.length < 1954687338268
             ·rw [if_pos c61] at H
              have LMc61 := Aside0.mk c61
              clear c61
              obtain ⟨y245, hy245⟩ : ∃ y_ : List (S73), y_ = (y222 ++ y241) := ⟨_, rfl⟩
              replace H : (some (y245, ([] : List (S42)), 0)) = some (r1, r2, r3) := by first | (rw [hy245]; with_reducible exact H) | (have H2_ := (Option.bind_some _ _).symm.trans H; rw [hy245]; with_reducible exact H2_) | (have H2_ := (Option.bind_some _ _).symm.trans H; with_reducible exact H2_) | with_reducible exact H | (rw [hy245]; exact H) | exact H
              have Ny245 := Aside0.mk hy245
              clear hy245
              simp only [Option.some.injEq, Prod.mk.injEq] at H
              obtain ⟨rfl, rfl, rfl⟩ := H
              have q62 : (x8_3 : Int) ≤ ((l0.length : Int) : Int) := of_decide_eq_true (by assumption)
              obtain ⟨i062, hi062, _, hsz62, _⟩ := info_parts info73
              have hroom62 : l0.length ≤ c0 := HC0.out
              have hC62 : Kd.C k73 _ A0 l0.length l0 := HR0.out
              have q062 : (0 : Int) ≤ (x8_3 : Int) := of_decide_eq_true (by assumption)
              have hcut62 := cut_from (P := Try.prog) 26 73 .i64 Try.underlying26 hi062 9 hsz62 A0 l0.length c0 x8_3 q062 q62
              have hr62 := Kd.C_drop (m := (x8_3 : Int).toNat) (c := c0) hC62 (by omega) hroom62
              obtain ⟨A62, hA62⟩ : ∃ A1, A1 = (if c0 = (x8_3 : Int).toNat then A0 else (A0 : Option Addr).map (·.add ((x8_3 : Int).toNat * 9))) := ⟨_, rfl⟩
              obtain ⟨c62, hc62⟩ : ∃ c1, c1 = c0 - (x8_3 : Int).toNat := ⟨_, rfl⟩
              have hy62 : y241.length = l0.length - (x8_3 : Int).toNat := (by rw [Ny241.out, List.length_drop] <;> omega)
              rw [show (l0).drop (x8_3 : Int).toNat = y241 from Ny241.out.symm] at hr62
              replace hr62 : Kd.C k73 _ A62 y241.length y241 := (by rw [hA62]; exact hr62)
              rw [← hy62, ← hA62, ← hc62] at hcut62
              have HR244 := Aside0.mk hr62
              have HC244 := Aside0.mk (show y241.length ≤ c62 from by rw [hy62, hc62]; exact Nat.sub_le_sub_right hroom62 _)
              clear hr62 hC62 hroom62 hi062 hsz62 hc62
              have KY62 := Aside0.mk hy62
              have KA62 := Aside0.mk hA62
              clear hy62 hA62
              replace q62 := eq_true q62
              go_wp2_with (first | ((with_reducible refine gate_builtin (b := .append) (xs := #[.tmp 60, .tmp 63]) rfl ?_); at_builtin; refine Kd.R_append_rows k73 (w0 := w) w.heap.size rfl (.tmp 60) (.tmp 63) 26 73 (.agg #[(.int .i64 0), (.bool false), (.int .i64 0), (.int .i64 0), (.int .i64 0), (.int .i64 0), (.int .i64 0), (.int .i64 0), (.bool false)]) 72 rfl Try.underlying26 info73 rfl (by decide) (by omega) v223 y222 y241 _ _ _ (fun k_ => k_ ≠ gb209) (fun _ => False) rfl rfl ?aO ?aR (fun _ _ h => h) (fun _ h => h.elim) ?aF ?aB ?aS ?aL ?_; (case aR => repeat (first | exact (Kd.C_below HR244.out HB.out) | (with_reducible refine Kd.C_alloc ?_ _) | (with_reducible refine Kd.C_drewN ?_ _) | (with_reducible refine Kd.C_drew ?_))); (case aB => exact (by repeat (first | (with_reducible first | exact HB.out | apply Qg | apply Qb | apply Qe | refine Qc ?_ GE207.out | refine Qc ?_ GE208.out | refine Qc ?_ GE209.out) | exact HB.out))); (case aF => exact (fun k_ hk => Kd.freshB (g := gb209) (o := .cells #[.int .i64 a1, .bool false, .int .i64 a2_0, .int .i64 a2_1, .int .i64 a2_2, .int .i64 a2_3, .int .i64 a2_4, .int .i64 a2_5, .bool a2_6] 73 (0, 0)) (by (with_reducible repeat (first | refine Qi ?_ _ | refine Qj ?_ | refine Qh ?_ _)); exact BK209.out) k_ hk)); (case aO => exact (by (with_reducible repeat (first | apply Kd.R_alloc | apply Kd.R_drewN | apply Kd.R_drew)); exact HO_9.out)); (case aS => exact (Ql (by repeat (first | (with_reducible first | exact HB.out | apply Qg | apply Qb | apply Qe | refine Qc ?_ GE207.out | refine Qc ?_ GE208.out | refine Qc ?_ GE209.out) | exact HB.out)))); (case aL => have := LMc61.out; omega); intro v246 w63 ho hb hg hat; rw [← Ny245.out] at ho; have n0_ := Aside0.mk (blk_grown (g := gb207) (o := .cells #[.int .i64 a2_0, .int .i64 a2_1, .int .i64 a2_2, .int .i64 a2_3, .int .i64 a2_4, .int .i64 a2_5, .bool a2_6] 42 (0, 0)) (by (with_reducible repeat (first | refine Qi ?_ _ | refine Qj ?_ | refine Qh ?_ _)); exact BK207.out) hg (Kd.R_ne HO_9.out BK207.out (by decide))); have n1_ := Aside0.mk (blk_grown (g := gb208) (o := .cells #[.slice none 0 0, .slice none 0 0, .int .i64 0] 34 (0, 0)) (by (with_reducible repeat (first | refine Qi ?_ _ | refine Qj ?_ | refine Qh ?_ _)); exact BK208.out) hg (Kd.R_ne HO_9.out BK208.out (by decide))); have n2_ := Aside0.mk (blk_grown (g := gb209) (o := .cells #[.int .i64 a1, .bool false, .int .i64 a2_0, .int .i64 a2_1, .int .i64 a2_2, .int .i64 a2_3, .int .i64 a2_4, .int .i64 a2_5, .bool a2_6] 73 (0, 0)) (by (with_reducible repeat (first | refine Qi ?_ _ | refine Qj ?_ | refine Qh ?_ _)); exact BK209.out) hg (Kd.R_away HO_9.out (fun _ hk => hk))); have n3_ := Aside0.mk (hb); have n4_ := Aside0.mk (ho); clear BK207; clear BK208; clear BK209; clear HB; clear HO_9; have BK207 := n0_; have BK208 := n1_; have BK209 := n2_; have HB := n3_; have HO247 := n4_; clear n0_ n1_ n2_ n3_ n4_; clear ho hb hg hat; obtain ⟨Ao64, co64, eo64⟩ := Kd.R_slice HO247.out; subst eo64; have hnb65 := NB208_207.out; have hnc65 := NB207_208.out; have hnb66 := NB208_209.out; have hnc66 := NB209_208.out; have hcz67_0 : w63.cell? ⟨gb208, 0, none⟩ = some (.slice none 0 0) := (Qa BK208.out 0).trans rfl; have hcz67_1 : w63.cell? ⟨gb208, 1, none⟩ = some (.slice none 0 0) := (Qa BK208.out 1).trans rfl; have hcz67_2 : w63.cell? ⟨gb208, 2, none⟩ = some (.int .i64 0) := (Qa BK208.out 2).trans rfl; have hfz67_0 := Qd BK208.out 0; have hfz67_1 := Qd BK208.out 1; have hfz67_2 := Qd BK208.out 2))
              refine bodyPost_ret (results_cell_row rfl _ _ gb208 34 #[.slice Ao64 y245.length co64, .slice none 0 0, .int .i64 0] (0, 0) _ rfl (by (with_reducible repeat (first | refine Qi ?_ _ | refine Qj ?_ | refine Qh ?_ _)); refine Qz (cs := #[.slice Ao64 y245.length co64, .slice none 0 0, .int .i64 0]) ?_ 2 _ rfl; (with_reducible repeat (first | refine Qi ?_ _ | refine Qj ?_ | refine Qh ?_ _)); refine Qz (cs := #[.slice Ao64 y245.length co64, .slice none 0 0, .int .i64 0]) ?_ 1 _ rfl; (with_reducible repeat (first | refine Qi ?_ _ | refine Qj ?_ | refine Qh ?_ _)); refine Qz (cs := #[.slice none 0 0, .slice none 0 0, .int .i64 0]) ?_ 0 _ rfl; (with_reducible repeat (first | refine Qi ?_ _ | refine Qj ?_ | refine Qh ?_ _)); exact BK208.out) Try.underlying34 rfl (by kernel_rfl)) rfl ?_
              exact ⟨_, _, by first | rfl | (simp [Qp, Qo] <;> rfl) | (simp [*, Qp, Qo] <;> rfl), by (with_reducible repeat (first | apply Kd.R_alloc | apply Kd.R_drewN | apply Kd.R_drew)); exact Kd.R_mono (Kd.R_far (p := ⟨gb208, 2, none⟩) (Kd.R_far (p := ⟨gb208, 1, none⟩) (Kd.R_far (p := ⟨gb208, 0, none⟩) (Kd.R_types HO247.out BK208.out (by decide)) (fun _ hk => hk.2) (.slice Ao64 y245.length co64)) (fun _ hk => hk.2) (.slice none 0 0)) (fun _ hk => hk.2) (.int .i64 0)) (fun _ hk => trivial), by first | exact Kd.R_nil _ _ _ _ _ | exact Kd.N_nil _ _ _ _ _ | exact Kd.V_nil _ _ _ _ _ | exact Kd.Q_nil _ _ _ _ _ | exact Kd.S_nil _ _ _ _ _, by repeat (first | (with_reducible first | exact HB.out | apply Qg | apply Qb | apply Qe | refine Qc ?_ GE207.out | refine Qc ?_ GE208.out | refine Qc ?_ GE209.out) | exact HB.out)⟩
             ·rw [if_neg c61] at H
              exact absurd H (by simp)
            ·rw [if_neg c60] at H
             exact absurd H (by simp)
           ·rw [if_neg c59] at H
            exact absurd H (by simp)
      ·rw [if_neg c25] at H
       exact absurd H (by simp)
     ·rw [if_neg c24] at H
      exact absurd H (by simp)
    ·rw [if_neg c23] at H
     exact absurd H (by simp)
   ·rw [if_neg c22] at H
    exact absurd H (by simp)
end Go.Proofs.Ytmgmaflfednngaa.PFnExactRibPut
