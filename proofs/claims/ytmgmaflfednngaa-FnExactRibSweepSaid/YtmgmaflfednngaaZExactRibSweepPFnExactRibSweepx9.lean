-- A copy, by trim.py of this session's wip/gen, of a text of this claim, without what the row does not reach and without comments: not an official print.
import Derived.Test.YtmgmaflfednngaaZExactRibSweepPFnExactRibSweepx0
namespace Go.Proofs.Ytmgmaflfednngaa.PFnExactRibSweep
open Go.RowKit Go.Proofs.YtmgmaflfednngaaW.PrintWords Go.Proofs.YtmgmaflfednngaaW.PrintLast Go.Proofs.YtmgmaflfednngaaW.PrintMore
attribute [local go_sem] max2_int min2_int max_two min_two max_three min_three max_four min_four   -- for this text's walks alone
set_option linter.unusedVariables false
set_option linter.unusedSimpArgs false
def spec_l06Ill.f (a0 : Int) : Option ((List (S73)) × (List (S42)) × Int) := some (([] : List (S73)), ([] : List (S42)), a0)
set_option maxHeartbeats 8000000 in
set_option maxRecDepth 100000 in
theorem spec_l06Ill.calls (a0 : Int) (r1 : List (S73)) (r2 : List (S42)) (r3 : Int) (w : World) (h : spec_l06Ill.f a0 = some (r1, r2, r3)) :
  Calls Try.prog 61 #[.int .i64 a0] w fun e w' => ∃ v0_ v1_ : Value, e = .returned (.agg #[v0_, v1_, .int .i64 r3]) ∧ Kd.R k73 73 w' w.heap.size (fun _ => True) v0_ r1 ∧ Kd.R k42 42 w' w.heap.size (fun _ => True) v1_ r2 ∧ Below w.heap.size w w' := by
 have hu34 := Try.underlying34
 have HB := Aside0.mk (Below.refl w.heap.size w)
 have H : (some (([] : List (S73)), ([] : List (S42)), a0)) = some (r1, r2, r3) := h
 clear h
 simp only [Option.some.injEq, Prod.mk.injEq] at H
 obtain ⟨rfl, rfl, rfl⟩ := H
 go_enter Try.func61, Try.ntmps61
 go_wp2_with (first | ((with_reducible refine gate_dst (N := 2) rfl ?_); refine box_event ?hg (N := 2) ?hd (cs := #[.slice none 0 0, .slice none 0 0, .int .i64 0]) (t := 34) ?hr ?_; (case hd => rfl); (case hg => rfl); (case hr => first | (go_simp; done) | (go_simp; rfl)); intro gb206 hg w2 hbox hb; have n0_ := Aside0.mk (below_step (by repeat (first | (with_reducible first | exact HB.out | apply below_alloc | apply pw_below_drewN | apply below_drew1) | exact HB.out)) hb); have n1_ := Aside0.mk (hbox); have n2_ := Aside0.mk ((by rw [hg]; exact (below_size (by repeat (first | (with_reducible first | exact HB.out | apply below_alloc | apply pw_below_drewN | apply below_drew1) | exact HB.out))) : w.heap.size ≤ gb206)); have n3_ := Aside0.mk ((by rw [hg]; exact (below_size (by repeat (first | (with_reducible first | exact HB.out | apply below_alloc | apply pw_below_drewN | apply below_drew1) | exact HB.out))) : w.heap.size ≤ gb206)); clear HB; have HB := n0_; have BK206 := n1_; have GW206 := n2_; have GE206 := n3_; clear n0_ n1_ n2_ n3_; clear hb hbox hg; have hcz3_0 : w2.cell? ⟨gb206, 0, none⟩ = some (.slice none 0 0) := (blk_cell BK206.out 0).trans rfl; have hcz3_1 : w2.cell? ⟨gb206, 1, none⟩ = some (.slice none 0 0) := (blk_cell BK206.out 1).trans rfl; have hcz3_2 : w2.cell? ⟨gb206, 2, none⟩ = some (.int .i64 0) := (blk_cell BK206.out 2).trans rfl; have hfz3_0 := blk_frozen BK206.out 0; have hfz3_1 := blk_frozen BK206.out 1; have hfz3_2 := blk_frozen BK206.out 2))
 refine bodyPost_ret (results_cell_row rfl _ _ gb206 34 #[.slice none 0 0, .slice none 0 0, .int .i64 a0] (0, 0) _ rfl (by (with_reducible repeat (first | refine blk_drewN ?_ _ | refine blk_drew ?_ | refine blk_alloc ?_ _)); refine blk_put (cs := #[.slice none 0 0, .slice none 0 0, .int .i64 0]) ?_ 2 _ rfl; (with_reducible repeat (first | refine blk_drewN ?_ _ | refine blk_drew ?_ | refine blk_alloc ?_ _)); refine blk_put (cs := #[.slice none 0 0, .slice none 0 0, .int .i64 0]) ?_ 1 _ rfl; (with_reducible repeat (first | refine blk_drewN ?_ _ | refine blk_drew ?_ | refine blk_alloc ?_ _)); refine blk_put (cs := #[.slice none 0 0, .slice none 0 0, .int .i64 0]) ?_ 0 _ rfl; (with_reducible repeat (first | refine blk_drewN ?_ _ | refine blk_drew ?_ | refine blk_alloc ?_ _)); exact BK206.out) Try.underlying34 rfl (by kernel_rfl)) rfl ?_
 exact ⟨_, _, by first | rfl | (simp [errW_none, errW_some] <;> rfl) | (simp [*, errW_none, errW_some] <;> rfl), by first | exact Kd.R_nil _ _ _ _ _ | exact Kd.N_nil _ _ _ _ _ | exact Kd.V_nil _ _ _ _ _ | exact Kd.Q_nil _ _ _ _ _ | exact Kd.S_nil _ _ _ _ _, by first | exact Kd.R_nil _ _ _ _ _ | exact Kd.N_nil _ _ _ _ _ | exact Kd.V_nil _ _ _ _ _ | exact Kd.Q_nil _ _ _ _ _ | exact Kd.S_nil _ _ _ _ _, by repeat (first | (with_reducible first | exact HB.out | apply below_alloc | apply pw_below_drewN | apply below_drew1 | refine below_set ?_ GE206.out) | exact HB.out)⟩
def spec_l06Sweep.l0 : Nat → List (S73) → Int → Int → List (S73) → List (S42) → Int → Option ((List (S73)) × (List (S42)) × Int)
 | 0, _, _, _, _, _, _ => none
 | k + 1, x0, x1, x6, x209000, x209001, x209002 => if x6 < (x0.length : Int) then (if 0 ≤ x6 then (if ((rd_T73 x0 x6).f0) = x1 then (if (rd_T73 x0 x6).f1 = true then (if x209001.length < 2513169434916 then (spec_l06Sweep.l0 k x0 x1 (wrap64 (x6 + 1)) x209000 (x209001 ++ [(⟨(rd_T73 x0 x6).f2.f0, (rd_T73 x0 x6).f2.f1, (rd_T73 x0 x6).f2.f2, (rd_T73 x0 x6).f2.f3, (rd_T73 x0 x6).f2.f4, (rd_T73 x0 x6).f2.f5, (rd_T73 x0 x6).f2.f6⟩ : S42)]) x209002) else (none)) else (if x209000.length < 1954687338268 then (spec_l06Sweep.l0 k x0 x1 (wrap64 (x6 + 1)) (x209000 ++ [(⟨(rd_T73 x0 x6).f0, (rd_T73 x0 x6).f1, (⟨(rd_T73 x0 x6).f2.f0, (rd_T73 x0 x6).f2.f1, (rd_T73 x0 x6).f2.f2, (rd_T73 x0 x6).f2.f3, (rd_T73 x0 x6).f2.f4, (rd_T73 x0 x6).f2.f5, (rd_T73 x0 x6).f2.f6⟩ : S42)⟩ : S73)]) x209001 x209002) else (none))) else (if x209000.length < 1954687338268 then (spec_l06Sweep.l0 k x0 x1 (wrap64 (x6 + 1)) (x209000 ++ [(⟨(rd_T73 x0 x6).f0, (rd_T73 x0 x6).f1, (⟨(rd_T73 x0 x6).f2.f0, (rd_T73 x0 x6).f2.f1, (rd_T73 x0 x6).f2.f2, (rd_T73 x0 x6).f2.f3, (rd_T73 x0 x6).f2.f4, (rd_T73 x0 x6).f2.f5, (rd_T73 x0 x6).f2.f6⟩ : S42)⟩ : S73)]) x209001 x209002) else (none))) else (none)) else (some (x209000, x209001, x209002))
def spec_l06Sweep.f (k : Nat) (l0 : List (S73)) (a1 : Int) : Option ((List (S73)) × (List (S42)) × Int) := spec_l06Sweep.l0 k l0 a1 0 ([] : List (S73)) ([] : List (S42)) 0
theorem spec_l06Sweep.mono_l : ∀ k, (∀ y0 y1 y2 y3 y4 y5, LeO (spec_l06Sweep.l0 k y0 y1 y2 y3 y4 y5) (spec_l06Sweep.l0 (k + 1) y0 y1 y2 y3 y4 y5))
 | 0 => fun _ _ _ _ _ _ r h => by simp [spec_l06Sweep.l0] at h
 | k + 1 => by
  have ih0 := spec_l06Sweep.mono_l k
  ·intro y0 y1 y2 y3 y4 y5
   unfold spec_l06Sweep.l0
   repeat' first
   | (with_reducible exact ih0 _ _ _ _ _ _)
   | (with_reducible exact LeO.refl _)
   | (with_reducible exact LeO.none _)
   | (with_reducible refine LeO.ite ?_ ?_)
   | (with_reducible refine LeO.bind ?_ (fun _ => ?_))
   | exact ih0 _ _ _ _ _ _
   | exact LeO.none _
   | refine LeO.ite ?_ ?_
   | refine LeO.bind ?_ (fun _ => ?_)
theorem spec_l06Sweep.mono : ∀ a0 a1 k, LeO (spec_l06Sweep.f k a0 a1) (spec_l06Sweep.f (k + 1) a0 a1) := by
 intro a0 a1 k
 have ih0 := spec_l06Sweep.mono_l k
 unfold spec_l06Sweep.f
 repeat' first
   | (with_reducible exact ih0 _ _ _ _ _ _)
   | (with_reducible exact LeO.refl _)
   | (with_reducible exact LeO.none _)
   | (with_reducible refine LeO.ite ?_ ?_)
   | (with_reducible refine LeO.bind ?_ (fun _ => ?_))
   | exact ih0 _ _ _ _ _ _
   | exact LeO.none _
   | refine LeO.ite ?_ ?_
   | refine LeO.bind ?_ (fun _ => ?_)
def spec_l06Sweep.T6 : Bool × List (List Nat × List Nat) := (true, [([], []), ([0], [0]), ([], []), ([], []), ([2, 3], [2, 3]), ([4], [4]), ([5], [5]), ([6], [6]), ([1, 7], [1, 7]), ([0, 1, 2, 3, 4, 5, 6, 7, 8], []), ([9, 8, 8, 0, 1, 2, 3, 4, 5, 6, 7, 8], [8, 9])])
def spec_l06Sweep.B6 : List Nat := [0, 1, 0, 0, 12, 28, 60, 124, 255, 511, 1023]
theorem spec_l06Sweep.tab6 : rtab .any (opsOf Try.f67 6) = spec_l06Sweep.T6 := by kernel_rfl
theorem spec_l06Sweep.bits6 : waitsOk spec_l06Sweep.T6.2 spec_l06Sweep.B6 = true := by kernel_rfl
def spec_l06Sweep.T7 : Bool × List (List Nat × List Nat) := (true, [([], []), ([0], [0]), ([], []), ([], []), ([2, 3], [2, 3]), ([4], [4]), ([5], [5]), ([1, 6], [1, 6]), ([0, 1, 2, 3, 4, 5, 6, 7], []), ([8, 7, 7, 0, 1, 2, 3, 4, 5, 6, 7], [7, 8])])
def spec_l06Sweep.B7 : List Nat := [0, 1, 0, 0, 12, 28, 60, 127, 255, 511]
theorem spec_l06Sweep.tab7 : rtab .any (opsOf Try.f67 7) = spec_l06Sweep.T7 := by kernel_rfl
theorem spec_l06Sweep.bits7 : waitsOk spec_l06Sweep.T7.2 spec_l06Sweep.B7 = true := by kernel_rfl
set_option maxHeartbeats 8000000 in
set_option maxRecDepth 100000 in
theorem spec_l06Sweep.calls (k : Nat) (A0 : Option Addr) (c0 : Nat) (l0 : List (S73)) (a1 : Int) (r1 : List (S73)) (r2 : List (S42)) (r3 : Int) (w : World) (hr0 : Kd.C k73 w A0 l0.length l0) (hc0 : l0.length ≤ c0) (h : spec_l06Sweep.f k l0 a1 = some (r1, r2, r3)) :
  Calls Try.prog 67 #[.slice A0 l0.length c0, .int .i64 a1] w fun e w' => ∃ v0_ v1_ : Value, e = .returned (.agg #[v0_, v1_, .int .i64 r3]) ∧ Kd.R k73 73 w' w.heap.size (fun _ => True) v0_ r1 ∧ Kd.R k42 42 w' w.heap.size (fun _ => True) v1_ r2 ∧ Below w.heap.size w w' := by
 have hu34 := Try.underlying34
 have hu42 := Try.underlying42
 have hu73 := Try.underlying73
 have HR0 := Aside0.mk hr0
 have HC0 := Aside0.mk hc0
 clear hr0 hc0
 have HB := Aside0.mk (Below.refl w.heap.size w)
 have H : (spec_l06Sweep.l0 k l0 a1 0 ([] : List (S73)) ([] : List (S42)) 0) = some (r1, r2, r3) := h
 clear h
 have H' := Aside0.mk H
 clear H
 go_enter Try.func67, Try.ntmps67
 go_wp2_with (first | ((with_reducible refine gate_dst (N := 4) rfl ?_); refine box_event ?hg (N := 4) ?hd (cs := #[.slice none 0 0, .slice none 0 0, .int .i64 0]) (t := 34) ?hr ?_; (case hd => rfl); (case hg => rfl); (case hr => first | (go_simp; done) | (go_simp; rfl)); intro gb207 hg w3 hbox hb; have n0_ := Aside0.mk (below_step (by repeat (first | (with_reducible first | exact HB.out | apply below_alloc | apply pw_below_drewN | apply below_drew1) | exact HB.out)) hb); have n1_ := Aside0.mk (hbox); have n2_ := Aside0.mk ((by rw [hg]; exact (below_size (by repeat (first | (with_reducible first | exact HB.out | apply below_alloc | apply pw_below_drewN | apply below_drew1) | exact HB.out))) : w.heap.size ≤ gb207)); have n3_ := Aside0.mk ((by rw [hg]; exact (below_size (by repeat (first | (with_reducible first | exact HB.out | apply below_alloc | apply pw_below_drewN | apply below_drew1) | exact HB.out))) : w.heap.size ≤ gb207)); clear HB; have HB := n0_; have BK207 := n1_; have GW207 := n2_; have GE207 := n3_; clear n0_ n1_ n2_ n3_; clear hb hbox hg) | ((with_reducible refine gate_dst (N := 5) rfl ?_); refine box_event ?hg (N := 5) ?hd (cs := #[.slice none 0 0, .slice none 0 0, .int .i64 0]) (t := 34) ?hr ?_; (case hd => rfl); (case hg => rfl); (case hr => first | (go_simp; done) | (go_simp; rfl)); intro gb208 hg w4 hbox hb; have n0_ := Aside0.mk (blk_below (g := gb207) (o := .cells #[.slice none 0 0, .slice none 0 0, .int .i64 0] 34 (0, 0)) (by (with_reducible repeat (first | refine blk_drewN ?_ _ | refine blk_drew ?_ | refine blk_alloc ?_ _)); exact BK207.out) hb); have n1_ := Aside0.mk (below_step (by repeat (first | (with_reducible first | exact HB.out | apply below_alloc | apply pw_below_drewN | apply below_drew1 | refine below_set ?_ GE207.out) | exact HB.out)) hb); have n2_ := Aside0.mk (hbox); have n3_ := Aside0.mk ((by rw [hg]; exact (below_size (by repeat (first | (with_reducible first | exact HB.out | apply below_alloc | apply pw_below_drewN | apply below_drew1 | refine below_set ?_ GE207.out) | exact HB.out))) : w.heap.size ≤ gb208)); have n4_ := Aside0.mk ((by rw [hg]; exact (below_size (by repeat (first | (with_reducible first | exact HB.out | apply below_alloc | apply pw_below_drewN | apply below_drew1 | refine below_set ?_ GE207.out) | exact HB.out))) : w.heap.size ≤ gb208)); have n5_ := Aside0.mk ((by rw [hg]; exact Nat.ne_of_lt (blk_lt (g := gb207) (o := .cells #[.slice none 0 0, .slice none 0 0, .int .i64 0] 34 (0, 0)) (by (with_reducible repeat (first | refine blk_drewN ?_ _ | refine blk_drew ?_ | refine blk_alloc ?_ _)); exact BK207.out)) : gb207 ≠ gb208)); have n6_ := Aside0.mk ((by rw [hg]; exact Nat.ne_of_gt (blk_lt (g := gb207) (o := .cells #[.slice none 0 0, .slice none 0 0, .int .i64 0] 34 (0, 0)) (by (with_reducible repeat (first | refine blk_drewN ?_ _ | refine blk_drew ?_ | refine blk_alloc ?_ _)); exact BK207.out)) : gb208 ≠ gb207)); clear BK207; clear HB; have BK207 := n0_; have HB := n1_; have BK208 := n2_; have GW208 := n3_; have GE208 := n4_; have NB207_208 := n5_; have NB208_207 := n6_; clear n0_ n1_ n2_ n3_ n4_ n5_ n6_; clear hb hbox hg; have hnb5 := NB208_207.out; have hnc5 := NB207_208.out; have hcz6_0 : w4.cell? ⟨gb208, 0, none⟩ = some (.slice none 0 0) := (blk_cell BK208.out 0).trans rfl; have hcz6_1 : w4.cell? ⟨gb208, 1, none⟩ = some (.slice none 0 0) := (blk_cell BK208.out 1).trans rfl; have hcz6_2 : w4.cell? ⟨gb208, 2, none⟩ = some (.int .i64 0) := (blk_cell BK208.out 2).trans rfl; have hfz6_0 := blk_frozen BK208.out 0; have hfz6_1 := blk_frozen BK208.out 1; have hfz6_2 := blk_frozen BK208.out 2))
 go_loopg [6] k (fun kq v6 w' => ∃ (x6_1 : Int) (x209000_1 : List (S73)) (x209001_1 : List (S42)) (u209000 : Value) (u209001 : Value), v6 = .int .i64 x6_1 ∧ Aside0 (spec_l06Sweep.l0 kq l0 a1 x6_1 x209000_1 x209001_1 0 = some (r1, r2, r3)) ∧ Aside0 (kq ≤ k) ∧ Aside0 (Kd.R k73 73 w' w.heap.size (fun _ => True) u209000 x209000_1) ∧ Aside0 (Kd.R k42 42 w' w.heap.size (fun _ => True) u209001 x209001_1) ∧ Aside0 (w'.heap[gb207]? = some (.cells #[(.slice none 0 0), (.slice none 0 0), .int .i64 0] 34 (0, 0))) ∧ Aside0 (w'.heap[gb208]? = some (.cells #[u209000, u209001, .int .i64 0] 34 (0, 0))) ∧ Aside0 (Below w.heap.size w w'))
 case atStart => exact ⟨(0), (([] : List (S73))), (([] : List (S42))), (.slice none 0 0), (.slice none 0 0), (by first | rfl | (simp; done) | (simp [*]; done)), H', ⟨Nat.le_refl _⟩, ⟨by first | exact Kd.R_nil _ _ _ _ _ | exact Kd.N_nil _ _ _ _ _ | exact Kd.V_nil _ _ _ _ _ | exact Kd.Q_nil _ _ _ _ _ | exact Kd.S_nil _ _ _ _ _⟩, ⟨by first | exact Kd.R_nil _ _ _ _ _ | exact Kd.N_nil _ _ _ _ _ | exact Kd.V_nil _ _ _ _ _ | exact Kd.Q_nil _ _ _ _ _ | exact Kd.S_nil _ _ _ _ _⟩, ⟨by (with_reducible repeat (first | refine blk_drewN ?_ _ | refine blk_drew ?_ | refine blk_alloc ?_ _)); refine blk_far ?_ NB207_208.out _; (with_reducible repeat (first | refine blk_drewN ?_ _ | refine blk_drew ?_ | refine blk_alloc ?_ _)); refine blk_far ?_ NB207_208.out _; (with_reducible repeat (first | refine blk_drewN ?_ _ | refine blk_drew ?_ | refine blk_alloc ?_ _)); refine blk_far ?_ NB207_208.out _; (with_reducible repeat (first | refine blk_drewN ?_ _ | refine blk_drew ?_ | refine blk_alloc ?_ _)); exact BK207.out⟩, ⟨by (with_reducible repeat (first | refine blk_drewN ?_ _ | refine blk_drew ?_ | refine blk_alloc ?_ _)); refine blk_put (cs := #[.slice none 0 0, .slice none 0 0, .int .i64 0]) ?_ 2 _ rfl; (with_reducible repeat (first | refine blk_drewN ?_ _ | refine blk_drew ?_ | refine blk_alloc ?_ _)); refine blk_put (cs := #[.slice none 0 0, .slice none 0 0, .int .i64 0]) ?_ 1 _ rfl; (with_reducible repeat (first | refine blk_drewN ?_ _ | refine blk_drew ?_ | refine blk_alloc ?_ _)); refine blk_put (cs := #[.slice none 0 0, .slice none 0 0, .int .i64 0]) ?_ 0 _ rfl; (with_reducible repeat (first | refine blk_drewN ?_ _ | refine blk_drew ?_ | refine blk_alloc ?_ _)); exact BK208.out⟩, ⟨by repeat (first | (with_reducible first | exact HB.out | apply below_alloc | apply pw_below_drewN | apply below_drew1 | refine below_set ?_ GE207.out | refine below_set ?_ GE208.out) | exact HB.out)⟩⟩
 case round =>
  clear H'
  try clear p2
  try clear c5
  try clear c6
  try clear hcz6_0
  try clear hcz6_1
  try clear hcz6_2
  try clear hfz6_0
  try clear hfz6_1
  try clear hfz6_2
  obtain ⟨x6_1, x209000_1, x209001_1, u209000, u209001, rfl, HA, HK1, HO_209000, HO_209001, BK207, BK208, HB⟩ := hrel
  cases gk with
  | zero => exact absurd HA.out (by simp [spec_l06Sweep.l0])
  | succ k1 =>
   have H := HA.out
   clear HA
   simp only [spec_l06Sweep.l0] at H
   by_cases c7 : x6_1 < (l0.length : Int)
   ·rw [if_pos c7] at H
    have c7b0 : decide (x6_1 < (l0.length : Int)) = true := decide_eq_true c7
    clear c7
    by_cases c8 : 0 ≤ x6_1
    ·rw [if_pos c8] at H
     have c8b0 : decide (0 ≤ x6_1) = true := decide_eq_true c8
     clear c8
     by_cases c9 : ((rd_T73 l0 x6_1).f0) = a1
     ·rw [if_pos c9] at H
      have c9b0 : (((rd_T73 l0 x6_1).f0) == a1) = true := beq_iff_eq.mpr c9
      have c9b1 : (((rd_T73 l0 x6_1).f0) != a1) = false := bne_eq_false_iff_eq.mpr c9
      clear c9
      obtain ⟨bq10, hbq10⟩ : ∃ b_ : Bool, b_ = ((rd_T73 l0 x6_1).f1) := ⟨_, rfl⟩
      replace H : (if bq10 = true then (if x209001_1.length < 2513169434916 then (spec_l06Sweep.l0 k1 l0 a1 (wrap64 (x6_1 + 1)) x209000_1 (x209001_1 ++ [(⟨(rd_T73 l0 x6_1).f2.f0, (rd_T73 l0 x6_1).f2.f1, (rd_T73 l0 x6_1).f2.f2, (rd_T73 l0 x6_1).f2.f3, (rd_T73 l0 x6_1).f2.f4, (rd_T73 l0 x6_1).f2.f5, (rd_T73 l0 x6_1).f2.f6⟩ : S42)]) 0) else (none)) else (if x209000_1.length < 1954687338268 then (spec_l06Sweep.l0 k1 l0 a1 (wrap64 (x6_1 + 1)) (x209000_1 ++ [(⟨(rd_T73 l0 x6_1).f0, bq10, (⟨(rd_T73 l0 x6_1).f2.f0, (rd_T73 l0 x6_1).f2.f1, (rd_T73 l0 x6_1).f2.f2, (rd_T73 l0 x6_1).f2.f3, (rd_T73 l0 x6_1).f2.f4, (rd_T73 l0 x6_1).f2.f5, (rd_T73 l0 x6_1).f2.f6⟩ : S42)⟩ : S73)]) x209001_1 0) else (none))) = some (r1, r2, r3) := by rw [← hbq10] at H; exact H
      have Nbq10 := Aside0.mk hbq10
      clear hbq10
      by_cases c11 : bq10 = true
      ·subst c11
       have H1 : (if x209001_1.length < 2513169434916 then (spec_l06Sweep.l0 k1 l0 a1 (wrap64 (x6_1 + 1)) x209000_1 (x209001_1 ++ [(⟨(rd_T73 l0 x6_1).f2.f0, (rd_T73 l0 x6_1).f2.f1, (rd_T73 l0 x6_1).f2.f2, (rd_T73 l0 x6_1).f2.f3, (rd_T73 l0 x6_1).f2.f4, (rd_T73 l0 x6_1).f2.f5, (rd_T73 l0 x6_1).f2.f6⟩ : S42)]) 0) else (none)) = some (r1, r2, r3) := by rw [if_pos rfl] at H; exact H
       clear H
       have H := H1
       clear H1
       by_cases c12 : x209001_1.length < 2513169434916
       ·rw [if_pos c12] at H
        have LMc12 := Aside0.mk c12
        clear c12
        obtain ⟨y212, hy212⟩ : ∃ y_ : List (S42), y_ = (x209001_1 ++ [(⟨(rd_T73 l0 x6_1).f2.f0, (rd_T73 l0 x6_1).f2.f1, (rd_T73 l0 x6_1).f2.f2, (rd_T73 l0 x6_1).f2.f3, (rd_T73 l0 x6_1).f2.f4, (rd_T73 l0 x6_1).f2.f5, (rd_T73 l0 x6_1).f2.f6⟩ : S42)]) := ⟨_, rfl⟩
        replace H : (spec_l06Sweep.l0 k1 l0 a1 (wrap64 (x6_1 + 1)) x209000_1 y212 0) = some (r1, r2, r3) := by first | (rw [hy212]; with_reducible exact H) | (have H2_ := (Option.bind_some _ _).symm.trans H; rw [hy212]; with_reducible exact H2_) | (have H2_ := (Option.bind_some _ _).symm.trans H; with_reducible exact H2_) | with_reducible exact H | (rw [hy212]; exact H) | exact H
        have Ny212 := Aside0.mk hy212
        clear hy212
        have H' := Aside0.mk H
        clear H
        have p209 : 0 ≤ (x6_1 : Int) := of_decide_eq_true (by first | (with_reducible assumption) | assumption)
        have q209 : x6_1 < (l0.length : Int) := of_decide_eq_true (by first | (with_reducible assumption) | assumption)
        obtain ⟨ad209, e209, hx209_0, hx209_1, hx209_2, hx209_3, hx209_4, hx209_5, hx209_6, hx209_7, hx209_8⟩ := at_T73 HR0.out x6_1 p209 q209
        (try rw [← Nbq10.out] at hx209_1)
        (try rw [← Nbq10.out] at hx209_8)
        cases e209
        replace hx209_0 := (HB.out.cell (World.block_lt_of_cell? w _ hx209_0)).trans hx209_0
        replace hx209_1 := (HB.out.cell (World.block_lt_of_cell? w _ hx209_1)).trans hx209_1
        replace hx209_2 := (HB.out.cell (World.block_lt_of_cell? w _ hx209_2)).trans hx209_2
        replace hx209_3 := (HB.out.cell (World.block_lt_of_cell? w _ hx209_3)).trans hx209_3
        replace hx209_4 := (HB.out.cell (World.block_lt_of_cell? w _ hx209_4)).trans hx209_4
        replace hx209_5 := (HB.out.cell (World.block_lt_of_cell? w _ hx209_5)).trans hx209_5
        replace hx209_6 := (HB.out.cell (World.block_lt_of_cell? w _ hx209_6)).trans hx209_6
        replace hx209_7 := (HB.out.cell (World.block_lt_of_cell? w _ hx209_7)).trans hx209_7
        replace hx209_8 := (HB.out.cell (World.block_lt_of_cell? w _ hx209_8)).trans hx209_8
        replace p209 := eq_true p209
        replace q209 := eq_true q209
        have p210 : 0 ≤ (x6_1 : Int) := of_decide_eq_true (by first | (with_reducible assumption) | assumption)
        have q210 : x6_1 < (l0.length : Int) := of_decide_eq_true (by first | (with_reducible assumption) | assumption)
        obtain ⟨ad210, e210, hx210_0, hx210_1, hx210_2, hx210_3, hx210_4, hx210_5, hx210_6, hx210_7, hx210_8⟩ := at_T73 HR0.out x6_1 p210 q210
        (try rw [← Nbq10.out] at hx210_1)
        (try rw [← Nbq10.out] at hx210_8)
        obtain rfl : ad209 = ad210 := (by injection e210)
        replace hx210_0 := (HB.out.cell (World.block_lt_of_cell? w _ hx210_0)).trans hx210_0
        replace hx210_1 := (HB.out.cell (World.block_lt_of_cell? w _ hx210_1)).trans hx210_1
        replace hx210_2 := (HB.out.cell (World.block_lt_of_cell? w _ hx210_2)).trans hx210_2
        replace hx210_3 := (HB.out.cell (World.block_lt_of_cell? w _ hx210_3)).trans hx210_3
        replace hx210_4 := (HB.out.cell (World.block_lt_of_cell? w _ hx210_4)).trans hx210_4
        replace hx210_5 := (HB.out.cell (World.block_lt_of_cell? w _ hx210_5)).trans hx210_5
        replace hx210_6 := (HB.out.cell (World.block_lt_of_cell? w _ hx210_6)).trans hx210_6
        replace hx210_7 := (HB.out.cell (World.block_lt_of_cell? w _ hx210_7)).trans hx210_7
        replace hx210_8 := (HB.out.cell (World.block_lt_of_cell? w _ hx210_8)).trans hx210_8
        replace p210 := eq_true p210
        replace q210 := eq_true q210
        try go_wp2
        have n0_ := Aside0.mk (Kd.R_drew HO_209000.out)
        have n1_ := Aside0.mk (Kd.R_drew HO_209001.out)
        have n2_ := Aside0.mk (blk_drew BK207.out)
        have n3_ := Aside0.mk (blk_drew BK208.out)
        have n4_ := Aside0.mk (below_drew1 HB.out)
        clear HO_209000
        clear HO_209001
        clear BK207
        clear BK208
        clear HB
        have HO_209000 := n0_
        have HO_209001 := n1_
        have BK207 := n2_
        have BK208 := n3_
        have HB := n4_
        clear n0_ n1_ n2_ n3_ n4_
        have p211 : 0 ≤ (x6_1 : Int) := of_decide_eq_true (by first | (with_reducible assumption) | assumption)
        have q211 : x6_1 < (l0.length : Int) := of_decide_eq_true (by first | (with_reducible assumption) | assumption)
        obtain ⟨ad211, e211, hx211_0, hx211_1, hx211_2, hx211_3, hx211_4, hx211_5, hx211_6, hx211_7, hx211_8⟩ := at_T73 HR0.out x6_1 p211 q211
        have hw211_8 := hx211_8
        have hw211_7 := hx211_7
        have hw211_6 := hx211_6
        have hw211_5 := hx211_5
        have hw211_4 := hx211_4
        have hw211_3 := hx211_3
        have hw211_2 := hx211_2
        have hw211_1 := hx211_1
        have hw211_0 := hx211_0
        (try rw [← Nbq10.out] at hx211_1)
        (try rw [← Nbq10.out] at hw211_1)
        (try rw [← Nbq10.out] at hx211_8)
        (try rw [← Nbq10.out] at hw211_8)
        obtain rfl : ad209 = ad211 := (by injection e211)
        replace hx211_0 := (HB.out.cell (World.block_lt_of_cell? w _ hx211_0)).trans hx211_0
        replace hx211_1 := (HB.out.cell (World.block_lt_of_cell? w _ hx211_1)).trans hx211_1
        replace hx211_2 := (HB.out.cell (World.block_lt_of_cell? w _ hx211_2)).trans hx211_2
        replace hx211_3 := (HB.out.cell (World.block_lt_of_cell? w _ hx211_3)).trans hx211_3
        replace hx211_4 := (HB.out.cell (World.block_lt_of_cell? w _ hx211_4)).trans hx211_4
        replace hx211_5 := (HB.out.cell (World.block_lt_of_cell? w _ hx211_5)).trans hx211_5
        replace hx211_6 := (HB.out.cell (World.block_lt_of_cell? w _ hx211_6)).trans hx211_6
        replace hx211_7 := (HB.out.cell (World.block_lt_of_cell? w _ hx211_7)).trans hx211_7
        replace hx211_8 := (HB.out.cell (World.block_lt_of_cell? w _ hx211_8)).trans hx211_8
        replace p211 := eq_true p211
        replace q211 := eq_true q211
        refine start_ (n := 11) (S := fun w' => w'.cell? ⟨gb208, 0, none⟩ = some (u209000) ∧ w'.cell? ⟨gb208, 1, none⟩ = some (u209001) ∧ w'.cell? ⟨gb208, 2, none⟩ = some (.int .i64 0) ∧ w'.cell? (ad209.add ((x6_1).toNat * 9)) = some (.int .i64 ((rd_T73 l0 x6_1).f0)) ∧ w'.cell? ⟨(ad209.add ((x6_1).toNat * 9)).block, (ad209.add ((x6_1).toNat * 9)).off + 1, none⟩ = some (.bool (true)) ∧ w'.cell? ⟨(ad209.add ((x6_1).toNat * 9)).block, (ad209.add ((x6_1).toNat * 9)).off + 2, none⟩ = some (.int .i64 ((rd_T73 l0 x6_1).f2.f0)) ∧ w'.cell? ⟨(ad209.add ((x6_1).toNat * 9)).block, (ad209.add ((x6_1).toNat * 9)).off + 3, none⟩ = some (.int .i64 ((rd_T73 l0 x6_1).f2.f1)) ∧ w'.cell? ⟨(ad209.add ((x6_1).toNat * 9)).block, (ad209.add ((x6_1).toNat * 9)).off + 4, none⟩ = some (.int .i64 ((rd_T73 l0 x6_1).f2.f2)) ∧ w'.cell? ⟨(ad209.add ((x6_1).toNat * 9)).block, (ad209.add ((x6_1).toNat * 9)).off + 5, none⟩ = some (.int .i64 ((rd_T73 l0 x6_1).f2.f3)) ∧ w'.cell? ⟨(ad209.add ((x6_1).toNat * 9)).block, (ad209.add ((x6_1).toNat * 9)).off + 6, none⟩ = some (.int .i64 ((rd_T73 l0 x6_1).f2.f4)) ∧ w'.cell? ⟨(ad209.add ((x6_1).toNat * 9)).block, (ad209.add ((x6_1).toNat * 9)).off + 7, none⟩ = some (.int .i64 ((rd_T73 l0 x6_1).f2.f5)) ∧ w'.cell? ⟨(ad209.add ((x6_1).toNat * 9)).block, (ad209.add ((x6_1).toNat * 9)).off + 8, none⟩ = some (.bool ((rd_T73 l0 x6_1).f2.f6))) (ds := [10]) #[false, false, false, false, false, false, false, false, false, false, false] (by kernel_rfl) rfl rfl ⟨(blk_cell BK208.out 0).trans rfl, (blk_cell BK208.out 1).trans rfl, (blk_cell BK208.out 2).trans rfl, ((HB.out.cell (World.block_lt_of_cell? w _ hw211_0)).trans hw211_0), ((HB.out.cell (World.block_lt_of_cell? w _ hw211_1)).trans hw211_1), ((HB.out.cell (World.block_lt_of_cell? w _ hw211_2)).trans hw211_2), ((HB.out.cell (World.block_lt_of_cell? w _ hw211_3)).trans hw211_3), ((HB.out.cell (World.block_lt_of_cell? w _ hw211_4)).trans hw211_4), ((HB.out.cell (World.block_lt_of_cell? w _ hw211_5)).trans hw211_5), ((HB.out.cell (World.block_lt_of_cell? w _ hw211_6)).trans hw211_6), ((HB.out.cell (World.block_lt_of_cell? w _ hw211_7)).trans hw211_7), ((HB.out.cell (World.block_lt_of_cell? w _ hw211_8)).trans hw211_8)⟩ (fun hHeld => ?_); refine with_tabW spec_l06Sweep.tab6 spec_l06Sweep.bits6 (fun HT_ HW_ => ?_)
        generalize wr.drew = w13 at HO_209000 HO_209001 BK207 BK208 HB hx211_0 hx211_1 hx211_2 hx211_3 hx211_4 hx211_5 hx211_6 hx211_7 hx211_8 hHeld ⊢
        refine pure_ (i := 0) (N := some 28) (v := ?_) (a' := ?_) #[true, false, false, false, false, false, false, false, false, false, false] rfl rfl (any_of HT_.out (by kernel_rfl)) (fun _ _ _ h => h) (Or.inl ⟨by rfl, ?_⟩) ?_ ?_
        rotate_left
        ·intro w'
         go_simp
         with_reducible rfl
        rotate_left
        ·simp only [Act.put, List.setIfInBounds_toArray, List.set_cons_zero, List.set_cons_succ, i64_w, i32_w]
         rfl
        refine pure_ (i := 2) (N := some 30) (v := ?_) (a' := ?_) #[true, false, true, false, false, false, false, false, false, false, false] rfl rfl (any_of HT_.out (by kernel_rfl)) (fun _ _ _ h => h) (Or.inl ⟨by rfl, ?_⟩) ?_ ?_
        rotate_left
        ·intro w'
         go_simp
         with_reducible rfl
        rotate_left
        ·simp only [Act.put, List.setIfInBounds_toArray, List.set_cons_zero, List.set_cons_succ, i64_w, i32_w]
         rfl
        refine pure_ (i := 3) (N := some 31) (v := ?_) (a' := ?_) #[true, false, true, true, false, false, false, false, false, false, false] rfl rfl (any_of HT_.out (by kernel_rfl)) (fun _ _ _ h => h) (Or.inl ⟨by rfl, ?_⟩) ?_ ?_
        rotate_left
        ·intro w'
         go_simp
         with_reducible rfl
        rotate_left
        ·simp only [Act.put, List.setIfInBounds_toArray, List.set_cons_zero, List.set_cons_succ, i64_w, i32_w]
         rfl
        refine pure_ (i := 4) (N := some 32) (v := ?_) (a' := ?_) #[true, false, true, true, true, false, false, false, false, false, false] rfl rfl (any_of HT_.out (by kernel_rfl)) (fun _ _ _ h => h) (Or.inl ⟨by rfl, ?_⟩) ?_ ?_
        rotate_left
        ·intro w'
         go_simp
         with_reducible rfl
        rotate_left
        ·simp only [Act.put, List.setIfInBounds_toArray, List.set_cons_zero, List.set_cons_succ, i64_w, i32_w]
         rfl
        refine pure_ (i := 5) (N := some 33) (v := ?_) (a' := ?_) #[true, false, true, true, true, true, false, false, false, false, false] rfl rfl (any_of HT_.out (by kernel_rfl)) (fun _ _ _ h => h) (Or.inl ⟨by rfl, ?_⟩) ?_ ?_
        rotate_left
        ·intro w'
         go_simp
         with_reducible rfl
        rotate_left
        ·simp only [Act.put, List.setIfInBounds_toArray, List.set_cons_zero, List.set_cons_succ, i64_w, i32_w]
         rfl
        refine take_ (i := 1) (N := some 29) (v := ?_) (a' := ?_) #[true, true, true, true, true, true, false, false, false, false, false] rfl rfl (take_ofW HT_.out HW_.out (by kernel_rfl)) (fun _ _ _ h => h) (Or.inl ⟨by rfl, ?_⟩) hHeld ?_ ?_
        rotate_left
        ·rintro w' ⟨s0, s1, s2, s3, s4, s5, s6, s7, s8, s9, s10, s11⟩
         go_simp
         with_reducible rfl
        rotate_left
        ·simp only [Act.put, List.setIfInBounds_toArray, List.set_cons_zero, List.set_cons_succ, i64_w, i32_w]
         rfl
        refine take_ (i := 6) (N := some 34) (v := ?_) (a' := ?_) #[true, true, true, true, true, true, true, false, false, false, false] rfl rfl (take_ofW HT_.out HW_.out (by kernel_rfl)) (fun _ _ _ h => h) (Or.inl ⟨by rfl, ?_⟩) hHeld ?_ ?_
        rotate_left
        ·rintro w' ⟨s0, s1, s2, s3, s4, s5, s6, s7, s8, s9, s10, s11⟩
         go_simp
         with_reducible rfl
        rotate_left
        ·simp only [Act.put, List.setIfInBounds_toArray, List.set_cons_zero, List.set_cons_succ, i64_w, i32_w]
         rfl
        refine one_ (i := 7) (N := some 35) #[true, true, true, true, true, true, true, true, false, false, false] rfl rfl (one_of HT_.out (by kernel_rfl)) (by decide) (fun K hK => ?_)
        refine value_ (w1 := ?_) (v := ?_) (by rfl) rfl ?_ ?_
        rotate_left 2
        ·go_simp
         constructor
         ·rfl
         ·rfl
        refine hK.out _ _ ⟨(blk_cell (blk_alloc BK208.out _) 0).trans rfl, (blk_cell (blk_alloc BK208.out _) 1).trans rfl, (blk_cell (blk_alloc BK208.out _) 2).trans rfl, (World.cell?_alloc_lt _ _ _ (World.block_lt_of_cell? _ _ (((HB.out.cell (World.block_lt_of_cell? w _ hw211_0)).trans hw211_0)))).trans (((HB.out.cell (World.block_lt_of_cell? w _ hw211_0)).trans hw211_0)), (World.cell?_alloc_lt _ _ _ (World.block_lt_of_cell? _ _ (((HB.out.cell (World.block_lt_of_cell? w _ hw211_1)).trans hw211_1)))).trans (((HB.out.cell (World.block_lt_of_cell? w _ hw211_1)).trans hw211_1)), (World.cell?_alloc_lt _ _ _ (World.block_lt_of_cell? _ _ (((HB.out.cell (World.block_lt_of_cell? w _ hw211_2)).trans hw211_2)))).trans (((HB.out.cell (World.block_lt_of_cell? w _ hw211_2)).trans hw211_2)), (World.cell?_alloc_lt _ _ _ (World.block_lt_of_cell? _ _ (((HB.out.cell (World.block_lt_of_cell? w _ hw211_3)).trans hw211_3)))).trans (((HB.out.cell (World.block_lt_of_cell? w _ hw211_3)).trans hw211_3)), (World.cell?_alloc_lt _ _ _ (World.block_lt_of_cell? _ _ (((HB.out.cell (World.block_lt_of_cell? w _ hw211_4)).trans hw211_4)))).trans (((HB.out.cell (World.block_lt_of_cell? w _ hw211_4)).trans hw211_4)), (World.cell?_alloc_lt _ _ _ (World.block_lt_of_cell? _ _ (((HB.out.cell (World.block_lt_of_cell? w _ hw211_5)).trans hw211_5)))).trans (((HB.out.cell (World.block_lt_of_cell? w _ hw211_5)).trans hw211_5)), (World.cell?_alloc_lt _ _ _ (World.block_lt_of_cell? _ _ (((HB.out.cell (World.block_lt_of_cell? w _ hw211_6)).trans hw211_6)))).trans (((HB.out.cell (World.block_lt_of_cell? w _ hw211_6)).trans hw211_6)), (World.cell?_alloc_lt _ _ _ (World.block_lt_of_cell? _ _ (((HB.out.cell (World.block_lt_of_cell? w _ hw211_7)).trans hw211_7)))).trans (((HB.out.cell (World.block_lt_of_cell? w _ hw211_7)).trans hw211_7)), (World.cell?_alloc_lt _ _ _ (World.block_lt_of_cell? _ _ (((HB.out.cell (World.block_lt_of_cell? w _ hw211_8)).trans hw211_8)))).trans (((HB.out.cell (World.block_lt_of_cell? w _ hw211_8)).trans hw211_8))⟩ (fun hHeld => ?_)
        clear hK K
        refine norm_ (a' := ?_) ?_ ?_
        rotate_left
        ·show Act.put _ (some 35) _ = _
         simp only [Act.put, List.setIfInBounds_toArray, List.set_cons_zero, List.set_cons_succ, i64_w, i32_w]
         rfl
        refine one_ (i := 8) (N := some 36) #[true, true, true, true, true, true, true, true, true, false, false] rfl rfl (one_of HT_.out (by kernel_rfl)) (by decide) (fun K hK => ?_)
        refine Kd.R_append_step k42 (w0 := w) w.heap.size (by rfl) (.tmp 29) (.tmp 35) 24 42 (.agg #[(.int .i64 0), (.int .i64 0), (.int .i64 0), (.int .i64 0), (.int .i64 0), (.int .i64 0), (.bool false)]) 56 rfl Try.underlying24 info42 rfl (by decide) (by omega) u209001 x209001_1 (⟨(rd_T73 l0 x6_1).f2.f0, (rd_T73 l0 x6_1).f2.f1, (rd_T73 l0 x6_1).f2.f2, (rd_T73 l0 x6_1).f2.f3, (rd_T73 l0 x6_1).f2.f4, (rd_T73 l0 x6_1).f2.f5, (rd_T73 l0 x6_1).f2.f6⟩ : S42) [.int .i64 ((rd_T73 l0 x6_1).f2.f0), .int .i64 ((rd_T73 l0 x6_1).f2.f1), .int .i64 ((rd_T73 l0 x6_1).f2.f2), .int .i64 ((rd_T73 l0 x6_1).f2.f3), .int .i64 ((rd_T73 l0 x6_1).f2.f4), .int .i64 ((rd_T73 l0 x6_1).f2.f5), .bool ((rd_T73 l0 x6_1).f2.f6)] (fun _ => True) (fun _ => False) rfl rfl ?aP (fun _ hk => hk.elim) ?aF ?aO ?aB ?aS ?aL ?_
        (case aP => exact k42_mkM _ _ _ (⟨(rd_T73 l0 x6_1).f2.f0, (rd_T73 l0 x6_1).f2.f1, (rd_T73 l0 x6_1).f2.f2, (rd_T73 l0 x6_1).f2.f3, (rd_T73 l0 x6_1).f2.f4, (rd_T73 l0 x6_1).f2.f5, (rd_T73 l0 x6_1).f2.f6⟩ : S42))
        (case aB => exact (by repeat (first | (with_reducible first | exact HB.out | apply below_alloc | apply pw_below_drewN | apply below_drew1 | refine below_set ?_ GE207.out | refine below_set ?_ GE208.out) | exact HB.out)))
        (case aF => exact (fun _ _ => trivial))
        (case aO => exact (by (with_reducible repeat (first | apply Kd.R_alloc | apply Kd.R_drewN | apply Kd.R_drew)); exact HO_209001.out))
        (case aS => exact (below_size (by repeat (first | (with_reducible first | exact HB.out | apply below_alloc | apply pw_below_drewN | apply below_drew1 | refine below_set ?_ GE207.out | refine below_set ?_ GE208.out) | exact HB.out))))
        (case aL => have := LMc12.out; omega)
        intro v213 w14 ho hb hg hat
        rw [← Ny212.out] at ho
        have n0_ := Aside0.mk (Kd.R_over' (by (with_reducible repeat (first | apply Kd.R_alloc | apply Kd.R_drewN | apply Kd.R_drew)); exact HO_209000.out) (Kd.R_typed (by (with_reducible repeat (first | apply Kd.R_alloc | apply Kd.R_drewN | apply Kd.R_drew)); exact HO_209001.out)) (by decide) hg)
        have n1_ := Aside0.mk (blk_grown (g := gb207) (o := .cells #[.slice none 0 0, .slice none 0 0, .int .i64 0] 34 (0, 0)) (by (with_reducible repeat (first | refine blk_drewN ?_ _ | refine blk_drew ?_ | refine blk_alloc ?_ _)); exact BK207.out) hg (Kd.R_ne HO_209001.out BK207.out (by decide)))
        have n2_ := Aside0.mk (blk_grown (g := gb208) (o := .cells #[u209000, u209001, .int .i64 0] 34 (0, 0)) (by (with_reducible repeat (first | refine blk_drewN ?_ _ | refine blk_drew ?_ | refine blk_alloc ?_ _)); exact BK208.out) hg (Kd.R_ne HO_209001.out BK208.out (by decide)))
        have n3_ := Aside0.mk (hb)
        have n4_ := Aside0.mk (ho)
        clear HO_209000
        clear BK207
        clear BK208
        clear HB
        clear HO_209001
        have HO_209000 := n0_
        have BK207 := n1_
        have BK208 := n2_
        have HB := n3_
        have HO214 := n4_
        clear n0_ n1_ n2_ n3_ n4_
        clear ho hb hg hat
        obtain ⟨Ao15, co15, eo15⟩ := Kd.R_slice HO214.out
        (first | subst eo15 | (injection eo15 with f1_ f2_ f3_; have f4_ := f1_.symm; have f5_ := f3_.symm; clear f1_ f2_ f3_; subst f4_; subst f5_))
        refine hK.out _ _ ⟨(blk_cell BK208.out 0).trans rfl, (blk_cell BK208.out 1).trans rfl, (blk_cell BK208.out 2).trans rfl, ((HB.out.cell (World.block_lt_of_cell? w _ hw211_0)).trans hw211_0), ((HB.out.cell (World.block_lt_of_cell? w _ hw211_1)).trans hw211_1), ((HB.out.cell (World.block_lt_of_cell? w _ hw211_2)).trans hw211_2), ((HB.out.cell (World.block_lt_of_cell? w _ hw211_3)).trans hw211_3), ((HB.out.cell (World.block_lt_of_cell? w _ hw211_4)).trans hw211_4), ((HB.out.cell (World.block_lt_of_cell? w _ hw211_5)).trans hw211_5), ((HB.out.cell (World.block_lt_of_cell? w _ hw211_6)).trans hw211_6), ((HB.out.cell (World.block_lt_of_cell? w _ hw211_7)).trans hw211_7), ((HB.out.cell (World.block_lt_of_cell? w _ hw211_8)).trans hw211_8)⟩ (fun hHeld => ?_)
        clear hK K
        refine norm_ (a' := ?_) ?_ ?_
        rotate_left
        ·show Act.put _ (some 36) _ = _
         simp only [Act.put, List.setIfInBounds_toArray, List.set_cons_zero, List.set_cons_succ, i64_w, i32_w]
         rfl
        refine pure_ (i := 9) (N := some 37) (v := ?_) (a' := ?_) #[true, true, true, true, true, true, true, true, true, true, false] rfl rfl (any_of HT_.out (by kernel_rfl)) (fun _ _ _ h => h) (Or.inl ⟨by rfl, ?_⟩) ?_ ?_
        rotate_left
        ·intro w'
         go_simp
         with_reducible rfl
        rotate_left
        ·simp only [Act.put, List.setIfInBounds_toArray, List.set_cons_zero, List.set_cons_succ, i64_w, i32_w]
         rfl
        refine last_ (i := 10) (N := none) #[true, true, true, true, true, true, true, true, true, true, true] rfl rfl (one_of HT_.out (by kernel_rfl)) (by decide) (fun K hK => ?_)
        have hs16 : w14.cell? ⟨gb208, 1, none⟩ = some (u209001) := (blk_cell BK208.out 1).trans rfl
        have hfs16 := blk_frozen BK208.out 1
        have hns16_0 := NB207_208.out
        have hms16_0 := NB208_207.out
        refine skip_ (w1 := ?_) (by rfl) rfl ?_ ?_
        rotate_left
        ·go_simp
         rfl
        refine hK.out _ _ ?_
        clear hK K
        refine done_ (done_of HT_.out (by kernel_rfl)) ?_
        try go_wp2
        go_roundg k1
        case measure => have := HK1.out; omega
        case rel => exact ⟨(wrap64 (x6_1 + 1)), (x209000_1), (y212), (u209000), (.slice Ao15 y212.length co15), (by first | rfl | (simp; done) | (simp [*]; done)), H', ⟨by have := HK1.out; omega⟩, ⟨by (with_reducible repeat (first | apply Kd.R_alloc | apply Kd.R_drewN | apply Kd.R_drew)); exact Kd.R_mono (Kd.R_far (p := ⟨gb208, 1, none⟩) (Kd.R_types HO_209000.out BK208.out (by decide)) (fun _ hk => hk.2) (.slice Ao15 y212.length co15)) (fun _ hk => trivial)⟩, ⟨by (with_reducible repeat (first | apply Kd.R_alloc | apply Kd.R_drewN | apply Kd.R_drew)); exact Kd.R_mono (Kd.R_far (p := ⟨gb208, 1, none⟩) (Kd.R_types HO214.out BK208.out (by decide)) (fun _ hk => hk.2) (.slice Ao15 y212.length co15)) (fun _ hk => trivial)⟩, ⟨by (with_reducible repeat (first | refine blk_drewN ?_ _ | refine blk_drew ?_ | refine blk_alloc ?_ _)); refine blk_far ?_ NB207_208.out _; (with_reducible repeat (first | refine blk_drewN ?_ _ | refine blk_drew ?_ | refine blk_alloc ?_ _)); exact BK207.out⟩, ⟨by (with_reducible repeat (first | refine blk_drewN ?_ _ | refine blk_drew ?_ | refine blk_alloc ?_ _)); refine blk_put (cs := #[u209000, u209001, .int .i64 0]) ?_ 1 _ rfl; (with_reducible repeat (first | refine blk_drewN ?_ _ | refine blk_drew ?_ | refine blk_alloc ?_ _)); exact BK208.out⟩, ⟨by repeat (first | (with_reducible first | exact HB.out | apply below_alloc | apply pw_below_drewN | apply below_drew1 | refine below_set ?_ GE207.out | refine below_set ?_ GE208.out) | exact HB.out)⟩⟩
       ·rw [if_neg c12] at H
        exact absurd H (by simp)
      ·replace c11 := Bool.eq_false_iff.mpr c11
       subst c11
       have H1 : (if x209000_1.length < 1954687338268 then (spec_l06Sweep.l0 k1 l0 a1 (wrap64 (x6_1 + 1)) (x209000_1 ++ [(⟨(rd_T73 l0 x6_1).f0, false, (⟨(rd_T73 l0 x6_1).f2.f0, (rd_T73 l0 x6_1).f2.f1, (rd_T73 l0 x6_1).f2.f2, (rd_T73 l0 x6_1).f2.f3, (rd_T73 l0 x6_1).f2.f4, (rd_T73 l0 x6_1).f2.f5, (rd_T73 l0 x6_1).f2.f6⟩ : S42)⟩ : S73)]) x209001_1 0) else (none)) = some (r1, r2, r3) := by rw [if_neg (show ¬ (false = true) by decide)] at H; exact H
       clear H
       have H := H1
       clear H1
       by_cases c17 : x209000_1.length < 1954687338268
       ·rw [if_pos c17] at H
        have LMc17 := Aside0.mk c17
        clear c17
        obtain ⟨y216, hy216⟩ : ∃ y_ : List (S73), y_ = (x209000_1 ++ [(⟨(rd_T73 l0 x6_1).f0, false, (⟨(rd_T73 l0 x6_1).f2.f0, (rd_T73 l0 x6_1).f2.f1, (rd_T73 l0 x6_1).f2.f2, (rd_T73 l0 x6_1).f2.f3, (rd_T73 l0 x6_1).f2.f4, (rd_T73 l0 x6_1).f2.f5, (rd_T73 l0 x6_1).f2.f6⟩ : S42)⟩ : S73)]) := ⟨_, rfl⟩
        replace H : (spec_l06Sweep.l0 k1 l0 a1 (wrap64 (x6_1 + 1)) y216 x209001_1 0) = some (r1, r2, r3) := by first | (rw [hy216]; with_reducible exact H) | (have H2_ := (Option.bind_some _ _).symm.trans H; rw [hy216]; with_reducible exact H2_) | (have H2_ := (Option.bind_some _ _).symm.trans H; with_reducible exact H2_) | with_reducible exact H | (rw [hy216]; exact H) | exact H
        have Ny216 := Aside0.mk hy216
        clear hy216
        have H' := Aside0.mk H
        clear H
        have p209 : 0 ≤ (x6_1 : Int) := of_decide_eq_true (by first | (with_reducible assumption) | assumption)
        have q209 : x6_1 < (l0.length : Int) := of_decide_eq_true (by first | (with_reducible assumption) | assumption)
        obtain ⟨ad209, e209, hx209_0, hx209_1, hx209_2, hx209_3, hx209_4, hx209_5, hx209_6, hx209_7, hx209_8⟩ := at_T73 HR0.out x6_1 p209 q209
        (try rw [← Nbq10.out] at hx209_1)
        (try rw [← Nbq10.out] at hx209_8)
        cases e209
        replace hx209_0 := (HB.out.cell (World.block_lt_of_cell? w _ hx209_0)).trans hx209_0
        replace hx209_1 := (HB.out.cell (World.block_lt_of_cell? w _ hx209_1)).trans hx209_1
        replace hx209_2 := (HB.out.cell (World.block_lt_of_cell? w _ hx209_2)).trans hx209_2
        replace hx209_3 := (HB.out.cell (World.block_lt_of_cell? w _ hx209_3)).trans hx209_3
        replace hx209_4 := (HB.out.cell (World.block_lt_of_cell? w _ hx209_4)).trans hx209_4
        replace hx209_5 := (HB.out.cell (World.block_lt_of_cell? w _ hx209_5)).trans hx209_5
        replace hx209_6 := (HB.out.cell (World.block_lt_of_cell? w _ hx209_6)).trans hx209_6
        replace hx209_7 := (HB.out.cell (World.block_lt_of_cell? w _ hx209_7)).trans hx209_7
        replace hx209_8 := (HB.out.cell (World.block_lt_of_cell? w _ hx209_8)).trans hx209_8
        replace p209 := eq_true p209
        replace q209 := eq_true q209
        have p210 : 0 ≤ (x6_1 : Int) := of_decide_eq_true (by first | (with_reducible assumption) | assumption)
        have q210 : x6_1 < (l0.length : Int) := of_decide_eq_true (by first | (with_reducible assumption) | assumption)
        obtain ⟨ad210, e210, hx210_0, hx210_1, hx210_2, hx210_3, hx210_4, hx210_5, hx210_6, hx210_7, hx210_8⟩ := at_T73 HR0.out x6_1 p210 q210
        (try rw [← Nbq10.out] at hx210_1)
        (try rw [← Nbq10.out] at hx210_8)
        obtain rfl : ad209 = ad210 := (by injection e210)
        replace hx210_0 := (HB.out.cell (World.block_lt_of_cell? w _ hx210_0)).trans hx210_0
        replace hx210_1 := (HB.out.cell (World.block_lt_of_cell? w _ hx210_1)).trans hx210_1
        replace hx210_2 := (HB.out.cell (World.block_lt_of_cell? w _ hx210_2)).trans hx210_2
        replace hx210_3 := (HB.out.cell (World.block_lt_of_cell? w _ hx210_3)).trans hx210_3
        replace hx210_4 := (HB.out.cell (World.block_lt_of_cell? w _ hx210_4)).trans hx210_4
        replace hx210_5 := (HB.out.cell (World.block_lt_of_cell? w _ hx210_5)).trans hx210_5
        replace hx210_6 := (HB.out.cell (World.block_lt_of_cell? w _ hx210_6)).trans hx210_6
        replace hx210_7 := (HB.out.cell (World.block_lt_of_cell? w _ hx210_7)).trans hx210_7
        replace hx210_8 := (HB.out.cell (World.block_lt_of_cell? w _ hx210_8)).trans hx210_8
        replace p210 := eq_true p210
        replace q210 := eq_true q210
        try go_wp2
        have n0_ := Aside0.mk (Kd.R_drew HO_209000.out)
        have n1_ := Aside0.mk (Kd.R_drew HO_209001.out)
        have n2_ := Aside0.mk (blk_drew BK207.out)
        have n3_ := Aside0.mk (blk_drew BK208.out)
        have n4_ := Aside0.mk (below_drew1 HB.out)
        clear HO_209000
        clear HO_209001
        clear BK207
        clear BK208
        clear HB
        have HO_209000 := n0_
        have HO_209001 := n1_
        have BK207 := n2_
        have BK208 := n3_
        have HB := n4_
        clear n0_ n1_ n2_ n3_ n4_
        have p215 : 0 ≤ (x6_1 : Int) := of_decide_eq_true (by first | (with_reducible assumption) | assumption)
        have q215 : x6_1 < (l0.length : Int) := of_decide_eq_true (by first | (with_reducible assumption) | assumption)
        obtain ⟨ad215, e215, hx215_0, hx215_1, hx215_2, hx215_3, hx215_4, hx215_5, hx215_6, hx215_7, hx215_8⟩ := at_T73 HR0.out x6_1 p215 q215
        have hw215_8 := hx215_8
        have hw215_7 := hx215_7
        have hw215_6 := hx215_6
        have hw215_5 := hx215_5
        have hw215_4 := hx215_4
        have hw215_3 := hx215_3
        have hw215_2 := hx215_2
        have hw215_1 := hx215_1
        have hw215_0 := hx215_0
        (try rw [← Nbq10.out] at hx215_1)
        (try rw [← Nbq10.out] at hw215_1)
        (try rw [← Nbq10.out] at hx215_8)
        (try rw [← Nbq10.out] at hw215_8)
        obtain rfl : ad209 = ad215 := (by injection e215)
        replace hx215_0 := (HB.out.cell (World.block_lt_of_cell? w _ hx215_0)).trans hx215_0
        replace hx215_1 := (HB.out.cell (World.block_lt_of_cell? w _ hx215_1)).trans hx215_1
        replace hx215_2 := (HB.out.cell (World.block_lt_of_cell? w _ hx215_2)).trans hx215_2
        replace hx215_3 := (HB.out.cell (World.block_lt_of_cell? w _ hx215_3)).trans hx215_3
        replace hx215_4 := (HB.out.cell (World.block_lt_of_cell? w _ hx215_4)).trans hx215_4
        replace hx215_5 := (HB.out.cell (World.block_lt_of_cell? w _ hx215_5)).trans hx215_5
        replace hx215_6 := (HB.out.cell (World.block_lt_of_cell? w _ hx215_6)).trans hx215_6
        replace hx215_7 := (HB.out.cell (World.block_lt_of_cell? w _ hx215_7)).trans hx215_7
        replace hx215_8 := (HB.out.cell (World.block_lt_of_cell? w _ hx215_8)).trans hx215_8
        replace p215 := eq_true p215
        replace q215 := eq_true q215
        refine start_ (n := 10) (S := fun w' => w'.cell? ⟨gb208, 0, none⟩ = some (u209000) ∧ w'.cell? ⟨gb208, 1, none⟩ = some (u209001) ∧ w'.cell? ⟨gb208, 2, none⟩ = some (.int .i64 0) ∧ w'.cell? (ad209.add ((x6_1).toNat * 9)) = some (.int .i64 ((rd_T73 l0 x6_1).f0)) ∧ w'.cell? ⟨(ad209.add ((x6_1).toNat * 9)).block, (ad209.add ((x6_1).toNat * 9)).off + 1, none⟩ = some (.bool (false)) ∧ w'.cell? ⟨(ad209.add ((x6_1).toNat * 9)).block, (ad209.add ((x6_1).toNat * 9)).off + 2, none⟩ = some (.int .i64 ((rd_T73 l0 x6_1).f2.f0)) ∧ w'.cell? ⟨(ad209.add ((x6_1).toNat * 9)).block, (ad209.add ((x6_1).toNat * 9)).off + 3, none⟩ = some (.int .i64 ((rd_T73 l0 x6_1).f2.f1)) ∧ w'.cell? ⟨(ad209.add ((x6_1).toNat * 9)).block, (ad209.add ((x6_1).toNat * 9)).off + 4, none⟩ = some (.int .i64 ((rd_T73 l0 x6_1).f2.f2)) ∧ w'.cell? ⟨(ad209.add ((x6_1).toNat * 9)).block, (ad209.add ((x6_1).toNat * 9)).off + 5, none⟩ = some (.int .i64 ((rd_T73 l0 x6_1).f2.f3)) ∧ w'.cell? ⟨(ad209.add ((x6_1).toNat * 9)).block, (ad209.add ((x6_1).toNat * 9)).off + 6, none⟩ = some (.int .i64 ((rd_T73 l0 x6_1).f2.f4)) ∧ w'.cell? ⟨(ad209.add ((x6_1).toNat * 9)).block, (ad209.add ((x6_1).toNat * 9)).off + 7, none⟩ = some (.int .i64 ((rd_T73 l0 x6_1).f2.f5)) ∧ w'.cell? ⟨(ad209.add ((x6_1).toNat * 9)).block, (ad209.add ((x6_1).toNat * 9)).off + 8, none⟩ = some (.bool ((rd_T73 l0 x6_1).f2.f6))) (ds := [9]) #[false, false, false, false, false, false, false, false, false, false] (by kernel_rfl) rfl rfl ⟨(blk_cell BK208.out 0).trans rfl, (blk_cell BK208.out 1).trans rfl, (blk_cell BK208.out 2).trans rfl, ((HB.out.cell (World.block_lt_of_cell? w _ hw215_0)).trans hw215_0), ((HB.out.cell (World.block_lt_of_cell? w _ hw215_1)).trans hw215_1), ((HB.out.cell (World.block_lt_of_cell? w _ hw215_2)).trans hw215_2), ((HB.out.cell (World.block_lt_of_cell? w _ hw215_3)).trans hw215_3), ((HB.out.cell (World.block_lt_of_cell? w _ hw215_4)).trans hw215_4), ((HB.out.cell (World.block_lt_of_cell? w _ hw215_5)).trans hw215_5), ((HB.out.cell (World.block_lt_of_cell? w _ hw215_6)).trans hw215_6), ((HB.out.cell (World.block_lt_of_cell? w _ hw215_7)).trans hw215_7), ((HB.out.cell (World.block_lt_of_cell? w _ hw215_8)).trans hw215_8)⟩ (fun hHeld => ?_); refine with_tabW spec_l06Sweep.tab7 spec_l06Sweep.bits7 (fun HT_ HW_ => ?_)
        generalize wr.drew = w18 at HO_209000 HO_209001 BK207 BK208 HB hx215_0 hx215_1 hx215_2 hx215_3 hx215_4 hx215_5 hx215_6 hx215_7 hx215_8 hHeld ⊢
        refine pure_ (i := 0) (N := some 38) (v := ?_) (a' := ?_) #[true, false, false, false, false, false, false, false, false, false] rfl rfl (any_of HT_.out (by kernel_rfl)) (fun _ _ _ h => h) (Or.inl ⟨by rfl, ?_⟩) ?_ ?_
        rotate_left
        ·intro w'
         go_simp
         with_reducible rfl
        rotate_left
        ·simp only [Act.put, List.setIfInBounds_toArray, List.set_cons_zero, List.set_cons_succ, i64_w, i32_w]
         rfl
        refine pure_ (i := 2) (N := some 40) (v := ?_) (a' := ?_) #[true, false, true, false, false, false, false, false, false, false] rfl rfl (any_of HT_.out (by kernel_rfl)) (fun _ _ _ h => h) (Or.inl ⟨by rfl, ?_⟩) ?_ ?_
        rotate_left
        ·intro w'
         go_simp
         with_reducible rfl
        rotate_left
        ·simp only [Act.put, List.setIfInBounds_toArray, List.set_cons_zero, List.set_cons_succ, i64_w, i32_w]
         rfl
        refine pure_ (i := 3) (N := some 41) (v := ?_) (a' := ?_) #[true, false, true, true, false, false, false, false, false, false] rfl rfl (any_of HT_.out (by kernel_rfl)) (fun _ _ _ h => h) (Or.inl ⟨by rfl, ?_⟩) ?_ ?_
        rotate_left
        ·intro w'
         go_simp
         with_reducible rfl
        rotate_left
        ·simp only [Act.put, List.setIfInBounds_toArray, List.set_cons_zero, List.set_cons_succ, i64_w, i32_w]
         rfl
        refine pure_ (i := 4) (N := some 42) (v := ?_) (a' := ?_) #[true, false, true, true, true, false, false, false, false, false] rfl rfl (any_of HT_.out (by kernel_rfl)) (fun _ _ _ h => h) (Or.inl ⟨by rfl, ?_⟩) ?_ ?_
        rotate_left
        ·intro w'
         go_simp
         with_reducible rfl
        rotate_left
        ·simp only [Act.put, List.setIfInBounds_toArray, List.set_cons_zero, List.set_cons_succ, i64_w, i32_w]
         rfl
        refine take_ (i := 1) (N := some 39) (v := ?_) (a' := ?_) #[true, true, true, true, true, false, false, false, false, false] rfl rfl (take_ofW HT_.out HW_.out (by kernel_rfl)) (fun _ _ _ h => h) (Or.inl ⟨by rfl, ?_⟩) hHeld ?_ ?_
        rotate_left
        ·rintro w' ⟨s0, s1, s2, s3, s4, s5, s6, s7, s8, s9, s10, s11⟩
         go_simp
         with_reducible rfl
        rotate_left
        ·simp only [Act.put, List.setIfInBounds_toArray, List.set_cons_zero, List.set_cons_succ, i64_w, i32_w]
         rfl
        refine take_ (i := 5) (N := some 43) (v := ?_) (a' := ?_) #[true, true, true, true, true, true, false, false, false, false] rfl rfl (take_ofW HT_.out HW_.out (by kernel_rfl)) (fun _ _ _ h => h) (Or.inl ⟨by rfl, ?_⟩) hHeld ?_ ?_
        rotate_left
        ·rintro w' ⟨s0, s1, s2, s3, s4, s5, s6, s7, s8, s9, s10, s11⟩
         go_simp
         with_reducible rfl
        rotate_left
        ·simp only [Act.put, List.setIfInBounds_toArray, List.set_cons_zero, List.set_cons_succ, i64_w, i32_w]
         rfl
        refine one_ (i := 6) (N := some 44) #[true, true, true, true, true, true, true, false, false, false] rfl rfl (one_of HT_.out (by kernel_rfl)) (by decide) (fun K hK => ?_)
        refine value_ (w1 := ?_) (v := ?_) (by rfl) rfl ?_ ?_
        rotate_left 2
        ·go_simp
         constructor
         ·rfl
         ·rfl
        refine hK.out _ _ ⟨(blk_cell (blk_alloc BK208.out _) 0).trans rfl, (blk_cell (blk_alloc BK208.out _) 1).trans rfl, (blk_cell (blk_alloc BK208.out _) 2).trans rfl, (World.cell?_alloc_lt _ _ _ (World.block_lt_of_cell? _ _ (((HB.out.cell (World.block_lt_of_cell? w _ hw215_0)).trans hw215_0)))).trans (((HB.out.cell (World.block_lt_of_cell? w _ hw215_0)).trans hw215_0)), (World.cell?_alloc_lt _ _ _ (World.block_lt_of_cell? _ _ (((HB.out.cell (World.block_lt_of_cell? w _ hw215_1)).trans hw215_1)))).trans (((HB.out.cell (World.block_lt_of_cell? w _ hw215_1)).trans hw215_1)), (World.cell?_alloc_lt _ _ _ (World.block_lt_of_cell? _ _ (((HB.out.cell (World.block_lt_of_cell? w _ hw215_2)).trans hw215_2)))).trans (((HB.out.cell (World.block_lt_of_cell? w _ hw215_2)).trans hw215_2)), (World.cell?_alloc_lt _ _ _ (World.block_lt_of_cell? _ _ (((HB.out.cell (World.block_lt_of_cell? w _ hw215_3)).trans hw215_3)))).trans (((HB.out.cell (World.block_lt_of_cell? w _ hw215_3)).trans hw215_3)), (World.cell?_alloc_lt _ _ _ (World.block_lt_of_cell? _ _ (((HB.out.cell (World.block_lt_of_cell? w _ hw215_4)).trans hw215_4)))).trans (((HB.out.cell (World.block_lt_of_cell? w _ hw215_4)).trans hw215_4)), (World.cell?_alloc_lt _ _ _ (World.block_lt_of_cell? _ _ (((HB.out.cell (World.block_lt_of_cell? w _ hw215_5)).trans hw215_5)))).trans (((HB.out.cell (World.block_lt_of_cell? w _ hw215_5)).trans hw215_5)), (World.cell?_alloc_lt _ _ _ (World.block_lt_of_cell? _ _ (((HB.out.cell (World.block_lt_of_cell? w _ hw215_6)).trans hw215_6)))).trans (((HB.out.cell (World.block_lt_of_cell? w _ hw215_6)).trans hw215_6)), (World.cell?_alloc_lt _ _ _ (World.block_lt_of_cell? _ _ (((HB.out.cell (World.block_lt_of_cell? w _ hw215_7)).trans hw215_7)))).trans (((HB.out.cell (World.block_lt_of_cell? w _ hw215_7)).trans hw215_7)), (World.cell?_alloc_lt _ _ _ (World.block_lt_of_cell? _ _ (((HB.out.cell (World.block_lt_of_cell? w _ hw215_8)).trans hw215_8)))).trans (((HB.out.cell (World.block_lt_of_cell? w _ hw215_8)).trans hw215_8))⟩ (fun hHeld => ?_)
        clear hK K
        refine norm_ (a' := ?_) ?_ ?_
        rotate_left
        ·show Act.put _ (some 44) _ = _
         simp only [Act.put, List.setIfInBounds_toArray, List.set_cons_zero, List.set_cons_succ, i64_w, i32_w]
         rfl
        refine one_ (i := 7) (N := some 45) #[true, true, true, true, true, true, true, true, false, false] rfl rfl (one_of HT_.out (by kernel_rfl)) (by decide) (fun K hK => ?_)
        refine Kd.R_append_step k73 (w0 := w) w.heap.size (by rfl) (.tmp 39) (.tmp 44) 26 73 (.agg #[(.int .i64 0), (.bool false), (.int .i64 0), (.int .i64 0), (.int .i64 0), (.int .i64 0), (.int .i64 0), (.int .i64 0), (.bool false)]) 72 rfl Try.underlying26 info73 rfl (by decide) (by omega) u209000 x209000_1 (⟨(rd_T73 l0 x6_1).f0, false, (⟨(rd_T73 l0 x6_1).f2.f0, (rd_T73 l0 x6_1).f2.f1, (rd_T73 l0 x6_1).f2.f2, (rd_T73 l0 x6_1).f2.f3, (rd_T73 l0 x6_1).f2.f4, (rd_T73 l0 x6_1).f2.f5, (rd_T73 l0 x6_1).f2.f6⟩ : S42)⟩ : S73) [.int .i64 ((rd_T73 l0 x6_1).f0), .bool false, .int .i64 ((rd_T73 l0 x6_1).f2.f0), .int .i64 ((rd_T73 l0 x6_1).f2.f1), .int .i64 ((rd_T73 l0 x6_1).f2.f2), .int .i64 ((rd_T73 l0 x6_1).f2.f3), .int .i64 ((rd_T73 l0 x6_1).f2.f4), .int .i64 ((rd_T73 l0 x6_1).f2.f5), .bool ((rd_T73 l0 x6_1).f2.f6)] (fun _ => True) (fun _ => False) rfl rfl ?aP (fun _ hk => hk.elim) ?aF ?aO ?aB ?aS ?aL ?_
        (case aP => exact k73_mkM _ _ _ (⟨(rd_T73 l0 x6_1).f0, false, (⟨(rd_T73 l0 x6_1).f2.f0, (rd_T73 l0 x6_1).f2.f1, (rd_T73 l0 x6_1).f2.f2, (rd_T73 l0 x6_1).f2.f3, (rd_T73 l0 x6_1).f2.f4, (rd_T73 l0 x6_1).f2.f5, (rd_T73 l0 x6_1).f2.f6⟩ : S42)⟩ : S73))
        (case aB => exact (by repeat (first | (with_reducible first | exact HB.out | apply below_alloc | apply pw_below_drewN | apply below_drew1 | refine below_set ?_ GE207.out | refine below_set ?_ GE208.out) | exact HB.out)))
        (case aF => exact (fun _ _ => trivial))
        (case aO => exact (by (with_reducible repeat (first | apply Kd.R_alloc | apply Kd.R_drewN | apply Kd.R_drew)); exact HO_209000.out))
        (case aS => exact (below_size (by repeat (first | (with_reducible first | exact HB.out | apply below_alloc | apply pw_below_drewN | apply below_drew1 | refine below_set ?_ GE207.out | refine below_set ?_ GE208.out) | exact HB.out))))
        (case aL => have := LMc17.out; omega)
        intro v217 w19 ho hb hg hat
        rw [← Ny216.out] at ho
        have n0_ := Aside0.mk (Kd.R_over' (by (with_reducible repeat (first | apply Kd.R_alloc | apply Kd.R_drewN | apply Kd.R_drew)); exact HO_209001.out) (Kd.R_typed (by (with_reducible repeat (first | apply Kd.R_alloc | apply Kd.R_drewN | apply Kd.R_drew)); exact HO_209000.out)) (by decide) hg)
        have n1_ := Aside0.mk (blk_grown (g := gb207) (o := .cells #[.slice none 0 0, .slice none 0 0, .int .i64 0] 34 (0, 0)) (by (with_reducible repeat (first | refine blk_drewN ?_ _ | refine blk_drew ?_ | refine blk_alloc ?_ _)); exact BK207.out) hg (Kd.R_ne HO_209000.out BK207.out (by decide)))
        have n2_ := Aside0.mk (blk_grown (g := gb208) (o := .cells #[u209000, u209001, .int .i64 0] 34 (0, 0)) (by (with_reducible repeat (first | refine blk_drewN ?_ _ | refine blk_drew ?_ | refine blk_alloc ?_ _)); exact BK208.out) hg (Kd.R_ne HO_209000.out BK208.out (by decide)))
        have n3_ := Aside0.mk (hb)
        have n4_ := Aside0.mk (ho)
        clear HO_209001
        clear BK207
        clear BK208
        clear HB
        clear HO_209000
        have HO_209001 := n0_
        have BK207 := n1_
        have BK208 := n2_
        have HB := n3_
        have HO218 := n4_
        clear n0_ n1_ n2_ n3_ n4_
        clear ho hb hg hat
        obtain ⟨Ao20, co20, eo20⟩ := Kd.R_slice HO218.out
        (first | subst eo20 | (injection eo20 with f1_ f2_ f3_; have f4_ := f1_.symm; have f5_ := f3_.symm; clear f1_ f2_ f3_; subst f4_; subst f5_))
        refine hK.out _ _ ⟨(blk_cell BK208.out 0).trans rfl, (blk_cell BK208.out 1).trans rfl, (blk_cell BK208.out 2).trans rfl, ((HB.out.cell (World.block_lt_of_cell? w _ hw215_0)).trans hw215_0), ((HB.out.cell (World.block_lt_of_cell? w _ hw215_1)).trans hw215_1), ((HB.out.cell (World.block_lt_of_cell? w _ hw215_2)).trans hw215_2), ((HB.out.cell (World.block_lt_of_cell? w _ hw215_3)).trans hw215_3), ((HB.out.cell (World.block_lt_of_cell? w _ hw215_4)).trans hw215_4), ((HB.out.cell (World.block_lt_of_cell? w _ hw215_5)).trans hw215_5), ((HB.out.cell (World.block_lt_of_cell? w _ hw215_6)).trans hw215_6), ((HB.out.cell (World.block_lt_of_cell? w _ hw215_7)).trans hw215_7), ((HB.out.cell (World.block_lt_of_cell? w _ hw215_8)).trans hw215_8)⟩ (fun hHeld => ?_)
        clear hK K
        refine norm_ (a' := ?_) ?_ ?_
        rotate_left
        ·show Act.put _ (some 45) _ = _
         simp only [Act.put, List.setIfInBounds_toArray, List.set_cons_zero, List.set_cons_succ, i64_w, i32_w]
         rfl
        refine pure_ (i := 8) (N := some 46) (v := ?_) (a' := ?_) #[true, true, true, true, true, true, true, true, true, false] rfl rfl (any_of HT_.out (by kernel_rfl)) (fun _ _ _ h => h) (Or.inl ⟨by rfl, ?_⟩) ?_ ?_
        rotate_left
        ·intro w'
         go_simp
         with_reducible rfl
        rotate_left
        ·simp only [Act.put, List.setIfInBounds_toArray, List.set_cons_zero, List.set_cons_succ, i64_w, i32_w]
         rfl
        refine last_ (i := 9) (N := none) #[true, true, true, true, true, true, true, true, true, true] rfl rfl (one_of HT_.out (by kernel_rfl)) (by decide) (fun K hK => ?_)
        have hs21 : w19.cell? ⟨gb208, 0, none⟩ = some (u209000) := (blk_cell BK208.out 0).trans rfl
        have hfs21 := blk_frozen BK208.out 0
        have hns21_0 := NB207_208.out
        have hms21_0 := NB208_207.out
        refine skip_ (w1 := ?_) (by rfl) rfl ?_ ?_
        rotate_left
        ·go_simp
         rfl
        refine hK.out _ _ ?_
        clear hK K
        refine done_ (done_of HT_.out (by kernel_rfl)) ?_
        try go_wp2
        go_roundg k1
        case measure => have := HK1.out; omega
        case rel => exact ⟨(wrap64 (x6_1 + 1)), (y216), (x209001_1), (.slice Ao20 y216.length co20), (u209001), (by first | rfl | (simp; done) | (simp [*]; done)), H', ⟨by have := HK1.out; omega⟩, ⟨by (with_reducible repeat (first | apply Kd.R_alloc | apply Kd.R_drewN | apply Kd.R_drew)); exact Kd.R_mono (Kd.R_far (p := ⟨gb208, 0, none⟩) (Kd.R_types HO218.out BK208.out (by decide)) (fun _ hk => hk.2) (.slice Ao20 y216.length co20)) (fun _ hk => trivial)⟩, ⟨by (with_reducible repeat (first | apply Kd.R_alloc | apply Kd.R_drewN | apply Kd.R_drew)); exact Kd.R_mono (Kd.R_far (p := ⟨gb208, 0, none⟩) (Kd.R_types HO_209001.out BK208.out (by decide)) (fun _ hk => hk.2) (.slice Ao20 y216.length co20)) (fun _ hk => trivial)⟩, ⟨by (with_reducible repeat (first | refine blk_drewN ?_ _ | refine blk_drew ?_ | refine blk_alloc ?_ _)); refine blk_far ?_ NB207_208.out _; (with_reducible repeat (first | refine blk_drewN ?_ _ | refine blk_drew ?_ | refine blk_alloc ?_ _)); exact BK207.out⟩, ⟨by (with_reducible repeat (first | refine blk_drewN ?_ _ | refine blk_drew ?_ | refine blk_alloc ?_ _)); refine blk_put (cs := #[u209000, u209001, .int .i64 0]) ?_ 0 _ rfl; (with_reducible repeat (first | refine blk_drewN ?_ _ | refine blk_drew ?_ | refine blk_alloc ?_ _)); exact BK208.out⟩, ⟨by repeat (first | (with_reducible first | exact HB.out | apply below_alloc | apply pw_below_drewN | apply below_drew1 | refine below_set ?_ GE207.out | refine below_set ?_ GE208.out) | exact HB.out)⟩⟩
       ·rw [if_neg c17] at H
        exact absurd H (by simp)
     ·rw [if_neg c9] at H
      have c9b0 : (((rd_T73 l0 x6_1).f0) == a1) = false := beq_eq_false_iff_ne.mpr c9
      have c9b1 : (((rd_T73 l0 x6_1).f0) != a1) = true := bne_iff_ne.mpr c9
      by_cases c22 : x209000_1.length < 1954687338268
      ·rw [if_pos c22] at H
       have LMc22 := Aside0.mk c22
       clear c22
       obtain ⟨y220, hy220⟩ : ∃ y_ : List (S73), y_ = (x209000_1 ++ [(⟨(rd_T73 l0 x6_1).f0, (rd_T73 l0 x6_1).f1, (⟨(rd_T73 l0 x6_1).f2.f0, (rd_T73 l0 x6_1).f2.f1, (rd_T73 l0 x6_1).f2.f2, (rd_T73 l0 x6_1).f2.f3, (rd_T73 l0 x6_1).f2.f4, (rd_T73 l0 x6_1).f2.f5, (rd_T73 l0 x6_1).f2.f6⟩ : S42)⟩ : S73)]) := ⟨_, rfl⟩
       replace H : (spec_l06Sweep.l0 k1 l0 a1 (wrap64 (x6_1 + 1)) y220 x209001_1 0) = some (r1, r2, r3) := by first | (rw [hy220]; with_reducible exact H) | (have H2_ := (Option.bind_some _ _).symm.trans H; rw [hy220]; with_reducible exact H2_) | (have H2_ := (Option.bind_some _ _).symm.trans H; with_reducible exact H2_) | with_reducible exact H | (rw [hy220]; exact H) | exact H
       have Ny220 := Aside0.mk hy220
       clear hy220
       have H' := Aside0.mk H
       clear H
       have p209 : 0 ≤ (x6_1 : Int) := of_decide_eq_true (by first | (with_reducible assumption) | assumption)
       have q209 : x6_1 < (l0.length : Int) := of_decide_eq_true (by first | (with_reducible assumption) | assumption)
       obtain ⟨ad209, e209, hx209_0, hx209_1, hx209_2, hx209_3, hx209_4, hx209_5, hx209_6, hx209_7, hx209_8⟩ := at_T73 HR0.out x6_1 p209 q209
       cases e209
       replace hx209_0 := (HB.out.cell (World.block_lt_of_cell? w _ hx209_0)).trans hx209_0
       replace hx209_1 := (HB.out.cell (World.block_lt_of_cell? w _ hx209_1)).trans hx209_1
       replace hx209_2 := (HB.out.cell (World.block_lt_of_cell? w _ hx209_2)).trans hx209_2
       replace hx209_3 := (HB.out.cell (World.block_lt_of_cell? w _ hx209_3)).trans hx209_3
       replace hx209_4 := (HB.out.cell (World.block_lt_of_cell? w _ hx209_4)).trans hx209_4
       replace hx209_5 := (HB.out.cell (World.block_lt_of_cell? w _ hx209_5)).trans hx209_5
       replace hx209_6 := (HB.out.cell (World.block_lt_of_cell? w _ hx209_6)).trans hx209_6
       replace hx209_7 := (HB.out.cell (World.block_lt_of_cell? w _ hx209_7)).trans hx209_7
       replace hx209_8 := (HB.out.cell (World.block_lt_of_cell? w _ hx209_8)).trans hx209_8
       replace p209 := eq_true p209
       replace q209 := eq_true q209
       try go_wp2
       have n0_ := Aside0.mk (Kd.R_drew HO_209000.out)
       have n1_ := Aside0.mk (Kd.R_drew HO_209001.out)
       have n2_ := Aside0.mk (blk_drew BK207.out)
       have n3_ := Aside0.mk (blk_drew BK208.out)
       have n4_ := Aside0.mk (below_drew1 HB.out)
       clear HO_209000
       clear HO_209001
       clear BK207
       clear BK208
       clear HB
       have HO_209000 := n0_
       have HO_209001 := n1_
       have BK207 := n2_
       have BK208 := n3_
       have HB := n4_
       clear n0_ n1_ n2_ n3_ n4_
       have p219 : 0 ≤ (x6_1 : Int) := of_decide_eq_true (by first | (with_reducible assumption) | assumption)
       have q219 : x6_1 < (l0.length : Int) := of_decide_eq_true (by first | (with_reducible assumption) | assumption)
       obtain ⟨ad219, e219, hx219_0, hx219_1, hx219_2, hx219_3, hx219_4, hx219_5, hx219_6, hx219_7, hx219_8⟩ := at_T73 HR0.out x6_1 p219 q219
       have hw219_8 := hx219_8
       have hw219_7 := hx219_7
       have hw219_6 := hx219_6
       have hw219_5 := hx219_5
       have hw219_4 := hx219_4
       have hw219_3 := hx219_3
       have hw219_2 := hx219_2
       have hw219_1 := hx219_1
       have hw219_0 := hx219_0
       obtain rfl : ad209 = ad219 := (by injection e219)
       replace hx219_0 := (HB.out.cell (World.block_lt_of_cell? w _ hx219_0)).trans hx219_0
       replace hx219_1 := (HB.out.cell (World.block_lt_of_cell? w _ hx219_1)).trans hx219_1
       replace hx219_2 := (HB.out.cell (World.block_lt_of_cell? w _ hx219_2)).trans hx219_2
       replace hx219_3 := (HB.out.cell (World.block_lt_of_cell? w _ hx219_3)).trans hx219_3
       replace hx219_4 := (HB.out.cell (World.block_lt_of_cell? w _ hx219_4)).trans hx219_4
       replace hx219_5 := (HB.out.cell (World.block_lt_of_cell? w _ hx219_5)).trans hx219_5
       replace hx219_6 := (HB.out.cell (World.block_lt_of_cell? w _ hx219_6)).trans hx219_6
       replace hx219_7 := (HB.out.cell (World.block_lt_of_cell? w _ hx219_7)).trans hx219_7
       replace hx219_8 := (HB.out.cell (World.block_lt_of_cell? w _ hx219_8)).trans hx219_8
       replace p219 := eq_true p219
       replace q219 := eq_true q219
       refine start_ (n := 10) (S := fun w' => w'.cell? ⟨gb208, 0, none⟩ = some (u209000) ∧ w'.cell? ⟨gb208, 1, none⟩ = some (u209001) ∧ w'.cell? ⟨gb208, 2, none⟩ = some (.int .i64 0) ∧ w'.cell? (ad209.add ((x6_1).toNat * 9)) = some (.int .i64 ((rd_T73 l0 x6_1).f0)) ∧ w'.cell? ⟨(ad209.add ((x6_1).toNat * 9)).block, (ad209.add ((x6_1).toNat * 9)).off + 1, none⟩ = some (.bool ((rd_T73 l0 x6_1).f1)) ∧ w'.cell? ⟨(ad209.add ((x6_1).toNat * 9)).block, (ad209.add ((x6_1).toNat * 9)).off + 2, none⟩ = some (.int .i64 ((rd_T73 l0 x6_1).f2.f0)) ∧ w'.cell? ⟨(ad209.add ((x6_1).toNat * 9)).block, (ad209.add ((x6_1).toNat * 9)).off + 3, none⟩ = some (.int .i64 ((rd_T73 l0 x6_1).f2.f1)) ∧ w'.cell? ⟨(ad209.add ((x6_1).toNat * 9)).block, (ad209.add ((x6_1).toNat * 9)).off + 4, none⟩ = some (.int .i64 ((rd_T73 l0 x6_1).f2.f2)) ∧ w'.cell? ⟨(ad209.add ((x6_1).toNat * 9)).block, (ad209.add ((x6_1).toNat * 9)).off + 5, none⟩ = some (.int .i64 ((rd_T73 l0 x6_1).f2.f3)) ∧ w'.cell? ⟨(ad209.add ((x6_1).toNat * 9)).block, (ad209.add ((x6_1).toNat * 9)).off + 6, none⟩ = some (.int .i64 ((rd_T73 l0 x6_1).f2.f4)) ∧ w'.cell? ⟨(ad209.add ((x6_1).toNat * 9)).block, (ad209.add ((x6_1).toNat * 9)).off + 7, none⟩ = some (.int .i64 ((rd_T73 l0 x6_1).f2.f5)) ∧ w'.cell? ⟨(ad209.add ((x6_1).toNat * 9)).block, (ad209.add ((x6_1).toNat * 9)).off + 8, none⟩ = some (.bool ((rd_T73 l0 x6_1).f2.f6))) (ds := [9]) #[false, false, false, false, false, false, false, false, false, false] (by kernel_rfl) rfl rfl ⟨(blk_cell BK208.out 0).trans rfl, (blk_cell BK208.out 1).trans rfl, (blk_cell BK208.out 2).trans rfl, ((HB.out.cell (World.block_lt_of_cell? w _ hw219_0)).trans hw219_0), ((HB.out.cell (World.block_lt_of_cell? w _ hw219_1)).trans hw219_1), ((HB.out.cell (World.block_lt_of_cell? w _ hw219_2)).trans hw219_2), ((HB.out.cell (World.block_lt_of_cell? w _ hw219_3)).trans hw219_3), ((HB.out.cell (World.block_lt_of_cell? w _ hw219_4)).trans hw219_4), ((HB.out.cell (World.block_lt_of_cell? w _ hw219_5)).trans hw219_5), ((HB.out.cell (World.block_lt_of_cell? w _ hw219_6)).trans hw219_6), ((HB.out.cell (World.block_lt_of_cell? w _ hw219_7)).trans hw219_7), ((HB.out.cell (World.block_lt_of_cell? w _ hw219_8)).trans hw219_8)⟩ (fun hHeld => ?_); refine with_tabW spec_l06Sweep.tab7 spec_l06Sweep.bits7 (fun HT_ HW_ => ?_)
       generalize wr.drew = w23 at HO_209000 HO_209001 BK207 BK208 HB hx219_0 hx219_1 hx219_2 hx219_3 hx219_4 hx219_5 hx219_6 hx219_7 hx219_8 hHeld ⊢
       refine pure_ (i := 0) (N := some 38) (v := ?_) (a' := ?_) #[true, false, false, false, false, false, false, false, false, false] rfl rfl (any_of HT_.out (by kernel_rfl)) (fun _ _ _ h => h) (Or.inl ⟨by rfl, ?_⟩) ?_ ?_
       rotate_left
       ·intro w'
        go_simp
        with_reducible rfl
       rotate_left
       ·simp only [Act.put, List.setIfInBounds_toArray, List.set_cons_zero, List.set_cons_succ, i64_w, i32_w]
        rfl
       refine pure_ (i := 2) (N := some 40) (v := ?_) (a' := ?_) #[true, false, true, false, false, false, false, false, false, false] rfl rfl (any_of HT_.out (by kernel_rfl)) (fun _ _ _ h => h) (Or.inl ⟨by rfl, ?_⟩) ?_ ?_
       rotate_left
       ·intro w'
        go_simp
        with_reducible rfl
       rotate_left
       ·simp only [Act.put, List.setIfInBounds_toArray, List.set_cons_zero, List.set_cons_succ, i64_w, i32_w]
        rfl
       refine pure_ (i := 3) (N := some 41) (v := ?_) (a' := ?_) #[true, false, true, true, false, false, false, false, false, false] rfl rfl (any_of HT_.out (by kernel_rfl)) (fun _ _ _ h => h) (Or.inl ⟨by rfl, ?_⟩) ?_ ?_
       rotate_left
       ·intro w'
        go_simp
        with_reducible rfl
       rotate_left
       ·simp only [Act.put, List.setIfInBounds_toArray, List.set_cons_zero, List.set_cons_succ, i64_w, i32_w]
        rfl
       refine pure_ (i := 4) (N := some 42) (v := ?_) (a' := ?_) #[true, false, true, true, true, false, false, false, false, false] rfl rfl (any_of HT_.out (by kernel_rfl)) (fun _ _ _ h => h) (Or.inl ⟨by rfl, ?_⟩) ?_ ?_
       rotate_left
       ·intro w'
        go_simp
        with_reducible rfl
       rotate_left
       ·simp only [Act.put, List.setIfInBounds_toArray, List.set_cons_zero, List.set_cons_succ, i64_w, i32_w]
        rfl
       refine take_ (i := 1) (N := some 39) (v := ?_) (a' := ?_) #[true, true, true, true, true, false, false, false, false, false] rfl rfl (take_ofW HT_.out HW_.out (by kernel_rfl)) (fun _ _ _ h => h) (Or.inl ⟨by rfl, ?_⟩) hHeld ?_ ?_
       rotate_left
       ·rintro w' ⟨s0, s1, s2, s3, s4, s5, s6, s7, s8, s9, s10, s11⟩
        go_simp
        with_reducible rfl
       rotate_left
       ·simp only [Act.put, List.setIfInBounds_toArray, List.set_cons_zero, List.set_cons_succ, i64_w, i32_w]
        rfl
       refine take_ (i := 5) (N := some 43) (v := ?_) (a' := ?_) #[true, true, true, true, true, true, false, false, false, false] rfl rfl (take_ofW HT_.out HW_.out (by kernel_rfl)) (fun _ _ _ h => h) (Or.inl ⟨by rfl, ?_⟩) hHeld ?_ ?_
       rotate_left
       ·rintro w' ⟨s0, s1, s2, s3, s4, s5, s6, s7, s8, s9, s10, s11⟩
        go_simp
        with_reducible rfl
       rotate_left
       ·simp only [Act.put, List.setIfInBounds_toArray, List.set_cons_zero, List.set_cons_succ, i64_w, i32_w]
        rfl
       refine one_ (i := 6) (N := some 44) #[true, true, true, true, true, true, true, false, false, false] rfl rfl (one_of HT_.out (by kernel_rfl)) (by decide) (fun K hK => ?_)
       refine value_ (w1 := ?_) (v := ?_) (by rfl) rfl ?_ ?_
       rotate_left 2
       ·go_simp
        constructor
        ·rfl
        ·rfl
       refine hK.out _ _ ⟨(blk_cell (blk_alloc BK208.out _) 0).trans rfl, (blk_cell (blk_alloc BK208.out _) 1).trans rfl, (blk_cell (blk_alloc BK208.out _) 2).trans rfl, (World.cell?_alloc_lt _ _ _ (World.block_lt_of_cell? _ _ (((HB.out.cell (World.block_lt_of_cell? w _ hw219_0)).trans hw219_0)))).trans (((HB.out.cell (World.block_lt_of_cell? w _ hw219_0)).trans hw219_0)), (World.cell?_alloc_lt _ _ _ (World.block_lt_of_cell? _ _ (((HB.out.cell (World.block_lt_of_cell? w _ hw219_1)).trans hw219_1)))).trans (((HB.out.cell (World.block_lt_of_cell? w _ hw219_1)).trans hw219_1)), (World.cell?_alloc_lt _ _ _ (World.block_lt_of_cell? _ _ (((HB.out.cell (World.block_lt_of_cell? w _ hw219_2)).trans hw219_2)))).trans (((HB.out.cell (World.block_lt_of_cell? w _ hw219_2)).trans hw219_2)), (World.cell?_alloc_lt _ _ _ (World.block_lt_of_cell? _ _ (((HB.out.cell (World.block_lt_of_cell? w _ hw219_3)).trans hw219_3)))).trans (((HB.out.cell (World.block_lt_of_cell? w _ hw219_3)).trans hw219_3)), (World.cell?_alloc_lt _ _ _ (World.block_lt_of_cell? _ _ (((HB.out.cell (World.block_lt_of_cell? w _ hw219_4)).trans hw219_4)))).trans (((HB.out.cell (World.block_lt_of_cell? w _ hw219_4)).trans hw219_4)), (World.cell?_alloc_lt _ _ _ (World.block_lt_of_cell? _ _ (((HB.out.cell (World.block_lt_of_cell? w _ hw219_5)).trans hw219_5)))).trans (((HB.out.cell (World.block_lt_of_cell? w _ hw219_5)).trans hw219_5)), (World.cell?_alloc_lt _ _ _ (World.block_lt_of_cell? _ _ (((HB.out.cell (World.block_lt_of_cell? w _ hw219_6)).trans hw219_6)))).trans (((HB.out.cell (World.block_lt_of_cell? w _ hw219_6)).trans hw219_6)), (World.cell?_alloc_lt _ _ _ (World.block_lt_of_cell? _ _ (((HB.out.cell (World.block_lt_of_cell? w _ hw219_7)).trans hw219_7)))).trans (((HB.out.cell (World.block_lt_of_cell? w _ hw219_7)).trans hw219_7)), (World.cell?_alloc_lt _ _ _ (World.block_lt_of_cell? _ _ (((HB.out.cell (World.block_lt_of_cell? w _ hw219_8)).trans hw219_8)))).trans (((HB.out.cell (World.block_lt_of_cell? w _ hw219_8)).trans hw219_8))⟩ (fun hHeld => ?_)
       clear hK K
       refine norm_ (a' := ?_) ?_ ?_
       rotate_left
       ·show Act.put _ (some 44) _ = _
        simp only [Act.put, List.setIfInBounds_toArray, List.set_cons_zero, List.set_cons_succ, i64_w, i32_w]
        rfl
       refine one_ (i := 7) (N := some 45) #[true, true, true, true, true, true, true, true, false, false] rfl rfl (one_of HT_.out (by kernel_rfl)) (by decide) (fun K hK => ?_)
       refine Kd.R_append_step k73 (w0 := w) w.heap.size (by rfl) (.tmp 39) (.tmp 44) 26 73 (.agg #[(.int .i64 0), (.bool false), (.int .i64 0), (.int .i64 0), (.int .i64 0), (.int .i64 0), (.int .i64 0), (.int .i64 0), (.bool false)]) 72 rfl Try.underlying26 info73 rfl (by decide) (by omega) u209000 x209000_1 (⟨(rd_T73 l0 x6_1).f0, (rd_T73 l0 x6_1).f1, (⟨(rd_T73 l0 x6_1).f2.f0, (rd_T73 l0 x6_1).f2.f1, (rd_T73 l0 x6_1).f2.f2, (rd_T73 l0 x6_1).f2.f3, (rd_T73 l0 x6_1).f2.f4, (rd_T73 l0 x6_1).f2.f5, (rd_T73 l0 x6_1).f2.f6⟩ : S42)⟩ : S73) [.int .i64 ((rd_T73 l0 x6_1).f0), .bool ((rd_T73 l0 x6_1).f1), .int .i64 ((rd_T73 l0 x6_1).f2.f0), .int .i64 ((rd_T73 l0 x6_1).f2.f1), .int .i64 ((rd_T73 l0 x6_1).f2.f2), .int .i64 ((rd_T73 l0 x6_1).f2.f3), .int .i64 ((rd_T73 l0 x6_1).f2.f4), .int .i64 ((rd_T73 l0 x6_1).f2.f5), .bool ((rd_T73 l0 x6_1).f2.f6)] (fun _ => True) (fun _ => False) rfl rfl ?aP (fun _ hk => hk.elim) ?aF ?aO ?aB ?aS ?aL ?_
       (case aP => exact k73_mkM _ _ _ (⟨(rd_T73 l0 x6_1).f0, (rd_T73 l0 x6_1).f1, (⟨(rd_T73 l0 x6_1).f2.f0, (rd_T73 l0 x6_1).f2.f1, (rd_T73 l0 x6_1).f2.f2, (rd_T73 l0 x6_1).f2.f3, (rd_T73 l0 x6_1).f2.f4, (rd_T73 l0 x6_1).f2.f5, (rd_T73 l0 x6_1).f2.f6⟩ : S42)⟩ : S73))
       (case aB => exact (by repeat (first | (with_reducible first | exact HB.out | apply below_alloc | apply pw_below_drewN | apply below_drew1 | refine below_set ?_ GE207.out | refine below_set ?_ GE208.out) | exact HB.out)))
       (case aF => exact (fun _ _ => trivial))
       (case aO => exact (by (with_reducible repeat (first | apply Kd.R_alloc | apply Kd.R_drewN | apply Kd.R_drew)); exact HO_209000.out))
       (case aS => exact (below_size (by repeat (first | (with_reducible first | exact HB.out | apply below_alloc | apply pw_below_drewN | apply below_drew1 | refine below_set ?_ GE207.out | refine below_set ?_ GE208.out) | exact HB.out))))
       (case aL => have := LMc22.out; omega)
       intro v221 w24 ho hb hg hat
       rw [← Ny220.out] at ho
       have n0_ := Aside0.mk (Kd.R_over' (by (with_reducible repeat (first | apply Kd.R_alloc | apply Kd.R_drewN | apply Kd.R_drew)); exact HO_209001.out) (Kd.R_typed (by (with_reducible repeat (first | apply Kd.R_alloc | apply Kd.R_drewN | apply Kd.R_drew)); exact HO_209000.out)) (by decide) hg)
       have n1_ := Aside0.mk (blk_grown (g := gb207) (o := .cells #[.slice none 0 0, .slice none 0 0, .int .i64 0] 34 (0, 0)) (by (with_reducible repeat (first | refine blk_drewN ?_ _ | refine blk_drew ?_ | refine blk_alloc ?_ _)); exact BK207.out) hg (Kd.R_ne HO_209000.out BK207.out (by decide)))
       have n2_ := Aside0.mk (blk_grown (g := gb208) (o := .cells #[u209000, u209001, .int .i64 0] 34 (0, 0)) (by (with_reducible repeat (first | refine blk_drewN ?_ _ | refine blk_drew ?_ | refine blk_alloc ?_ _)); exact BK208.out) hg (Kd.R_ne HO_209000.out BK208.out (by decide)))
       have n3_ := Aside0.mk (hb)
       have n4_ := Aside0.mk (ho)
       clear HO_209001
       clear BK207
       clear BK208
       clear HB
       clear HO_209000
       have HO_209001 := n0_
       have BK207 := n1_
       have BK208 := n2_
       have HB := n3_
       have HO222 := n4_
       clear n0_ n1_ n2_ n3_ n4_
       clear ho hb hg hat
       obtain ⟨Ao25, co25, eo25⟩ := Kd.R_slice HO222.out
       (first | subst eo25 | (injection eo25 with f1_ f2_ f3_; have f4_ := f1_.symm; have f5_ := f3_.symm; clear f1_ f2_ f3_; subst f4_; subst f5_))
       refine hK.out _ _ ⟨(blk_cell BK208.out 0).trans rfl, (blk_cell BK208.out 1).trans rfl, (blk_cell BK208.out 2).trans rfl, ((HB.out.cell (World.block_lt_of_cell? w _ hw219_0)).trans hw219_0), ((HB.out.cell (World.block_lt_of_cell? w _ hw219_1)).trans hw219_1), ((HB.out.cell (World.block_lt_of_cell? w _ hw219_2)).trans hw219_2), ((HB.out.cell (World.block_lt_of_cell? w _ hw219_3)).trans hw219_3), ((HB.out.cell (World.block_lt_of_cell? w _ hw219_4)).trans hw219_4), ((HB.out.cell (World.block_lt_of_cell? w _ hw219_5)).trans hw219_5), ((HB.out.cell (World.block_lt_of_cell? w _ hw219_6)).trans hw219_6), ((HB.out.cell (World.block_lt_of_cell? w _ hw219_7)).trans hw219_7), ((HB.out.cell (World.block_lt_of_cell? w _ hw219_8)).trans hw219_8)⟩ (fun hHeld => ?_)
       clear hK K
       refine norm_ (a' := ?_) ?_ ?_
       rotate_left
       ·show Act.put _ (some 45) _ = _
        simp only [Act.put, List.setIfInBounds_toArray, List.set_cons_zero, List.set_cons_succ, i64_w, i32_w]
        rfl
       refine pure_ (i := 8) (N := some 46) (v := ?_) (a' := ?_) #[true, true, true, true, true, true, true, true, true, false] rfl rfl (any_of HT_.out (by kernel_rfl)) (fun _ _ _ h => h) (Or.inl ⟨by rfl, ?_⟩) ?_ ?_
       rotate_left
       ·intro w'
        go_simp
        with_reducible rfl
       rotate_left
       ·simp only [Act.put, List.setIfInBounds_toArray, List.set_cons_zero, List.set_cons_succ, i64_w, i32_w]
        rfl
       refine last_ (i := 9) (N := none) #[true, true, true, true, true, true, true, true, true, true] rfl rfl (one_of HT_.out (by kernel_rfl)) (by decide) (fun K hK => ?_)
       have hs26 : w24.cell? ⟨gb208, 0, none⟩ = some (u209000) := (blk_cell BK208.out 0).trans rfl
       have hfs26 := blk_frozen BK208.out 0
       have hns26_0 := NB207_208.out
       have hms26_0 := NB208_207.out
       refine skip_ (w1 := ?_) (by rfl) rfl ?_ ?_
       rotate_left
       ·go_simp
        rfl
       refine hK.out _ _ ?_
       clear hK K
       refine done_ (done_of HT_.out (by kernel_rfl)) ?_
       try go_wp2
       go_roundg k1
       case measure => have := HK1.out; omega
       case rel => exact ⟨(wrap64 (x6_1 + 1)), (y220), (x209001_1), (.slice Ao25 y220.length co25), (u209001), (by first | rfl | (simp; done) | (simp [*]; done)), H', ⟨by have := HK1.out; omega⟩, ⟨by (with_reducible repeat (first | apply Kd.R_alloc | apply Kd.R_drewN | apply Kd.R_drew)); exact Kd.R_mono (Kd.R_far (p := ⟨gb208, 0, none⟩) (Kd.R_types HO222.out BK208.out (by decide)) (fun _ hk => hk.2) (.slice Ao25 y220.length co25)) (fun _ hk => trivial)⟩, ⟨by (with_reducible repeat (first | apply Kd.R_alloc | apply Kd.R_drewN | apply Kd.R_drew)); exact Kd.R_mono (Kd.R_far (p := ⟨gb208, 0, none⟩) (Kd.R_types HO_209001.out BK208.out (by decide)) (fun _ hk => hk.2) (.slice Ao25 y220.length co25)) (fun _ hk => trivial)⟩, ⟨by (with_reducible repeat (first | refine blk_drewN ?_ _ | refine blk_drew ?_ | refine blk_alloc ?_ _)); refine blk_far ?_ NB207_208.out _; (with_reducible repeat (first | refine blk_drewN ?_ _ | refine blk_drew ?_ | refine blk_alloc ?_ _)); exact BK207.out⟩, ⟨by (with_reducible repeat (first | refine blk_drewN ?_ _ | refine blk_drew ?_ | refine blk_alloc ?_ _)); refine blk_put (cs := #[u209000, u209001, .int .i64 0]) ?_ 0 _ rfl; (with_reducible repeat (first | refine blk_drewN ?_ _ | refine blk_drew ?_ | refine blk_alloc ?_ _)); exact BK208.out⟩, ⟨by repeat (first | (with_reducible first | exact HB.out | apply below_alloc | apply pw_below_drewN | apply below_drew1 | refine below_set ?_ GE207.out | refine below_set ?_ GE208.out) | exact HB.out)⟩⟩
      ·rw [if_neg c22] at H
       exact absurd H (by simp)
    ·rw [if_neg c8] at H
     exact absurd H (by simp)
   ·rw [if_neg c7] at H
    have c7b0 : decide (x6_1 < (l0.length : Int)) = false := decide_eq_false c7
    clear c7
    simp only [Option.some.injEq, Prod.mk.injEq] at H
    obtain ⟨rfl, rfl, rfl⟩ := H
    have hnb27 := NB208_207.out
    have hnc27 := NB207_208.out
    have hcz28_0 : wr.cell? ⟨gb208, 0, none⟩ = some (u209000) := (blk_cell BK208.out 0).trans rfl
    have hcz28_1 : wr.cell? ⟨gb208, 1, none⟩ = some (u209001) := (blk_cell BK208.out 1).trans rfl
    have hcz28_2 : wr.cell? ⟨gb208, 2, none⟩ = some (.int .i64 0) := (blk_cell BK208.out 2).trans rfl
    have hfz28_0 := blk_frozen BK208.out 0
    have hfz28_1 := blk_frozen BK208.out 1
    have hfz28_2 := blk_frozen BK208.out 2
    obtain ⟨Ao29, co29, eo29⟩ := Kd.R_slice HO_209000.out
    subst eo29
    have hcz30_0 : wr.cell? ⟨gb207, 0, none⟩ = some (.slice none 0 0) := (blk_cell BK207.out 0).trans rfl
    have hcz30_1 : wr.cell? ⟨gb207, 1, none⟩ = some (.slice none 0 0) := (blk_cell BK207.out 1).trans rfl
    have hcz30_2 : wr.cell? ⟨gb207, 2, none⟩ = some (.int .i64 0) := (blk_cell BK207.out 2).trans rfl
    have hfz30_0 := blk_frozen BK207.out 0
    have hfz30_1 := blk_frozen BK207.out 1
    have hfz30_2 := blk_frozen BK207.out 2
    obtain ⟨Ao31, co31, eo31⟩ := Kd.R_slice HO_209001.out
    subst eo31
    go_wp2
    refine bodyPost_ret (results_cell_row rfl _ _ gb207 34 #[.slice Ao29 x209000_1.length co29, .slice Ao31 x209001_1.length co31, .int .i64 0] (0, 0) _ rfl (by (with_reducible repeat (first | refine blk_drewN ?_ _ | refine blk_drew ?_ | refine blk_alloc ?_ _)); refine blk_put (cs := #[.slice Ao29 x209000_1.length co29, .slice Ao31 x209001_1.length co31, .int .i64 0]) ?_ 2 _ rfl; (with_reducible repeat (first | refine blk_drewN ?_ _ | refine blk_drew ?_ | refine blk_alloc ?_ _)); refine blk_put (cs := #[.slice Ao29 x209000_1.length co29, .slice none 0 0, .int .i64 0]) ?_ 1 _ rfl; (with_reducible repeat (first | refine blk_drewN ?_ _ | refine blk_drew ?_ | refine blk_alloc ?_ _)); refine blk_put (cs := #[.slice none 0 0, .slice none 0 0, .int .i64 0]) ?_ 0 _ rfl; (with_reducible repeat (first | refine blk_drewN ?_ _ | refine blk_drew ?_ | refine blk_alloc ?_ _)); exact BK207.out) Try.underlying34 rfl (by kernel_rfl)) rfl ?_
    exact ⟨_, _, by first | rfl | (simp [errW_none, errW_some] <;> rfl) | (simp [*, errW_none, errW_some] <;> rfl), by (with_reducible repeat (first | apply Kd.R_alloc | apply Kd.R_drewN | apply Kd.R_drew)); exact Kd.R_mono (Kd.R_far (p := ⟨gb207, 2, none⟩) (Kd.R_far (p := ⟨gb207, 1, none⟩) (Kd.R_far (p := ⟨gb207, 0, none⟩) (Kd.R_types HO_209000.out BK207.out (by decide)) (fun _ hk => hk.2) (.slice Ao29 x209000_1.length co29)) (fun _ hk => hk.2) (.slice Ao31 x209001_1.length co31)) (fun _ hk => hk.2) (.int .i64 0)) (fun _ hk => trivial), by (with_reducible repeat (first | apply Kd.R_alloc | apply Kd.R_drewN | apply Kd.R_drew)); exact Kd.R_mono (Kd.R_far (p := ⟨gb207, 2, none⟩) (Kd.R_far (p := ⟨gb207, 1, none⟩) (Kd.R_far (p := ⟨gb207, 0, none⟩) (Kd.R_types HO_209001.out BK207.out (by decide)) (fun _ hk => hk.2) (.slice Ao29 x209000_1.length co29)) (fun _ hk => hk.2) (.slice Ao31 x209001_1.length co31)) (fun _ hk => hk.2) (.int .i64 0)) (fun _ hk => trivial), by repeat (first | (with_reducible first | exact HB.out | apply below_alloc | apply pw_below_drewN | apply below_drew1 | refine below_set ?_ GE207.out | refine below_set ?_ GE208.out) | exact HB.out)⟩
end Go.Proofs.Ytmgmaflfednngaa.PFnExactRibSweep
