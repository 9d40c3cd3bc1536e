-- A copy, by trim.py of this session's wip/gen, of a text of this claim, without what the row does not reach and without comments: not an official print.
import Derived.Test.YtmgmaflfednngaaZExactRibStalePFnExactRibStalex0
import Derived.Test.YtmgmaflfednngaaZExactRibStalePFnExactRibStalex3
import Derived.Test.YtmgmaflfednngaaZExactRibStalePFnExactRibStalex5
namespace Go.Proofs.Ytmgmaflfednngaa.PFnExactRibStale
open Go.RowKit Go.Proofs.YtmgmaflfednngaaW.PrintWords Go.Proofs.YtmgmaflfednngaaW.PrintLast Go.Proofs.YtmgmaflfednngaaW.PrintMore
attribute [local go_sem] max2_int min2_int max_two min_two max_three min_three max_four min_four   -- for this text's walks alone
set_option linter.unusedVariables false
set_option linter.unusedSimpArgs false
def spec_l06Ill.f (a0 : Int) : Option ((List (S73)) × (List (S42)) × Int) := some (([] : List (S73)), ([] : List (S42)), a0)
set_option maxHeartbeats 8000000 in
set_option maxRecDepth 100000 in
theorem spec_l06Ill.calls (a0 : Int) (r1 : List (S73)) (r2 : List (S42)) (r3 : Int) (w : World) (h : spec_l06Ill.f a0 = some (r1, r2, r3)) :
  Calls Try.prog 61 #[.int .i64 a0] w fun e w' => ∃ v0_ v1_ : Value, e = .returned (.agg #[v0_, v1_, .int .i64 r3]) ∧ Kd.R k73 73 w' w.heap.size (fun _ => True) v0_ r1 ∧ Kd.R k42 42 w' w.heap.size (fun _ => True) v1_ r2 ∧ Below w.heap.size w w' := by
 have hu34 := Try.underlying34
 have HB := Aside0.mk (Below.refl w.heap.size w)
 have H : (some (([] : List (S73)), ([] : List (S42)), a0)) = some (r1, r2, r3) := h
 clear h
 simp only [Option.some.injEq, Prod.mk.injEq] at H
 obtain ⟨rfl, rfl, rfl⟩ := H
 go_enter Try.func61, Try.ntmps61
 go_wp2_with (first | ((with_reducible refine gate_dst (N := 2) rfl ?_); refine box_event ?hg (N := 2) ?hd (cs := #[.slice none 0 0, .slice none 0 0, .int .i64 0]) (t := 34) ?hr ?_; (case hd => rfl); (case hg => rfl); (case hr => first | (go_simp; done) | (go_simp; rfl)); intro gb168 hg w2 hbox hb; have n0_ := Aside0.mk (below_step (by repeat (first | (with_reducible first | exact HB.out | apply below_alloc | apply pw_below_drewN | apply below_drew1) | exact HB.out)) hb); have n1_ := Aside0.mk (hbox); have n2_ := Aside0.mk ((by rw [hg]; exact (below_size (by repeat (first | (with_reducible first | exact HB.out | apply below_alloc | apply pw_below_drewN | apply below_drew1) | exact HB.out))) : w.heap.size ≤ gb168)); have n3_ := Aside0.mk ((by rw [hg]; exact (below_size (by repeat (first | (with_reducible first | exact HB.out | apply below_alloc | apply pw_below_drewN | apply below_drew1) | exact HB.out))) : w.heap.size ≤ gb168)); clear HB; have HB := n0_; have BK168 := n1_; have GW168 := n2_; have GE168 := n3_; clear n0_ n1_ n2_ n3_; clear hb hbox hg; have hcz3_0 : w2.cell? ⟨gb168, 0, none⟩ = some (.slice none 0 0) := (blk_cell BK168.out 0).trans rfl; have hcz3_1 : w2.cell? ⟨gb168, 1, none⟩ = some (.slice none 0 0) := (blk_cell BK168.out 1).trans rfl; have hcz3_2 : w2.cell? ⟨gb168, 2, none⟩ = some (.int .i64 0) := (blk_cell BK168.out 2).trans rfl; have hfz3_0 := blk_frozen BK168.out 0; have hfz3_1 := blk_frozen BK168.out 1; have hfz3_2 := blk_frozen BK168.out 2))
 refine bodyPost_ret (results_cell_row rfl _ _ gb168 34 #[.slice none 0 0, .slice none 0 0, .int .i64 a0] (0, 0) _ rfl (by (with_reducible repeat (first | refine blk_drewN ?_ _ | refine blk_drew ?_ | refine blk_alloc ?_ _)); refine blk_put (cs := #[.slice none 0 0, .slice none 0 0, .int .i64 0]) ?_ 2 _ rfl; (with_reducible repeat (first | refine blk_drewN ?_ _ | refine blk_drew ?_ | refine blk_alloc ?_ _)); refine blk_put (cs := #[.slice none 0 0, .slice none 0 0, .int .i64 0]) ?_ 1 _ rfl; (with_reducible repeat (first | refine blk_drewN ?_ _ | refine blk_drew ?_ | refine blk_alloc ?_ _)); refine blk_put (cs := #[.slice none 0 0, .slice none 0 0, .int .i64 0]) ?_ 0 _ rfl; (with_reducible repeat (first | refine blk_drewN ?_ _ | refine blk_drew ?_ | refine blk_alloc ?_ _)); exact BK168.out) Try.underlying34 rfl (by kernel_rfl)) rfl ?_
 exact ⟨_, _, by first | rfl | (simp [errW_none, errW_some] <;> rfl) | (simp [*, errW_none, errW_some] <;> rfl), by first | exact Kd.R_nil _ _ _ _ _ | exact Kd.N_nil _ _ _ _ _ | exact Kd.V_nil _ _ _ _ _ | exact Kd.Q_nil _ _ _ _ _ | exact Kd.S_nil _ _ _ _ _, by first | exact Kd.R_nil _ _ _ _ _ | exact Kd.N_nil _ _ _ _ _ | exact Kd.V_nil _ _ _ _ _ | exact Kd.Q_nil _ _ _ _ _ | exact Kd.S_nil _ _ _ _ _, by repeat (first | (with_reducible first | exact HB.out | apply below_alloc | apply pw_below_drewN | apply below_drew1 | refine below_set ?_ GE168.out) | exact HB.out)⟩
def spec_l06Stale.l0 : Nat → Int → List (S73) → Int → Option ((List (S73)))
 | 0, _, _, _ => none
 | k + 1, x1, x5, x6 => if x6 < (x5.length : Int) then (if 0 ≤ x6 then (if (rd_T73 x5 x6).f1 = true then (spec_l06Stale.l0 k x1 (x5.set (x6 : Int).toNat (⟨(rd_T73 x5 x6).f0, true, (⟨(rd_T73 x5 x6).f2.f0, (rd_T73 x5 x6).f2.f1, (rd_T73 x5 x6).f2.f2, (rd_T73 x5 x6).f2.f3, (rd_T73 x5 x6).f2.f4, (rd_T73 x5 x6).f2.f5, (rd_T73 x5 x6).f2.f6⟩ : S42)⟩ : S73)) (wrap64 (x6 + 1))) else (spec_l06Stale.l0 k x1 (x5.set (x6 : Int).toNat (⟨(rd_T73 x5 x6).f0, (((rd_T73 x5 x6).f0) == x1), (⟨(rd_T73 x5 x6).f2.f0, (rd_T73 x5 x6).f2.f1, (rd_T73 x5 x6).f2.f2, (rd_T73 x5 x6).f2.f3, (rd_T73 x5 x6).f2.f4, (rd_T73 x5 x6).f2.f5, (rd_T73 x5 x6).f2.f6⟩ : S42)⟩ : S73)) (wrap64 (x6 + 1)))) else (none)) else (some x5)
def spec_l06Stale.f (k : Nat) (l0 : List (S73)) (a1 : Int) : Option ((List (S73))) := (some (([] : List (S73)) : List (S73))).bind fun y169 => (if y169.length + l0.length < 1954687338268 then (spec_l06Stale.l0 k a1 (y169 ++ l0) 0) else (none))
theorem spec_l06Stale.mono_l : ∀ k, (∀ y0 y1 y2, LeO (spec_l06Stale.l0 k y0 y1 y2) (spec_l06Stale.l0 (k + 1) y0 y1 y2))
 | 0 => fun _ _ _ r h => by simp [spec_l06Stale.l0] at h
 | k + 1 => by
  have ih0 := spec_l06Stale.mono_l k
  ·intro y0 y1 y2
   unfold spec_l06Stale.l0
   repeat' first
   | (with_reducible exact ih0 _ _ _)
   | (with_reducible exact LeO.refl _)
   | (with_reducible exact LeO.none _)
   | (with_reducible refine LeO.ite ?_ ?_)
   | (with_reducible refine LeO.bind ?_ (fun _ => ?_))
   | exact ih0 _ _ _
   | exact LeO.none _
   | refine LeO.ite ?_ ?_
   | refine LeO.bind ?_ (fun _ => ?_)
theorem spec_l06Stale.mono : ∀ a0 a1 k, LeO (spec_l06Stale.f k a0 a1) (spec_l06Stale.f (k + 1) a0 a1) := by
 intro a0 a1 k
 have ih0 := spec_l06Stale.mono_l k
 unfold spec_l06Stale.f
 repeat' first
   | (with_reducible exact ih0 _ _ _)
   | (with_reducible exact LeO.refl _)
   | (with_reducible exact LeO.none _)
   | (with_reducible refine LeO.ite ?_ ?_)
   | (with_reducible refine LeO.bind ?_ (fun _ => ?_))
   | exact ih0 _ _ _
   | exact LeO.none _
   | refine LeO.ite ?_ ?_
   | refine LeO.bind ?_ (fun _ => ?_)
set_option maxHeartbeats 8000000 in
set_option maxRecDepth 100000 in
theorem spec_l06Stale.calls (k : Nat) (A0 : Option Addr) (c0 : Nat) (l0 : List (S73)) (a1 : Int) (r : List (S73)) (w : World) (hr0 : Kd.C k73 w A0 l0.length l0) (hc0 : l0.length ≤ c0) (h : spec_l06Stale.f k l0 a1 = some r) :
  Calls Try.prog 63 #[.slice A0 l0.length c0, .int .i64 a1] w fun e w' => ∃ v0_ : Value, e = .returned (v0_) ∧ Kd.R k73 73 w' w.heap.size (fun _ => True) v0_ r ∧ Below w.heap.size w w' := by
 have HR0 := Aside0.mk hr0
 have HC0 := Aside0.mk hc0
 clear hr0 hc0
 have HB := Aside0.mk (Below.refl w.heap.size w)
 have H : ((some (([] : List (S73)) : List (S73))).bind fun y169 => (if y169.length + l0.length < 1954687338268 then (spec_l06Stale.l0 k a1 (y169 ++ l0) 0) else (none))) = some r := h
 clear h
 obtain ⟨y169, hy169⟩ : ∃ y_ : List (S73), y_ = (([] : List (S73))) := ⟨_, rfl⟩
 replace H : (if y169.length + l0.length < 1954687338268 then (spec_l06Stale.l0 k a1 (y169 ++ l0) 0) else (none)) = some r := by first | (rw [hy169]; with_reducible exact H) | (have H2_ := (Option.bind_some _ _).symm.trans H; rw [hy169]; with_reducible exact H2_) | (have H2_ := (Option.bind_some _ _).symm.trans H; with_reducible exact H2_) | with_reducible exact H | (rw [hy169]; exact H) | exact H
 have Ny169 := Aside0.mk hy169
 clear hy169
 by_cases c3 : y169.length + l0.length < 1954687338268
 ·rw [if_pos c3] at H
  have LMc3 := Aside0.mk c3
  clear c3
  obtain ⟨y172, hy172⟩ : ∃ y_ : List (S73), y_ = (y169 ++ l0) := ⟨_, rfl⟩
  replace H : (spec_l06Stale.l0 k a1 y172 0) = some r := by first | (rw [hy172]; with_reducible exact H) | (have H2_ := (Option.bind_some _ _).symm.trans H; rw [hy172]; with_reducible exact H2_) | (have H2_ := (Option.bind_some _ _).symm.trans H; with_reducible exact H2_) | with_reducible exact H | (rw [hy172]; exact H) | exact H
  have Ny172 := Aside0.mk hy172
  clear hy172
  have H' := Aside0.mk H
  clear H
  go_enter Try.func63, Try.ntmps63
  go_wp2_with (first | ((with_reducible refine gate_dst (N := 7) rfl ?_); refine Kd.R_lit k73 _ 73 ?hg (N := 7) ?hd (xs := ([] : List (S73))) (inner := []) (ok := fun _ => True) (okp := fun _ => True) ?hr ?hp (fun _ hk => hk) trivial (Below.refl _ _) (Nat.le_refl _) (by simp) ?_; (case hd => rfl); (case hg => rfl); (case hr => first | (go_simp; done) | (go_simp; rfl)); (case hp => exact (Reps.none _ _)); intro v170 w4 ho5 hb hg_ hnew_; clear hg_ hnew_; (first | rw [← Ny169.out] at ho5 | (simp only [Int.reduceToNat] at ho5; rw [← Ny169.out] at ho5)); have n0_ := Aside0.mk (Kd.R_lower ho5 (below_size (by repeat (first | (with_reducible first | exact HB.out | apply below_alloc | apply pw_below_drewN | apply below_drew1) | exact HB.out)))); have n1_ := Aside0.mk (below_step (by repeat (first | (with_reducible first | exact HB.out | apply below_alloc | apply pw_below_drewN | apply below_drew1) | exact HB.out)) hb); clear HB; have HO171 := n0_; have HB := n1_; clear n0_ n1_; clear hb ho5) | ((with_reducible refine gate_builtin (b := .append) (xs := #[.tmp 7, .tmp 8]) rfl ?_); at_builtin; refine Kd.R_append_rows k73 (w0 := w) w.heap.size rfl (.tmp 7) (.tmp 8) 26 73 (.agg #[(.int .i64 0), (.bool false), (.int .i64 0), (.int .i64 0), (.int .i64 0), (.int .i64 0), (.int .i64 0), (.int .i64 0), (.bool false)]) 72 rfl Try.underlying26 info73 rfl (by decide) (by omega) v170 y169 l0 _ _ _ (fun _ => True) (fun _ => False) rfl rfl ?aO ?aR (fun _ _ h => h) (fun _ h => h.elim) ?aF ?aB ?aS ?aL ?_; (case aR => repeat (first | exact (Kd.C_below HR0.out HB.out) | (with_reducible refine Kd.C_alloc ?_ _) | (with_reducible refine Kd.C_drewN ?_ _) | (with_reducible refine Kd.C_drew ?_))); (case aB => exact (by repeat (first | (with_reducible first | exact HB.out | apply below_alloc | apply pw_below_drewN | apply below_drew1) | exact HB.out))); (case aF => exact (fun _ _ => trivial)); (case aO => exact (by (with_reducible repeat (first | apply Kd.R_alloc | apply Kd.R_drewN | apply Kd.R_drew)); exact HO171.out)); (case aS => exact (below_size (by repeat (first | (with_reducible first | exact HB.out | apply below_alloc | apply pw_below_drewN | apply below_drew1) | exact HB.out)))); (case aL => have := LMc3.out; omega); intro v173 w6 ho hb hg hat; rw [← Ny172.out] at ho; have n0_ := Aside0.mk (hb); have n1_ := Aside0.mk (ho); clear HB; clear HO171; have HB := n0_; have HO174 := n1_; clear n0_ n1_; clear ho hb hg hat))
  go_loopg [6] k (fun kq v6 w' => ∃ (x5_1 : List (S73)) (x6_1 : Int), v6 = .int .i64 x6_1 ∧ Aside0 (spec_l06Stale.l0 kq a1 x5_1 x6_1 = some r) ∧ Aside0 (kq ≤ k) ∧ Aside0 (Kd.R k73 73 w' w.heap.size (fun _ => True) v173 x5_1) ∧ Aside0 (Below w.heap.size w w'))
  case atStart => exact ⟨(y172), (0), (by first | rfl | (simp; done) | (simp [*]; done)), H', ⟨Nat.le_refl _⟩, ⟨by (with_reducible repeat (first | apply Kd.R_alloc | apply Kd.R_drewN | apply Kd.R_drew)); exact HO174.out⟩, ⟨by repeat (first | (with_reducible first | exact HB.out | apply below_alloc | apply pw_below_drewN | apply below_drew1) | exact HB.out)⟩⟩
  case round =>
   clear H'
   try clear p2
   try clear c3
   try clear c6
   obtain ⟨x5_1, x6_1, rfl, HA, HK1, HO_5, HB⟩ := hrel
   cases gk with
   | zero => exact absurd HA.out (by simp [spec_l06Stale.l0])
   | succ k1 =>
    have H := HA.out
    clear HA
    simp only [spec_l06Stale.l0] at H
    by_cases c7 : x6_1 < (x5_1.length : Int)
    ·rw [if_pos c7] at H
     have c7b0 : decide (x6_1 < (x5_1.length : Int)) = true := decide_eq_true c7
     clear c7
     by_cases c8 : 0 ≤ x6_1
     ·rw [if_pos c8] at H
      have c8b0 : decide (0 ≤ x6_1) = true := decide_eq_true c8
      clear c8
      obtain ⟨bq9, hbq9⟩ : ∃ b_ : Bool, b_ = ((rd_T73 x5_1 x6_1).f1) := ⟨_, rfl⟩
      replace H : (if bq9 = true then (spec_l06Stale.l0 k1 a1 (x5_1.set (x6_1 : Int).toNat (⟨(rd_T73 x5_1 x6_1).f0, true, (⟨(rd_T73 x5_1 x6_1).f2.f0, (rd_T73 x5_1 x6_1).f2.f1, (rd_T73 x5_1 x6_1).f2.f2, (rd_T73 x5_1 x6_1).f2.f3, (rd_T73 x5_1 x6_1).f2.f4, (rd_T73 x5_1 x6_1).f2.f5, (rd_T73 x5_1 x6_1).f2.f6⟩ : S42)⟩ : S73)) (wrap64 (x6_1 + 1))) else (spec_l06Stale.l0 k1 a1 (x5_1.set (x6_1 : Int).toNat (⟨(rd_T73 x5_1 x6_1).f0, (((rd_T73 x5_1 x6_1).f0) == a1), (⟨(rd_T73 x5_1 x6_1).f2.f0, (rd_T73 x5_1 x6_1).f2.f1, (rd_T73 x5_1 x6_1).f2.f2, (rd_T73 x5_1 x6_1).f2.f3, (rd_T73 x5_1 x6_1).f2.f4, (rd_T73 x5_1 x6_1).f2.f5, (rd_T73 x5_1 x6_1).f2.f6⟩ : S42)⟩ : S73)) (wrap64 (x6_1 + 1)))) = some r := by rw [← hbq9] at H; exact H
      have Nbq9 := Aside0.mk hbq9
      clear hbq9
      by_cases c10 : bq9 = true
      ·subst c10
       have H1 : (spec_l06Stale.l0 k1 a1 (x5_1.set (x6_1 : Int).toNat (⟨(rd_T73 x5_1 x6_1).f0, true, (⟨(rd_T73 x5_1 x6_1).f2.f0, (rd_T73 x5_1 x6_1).f2.f1, (rd_T73 x5_1 x6_1).f2.f2, (rd_T73 x5_1 x6_1).f2.f3, (rd_T73 x5_1 x6_1).f2.f4, (rd_T73 x5_1 x6_1).f2.f5, (rd_T73 x5_1 x6_1).f2.f6⟩ : S42)⟩ : S73)) (wrap64 (x6_1 + 1))) = some r := by rw [if_pos rfl] at H; exact H
       clear H
       have H := H1
       clear H1
       obtain ⟨y176, hy176⟩ : ∃ y_ : List (S73), y_ = (x5_1.set (x6_1 : Int).toNat (⟨(rd_T73 x5_1 x6_1).f0, true, (⟨(rd_T73 x5_1 x6_1).f2.f0, (rd_T73 x5_1 x6_1).f2.f1, (rd_T73 x5_1 x6_1).f2.f2, (rd_T73 x5_1 x6_1).f2.f3, (rd_T73 x5_1 x6_1).f2.f4, (rd_T73 x5_1 x6_1).f2.f5, (rd_T73 x5_1 x6_1).f2.f6⟩ : S42)⟩ : S73)) := ⟨_, rfl⟩
       replace H : (spec_l06Stale.l0 k1 a1 y176 (wrap64 (x6_1 + 1))) = some r := by first | (rw [hy176]; with_reducible exact H) | (have H2_ := (Option.bind_some _ _).symm.trans H; rw [hy176]; with_reducible exact H2_) | (have H2_ := (Option.bind_some _ _).symm.trans H; with_reducible exact H2_) | with_reducible exact H | (rw [hy176]; exact H) | exact H
       have Ny176 := Aside0.mk hy176
       clear hy176
       have H' := Aside0.mk H
       clear H
       obtain ⟨Ao12, co12, eo12⟩ := Kd.R_slice HO_5.out
       subst eo12
       have p175 : 0 ≤ (x6_1 : Int) := of_decide_eq_true (by first | (with_reducible assumption) | assumption)
       have q175 : x6_1 < (x5_1.length : Int) := of_decide_eq_true (by first | (with_reducible assumption) | assumption)
       obtain ⟨ad175, e175, hx175_0, hx175_1, hx175_2, hx175_3, hx175_4, hx175_5, hx175_6, hx175_7, hx175_8⟩ := at_T73 (Kd.R_reads' HO_5.out).2.2 x6_1 p175 q175
       (try rw [← Nbq9.out] at hx175_1)
       (try rw [← Nbq9.out] at hx175_8)
       cases e175
       replace p175 := eq_true p175
       replace q175 := eq_true q175
       have p11 : 0 ≤ (x6_1 : Int) := of_decide_eq_true (by first | (with_reducible assumption) | assumption)
       have q11 : (x6_1 : Int) < ((x5_1.length : Int) : Int) := of_decide_eq_true (by first | (with_reducible assumption) | assumption)
       obtain ⟨go11, co11, eo11, gb11, gl11, cl11, HG11⟩ := Kd.R_form HO_5.out (by omega)
       (first | cases eo11 | (injection eo11 with ea_ en_ ec_; (first | subst ea_ | (injection ea_ with ea_; subst ea_)); subst ec_; clear en_))
       have GB11 := Aside0.mk gb11
       have GG11 := Aside0.mk HG11
       clear gb11 gl11 HG11
       (first | simp only [add_plain] at hx175_0 | skip)
       (first | simp only [add_plain] at hx175_1 | skip)
       (first | simp only [add_plain] at hx175_2 | skip)
       (first | simp only [add_plain] at hx175_3 | skip)
       (first | simp only [add_plain] at hx175_4 | skip)
       (first | simp only [add_plain] at hx175_5 | skip)
       (first | simp only [add_plain] at hx175_6 | skip)
       (first | simp only [add_plain] at hx175_7 | skip)
       (first | simp only [add_plain] at hx175_8 | skip)
       obtain ⟨ce11, hcl11, hM11, hcc11, hfr11⟩ := Kd.R_elem HO_5.out z73 (x6_1 : Int) p11 q11
       obtain rfl := k73_openM hM11
       have hx11_0 : wr.cell? ⟨go11, (x6_1 : Int).toNat * 9, none⟩ = some (.int .i64 ((rd_T73 x5_1 x6_1).f0)) := hcc11 0 _ rfl
       have hx11_1 : wr.cell? ⟨go11, (x6_1 : Int).toNat * 9 + 1, none⟩ = some (.bool ((rd_T73 x5_1 x6_1).f1)) := hcc11 1 _ rfl
       have hx11_2 : wr.cell? ⟨go11, (x6_1 : Int).toNat * 9 + 2, none⟩ = some (.int .i64 ((rd_T73 x5_1 x6_1).f2.f0)) := hcc11 2 _ rfl
       have hx11_3 : wr.cell? ⟨go11, (x6_1 : Int).toNat * 9 + 3, none⟩ = some (.int .i64 ((rd_T73 x5_1 x6_1).f2.f1)) := hcc11 3 _ rfl
       have hx11_4 : wr.cell? ⟨go11, (x6_1 : Int).toNat * 9 + 4, none⟩ = some (.int .i64 ((rd_T73 x5_1 x6_1).f2.f2)) := hcc11 4 _ rfl
       have hx11_5 : wr.cell? ⟨go11, (x6_1 : Int).toNat * 9 + 5, none⟩ = some (.int .i64 ((rd_T73 x5_1 x6_1).f2.f3)) := hcc11 5 _ rfl
       have hx11_6 : wr.cell? ⟨go11, (x6_1 : Int).toNat * 9 + 6, none⟩ = some (.int .i64 ((rd_T73 x5_1 x6_1).f2.f4)) := hcc11 6 _ rfl
       have hx11_7 : wr.cell? ⟨go11, (x6_1 : Int).toNat * 9 + 7, none⟩ = some (.int .i64 ((rd_T73 x5_1 x6_1).f2.f5)) := hcc11 7 _ rfl
       have hx11_8 : wr.cell? ⟨go11, (x6_1 : Int).toNat * 9 + 8, none⟩ = some (.bool ((rd_T73 x5_1 x6_1).f2.f6)) := hcc11 8 _ rfl
       have hf11_0 : wr.frozen? ⟨go11, (x6_1 : Int).toNat * 9, none⟩ = false := hfr11 0
       have hf11_1 : wr.frozen? ⟨go11, (x6_1 : Int).toNat * 9 + 1, none⟩ = false := hfr11 1
       have hf11_2 : wr.frozen? ⟨go11, (x6_1 : Int).toNat * 9 + 2, none⟩ = false := hfr11 2
       have hf11_3 : wr.frozen? ⟨go11, (x6_1 : Int).toNat * 9 + 3, none⟩ = false := hfr11 3
       have hf11_4 : wr.frozen? ⟨go11, (x6_1 : Int).toNat * 9 + 4, none⟩ = false := hfr11 4
       have hf11_5 : wr.frozen? ⟨go11, (x6_1 : Int).toNat * 9 + 5, none⟩ = false := hfr11 5
       have hf11_6 : wr.frozen? ⟨go11, (x6_1 : Int).toNat * 9 + 6, none⟩ = false := hfr11 6
       have hf11_7 : wr.frozen? ⟨go11, (x6_1 : Int).toNat * 9 + 7, none⟩ = false := hfr11 7
       have hf11_8 : wr.frozen? ⟨go11, (x6_1 : Int).toNat * 9 + 8, none⟩ = false := hfr11 8
       clear hcl11 hcc11 hfr11 hM11
       replace p11 := eq_true p11
       replace q11 := eq_true q11
       have HX13 := Aside0.mk (show Kd.R k73 73 wr w.heap.size (fun _ => True) (.slice (some ⟨go11, 0, none⟩) x5_1.length co12) x5_1 from (by (with_reducible repeat (first | apply Kd.R_alloc | apply Kd.R_drewN | apply Kd.R_drew)); exact HO_5.out))
       obtain ⟨ce13, hcl13, hM13, hcc13, hfr13⟩ := Kd.R_elem HX13.out z73 (x6_1 : Int) (of_decide_eq_true (by first | (with_reducible assumption) | assumption)) (by have h_ : (x6_1 : Int) < ((x5_1.length : Int) : Int) := of_decide_eq_true (by first | (with_reducible assumption) | assumption); first | exact h_ | (have e_ := (Kd.R_reads' HO_5.out).1; omega) | simpa using h_)
       obtain rfl := k73_openM hM13
       have HP13 := Kd.R_seg HX13.out (x6_1 : Int) (of_decide_eq_true (by first | (with_reducible assumption) | assumption)) (by have h_ : (x6_1 : Int) < ((x5_1.length : Int) : Int) := of_decide_eq_true (by first | (with_reducible assumption) | assumption); first | exact h_ | (have e_ := (Kd.R_reads' HO_5.out).1; omega) | simpa using h_) (seg := [.bool true]) (j := 1) hcl13 hcc13 (show 2 ≤ 9 from by decide) (x' := (⟨(rd_T73 x5_1 x6_1).f0, true, (⟨(rd_T73 x5_1 x6_1).f2.f0, (rd_T73 x5_1 x6_1).f2.f1, (rd_T73 x5_1 x6_1).f2.f2, (rd_T73 x5_1 x6_1).f2.f3, (rd_T73 x5_1 x6_1).f2.f4, (rd_T73 x5_1 x6_1).f2.f5, (rd_T73 x5_1 x6_1).f2.f6⟩ : S42)⟩ : S73)) (k73_mkM _ _ _ (⟨(rd_T73 x5_1 x6_1).f0, true, (⟨(rd_T73 x5_1 x6_1).f2.f0, (rd_T73 x5_1 x6_1).f2.f1, (rd_T73 x5_1 x6_1).f2.f2, (rd_T73 x5_1 x6_1).f2.f3, (rd_T73 x5_1 x6_1).f2.f4, (rd_T73 x5_1 x6_1).f2.f5, (rd_T73 x5_1 x6_1).f2.f6⟩ : S42)⟩ : S73) ) (fun _ hk => hk)
       have hx13_1 := hcc13 1 _ rfl
       (try simp only [show (k73).sz = 9 from rfl, Nat.mul_one, Nat.add_zero] at hx13_1)
       have hf13_1 := hfr13 1
       (try simp only [show (k73).sz = 9 from rfl, Nat.mul_one, Nat.add_zero] at hf13_1)
       clear hcl13 hcc13 hfr13 hM13
       go_wp2_with (first | ((with_reducible refine gate_store (t := 4) (p := 33) rfl ?_); refine store_event (t := 4) (p := 33) (v := ?vo_w14) (w1 := (wr.setCell ⟨go11, (x6_1 : Int).toNat * 9 + 1, none⟩ (.bool true))) ?hg ?ho ?hn ?hr ?_; (case ho => rfl); (case hg => rfl); (case hn => rfl); (case hr => first | (go_simp; done) | (go_simp; rfl)); intro w14 hw; have hg : wr.grownBy w14 (some go11) := (by rw [hw]; exact HP13.2); have hp_ : Kd.R k73 73 w14 w.heap.size (fun _ => True) (.slice (some ⟨go11, 0, none⟩) x5_1.length co12) y176 := (by rw [hw, Ny176.out]; exact HP13.1); clear HP13; have n0_ := Aside0.mk (hp_); have n1_ := Aside0.mk ((by rw [hw]; exact below_set (HB.out) GB11.out : Below w.heap.size w w14)); clear HO_5; clear HB; have HO_5 := n0_; have HB := n1_; clear n0_ n1_; clear hg hw hp_))
       go_roundg k1
       case measure => have := HK1.out; omega
       case rel => exact ⟨(y176), (wrap64 (x6_1 + 1)), (by first | rfl | (simp; done) | (simp [*]; done)), H', ⟨by have := HK1.out; omega⟩, ⟨by (with_reducible repeat (first | apply Kd.R_alloc | apply Kd.R_drewN | apply Kd.R_drew)); exact HO_5.out⟩, ⟨by repeat (first | (with_reducible first | exact HB.out | apply below_alloc | apply pw_below_drewN | apply below_drew1) | exact HB.out)⟩⟩
      ·replace c10 := Bool.eq_false_iff.mpr c10
       subst c10
       have H1 : (spec_l06Stale.l0 k1 a1 (x5_1.set (x6_1 : Int).toNat (⟨(rd_T73 x5_1 x6_1).f0, (((rd_T73 x5_1 x6_1).f0) == a1), (⟨(rd_T73 x5_1 x6_1).f2.f0, (rd_T73 x5_1 x6_1).f2.f1, (rd_T73 x5_1 x6_1).f2.f2, (rd_T73 x5_1 x6_1).f2.f3, (rd_T73 x5_1 x6_1).f2.f4, (rd_T73 x5_1 x6_1).f2.f5, (rd_T73 x5_1 x6_1).f2.f6⟩ : S42)⟩ : S73)) (wrap64 (x6_1 + 1))) = some r := by rw [if_neg (show ¬ (false = true) by decide)] at H; exact H
       clear H
       have H := H1
       clear H1
       obtain ⟨y178, hy178⟩ : ∃ y_ : List (S73), y_ = (x5_1.set (x6_1 : Int).toNat (⟨(rd_T73 x5_1 x6_1).f0, (((rd_T73 x5_1 x6_1).f0) == a1), (⟨(rd_T73 x5_1 x6_1).f2.f0, (rd_T73 x5_1 x6_1).f2.f1, (rd_T73 x5_1 x6_1).f2.f2, (rd_T73 x5_1 x6_1).f2.f3, (rd_T73 x5_1 x6_1).f2.f4, (rd_T73 x5_1 x6_1).f2.f5, (rd_T73 x5_1 x6_1).f2.f6⟩ : S42)⟩ : S73)) := ⟨_, rfl⟩
       replace H : (spec_l06Stale.l0 k1 a1 y178 (wrap64 (x6_1 + 1))) = some r := by first | (rw [hy178]; with_reducible exact H) | (have H2_ := (Option.bind_some _ _).symm.trans H; rw [hy178]; with_reducible exact H2_) | (have H2_ := (Option.bind_some _ _).symm.trans H; with_reducible exact H2_) | with_reducible exact H | (rw [hy178]; exact H) | exact H
       have Ny178 := Aside0.mk hy178
       clear hy178
       have H' := Aside0.mk H
       clear H
       obtain ⟨Ao16, co16, eo16⟩ := Kd.R_slice HO_5.out
       subst eo16
       have p175 : 0 ≤ (x6_1 : Int) := of_decide_eq_true (by first | (with_reducible assumption) | assumption)
       have q175 : x6_1 < (x5_1.length : Int) := of_decide_eq_true (by first | (with_reducible assumption) | assumption)
       obtain ⟨ad175, e175, hx175_0, hx175_1, hx175_2, hx175_3, hx175_4, hx175_5, hx175_6, hx175_7, hx175_8⟩ := at_T73 (Kd.R_reads' HO_5.out).2.2 x6_1 p175 q175
       (try rw [← Nbq9.out] at hx175_1)
       (try rw [← Nbq9.out] at hx175_8)
       cases e175
       replace p175 := eq_true p175
       replace q175 := eq_true q175
       have p177 : 0 ≤ (x6_1 : Int) := of_decide_eq_true (by first | (with_reducible assumption) | assumption)
       have q177 : x6_1 < (x5_1.length : Int) := of_decide_eq_true (by first | (with_reducible assumption) | assumption)
       obtain ⟨ad177, e177, hx177_0, hx177_1, hx177_2, hx177_3, hx177_4, hx177_5, hx177_6, hx177_7, hx177_8⟩ := at_T73 (Kd.R_reads' HO_5.out).2.2 x6_1 p177 q177
       (try rw [← Nbq9.out] at hx177_1)
       (try rw [← Nbq9.out] at hx177_8)
       obtain rfl : ad175 = ad177 := (by injection e177)
       replace p177 := eq_true p177
       replace q177 := eq_true q177
       have p15 : 0 ≤ (x6_1 : Int) := of_decide_eq_true (by first | (with_reducible assumption) | assumption)
       have q15 : (x6_1 : Int) < ((x5_1.length : Int) : Int) := of_decide_eq_true (by first | (with_reducible assumption) | assumption)
       obtain ⟨go15, co15, eo15, gb15, gl15, cl15, HG15⟩ := Kd.R_form HO_5.out (by omega)
       (first | cases eo15 | (injection eo15 with ea_ en_ ec_; (first | subst ea_ | (injection ea_ with ea_; subst ea_)); subst ec_; clear en_))
       have GB15 := Aside0.mk gb15
       have GG15 := Aside0.mk HG15
       clear gb15 gl15 HG15
       (first | simp only [add_plain] at hx175_0 | skip)
       (first | simp only [add_plain] at hx175_1 | skip)
       (first | simp only [add_plain] at hx175_2 | skip)
       (first | simp only [add_plain] at hx175_3 | skip)
       (first | simp only [add_plain] at hx175_4 | skip)
       (first | simp only [add_plain] at hx175_5 | skip)
       (first | simp only [add_plain] at hx175_6 | skip)
       (first | simp only [add_plain] at hx175_7 | skip)
       (first | simp only [add_plain] at hx175_8 | skip)
       (first | simp only [add_plain] at hx177_0 | skip)
       (first | simp only [add_plain] at hx177_1 | skip)
       (first | simp only [add_plain] at hx177_2 | skip)
       (first | simp only [add_plain] at hx177_3 | skip)
       (first | simp only [add_plain] at hx177_4 | skip)
       (first | simp only [add_plain] at hx177_5 | skip)
       (first | simp only [add_plain] at hx177_6 | skip)
       (first | simp only [add_plain] at hx177_7 | skip)
       (first | simp only [add_plain] at hx177_8 | skip)
       obtain ⟨ce15, hcl15, hM15, hcc15, hfr15⟩ := Kd.R_elem HO_5.out z73 (x6_1 : Int) p15 q15
       obtain rfl := k73_openM hM15
       have hx15_0 : wr.cell? ⟨go15, (x6_1 : Int).toNat * 9, none⟩ = some (.int .i64 ((rd_T73 x5_1 x6_1).f0)) := hcc15 0 _ rfl
       have hx15_1 : wr.cell? ⟨go15, (x6_1 : Int).toNat * 9 + 1, none⟩ = some (.bool ((rd_T73 x5_1 x6_1).f1)) := hcc15 1 _ rfl
       have hx15_2 : wr.cell? ⟨go15, (x6_1 : Int).toNat * 9 + 2, none⟩ = some (.int .i64 ((rd_T73 x5_1 x6_1).f2.f0)) := hcc15 2 _ rfl
       have hx15_3 : wr.cell? ⟨go15, (x6_1 : Int).toNat * 9 + 3, none⟩ = some (.int .i64 ((rd_T73 x5_1 x6_1).f2.f1)) := hcc15 3 _ rfl
       have hx15_4 : wr.cell? ⟨go15, (x6_1 : Int).toNat * 9 + 4, none⟩ = some (.int .i64 ((rd_T73 x5_1 x6_1).f2.f2)) := hcc15 4 _ rfl
       have hx15_5 : wr.cell? ⟨go15, (x6_1 : Int).toNat * 9 + 5, none⟩ = some (.int .i64 ((rd_T73 x5_1 x6_1).f2.f3)) := hcc15 5 _ rfl
       have hx15_6 : wr.cell? ⟨go15, (x6_1 : Int).toNat * 9 + 6, none⟩ = some (.int .i64 ((rd_T73 x5_1 x6_1).f2.f4)) := hcc15 6 _ rfl
       have hx15_7 : wr.cell? ⟨go15, (x6_1 : Int).toNat * 9 + 7, none⟩ = some (.int .i64 ((rd_T73 x5_1 x6_1).f2.f5)) := hcc15 7 _ rfl
       have hx15_8 : wr.cell? ⟨go15, (x6_1 : Int).toNat * 9 + 8, none⟩ = some (.bool ((rd_T73 x5_1 x6_1).f2.f6)) := hcc15 8 _ rfl
       have hf15_0 : wr.frozen? ⟨go15, (x6_1 : Int).toNat * 9, none⟩ = false := hfr15 0
       have hf15_1 : wr.frozen? ⟨go15, (x6_1 : Int).toNat * 9 + 1, none⟩ = false := hfr15 1
       have hf15_2 : wr.frozen? ⟨go15, (x6_1 : Int).toNat * 9 + 2, none⟩ = false := hfr15 2
       have hf15_3 : wr.frozen? ⟨go15, (x6_1 : Int).toNat * 9 + 3, none⟩ = false := hfr15 3
       have hf15_4 : wr.frozen? ⟨go15, (x6_1 : Int).toNat * 9 + 4, none⟩ = false := hfr15 4
       have hf15_5 : wr.frozen? ⟨go15, (x6_1 : Int).toNat * 9 + 5, none⟩ = false := hfr15 5
       have hf15_6 : wr.frozen? ⟨go15, (x6_1 : Int).toNat * 9 + 6, none⟩ = false := hfr15 6
       have hf15_7 : wr.frozen? ⟨go15, (x6_1 : Int).toNat * 9 + 7, none⟩ = false := hfr15 7
       have hf15_8 : wr.frozen? ⟨go15, (x6_1 : Int).toNat * 9 + 8, none⟩ = false := hfr15 8
       clear hcl15 hcc15 hfr15 hM15
       replace p15 := eq_true p15
       replace q15 := eq_true q15
       have HX17 := Aside0.mk (show Kd.R k73 73 wr w.heap.size (fun _ => True) (.slice (some ⟨go15, 0, none⟩) x5_1.length co16) x5_1 from (by (with_reducible repeat (first | apply Kd.R_alloc | apply Kd.R_drewN | apply Kd.R_drew)); exact HO_5.out))
       obtain ⟨ce17, hcl17, hM17, hcc17, hfr17⟩ := Kd.R_elem HX17.out z73 (x6_1 : Int) (of_decide_eq_true (by first | (with_reducible assumption) | assumption)) (by have h_ : (x6_1 : Int) < ((x5_1.length : Int) : Int) := of_decide_eq_true (by first | (with_reducible assumption) | assumption); first | exact h_ | (have e_ := (Kd.R_reads' HO_5.out).1; omega) | simpa using h_)
       obtain rfl := k73_openM hM17
       have HP17 := Kd.R_seg HX17.out (x6_1 : Int) (of_decide_eq_true (by first | (with_reducible assumption) | assumption)) (by have h_ : (x6_1 : Int) < ((x5_1.length : Int) : Int) := of_decide_eq_true (by first | (with_reducible assumption) | assumption); first | exact h_ | (have e_ := (Kd.R_reads' HO_5.out).1; omega) | simpa using h_) (seg := [.bool (((rd_T73 x5_1 x6_1).f0) == a1)]) (j := 1) hcl17 hcc17 (show 2 ≤ 9 from by decide) (x' := (⟨(rd_T73 x5_1 x6_1).f0, (((rd_T73 x5_1 x6_1).f0) == a1), (⟨(rd_T73 x5_1 x6_1).f2.f0, (rd_T73 x5_1 x6_1).f2.f1, (rd_T73 x5_1 x6_1).f2.f2, (rd_T73 x5_1 x6_1).f2.f3, (rd_T73 x5_1 x6_1).f2.f4, (rd_T73 x5_1 x6_1).f2.f5, (rd_T73 x5_1 x6_1).f2.f6⟩ : S42)⟩ : S73)) (k73_mkM _ _ _ (⟨(rd_T73 x5_1 x6_1).f0, (((rd_T73 x5_1 x6_1).f0) == a1), (⟨(rd_T73 x5_1 x6_1).f2.f0, (rd_T73 x5_1 x6_1).f2.f1, (rd_T73 x5_1 x6_1).f2.f2, (rd_T73 x5_1 x6_1).f2.f3, (rd_T73 x5_1 x6_1).f2.f4, (rd_T73 x5_1 x6_1).f2.f5, (rd_T73 x5_1 x6_1).f2.f6⟩ : S42)⟩ : S73) ) (fun _ hk => hk)
       have hx17_1 := hcc17 1 _ rfl
       (try simp only [show (k73).sz = 9 from rfl, Nat.mul_one, Nat.add_zero] at hx17_1)
       have hf17_1 := hfr17 1
       (try simp only [show (k73).sz = 9 from rfl, Nat.mul_one, Nat.add_zero] at hf17_1)
       clear hcl17 hcc17 hfr17 hM17
       go_wp2_with (first | ((with_reducible refine gate_store (t := 4) (p := 33) rfl ?_); refine store_event (t := 4) (p := 33) (v := ?vo_w18) (w1 := (wr.setCell ⟨go15, (x6_1 : Int).toNat * 9 + 1, none⟩ (.bool (((rd_T73 x5_1 x6_1).f0) == a1)))) ?hg ?ho ?hn ?hr ?_; (case ho => rfl); (case hg => rfl); (case hn => rfl); (case hr => first | (go_simp; done) | (go_simp; rfl)); intro w18 hw; have hg : wr.grownBy w18 (some go15) := (by rw [hw]; exact HP17.2); have hp_ : Kd.R k73 73 w18 w.heap.size (fun _ => True) (.slice (some ⟨go15, 0, none⟩) x5_1.length co16) y178 := (by rw [hw, Ny178.out]; exact HP17.1); clear HP17; have n0_ := Aside0.mk (hp_); have n1_ := Aside0.mk ((by rw [hw]; exact below_set (HB.out) GB15.out : Below w.heap.size w w18)); clear HO_5; clear HB; have HO_5 := n0_; have HB := n1_; clear n0_ n1_; clear hg hw hp_))
       go_roundg k1
       case measure => have := HK1.out; omega
       case rel => exact ⟨(y178), (wrap64 (x6_1 + 1)), (by first | rfl | (simp; done) | (simp [*]; done)), H', ⟨by have := HK1.out; omega⟩, ⟨by (with_reducible repeat (first | apply Kd.R_alloc | apply Kd.R_drewN | apply Kd.R_drew)); exact HO_5.out⟩, ⟨by repeat (first | (with_reducible first | exact HB.out | apply below_alloc | apply pw_below_drewN | apply below_drew1) | exact HB.out)⟩⟩
     ·rw [if_neg c8] at H
      exact absurd H (by simp)
    ·rw [if_neg c7] at H
     have c7b0 : decide (x6_1 < (x5_1.length : Int)) = false := decide_eq_false c7
     clear c7
     obtain rfl := Option.some.inj H
     obtain ⟨Ao19, co19, eo19⟩ := Kd.R_slice HO_5.out
     subst eo19
     go_wp2
     go_ret
     exact ⟨_, by first | rfl | (simp [errW_none, errW_some] <;> rfl) | (simp [*, errW_none, errW_some] <;> rfl), by (with_reducible repeat (first | apply Kd.R_alloc | apply Kd.R_drewN | apply Kd.R_drew)); exact HO_5.out, by repeat (first | (with_reducible first | exact HB.out | apply below_alloc | apply pw_below_drewN | apply below_drew1) | exact HB.out)⟩
 ·rw [if_neg c3] at H
  exact absurd H (by simp)
def spec_RibStale.j0 : Nat → List (S73) → Int → Bool → Option ((List (S73)) × (List (S42)) × Int)
 | 0, _, _, _ => none
 | k + 1, x0, x1, x16 => if x16 = true then ((spec_l06Ill.f 1).bind fun bt189 => (some (bt189.1, bt189.2.1, bt189.2.2))) else ((spec_l06Stale.f k x0 x1).bind fun t196 => (some (t196, ([] : List (S42)), 0)))
def spec_RibStale.f (k : Nat) (l0 : List (S73)) (a1 : Int) : Option ((List (S73)) × (List (S42)) × Int) := if (l0.length : Int) > 400 then ((spec_l06Ill.f 2).bind fun bt180 => (some (bt180.1, bt180.2.1, bt180.2.2))) else ((spec_RibRight.f k l0).bind fun t187 => (if t187 = true then ((spec_l06Peer.f a1).bind fun t188 => (spec_RibStale.j0 k l0 a1 (!t188))) else (spec_RibStale.j0 k l0 a1 true)))
theorem spec_RibStale.mono_l : ∀ k, (∀ y0 y1 y2, LeO (spec_RibStale.j0 k y0 y1 y2) (spec_RibStale.j0 (k + 1) y0 y1 y2))
 | 0 => fun _ _ _ r h => by simp [spec_RibStale.j0] at h
 | k + 1 => by
  have ih0 := spec_RibStale.mono_l k
  ·intro y0 y1 y2
   unfold spec_RibStale.j0
   repeat' first
   | (with_reducible exact ih0 _ _ _)
   | (with_reducible exact spec_RibRight.mono _ _)
   | (with_reducible exact spec_l06Stale.mono _ _ _)
   | (with_reducible exact LeO.refl _)
   | (with_reducible exact LeO.none _)
   | (with_reducible refine LeO.ite ?_ ?_)
   | (with_reducible refine LeO.bind ?_ (fun _ => ?_))
   | exact ih0 _ _ _
   | exact spec_RibRight.mono _ _
   | exact spec_l06Stale.mono _ _ _
   | exact LeO.none _
   | refine LeO.ite ?_ ?_
   | refine LeO.bind ?_ (fun _ => ?_)
theorem spec_RibStale.mono : ∀ a0 a1 k, LeO (spec_RibStale.f k a0 a1) (spec_RibStale.f (k + 1) a0 a1) := by
 intro a0 a1 k
 have ih0 := spec_RibStale.mono_l k
 unfold spec_RibStale.f
 repeat' first
   | (with_reducible exact ih0 _ _ _)
   | (with_reducible exact spec_RibRight.mono _ _)
   | (with_reducible exact spec_l06Stale.mono _ _ _)
   | (with_reducible exact LeO.refl _)
   | (with_reducible exact LeO.none _)
   | (with_reducible refine LeO.ite ?_ ?_)
   | (with_reducible refine LeO.bind ?_ (fun _ => ?_))
   | exact ih0 _ _ _
   | exact spec_RibRight.mono _ _
   | exact spec_l06Stale.mono _ _ _
   | exact LeO.none _
   | refine LeO.ite ?_ ?_
   | refine LeO.bind ?_ (fun _ => ?_)
set_option maxHeartbeats 8000000 in
set_option maxRecDepth 100000 in
theorem spec_RibStale.calls (k : Nat) (A0 : Option Addr) (c0 : Nat) (l0 : List (S73)) (a1 : Int) (r1 : List (S73)) (r2 : List (S42)) (r3 : Int) (w : World) (hr0 : Kd.C k73 w A0 l0.length l0) (hc0 : l0.length ≤ c0) (h : spec_RibStale.f k l0 a1 = some (r1, r2, r3)) :
  Calls Try.prog 22 #[.slice A0 l0.length c0, .int .i64 a1] w fun e w' => ∃ v0_ v1_ : Value, e = .returned (.agg #[v0_, v1_, .int .i64 r3]) ∧ Kd.R k73 73 w' w.heap.size (fun _ => True) v0_ r1 ∧ Kd.R k42 42 w' w.heap.size (fun _ => True) v1_ r2 ∧ Below w.heap.size w w' := by
 have hu34 := Try.underlying34
 have HR0 := Aside0.mk hr0
 have HC0 := Aside0.mk hc0
 clear hr0 hc0
 have HB := Aside0.mk (Below.refl w.heap.size w)
 have H : (if (l0.length : Int) > 400 then ((spec_l06Ill.f 2).bind fun bt180 => (some (bt180.1, bt180.2.1, bt180.2.2))) else ((spec_RibRight.f k l0).bind fun t187 => (if t187 = true then ((spec_l06Peer.f a1).bind fun t188 => (spec_RibStale.j0 k l0 a1 (!t188))) else (spec_RibStale.j0 k l0 a1 true)))) = some (r1, r2, r3) := h
 clear h
 by_cases c3 : (l0.length : Int) > 400
 ·rw [if_pos c3] at H
  have c3b0 : decide (400 < (l0.length : Int)) = true := decide_eq_true c3
  have c3b1 : decide (400 < l0.length) = true := decide_eq_true (by omega)
  clear c3
  replace H := Option.bind_eq_some_iff.mp H
  obtain ⟨⟨t180, t183, t186⟩, A40, H⟩ := H
  replace H : (some (t180, t183, t186)) = some (r1, r2, r3) := H
  have A4 := Aside0.mk A40
  clear A40
  simp only [Option.some.injEq, Prod.mk.injEq] at H
  obtain ⟨rfl, rfl, rfl⟩ := H
  go_enter Try.func22, Try.ntmps22
  go_wp2_with (first | ((with_reducible refine gate_dst (N := 4) rfl ?_); refine box_event ?hg (N := 4) ?hd (cs := #[.slice none 0 0, .slice none 0 0, .int .i64 0]) (t := 34) ?hr ?_; (case hd => rfl); (case hg => rfl); (case hr => first | (go_simp; done) | (go_simp; rfl)); intro gb179 hg w5 hbox hb; have n0_ := Aside0.mk (below_step (by repeat (first | (with_reducible first | exact HB.out | apply below_alloc | apply pw_below_drewN | apply below_drew1) | exact HB.out)) hb); have n1_ := Aside0.mk (hbox); have n2_ := Aside0.mk ((by rw [hg]; exact (below_size (by repeat (first | (with_reducible first | exact HB.out | apply below_alloc | apply pw_below_drewN | apply below_drew1) | exact HB.out))) : w.heap.size ≤ gb179)); have n3_ := Aside0.mk ((by rw [hg]; exact (below_size (by repeat (first | (with_reducible first | exact HB.out | apply below_alloc | apply pw_below_drewN | apply below_drew1) | exact HB.out))) : w.heap.size ≤ gb179)); clear HB; have HB := n0_; have BK179 := n1_; have GW179 := n2_; have GE179 := n3_; clear n0_ n1_ n2_ n3_; clear hb hbox hg) | ((with_reducible refine gate_callee (f := 61) rfl ?_); refine goesL_ (some 8) rfl rfl Try.func61 (by kernel_rfl) rfl #[.int .i64 2] rfl (by (try simp only [List.map_toArray, List.map_cons, List.map_nil]); first | done | rfl | (simp only [List.length_drop, List.length_take]; rfl)) ?_; (with_reducible refine (spec_l06Ill.calls 2 t180 t183 t186 _ A4.out).mono ?_); rintro e w6 ⟨v181, v184, rfl, ho0, ho1, hb⟩; refine ⟨_, rfl, ?_⟩; have n0_ := Aside0.mk (Kd.R_lower ho0 (below_size (by repeat (first | (with_reducible first | exact HB.out | apply below_alloc | apply pw_below_drewN | apply below_drew1 | refine below_set ?_ GE179.out) | exact HB.out)))); have n1_ := Aside0.mk (Kd.R_lower ho1 (below_size (by repeat (first | (with_reducible first | exact HB.out | apply below_alloc | apply pw_below_drewN | apply below_drew1 | refine below_set ?_ GE179.out) | exact HB.out)))); have n2_ := Aside0.mk (blk_below (g := gb179) (o := .cells #[.slice none 0 0, .slice none 0 0, .int .i64 0] 34 (0, 0)) (by (with_reducible repeat (first | refine blk_drewN ?_ _ | refine blk_drew ?_ | refine blk_alloc ?_ _)); exact BK179.out) hb); have n3_ := Aside0.mk (below_step (by repeat (first | (with_reducible first | exact HB.out | apply below_alloc | apply pw_below_drewN | apply below_drew1 | refine below_set ?_ GE179.out) | exact HB.out)) hb); clear BK179; clear HB; have HO182 := n0_; have HO185 := n1_; have BK179 := n2_; have HB := n3_; clear n0_ n1_ n2_ n3_; (try clear hb); (try clear hb2); (try clear hk); (try clear hi); (try clear ho0); (try clear ho1); obtain ⟨Ao7, co7, eo7⟩ := Kd.R_slice HO182.out; subst eo7; have hcz8_0 : w6.cell? ⟨gb179, 0, none⟩ = some (.slice none 0 0) := (blk_cell BK179.out 0).trans rfl; have hcz8_1 : w6.cell? ⟨gb179, 1, none⟩ = some (.slice none 0 0) := (blk_cell BK179.out 1).trans rfl; have hcz8_2 : w6.cell? ⟨gb179, 2, none⟩ = some (.int .i64 0) := (blk_cell BK179.out 2).trans rfl; have hfz8_0 := blk_frozen BK179.out 0; have hfz8_1 := blk_frozen BK179.out 1; have hfz8_2 := blk_frozen BK179.out 2; obtain ⟨Ao9, co9, eo9⟩ := Kd.R_slice HO185.out; subst eo9))
  refine bodyPost_ret (results_cell_row rfl _ _ gb179 34 #[.slice Ao7 t180.length co7, .slice Ao9 t183.length co9, .int .i64 t186] (0, 0) _ rfl (by (with_reducible repeat (first | refine blk_drewN ?_ _ | refine blk_drew ?_ | refine blk_alloc ?_ _)); refine blk_put (cs := #[.slice Ao7 t180.length co7, .slice Ao9 t183.length co9, .int .i64 0]) ?_ 2 _ rfl; (with_reducible repeat (first | refine blk_drewN ?_ _ | refine blk_drew ?_ | refine blk_alloc ?_ _)); refine blk_put (cs := #[.slice Ao7 t180.length co7, .slice none 0 0, .int .i64 0]) ?_ 1 _ rfl; (with_reducible repeat (first | refine blk_drewN ?_ _ | refine blk_drew ?_ | refine blk_alloc ?_ _)); refine blk_put (cs := #[.slice none 0 0, .slice none 0 0, .int .i64 0]) ?_ 0 _ rfl; (with_reducible repeat (first | refine blk_drewN ?_ _ | refine blk_drew ?_ | refine blk_alloc ?_ _)); exact BK179.out) Try.underlying34 rfl (by kernel_rfl)) rfl ?_
  exact ⟨_, _, by first | rfl | (simp [errW_none, errW_some] <;> rfl) | (simp [*, errW_none, errW_some] <;> rfl), by (with_reducible repeat (first | apply Kd.R_alloc | apply Kd.R_drewN | apply Kd.R_drew)); exact Kd.R_mono (Kd.R_far (p := ⟨gb179, 2, none⟩) (Kd.R_far (p := ⟨gb179, 1, none⟩) (Kd.R_far (p := ⟨gb179, 0, none⟩) (Kd.R_types HO182.out BK179.out (by decide)) (fun _ hk => hk.2) (.slice Ao7 t180.length co7)) (fun _ hk => hk.2) (.slice Ao9 t183.length co9)) (fun _ hk => hk.2) (.int .i64 t186)) (fun _ hk => trivial), by (with_reducible repeat (first | apply Kd.R_alloc | apply Kd.R_drewN | apply Kd.R_drew)); exact Kd.R_mono (Kd.R_far (p := ⟨gb179, 2, none⟩) (Kd.R_far (p := ⟨gb179, 1, none⟩) (Kd.R_far (p := ⟨gb179, 0, none⟩) (Kd.R_types HO185.out BK179.out (by decide)) (fun _ hk => hk.2) (.slice Ao7 t180.length co7)) (fun _ hk => hk.2) (.slice Ao9 t183.length co9)) (fun _ hk => hk.2) (.int .i64 t186)) (fun _ hk => trivial), by repeat (first | (with_reducible first | exact HB.out | apply below_alloc | apply pw_below_drewN | apply below_drew1 | refine below_set ?_ GE179.out) | exact HB.out)⟩
 ·rw [if_neg c3] at H
  have c3b0 : decide (400 < (l0.length : Int)) = false := decide_eq_false c3
  have c3b1 : decide (400 < l0.length) = false := decide_eq_false (by omega)
  clear c3
  have HC10 := Aside0.mk H
  clear H
  go_enter Try.func22, Try.ntmps22
  go_upto_region 3 with (first | ((with_reducible refine gate_dst (N := 4) rfl ?_); refine box_event ?hg (N := 4) ?hd (cs := #[.slice none 0 0, .slice none 0 0, .int .i64 0]) (t := 34) ?hr ?_; (case hd => rfl); (case hg => rfl); (case hr => first | (go_simp; done) | (go_simp; rfl)); intro gb179 hg w11 hbox hb; have n0_ := Aside0.mk (below_step (by repeat (first | (with_reducible first | exact HB.out | apply below_alloc | apply pw_below_drewN | apply below_drew1) | exact HB.out)) hb); have n1_ := Aside0.mk (hbox); have n2_ := Aside0.mk ((by rw [hg]; exact (below_size (by repeat (first | (with_reducible first | exact HB.out | apply below_alloc | apply pw_below_drewN | apply below_drew1) | exact HB.out))) : w.heap.size ≤ gb179)); have n3_ := Aside0.mk ((by rw [hg]; exact (below_size (by repeat (first | (with_reducible first | exact HB.out | apply below_alloc | apply pw_below_drewN | apply below_drew1) | exact HB.out))) : w.heap.size ≤ gb179)); clear HB; have HB := n0_; have BK179 := n1_; have GW179 := n2_; have GE179 := n3_; clear n0_ n1_ n2_ n3_; clear hb hbox hg))
  (try simp only [Act.put, List.setIfInBounds_toArray, List.set_cons_zero, List.set_cons_succ])
  go_cut [16] (fun v16 wc => ∃ (kq : Nat) (x16_9 : Bool), v16 = .bool x16_9 ∧ Aside0 (spec_RibStale.j0 kq l0 a1 x16_9 = some (r1, r2, r3)) ∧ Aside0 (kq ≤ k) ∧ Aside0 (wc.heap[gb179]? = some (.cells #[(.slice none 0 0), (.slice none 0 0), .int .i64 0] 34 (0, 0))) ∧ Aside0 (Below w.heap.size w wc))
  case first =>
   have H := HC10.out
   clear HC10
   replace H := Option.bind_eq_some_iff.mp H
   obtain ⟨t187, A120, H⟩ := H
   replace H : (if t187 = true then ((spec_l06Peer.f a1).bind fun t188 => (spec_RibStale.j0 k l0 a1 (!t188))) else (spec_RibStale.j0 k l0 a1 true)) = some (r1, r2, r3) := H
   have A12 := Aside0.mk A120
   clear A120
   by_cases c13 : t187 = true
   ·subst c13
    have H1 : ((spec_l06Peer.f a1).bind fun t188 => (spec_RibStale.j0 k l0 a1 (!t188))) = some (r1, r2, r3) := by rw [if_pos rfl] at H; exact H
    clear H
    have H := H1
    clear H1
    replace H := Option.bind_eq_some_iff.mp H
    obtain ⟨t188, A140, H⟩ := H
    replace H : (spec_RibStale.j0 k l0 a1 (!t188)) = some (r1, r2, r3) := H
    have A14 := Aside0.mk A140
    clear A140
    have H' := Aside0.mk H
    clear H
    go_wp2_with (first | ((with_reducible refine gate_callee (f := 54) rfl ?_); refine goesL_ (some 10) rfl rfl Try.func54 (by kernel_rfl) rfl #[.slice A0 l0.length c0] rfl (by (try simp only [List.map_toArray, List.map_cons, List.map_nil]); first | done | rfl | (simp only [List.length_drop, List.length_take]; rfl)) ?_; (with_reducible refine (spec_RibRight.calls k _ _ l0 true _ ?side1 ?side2 A12.out).mono ?_); (case side1 => repeat (first | exact (Kd.C_below HR0.out HB.out) | (with_reducible refine Kd.C_alloc ?_ _) | (with_reducible refine Kd.C_drewN ?_ _) | (with_reducible refine Kd.C_drew ?_))); (case side2 => exact HC0.out); rintro e w15 ⟨rfl, hb⟩; refine ⟨_, rfl, ?_⟩; have n0_ := Aside0.mk (blk_below (g := gb179) (o := .cells #[.slice none 0 0, .slice none 0 0, .int .i64 0] 34 (0, 0)) (by (with_reducible repeat (first | refine blk_drewN ?_ _ | refine blk_drew ?_ | refine blk_alloc ?_ _)); exact BK179.out) hb); have n1_ := Aside0.mk (below_step (by repeat (first | (with_reducible first | exact HB.out | apply below_alloc | apply pw_below_drewN | apply below_drew1 | refine below_set ?_ GE179.out) | exact HB.out)) hb); clear BK179; clear HB; have BK179 := n0_; have HB := n1_; clear n0_ n1_; (try clear hb); (try clear hb2); (try clear hk); (try clear hi)) | (go_at_call 62; (with_reducible refine (spec_l06Peer.calls a1 t188 _ A14.out).mono ?_); rintro e w' ⟨rfl, ⟨nd, rfl⟩⟩))
    go_meet
    case rel => exact ⟨_, (!t188), (by first | rfl | (simp; done) | (simp [*]; done)), H', ⟨by first | omega | exact Nat.le_refl _⟩, ⟨by (with_reducible repeat (first | refine blk_drewN ?_ _ | refine blk_drew ?_ | refine blk_alloc ?_ _)); exact BK179.out⟩, ⟨by repeat (first | (with_reducible first | exact HB.out | apply below_alloc | apply pw_below_drewN | apply below_drew1 | refine below_set ?_ GE179.out) | exact HB.out)⟩⟩
   ·replace c13 := Bool.eq_false_iff.mpr c13
    subst c13
    have H1 : (spec_RibStale.j0 k l0 a1 true) = some (r1, r2, r3) := by rw [if_neg (show ¬ (false = true) by decide)] at H; exact H
    clear H
    have H := H1
    clear H1
    have H' := Aside0.mk H
    clear H
    go_wp2_with (first | ((with_reducible refine gate_callee (f := 54) rfl ?_); refine goesL_ (some 10) rfl rfl Try.func54 (by kernel_rfl) rfl #[.slice A0 l0.length c0] rfl (by (try simp only [List.map_toArray, List.map_cons, List.map_nil]); first | done | rfl | (simp only [List.length_drop, List.length_take]; rfl)) ?_; (with_reducible refine (spec_RibRight.calls k _ _ l0 false _ ?side1 ?side2 A12.out).mono ?_); (case side1 => repeat (first | exact (Kd.C_below HR0.out HB.out) | (with_reducible refine Kd.C_alloc ?_ _) | (with_reducible refine Kd.C_drewN ?_ _) | (with_reducible refine Kd.C_drew ?_))); (case side2 => exact HC0.out); rintro e w16 ⟨rfl, hb⟩; refine ⟨_, rfl, ?_⟩; have n0_ := Aside0.mk (blk_below (g := gb179) (o := .cells #[.slice none 0 0, .slice none 0 0, .int .i64 0] 34 (0, 0)) (by (with_reducible repeat (first | refine blk_drewN ?_ _ | refine blk_drew ?_ | refine blk_alloc ?_ _)); exact BK179.out) hb); have n1_ := Aside0.mk (below_step (by repeat (first | (with_reducible first | exact HB.out | apply below_alloc | apply pw_below_drewN | apply below_drew1 | refine below_set ?_ GE179.out) | exact HB.out)) hb); clear BK179; clear HB; have BK179 := n0_; have HB := n1_; clear n0_ n1_; (try clear hb); (try clear hb2); (try clear hk); (try clear hi)))
    go_meet
    case rel => exact ⟨_, (true), (by first | rfl | (simp; done) | (simp [*]; done)), H', ⟨by first | omega | exact Nat.le_refl _⟩, ⟨by (with_reducible repeat (first | refine blk_drewN ?_ _ | refine blk_drew ?_ | refine blk_alloc ?_ _)); exact BK179.out⟩, ⟨by repeat (first | (with_reducible first | exact HB.out | apply below_alloc | apply pw_below_drewN | apply below_drew1 | refine below_set ?_ GE179.out) | exact HB.out)⟩⟩
  case rest =>
   clear HC10
   try clear c1
   try clear c2
   try clear p2
   try clear c3
   try clear c3b0
   try clear c3b1
   try clear c5
   try clear c6
   try clear c13
   try clear hcz8_0
   try clear hcz8_1
   try clear hcz8_2
   try clear hfz8_0
   try clear hfz8_1
   try clear hfz8_2
   obtain ⟨kq, x16_9, rfl, HA, HJ9, BK179, HB⟩ := hcut
   cases kq with
   | zero => exact absurd HA.out (by simp [spec_RibStale.j0])
   | succ kj9 =>
    have H := HA.out
    clear HA
    simp only [spec_RibStale.j0] at H
    by_cases c17 : x16_9 = true
    ·subst c17
     have H1 : ((spec_l06Ill.f 1).bind fun bt189 => (some (bt189.1, bt189.2.1, bt189.2.2))) = some (r1, r2, r3) := by rw [if_pos rfl] at H; exact H
     clear H
     have H := H1
     clear H1
     replace H := Option.bind_eq_some_iff.mp H
     obtain ⟨⟨t189, t192, t195⟩, A180, H⟩ := H
     replace H : (some (t189, t192, t195)) = some (r1, r2, r3) := H
     have A18 := Aside0.mk A180
     clear A180
     simp only [Option.some.injEq, Prod.mk.injEq] at H
     obtain ⟨rfl, rfl, rfl⟩ := H
     go_wp2_with (first | ((with_reducible refine gate_callee (f := 61) rfl ?_); refine goesL_ (some 17) rfl rfl Try.func61 (by kernel_rfl) rfl #[.int .i64 1] rfl (by (try simp only [List.map_toArray, List.map_cons, List.map_nil]); first | done | rfl | (simp only [List.length_drop, List.length_take]; rfl)) ?_; (with_reducible refine (spec_l06Ill.calls 1 t189 t192 t195 _ A18.out).mono ?_); rintro e w19 ⟨v190, v193, rfl, ho0, ho1, hb⟩; refine ⟨_, rfl, ?_⟩; have n0_ := Aside0.mk (Kd.R_lower ho0 (below_size (by repeat (first | (with_reducible first | exact HB.out | apply below_alloc | apply pw_below_drewN | apply below_drew1 | refine below_set ?_ GE179.out) | exact HB.out)))); have n1_ := Aside0.mk (Kd.R_lower ho1 (below_size (by repeat (first | (with_reducible first | exact HB.out | apply below_alloc | apply pw_below_drewN | apply below_drew1 | refine below_set ?_ GE179.out) | exact HB.out)))); have n2_ := Aside0.mk (blk_below (g := gb179) (o := .cells #[.slice none 0 0, .slice none 0 0, .int .i64 0] 34 (0, 0)) (by (with_reducible repeat (first | refine blk_drewN ?_ _ | refine blk_drew ?_ | refine blk_alloc ?_ _)); exact BK179.out) hb); have n3_ := Aside0.mk (below_step (by repeat (first | (with_reducible first | exact HB.out | apply below_alloc | apply pw_below_drewN | apply below_drew1 | refine below_set ?_ GE179.out) | exact HB.out)) hb); clear BK179; clear HB; have HO191 := n0_; have HO194 := n1_; have BK179 := n2_; have HB := n3_; clear n0_ n1_ n2_ n3_; (try clear hb); (try clear hb2); (try clear hk); (try clear hi); (try clear ho0); (try clear ho1); obtain ⟨Ao20, co20, eo20⟩ := Kd.R_slice HO191.out; subst eo20; have hcz21_0 : w19.cell? ⟨gb179, 0, none⟩ = some (.slice none 0 0) := (blk_cell BK179.out 0).trans rfl; have hcz21_1 : w19.cell? ⟨gb179, 1, none⟩ = some (.slice none 0 0) := (blk_cell BK179.out 1).trans rfl; have hcz21_2 : w19.cell? ⟨gb179, 2, none⟩ = some (.int .i64 0) := (blk_cell BK179.out 2).trans rfl; have hfz21_0 := blk_frozen BK179.out 0; have hfz21_1 := blk_frozen BK179.out 1; have hfz21_2 := blk_frozen BK179.out 2; obtain ⟨Ao22, co22, eo22⟩ := Kd.R_slice HO194.out; subst eo22))
     refine bodyPost_ret (results_cell_row rfl _ _ gb179 34 #[.slice Ao20 t189.length co20, .slice Ao22 t192.length co22, .int .i64 t195] (0, 0) _ rfl (by (with_reducible repeat (first | refine blk_drewN ?_ _ | refine blk_drew ?_ | refine blk_alloc ?_ _)); refine blk_put (cs := #[.slice Ao20 t189.length co20, .slice Ao22 t192.length co22, .int .i64 0]) ?_ 2 _ rfl; (with_reducible repeat (first | refine blk_drewN ?_ _ | refine blk_drew ?_ | refine blk_alloc ?_ _)); refine blk_put (cs := #[.slice Ao20 t189.length co20, .slice none 0 0, .int .i64 0]) ?_ 1 _ rfl; (with_reducible repeat (first | refine blk_drewN ?_ _ | refine blk_drew ?_ | refine blk_alloc ?_ _)); refine blk_put (cs := #[.slice none 0 0, .slice none 0 0, .int .i64 0]) ?_ 0 _ rfl; (with_reducible repeat (first | refine blk_drewN ?_ _ | refine blk_drew ?_ | refine blk_alloc ?_ _)); exact BK179.out) Try.underlying34 rfl (by kernel_rfl)) rfl ?_
     exact ⟨_, _, by first | rfl | (simp [errW_none, errW_some] <;> rfl) | (simp [*, errW_none, errW_some] <;> rfl), by (with_reducible repeat (first | apply Kd.R_alloc | apply Kd.R_drewN | apply Kd.R_drew)); exact Kd.R_mono (Kd.R_far (p := ⟨gb179, 2, none⟩) (Kd.R_far (p := ⟨gb179, 1, none⟩) (Kd.R_far (p := ⟨gb179, 0, none⟩) (Kd.R_types HO191.out BK179.out (by decide)) (fun _ hk => hk.2) (.slice Ao20 t189.length co20)) (fun _ hk => hk.2) (.slice Ao22 t192.length co22)) (fun _ hk => hk.2) (.int .i64 t195)) (fun _ hk => trivial), by (with_reducible repeat (first | apply Kd.R_alloc | apply Kd.R_drewN | apply Kd.R_drew)); exact Kd.R_mono (Kd.R_far (p := ⟨gb179, 2, none⟩) (Kd.R_far (p := ⟨gb179, 1, none⟩) (Kd.R_far (p := ⟨gb179, 0, none⟩) (Kd.R_types HO194.out BK179.out (by decide)) (fun _ hk => hk.2) (.slice Ao20 t189.length co20)) (fun _ hk => hk.2) (.slice Ao22 t192.length co22)) (fun _ hk => hk.2) (.int .i64 t195)) (fun _ hk => trivial), by repeat (first | (with_reducible first | exact HB.out | apply below_alloc | apply pw_below_drewN | apply below_drew1 | refine below_set ?_ GE179.out) | exact HB.out)⟩
    ·replace c17 := Bool.eq_false_iff.mpr c17
     subst c17
     have H1 : ((spec_l06Stale.f kj9 l0 a1).bind fun t196 => (some (t196, ([] : List (S42)), 0))) = some (r1, r2, r3) := by rw [if_neg (show ¬ (false = true) by decide)] at H; exact H
     clear H
     have H := H1
     clear H1
     replace H := Option.bind_eq_some_iff.mp H
     obtain ⟨t196, A230, H⟩ := H
     replace H : (some (t196, ([] : List (S42)), 0)) = some (r1, r2, r3) := H
     have A23 := Aside0.mk A230
     clear A230
     simp only [Option.some.injEq, Prod.mk.injEq] at H
     obtain ⟨rfl, rfl, rfl⟩ := H
     go_wp2_with (first | ((with_reducible refine gate_callee (f := 63) rfl ?_); refine goesL_ (some 20) rfl rfl Try.func63 (by kernel_rfl) rfl #[.slice A0 l0.length c0, .int .i64 a1] rfl (by (try simp only [List.map_toArray, List.map_cons, List.map_nil]); first | done | rfl | (simp only [List.length_drop, List.length_take]; rfl)) ?_; (with_reducible refine (spec_l06Stale.calls kj9 _ _ l0 a1 t196 _ ?side1 ?side2 A23.out).mono ?_); (case side1 => repeat (first | exact (Kd.C_below HR0.out HB.out) | (with_reducible refine Kd.C_alloc ?_ _) | (with_reducible refine Kd.C_drewN ?_ _) | (with_reducible refine Kd.C_drew ?_))); (case side2 => exact HC0.out); rintro e w24 ⟨v197, rfl, ho0, hb⟩; refine ⟨_, rfl, ?_⟩; have n0_ := Aside0.mk (Kd.R_lower ho0 (below_size (by repeat (first | (with_reducible first | exact HB.out | apply below_alloc | apply pw_below_drewN | apply below_drew1 | refine below_set ?_ GE179.out) | exact HB.out)))); have n1_ := Aside0.mk (blk_below (g := gb179) (o := .cells #[.slice none 0 0, .slice none 0 0, .int .i64 0] 34 (0, 0)) (by (with_reducible repeat (first | refine blk_drewN ?_ _ | refine blk_drew ?_ | refine blk_alloc ?_ _)); exact BK179.out) hb); have n2_ := Aside0.mk (below_step (by repeat (first | (with_reducible first | exact HB.out | apply below_alloc | apply pw_below_drewN | apply below_drew1 | refine below_set ?_ GE179.out) | exact HB.out)) hb); clear BK179; clear HB; have HO198 := n0_; have BK179 := n1_; have HB := n2_; clear n0_ n1_ n2_; (try clear hb); (try clear hb2); (try clear hk); (try clear hi); (try clear ho0); obtain ⟨Ao25, co25, eo25⟩ := Kd.R_slice HO198.out; subst eo25; have hcz26_0 : w24.cell? ⟨gb179, 0, none⟩ = some (.slice none 0 0) := (blk_cell BK179.out 0).trans rfl; have hcz26_1 : w24.cell? ⟨gb179, 1, none⟩ = some (.slice none 0 0) := (blk_cell BK179.out 1).trans rfl; have hcz26_2 : w24.cell? ⟨gb179, 2, none⟩ = some (.int .i64 0) := (blk_cell BK179.out 2).trans rfl; have hfz26_0 := blk_frozen BK179.out 0; have hfz26_1 := blk_frozen BK179.out 1; have hfz26_2 := blk_frozen BK179.out 2))
     refine bodyPost_ret (results_cell_row rfl _ _ gb179 34 #[.slice Ao25 t196.length co25, .slice none 0 0, .int .i64 0] (0, 0) _ rfl (by (with_reducible repeat (first | refine blk_drewN ?_ _ | refine blk_drew ?_ | refine blk_alloc ?_ _)); refine blk_put (cs := #[.slice Ao25 t196.length co25, .slice none 0 0, .int .i64 0]) ?_ 2 _ rfl; (with_reducible repeat (first | refine blk_drewN ?_ _ | refine blk_drew ?_ | refine blk_alloc ?_ _)); refine blk_put (cs := #[.slice Ao25 t196.length co25, .slice none 0 0, .int .i64 0]) ?_ 1 _ rfl; (with_reducible repeat (first | refine blk_drewN ?_ _ | refine blk_drew ?_ | refine blk_alloc ?_ _)); refine blk_put (cs := #[.slice none 0 0, .slice none 0 0, .int .i64 0]) ?_ 0 _ rfl; (with_reducible repeat (first | refine blk_drewN ?_ _ | refine blk_drew ?_ | refine blk_alloc ?_ _)); exact BK179.out) Try.underlying34 rfl (by kernel_rfl)) rfl ?_
     exact ⟨_, _, by first | rfl | (simp [errW_none, errW_some] <;> rfl) | (simp [*, errW_none, errW_some] <;> rfl), by (with_reducible repeat (first | apply Kd.R_alloc | apply Kd.R_drewN | apply Kd.R_drew)); exact Kd.R_mono (Kd.R_far (p := ⟨gb179, 2, none⟩) (Kd.R_far (p := ⟨gb179, 1, none⟩) (Kd.R_far (p := ⟨gb179, 0, none⟩) (Kd.R_types HO198.out BK179.out (by decide)) (fun _ hk => hk.2) (.slice Ao25 t196.length co25)) (fun _ hk => hk.2) (.slice none 0 0)) (fun _ hk => hk.2) (.int .i64 0)) (fun _ hk => trivial), by first | exact Kd.R_nil _ _ _ _ _ | exact Kd.N_nil _ _ _ _ _ | exact Kd.V_nil _ _ _ _ _ | exact Kd.Q_nil _ _ _ _ _ | exact Kd.S_nil _ _ _ _ _, by repeat (first | (with_reducible first | exact HB.out | apply below_alloc | apply pw_below_drewN | apply below_drew1 | refine below_set ?_ GE179.out) | exact HB.out)⟩
def impl_in.f (a0 : Int) (a1 : Int) (a2 : Int) : Option (Bool) := if a1 ≤ a0 then (some (decide (a0 ≤ a2))) else (some false)
set_option maxHeartbeats 8000000 in
set_option maxRecDepth 100000 in
theorem impl_in.calls (a0 : Int) (a1 : Int) (a2 : Int) (r : Bool) (w : World) (h : impl_in.f a0 a1 a2 = some r) :
  Calls Try.prog 90 #[.int .i64 a0, .int .i64 a1, .int .i64 a2] w fun e w' => e = .returned (.bool r) ∧ Drawn0 w w' := by
 have H : (if a1 ≤ a0 then (some (decide (a0 ≤ a2))) else (some false)) = some r := h
 clear h
 by_cases c4 : a1 ≤ a0
 ·rw [if_pos c4] at H
  have c4b0 : decide (a1 ≤ a0) = true := decide_eq_true c4
  clear c4
  obtain rfl := Option.some.inj H
  go_enter Try.func90, Try.ntmps90
  go_wp2
  go_ret
  exact ⟨by first | rfl | (simp; done) | (simp [*]; done), by repeat (first | exact Drawn0.refl _ | apply Drawn0.step)⟩
 ·rw [if_neg c4] at H
  have c4b0 : decide (a1 ≤ a0) = false := decide_eq_false c4
  clear c4
  obtain rfl := Option.some.inj H
  go_enter Try.func90, Try.ntmps90
  go_wp2
  go_ret
  exact ⟨by first | rfl | (simp; done) | (simp [*]; done), by repeat (first | exact Drawn0.refl _ | apply Drawn0.step)⟩
def impl_isVni.f (a0 : Int) : Option (Bool) := (impl_in.f a0 1 16777215).bind fun t199 => (some t199)
set_option maxHeartbeats 8000000 in
set_option maxRecDepth 100000 in
theorem impl_isVni.calls (a0 : Int) (r : Bool) (w : World) (h : impl_isVni.f a0 = some r) :
  Calls Try.prog 77 #[.int .i64 a0] w fun e w' => e = .returned (.bool r) ∧ Drawn0 w w' := by
 have H : ((impl_in.f a0 1 16777215).bind fun t199 => (some t199)) = some r := h
 clear h
 replace H := Option.bind_eq_some_iff.mp H
 obtain ⟨t199, A20, H⟩ := H
 replace H : (some t199) = some r := H
 have A2 := Aside0.mk A20
 clear A20
 obtain rfl := Option.some.inj H
 go_enter Try.func77, Try.ntmps77
 go_wp2_with (first | ((with_reducible refine gate_callee (f := 90) rfl ?_); refine goesL_ (some 4) rfl rfl Try.func90 (by kernel_rfl) rfl #[.int .i64 a0, .int .i64 1, .int .i64 16777215] rfl (by (try simp only [List.map_toArray, List.map_cons, List.map_nil]); first | done | rfl | (simp only [List.length_drop, List.length_take]; rfl)) ?_; (with_reducible refine (impl_in.calls a0 1 16777215 t199 _ A2.out).mono ?_); rintro e w' ⟨rfl, ⟨nd, rfl⟩⟩; refine ⟨_, rfl, ?_⟩))
 go_ret
 exact ⟨by first | rfl | (simp; done) | (simp [*]; done), by repeat (first | exact Drawn0.refl _ | apply Drawn0.step)⟩
def impl_isHouse.f (a0 : Int) : Option (Bool) := (impl_in.f a0 1 4).bind fun t200 => (some t200)
set_option maxHeartbeats 8000000 in
set_option maxRecDepth 100000 in
theorem impl_isHouse.calls (a0 : Int) (r : Bool) (w : World) (h : impl_isHouse.f a0 = some r) :
  Calls Try.prog 111 #[.int .i64 a0] w fun e w' => e = .returned (.bool r) ∧ Drawn0 w w' := by
 have H : ((impl_in.f a0 1 4).bind fun t200 => (some t200)) = some r := h
 clear h
 replace H := Option.bind_eq_some_iff.mp H
 obtain ⟨t200, A20, H⟩ := H
 replace H : (some t200) = some r := H
 have A2 := Aside0.mk A20
 clear A20
 obtain rfl := Option.some.inj H
 go_enter Try.func111, Try.ntmps111
 go_wp2_with (first | ((with_reducible refine gate_callee (f := 90) rfl ?_); refine goesL_ (some 4) rfl rfl Try.func90 (by kernel_rfl) rfl #[.int .i64 a0, .int .i64 1, .int .i64 4] rfl (by (try simp only [List.map_toArray, List.map_cons, List.map_nil]); first | done | rfl | (simp only [List.length_drop, List.length_take]; rfl)) ?_; (with_reducible refine (impl_in.calls a0 1 4 t200 _ A2.out).mono ?_); rintro e w' ⟨rfl, ⟨nd, rfl⟩⟩; refine ⟨_, rfl, ?_⟩))
 go_ret
 exact ⟨by first | rfl | (simp; done) | (simp [*]; done), by repeat (first | exact Drawn0.refl _ | apply Drawn0.step)⟩
def impl_isMac.f (a0 : Int) : Option (Bool) := (impl_in.f a0 0 281474976710655).bind fun t201 => (some t201)
set_option maxHeartbeats 8000000 in
set_option maxRecDepth 100000 in
theorem impl_isMac.calls (a0 : Int) (r : Bool) (w : World) (h : impl_isMac.f a0 = some r) :
  Calls Try.prog 137 #[.int .i64 a0] w fun e w' => e = .returned (.bool r) ∧ Drawn0 w w' := by
 have H : ((impl_in.f a0 0 281474976710655).bind fun t201 => (some t201)) = some r := h
 clear h
 replace H := Option.bind_eq_some_iff.mp H
 obtain ⟨t201, A20, H⟩ := H
 replace H : (some t201) = some r := H
 have A2 := Aside0.mk A20
 clear A20
 obtain rfl := Option.some.inj H
 go_enter Try.func137, Try.ntmps137
 go_wp2_with (first | ((with_reducible refine gate_callee (f := 90) rfl ?_); refine goesL_ (some 4) rfl rfl Try.func90 (by kernel_rfl) rfl #[.int .i64 a0, .int .i64 0, .int .i64 281474976710655] rfl (by (try simp only [List.map_toArray, List.map_cons, List.map_nil]); first | done | rfl | (simp only [List.length_drop, List.length_take]; rfl)) ?_; (with_reducible refine (impl_in.calls a0 0 281474976710655 t201 _ A2.out).mono ?_); rintro e w' ⟨rfl, ⟨nd, rfl⟩⟩; refine ⟨_, rfl, ?_⟩))
 go_ret
 exact ⟨by first | rfl | (simp; done) | (simp [*]; done), by repeat (first | exact Drawn0.refl _ | apply Drawn0.step)⟩
def impl_IsGroup.f (a0 : Int) : Option (Bool) := (impl_isMac.f a0).bind fun t202 => (if t202 = true then (some ((Go.bits .and .i64 (a0 / 1099511627776) 1) == 1)) else (some false))
set_option maxHeartbeats 8000000 in
set_option maxRecDepth 100000 in
theorem impl_IsGroup.calls (a0 : Int) (r : Bool) (w : World) (h : impl_IsGroup.f a0 = some r) :
  Calls Try.prog 138 #[.int .i64 a0] w fun e w' => e = .returned (.bool r) ∧ Drawn0 w w' := by
 have H : ((impl_isMac.f a0).bind fun t202 => (if t202 = true then (some ((Go.bits .and .i64 (a0 / 1099511627776) 1) == 1)) else (some false))) = some r := h
 clear h
 replace H := Option.bind_eq_some_iff.mp H
 obtain ⟨t202, A20, H⟩ := H
 replace H : (if t202 = true then (some ((Go.bits .and .i64 (a0 / 1099511627776) 1) == 1)) else (some false)) = some r := H
 have A2 := Aside0.mk A20
 clear A20
 by_cases c3 : t202 = true
 ·subst c3
  have H1 : (some ((Go.bits .and .i64 (a0 / 1099511627776) 1) == 1)) = some r := by rw [if_pos rfl] at H; exact H
  clear H
  have H := H1
  clear H1
  obtain rfl := Option.some.inj H
  go_enter Try.func138, Try.ntmps138
  go_wp2_with (first | ((with_reducible refine gate_callee (f := 137) rfl ?_); refine goesL_ (some 4) rfl rfl Try.func137 (by kernel_rfl) rfl #[.int .i64 a0] rfl (by (try simp only [List.map_toArray, List.map_cons, List.map_nil]); first | done | rfl | (simp only [List.length_drop, List.length_take]; rfl)) ?_; (with_reducible refine (impl_isMac.calls a0 true _ A2.out).mono ?_); rintro e w' ⟨rfl, ⟨nd, rfl⟩⟩; refine ⟨_, rfl, ?_⟩))
  go_ret
  exact ⟨by first | rfl | (simp; done) | (simp [*]; done), by repeat (first | exact Drawn0.refl _ | apply Drawn0.step)⟩
 ·replace c3 := Bool.eq_false_iff.mpr c3
  subst c3
  have H1 : (some false) = some r := by rw [if_neg (show ¬ (false = true) by decide)] at H; exact H
  clear H
  have H := H1
  clear H1
  obtain rfl := Option.some.inj H
  go_enter Try.func138, Try.ntmps138
  go_wp2_with (first | ((with_reducible refine gate_callee (f := 137) rfl ?_); refine goesL_ (some 4) rfl rfl Try.func137 (by kernel_rfl) rfl #[.int .i64 a0] rfl (by (try simp only [List.map_toArray, List.map_cons, List.map_nil]); first | done | rfl | (simp only [List.length_drop, List.length_take]; rfl)) ?_; (with_reducible refine (impl_isMac.calls a0 false _ A2.out).mono ?_); rintro e w' ⟨rfl, ⟨nd, rfl⟩⟩; refine ⟨_, rfl, ?_⟩))
  go_ret
  exact ⟨by first | rfl | (simp; done) | (simp [*]; done), by repeat (first | exact Drawn0.refl _ | apply Drawn0.step)⟩
def impl_isGuest.f (a0 : Int) : Option (Bool) := (impl_isMac.f a0).bind fun t203 => (if t203 = true then ((impl_IsGroup.f a0).bind fun t204 => (some (!t204))) else (some false))
set_option maxHeartbeats 8000000 in
set_option maxRecDepth 100000 in
theorem impl_isGuest.calls (a0 : Int) (r : Bool) (w : World) (h : impl_isGuest.f a0 = some r) :
  Calls Try.prog 112 #[.int .i64 a0] w fun e w' => e = .returned (.bool r) ∧ Drawn0 w w' := by
 have H : ((impl_isMac.f a0).bind fun t203 => (if t203 = true then ((impl_IsGroup.f a0).bind fun t204 => (some (!t204))) else (some false))) = some r := h
 clear h
 replace H := Option.bind_eq_some_iff.mp H
 obtain ⟨t203, A20, H⟩ := H
 replace H : (if t203 = true then ((impl_IsGroup.f a0).bind fun t204 => (some (!t204))) else (some false)) = some r := H
 have A2 := Aside0.mk A20
 clear A20
 by_cases c3 : t203 = true
 ·subst c3
  have H1 : ((impl_IsGroup.f a0).bind fun t204 => (some (!t204))) = some r := by rw [if_pos rfl] at H; exact H
  clear H
  have H := H1
  clear H1
  replace H := Option.bind_eq_some_iff.mp H
  obtain ⟨t204, A40, H⟩ := H
  replace H : (some (!t204)) = some r := H
  have A4 := Aside0.mk A40
  clear A40
  obtain rfl := Option.some.inj H
  go_enter Try.func112, Try.ntmps112
  go_wp2_with (first | ((with_reducible refine gate_callee (f := 137) rfl ?_); refine goesL_ (some 4) rfl rfl Try.func137 (by kernel_rfl) rfl #[.int .i64 a0] rfl (by (try simp only [List.map_toArray, List.map_cons, List.map_nil]); first | done | rfl | (simp only [List.length_drop, List.length_take]; rfl)) ?_; (with_reducible refine (impl_isMac.calls a0 true _ A2.out).mono ?_); rintro e w' ⟨rfl, ⟨nd, rfl⟩⟩; refine ⟨_, rfl, ?_⟩) | (go_at_call 138; (with_reducible refine (impl_IsGroup.calls a0 t204 _ A4.out).mono ?_); rintro e w' ⟨rfl, ⟨nd, rfl⟩⟩))
  go_ret
  exact ⟨by first | rfl | (simp; done) | (simp [*]; done), by repeat (first | exact Drawn0.refl _ | apply Drawn0.step)⟩
 ·replace c3 := Bool.eq_false_iff.mpr c3
  subst c3
  have H1 : (some false) = some r := by rw [if_neg (show ¬ (false = true) by decide)] at H; exact H
  clear H
  have H := H1
  clear H1
  obtain rfl := Option.some.inj H
  go_enter Try.func112, Try.ntmps112
  go_wp2_with (first | ((with_reducible refine gate_callee (f := 137) rfl ?_); refine goesL_ (some 4) rfl rfl Try.func137 (by kernel_rfl) rfl #[.int .i64 a0] rfl (by (try simp only [List.map_toArray, List.map_cons, List.map_nil]); first | done | rfl | (simp only [List.length_drop, List.length_take]; rfl)) ?_; (with_reducible refine (impl_isMac.calls a0 false _ A2.out).mono ?_); rintro e w' ⟨rfl, ⟨nd, rfl⟩⟩; refine ⟨_, rfl, ?_⟩))
  go_ret
  exact ⟨by first | rfl | (simp; done) | (simp [*]; done), by repeat (first | exact Drawn0.refl _ | apply Drawn0.step)⟩
def impl_isIp.f (a0 : Int) : Option (Bool) := (impl_in.f a0 0 4294967295).bind fun t205 => (some t205)
set_option maxHeartbeats 8000000 in
set_option maxRecDepth 100000 in
theorem impl_isIp.calls (a0 : Int) (r : Bool) (w : World) (h : impl_isIp.f a0 = some r) :
  Calls Try.prog 113 #[.int .i64 a0] w fun e w' => e = .returned (.bool r) ∧ Drawn0 w w' := by
 have H : ((impl_in.f a0 0 4294967295).bind fun t205 => (some t205)) = some r := h
 clear h
 replace H := Option.bind_eq_some_iff.mp H
 obtain ⟨t205, A20, H⟩ := H
 replace H : (some t205) = some r := H
 have A2 := Aside0.mk A20
 clear A20
 obtain rfl := Option.some.inj H
 go_enter Try.func113, Try.ntmps113
 go_wp2_with (first | ((with_reducible refine gate_callee (f := 90) rfl ?_); refine goesL_ (some 4) rfl rfl Try.func90 (by kernel_rfl) rfl #[.int .i64 a0, .int .i64 0, .int .i64 4294967295] rfl (by (try simp only [List.map_toArray, List.map_cons, List.map_nil]); first | done | rfl | (simp only [List.length_drop, List.length_take]; rfl)) ?_; (with_reducible refine (impl_in.calls a0 0 4294967295 t205 _ A2.out).mono ?_); rintro e w' ⟨rfl, ⟨nd, rfl⟩⟩; refine ⟨_, rfl, ?_⟩))
 go_ret
 exact ⟨by first | rfl | (simp; done) | (simp [*]; done), by repeat (first | exact Drawn0.refl _ | apply Drawn0.step)⟩
def impl_isTime.f (a0 : Int) : Option (Bool) := (impl_in.f a0 0 1000000).bind fun t206 => (some t206)
set_option maxHeartbeats 8000000 in
set_option maxRecDepth 100000 in
theorem impl_isTime.calls (a0 : Int) (r : Bool) (w : World) (h : impl_isTime.f a0 = some r) :
  Calls Try.prog 114 #[.int .i64 a0] w fun e w' => e = .returned (.bool r) ∧ Drawn0 w w' := by
 have H : ((impl_in.f a0 0 1000000).bind fun t206 => (some t206)) = some r := h
 clear h
 replace H := Option.bind_eq_some_iff.mp H
 obtain ⟨t206, A20, H⟩ := H
 replace H : (some t206) = some r := H
 have A2 := Aside0.mk A20
 clear A20
 obtain rfl := Option.some.inj H
 go_enter Try.func114, Try.ntmps114
 go_wp2_with (first | ((with_reducible refine gate_callee (f := 90) rfl ?_); refine goesL_ (some 4) rfl rfl Try.func90 (by kernel_rfl) rfl #[.int .i64 a0, .int .i64 0, .int .i64 1000000] rfl (by (try simp only [List.map_toArray, List.map_cons, List.map_nil]); first | done | rfl | (simp only [List.length_drop, List.length_take]; rfl)) ?_; (with_reducible refine (impl_in.calls a0 0 1000000 t206 _ A2.out).mono ?_); rintro e w' ⟨rfl, ⟨nd, rfl⟩⟩; refine ⟨_, rfl, ?_⟩))
 go_ret
 exact ⟨by first | rfl | (simp; done) | (simp [*]; done), by repeat (first | exact Drawn0.refl _ | apply Drawn0.step)⟩
end Go.Proofs.Ytmgmaflfednngaa.PFnExactRibStale
