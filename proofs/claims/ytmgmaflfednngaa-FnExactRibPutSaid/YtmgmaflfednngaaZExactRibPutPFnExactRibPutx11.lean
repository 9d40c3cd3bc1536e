-- A copy, made by trim.py (its own words shortened): not an official print.
import Derived.Test.YtmgmaflfednngaaZExactRibPutPFnExactRibPutx0
import Derived.Test.YtmgmaflfednngaaZExactRibPutPFnExactRibPutx1
import Derived.Test.YtmgmaflfednngaaZExactRibPutPFnExactRibPutx5
import Derived.Test.YtmgmaflfednngaaZExactRibPutPFnExactRibPutx6
import Derived.Test.YtmgmaflfednngaaZExactRibPutPFnExactRibPutx8
import Derived.Test.YtmgmaflfednngaaZExactRibPutPFnExactRibPutx9
import Derived.Test.YtmgmaflfednngaaZExactRibPutPFnExactRibPutx10
namespace Go.Proofs.Ytmgmaflfednngaa.PFnExactRibPut
open Go.RowKit Go.Proofs.YtmgmaflfednngaaW.PrintWords Go.Proofs.YtmgmaflfednngaaW.PrintLast Go.Proofs.YtmgmaflfednngaaW.PrintMore
attribute [local go_sem] max2_int min2_int max_two min_two max_three min_three max_four min_four   -- for this text's walks alone
set_option linter.unusedVariables false
set_option linter.unusedSimpArgs false
attribute [local go_sem high] eqA42
def spec_RibPut.j0 : Nat → List (S73) → Int → Bool → Int → Int → Int → Int → Int → Int → Bool → Option ((List (S73)) × (List (S42)) × Int)
 | 0, _, _, _, _, _, _, _, _, _, _ => none
 | k + 1, x0, x1, x23, x249000, x249001, x249002, x249003, x249004, x249005, x249006 => if x23 = true then ((spec_l06Ill.f 1).bind fun bt260 => (some (bt260.1, bt260.2.1, bt260.2.2))) else ((spec_l06Put.f k x0 x1 x249000 x249001 x249002 x249003 x249004 x249005 x249006).bind fun bt267 => (some (bt267.1, bt267.2.1, bt267.2.2)))
def spec_RibPut.f (k : Nat) (l0 : List (S73)) (a1 : Int) (a2_0 : Int) (a2_1 : Int) (a2_2 : Int) (a2_3 : Int) (a2_4 : Int) (a2_5 : Int) (a2_6 : Bool) : Option ((List (S73)) × (List (S42)) × Int) := if (l0.length : Int) > 400 then ((spec_l06Ill.f 2).bind fun bt250 => (some (bt250.1, bt250.2.1, bt250.2.2))) else ((spec_RibRight.f k l0).bind fun t257 => (if t257 = true then ((spec_l06Peer.f a1).bind fun t258 => (if t258 = true then ((spec_RouteRight.f k a2_0 a2_1 a2_2 a2_3 a2_4 a2_5 a2_6).bind fun t259 => (spec_RibPut.j0 k l0 a1 (!t259) a2_0 a2_1 a2_2 a2_3 a2_4 a2_5 a2_6)) else (spec_RibPut.j0 k l0 a1 true a2_0 a2_1 a2_2 a2_3 a2_4 a2_5 a2_6))) else (spec_RibPut.j0 k l0 a1 true a2_0 a2_1 a2_2 a2_3 a2_4 a2_5 a2_6)))
theorem spec_RibPut.mono_l : ∀ k, (∀ y0 y1 y2 y3 y4 y5 y6 y7 y8 y9, LeO (spec_RibPut.j0 k y0 y1 y2 y3 y4 y5 y6 y7 y8 y9) (spec_RibPut.j0 (k + 1) y0 y1 y2 y3 y4 y5 y6 y7 y8 y9))
 | 0 => fun _ _ _ _ _ _ _ _ _ _ r h => by simp [spec_RibPut.j0] at h
 | k + 1 => by
  have ih0 := spec_RibPut.mono_l k
  ·intro y0 y1 y2 y3 y4 y5 y6 y7 y8 y9
   unfold spec_RibPut.j0
   repeat' first
   | (with_reducible exact ih0 _ _ _ _ _ _ _ _ _ _)
   | (with_reducible exact spec_RibRight.mono _ _)
   | (with_reducible exact spec_RouteRight.mono _ _ _ _ _ _ _ _)
   | (with_reducible exact spec_l06Put.mono _ _ _ _ _ _ _ _ _ _)
   | (with_reducible exact LeO.refl _)
   | (with_reducible exact LeO.none _)
   | (with_reducible refine LeO.ite ?_ ?_)
   | (with_reducible refine LeO.bind ?_ (fun _ => ?_))
   | exact ih0 _ _ _ _ _ _ _ _ _ _
   | exact spec_RibRight.mono _ _
   | exact spec_RouteRight.mono _ _ _ _ _ _ _ _
   | exact spec_l06Put.mono _ _ _ _ _ _ _ _ _ _
   | exact LeO.none _
   | refine LeO.ite ?_ ?_
   | refine LeO.bind ?_ (fun _ => ?_)
theorem spec_RibPut.mono : ∀ a0 a1 a2 a3 a4 a5 a6 a7 a8 k, LeO (spec_RibPut.f k a0 a1 a2 a3 a4 a5 a6 a7 a8) (spec_RibPut.f (k + 1) a0 a1 a2 a3 a4 a5 a6 a7 a8) := by
 intro a0 a1 a2 a3 a4 a5 a6 a7 a8 k
 have ih0 := spec_RibPut.mono_l k
 unfold spec_RibPut.f
 repeat' first
   | (with_reducible exact ih0 _ _ _ _ _ _ _ _ _ _)
   | (with_reducible exact spec_RibRight.mono _ _)
   | (with_reducible exact spec_RouteRight.mono _ _ _ _ _ _ _ _)
   | (with_reducible exact spec_l06Put.mono _ _ _ _ _ _ _ _ _ _)
   | (with_reducible exact LeO.refl _)
   | (with_reducible exact LeO.none _)
   | (with_reducible refine LeO.ite ?_ ?_)
   | (with_reducible refine LeO.bind ?_ (fun _ => ?_))
   | exact ih0 _ _ _ _ _ _ _ _ _ _
   | exact spec_RibRight.mono _ _
   | exact spec_RouteRight.mono _ _ _ _ _ _ _ _
   | exact spec_l06Put.mono _ _ _ _ _ _ _ _ _ _
   | exact LeO.none _
   | refine LeO.ite ?_ ?_
   | refine LeO.bind ?_ (fun _ => ?_)
set_option maxHeartbeats 8000000 in
set_option maxRecDepth 100000 in
theorem spec_RibPut.calls (k : Nat) (A0 : Option Addr) (c0 : Nat) (l0 : List (S73)) (a1 : Int) (a2_0 : Int) (a2_1 : Int) (a2_2 : Int) (a2_3 : Int) (a2_4 : Int) (a2_5 : Int) (a2_6 : Bool) (r1 : List (S73)) (r2 : List (S42)) (r3 : Int) (w : World) (hr0 : Kd.C k73 w A0 l0.length l0) (hc0 : l0.length ≤ c0) (h : spec_RibPut.f k l0 a1 a2_0 a2_1 a2_2 a2_3 a2_4 a2_5 a2_6 = some (r1, r2, r3)) :
  Calls Try.prog 32 #[.slice A0 l0.length c0, .int .i64 a1, .agg #[.int .i64 a2_0, .int .i64 a2_1, .int .i64 a2_2, .int .i64 a2_3, .int .i64 a2_4, .int .i64 a2_5, .bool a2_6]] w fun e w' => ∃ v0_ v1_ : Value, e = .returned (.agg #[v0_, v1_, .int .i64 r3]) ∧ Kd.R k73 73 w' w.heap.size (fun _ => True) v0_ r1 ∧ Kd.R k42 42 w' w.heap.size (fun _ => True) v1_ r2 ∧ Below w.heap.size w w' := by
 have hu42 := Try.underlying42
 have hu34 := Try.underlying34
 have HR0 := Aside0.mk hr0
 have HC0 := Aside0.mk hc0
 clear hr0 hc0
 have HB := Aside0.mk (Below.refl w.heap.size w)
 have H : (if (l0.length : Int) > 400 then ((spec_l06Ill.f 2).bind fun bt250 => (some (bt250.1, bt250.2.1, bt250.2.2))) else ((spec_RibRight.f k l0).bind fun t257 => (if t257 = true then ((spec_l06Peer.f a1).bind fun t258 => (if t258 = true then ((spec_RouteRight.f k a2_0 a2_1 a2_2 a2_3 a2_4 a2_5 a2_6).bind fun t259 => (spec_RibPut.j0 k l0 a1 (!t259) a2_0 a2_1 a2_2 a2_3 a2_4 a2_5 a2_6)) else (spec_RibPut.j0 k l0 a1 true a2_0 a2_1 a2_2 a2_3 a2_4 a2_5 a2_6))) else (spec_RibPut.j0 k l0 a1 true a2_0 a2_1 a2_2 a2_3 a2_4 a2_5 a2_6)))) = some (r1, r2, r3) := h
 clear h
 by_cases c4 : (l0.length : Int) > 400
 ·rw [if_pos c4] at H
  have c4b0 : decide (400 < (l0.length : Int)) = true := decide_eq_true c4
  have c4b1 : decide (400 < l0.length) = true := decide_eq_true (by omega)
  clear c4
  replace H := Option.bind_eq_some_iff.mp H
  obtain ⟨⟨t250, t253, t256⟩, A50, H⟩ := H
  replace H : (some (t250, t253, t256)) = some (r1, r2, r3) := H
  have A5 := Aside0.mk A50
  clear A50
  simp only [Option.some.injEq, Prod.mk.injEq] at H
  obtain ⟨rfl, rfl, rfl⟩ := H
  go_enter Try.func32, Try.ntmps32
  go_wp2_with (first | ((with_reducible refine Qw (N := 5) rfl ?_); refine Qu ?hg (N := 5) ?hd (cs := #[.int .i64 a2_0, .int .i64 a2_1, .int .i64 a2_2, .int .i64 a2_3, .int .i64 a2_4, .int .i64 a2_5, .bool a2_6]) (t := 42) ?hr ?_; (case hd => rfl); (case hg => rfl); (case hr => first | (go_simp; done) | (go_simp; rfl)); intro gb248 hg w6 hbox hb; have n0_ := Aside0.mk (Qn (by repeat (first | (with_reducible first | exact HB.out | apply Qg | apply Qb | apply Qe) | exact HB.out)) hb); have n1_ := Aside0.mk (hbox); have n2_ := Aside0.mk ((by rw [hg]; exact (Ql (by repeat (first | (with_reducible first | exact HB.out | apply Qg | apply Qb | apply Qe) | exact HB.out))) : w.heap.size ≤ gb248)); have n3_ := Aside0.mk ((by rw [hg]; exact (Ql (by repeat (first | (with_reducible first | exact HB.out | apply Qg | apply Qb | apply Qe) | exact HB.out))) : w.heap.size ≤ gb248)); clear HB; have HB := n0_; have BK248 := n1_; have GW248 := n2_; have GE248 := n3_; clear n0_ n1_ n2_ n3_; clear hb hbox hg) | ((with_reducible refine Qw (N := 6) rfl ?_); refine Qu ?hg (N := 6) ?hd (cs := #[.slice none 0 0, .slice none 0 0, .int .i64 0]) (t := 34) ?hr ?_; (case hd => rfl); (case hg => rfl); (case hr => first | (go_simp; done) | (go_simp; rfl)); intro gb249 hg w7 hbox hb; have n0_ := Aside0.mk (Qm (g := gb248) (o := .cells #[.int .i64 a2_0, .int .i64 a2_1, .int .i64 a2_2, .int .i64 a2_3, .int .i64 a2_4, .int .i64 a2_5, .bool a2_6] 42 (0, 0)) (by (with_reducible repeat (first | refine Qi ?_ _ | refine Qj ?_ | refine Qh ?_ _)); exact BK248.out) hb); have n1_ := Aside0.mk (Qn (by repeat (first | (with_reducible first | exact HB.out | apply Qg | apply Qb | apply Qe | refine Qc ?_ GE248.out) | exact HB.out)) hb); have n2_ := Aside0.mk (hbox); have n3_ := Aside0.mk ((by rw [hg]; exact (Ql (by repeat (first | (with_reducible first | exact HB.out | apply Qg | apply Qb | apply Qe | refine Qc ?_ GE248.out) | exact HB.out))) : w.heap.size ≤ gb249)); have n4_ := Aside0.mk ((by rw [hg]; exact (Ql (by repeat (first | (with_reducible first | exact HB.out | apply Qg | apply Qb | apply Qe | refine Qc ?_ GE248.out) | exact HB.out))) : w.heap.size ≤ gb249)); have n5_ := Aside0.mk ((by rw [hg]; exact Nat.ne_of_lt (Qs (g := gb248) (o := .cells #[.int .i64 a2_0, .int .i64 a2_1, .int .i64 a2_2, .int .i64 a2_3, .int .i64 a2_4, .int .i64 a2_5, .bool a2_6] 42 (0, 0)) (by (with_reducible repeat (first | refine Qi ?_ _ | refine Qj ?_ | refine Qh ?_ _)); exact BK248.out)) : gb248 ≠ gb249)); have n6_ := Aside0.mk ((by rw [hg]; exact Nat.ne_of_gt (Qs (g := gb248) (o := .cells #[.int .i64 a2_0, .int .i64 a2_1, .int .i64 a2_2, .int .i64 a2_3, .int .i64 a2_4, .int .i64 a2_5, .bool a2_6] 42 (0, 0)) (by (with_reducible repeat (first | refine Qi ?_ _ | refine Qj ?_ | refine Qh ?_ _)); exact BK248.out)) : gb249 ≠ gb248)); clear BK248; clear HB; have BK248 := n0_; have HB := n1_; have BK249 := n2_; have GW249 := n3_; have GE249 := n4_; have NB248_249 := n5_; have NB249_248 := n6_; clear n0_ n1_ n2_ n3_ n4_ n5_ n6_; clear hb hbox hg) | ((with_reducible refine Qq (f := 61) rfl ?_); refine Qx (some 10) rfl rfl Try.func61 (by kernel_rfl) rfl #[.int .i64 2] rfl (by (try simp only [List.map_toArray, List.map_cons, List.map_nil]); first | done | rfl | (simp only [List.length_drop, List.length_take]; rfl)) ?_; (with_reducible refine (spec_l06Ill.calls 2 t250 t253 t256 _ A5.out).mono ?_); rintro e w8 ⟨v251, v254, rfl, ho0, ho1, hb⟩; refine ⟨_, rfl, ?_⟩; have n0_ := Aside0.mk (Kd.R_lower ho0 (Ql (by repeat (first | (with_reducible first | exact HB.out | apply Qg | apply Qb | apply Qe | refine Qc ?_ GE248.out | refine Qc ?_ GE249.out) | exact HB.out)))); have n1_ := Aside0.mk (Kd.R_lower (Kd.R_newB ho1 (g := gb248) (o := .cells #[.int .i64 a2_0, .int .i64 a2_1, .int .i64 a2_2, .int .i64 a2_3, .int .i64 a2_4, .int .i64 a2_5, .bool a2_6] 42 (0, 0)) (by (with_reducible repeat (first | refine Qi ?_ _ | refine Qj ?_ | refine Qh ?_ _)); exact BK248.out)) (Ql (by repeat (first | (with_reducible first | exact HB.out | apply Qg | apply Qb | apply Qe | refine Qc ?_ GE248.out | refine Qc ?_ GE249.out) | exact HB.out)))); have n2_ := Aside0.mk (Qm (g := gb248) (o := .cells #[.int .i64 a2_0, .int .i64 a2_1, .int .i64 a2_2, .int .i64 a2_3, .int .i64 a2_4, .int .i64 a2_5, .bool a2_6] 42 (0, 0)) (by (with_reducible repeat (first | refine Qi ?_ _ | refine Qj ?_ | refine Qh ?_ _)); exact BK248.out) hb); have n3_ := Aside0.mk (Qm (g := gb249) (o := .cells #[.slice none 0 0, .slice none 0 0, .int .i64 0] 34 (0, 0)) (by (with_reducible repeat (first | refine Qi ?_ _ | refine Qj ?_ | refine Qh ?_ _)); exact BK249.out) hb); have n4_ := Aside0.mk (Qn (by repeat (first | (with_reducible first | exact HB.out | apply Qg | apply Qb | apply Qe | refine Qc ?_ GE248.out | refine Qc ?_ GE249.out) | exact HB.out)) hb); clear BK248; clear BK249; clear HB; have HO252 := n0_; have HO255 := n1_; have BK248 := n2_; have BK249 := n3_; have HB := n4_; clear n0_ n1_ n2_ n3_ n4_; (try clear hb); (try clear hb2); (try clear hk); (try clear hi); (try clear ho0); (try clear ho1); obtain ⟨Ao9, co9, eo9⟩ := Kd.R_slice HO252.out; subst eo9; have hnb10 := NB249_248.out; have hnc10 := NB248_249.out; have hcz11_0 : w8.cell? ⟨gb249, 0, none⟩ = some (.slice none 0 0) := (Qa BK249.out 0).trans rfl; have hcz11_1 : w8.cell? ⟨gb249, 1, none⟩ = some (.slice none 0 0) := (Qa BK249.out 1).trans rfl; have hcz11_2 : w8.cell? ⟨gb249, 2, none⟩ = some (.int .i64 0) := (Qa BK249.out 2).trans rfl; have hfz11_0 := Qd BK249.out 0; have hfz11_1 := Qd BK249.out 1; have hfz11_2 := Qd BK249.out 2; obtain ⟨Ao12, co12, eo12⟩ := Kd.R_slice HO255.out; subst eo12))
  refine bodyPost_ret (results_cell_row rfl _ _ gb249 34 #[.slice Ao9 t250.length co9, .slice Ao12 t253.length co12, .int .i64 t256] (0, 0) _ rfl (by (with_reducible repeat (first | refine Qi ?_ _ | refine Qj ?_ | refine Qh ?_ _)); refine Qz (cs := #[.slice Ao9 t250.length co9, .slice Ao12 t253.length co12, .int .i64 0]) ?_ 2 _ rfl; (with_reducible repeat (first | refine Qi ?_ _ | refine Qj ?_ | refine Qh ?_ _)); refine Qz (cs := #[.slice Ao9 t250.length co9, .slice none 0 0, .int .i64 0]) ?_ 1 _ rfl; (with_reducible repeat (first | refine Qi ?_ _ | refine Qj ?_ | refine Qh ?_ _)); refine Qz (cs := #[.slice none 0 0, .slice none 0 0, .int .i64 0]) ?_ 0 _ rfl; (with_reducible repeat (first | refine Qi ?_ _ | refine Qj ?_ | refine Qh ?_ _)); exact BK249.out) Try.underlying34 rfl (by kernel_rfl)) rfl ?_
  exact ⟨_, _, by first | rfl | (simp [Qp, Qo] <;> rfl) | (simp [*, Qp, Qo] <;> rfl), by (with_reducible repeat (first | apply Kd.R_alloc | apply Kd.R_drewN | apply Kd.R_drew)); exact Kd.R_mono (Kd.R_far (p := ⟨gb249, 2, none⟩) (Kd.R_far (p := ⟨gb249, 1, none⟩) (Kd.R_far (p := ⟨gb249, 0, none⟩) (Kd.R_types HO252.out BK249.out (by decide)) (fun _ hk => hk.2) (.slice Ao9 t250.length co9)) (fun _ hk => hk.2) (.slice Ao12 t253.length co12)) (fun _ hk => hk.2) (.int .i64 t256)) (fun _ hk => trivial), by (with_reducible repeat (first | apply Kd.R_alloc | apply Kd.R_drewN | apply Kd.R_drew)); exact Kd.R_mono (Kd.R_far (p := ⟨gb249, 2, none⟩) (Kd.R_far (p := ⟨gb249, 1, none⟩) (Kd.R_far (p := ⟨gb249, 0, none⟩) (Kd.R_types HO255.out BK249.out (by decide)) (fun _ hk => hk.2) (.slice Ao9 t250.length co9)) (fun _ hk => hk.2) (.slice Ao12 t253.length co12)) (fun _ hk => hk.2) (.int .i64 t256)) (fun _ hk => trivial), by repeat (first | (with_reducible first | exact HB.out | apply Qg | apply Qb | apply Qe | refine Qc ?_ GE248.out | refine Qc ?_ GE249.out) | exact HB.out)⟩
 ·rw [if_neg c4] at H
  have c4b0 : decide (400 < (l0.length : Int)) = false := decide_eq_false c4
  have c4b1 : decide (400 < l0.length) = false := decide_eq_false (by omega)
  clear c4
  have HC13 := Aside0.mk H
  clear H
  go_enter Try.func32, Try.ntmps32
  go_upto_region 3 with (first | ((with_reducible refine Qw (N := 5) rfl ?_); refine Qu ?hg (N := 5) ?hd (cs := #[.int .i64 a2_0, .int .i64 a2_1, .int .i64 a2_2, .int .i64 a2_3, .int .i64 a2_4, .int .i64 a2_5, .bool a2_6]) (t := 42) ?hr ?_; (case hd => rfl); (case hg => rfl); (case hr => first | (go_simp; done) | (go_simp; rfl)); intro gb248 hg w14 hbox hb; have n0_ := Aside0.mk (Qn (by repeat (first | (with_reducible first | exact HB.out | apply Qg | apply Qb | apply Qe) | exact HB.out)) hb); have n1_ := Aside0.mk (hbox); have n2_ := Aside0.mk ((by rw [hg]; exact (Ql (by repeat (first | (with_reducible first | exact HB.out | apply Qg | apply Qb | apply Qe) | exact HB.out))) : w.heap.size ≤ gb248)); have n3_ := Aside0.mk ((by rw [hg]; exact (Ql (by repeat (first | (with_reducible first | exact HB.out | apply Qg | apply Qb | apply Qe) | exact HB.out))) : w.heap.size ≤ gb248)); clear HB; have HB := n0_; have BK248 := n1_; have GW248 := n2_; have GE248 := n3_; clear n0_ n1_ n2_ n3_; clear hb hbox hg) | ((with_reducible refine Qw (N := 6) rfl ?_); refine Qu ?hg (N := 6) ?hd (cs := #[.slice none 0 0, .slice none 0 0, .int .i64 0]) (t := 34) ?hr ?_; (case hd => rfl); (case hg => rfl); (case hr => first | (go_simp; done) | (go_simp; rfl)); intro gb249 hg w15 hbox hb; have n0_ := Aside0.mk (Qm (g := gb248) (o := .cells #[.int .i64 a2_0, .int .i64 a2_1, .int .i64 a2_2, .int .i64 a2_3, .int .i64 a2_4, .int .i64 a2_5, .bool a2_6] 42 (0, 0)) (by (with_reducible repeat (first | refine Qi ?_ _ | refine Qj ?_ | refine Qh ?_ _)); exact BK248.out) hb); have n1_ := Aside0.mk (Qn (by repeat (first | (with_reducible first | exact HB.out | apply Qg | apply Qb | apply Qe | refine Qc ?_ GE248.out) | exact HB.out)) hb); have n2_ := Aside0.mk (hbox); have n3_ := Aside0.mk ((by rw [hg]; exact (Ql (by repeat (first | (with_reducible first | exact HB.out | apply Qg | apply Qb | apply Qe | refine Qc ?_ GE248.out) | exact HB.out))) : w.heap.size ≤ gb249)); have n4_ := Aside0.mk ((by rw [hg]; exact (Ql (by repeat (first | (with_reducible first | exact HB.out | apply Qg | apply Qb | apply Qe | refine Qc ?_ GE248.out) | exact HB.out))) : w.heap.size ≤ gb249)); have n5_ := Aside0.mk ((by rw [hg]; exact Nat.ne_of_lt (Qs (g := gb248) (o := .cells #[.int .i64 a2_0, .int .i64 a2_1, .int .i64 a2_2, .int .i64 a2_3, .int .i64 a2_4, .int .i64 a2_5, .bool a2_6] 42 (0, 0)) (by (with_reducible repeat (first | refine Qi ?_ _ | refine Qj ?_ | refine Qh ?_ _)); exact BK248.out)) : gb248 ≠ gb249)); have n6_ := Aside0.mk ((by rw [hg]; exact Nat.ne_of_gt (Qs (g := gb248) (o := .cells #[.int .i64 a2_0, .int .i64 a2_1, .int .i64 a2_2, .int .i64 a2_3, .int .i64 a2_4, .int .i64 a2_5, .bool a2_6] 42 (0, 0)) (by (with_reducible repeat (first | refine Qi ?_ _ | refine Qj ?_ | refine Qh ?_ _)); exact BK248.out)) : gb249 ≠ gb248)); clear BK248; clear HB; have BK248 := n0_; have HB := n1_; have BK249 := n2_; have GW249 := n3_; have GE249 := n4_; have NB248_249 := n5_; have NB249_248 := n6_; clear n0_ n1_ n2_ n3_ n4_ n5_ n6_; clear hb hbox hg))
  (try simp only [Act.put, List.setIfInBounds_toArray, List.set_cons_zero, List.set_cons_succ])
  go_cut [23] (fun v23 wc => ∃ (kq : Nat) (x23_12 : Bool), v23 = .bool x23_12 ∧ Aside0 (spec_RibPut.j0 kq l0 a1 x23_12 a2_0 a2_1 a2_2 a2_3 a2_4 a2_5 a2_6 = some (r1, r2, r3)) ∧ Aside0 (kq ≤ k) ∧ Aside0 (wc.heap[gb248]? = some (.cells #[.int .i64 a2_0, .int .i64 a2_1, .int .i64 a2_2, .int .i64 a2_3, .int .i64 a2_4, .int .i64 a2_5, .bool a2_6] 42 (0, 0))) ∧ Aside0 (wc.heap[gb249]? = some (.cells #[(.slice none 0 0), (.slice none 0 0), .int .i64 0] 34 (0, 0))) ∧ Aside0 (Below w.heap.size w wc))
  case first =>
   have H := HC13.out
   clear HC13
   replace H := Option.bind_eq_some_iff.mp H
   obtain ⟨t257, A160, H⟩ := H
   replace H : (if t257 = true then ((spec_l06Peer.f a1).bind fun t258 => (if t258 = true then ((spec_RouteRight.f k a2_0 a2_1 a2_2 a2_3 a2_4 a2_5 a2_6).bind fun t259 => (spec_RibPut.j0 k l0 a1 (!t259) a2_0 a2_1 a2_2 a2_3 a2_4 a2_5 a2_6)) else (spec_RibPut.j0 k l0 a1 true a2_0 a2_1 a2_2 a2_3 a2_4 a2_5 a2_6))) else (spec_RibPut.j0 k l0 a1 true a2_0 a2_1 a2_2 a2_3 a2_4 a2_5 a2_6)) = some (r1, r2, r3) := H
   have A16 := Aside0.mk A160
   clear A160
   by_cases c17 : t257 = true
   ·subst c17
    have H1 : ((spec_l06Peer.f a1).bind fun t258 => (if t258 = true then ((spec_RouteRight.f k a2_0 a2_1 a2_2 a2_3 a2_4 a2_5 a2_6).bind fun t259 => (spec_RibPut.j0 k l0 a1 (!t259) a2_0 a2_1 a2_2 a2_3 a2_4 a2_5 a2_6)) else (spec_RibPut.j0 k l0 a1 true a2_0 a2_1 a2_2 a2_3 a2_4 a2_5 a2_6))) = some (r1, r2, r3) := by rw [if_pos rfl] at H; exact H
    clear H
    have H := H1
    clear H1
    replace H := Option.bind_eq_some_iff.mp H
    obtain ⟨t258, A180, H⟩ := H
    replace H : (if t258 = true then ((spec_RouteRight.f k a2_0 a2_1 a2_2 a2_3 a2_4 a2_5 a2_6).bind fun t259 => (spec_RibPut.j0 k l0 a1 (!t259) a2_0 a2_1 a2_2 a2_3 a2_4 a2_5 a2_6)) else (spec_RibPut.j0 k l0 a1 true a2_0 a2_1 a2_2 a2_3 a2_4 a2_5 a2_6)) = some (r1, r2, r3) := H
    have A18 := Aside0.mk A180
    clear A180
    by_cases c19 : t258 = true
    ·subst c19
     have H1 : ((spec_RouteRight.f k a2_0 a2_1 a2_2 a2_3 a2_4 a2_5 a2_6).bind fun t259 => (spec_RibPut.j0 k l0 a1 (!t259) a2_0 a2_1 a2_2 a2_3 a2_4 a2_5 a2_6)) = some (r1, r2, r3) := by rw [if_pos rfl] at H; exact H
     clear H
     have H := H1
     clear H1
     replace H := Option.bind_eq_some_iff.mp H
     obtain ⟨t259, A200, H⟩ := H
     replace H : (spec_RibPut.j0 k l0 a1 (!t259) a2_0 a2_1 a2_2 a2_3 a2_4 a2_5 a2_6) = some (r1, r2, r3) := H
     have A20 := Aside0.mk A200
     clear A200
     have H' := Aside0.mk H
     clear H
     go_wp2_with (first | ((with_reducible refine Qq (f := 54) rfl ?_); refine Qx (some 12) rfl rfl Try.func54 (by kernel_rfl) rfl #[.slice A0 l0.length c0] rfl (by (try simp only [List.map_toArray, List.map_cons, List.map_nil]); first | done | rfl | (simp only [List.length_drop, List.length_take]; rfl)) ?_; (with_reducible refine (spec_RibRight.calls k _ _ l0 true _ ?side1 ?side2 A16.out).mono ?_); (case side1 => repeat (first | exact (Kd.C_below HR0.out HB.out) | (with_reducible refine Kd.C_alloc ?_ _) | (with_reducible refine Kd.C_drewN ?_ _) | (with_reducible refine Kd.C_drew ?_))); (case side2 => exact HC0.out); rintro e w21 ⟨rfl, hb⟩; refine ⟨_, rfl, ?_⟩; have n0_ := Aside0.mk (Qm (g := gb248) (o := .cells #[.int .i64 a2_0, .int .i64 a2_1, .int .i64 a2_2, .int .i64 a2_3, .int .i64 a2_4, .int .i64 a2_5, .bool a2_6] 42 (0, 0)) (by (with_reducible repeat (first | refine Qi ?_ _ | refine Qj ?_ | refine Qh ?_ _)); exact BK248.out) hb); have n1_ := Aside0.mk (Qm (g := gb249) (o := .cells #[.slice none 0 0, .slice none 0 0, .int .i64 0] 34 (0, 0)) (by (with_reducible repeat (first | refine Qi ?_ _ | refine Qj ?_ | refine Qh ?_ _)); exact BK249.out) hb); have n2_ := Aside0.mk (Qn (by repeat (first | (with_reducible first | exact HB.out | apply Qg | apply Qb | apply Qe | refine Qc ?_ GE248.out | refine Qc ?_ GE249.out) | exact HB.out)) hb); clear BK248; clear BK249; clear HB; have BK248 := n0_; have BK249 := n1_; have HB := n2_; clear n0_ n1_ n2_; (try clear hb); (try clear hb2); (try clear hk); (try clear hi)) | (go_at_call 62; (with_reducible refine (spec_l06Peer.calls a1 true _ A18.out).mono ?_); rintro e w' ⟨rfl, ⟨nd, rfl⟩⟩; have hnb22 := NB248_249.out; have hnc22 := NB249_248.out; have hcz23_0 : w21.cell? ⟨gb248, 0, none⟩ = some (.int .i64 a2_0) := (Qa BK248.out 0).trans rfl; have hcz23_1 : w21.cell? ⟨gb248, 1, none⟩ = some (.int .i64 a2_1) := (Qa BK248.out 1).trans rfl; have hcz23_2 : w21.cell? ⟨gb248, 2, none⟩ = some (.int .i64 a2_2) := (Qa BK248.out 2).trans rfl; have hcz23_3 : w21.cell? ⟨gb248, 3, none⟩ = some (.int .i64 a2_3) := (Qa BK248.out 3).trans rfl; have hcz23_4 : w21.cell? ⟨gb248, 4, none⟩ = some (.int .i64 a2_4) := (Qa BK248.out 4).trans rfl; have hcz23_5 : w21.cell? ⟨gb248, 5, none⟩ = some (.int .i64 a2_5) := (Qa BK248.out 5).trans rfl; have hcz23_6 : w21.cell? ⟨gb248, 6, none⟩ = some (.bool a2_6) := (Qa BK248.out 6).trans rfl; have hfz23_0 := Qd BK248.out 0; have hfz23_1 := Qd BK248.out 1; have hfz23_2 := Qd BK248.out 2; have hfz23_3 := Qd BK248.out 3; have hfz23_4 := Qd BK248.out 4; have hfz23_5 := Qd BK248.out 5; have hfz23_6 := Qd BK248.out 6) | (go_at_call 69; (with_reducible refine (spec_RouteRight.calls k a2_0 a2_1 a2_2 a2_3 a2_4 a2_5 a2_6 t259 _ A20.out).mono ?_); rintro e w24 ⟨rfl, hb⟩; have n0_ := Aside0.mk (Qm (g := gb248) (o := .cells #[.int .i64 a2_0, .int .i64 a2_1, .int .i64 a2_2, .int .i64 a2_3, .int .i64 a2_4, .int .i64 a2_5, .bool a2_6] 42 (0, 0)) (by (with_reducible repeat (first | refine Qi ?_ _ | refine Qj ?_ | refine Qh ?_ _)); exact BK248.out) hb); have n1_ := Aside0.mk (Qm (g := gb249) (o := .cells #[.slice none 0 0, .slice none 0 0, .int .i64 0] 34 (0, 0)) (by (with_reducible repeat (first | refine Qi ?_ _ | refine Qj ?_ | refine Qh ?_ _)); exact BK249.out) hb); have n2_ := Aside0.mk (Qn (by repeat (first | (with_reducible first | exact HB.out | apply Qg | apply Qb | apply Qe | refine Qc ?_ GE248.out | refine Qc ?_ GE249.out) | exact HB.out)) hb); clear BK248; clear BK249; clear HB; have BK248 := n0_; have BK249 := n1_; have HB := n2_; clear n0_ n1_ n2_; (try clear hb); (try clear hb2); (try clear hk); (try clear hi)))
     go_meet
     case rel => exact ⟨_, (!t259), (by first | rfl | (simp; done) | (simp [*]; done)), H', ⟨by first | omega | exact Nat.le_refl _⟩, ⟨by (with_reducible repeat (first | refine Qi ?_ _ | refine Qj ?_ | refine Qh ?_ _)); exact BK248.out⟩, ⟨by (with_reducible repeat (first | refine Qi ?_ _ | refine Qj ?_ | refine Qh ?_ _)); exact BK249.out⟩, ⟨by repeat (first | (with_reducible first | exact HB.out | apply Qg | apply Qb | apply Qe | refine Qc ?_ GE248.out | refine Qc ?_ GE249.out) | exact HB.out)⟩⟩
    ·replace c19 := Bool.eq_false_iff.mpr c19
     subst c19
     have H1 : (spec_RibPut.j0 k l0 a1 true a2_0 a2_1 a2_2 a2_3 a2_4 a2_5 a2_6) = some (r1, r2, r3) := by rw [if_neg (show ¬ (false = true) by decide)] at H; exact H
     clear H
     have H := H1
     clear H1
     have H' := Aside0.mk H
     clear H
     go_wp2_with (first | ((with_reducible refine Qq (f := 54) rfl ?_); refine Qx (some 12) rfl rfl Try.func54 (by kernel_rfl) rfl #[.slice A0 l0.length c0] rfl (by (try simp only [List.map_toArray, List.map_cons, List.map_nil]); first | done | rfl | (simp only [List.length_drop, List.length_take]; rfl)) ?_; (with_reducible refine (spec_RibRight.calls k _ _ l0 true _ ?side1 ?side2 A16.out).mono ?_); (case side1 => repeat (first | exact (Kd.C_below HR0.out HB.out) | (with_reducible refine Kd.C_alloc ?_ _) | (with_reducible refine Kd.C_drewN ?_ _) | (with_reducible refine Kd.C_drew ?_))); (case side2 => exact HC0.out); rintro e w25 ⟨rfl, hb⟩; refine ⟨_, rfl, ?_⟩; have n0_ := Aside0.mk (Qm (g := gb248) (o := .cells #[.int .i64 a2_0, .int .i64 a2_1, .int .i64 a2_2, .int .i64 a2_3, .int .i64 a2_4, .int .i64 a2_5, .bool a2_6] 42 (0, 0)) (by (with_reducible repeat (first | refine Qi ?_ _ | refine Qj ?_ | refine Qh ?_ _)); exact BK248.out) hb); have n1_ := Aside0.mk (Qm (g := gb249) (o := .cells #[.slice none 0 0, .slice none 0 0, .int .i64 0] 34 (0, 0)) (by (with_reducible repeat (first | refine Qi ?_ _ | refine Qj ?_ | refine Qh ?_ _)); exact BK249.out) hb); have n2_ := Aside0.mk (Qn (by repeat (first | (with_reducible first | exact HB.out | apply Qg | apply Qb | apply Qe | refine Qc ?_ GE248.out | refine Qc ?_ GE249.out) | exact HB.out)) hb); clear BK248; clear BK249; clear HB; have BK248 := n0_; have BK249 := n1_; have HB := n2_; clear n0_ n1_ n2_; (try clear hb); (try clear hb2); (try clear hk); (try clear hi)) | (go_at_call 62; (with_reducible refine (spec_l06Peer.calls a1 false _ A18.out).mono ?_); rintro e w' ⟨rfl, ⟨nd, rfl⟩⟩))
     go_meet
     case rel => exact ⟨_, (true), (by first | rfl | (simp; done) | (simp [*]; done)), H', ⟨by first | omega | exact Nat.le_refl _⟩, ⟨by (with_reducible repeat (first | refine Qi ?_ _ | refine Qj ?_ | refine Qh ?_ _)); exact BK248.out⟩, ⟨by (with_reducible repeat (first | refine Qi ?_ _ | refine Qj ?_ | refine Qh ?_ _)); exact BK249.out⟩, ⟨by repeat (first | (with_reducible first | exact HB.out | apply Qg | apply Qb | apply Qe | refine Qc ?_ GE248.out | refine Qc ?_ GE249.out) | exact HB.out)⟩⟩
   ·replace c17 := Bool.eq_false_iff.mpr c17
    subst c17
    have H1 : (spec_RibPut.j0 k l0 a1 true a2_0 a2_1 a2_2 a2_3 a2_4 a2_5 a2_6) = some (r1, r2, r3) := by rw [if_neg (show ¬ (false = true) by decide)] at H; exact H
    clear H
    have H := H1
    clear H1
    have H' := Aside0.mk H
    clear H
    go_wp2_with (first | ((with_reducible refine Qq (f := 54) rfl ?_); refine Qx (some 12) rfl rfl Try.func54 (by kernel_rfl) rfl #[.slice A0 l0.length c0] rfl (by (try simp only [List.map_toArray, List.map_cons, List.map_nil]); first | done | rfl | (simp only [List.length_drop, List.length_take]; rfl)) ?_; (with_reducible refine (spec_RibRight.calls k _ _ l0 false _ ?side1 ?side2 A16.out).mono ?_); (case side1 => repeat (first | exact (Kd.C_below HR0.out HB.out) | (with_reducible refine Kd.C_alloc ?_ _) | (with_reducible refine Kd.C_drewN ?_ _) | (with_reducible refine Kd.C_drew ?_))); (case side2 => exact HC0.out); rintro e w26 ⟨rfl, hb⟩; refine ⟨_, rfl, ?_⟩; have n0_ := Aside0.mk (Qm (g := gb248) (o := .cells #[.int .i64 a2_0, .int .i64 a2_1, .int .i64 a2_2, .int .i64 a2_3, .int .i64 a2_4, .int .i64 a2_5, .bool a2_6] 42 (0, 0)) (by (with_reducible repeat (first | refine Qi ?_ _ | refine Qj ?_ | refine Qh ?_ _)); exact BK248.out) hb); have n1_ := Aside0.mk (Qm (g := gb249) (o := .cells #[.slice none 0 0, .slice none 0 0, .int .i64 0] 34 (0, 0)) (by (with_reducible repeat (first | refine Qi ?_ _ | refine Qj ?_ | refine Qh ?_ _)); exact BK249.out) hb); have n2_ := Aside0.mk (Qn (by repeat (first | (with_reducible first | exact HB.out | apply Qg | apply Qb | apply Qe | refine Qc ?_ GE248.out | refine Qc ?_ GE249.out) | exact HB.out)) hb); clear BK248; clear BK249; clear HB; have BK248 := n0_; have BK249 := n1_; have HB := n2_; clear n0_ n1_ n2_; (try clear hb); (try clear hb2); (try clear hk); (try clear hi)))
    go_meet
    case rel => exact ⟨_, (true), (by first | rfl | (simp; done) | (simp [*]; done)), H', ⟨by first | omega | exact Nat.le_refl _⟩, ⟨by (with_reducible repeat (first | refine Qi ?_ _ | refine Qj ?_ | refine Qh ?_ _)); exact BK248.out⟩, ⟨by (with_reducible repeat (first | refine Qi ?_ _ | refine Qj ?_ | refine Qh ?_ _)); exact BK249.out⟩, ⟨by repeat (first | (with_reducible first | exact HB.out | apply Qg | apply Qb | apply Qe | refine Qc ?_ GE248.out | refine Qc ?_ GE249.out) | exact HB.out)⟩⟩
  case rest =>
   clear HC13
   try clear c1
   try clear c2
   try clear p2
   try clear c3
   try clear c4
   try clear c4b0
   try clear c4b1
   try clear c5
   try clear c6
   try clear c10
   try clear c17
   try clear c19
   try clear c22
   try clear hcz11_0
   try clear hcz11_1
   try clear hcz11_2
   try clear hcz23_0
   try clear hcz23_1
   try clear hcz23_2
   try clear hcz23_3
   try clear hcz23_4
   try clear hcz23_5
   try clear hcz23_6
   try clear hfz11_0
   try clear hfz11_1
   try clear hfz11_2
   try clear hfz23_0
   try clear hfz23_1
   try clear hfz23_2
   try clear hfz23_3
   try clear hfz23_4
   try clear hfz23_5
   try clear hfz23_6
   obtain ⟨kq, x23_12, rfl, HA, HJ12, BK248, BK249, HB⟩ := hcut
   cases kq with
   | zero => exact absurd HA.out (by simp [spec_RibPut.j0])
   | succ kj12 =>
    have H := HA.out
    clear HA
    simp only [spec_RibPut.j0] at H
    by_cases c27 : x23_12 = true
    ·subst c27
     have H1 : ((spec_l06Ill.f 1).bind fun bt260 => (some (bt260.1, bt260.2.1, bt260.2.2))) = some (r1, r2, r3) := by rw [if_pos rfl] at H; exact H
     clear H
     have H := H1
     clear H1
     replace H := Option.bind_eq_some_iff.mp H
     obtain ⟨⟨t260, t263, t266⟩, A280, H⟩ := H
     replace H : (some (t260, t263, t266)) = some (r1, r2, r3) := H
     have A28 := Aside0.mk A280
     clear A280
     simp only [Option.some.injEq, Prod.mk.injEq] at H
     obtain ⟨rfl, rfl, rfl⟩ := H
     go_wp2_with (first | ((with_reducible refine Qq (f := 61) rfl ?_); refine Qx (some 24) rfl rfl Try.func61 (by kernel_rfl) rfl #[.int .i64 1] rfl (by (try simp only [List.map_toArray, List.map_cons, List.map_nil]); first | done | rfl | (simp only [List.length_drop, List.length_take]; rfl)) ?_; (with_reducible refine (spec_l06Ill.calls 1 t260 t263 t266 _ A28.out).mono ?_); rintro e w29 ⟨v261, v264, rfl, ho0, ho1, hb⟩; refine ⟨_, rfl, ?_⟩; have n0_ := Aside0.mk (Kd.R_lower ho0 (Ql (by repeat (first | (with_reducible first | exact HB.out | apply Qg | apply Qb | apply Qe | refine Qc ?_ GE248.out | refine Qc ?_ GE249.out) | exact HB.out)))); have n1_ := Aside0.mk (Kd.R_lower (Kd.R_newB ho1 (g := gb248) (o := .cells #[.int .i64 a2_0, .int .i64 a2_1, .int .i64 a2_2, .int .i64 a2_3, .int .i64 a2_4, .int .i64 a2_5, .bool a2_6] 42 (0, 0)) (by (with_reducible repeat (first | refine Qi ?_ _ | refine Qj ?_ | refine Qh ?_ _)); exact BK248.out)) (Ql (by repeat (first | (with_reducible first | exact HB.out | apply Qg | apply Qb | apply Qe | refine Qc ?_ GE248.out | refine Qc ?_ GE249.out) | exact HB.out)))); have n2_ := Aside0.mk (Qm (g := gb248) (o := .cells #[.int .i64 a2_0, .int .i64 a2_1, .int .i64 a2_2, .int .i64 a2_3, .int .i64 a2_4, .int .i64 a2_5, .bool a2_6] 42 (0, 0)) (by (with_reducible repeat (first | refine Qi ?_ _ | refine Qj ?_ | refine Qh ?_ _)); exact BK248.out) hb); have n3_ := Aside0.mk (Qm (g := gb249) (o := .cells #[.slice none 0 0, .slice none 0 0, .int .i64 0] 34 (0, 0)) (by (with_reducible repeat (first | refine Qi ?_ _ | refine Qj ?_ | refine Qh ?_ _)); exact BK249.out) hb); have n4_ := Aside0.mk (Qn (by repeat (first | (with_reducible first | exact HB.out | apply Qg | apply Qb | apply Qe | refine Qc ?_ GE248.out | refine Qc ?_ GE249.out) | exact HB.out)) hb); clear BK248; clear BK249; clear HB; have HO262 := n0_; have HO265 := n1_; have BK248 := n2_; have BK249 := n3_; have HB := n4_; clear n0_ n1_ n2_ n3_ n4_; (try clear hb); (try clear hb2); (try clear hk); (try clear hi); (try clear ho0); (try clear ho1); obtain ⟨Ao30, co30, eo30⟩ := Kd.R_slice HO262.out; subst eo30; have hnb31 := NB249_248.out; have hnc31 := NB248_249.out; have hcz32_0 : w29.cell? ⟨gb249, 0, none⟩ = some (.slice none 0 0) := (Qa BK249.out 0).trans rfl; have hcz32_1 : w29.cell? ⟨gb249, 1, none⟩ = some (.slice none 0 0) := (Qa BK249.out 1).trans rfl; have hcz32_2 : w29.cell? ⟨gb249, 2, none⟩ = some (.int .i64 0) := (Qa BK249.out 2).trans rfl; have hfz32_0 := Qd BK249.out 0; have hfz32_1 := Qd BK249.out 1; have hfz32_2 := Qd BK249.out 2; obtain ⟨Ao33, co33, eo33⟩ := Kd.R_slice HO265.out; subst eo33))
     refine bodyPost_ret (results_cell_row rfl _ _ gb249 34 #[.slice Ao30 t260.length co30, .slice Ao33 t263.length co33, .int .i64 t266] (0, 0) _ rfl (by (with_reducible repeat (first | refine Qi ?_ _ | refine Qj ?_ | refine Qh ?_ _)); refine Qz (cs := #[.slice Ao30 t260.length co30, .slice Ao33 t263.length co33, .int .i64 0]) ?_ 2 _ rfl; (with_reducible repeat (first | refine Qi ?_ _ | refine Qj ?_ | refine Qh ?_ _)); refine Qz (cs := #[.slice Ao30 t260.length co30, .slice none 0 0, .int .i64 0]) ?_ 1 _ rfl; (with_reducible repeat (first | refine Qi ?_ _ | refine Qj ?_ | refine Qh ?_ _)); refine Qz (cs := #[.slice none 0 0, .slice none 0 0, .int .i64 0]) ?_ 0 _ rfl; (with_reducible repeat (first | refine Qi ?_ _ | refine Qj ?_ | refine Qh ?_ _)); exact BK249.out) Try.underlying34 rfl (by kernel_rfl)) rfl ?_
     exact ⟨_, _, by first | rfl | (simp [Qp, Qo] <;> rfl) | (simp [*, Qp, Qo] <;> rfl), by (with_reducible repeat (first | apply Kd.R_alloc | apply Kd.R_drewN | apply Kd.R_drew)); exact Kd.R_mono (Kd.R_far (p := ⟨gb249, 2, none⟩) (Kd.R_far (p := ⟨gb249, 1, none⟩) (Kd.R_far (p := ⟨gb249, 0, none⟩) (Kd.R_types HO262.out BK249.out (by decide)) (fun _ hk => hk.2) (.slice Ao30 t260.length co30)) (fun _ hk => hk.2) (.slice Ao33 t263.length co33)) (fun _ hk => hk.2) (.int .i64 t266)) (fun _ hk => trivial), by (with_reducible repeat (first | apply Kd.R_alloc | apply Kd.R_drewN | apply Kd.R_drew)); exact Kd.R_mono (Kd.R_far (p := ⟨gb249, 2, none⟩) (Kd.R_far (p := ⟨gb249, 1, none⟩) (Kd.R_far (p := ⟨gb249, 0, none⟩) (Kd.R_types HO265.out BK249.out (by decide)) (fun _ hk => hk.2) (.slice Ao30 t260.length co30)) (fun _ hk => hk.2) (.slice Ao33 t263.length co33)) (fun _ hk => hk.2) (.int .i64 t266)) (fun _ hk => trivial), by repeat (first | (with_reducible first | exact HB.out | apply Qg | apply Qb | apply Qe | refine Qc ?_ GE248.out | refine Qc ?_ GE249.out) | exact HB.out)⟩
    ·replace c27 := Bool.eq_false_iff.mpr c27
     subst c27
     have H1 : ((spec_l06Put.f kj12 l0 a1 a2_0 a2_1 a2_2 a2_3 a2_4 a2_5 a2_6).bind fun bt267 => (some (bt267.1, bt267.2.1, bt267.2.2))) = some (r1, r2, r3) := by rw [if_neg (show ¬ (false = true) by decide)] at H; exact H
     clear H
     have H := H1
     clear H1
     replace H := Option.bind_eq_some_iff.mp H
     obtain ⟨⟨t267, t270, t273⟩, A340, H⟩ := H
     replace H : (some (t267, t270, t273)) = some (r1, r2, r3) := H
     have A34 := Aside0.mk A340
     clear A340
     simp only [Option.some.injEq, Prod.mk.injEq] at H
     obtain ⟨rfl, rfl, rfl⟩ := H
     have hnb35 := NB248_249.out
     have hnc35 := NB249_248.out
     have hcz36_0 : wc.cell? ⟨gb248, 0, none⟩ = some (.int .i64 a2_0) := (Qa BK248.out 0).trans rfl
     have hcz36_1 : wc.cell? ⟨gb248, 1, none⟩ = some (.int .i64 a2_1) := (Qa BK248.out 1).trans rfl
     have hcz36_2 : wc.cell? ⟨gb248, 2, none⟩ = some (.int .i64 a2_2) := (Qa BK248.out 2).trans rfl
     have hcz36_3 : wc.cell? ⟨gb248, 3, none⟩ = some (.int .i64 a2_3) := (Qa BK248.out 3).trans rfl
     have hcz36_4 : wc.cell? ⟨gb248, 4, none⟩ = some (.int .i64 a2_4) := (Qa BK248.out 4).trans rfl
     have hcz36_5 : wc.cell? ⟨gb248, 5, none⟩ = some (.int .i64 a2_5) := (Qa BK248.out 5).trans rfl
     have hcz36_6 : wc.cell? ⟨gb248, 6, none⟩ = some (.bool a2_6) := (Qa BK248.out 6).trans rfl
     have hfz36_0 := Qd BK248.out 0
     have hfz36_1 := Qd BK248.out 1
     have hfz36_2 := Qd BK248.out 2
     have hfz36_3 := Qd BK248.out 3
     have hfz36_4 := Qd BK248.out 4
     have hfz36_5 := Qd BK248.out 5
     have hfz36_6 := Qd BK248.out 6
     go_wp2_with (first | ((with_reducible refine Qq (f := 73) rfl ?_); refine Qx (some 28) rfl rfl Try.func73 (by kernel_rfl) rfl #[.slice A0 l0.length c0, .int .i64 a1, .agg #[.int .i64 a2_0, .int .i64 a2_1, .int .i64 a2_2, .int .i64 a2_3, .int .i64 a2_4, .int .i64 a2_5, .bool a2_6]] rfl (by (try simp only [List.map_toArray, List.map_cons, List.map_nil]); first | done | rfl | (simp only [List.length_drop, List.length_take]; rfl)) ?_; (with_reducible refine (spec_l06Put.calls kj12 _ _ l0 a1 a2_0 a2_1 a2_2 a2_3 a2_4 a2_5 a2_6 t267 t270 t273 _ ?side1 ?side2 A34.out).mono ?_); (case side1 => repeat (first | exact (Kd.C_below HR0.out HB.out) | (with_reducible refine Kd.C_alloc ?_ _) | (with_reducible refine Kd.C_drewN ?_ _) | (with_reducible refine Kd.C_drew ?_))); (case side2 => exact HC0.out); rintro e w37 ⟨v268, v271, rfl, ho0, ho1, hb⟩; refine ⟨_, rfl, ?_⟩; have n0_ := Aside0.mk (Kd.R_lower ho0 (Ql (by repeat (first | (with_reducible first | exact HB.out | apply Qg | apply Qb | apply Qe | refine Qc ?_ GE248.out | refine Qc ?_ GE249.out) | exact HB.out)))); have n1_ := Aside0.mk (Kd.R_lower (Kd.R_newB ho1 (g := gb248) (o := .cells #[.int .i64 a2_0, .int .i64 a2_1, .int .i64 a2_2, .int .i64 a2_3, .int .i64 a2_4, .int .i64 a2_5, .bool a2_6] 42 (0, 0)) (by (with_reducible repeat (first | refine Qi ?_ _ | refine Qj ?_ | refine Qh ?_ _)); exact BK248.out)) (Ql (by repeat (first | (with_reducible first | exact HB.out | apply Qg | apply Qb | apply Qe | refine Qc ?_ GE248.out | refine Qc ?_ GE249.out) | exact HB.out)))); have n2_ := Aside0.mk (Qm (g := gb248) (o := .cells #[.int .i64 a2_0, .int .i64 a2_1, .int .i64 a2_2, .int .i64 a2_3, .int .i64 a2_4, .int .i64 a2_5, .bool a2_6] 42 (0, 0)) (by (with_reducible repeat (first | refine Qi ?_ _ | refine Qj ?_ | refine Qh ?_ _)); exact BK248.out) hb); have n3_ := Aside0.mk (Qm (g := gb249) (o := .cells #[.slice none 0 0, .slice none 0 0, .int .i64 0] 34 (0, 0)) (by (with_reducible repeat (first | refine Qi ?_ _ | refine Qj ?_ | refine Qh ?_ _)); exact BK249.out) hb); have n4_ := Aside0.mk (Qn (by repeat (first | (with_reducible first | exact HB.out | apply Qg | apply Qb | apply Qe | refine Qc ?_ GE248.out | refine Qc ?_ GE249.out) | exact HB.out)) hb); clear BK248; clear BK249; clear HB; have HO269 := n0_; have HO272 := n1_; have BK248 := n2_; have BK249 := n3_; have HB := n4_; clear n0_ n1_ n2_ n3_ n4_; (try clear hb); (try clear hb2); (try clear hk); (try clear hi); (try clear ho0); (try clear ho1); obtain ⟨Ao38, co38, eo38⟩ := Kd.R_slice HO269.out; subst eo38; have hcz39_0 : w37.cell? ⟨gb249, 0, none⟩ = some (.slice none 0 0) := (Qa BK249.out 0).trans rfl; have hcz39_1 : w37.cell? ⟨gb249, 1, none⟩ = some (.slice none 0 0) := (Qa BK249.out 1).trans rfl; have hcz39_2 : w37.cell? ⟨gb249, 2, none⟩ = some (.int .i64 0) := (Qa BK249.out 2).trans rfl; have hfz39_0 := Qd BK249.out 0; have hfz39_1 := Qd BK249.out 1; have hfz39_2 := Qd BK249.out 2; obtain ⟨Ao40, co40, eo40⟩ := Kd.R_slice HO272.out; subst eo40))
     refine bodyPost_ret (results_cell_row rfl _ _ gb249 34 #[.slice Ao38 t267.length co38, .slice Ao40 t270.length co40, .int .i64 t273] (0, 0) _ rfl (by (with_reducible repeat (first | refine Qi ?_ _ | refine Qj ?_ | refine Qh ?_ _)); refine Qz (cs := #[.slice Ao38 t267.length co38, .slice Ao40 t270.length co40, .int .i64 0]) ?_ 2 _ rfl; (with_reducible repeat (first | refine Qi ?_ _ | refine Qj ?_ | refine Qh ?_ _)); refine Qz (cs := #[.slice Ao38 t267.length co38, .slice none 0 0, .int .i64 0]) ?_ 1 _ rfl; (with_reducible repeat (first | refine Qi ?_ _ | refine Qj ?_ | refine Qh ?_ _)); refine Qz (cs := #[.slice none 0 0, .slice none 0 0, .int .i64 0]) ?_ 0 _ rfl; (with_reducible repeat (first | refine Qi ?_ _ | refine Qj ?_ | refine Qh ?_ _)); exact BK249.out) Try.underlying34 rfl (by kernel_rfl)) rfl ?_
     exact ⟨_, _, by first | rfl | (simp [Qp, Qo] <;> rfl) | (simp [*, Qp, Qo] <;> rfl), by (with_reducible repeat (first | apply Kd.R_alloc | apply Kd.R_drewN | apply Kd.R_drew)); exact Kd.R_mono (Kd.R_far (p := ⟨gb249, 2, none⟩) (Kd.R_far (p := ⟨gb249, 1, none⟩) (Kd.R_far (p := ⟨gb249, 0, none⟩) (Kd.R_types HO269.out BK249.out (by decide)) (fun _ hk => hk.2) (.slice Ao38 t267.length co38)) (fun _ hk => hk.2) (.slice Ao40 t270.length co40)) (fun _ hk => hk.2) (.int .i64 t273)) (fun _ hk => trivial), by (with_reducible repeat (first | apply Kd.R_alloc | apply Kd.R_drewN | apply Kd.R_drew)); exact Kd.R_mono (Kd.R_far (p := ⟨gb249, 2, none⟩) (Kd.R_far (p := ⟨gb249, 1, none⟩) (Kd.R_far (p := ⟨gb249, 0, none⟩) (Kd.R_types HO272.out BK249.out (by decide)) (fun _ hk => hk.2) (.slice Ao38 t267.length co38)) (fun _ hk => hk.2) (.slice Ao40 t270.length co40)) (fun _ hk => hk.2) (.int .i64 t273)) (fun _ hk => trivial), by repeat (first | (with_reducible first | exact HB.out | apply Qg | apply Qb | apply Qe | refine Qc ?_ GE248.out | refine Qc ?_ GE249.out) | exact HB.out)⟩
def impl_in.f (a0 : Int) (a1 : Int) (a2 : Int) : Option (Bool) := if a1 ≤ a0 then (some (decide (a0 ≤ a2))) else (some false)
set_option maxHeartbeats 8000000 in
set_option maxRecDepth 100000 in
theorem impl_in.calls (a0 : Int) (a1 : Int) (a2 : Int) (r : Bool) (w : World) (h : impl_in.f a0 a1 a2 = some r) :
  Calls Try.prog 90 #[.int .i64 a0, .int .i64 a1, .int .i64 a2] w fun e w' => e = .returned (.bool r) ∧ Drawn0 w w' := by
 have H : (if a1 ≤ a0 then (some (decide (a0 ≤ a2))) else (some false)) = some r := h
 clear h
 by_cases c4 : a1 ≤ a0
 ·rw [if_pos c4] at H
  have c4b0 : decide (a1 ≤ a0) = true := decide_eq_true c4
  clear c4
  obtain rfl := Option.some.inj H
  go_enter Try.func90, Try.ntmps90
  go_wp2
  go_ret
  exact ⟨by first | rfl | (simp; done) | (simp [*]; done), by repeat (first | exact Drawn0.refl _ | apply Drawn0.step)⟩
 ·rw [if_neg c4] at H
  have c4b0 : decide (a1 ≤ a0) = false := decide_eq_false c4
  clear c4
  obtain rfl := Option.some.inj H
  go_enter Try.func90, Try.ntmps90
  go_wp2
  go_ret
  exact ⟨by first | rfl | (simp; done) | (simp [*]; done), by repeat (first | exact Drawn0.refl _ | apply Drawn0.step)⟩
def impl_isVni.f (a0 : Int) : Option (Bool) := (impl_in.f a0 1 16777215).bind fun t274 => (some t274)
set_option maxHeartbeats 8000000 in
set_option maxRecDepth 100000 in
theorem impl_isVni.calls (a0 : Int) (r : Bool) (w : World) (h : impl_isVni.f a0 = some r) :
  Calls Try.prog 77 #[.int .i64 a0] w fun e w' => e = .returned (.bool r) ∧ Drawn0 w w' := by
 have H : ((impl_in.f a0 1 16777215).bind fun t274 => (some t274)) = some r := h
 clear h
 replace H := Option.bind_eq_some_iff.mp H
 obtain ⟨t274, A20, H⟩ := H
 replace H : (some t274) = some r := H
 have A2 := Aside0.mk A20
 clear A20
 obtain rfl := Option.some.inj H
 go_enter Try.func77, Try.ntmps77
 go_wp2_with (first | ((with_reducible refine Qq (f := 90) rfl ?_); refine Qx (some 4) rfl rfl Try.func90 (by kernel_rfl) rfl #[.int .i64 a0, .int .i64 1, .int .i64 16777215] rfl (by (try simp only [List.map_toArray, List.map_cons, List.map_nil]); first | done | rfl | (simp only [List.length_drop, List.length_take]; rfl)) ?_; (with_reducible refine (impl_in.calls a0 1 16777215 t274 _ A2.out).mono ?_); rintro e w' ⟨rfl, ⟨nd, rfl⟩⟩; refine ⟨_, rfl, ?_⟩))
 go_ret
 exact ⟨by first | rfl | (simp; done) | (simp [*]; done), by repeat (first | exact Drawn0.refl _ | apply Drawn0.step)⟩
def impl_isHouse.f (a0 : Int) : Option (Bool) := (impl_in.f a0 1 4).bind fun t275 => (some t275)
set_option maxHeartbeats 8000000 in
set_option maxRecDepth 100000 in
theorem impl_isHouse.calls (a0 : Int) (r : Bool) (w : World) (h : impl_isHouse.f a0 = some r) :
  Calls Try.prog 111 #[.int .i64 a0] w fun e w' => e = .returned (.bool r) ∧ Drawn0 w w' := by
 have H : ((impl_in.f a0 1 4).bind fun t275 => (some t275)) = some r := h
 clear h
 replace H := Option.bind_eq_some_iff.mp H
 obtain ⟨t275, A20, H⟩ := H
 replace H : (some t275) = some r := H
 have A2 := Aside0.mk A20
 clear A20
 obtain rfl := Option.some.inj H
 go_enter Try.func111, Try.ntmps111
 go_wp2_with (first | ((with_reducible refine Qq (f := 90) rfl ?_); refine Qx (some 4) rfl rfl Try.func90 (by kernel_rfl) rfl #[.int .i64 a0, .int .i64 1, .int .i64 4] rfl (by (try simp only [List.map_toArray, List.map_cons, List.map_nil]); first | done | rfl | (simp only [List.length_drop, List.length_take]; rfl)) ?_; (with_reducible refine (impl_in.calls a0 1 4 t275 _ A2.out).mono ?_); rintro e w' ⟨rfl, ⟨nd, rfl⟩⟩; refine ⟨_, rfl, ?_⟩))
 go_ret
 exact ⟨by first | rfl | (simp; done) | (simp [*]; done), by repeat (first | exact Drawn0.refl _ | apply Drawn0.step)⟩
def impl_isMac.f (a0 : Int) : Option (Bool) := (impl_in.f a0 0 281474976710655).bind fun t276 => (some t276)
set_option maxHeartbeats 8000000 in
set_option maxRecDepth 100000 in
theorem impl_isMac.calls (a0 : Int) (r : Bool) (w : World) (h : impl_isMac.f a0 = some r) :
  Calls Try.prog 137 #[.int .i64 a0] w fun e w' => e = .returned (.bool r) ∧ Drawn0 w w' := by
 have H : ((impl_in.f a0 0 281474976710655).bind fun t276 => (some t276)) = some r := h
 clear h
 replace H := Option.bind_eq_some_iff.mp H
 obtain ⟨t276, A20, H⟩ := H
 replace H : (some t276) = some r := H
 have A2 := Aside0.mk A20
 clear A20
 obtain rfl := Option.some.inj H
 go_enter Try.func137, Try.ntmps137
 go_wp2_with (first | ((with_reducible refine Qq (f := 90) rfl ?_); refine Qx (some 4) rfl rfl Try.func90 (by kernel_rfl) rfl #[.int .i64 a0, .int .i64 0, .int .i64 281474976710655] rfl (by (try simp only [List.map_toArray, List.map_cons, List.map_nil]); first | done | rfl | (simp only [List.length_drop, List.length_take]; rfl)) ?_; (with_reducible refine (impl_in.calls a0 0 281474976710655 t276 _ A2.out).mono ?_); rintro e w' ⟨rfl, ⟨nd, rfl⟩⟩; refine ⟨_, rfl, ?_⟩))
 go_ret
 exact ⟨by first | rfl | (simp; done) | (simp [*]; done), by repeat (first | exact Drawn0.refl _ | apply Drawn0.step)⟩
def impl_IsGroup.f (a0 : Int) : Option (Bool) := (impl_isMac.f a0).bind fun t277 => (if t277 = true then (some ((Go.bits .and .i64 (a0 / 1099511627776) 1) == 1)) else (some false))
set_option maxHeartbeats 8000000 in
set_option maxRecDepth 100000 in
theorem impl_IsGroup.calls (a0 : Int) (r : Bool) (w : World) (h : impl_IsGroup.f a0 = some r) :
  Calls Try.prog 138 #[.int .i64 a0] w fun e w' => e = .returned (.bool r) ∧ Drawn0 w w' := by
 have H : ((impl_isMac.f a0).bind fun t277 => (if t277 = true then (some ((Go.bits .and .i64 (a0 / 1099511627776) 1) == 1)) else (some false))) = some r := h
 clear h
 replace H := Option.bind_eq_some_iff.mp H
 obtain ⟨t277, A20, H⟩ := H
 replace H : (if t277 = true then (some ((Go.bits .and .i64 (a0 / 1099511627776) 1) == 1)) else (some false)) = some r := H
 have A2 := Aside0.mk A20
 clear A20
 by_cases c3 : t277 = true
 ·subst c3
  have H1 : (some ((Go.bits .and .i64 (a0 / 1099511627776) 1) == 1)) = some r := by rw [if_pos rfl] at H; exact H
  clear H
  have H := H1
  clear H1
  obtain rfl := Option.some.inj H
  go_enter Try.func138, Try.ntmps138
  go_wp2_with (first | ((with_reducible refine Qq (f := 137) rfl ?_); refine Qx (some 4) rfl rfl Try.func137 (by kernel_rfl) rfl #[.int .i64 a0] rfl (by (try simp only [List.map_toArray, List.map_cons, List.map_nil]); first | done | rfl | (simp only [List.length_drop, List.length_take]; rfl)) ?_; (with_reducible refine (impl_isMac.calls a0 true _ A2.out).mono ?_); rintro e w' ⟨rfl, ⟨nd, rfl⟩⟩; refine ⟨_, rfl, ?_⟩))
  go_ret
  exact ⟨by first | rfl | (simp; done) | (simp [*]; done), by repeat (first | exact Drawn0.refl _ | apply Drawn0.step)⟩
 ·replace c3 := Bool.eq_false_iff.mpr c3
  subst c3
  have H1 : (some false) = some r := by rw [if_neg (show ¬ (false = true) by decide)] at H; exact H
  clear H
  have H := H1
  clear H1
  obtain rfl := Option.some.inj H
  go_enter Try.func138, Try.ntmps138
  go_wp2_with (first | ((with_reducible refine Qq (f := 137) rfl ?_); refine Qx (some 4) rfl rfl Try.func137 (by kernel_rfl) rfl #[.int .i64 a0] rfl (by (try simp only [List.map_toArray, List.map_cons, List.map_nil]); first | done | rfl | (simp only [List.length_drop, List.length_take]; rfl)) ?_; (with_reducible refine (impl_isMac.calls a0 false _ A2.out).mono ?_); rintro e w' ⟨rfl, ⟨nd, rfl⟩⟩; refine ⟨_, rfl, ?_⟩))
  go_ret
  exact ⟨by first | rfl | (simp; done) | (simp [*]; done), by repeat (first | exact Drawn0.refl _ | apply Drawn0.step)⟩
def impl_isGuest.f (a0 : Int) : Option (Bool) := (impl_isMac.f a0).bind fun t278 => (if t278 = true then ((impl_IsGroup.f a0).bind fun t279 => (some (!t279))) else (some false))
set_option maxHeartbeats 8000000 in
set_option maxRecDepth 100000 in
theorem impl_isGuest.calls (a0 : Int) (r : Bool) (w : World) (h : impl_isGuest.f a0 = some r) :
  Calls Try.prog 112 #[.int .i64 a0] w fun e w' => e = .returned (.bool r) ∧ Drawn0 w w' := by
 have H : ((impl_isMac.f a0).bind fun t278 => (if t278 = true then ((impl_IsGroup.f a0).bind fun t279 => (some (!t279))) else (some false))) = some r := h
 clear h
 replace H := Option.bind_eq_some_iff.mp H
 obtain ⟨t278, A20, H⟩ := H
 replace H : (if t278 = true then ((impl_IsGroup.f a0).bind fun t279 => (some (!t279))) else (some false)) = some r := H
 have A2 := Aside0.mk A20
 clear A20
 by_cases c3 : t278 = true
 ·subst c3
  have H1 : ((impl_IsGroup.f a0).bind fun t279 => (some (!t279))) = some r := by rw [if_pos rfl] at H; exact H
  clear H
  have H := H1
  clear H1
  replace H := Option.bind_eq_some_iff.mp H
  obtain ⟨t279, A40, H⟩ := H
  replace H : (some (!t279)) = some r := H
  have A4 := Aside0.mk A40
  clear A40
  obtain rfl := Option.some.inj H
  go_enter Try.func112, Try.ntmps112
  go_wp2_with (first | ((with_reducible refine Qq (f := 137) rfl ?_); refine Qx (some 4) rfl rfl Try.func137 (by kernel_rfl) rfl #[.int .i64 a0] rfl (by (try simp only [List.map_toArray, List.map_cons, List.map_nil]); first | done | rfl | (simp only [List.length_drop, List.length_take]; rfl)) ?_; (with_reducible refine (impl_isMac.calls a0 true _ A2.out).mono ?_); rintro e w' ⟨rfl, ⟨nd, rfl⟩⟩; refine ⟨_, rfl, ?_⟩) | (go_at_call 138; (with_reducible refine (impl_IsGroup.calls a0 t279 _ A4.out).mono ?_); rintro e w' ⟨rfl, ⟨nd, rfl⟩⟩))
  go_ret
  exact ⟨by first | rfl | (simp; done) | (simp [*]; done), by repeat (first | exact Drawn0.refl _ | apply Drawn0.step)⟩
 ·replace c3 := Bool.eq_false_iff.mpr c3
  subst c3
  have H1 : (some false) = some r := by rw [if_neg (show ¬ (false = true) by decide)] at H; exact H
  clear H
  have H := H1
  clear H1
  obtain rfl := Option.some.inj H
  go_enter Try.func112, Try.ntmps112
  go_wp2_with (first | ((with_reducible refine Qq (f := 137) rfl ?_); refine Qx (some 4) rfl rfl Try.func137 (by kernel_rfl) rfl #[.int .i64 a0] rfl (by (try simp only [List.map_toArray, List.map_cons, List.map_nil]); first | done | rfl | (simp only [List.length_drop, List.length_take]; rfl)) ?_; (with_reducible refine (impl_isMac.calls a0 false _ A2.out).mono ?_); rintro e w' ⟨rfl, ⟨nd, rfl⟩⟩; refine ⟨_, rfl, ?_⟩))
  go_ret
  exact ⟨by first | rfl | (simp; done) | (simp [*]; done), by repeat (first | exact Drawn0.refl _ | apply Drawn0.step)⟩
def impl_isIp.f (a0 : Int) : Option (Bool) := (impl_in.f a0 0 4294967295).bind fun t280 => (some t280)
set_option maxHeartbeats 8000000 in
set_option maxRecDepth 100000 in
theorem impl_isIp.calls (a0 : Int) (r : Bool) (w : World) (h : impl_isIp.f a0 = some r) :
  Calls Try.prog 113 #[.int .i64 a0] w fun e w' => e = .returned (.bool r) ∧ Drawn0 w w' := by
 have H : ((impl_in.f a0 0 4294967295).bind fun t280 => (some t280)) = some r := h
 clear h
 replace H := Option.bind_eq_some_iff.mp H
 obtain ⟨t280, A20, H⟩ := H
 replace H : (some t280) = some r := H
 have A2 := Aside0.mk A20
 clear A20
 obtain rfl := Option.some.inj H
 go_enter Try.func113, Try.ntmps113
 go_wp2_with (first | ((with_reducible refine Qq (f := 90) rfl ?_); refine Qx (some 4) rfl rfl Try.func90 (by kernel_rfl) rfl #[.int .i64 a0, .int .i64 0, .int .i64 4294967295] rfl (by (try simp only [List.map_toArray, List.map_cons, List.map_nil]); first | done | rfl | (simp only [List.length_drop, List.length_take]; rfl)) ?_; (with_reducible refine (impl_in.calls a0 0 4294967295 t280 _ A2.out).mono ?_); rintro e w' ⟨rfl, ⟨nd, rfl⟩⟩; refine ⟨_, rfl, ?_⟩))
 go_ret
 exact ⟨by first | rfl | (simp; done) | (simp [*]; done), by repeat (first | exact Drawn0.refl _ | apply Drawn0.step)⟩
def impl_isTime.f (a0 : Int) : Option (Bool) := (impl_in.f a0 0 1000000).bind fun t281 => (some t281)
set_option maxHeartbeats 8000000 in
set_option maxRecDepth 100000 in
theorem impl_isTime.calls (a0 : Int) (r : Bool) (w : World) (h : impl_isTime.f a0 = some r) :
  Calls Try.prog 114 #[.int .i64 a0] w fun e w' => e = .returned (.bool r) ∧ Drawn0 w w' := by
 have H : ((impl_in.f a0 0 1000000).bind fun t281 => (some t281)) = some r := h
 clear h
 replace H := Option.bind_eq_some_iff.mp H
 obtain ⟨t281, A20, H⟩ := H
 replace H : (some t281) = some r := H
 have A2 := Aside0.mk A20
 clear A20
 obtain rfl := Option.some.inj H
 go_enter Try.func114, Try.ntmps114
 go_wp2_with (first | ((with_reducible refine Qq (f := 90) rfl ?_); refine Qx (some 4) rfl rfl Try.func90 (by kernel_rfl) rfl #[.int .i64 a0, .int .i64 0, .int .i64 1000000] rfl (by (try simp only [List.map_toArray, List.map_cons, List.map_nil]); first | done | rfl | (simp only [List.length_drop, List.length_take]; rfl)) ?_; (with_reducible refine (impl_in.calls a0 0 1000000 t281 _ A2.out).mono ?_); rintro e w' ⟨rfl, ⟨nd, rfl⟩⟩; refine ⟨_, rfl, ?_⟩))
 go_ret
 exact ⟨by first | rfl | (simp; done) | (simp [*]; done), by repeat (first | exact Drawn0.refl _ | apply Drawn0.step)⟩
def impl_RouteRight.j0 : Nat → Bool → Int → Int → Int → Int → Int → Int → Bool → Option (Bool)
 | 0, _, _, _, _, _, _, _, _ => none
 | k + 1, x12, x283000, x283001, x283002, x283003, x283004, x283005, x283006 => if x12 = true then (some false) else (if x283000 = 2 then ((impl_isGuest.f x283002).bind fun t285 => (if t285 = true then ((impl_isIp.f x283003).bind fun t286 => (if t286 = true then ((impl_isTime.f x283005).bind fun t287 => (some t287)) else (some false))) else (some false))) else (some (x283000 == 3 && (x283002 == 0 && (x283003 == 0 && (x283005 == 0 && (!x283006)))))))
def impl_RouteRight.f (k : Nat) (a0_0 : Int) (a0_1 : Int) (a0_2 : Int) (a0_3 : Int) (a0_4 : Int) (a0_5 : Int) (a0_6 : Bool) : Option (Bool) := (impl_isVni.f a0_1).bind fun t283 => (if t283 = true then ((impl_isHouse.f a0_4).bind fun t284 => (impl_RouteRight.j0 k (!t284) a0_0 a0_1 a0_2 a0_3 a0_4 a0_5 a0_6)) else (impl_RouteRight.j0 k true a0_0 a0_1 a0_2 a0_3 a0_4 a0_5 a0_6))
theorem impl_RouteRight.mono_l : ∀ k, (∀ y0 y1 y2 y3 y4 y5 y6 y7, LeO (impl_RouteRight.j0 k y0 y1 y2 y3 y4 y5 y6 y7) (impl_RouteRight.j0 (k + 1) y0 y1 y2 y3 y4 y5 y6 y7))
 | 0 => fun _ _ _ _ _ _ _ _ r h => by simp [impl_RouteRight.j0] at h
 | k + 1 => by
  have ih0 := impl_RouteRight.mono_l k
  ·intro y0 y1 y2 y3 y4 y5 y6 y7
   unfold impl_RouteRight.j0
   repeat' first
   | (with_reducible exact ih0 _ _ _ _ _ _ _ _)
   | (with_reducible exact LeO.refl _)
   | (with_reducible exact LeO.none _)
   | (with_reducible refine LeO.ite ?_ ?_)
   | (with_reducible refine LeO.bind ?_ (fun _ => ?_))
   | exact ih0 _ _ _ _ _ _ _ _
   | exact LeO.none _
   | refine LeO.ite ?_ ?_
   | refine LeO.bind ?_ (fun _ => ?_)
theorem impl_RouteRight.mono : ∀ a0 a1 a2 a3 a4 a5 a6 k, LeO (impl_RouteRight.f k a0 a1 a2 a3 a4 a5 a6) (impl_RouteRight.f (k + 1) a0 a1 a2 a3 a4 a5 a6) := by
 intro a0 a1 a2 a3 a4 a5 a6 k
 have ih0 := impl_RouteRight.mono_l k
 unfold impl_RouteRight.f
 repeat' first
   | (with_reducible exact ih0 _ _ _ _ _ _ _ _)
   | (with_reducible exact LeO.refl _)
   | (with_reducible exact LeO.none _)
   | (with_reducible refine LeO.ite ?_ ?_)
   | (with_reducible refine LeO.bind ?_ (fun _ => ?_))
   | exact ih0 _ _ _ _ _ _ _ _
   | exact LeO.none _
   | refine LeO.ite ?_ ?_
   | refine LeO.bind ?_ (fun _ => ?_)
set_option maxHeartbeats 8000000 in
set_option maxRecDepth 100000 in
theorem impl_RouteRight.calls (k : Nat) (a0_0 : Int) (a0_1 : Int) (a0_2 : Int) (a0_3 : Int) (a0_4 : Int) (a0_5 : Int) (a0_6 : Bool) (r : Bool) (w : World) (h : impl_RouteRight.f k a0_0 a0_1 a0_2 a0_3 a0_4 a0_5 a0_6 = some r) :
  Calls Try.prog 71 #[.agg #[.int .i64 a0_0, .int .i64 a0_1, .int .i64 a0_2, .int .i64 a0_3, .int .i64 a0_4, .int .i64 a0_5, .bool a0_6]] w fun e w' => e = .returned (.bool r) ∧ Below w.heap.size w w' := by
 have hu42 := Try.underlying42
 have HB := Aside0.mk (Below.refl w.heap.size w)
 have H : ((impl_isVni.f a0_1).bind fun t283 => (if t283 = true then ((impl_isHouse.f a0_4).bind fun t284 => (impl_RouteRight.j0 k (!t284) a0_0 a0_1 a0_2 a0_3 a0_4 a0_5 a0_6)) else (impl_RouteRight.j0 k true a0_0 a0_1 a0_2 a0_3 a0_4 a0_5 a0_6))) = some r := h
 clear h
 have HC2 := Aside0.mk H
 clear H
 go_enter Try.func71, Try.ntmps71
 go_upto_region 1 with (first | ((with_reducible refine Qw (N := 1) rfl ?_); refine Qu ?hg (N := 1) ?hd (cs := #[.int .i64 a0_0, .int .i64 a0_1, .int .i64 a0_2, .int .i64 a0_3, .int .i64 a0_4, .int .i64 a0_5, .bool a0_6]) (t := 42) ?hr ?_; (case hd => rfl); (case hg => rfl); (case hr => first | (go_simp; done) | (go_simp; rfl)); intro gb282 hg w3 hbox hb; have n0_ := Aside0.mk (Qn (by repeat (first | (with_reducible first | exact HB.out | apply Qg | apply Qb | apply Qe) | exact HB.out)) hb); have n1_ := Aside0.mk (hbox); have n2_ := Aside0.mk ((by rw [hg]; exact (Ql (by repeat (first | (with_reducible first | exact HB.out | apply Qg | apply Qb | apply Qe) | exact HB.out))) : w.heap.size ≤ gb282)); have n3_ := Aside0.mk ((by rw [hg]; exact (Ql (by repeat (first | (with_reducible first | exact HB.out | apply Qg | apply Qb | apply Qe) | exact HB.out))) : w.heap.size ≤ gb282)); clear HB; have HB := n0_; have BK282 := n1_; have GW282 := n2_; have GE282 := n3_; clear n0_ n1_ n2_ n3_; clear hb hbox hg))
 (try simp only [Act.put, List.setIfInBounds_toArray, List.set_cons_zero, List.set_cons_succ])
 go_cut [12] (fun v12 wc => ∃ (kq : Nat) (x12_1 : Bool), v12 = .bool x12_1 ∧ Aside0 (impl_RouteRight.j0 kq x12_1 a0_0 a0_1 a0_2 a0_3 a0_4 a0_5 a0_6 = some r) ∧ Aside0 (kq ≤ k) ∧ Aside0 (wc.heap[gb282]? = some (.cells #[.int .i64 a0_0, .int .i64 a0_1, .int .i64 a0_2, .int .i64 a0_3, .int .i64 a0_4, .int .i64 a0_5, .bool a0_6] 42 (0, 0))) ∧ Aside0 (Below w.heap.size w wc))
 case first =>
  have H := HC2.out
  clear HC2
  replace H := Option.bind_eq_some_iff.mp H
  obtain ⟨t283, A40, H⟩ := H
  replace H : (if t283 = true then ((impl_isHouse.f a0_4).bind fun t284 => (impl_RouteRight.j0 k (!t284) a0_0 a0_1 a0_2 a0_3 a0_4 a0_5 a0_6)) else (impl_RouteRight.j0 k true a0_0 a0_1 a0_2 a0_3 a0_4 a0_5 a0_6)) = some r := H
  have A4 := Aside0.mk A40
  clear A40
  by_cases c5 : t283 = true
  ·subst c5
   have H1 : ((impl_isHouse.f a0_4).bind fun t284 => (impl_RouteRight.j0 k (!t284) a0_0 a0_1 a0_2 a0_3 a0_4 a0_5 a0_6)) = some r := by rw [if_pos rfl] at H; exact H
   clear H
   have H := H1
   clear H1
   replace H := Option.bind_eq_some_iff.mp H
   obtain ⟨t284, A60, H⟩ := H
   replace H : (impl_RouteRight.j0 k (!t284) a0_0 a0_1 a0_2 a0_3 a0_4 a0_5 a0_6) = some r := H
   have A6 := Aside0.mk A60
   clear A60
   have H' := Aside0.mk H
   clear H
   have hcz7_0 : w3.cell? ⟨gb282, 0, none⟩ = some (.int .i64 a0_0) := (Qa BK282.out 0).trans rfl
   have hcz7_1 : w3.cell? ⟨gb282, 1, none⟩ = some (.int .i64 a0_1) := (Qa BK282.out 1).trans rfl
   have hcz7_2 : w3.cell? ⟨gb282, 2, none⟩ = some (.int .i64 a0_2) := (Qa BK282.out 2).trans rfl
   have hcz7_3 : w3.cell? ⟨gb282, 3, none⟩ = some (.int .i64 a0_3) := (Qa BK282.out 3).trans rfl
   have hcz7_4 : w3.cell? ⟨gb282, 4, none⟩ = some (.int .i64 a0_4) := (Qa BK282.out 4).trans rfl
   have hcz7_5 : w3.cell? ⟨gb282, 5, none⟩ = some (.int .i64 a0_5) := (Qa BK282.out 5).trans rfl
   have hcz7_6 : w3.cell? ⟨gb282, 6, none⟩ = some (.bool a0_6) := (Qa BK282.out 6).trans rfl
   have hfz7_0 := Qd BK282.out 0
   have hfz7_1 := Qd BK282.out 1
   have hfz7_2 := Qd BK282.out 2
   have hfz7_3 := Qd BK282.out 3
   have hfz7_4 := Qd BK282.out 4
   have hfz7_5 := Qd BK282.out 5
   have hfz7_6 := Qd BK282.out 6
   go_wp2_with (first | ((with_reducible refine Qq (f := 77) rfl ?_); refine Qx (some 5) rfl rfl Try.func77 (by kernel_rfl) rfl #[.int .i64 a0_1] rfl (by (try simp only [List.map_toArray, List.map_cons, List.map_nil]); first | done | rfl | (simp only [List.length_drop, List.length_take]; rfl)) ?_; (with_reducible refine (impl_isVni.calls a0_1 true _ A4.out).mono ?_); rintro e w' ⟨rfl, ⟨nd, rfl⟩⟩; refine ⟨_, rfl, ?_⟩) | (go_at_call 111; (with_reducible refine (impl_isHouse.calls a0_4 t284 _ A6.out).mono ?_); rintro e w' ⟨rfl, ⟨nd, rfl⟩⟩))
   go_meet
   case rel => exact ⟨_, (!t284), (by first | rfl | (simp; done) | (simp [*]; done)), H', ⟨by first | omega | exact Nat.le_refl _⟩, ⟨by (with_reducible repeat (first | refine Qi ?_ _ | refine Qj ?_ | refine Qh ?_ _)); exact BK282.out⟩, ⟨by repeat (first | (with_reducible first | exact HB.out | apply Qg | apply Qb | apply Qe | refine Qc ?_ GE282.out) | exact HB.out)⟩⟩
  ·replace c5 := Bool.eq_false_iff.mpr c5
   subst c5
   have H1 : (impl_RouteRight.j0 k true a0_0 a0_1 a0_2 a0_3 a0_4 a0_5 a0_6) = some r := by rw [if_neg (show ¬ (false = true) by decide)] at H; exact H
   clear H
   have H := H1
   clear H1
   have H' := Aside0.mk H
   clear H
   have hcz8_0 : w3.cell? ⟨gb282, 0, none⟩ = some (.int .i64 a0_0) := (Qa BK282.out 0).trans rfl
   have hcz8_1 : w3.cell? ⟨gb282, 1, none⟩ = some (.int .i64 a0_1) := (Qa BK282.out 1).trans rfl
   have hcz8_2 : w3.cell? ⟨gb282, 2, none⟩ = some (.int .i64 a0_2) := (Qa BK282.out 2).trans rfl
   have hcz8_3 : w3.cell? ⟨gb282, 3, none⟩ = some (.int .i64 a0_3) := (Qa BK282.out 3).trans rfl
   have hcz8_4 : w3.cell? ⟨gb282, 4, none⟩ = some (.int .i64 a0_4) := (Qa BK282.out 4).trans rfl
   have hcz8_5 : w3.cell? ⟨gb282, 5, none⟩ = some (.int .i64 a0_5) := (Qa BK282.out 5).trans rfl
   have hcz8_6 : w3.cell? ⟨gb282, 6, none⟩ = some (.bool a0_6) := (Qa BK282.out 6).trans rfl
   have hfz8_0 := Qd BK282.out 0
   have hfz8_1 := Qd BK282.out 1
   have hfz8_2 := Qd BK282.out 2
   have hfz8_3 := Qd BK282.out 3
   have hfz8_4 := Qd BK282.out 4
   have hfz8_5 := Qd BK282.out 5
   have hfz8_6 := Qd BK282.out 6
   go_wp2_with (first | ((with_reducible refine Qq (f := 77) rfl ?_); refine Qx (some 5) rfl rfl Try.func77 (by kernel_rfl) rfl #[.int .i64 a0_1] rfl (by (try simp only [List.map_toArray, List.map_cons, List.map_nil]); first | done | rfl | (simp only [List.length_drop, List.length_take]; rfl)) ?_; (with_reducible refine (impl_isVni.calls a0_1 false _ A4.out).mono ?_); rintro e w' ⟨rfl, ⟨nd, rfl⟩⟩; refine ⟨_, rfl, ?_⟩))
   go_meet
   case rel => exact ⟨_, (true), (by first | rfl | (simp; done) | (simp [*]; done)), H', ⟨by first | omega | exact Nat.le_refl _⟩, ⟨by (with_reducible repeat (first | refine Qi ?_ _ | refine Qj ?_ | refine Qh ?_ _)); exact BK282.out⟩, ⟨by repeat (first | (with_reducible first | exact HB.out | apply Qg | apply Qb | apply Qe | refine Qc ?_ GE282.out) | exact HB.out)⟩⟩
 case rest =>
  clear HC2
  try clear p2
  try clear c5
  try clear c7
  try clear hcz7_0
  try clear hcz7_1
  try clear hcz7_2
  try clear hcz7_3
  try clear hcz7_4
  try clear hcz7_5
  try clear hcz7_6
  try clear hcz8_0
  try clear hcz8_1
  try clear hcz8_2
  try clear hcz8_3
  try clear hcz8_4
  try clear hcz8_5
  try clear hcz8_6
  try clear hfz7_0
  try clear hfz7_1
  try clear hfz7_2
  try clear hfz7_3
  try clear hfz7_4
  try clear hfz7_5
  try clear hfz7_6
  try clear hfz8_0
  try clear hfz8_1
  try clear hfz8_2
  try clear hfz8_3
  try clear hfz8_4
  try clear hfz8_5
  try clear hfz8_6
  obtain ⟨kq, x12_1, rfl, HA, HJ1, BK282, HB⟩ := hcut
  cases kq with
  | zero => exact absurd HA.out (by simp [impl_RouteRight.j0])
  | succ kj1 =>
   have H := HA.out
   clear HA
   simp only [impl_RouteRight.j0] at H
   by_cases c9 : x12_1 = true
   ·subst c9
    have H1 : (some false) = some r := by rw [if_pos rfl] at H; exact H
    clear H
    have H := H1
    clear H1
    obtain rfl := Option.some.inj H
    go_wp2
    go_ret
    exact ⟨by first | rfl | (simp [Qp, Qo] <;> rfl) | (simp [*, Qp, Qo] <;> rfl), by repeat (first | (with_reducible first | exact HB.out | apply Qg | apply Qb | apply Qe | refine Qc ?_ GE282.out) | exact HB.out)⟩
   ·replace c9 := Bool.eq_false_iff.mpr c9
    subst c9
    have H1 : (if a0_0 = 2 then ((impl_isGuest.f a0_2).bind fun t285 => (if t285 = true then ((impl_isIp.f a0_3).bind fun t286 => (if t286 = true then ((impl_isTime.f a0_5).bind fun t287 => (some t287)) else (some false))) else (some false))) else (some (a0_0 == 3 && (a0_2 == 0 && (a0_3 == 0 && (a0_5 == 0 && (!a0_6))))))) = some r := by rw [if_neg (show ¬ (false = true) by decide)] at H; exact H
    clear H
    have H := H1
    clear H1
    by_cases c10 : a0_0 = 2
    ·rw [if_pos c10] at H
     have c10b0 : (a0_0 == 2) = true := beq_iff_eq.mpr c10
     have c10b1 : (a0_0 != 2) = false := bne_eq_false_iff_eq.mpr c10
     clear c10
     replace H := Option.bind_eq_some_iff.mp H
     obtain ⟨t285, A110, H⟩ := H
     replace H : (if t285 = true then ((impl_isIp.f a0_3).bind fun t286 => (if t286 = true then ((impl_isTime.f a0_5).bind fun t287 => (some t287)) else (some false))) else (some false)) = some r := H
     have A11 := Aside0.mk A110
     clear A110
     by_cases c12 : t285 = true
     ·subst c12
      have H1 : ((impl_isIp.f a0_3).bind fun t286 => (if t286 = true then ((impl_isTime.f a0_5).bind fun t287 => (some t287)) else (some false))) = some r := by rw [if_pos rfl] at H; exact H
      clear H
      have H := H1
      clear H1
      replace H := Option.bind_eq_some_iff.mp H
      obtain ⟨t286, A130, H⟩ := H
      replace H : (if t286 = true then ((impl_isTime.f a0_5).bind fun t287 => (some t287)) else (some false)) = some r := H
      have A13 := Aside0.mk A130
      clear A130
      by_cases c14 : t286 = true
      ·subst c14
       have H1 : ((impl_isTime.f a0_5).bind fun t287 => (some t287)) = some r := by rw [if_pos rfl] at H; exact H
       clear H
       have H := H1
       clear H1
       replace H := Option.bind_eq_some_iff.mp H
       obtain ⟨t287, A150, H⟩ := H
       replace H : (some t287) = some r := H
       have A15 := Aside0.mk A150
       clear A150
       obtain rfl := Option.some.inj H
       have hcz16_0 : wc.cell? ⟨gb282, 0, none⟩ = some (.int .i64 a0_0) := (Qa BK282.out 0).trans rfl
       have hcz16_1 : wc.cell? ⟨gb282, 1, none⟩ = some (.int .i64 a0_1) := (Qa BK282.out 1).trans rfl
       have hcz16_2 : wc.cell? ⟨gb282, 2, none⟩ = some (.int .i64 a0_2) := (Qa BK282.out 2).trans rfl
       have hcz16_3 : wc.cell? ⟨gb282, 3, none⟩ = some (.int .i64 a0_3) := (Qa BK282.out 3).trans rfl
       have hcz16_4 : wc.cell? ⟨gb282, 4, none⟩ = some (.int .i64 a0_4) := (Qa BK282.out 4).trans rfl
       have hcz16_5 : wc.cell? ⟨gb282, 5, none⟩ = some (.int .i64 a0_5) := (Qa BK282.out 5).trans rfl
       have hcz16_6 : wc.cell? ⟨gb282, 6, none⟩ = some (.bool a0_6) := (Qa BK282.out 6).trans rfl
       have hfz16_0 := Qd BK282.out 0
       have hfz16_1 := Qd BK282.out 1
       have hfz16_2 := Qd BK282.out 2
       have hfz16_3 := Qd BK282.out 3
       have hfz16_4 := Qd BK282.out 4
       have hfz16_5 := Qd BK282.out 5
       have hfz16_6 := Qd BK282.out 6
       go_wp2_with (first | ((with_reducible refine Qq (f := 112) rfl ?_); refine Qx (some 18) rfl rfl Try.func112 (by kernel_rfl) rfl #[.int .i64 a0_2] rfl (by (try simp only [List.map_toArray, List.map_cons, List.map_nil]); first | done | rfl | (simp only [List.length_drop, List.length_take]; rfl)) ?_; (with_reducible refine (impl_isGuest.calls a0_2 true _ A11.out).mono ?_); rintro e w' ⟨rfl, ⟨nd, rfl⟩⟩; refine ⟨_, rfl, ?_⟩) | (go_at_call 113; (with_reducible refine (impl_isIp.calls a0_3 true _ A13.out).mono ?_); rintro e w' ⟨rfl, ⟨nd, rfl⟩⟩) | (go_at_call 114; (with_reducible refine (impl_isTime.calls a0_5 t287 _ A15.out).mono ?_); rintro e w' ⟨rfl, ⟨nd, rfl⟩⟩))
       go_ret
       exact ⟨by first | rfl | (simp [Qp, Qo] <;> rfl) | (simp [*, Qp, Qo] <;> rfl), by repeat (first | (with_reducible first | exact HB.out | apply Qg | apply Qb | apply Qe | refine Qc ?_ GE282.out) | exact HB.out)⟩
      ·replace c14 := Bool.eq_false_iff.mpr c14
       subst c14
       have H1 : (some false) = some r := by rw [if_neg (show ¬ (false = true) by decide)] at H; exact H
       clear H
       have H := H1
       clear H1
       obtain rfl := Option.some.inj H
       have hcz17_0 : wc.cell? ⟨gb282, 0, none⟩ = some (.int .i64 a0_0) := (Qa BK282.out 0).trans rfl
       have hcz17_1 : wc.cell? ⟨gb282, 1, none⟩ = some (.int .i64 a0_1) := (Qa BK282.out 1).trans rfl
       have hcz17_2 : wc.cell? ⟨gb282, 2, none⟩ = some (.int .i64 a0_2) := (Qa BK282.out 2).trans rfl
       have hcz17_3 : wc.cell? ⟨gb282, 3, none⟩ = some (.int .i64 a0_3) := (Qa BK282.out 3).trans rfl
       have hcz17_4 : wc.cell? ⟨gb282, 4, none⟩ = some (.int .i64 a0_4) := (Qa BK282.out 4).trans rfl
       have hcz17_5 : wc.cell? ⟨gb282, 5, none⟩ = some (.int .i64 a0_5) := (Qa BK282.out 5).trans rfl
       have hcz17_6 : wc.cell? ⟨gb282, 6, none⟩ = some (.bool a0_6) := (Qa BK282.out 6).trans rfl
       have hfz17_0 := Qd BK282.out 0
       have hfz17_1 := Qd BK282.out 1
       have hfz17_2 := Qd BK282.out 2
       have hfz17_3 := Qd BK282.out 3
       have hfz17_4 := Qd BK282.out 4
       have hfz17_5 := Qd BK282.out 5
       have hfz17_6 := Qd BK282.out 6
       go_wp2_with (first | ((with_reducible refine Qq (f := 112) rfl ?_); refine Qx (some 18) rfl rfl Try.func112 (by kernel_rfl) rfl #[.int .i64 a0_2] rfl (by (try simp only [List.map_toArray, List.map_cons, List.map_nil]); first | done | rfl | (simp only [List.length_drop, List.length_take]; rfl)) ?_; (with_reducible refine (impl_isGuest.calls a0_2 true _ A11.out).mono ?_); rintro e w' ⟨rfl, ⟨nd, rfl⟩⟩; refine ⟨_, rfl, ?_⟩) | (go_at_call 113; (with_reducible refine (impl_isIp.calls a0_3 false _ A13.out).mono ?_); rintro e w' ⟨rfl, ⟨nd, rfl⟩⟩))
       go_ret
       exact ⟨by first | rfl | (simp [Qp, Qo] <;> rfl) | (simp [*, Qp, Qo] <;> rfl), by repeat (first | (with_reducible first | exact HB.out | apply Qg | apply Qb | apply Qe | refine Qc ?_ GE282.out) | exact HB.out)⟩
     ·replace c12 := Bool.eq_false_iff.mpr c12
      subst c12
      have H1 : (some false) = some r := by rw [if_neg (show ¬ (false = true) by decide)] at H; exact H
      clear H
      have H := H1
      clear H1
      obtain rfl := Option.some.inj H
      have hcz18_0 : wc.cell? ⟨gb282, 0, none⟩ = some (.int .i64 a0_0) := (Qa BK282.out 0).trans rfl
      have hcz18_1 : wc.cell? ⟨gb282, 1, none⟩ = some (.int .i64 a0_1) := (Qa BK282.out 1).trans rfl
      have hcz18_2 : wc.cell? ⟨gb282, 2, none⟩ = some (.int .i64 a0_2) := (Qa BK282.out 2).trans rfl
      have hcz18_3 : wc.cell? ⟨gb282, 3, none⟩ = some (.int .i64 a0_3) := (Qa BK282.out 3).trans rfl
      have hcz18_4 : wc.cell? ⟨gb282, 4, none⟩ = some (.int .i64 a0_4) := (Qa BK282.out 4).trans rfl
      have hcz18_5 : wc.cell? ⟨gb282, 5, none⟩ = some (.int .i64 a0_5) := (Qa BK282.out 5).trans rfl
      have hcz18_6 : wc.cell? ⟨gb282, 6, none⟩ = some (.bool a0_6) := (Qa BK282.out 6).trans rfl
      have hfz18_0 := Qd BK282.out 0
      have hfz18_1 := Qd BK282.out 1
      have hfz18_2 := Qd BK282.out 2
      have hfz18_3 := Qd BK282.out 3
      have hfz18_4 := Qd BK282.out 4
      have hfz18_5 := Qd BK282.out 5
      have hfz18_6 := Qd BK282.out 6
      go_wp2_with (first | ((with_reducible refine Qq (f := 112) rfl ?_); refine Qx (some 18) rfl rfl Try.func112 (by kernel_rfl) rfl #[.int .i64 a0_2] rfl (by (try simp only [List.map_toArray, List.map_cons, List.map_nil]); first | done | rfl | (simp only [List.length_drop, List.length_take]; rfl)) ?_; (with_reducible refine (impl_isGuest.calls a0_2 false _ A11.out).mono ?_); rintro e w' ⟨rfl, ⟨nd, rfl⟩⟩; refine ⟨_, rfl, ?_⟩))
      go_ret
      exact ⟨by first | rfl | (simp [Qp, Qo] <;> rfl) | (simp [*, Qp, Qo] <;> rfl), by repeat (first | (with_reducible first | exact HB.out | apply Qg | apply Qb | apply Qe | refine Qc ?_ GE282.out) | exact HB.out)⟩
    ·rw [if_neg c10] at H
     have c10b0 : (a0_0 == 2) = false := beq_eq_false_iff_ne.mpr c10
     have c10b1 : (a0_0 != 2) = true := bne_iff_ne.mpr c10
     obtain rfl := Option.some.inj H
     have hcz19_0 : wc.cell? ⟨gb282, 0, none⟩ = some (.int .i64 a0_0) := (Qa BK282.out 0).trans rfl
     have hcz19_1 : wc.cell? ⟨gb282, 1, none⟩ = some (.int .i64 a0_1) := (Qa BK282.out 1).trans rfl
     have hcz19_2 : wc.cell? ⟨gb282, 2, none⟩ = some (.int .i64 a0_2) := (Qa BK282.out 2).trans rfl
     have hcz19_3 : wc.cell? ⟨gb282, 3, none⟩ = some (.int .i64 a0_3) := (Qa BK282.out 3).trans rfl
     have hcz19_4 : wc.cell? ⟨gb282, 4, none⟩ = some (.int .i64 a0_4) := (Qa BK282.out 4).trans rfl
     have hcz19_5 : wc.cell? ⟨gb282, 5, none⟩ = some (.int .i64 a0_5) := (Qa BK282.out 5).trans rfl
     have hcz19_6 : wc.cell? ⟨gb282, 6, none⟩ = some (.bool a0_6) := (Qa BK282.out 6).trans rfl
     have hfz19_0 := Qd BK282.out 0
     have hfz19_1 := Qd BK282.out 1
     have hfz19_2 := Qd BK282.out 2
     have hfz19_3 := Qd BK282.out 3
     have hfz19_4 := Qd BK282.out 4
     have hfz19_5 := Qd BK282.out 5
     have hfz19_6 := Qd BK282.out 6
     go_wp2
     go_ret
     exact ⟨by first | rfl | (simp [Qp, Qo] <;> rfl) | (simp [*, Qp, Qo] <;> rfl), by repeat (first | (with_reducible first | exact HB.out | apply Qg | apply Qb | apply Qe | refine Qc ?_ GE282.out) | exact HB.out)⟩
def impl_isPeer.f (a0 : Int) : Option (Bool) := (impl_in.f a0 1 9).bind fun t288 => (some t288)
set_option maxHeartbeats 8000000 in
set_option maxRecDepth 100000 in
theorem impl_isPeer.calls (a0 : Int) (r : Bool) (w : World) (h : impl_isPeer.f a0 = some r) :
  Calls Try.prog 102 #[.int .i64 a0] w fun e w' => e = .returned (.bool r) ∧ Drawn0 w w' := by
 have H : ((impl_in.f a0 1 9).bind fun t288 => (some t288)) = some r := h
 clear h
 replace H := Option.bind_eq_some_iff.mp H
 obtain ⟨t288, A20, H⟩ := H
 replace H : (some t288) = some r := H
 have A2 := Aside0.mk A20
 clear A20
 obtain rfl := Option.some.inj H
 go_enter Try.func102, Try.ntmps102
 go_wp2_with (first | ((with_reducible refine Qq (f := 90) rfl ?_); refine Qx (some 4) rfl rfl Try.func90 (by kernel_rfl) rfl #[.int .i64 a0, .int .i64 1, .int .i64 9] rfl (by (try simp only [List.map_toArray, List.map_cons, List.map_nil]); first | done | rfl | (simp only [List.length_drop, List.length_take]; rfl)) ?_; (with_reducible refine (impl_in.calls a0 1 9 t288 _ A2.out).mono ?_); rintro e w' ⟨rfl, ⟨nd, rfl⟩⟩; refine ⟨_, rfl, ?_⟩))
 go_ret
 exact ⟨by first | rfl | (simp; done) | (simp [*]; done), by repeat (first | exact Drawn0.refl _ | apply Drawn0.step)⟩
def cmp_Or_int.l0 : Nat → Int → List Int → Int → Int → Option (Int)
 | 0, _, _, _, _ => none
 | k + 1, x3, x6, x7, x8 => if x8 < x7 then (if 0 ≤ x8 then (if x8 < (x6.length : Int) then (if (rd x6 x8) = x3 then (cmp_Or_int.l0 k x3 x6 x7 (wrap64 (x8 + 1))) else (some (rd x6 x8))) else (none)) else (none)) else (some x3)
def cmp_Or_int.f (k : Nat) (l0 : List Int) : Option (Int) := cmp_Or_int.l0 k 0 l0 (l0.length : Int) 0
theorem cmp_Or_int.mono_l : ∀ k, (∀ y0 y1 y2 y3, LeO (cmp_Or_int.l0 k y0 y1 y2 y3) (cmp_Or_int.l0 (k + 1) y0 y1 y2 y3))
 | 0 => fun _ _ _ _ r h => by simp [cmp_Or_int.l0] at h
 | k + 1 => by
  have ih0 := cmp_Or_int.mono_l k
  ·intro y0 y1 y2 y3
   unfold cmp_Or_int.l0
   repeat' first
   | (with_reducible exact ih0 _ _ _ _)
   | (with_reducible exact LeO.refl _)
   | (with_reducible exact LeO.none _)
   | (with_reducible refine LeO.ite ?_ ?_)
   | (with_reducible refine LeO.bind ?_ (fun _ => ?_))
   | exact ih0 _ _ _ _
   | exact LeO.none _
   | refine LeO.ite ?_ ?_
   | refine LeO.bind ?_ (fun _ => ?_)
theorem cmp_Or_int.mono : ∀ a0 k, LeO (cmp_Or_int.f k a0) (cmp_Or_int.f (k + 1) a0) := by
 intro a0 k
 have ih0 := cmp_Or_int.mono_l k
 unfold cmp_Or_int.f
 repeat' first
   | (with_reducible exact ih0 _ _ _ _)
   | (with_reducible exact LeO.refl _)
   | (with_reducible exact LeO.none _)
   | (with_reducible refine LeO.ite ?_ ?_)
   | (with_reducible refine LeO.bind ?_ (fun _ => ?_))
   | exact ih0 _ _ _ _
   | exact LeO.none _
   | refine LeO.ite ?_ ?_
   | refine LeO.bind ?_ (fun _ => ?_)
set_option maxHeartbeats 8000000 in
set_option maxRecDepth 100000 in
theorem cmp_Or_int.calls (k : Nat) (A0 : Option Addr) (c0 : Nat) (l0 : List Int) (r : Int) (w : World) (hr0 : Kd.C (Kd.int .i64) w A0 l0.length l0) (hc0 : l0.length ≤ c0) (h : cmp_Or_int.f k l0 = some r) :
  Calls Try.prog 135 #[.slice A0 l0.length c0] w fun e w' => e = .returned (.int .i64 r) ∧ Drawn0 w w' := by
 have HR0 := Aside0.mk hr0
 have HC0 := Aside0.mk hc0
 clear hr0 hc0
 have H : (cmp_Or_int.l0 k 0 l0 (l0.length : Int) 0) = some r := h
 clear h
 have H' := Aside0.mk H
 clear H
 go_enter Try.func135, Try.ntmps135
 go_wp2
 go_loopg [8] k (fun kq v8 w' => ∃ (x8_1 : Int), v8 = .int .i64 x8_1 ∧ Aside0 (cmp_Or_int.l0 kq 0 l0 (l0.length : Int) x8_1 = some r) ∧ Aside0 (kq ≤ k) ∧ Drawn0 w w')
 case atStart => exact ⟨(0), (by first | rfl | (simp; done) | (simp [*]; done)), H', ⟨Nat.le_refl _⟩, by repeat (first | exact Drawn0.refl _ | apply Drawn0.step)⟩
 case round =>
  clear H'
  try clear c1
  obtain ⟨x8_1, rfl, HA, HK1, ⟨m1, rfl⟩⟩ := hrel
  cases gk with
  | zero => exact absurd HA.out (by simp [cmp_Or_int.l0])
  | succ k1 =>
   have H := HA.out
   clear HA
   simp only [cmp_Or_int.l0] at H
   by_cases c2 : x8_1 < (l0.length : Int)
   ·rw [if_pos c2] at H
    have c2b0 : decide (x8_1 < (l0.length : Int)) = true := decide_eq_true c2
    clear c2
    by_cases c3 : 0 ≤ x8_1
    ·rw [if_pos c3] at H
     have c3b0 : decide (0 ≤ x8_1) = true := decide_eq_true c3
     clear c3
     by_cases c4 : x8_1 < (l0.length : Int)
     ·rw [if_pos c4] at H
      have c4b0 : decide (x8_1 < (l0.length : Int)) = true := decide_eq_true c4
      clear c4
      by_cases c5 : (rd l0 x8_1) = 0
      ·rw [if_pos c5] at H
       have c5b0 : ((rd l0 x8_1) == 0) = true := beq_iff_eq.mpr c5
       have c5b1 : ((rd l0 x8_1) != 0) = false := bne_eq_false_iff_eq.mpr c5
       clear c5
       have H' := Aside0.mk H
       clear H
       have p289 : 0 ≤ (x8_1 : Int) := of_decide_eq_true (by assumption)
       have q289 : x8_1 < (l0.length : Int) := of_decide_eq_true (by assumption)
       obtain ⟨ad289, e289, hx289_0⟩ := Kd.at_int HR0.out x8_1 p289 q289
       cases e289
       replace p289 := eq_true p289
       replace q289 := eq_true q289
       go_wp2
       go_roundg k1
       case measure => have := HK1.out; omega
       case rel => exact ⟨(wrap64 (x8_1 + 1)), (by first | rfl | (simp; done) | (simp [*]; done)), H', ⟨by have := HK1.out; omega⟩, by repeat (first | exact Drawn0.refl _ | apply Drawn0.step)⟩
      ·rw [if_neg c5] at H
       have c5b0 : ((rd l0 x8_1) == 0) = false := beq_eq_false_iff_ne.mpr c5
       have c5b1 : ((rd l0 x8_1) != 0) = true := bne_iff_ne.mpr c5
       obtain rfl := Option.some.inj H
       have p289 : 0 ≤ (x8_1 : Int) := of_decide_eq_true (by assumption)
       have q289 : x8_1 < (l0.length : Int) := of_decide_eq_true (by assumption)
       obtain ⟨ad289, e289, hx289_0⟩ := Kd.at_int HR0.out x8_1 p289 q289
       cases e289
       replace p289 := eq_true p289
       replace q289 := eq_true q289
       go_wp2
       go_ret
       exact ⟨by first | rfl | (simp; done) | (simp [*]; done), by repeat (first | exact Drawn0.refl _ | apply Drawn0.step)⟩
     ·rw [if_neg c4] at H
      exact absurd H (by simp)
    ·rw [if_neg c3] at H
     exact absurd H (by simp)
   ·rw [if_neg c2] at H
    have c2b0 : decide (x8_1 < (l0.length : Int)) = false := decide_eq_false c2
    clear c2
    obtain rfl := Option.some.inj H
    go_wp2
    go_ret
    exact ⟨by first | rfl | (simp; done) | (simp [*]; done), by repeat (first | exact Drawn0.refl _ | apply Drawn0.step)⟩
def cmp_isNaN_int64.f (a0 : Int) : Option (Bool) := some (a0 != a0)
set_option maxHeartbeats 8000000 in
set_option maxRecDepth 100000 in
theorem cmp_isNaN_int64.calls (a0 : Int) (r : Bool) (w : World) (h : cmp_isNaN_int64.f a0 = some r) :
  Calls Try.prog 161 #[.int .i64 a0] w fun e w' => e = .returned (.bool r) ∧ Drawn0 w w' := by
 have H : (some (a0 != a0)) = some r := h
 clear h
 obtain rfl := Option.some.inj H
 go_enter Try.func161, Try.ntmps161
 go_wp2
 go_ret
 exact ⟨by first | rfl | (simp; done) | (simp [*]; done), by repeat (first | exact Drawn0.refl _ | apply Drawn0.step)⟩
end Go.Proofs.Ytmgmaflfednngaa.PFnExactRibPut
