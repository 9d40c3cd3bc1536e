-- A copy, by trim.py of this session's wip/gen, of a text of this claim, without what the row does not reach and without comments: not an official print.
import Derived.Test.YtmgmaflfednngaaZExactRibSweepPFnExactRibSweepx0
import Derived.Test.YtmgmaflfednngaaZExactRibSweepPFnExactRibSweepx2
import Derived.Test.YtmgmaflfednngaaZExactRibSweepPFnExactRibSweepx3
import Derived.Test.YtmgmaflfednngaaZExactRibSweepPFnExactRibSweepx5
import Derived.Test.YtmgmaflfednngaaZExactRibSweepPFnExactRibSweepx9
import Derived.Test.YtmgmaflfednngaaZExactRibSweepPFnExactRibSweepx10
import Derived.Test.YtmgmaflfednngaaZExactRibSweepPFnExactRibSweepx12
import Derived.Test.YtmgmaflfednngaaZExactRibSweepBase
import Derived.Test.YtmgmaflfednngaaZExactRibSweepSlices
import Derived.Shelf.Abstract
namespace Go.Proofs.Ytmgmaflfednngaa.PFnExactRibSweep
open Go.RowKit Go.Proofs.YtmgmaflfednngaaW.PrintWords Go.Proofs.YtmgmaflfednngaaW.PrintLast Go.Proofs.YtmgmaflfednngaaW.PrintMore
attribute [local go_sem] max2_int min2_int max_two min_two max_three min_three max_four min_four   -- for this text's walks alone
set_option linter.unusedVariables false
set_option linter.unusedSimpArgs false
def impl_ribCode.f (k : Nat) (l0 : List (S73)) (a1 : Int) (a2 : Bool) : Option (Int) := if (l0.length : Int) > 400 then (some 2) else ((impl_RibRight.f k l0).bind fun t284 => (if t284 = true then ((impl_isPeer.f a1).bind fun t285 => (if t285 = true then (if a2 = true then (some 0) else (some 1)) else (some 1))) else (some 1)))
theorem impl_ribCode.mono : ∀ a0 a1 a2 k, LeO (impl_ribCode.f k a0 a1 a2) (impl_ribCode.f (k + 1) a0 a1 a2) := by
 intro a0 a1 a2 k
 unfold impl_ribCode.f
 repeat' first
   | (with_reducible exact impl_RibRight.mono _ _)
   | (with_reducible exact LeO.refl _)
   | (with_reducible exact LeO.none _)
   | (with_reducible refine LeO.ite ?_ ?_)
   | (with_reducible refine LeO.bind ?_ (fun _ => ?_))
   | exact impl_RibRight.mono _ _
   | exact LeO.none _
   | refine LeO.ite ?_ ?_
   | refine LeO.bind ?_ (fun _ => ?_)
set_option maxHeartbeats 8000000 in
set_option maxRecDepth 100000 in
theorem impl_ribCode.calls (k : Nat) (A0 : Option Addr) (c0 : Nat) (l0 : List (S73)) (a1 : Int) (a2 : Bool) (r : Int) (w : World) (hr0 : Kd.C k73 w A0 l0.length l0) (hc0 : l0.length ≤ c0) (h : impl_ribCode.f k l0 a1 a2 = some r) :
  Calls Try.prog 64 #[.slice A0 l0.length c0, .int .i64 a1, .bool a2] w fun e w' => e = .returned (.int .i64 r) ∧ Below w.heap.size w w' := by
 have HR0 := Aside0.mk hr0
 have HC0 := Aside0.mk hc0
 clear hr0 hc0
 have HB := Aside0.mk (Below.refl w.heap.size w)
 have H : (if (l0.length : Int) > 400 then (some 2) else ((impl_RibRight.f k l0).bind fun t284 => (if t284 = true then ((impl_isPeer.f a1).bind fun t285 => (if t285 = true then (if a2 = true then (some 0) else (some 1)) else (some 1))) else (some 1)))) = some r := h
 clear h
 by_cases c4 : (l0.length : Int) > 400
 ·rw [if_pos c4] at H
  have c4b0 : decide (400 < (l0.length : Int)) = true := decide_eq_true c4
  have c4b1 : decide (400 < l0.length) = true := decide_eq_true (by omega)
  clear c4
  obtain rfl := Option.some.inj H
  go_enter Try.func64, Try.ntmps64
  go_wp2
  go_ret
  exact ⟨by first | rfl | (simp [errW_none, errW_some] <;> rfl) | (simp [*, errW_none, errW_some] <;> rfl), by repeat (first | (with_reducible first | exact HB.out | apply below_alloc | apply pw_below_drewN | apply below_drew1) | exact HB.out)⟩
 ·rw [if_neg c4] at H
  have c4b0 : decide (400 < (l0.length : Int)) = false := decide_eq_false c4
  have c4b1 : decide (400 < l0.length) = false := decide_eq_false (by omega)
  clear c4
  replace H := Option.bind_eq_some_iff.mp H
  obtain ⟨t284, A50, H⟩ := H
  replace H : (if t284 = true then ((impl_isPeer.f a1).bind fun t285 => (if t285 = true then (if a2 = true then (some 0) else (some 1)) else (some 1))) else (some 1)) = some r := H
  have A5 := Aside0.mk A50
  clear A50
  by_cases c6 : t284 = true
  ·subst c6
   have H1 : ((impl_isPeer.f a1).bind fun t285 => (if t285 = true then (if a2 = true then (some 0) else (some 1)) else (some 1))) = some r := by rw [if_pos rfl] at H; exact H
   clear H
   have H := H1
   clear H1
   replace H := Option.bind_eq_some_iff.mp H
   obtain ⟨t285, A70, H⟩ := H
   replace H : (if t285 = true then (if a2 = true then (some 0) else (some 1)) else (some 1)) = some r := H
   have A7 := Aside0.mk A70
   clear A70
   by_cases c8 : t285 = true
   ·subst c8
    have H1 : (if a2 = true then (some 0) else (some 1)) = some r := by rw [if_pos rfl] at H; exact H
    clear H
    have H := H1
    clear H1
    by_cases c9 : a2 = true
    ·subst c9
     have H1 : (some 0) = some r := by rw [if_pos rfl] at H; exact H
     clear H
     have H := H1
     clear H1
     obtain rfl := Option.some.inj H
     go_enter Try.func64, Try.ntmps64
     go_wp2_with (first | ((with_reducible refine gate_callee (f := 57) rfl ?_); refine goesL_ (some 13) rfl rfl Try.func57 (by kernel_rfl) rfl #[.slice A0 l0.length c0] rfl (by (try simp only [List.map_toArray, List.map_cons, List.map_nil]); first | done | rfl | (simp only [List.length_drop, List.length_take]; rfl)) ?_; (with_reducible refine (impl_RibRight.calls k _ _ l0 true _ ?side1 ?side2 A5.out).mono ?_); (case side1 => repeat (first | exact HR0.out | (with_reducible refine Kd.C_alloc ?_ _) | (with_reducible refine Kd.C_drewN ?_ _) | (with_reducible refine Kd.C_drew ?_))); (case side2 => exact HC0.out); rintro e w10 ⟨rfl, hb⟩; refine ⟨_, rfl, ?_⟩; have n0_ := Aside0.mk (below_step (by repeat (first | (with_reducible first | exact HB.out | apply below_alloc | apply pw_below_drewN | apply below_drew1) | exact HB.out)) hb); clear HB; have HB := n0_; clear n0_; (try clear hb); (try clear hb2); (try clear hk); (try clear hi)) | (go_at_call 102; (with_reducible refine (impl_isPeer.calls a1 true _ A7.out).mono ?_); rintro e w' ⟨rfl, ⟨nd, rfl⟩⟩))
     go_ret
     exact ⟨by first | rfl | (simp [errW_none, errW_some] <;> rfl) | (simp [*, errW_none, errW_some] <;> rfl), by repeat (first | (with_reducible first | exact HB.out | apply below_alloc | apply pw_below_drewN | apply below_drew1) | exact HB.out)⟩
    ·replace c9 := Bool.eq_false_iff.mpr c9
     subst c9
     have H1 : (some 1) = some r := by rw [if_neg (show ¬ (false = true) by decide)] at H; exact H
     clear H
     have H := H1
     clear H1
     obtain rfl := Option.some.inj H
     go_enter Try.func64, Try.ntmps64
     go_wp2_with (first | ((with_reducible refine gate_callee (f := 57) rfl ?_); refine goesL_ (some 13) rfl rfl Try.func57 (by kernel_rfl) rfl #[.slice A0 l0.length c0] rfl (by (try simp only [List.map_toArray, List.map_cons, List.map_nil]); first | done | rfl | (simp only [List.length_drop, List.length_take]; rfl)) ?_; (with_reducible refine (impl_RibRight.calls k _ _ l0 true _ ?side1 ?side2 A5.out).mono ?_); (case side1 => repeat (first | exact HR0.out | (with_reducible refine Kd.C_alloc ?_ _) | (with_reducible refine Kd.C_drewN ?_ _) | (with_reducible refine Kd.C_drew ?_))); (case side2 => exact HC0.out); rintro e w11 ⟨rfl, hb⟩; refine ⟨_, rfl, ?_⟩; have n0_ := Aside0.mk (below_step (by repeat (first | (with_reducible first | exact HB.out | apply below_alloc | apply pw_below_drewN | apply below_drew1) | exact HB.out)) hb); clear HB; have HB := n0_; clear n0_; (try clear hb); (try clear hb2); (try clear hk); (try clear hi)) | (go_at_call 102; (with_reducible refine (impl_isPeer.calls a1 true _ A7.out).mono ?_); rintro e w' ⟨rfl, ⟨nd, rfl⟩⟩))
     go_ret
     exact ⟨by first | rfl | (simp [errW_none, errW_some] <;> rfl) | (simp [*, errW_none, errW_some] <;> rfl), by repeat (first | (with_reducible first | exact HB.out | apply below_alloc | apply pw_below_drewN | apply below_drew1) | exact HB.out)⟩
   ·replace c8 := Bool.eq_false_iff.mpr c8
    subst c8
    have H1 : (some 1) = some r := by rw [if_neg (show ¬ (false = true) by decide)] at H; exact H
    clear H
    have H := H1
    clear H1
    obtain rfl := Option.some.inj H
    go_enter Try.func64, Try.ntmps64
    go_wp2_with (first | ((with_reducible refine gate_callee (f := 57) rfl ?_); refine goesL_ (some 13) rfl rfl Try.func57 (by kernel_rfl) rfl #[.slice A0 l0.length c0] rfl (by (try simp only [List.map_toArray, List.map_cons, List.map_nil]); first | done | rfl | (simp only [List.length_drop, List.length_take]; rfl)) ?_; (with_reducible refine (impl_RibRight.calls k _ _ l0 true _ ?side1 ?side2 A5.out).mono ?_); (case side1 => repeat (first | exact HR0.out | (with_reducible refine Kd.C_alloc ?_ _) | (with_reducible refine Kd.C_drewN ?_ _) | (with_reducible refine Kd.C_drew ?_))); (case side2 => exact HC0.out); rintro e w12 ⟨rfl, hb⟩; refine ⟨_, rfl, ?_⟩; have n0_ := Aside0.mk (below_step (by repeat (first | (with_reducible first | exact HB.out | apply below_alloc | apply pw_below_drewN | apply below_drew1) | exact HB.out)) hb); clear HB; have HB := n0_; clear n0_; (try clear hb); (try clear hb2); (try clear hk); (try clear hi)) | (go_at_call 102; (with_reducible refine (impl_isPeer.calls a1 false _ A7.out).mono ?_); rintro e w' ⟨rfl, ⟨nd, rfl⟩⟩))
    go_ret
    exact ⟨by first | rfl | (simp [errW_none, errW_some] <;> rfl) | (simp [*, errW_none, errW_some] <;> rfl), by repeat (first | (with_reducible first | exact HB.out | apply below_alloc | apply pw_below_drewN | apply below_drew1) | exact HB.out)⟩
  ·replace c6 := Bool.eq_false_iff.mpr c6
   subst c6
   have H1 : (some 1) = some r := by rw [if_neg (show ¬ (false = true) by decide)] at H; exact H
   clear H
   have H := H1
   clear H1
   obtain rfl := Option.some.inj H
   go_enter Try.func64, Try.ntmps64
   go_wp2_with (first | ((with_reducible refine gate_callee (f := 57) rfl ?_); refine goesL_ (some 13) rfl rfl Try.func57 (by kernel_rfl) rfl #[.slice A0 l0.length c0] rfl (by (try simp only [List.map_toArray, List.map_cons, List.map_nil]); first | done | rfl | (simp only [List.length_drop, List.length_take]; rfl)) ?_; (with_reducible refine (impl_RibRight.calls k _ _ l0 false _ ?side1 ?side2 A5.out).mono ?_); (case side1 => repeat (first | exact HR0.out | (with_reducible refine Kd.C_alloc ?_ _) | (with_reducible refine Kd.C_drewN ?_ _) | (with_reducible refine Kd.C_drew ?_))); (case side2 => exact HC0.out); rintro e w13 ⟨rfl, hb⟩; refine ⟨_, rfl, ?_⟩; have n0_ := Aside0.mk (below_step (by repeat (first | (with_reducible first | exact HB.out | apply below_alloc | apply pw_below_drewN | apply below_drew1) | exact HB.out)) hb); clear HB; have HB := n0_; clear n0_; (try clear hb); (try clear hb2); (try clear hk); (try clear hi)))
   go_ret
   exact ⟨by first | rfl | (simp [errW_none, errW_some] <;> rfl) | (simp [*, errW_none, errW_some] <;> rfl), by repeat (first | (with_reducible first | exact HB.out | apply below_alloc | apply pw_below_drewN | apply below_drew1) | exact HB.out)⟩
def impl_RibSweep.j0 : Nat → List (S73) → Int → Bool → Option ((List (S73)) × (List (S42)) × Int)
 | 0, _, _, _ => none
 | k + 1, x0, x1, x16 => if x16 = true then ((spec_l06Ill.f 1).bind fun bt296 => (some (bt296.1, bt296.2.1, bt296.2.2))) else ((spec_l06Sweep.f k x0 x1).bind fun bt303 => (some (bt303.1, bt303.2.1, bt303.2.2)))
def impl_RibSweep.f (k : Nat) (l0 : List (S73)) (a1 : Int) : Option ((List (S73)) × (List (S42)) × Int) := if (l0.length : Int) > 400 then ((spec_l06Ill.f 2).bind fun bt287 => (some (bt287.1, bt287.2.1, bt287.2.2))) else ((impl_RibRight.f k l0).bind fun t294 => (if t294 = true then ((impl_isPeer.f a1).bind fun t295 => (impl_RibSweep.j0 k l0 a1 (!t295))) else (impl_RibSweep.j0 k l0 a1 true)))
theorem impl_RibSweep.mono_l : ∀ k, (∀ y0 y1 y2, LeO (impl_RibSweep.j0 k y0 y1 y2) (impl_RibSweep.j0 (k + 1) y0 y1 y2))
 | 0 => fun _ _ _ r h => by simp [impl_RibSweep.j0] at h
 | k + 1 => by
  have ih0 := impl_RibSweep.mono_l k
  ·intro y0 y1 y2
   unfold impl_RibSweep.j0
   repeat' first
   | (with_reducible exact ih0 _ _ _)
   | (with_reducible exact impl_RibRight.mono _ _)
   | (with_reducible exact spec_l06Sweep.mono _ _ _)
   | (with_reducible exact LeO.refl _)
   | (with_reducible exact LeO.none _)
   | (with_reducible refine LeO.ite ?_ ?_)
   | (with_reducible refine LeO.bind ?_ (fun _ => ?_))
   | exact ih0 _ _ _
   | exact impl_RibRight.mono _ _
   | exact spec_l06Sweep.mono _ _ _
   | exact LeO.none _
   | refine LeO.ite ?_ ?_
   | refine LeO.bind ?_ (fun _ => ?_)
theorem impl_RibSweep.mono : ∀ a0 a1 k, LeO (impl_RibSweep.f k a0 a1) (impl_RibSweep.f (k + 1) a0 a1) := by
 intro a0 a1 k
 have ih0 := impl_RibSweep.mono_l k
 unfold impl_RibSweep.f
 repeat' first
   | (with_reducible exact ih0 _ _ _)
   | (with_reducible exact impl_RibRight.mono _ _)
   | (with_reducible exact spec_l06Sweep.mono _ _ _)
   | (with_reducible exact LeO.refl _)
   | (with_reducible exact LeO.none _)
   | (with_reducible refine LeO.ite ?_ ?_)
   | (with_reducible refine LeO.bind ?_ (fun _ => ?_))
   | exact ih0 _ _ _
   | exact impl_RibRight.mono _ _
   | exact spec_l06Sweep.mono _ _ _
   | exact LeO.none _
   | refine LeO.ite ?_ ?_
   | refine LeO.bind ?_ (fun _ => ?_)
set_option maxHeartbeats 1600000 in
set_option maxRecDepth 100000 in
theorem ribWithout_calls (g : Nat) (cb : Array Value) (eg : ∀ args w, (callFunc g args).run Try.prog w = .ok (.enter g args) w) (p : S73 → Bool) (K : Nat → Prop) (A : Option Addr) (c : Nat) (l : List S73) (w : World) (hl : l.length ≤ 1048576) (hr : Kd.C k73 w A l.length l) (hK : ∀ k, K k → k < w.heap.size) (hp : Go.Proofs.Ytmgmaflfednngaa.Base.PredB Try.prog g cb k73 p K w) :
  Calls Try.prog 105 #[.slice A l.length c, .func (.func g) #[] cb] w fun e w' => ∃ v1 v2 : Value, e = .returned (.tuple #[v1, v2]) ∧ Kd.R k73 73 w' w.heap.size (fun _ => True) v1 (l.filter (fun x => !p x)) ∧ Kd.R k42 42 w' w.heap.size (fun _ => True) v2 ((l.filter p).map (·.f2)) ∧ Below w.heap.size w w' := by
 have HR := Aside0.mk hr
 have HP := Aside0.mk hp
 have HKl := Aside0.mk hK
 have HB := Aside0.mk (Below.refl w.heap.size w)
 clear hr hp hK
 go_enter Try.func105, Try.ntmps105
 go_wp2_with (first | ((with_reducible refine gate_dst (N := 10) rfl ?_); refine Kd.R_lit k73 _ 73 ?hg (N := 10) ?hd (xs := ([] : List S73)) (inner := []) (ok := fun _ => True) (okp := fun _ => True) ?hr ?hp (fun _ hk => hk) trivial (Below.refl _ _) (Nat.le_refl _) (by simp) ?_; (case hd => rfl); (case hg => rfl); (case hr => first | (go_simp; done) | (go_simp; rfl)); (case hp => exact (Reps.none _ _)); intro v1 w1 ho1 hb1 hg1 hn1; have HO1 := Aside0.mk (Kd.R_lower ho1 (below_size HB.out)); have HB1 := Aside0.mk (below_step HB.out hb1); clear ho1 hb1 hg1 hn1) | ((with_reducible refine gate_dst (N := 11) rfl ?_); refine Kd.R_lit k42 _ 42 ?hg (N := 11) ?hd (xs := ([] : List S42)) (inner := []) (ok := fun _ => True) (okp := fun _ => True) ?hr ?hp (fun _ hk => hk) trivial (Below.refl _ _) (Nat.le_refl _) (by simp) ?_; (case hd => rfl); (case hg => rfl); (case hr => first | (go_simp; done) | (go_simp; rfl)); (case hp => exact (Reps.none _ _)); intro v2 w2 ho2 hb2 hg2 hn2; have AP := Aside0.mk (show Go.Proofs.Ytmgmaflfednngaa.Base.Apart v1 v2 from fun k h1 h2 => by have a1 := Kd.R_lt HO1.out k h1; have a2 := Kd.R_base ho2 k h2; omega); have HO2 := Aside0.mk (Kd.R_lower ho2 (below_size HB1.out)); have HO1' := Aside0.mk (Kd.R_below HO1.out hb2); have HB2 := Aside0.mk (below_step HB1.out hb2); clear ho2 hb2 hg2 hn2))
 go_loopg [6, 7, 9, 14] l.length (fun gg v6 v7 _ v14 wr => ∃ kk : Nat, kk ≤ l.length ∧ l.length - kk ≤ gg ∧ v14 = .int .i64 kk ∧ Aside0 (Kd.R k73 73 wr w.heap.size (fun _ => True) v6 ((l.take kk).filter (fun x => !p x))) ∧ Aside0 (Kd.R k42 42 wr w.heap.size (fun _ => True) v7 (((l.take kk).filter p).map (·.f2))) ∧ Aside0 (Go.Proofs.Ytmgmaflfednngaa.Base.Apart v6 v7) ∧ Aside0 (Below w.heap.size w wr))
 case atStart => exact ⟨0, Nat.zero_le _, by omega, rfl, HO1', HO2, AP, HB2⟩
 case round =>
  obtain ⟨kk, hkk, hg, rfl, HX, HY, AP, HB⟩ := hrel
  by_cases hlt : kk < l.length
  ·skip
   obtain ⟨ad, e, hx0, hx1, hx2, hx3, hx4, hx5, hx6, hx7, hx8⟩ := at_T73 HR.out (kk : Int) (by omega) (by omega)
   cases e
   replace hx0 := (HB.out.cell (World.block_lt_of_cell? w _ hx0)).trans hx0
   replace hx1 := (HB.out.cell (World.block_lt_of_cell? w _ hx1)).trans hx1
   replace hx2 := (HB.out.cell (World.block_lt_of_cell? w _ hx2)).trans hx2
   replace hx3 := (HB.out.cell (World.block_lt_of_cell? w _ hx3)).trans hx3
   replace hx4 := (HB.out.cell (World.block_lt_of_cell? w _ hx4)).trans hx4
   replace hx5 := (HB.out.cell (World.block_lt_of_cell? w _ hx5)).trans hx5
   replace hx6 := (HB.out.cell (World.block_lt_of_cell? w _ hx6)).trans hx6
   replace hx7 := (HB.out.cell (World.block_lt_of_cell? w _ hx7)).trans hx7
   replace hx8 := (HB.out.cell (World.block_lt_of_cell? w _ hx8)).trans hx8
   simp only [Int.toNat_natCast] at hx0 hx1 hx2 hx3 hx4 hx5 hx6 hx7 hx8
   have HQ := Aside0.mk (show Go.Proofs.Ytmgmaflfednngaa.Base.nth z73 l kk = rd_T73 l (kk : Int) from rfl)
   have hltz : (kk : Int) < (l.length : Int) := by omega
   generalize rd_T73 l (kk : Int) = y at *
   cases hq : p y with
   | true =>
    have HV := Aside0.mk hq
    clear hq
    go_wp2_with fail
    refine (HP.out _ y _ ((Go.Proofs.Ytmgmaflfednngaa.Base.Same.refl (K := K) w).below HKl.out (below_alloc HB.out _)) (k73_mk _ y)).mono ?_
    rintro e w2 ⟨rfl, hb⟩
    rw [HV.out]
    have HX' := Aside0.mk (Kd.R_below (Kd.R_alloc HX.out _) hb)
    have HY' := Aside0.mk (Kd.R_below (Kd.R_alloc HY.out _) hb)
    have HB' := Aside0.mk (below_step (below_alloc HB.out _) hb)
    have BK' := Aside0.mk (blk_below (blk_new wr _) hb)
    have HL := Aside0.mk (Go.Proofs.Ytmgmaflfednngaa.Base.take_filter_len p l kk)
    clear hb
    have f0 := blk_frozen BK'.out 0
    have f1 := blk_frozen BK'.out 1
    have f2 := blk_frozen BK'.out 2
    have f3 := blk_frozen BK'.out 3
    have f4 := blk_frozen BK'.out 4
    have f5 := blk_frozen BK'.out 5
    have f6 := blk_frozen BK'.out 6
    have f7 := blk_frozen BK'.out 7
    have f8 := blk_frozen BK'.out 8
    have k0 := (blk_cell BK'.out 0).trans rfl
    have k1 := (blk_cell BK'.out 1).trans rfl
    have k2 := (blk_cell BK'.out 2).trans rfl
    have k3 := (blk_cell BK'.out 3).trans rfl
    have k4 := (blk_cell BK'.out 4).trans rfl
    have k5 := (blk_cell BK'.out 5).trans rfl
    have k6 := (blk_cell BK'.out 6).trans rfl
    have k7 := (blk_cell BK'.out 7).trans rfl
    have k8 := (blk_cell BK'.out 8).trans rfl
    go_wp2_with (first | ((with_reducible refine gate_builtin (b := .append) (xs := #[.tmp 21, .tmp 24]) rfl ?_); at_builtin; refine Kd.R_append k42 (w0 := w) w.heap.size rfl (.tmp 21) (.tmp 24) 24 42 (.agg #[.int .i64 0, .int .i64 0, .int .i64 0, .int .i64 0, .int .i64 0, .int .i64 0, .bool false]) 56 rfl Try.underlying24 info42 rfl (by decide) (by omega) u7 (((l.take kk).filter p).map (·.f2)) y.f2 [.int .i64 y.f2.f0, .int .i64 y.f2.f1, .int .i64 y.f2.f2, .int .i64 y.f2.f3, .int .i64 y.f2.f4, .int .i64 y.f2.f5, .bool y.f2.f6] (fun _ => True) (fun _ => False) rfl rfl ?aP (fun _ hk => hk.elim) ?aF ?aO ?aB ?aS ?aL ?_; (case aP => exact k42_mkM _ _ _ y.f2); (case aB => exact HB'.out); (case aF => exact (fun _ _ => trivial)); (case aO => exact HY'.out); (case aS => exact HB'.out.size); (case aL => have := HL.out; simp only [List.length_map]; omega); intro v3 w3 ho hb hg hat; have HO := Aside0.mk ho; have HB2 := Aside0.mk hb; have HG := Aside0.mk hg; have HT := Aside0.mk hat; clear ho hb hg hat))
    have HY2 := HO
    have HX2 := Aside0.mk (Kd.R_grown2 HX'.out rfl HG.out AP.out.other)
    have AP2 := Aside0.mk (AP.out.grown HX'.out HT.out)
    go_roundg (l.length - (kk + 1))
    case measure => omega
    case rel => exact ⟨kk + 1, by omega, by omega, by go_num, ⟨by rw [Go.Proofs.Ytmgmaflfednngaa.Base.take_filter_no z73 (fun x => !p x) hlt (by rw [HQ.out, HV.out]; rfl)]; exact HX2.out⟩, ⟨by rw [Go.Proofs.Ytmgmaflfednngaa.Base.take_filter_yes z73 p hlt (by rw [HQ.out]; exact HV.out), HQ.out, List.map_append]; exact HY2.out⟩, AP2, HB2⟩
   | false =>
    have HV := Aside0.mk hq
    clear hq
    go_wp2_with fail
    refine (HP.out _ y _ ((Go.Proofs.Ytmgmaflfednngaa.Base.Same.refl (K := K) w).below HKl.out (below_alloc HB.out _)) (k73_mk _ y)).mono ?_
    rintro e w2 ⟨rfl, hb⟩
    rw [HV.out]
    have HX' := Aside0.mk (Kd.R_below (Kd.R_alloc HX.out _) hb)
    have HY' := Aside0.mk (Kd.R_below (Kd.R_alloc HY.out _) hb)
    have HB' := Aside0.mk (below_step (below_alloc HB.out _) hb)
    have BK' := Aside0.mk (blk_below (blk_new wr _) hb)
    have HL := Aside0.mk (Go.Proofs.Ytmgmaflfednngaa.Base.take_filter_len (fun x => !p x) l kk)
    clear hb
    have f0 := blk_frozen BK'.out 0
    have f1 := blk_frozen BK'.out 1
    have f2 := blk_frozen BK'.out 2
    have f3 := blk_frozen BK'.out 3
    have f4 := blk_frozen BK'.out 4
    have f5 := blk_frozen BK'.out 5
    have f6 := blk_frozen BK'.out 6
    have f7 := blk_frozen BK'.out 7
    have f8 := blk_frozen BK'.out 8
    have k0 := (blk_cell BK'.out 0).trans rfl
    have k1 := (blk_cell BK'.out 1).trans rfl
    have k2 := (blk_cell BK'.out 2).trans rfl
    have k3 := (blk_cell BK'.out 3).trans rfl
    have k4 := (blk_cell BK'.out 4).trans rfl
    have k5 := (blk_cell BK'.out 5).trans rfl
    have k6 := (blk_cell BK'.out 6).trans rfl
    have k7 := (blk_cell BK'.out 7).trans rfl
    have k8 := (blk_cell BK'.out 8).trans rfl
    go_wp2_with (first | ((with_reducible refine gate_builtin (b := .append) (xs := #[.tmp 26, .tmp 28]) rfl ?_); at_builtin; refine Kd.R_append k73 (w0 := w) w.heap.size rfl (.tmp 26) (.tmp 28) 26 73 (.agg #[.int .i64 0, .bool false, .int .i64 0, .int .i64 0, .int .i64 0, .int .i64 0, .int .i64 0, .int .i64 0, .bool false]) 72 rfl Try.underlying26 info73 rfl (by decide) (by omega) u6 ((l.take kk).filter (fun x => !p x)) y [.int .i64 y.f0, .bool y.f1, .int .i64 y.f2.f0, .int .i64 y.f2.f1, .int .i64 y.f2.f2, .int .i64 y.f2.f3, .int .i64 y.f2.f4, .int .i64 y.f2.f5, .bool y.f2.f6] (fun _ => True) (fun _ => False) rfl rfl ?aP (fun _ hk => hk.elim) ?aF ?aO ?aB ?aS ?aL ?_; (case aP => exact k73_mkM _ _ _ y); (case aB => exact HB'.out); (case aF => exact (fun _ _ => trivial)); (case aO => exact HX'.out); (case aS => exact HB'.out.size); (case aL => have := HL.out; omega); intro v3 w3 ho hb hg hat; have HO := Aside0.mk ho; have HB2 := Aside0.mk hb; have HG := Aside0.mk hg; have HT := Aside0.mk hat; clear ho hb hg hat))
    have HX2 := HO
    have HY2 := Aside0.mk (Kd.R_grown2 HY'.out rfl HG.out AP.out.symm.other)
    have AP2 := Aside0.mk (AP.out.symm.grown HY'.out HT.out).symm
    go_roundg (l.length - (kk + 1))
    case measure => omega
    case rel => exact ⟨kk + 1, by omega, by omega, by go_num, ⟨by rw [Go.Proofs.Ytmgmaflfednngaa.Base.take_filter_yes z73 (fun x => !p x) hlt (by rw [HQ.out, HV.out]; rfl), HQ.out]; exact HX2.out⟩, ⟨by rw [Go.Proofs.Ytmgmaflfednngaa.Base.take_filter_no z73 p hlt (by rw [HQ.out]; exact HV.out)]; exact HY2.out⟩, AP2, HB2⟩
  ·have hltz : ¬ (kk : Int) < (l.length : Int) := by omega
   obtain rfl : kk = l.length := by omega
   have HX2 := Aside0.mk (show Kd.R k73 73 wr w.heap.size (fun _ => True) u6 (l.filter (fun x => !p x)) from by have := HX.out; rw [List.take_length] at this; exact this)
   have HY2 := Aside0.mk (show Kd.R k42 42 wr w.heap.size (fun _ => True) u7 ((l.filter p).map (·.f2)) from by have := HY.out; rw [List.take_length] at this; exact this)
   go_wp2
   refine bodyPost_ret (results_tmp2 rfl _ _ _) rfl ?_
   exact ⟨_, _, rfl, HX2.out, HY2.out, HB.out⟩
def swpH (peer : Int) (x : S73) : Bool := decide (x.f0 = peer) && x.f1
set_option maxHeartbeats 800000 in
set_option maxRecDepth 100000 in
theorem ribSweep_pred (peer : Int) (b : Nat) (w : World) (hc : w.cell? ⟨b, 0, none⟩ = some (.int .i64 peer)) :
  Go.Proofs.Ytmgmaflfednngaa.Base.PredB Try.prog 106 #[.pointer (some ⟨b, 0, none⟩)] k73 (swpH peer) (fun k => k = b) w := by
 intro W x cs hs hk
 obtain rfl := k73_open hk
 have hl : b < W.heap.size := Nat.lt_of_lt_of_le (World.block_lt_of_cell? w _ hc) hs.1
 replace hc := (World.cell?_of_block (a := ⟨b, 0, none⟩) (hs.2 b rfl)).trans hc
 have hne : b ≠ W.heap.size := by omega
 have HB := Aside0.mk ((Below.refl _ W).alloc (Nat.le_refl _) (.cells [.int .i64 x.f0, .bool x.f1, .int .i64 x.f2.f0, .int .i64 x.f2.f1, .int .i64 x.f2.f2, .int .i64 x.f2.f3, .int .i64 x.f2.f4, .int .i64 x.f2.f5, .bool x.f2.f6].toArray 73))
 clear hk hs
 obtain ⟨x0, x1, x2, x3, x4, x5, x6, x7, x8⟩ := x
 show Calls Try.prog 106 #[.agg #[.int .i64 x0, .bool x1, .int .i64 x2, .int .i64 x3, .int .i64 x4, .int .i64 x5, .int .i64 x6, .int .i64 x7, .bool x8], .pointer (some ⟨b, 0, none⟩)] W _
 by_cases hq : x0 = peer
 ·have G1 : (x0 == peer) = true := beq_iff_eq.2 hq
  cases x1 with
  | true =>
   have HQ := Aside0.mk (show swpH peer ⟨x0, true, ⟨x2, x3, x4, x5, x6, x7, x8⟩⟩ = true by simp [swpH, hq])
   clear hq
   go_enter Try.func106, Try.ntmps106
   go_wp2
   go_ret
   exact ⟨by rw [HQ.out]; rfl, HB.out⟩
  | false =>
   have HQ := Aside0.mk (show swpH peer ⟨x0, false, ⟨x2, x3, x4, x5, x6, x7, x8⟩⟩ = false by simp [swpH])
   clear hq
   go_enter Try.func106, Try.ntmps106
   go_wp2
   go_ret
   exact ⟨by rw [HQ.out]; rfl, HB.out⟩
 ·have G1 : (x0 == peer) = false := beq_eq_false_iff_ne.2 hq
  have HQ := Aside0.mk (show swpH peer ⟨x0, x1, ⟨x2, x3, x4, x5, x6, x7, x8⟩⟩ = false by simp [swpH, hq])
  clear hq
  go_enter Try.func106, Try.ntmps106
  go_wp2
  go_ret
  exact ⟨by rw [HQ.out]; rfl, HB.out⟩
set_option maxHeartbeats 800000 in
set_option maxRecDepth 100000 in
theorem ribSweep_calls (A : Option Addr) (c : Nat) (l : List S73) (peer : Int) (w : World) (hl : l.length ≤ 1048576) (hr : Kd.C k73 w A l.length l) :
  Calls Try.prog 68 #[.slice A l.length c, .int .i64 peer] w fun e w' => ∃ v1 v2 : Value, e = .returned (.tuple #[v1, v2]) ∧ Kd.R k73 73 w' w.heap.size (fun _ => True) v1 (l.filter (fun x => !swpH peer x)) ∧ Kd.R k42 42 w' w.heap.size (fun _ => True) v2 ((l.filter (swpH peer)).map (·.f2)) ∧ Below w.heap.size w w' := by
 have eg : ∀ args w, (callFunc 106 args).run Try.prog w = .ok (.enter 106 args) w := enters_of Try.func106 (by kernel_rfl) rfl
 have B1 := Aside0.mk ((Below.refl _ w).alloc (Nat.le_refl _) (.cells #[.int .i64 peer] 2))
 have BK := Aside0.mk (blk_new w (.cells #[.int .i64 peer] 2))
 have HR := Aside0.mk hr
 clear hr
 go_enter Try.func68, Try.ntmps68
 go_wp2_with fail
 refine (ribWithout_calls 106 #[.pointer (some ⟨w.heap.size, 0, none⟩)] eg (swpH peer) (fun k => k = w.heap.size) A c l _ hl (Kd.C_below HR.out B1.out) (fun k hk => by subst hk; exact blk_lt BK.out) (ribSweep_pred peer w.heap.size _ ((blk_cell BK.out 0).trans rfl))).mono ?_
 rintro e w2 ⟨v1, v2, rfl, h1, h2, hb⟩
 have H1 := Aside0.mk (Kd.R_lower h1 B1.out.size)
 have H2 := Aside0.mk (Kd.R_lower h2 B1.out.size)
 have HB := Aside0.mk (below_step B1.out hb)
 clear h1 h2 hb
 go_wp2
 refine bodyPost_ret (results_tmp2 rfl _ _ _) rfl ?_
 exact ⟨_, _, rfl, H1.out, H2.out, HB.out⟩
theorem sweep_loop (l : List S73) (peer : Int) (hn : l.length ≤ 9223372036854775807) : ∀ (k i : Nat) (a : List S73) (b : List S42) (c : Int) (r : List S73 × List S42 × Int), i ≤ l.length → spec_l06Sweep.l0 k l peer (i : Int) a b c = some r →
  r = (a ++ (l.drop i).filter (fun x => !swpH peer x), b ++ ((l.drop i).filter (swpH peer)).map (·.f2), c) := by
 intro k
 induction k with
 | zero => intro i a b c r _ h; cases h
 | succ k ih =>
  intro i a b c r hi h
  rw [spec_l06Sweep.l0] at h
  by_cases hlt : i < l.length
  ·rw [if_pos (by omega), if_pos (by omega), show rd_T73 l (i : Int) = Go.Proofs.Ytmgmaflfednngaa.Base.nth z73 l i from rfl, Go.Proofs.Ytmgmaflfednngaa.Base.wrap_up hlt hn] at h
   rw [Go.Proofs.Ytmgmaflfednngaa.Base.drop_nth z73 hlt]
   generalize Go.Proofs.Ytmgmaflfednngaa.Base.nth z73 l i = y at *
   have keep : swpH peer y = false → (if a.length < 1954687338268 then spec_l06Sweep.l0 k l peer ((i + 1 : Nat) : Int) (a ++ [y]) b c else none) = some r →
     r = (a ++ (y :: l.drop (i + 1)).filter (fun x => !swpH peer x), b ++ ((y :: l.drop (i + 1)).filter (swpH peer)).map (·.f2), c) := by
    intro hq h
    by_cases h2 : a.length < 1954687338268
    ·rw [if_pos h2] at h
     rw [List.filter_cons_of_pos (by simp [hq]), List.filter_cons_of_neg (by simp [hq])]
     have := ih (i + 1) _ _ _ r (by omega) h
     rw [this, List.append_assoc]
     rfl
    ·rw [if_neg h2] at h
     cases h
   by_cases g1 : y.f0 = peer
   ·rw [if_pos g1] at h
    by_cases g2 : y.f1 = true
    ·rw [if_pos g2] at h
     have hq : swpH peer y = true := by simp [swpH, g1, g2]
     by_cases h2 : b.length < 2513169434916
     ·rw [if_pos h2] at h
      rw [List.filter_cons_of_neg (by simp [hq]), List.filter_cons_of_pos hq, List.map_cons]
      have := ih (i + 1) _ _ _ r (by omega) h
      rw [this, List.append_assoc]
      rfl
     ·rw [if_neg h2] at h
      cases h
    ·rw [if_neg g2] at h
     exact keep (by simp [swpH, g2]) h
   ·rw [if_neg g1] at h
    exact keep (by simp [swpH, g1]) h
  ·rw [if_neg (by omega)] at h
   rw [List.drop_of_length_le (by omega)]
   simp only [List.filter_nil, List.map_nil, List.append_nil]
   exact (Option.some.inj h).symm
theorem sweep_cases (k : Nat) (l : List S73) (peer : Int) (hn : l.length ≤ 9223372036854775807) (r1 : List S73) (r2 : List S42) (r3 : Int) (h : impl_RibSweep.f k l peer = some (r1, r2, r3)) :
  (r3 ≠ 0 ∧ impl_ribCode.f k l peer true = some r3 ∧ r1 = [] ∧ r2 = []) ∨ (r3 = 0 ∧ impl_ribCode.f k l peer true = some 0 ∧ l.length ≤ 400 ∧ r1 = l.filter (fun x => !swpH peer x) ∧ r2 = (l.filter (swpH peer)).map (·.f2)) := by
 unfold impl_RibSweep.f at h
 unfold impl_ribCode.f
 have ill : ∀ x, (spec_l06Ill.f x).bind (fun bt => some (bt.1, bt.2.1, bt.2.2)) = some (r1, r2, r3) → r1 = [] ∧ r2 = [] ∧ r3 = x := by
  intro x h
  simp only [spec_l06Ill.f, Option.bind_some, Option.some.injEq, Prod.mk.injEq] at h
  exact ⟨h.1.symm, h.2.1.symm, h.2.2.symm⟩
 by_cases h0 : (l.length : Int) > 400
 ·rw [if_pos h0] at h ⊢
  obtain ⟨rfl, rfl, rfl⟩ := ill _ h
  exact .inl ⟨by decide, rfl, rfl, rfl⟩
 ·rw [if_neg h0] at h ⊢
  obtain ⟨g, hg, h⟩ := Option.bind_eq_some_iff.mp h
  rw [hg, Option.bind_some]
  cases k with
  | zero =>
   cases g with
   | false => rw [if_neg (by decide)] at h; cases h
   | true =>
    rw [if_pos rfl] at h
    obtain ⟨t, ht, h⟩ := Option.bind_eq_some_iff.mp h
    cases h
  | succ k =>
   cases g with
   | false =>
    rw [if_neg (by decide), impl_RibSweep.j0, if_pos (by decide)] at h
    rw [if_neg (by decide)]
    obtain ⟨rfl, rfl, rfl⟩ := ill _ h
    exact .inl ⟨by decide, rfl, rfl, rfl⟩
   | true =>
    rw [if_pos rfl] at h ⊢
    obtain ⟨t, ht, h⟩ := Option.bind_eq_some_iff.mp h
    rw [ht, Option.bind_some]
    cases t with
    | false =>
     rw [impl_RibSweep.j0, if_pos (by decide)] at h
     obtain ⟨rfl, rfl, rfl⟩ := ill _ h
     exact .inl ⟨by decide, rfl, rfl, rfl⟩
    | true =>
     rw [impl_RibSweep.j0, if_neg (by decide)] at h
     obtain ⟨q, hq, h⟩ := Option.bind_eq_some_iff.mp h
     have := sweep_loop l peer hn k 0 [] [] 0 q (by omega) hq
     simp only [List.drop_zero, List.nil_append] at this
     subst this
     simp only [Option.some.injEq, Prod.mk.injEq] at h
     exact .inr ⟨h.2.2.symm, rfl, by omega, h.1.symm, h.2.1.symm⟩
set_option maxHeartbeats 8000000 in
set_option maxRecDepth 100000 in
theorem impl_RibSweep.calls (k : Nat) (A0 : Option Addr) (c0 : Nat) (l0 : List (S73)) (a1 : Int) (r1 : List (S73)) (r2 : List (S42)) (r3 : Int) (w : World) (hr0 : Kd.C k73 w A0 l0.length l0) (hc0 : l0.length ≤ c0) (h : impl_RibSweep.f k l0 a1 = some (r1, r2, r3)) :
  Calls Try.prog 28 #[.slice A0 l0.length c0, .int .i64 a1] w fun e w' => ∃ v0_ v1_ : Value, e = .returned (.agg #[v0_, v1_, .int .i64 r3]) ∧ Kd.R k73 73 w' w.heap.size (fun _ => True) v0_ r1 ∧ Kd.R k42 42 w' w.heap.size (fun _ => True) v1_ r2 ∧ Below w.heap.size w w' := by
 have hcase := sweep_cases k l0 a1 hr0.2.1 r1 r2 r3 h
 have HR := Aside0.mk hr0
 have HC := Aside0.mk hc0
 have BK := Aside0.mk (blk_new w (.cells #[.slice none 0 0, .slice none 0 0, .int .i64 0] 34))
 have B1 := Aside0.mk ((Below.refl _ w).alloc (Nat.le_refl _) (.cells #[.slice none 0 0, .slice none 0 0, .int .i64 0] 34))
 clear h hr0 hc0
 rcases hcase with ⟨hne, hcode, rfl, rfl⟩ | ⟨rfl, hcode, hlen, hx1, hx2⟩
 ·have HCo := Aside0.mk hcode
  have hne1 : (r3 != 0) = true := by simpa using hne
  clear hcode hne
  go_enter Try.func28, Try.ntmps28
  go_wp2_with fail
  refine (impl_ribCode.calls k _ _ l0 a1 true _ _ (Kd.C_below HR.out B1.out) HC.out HCo.out).mono ?_
  rintro e w2 ⟨rfl, hb⟩
  have B2 := Aside0.mk (below_step B1.out hb)
  have BK2 := Aside0.mk (blk_below BK.out hb)
  clear hb
  have f0 := blk_frozen BK2.out 0
  have f1 := blk_frozen BK2.out 1
  have f2 := blk_frozen BK2.out 2
  have k0 := (blk_cell BK2.out 0).trans rfl
  have k1 := (blk_cell BK2.out 1).trans rfl
  have k2 := (blk_cell BK2.out 2).trans rfl
  have HF := Aside0.mk (blk_set (blk_set (blk_set BK2.out 0 (.slice none 0 0)) 1 (.slice none 0 0)) 2 (.int .i64 r3))
  go_wp2
  refine bodyPost_ret (v := .agg #[.slice none 0 0, .slice none 0 0, .int .i64 r3]) ?_ rfl ⟨_, _, rfl, Kd.R_nil _ _ _ _ _, Kd.R_nil _ _ _ _ _, ?_⟩
  ·refine results_cell_row (fn := Try.f28) (p := 4) (ty := 34) ?_ _ _ w.heap.size 34 #[.slice none 0 0, .slice none 0 0, .int .i64 r3] (0, 0) _ ?_ HF.out Try.underlying34 ?_ ?_
   all_goals first | rfl | kernel_rfl
  ·exact (((B2.out.setCell (Nat.le_refl _) _).setCell (Nat.le_refl _) _).setCell (Nat.le_refl _) _)
 ·have HCo := Aside0.mk hcode
  have HL := Aside0.mk hlen
  have E1 := Aside0.mk hx1
  have E2 := Aside0.mk hx2
  clear hcode hlen hx1 hx2
  go_enter Try.func28, Try.ntmps28
  go_wp2_with fail
  refine (impl_ribCode.calls k _ _ l0 a1 true _ _ (Kd.C_below HR.out B1.out) HC.out HCo.out).mono ?_
  rintro e w2 ⟨rfl, hb⟩
  have B2 := Aside0.mk (below_step B1.out hb)
  have BK2 := Aside0.mk (blk_below BK.out hb)
  clear hb
  go_wp2_with fail
  refine (ribSweep_calls _ _ l0 a1 _ (by have := HL.out; omega) (Kd.C_below HR.out B2.out)).mono ?_
  rintro e w3 ⟨v1, v2, rfl, h1, h2, hb⟩
  rw [← E1.out] at h1
  rw [← E2.out] at h2
  have H1 := Aside0.mk (Kd.R_lower h1 B2.out.size)
  have H2 := Aside0.mk (Kd.R_lower h2 B2.out.size)
  have B3 := Aside0.mk (below_step B2.out hb)
  have BK3 := Aside0.mk (blk_below BK2.out hb)
  clear h1 h2 hb
  obtain ⟨A1, c1, e1⟩ := Kd.R_slice H1.out
  subst e1
  obtain ⟨A2, c2, e2⟩ := Kd.R_slice H2.out
  subst e2
  have f0 := blk_frozen BK3.out 0
  have f1 := blk_frozen BK3.out 1
  have f2 := blk_frozen BK3.out 2
  have k0 := (blk_cell BK3.out 0).trans rfl
  have k1 := (blk_cell BK3.out 1).trans rfl
  have k2 := (blk_cell BK3.out 2).trans rfl
  have HF := Aside0.mk (blk_set (blk_set (blk_set BK3.out 0 (.slice A1 r1.length c1)) 1 (.slice A2 r2.length c2)) 2 (.int .i64 0))
  have HX := Aside0.mk (Kd.R_set (Kd.R_set (Kd.R_set H1.out BK3.out (by decide) 0 (.slice A1 r1.length c1)) (blk_set BK3.out 0 _) (by decide) 1 (.slice A2 r2.length c2)) (blk_set (blk_set BK3.out 0 _) 1 _) (by decide) 2 (.int .i64 0))
  have HY := Aside0.mk (Kd.R_set (Kd.R_set (Kd.R_set H2.out BK3.out (by decide) 0 (.slice A1 r1.length c1)) (blk_set BK3.out 0 _) (by decide) 1 (.slice A2 r2.length c2)) (blk_set (blk_set BK3.out 0 _) 1 _) (by decide) 2 (.int .i64 0))
  go_wp2
  refine bodyPost_ret (v := .agg #[.slice A1 r1.length c1, .slice A2 r2.length c2, .int .i64 0]) ?_ rfl ⟨_, _, rfl, HX.out, HY.out, ?_⟩
  ·refine results_cell_row (fn := Try.f28) (p := 4) (ty := 34) ?_ _ _ w.heap.size 34 #[.slice A1 r1.length c1, .slice A2 r2.length c2, .int .i64 0] (0, 0) _ ?_ HF.out Try.underlying34 ?_ ?_
   all_goals first | rfl | kernel_rfl
  ·exact (((B3.out.setCell (Nat.le_refl _) _).setCell (Nat.le_refl _) _).setCell (Nat.le_refl _) _)
def laws_FnExactRibSweep.j0 : Nat → List (S76) → Int → Bool → List (S73) → List (S42) → Int → List (S73) → List (S42) → Int → Option (Bool)
 | 0, _, _, _, _, _, _, _, _, _ => none
 | k + 1, x0, x1, x46, x322000, x322001, x322002, x333000, x333001, x333002 => if x46 = true then (some false) else ((laws_markRibOut.f k x333000 x333001 x333002 1).bind fun bt341 => ((laws_heldRibOut.f k bt341.2.1 bt341.2.2 x333002 1).bind fun t344 => (if t344 < 0 then (some false) else (if t344 = bt341.1 then ((laws_toHeldS.f k x0).bind fun t345 => ((impl_RibSweep.f k t345 x1).bind fun bt348 => ((laws_eqRibOut.f k bt348.1 bt348.2.1 bt348.2.2 x322000 x322001 x322002).bind fun t356 => (if t356 = true then ((laws_heldRibOut.f k bt341.2.1 bt341.2.2 x333002 1).bind fun t357 => (if t357 < 0 then (some false) else (if t357 = bt341.1 then (some true) else (some false)))) else (some false))))) else (some false)))))
def laws_FnExactRibSweep.f (k : Nat) (l0 : List (S76)) (a1 : Int) : Option (Bool) := (laws_szHeldS.f l0 1048576).bind fun t310 => (if t310 < 0 then (some true) else ((laws_toHeldS.f k l0).bind fun t311 => ((spec_RibSweep.f k t311 a1).bind fun bt314 => ((laws_toHeldS.f k l0).bind fun t322 => ((impl_RibSweep.f k t322 a1).bind fun bt325 => ((laws_eqRibOut.f k bt325.1 bt325.2.1 bt325.2.2 bt314.1 bt314.2.1 bt314.2.2).bind fun t333 => (if t333 = true then ((laws_toHeldS.f k l0).bind fun t334 => ((laws_eqHeldS.f k t322 t334).bind fun t337 => (if t337 = true then ((laws_markHeldS.f k t322 1).bind fun bt338 => (if bt338.1 < 0 then (laws_FnExactRibSweep.j0 k l0 a1 true bt314.1 bt314.2.1 bt314.2.2 bt325.1 bt325.2.1 bt325.2.2) else ((laws_eqRibOut.f k bt325.1 bt325.2.1 bt325.2.2 bt314.1 bt314.2.1 bt314.2.2).bind fun t340 => (laws_FnExactRibSweep.j0 k l0 a1 (!t340) bt314.1 bt314.2.1 bt314.2.2 bt325.1 bt325.2.1 bt325.2.2)))) else (some false)))) else (some false))))))))
theorem laws_FnExactRibSweep.mono_l : ∀ k, (∀ y0 y1 y2 y3 y4 y5 y6 y7 y8, LeO (laws_FnExactRibSweep.j0 k y0 y1 y2 y3 y4 y5 y6 y7 y8) (laws_FnExactRibSweep.j0 (k + 1) y0 y1 y2 y3 y4 y5 y6 y7 y8))
 | 0 => fun _ _ _ _ _ _ _ _ _ r h => by simp [laws_FnExactRibSweep.j0] at h
 | k + 1 => by
  have ih0 := laws_FnExactRibSweep.mono_l k
  ·intro y0 y1 y2 y3 y4 y5 y6 y7 y8
   unfold laws_FnExactRibSweep.j0
   repeat' first
   | (with_reducible exact ih0 _ _ _ _ _ _ _ _ _)
   | (with_reducible exact impl_RibSweep.mono _ _ _)
   | (with_reducible exact laws_eqHeldS.mono _ _ _)
   | (with_reducible exact laws_eqRibOut.mono _ _ _ _ _ _ _)
   | (with_reducible exact laws_heldRibOut.mono _ _ _ _ _)
   | (with_reducible exact laws_markHeldS.mono _ _ _)
   | (with_reducible exact laws_markRibOut.mono _ _ _ _ _)
   | (with_reducible exact laws_toHeldS.mono _ _)
   | (with_reducible exact spec_RibSweep.mono _ _ _)
   | (with_reducible exact LeO.refl _)
   | (with_reducible exact LeO.none _)
   | (with_reducible refine LeO.ite ?_ ?_)
   | (with_reducible refine LeO.bind ?_ (fun _ => ?_))
   | exact ih0 _ _ _ _ _ _ _ _ _
   | exact impl_RibSweep.mono _ _ _
   | exact laws_eqHeldS.mono _ _ _
   | exact laws_eqRibOut.mono _ _ _ _ _ _ _
   | exact laws_heldRibOut.mono _ _ _ _ _
   | exact laws_markHeldS.mono _ _ _
   | exact laws_markRibOut.mono _ _ _ _ _
   | exact laws_toHeldS.mono _ _
   | exact spec_RibSweep.mono _ _ _
   | exact LeO.none _
   | refine LeO.ite ?_ ?_
   | refine LeO.bind ?_ (fun _ => ?_)
theorem laws_FnExactRibSweep.mono : ∀ a0 a1 k, LeO (laws_FnExactRibSweep.f k a0 a1) (laws_FnExactRibSweep.f (k + 1) a0 a1) := by
 intro a0 a1 k
 have ih0 := laws_FnExactRibSweep.mono_l k
 unfold laws_FnExactRibSweep.f
 repeat' first
   | (with_reducible exact ih0 _ _ _ _ _ _ _ _ _)
   | (with_reducible exact impl_RibSweep.mono _ _ _)
   | (with_reducible exact laws_eqHeldS.mono _ _ _)
   | (with_reducible exact laws_eqRibOut.mono _ _ _ _ _ _ _)
   | (with_reducible exact laws_heldRibOut.mono _ _ _ _ _)
   | (with_reducible exact laws_markHeldS.mono _ _ _)
   | (with_reducible exact laws_markRibOut.mono _ _ _ _ _)
   | (with_reducible exact laws_toHeldS.mono _ _)
   | (with_reducible exact spec_RibSweep.mono _ _ _)
   | (with_reducible exact LeO.refl _)
   | (with_reducible exact LeO.none _)
   | (with_reducible refine LeO.ite ?_ ?_)
   | (with_reducible refine LeO.bind ?_ (fun _ => ?_))
   | exact ih0 _ _ _ _ _ _ _ _ _
   | exact impl_RibSweep.mono _ _ _
   | exact laws_eqHeldS.mono _ _ _
   | exact laws_eqRibOut.mono _ _ _ _ _ _ _
   | exact laws_heldRibOut.mono _ _ _ _ _
   | exact laws_markHeldS.mono _ _ _
   | exact laws_markRibOut.mono _ _ _ _ _
   | exact laws_toHeldS.mono _ _
   | exact spec_RibSweep.mono _ _ _
   | exact LeO.none _
   | refine LeO.ite ?_ ?_
   | refine LeO.bind ?_ (fun _ => ?_)
set_option maxHeartbeats 8000000 in
set_option maxRecDepth 100000 in
theorem laws_FnExactRibSweep.calls_true (k : Nat) (A0 : Option Addr) (c0 : Nat) (l0 : List (S76)) (a1 : Int) (w : World) (hr0 : Kd.C k76 w A0 l0.length l0) (hc0 : l0.length ≤ c0) (h : laws_FnExactRibSweep.f k l0 a1 = some true) :
  Calls Try.prog 5 #[.slice A0 l0.length c0, .int .i64 a1] w fun e w' => e = .returned (.bool true) ∧ Below w.heap.size w w' := by
 have hu34 := Try.underlying34
 have HR0 := Aside0.mk hr0
 have HC0 := Aside0.mk hc0
 clear hr0 hc0
 have HB := Aside0.mk (Below.refl w.heap.size w)
 have H : ((laws_szHeldS.f l0 1048576).bind fun t310 => (if t310 < 0 then (some true) else ((laws_toHeldS.f k l0).bind fun t311 => ((spec_RibSweep.f k t311 a1).bind fun bt314 => ((laws_toHeldS.f k l0).bind fun t322 => ((impl_RibSweep.f k t322 a1).bind fun bt325 => ((laws_eqRibOut.f k bt325.1 bt325.2.1 bt325.2.2 bt314.1 bt314.2.1 bt314.2.2).bind fun t333 => (if t333 = true then ((laws_toHeldS.f k l0).bind fun t334 => ((laws_eqHeldS.f k t322 t334).bind fun t337 => (if t337 = true then ((laws_markHeldS.f k t322 1).bind fun bt338 => (if bt338.1 < 0 then (laws_FnExactRibSweep.j0 k l0 a1 true bt314.1 bt314.2.1 bt314.2.2 bt325.1 bt325.2.1 bt325.2.2) else ((laws_eqRibOut.f k bt325.1 bt325.2.1 bt325.2.2 bt314.1 bt314.2.1 bt314.2.2).bind fun t340 => (laws_FnExactRibSweep.j0 k l0 a1 (!t340) bt314.1 bt314.2.1 bt314.2.2 bt325.1 bt325.2.1 bt325.2.2)))) else (some false)))) else (some false))))))))) = some true := h
 clear h
 replace H := Option.bind_eq_some_iff.mp H
 obtain ⟨t310, A30, H⟩ := H
 replace H : (if t310 < 0 then (some true) else ((laws_toHeldS.f k l0).bind fun t311 => ((spec_RibSweep.f k t311 a1).bind fun bt314 => ((laws_toHeldS.f k l0).bind fun t322 => ((impl_RibSweep.f k t322 a1).bind fun bt325 => ((laws_eqRibOut.f k bt325.1 bt325.2.1 bt325.2.2 bt314.1 bt314.2.1 bt314.2.2).bind fun t333 => (if t333 = true then ((laws_toHeldS.f k l0).bind fun t334 => ((laws_eqHeldS.f k t322 t334).bind fun t337 => (if t337 = true then ((laws_markHeldS.f k t322 1).bind fun bt338 => (if bt338.1 < 0 then (laws_FnExactRibSweep.j0 k l0 a1 true bt314.1 bt314.2.1 bt314.2.2 bt325.1 bt325.2.1 bt325.2.2) else ((laws_eqRibOut.f k bt325.1 bt325.2.1 bt325.2.2 bt314.1 bt314.2.1 bt314.2.2).bind fun t340 => (laws_FnExactRibSweep.j0 k l0 a1 (!t340) bt314.1 bt314.2.1 bt314.2.2 bt325.1 bt325.2.1 bt325.2.2)))) else (some false)))) else (some false)))))))) = some true := H
 have A3 := Aside0.mk A30
 clear A30
 by_cases c4 : t310 < 0
 ·rw [if_pos c4] at H
  have c4b0 : decide (t310 < 0) = true := decide_eq_true c4
  clear c4
  clear H
  go_enter Try.func5, Try.ntmps5
  go_wp2_with (first | ((with_reducible refine gate_callee (f := 13) rfl ?_); refine goesL_ (some 15) rfl rfl Try.func13 (by kernel_rfl) rfl #[.slice A0 l0.length c0, .int .i64 1048576] rfl (by (try simp only [List.map_toArray, List.map_cons, List.map_nil]); first | done | rfl | (simp only [List.length_drop, List.length_take]; rfl)) ?_; (with_reducible refine (laws_szHeldS.calls _ _ l0 1048576 t310 _ ?side1 ?side2 A3.out).mono ?_); (case side1 => repeat (first | exact HR0.out | (with_reducible refine Kd.C_alloc ?_ _) | (with_reducible refine Kd.C_drewN ?_ _) | (with_reducible refine Kd.C_drew ?_))); (case side2 => exact HC0.out); rintro e w' ⟨rfl, ⟨nd, rfl⟩⟩; refine ⟨_, rfl, ?_⟩))
  go_ret
  exact ⟨by first | rfl | (simp [errW_none, errW_some] <;> rfl) | (simp [*, errW_none, errW_some] <;> rfl), by repeat (first | (with_reducible first | exact HB.out | apply below_alloc | apply pw_below_drewN | apply below_drew1) | exact HB.out)⟩
 ·rw [if_neg c4] at H
  have c4b0 : decide (t310 < 0) = false := decide_eq_false c4
  clear c4
  replace H := Option.bind_eq_some_iff.mp H
  obtain ⟨t311, A50, H⟩ := H
  replace H : ((spec_RibSweep.f k t311 a1).bind fun bt314 => ((laws_toHeldS.f k l0).bind fun t322 => ((impl_RibSweep.f k t322 a1).bind fun bt325 => ((laws_eqRibOut.f k bt325.1 bt325.2.1 bt325.2.2 bt314.1 bt314.2.1 bt314.2.2).bind fun t333 => (if t333 = true then ((laws_toHeldS.f k l0).bind fun t334 => ((laws_eqHeldS.f k t322 t334).bind fun t337 => (if t337 = true then ((laws_markHeldS.f k t322 1).bind fun bt338 => (if bt338.1 < 0 then (laws_FnExactRibSweep.j0 k l0 a1 true bt314.1 bt314.2.1 bt314.2.2 bt325.1 bt325.2.1 bt325.2.2) else ((laws_eqRibOut.f k bt325.1 bt325.2.1 bt325.2.2 bt314.1 bt314.2.1 bt314.2.2).bind fun t340 => (laws_FnExactRibSweep.j0 k l0 a1 (!t340) bt314.1 bt314.2.1 bt314.2.2 bt325.1 bt325.2.1 bt325.2.2)))) else (some false)))) else (some false)))))) = some true := H
  have A5 := Aside0.mk A50
  clear A50
  replace H := Option.bind_eq_some_iff.mp H
  obtain ⟨⟨t314, t317, t320⟩, A60, H⟩ := H
  replace H : ((laws_toHeldS.f k l0).bind fun t322 => ((impl_RibSweep.f k t322 a1).bind fun bt325 => ((laws_eqRibOut.f k bt325.1 bt325.2.1 bt325.2.2 t314 t317 t320).bind fun t333 => (if t333 = true then ((laws_toHeldS.f k l0).bind fun t334 => ((laws_eqHeldS.f k t322 t334).bind fun t337 => (if t337 = true then ((laws_markHeldS.f k t322 1).bind fun bt338 => (if bt338.1 < 0 then (laws_FnExactRibSweep.j0 k l0 a1 true t314 t317 t320 bt325.1 bt325.2.1 bt325.2.2) else ((laws_eqRibOut.f k bt325.1 bt325.2.1 bt325.2.2 t314 t317 t320).bind fun t340 => (laws_FnExactRibSweep.j0 k l0 a1 (!t340) t314 t317 t320 bt325.1 bt325.2.1 bt325.2.2)))) else (some false)))) else (some false))))) = some true := H
  have A6 := Aside0.mk A60
  clear A60
  replace H := Option.bind_eq_some_iff.mp H
  obtain ⟨t322, A70, H⟩ := H
  replace H : ((impl_RibSweep.f k t322 a1).bind fun bt325 => ((laws_eqRibOut.f k bt325.1 bt325.2.1 bt325.2.2 t314 t317 t320).bind fun t333 => (if t333 = true then ((laws_toHeldS.f k l0).bind fun t334 => ((laws_eqHeldS.f k t322 t334).bind fun t337 => (if t337 = true then ((laws_markHeldS.f k t322 1).bind fun bt338 => (if bt338.1 < 0 then (laws_FnExactRibSweep.j0 k l0 a1 true t314 t317 t320 bt325.1 bt325.2.1 bt325.2.2) else ((laws_eqRibOut.f k bt325.1 bt325.2.1 bt325.2.2 t314 t317 t320).bind fun t340 => (laws_FnExactRibSweep.j0 k l0 a1 (!t340) t314 t317 t320 bt325.1 bt325.2.1 bt325.2.2)))) else (some false)))) else (some false)))) = some true := H
  have A7 := Aside0.mk A70
  clear A70
  replace H := Option.bind_eq_some_iff.mp H
  obtain ⟨⟨t325, t328, t331⟩, A80, H⟩ := H
  replace H : ((laws_eqRibOut.f k t325 t328 t331 t314 t317 t320).bind fun t333 => (if t333 = true then ((laws_toHeldS.f k l0).bind fun t334 => ((laws_eqHeldS.f k t322 t334).bind fun t337 => (if t337 = true then ((laws_markHeldS.f k t322 1).bind fun bt338 => (if bt338.1 < 0 then (laws_FnExactRibSweep.j0 k l0 a1 true t314 t317 t320 t325 t328 t331) else ((laws_eqRibOut.f k t325 t328 t331 t314 t317 t320).bind fun t340 => (laws_FnExactRibSweep.j0 k l0 a1 (!t340) t314 t317 t320 t325 t328 t331)))) else (some false)))) else (some false))) = some true := H
  have A8 := Aside0.mk A80
  clear A80
  replace H := Option.bind_eq_some_iff.mp H
  obtain ⟨t333, A90, H⟩ := H
  replace H : (if t333 = true then ((laws_toHeldS.f k l0).bind fun t334 => ((laws_eqHeldS.f k t322 t334).bind fun t337 => (if t337 = true then ((laws_markHeldS.f k t322 1).bind fun bt338 => (if bt338.1 < 0 then (laws_FnExactRibSweep.j0 k l0 a1 true t314 t317 t320 t325 t328 t331) else ((laws_eqRibOut.f k t325 t328 t331 t314 t317 t320).bind fun t340 => (laws_FnExactRibSweep.j0 k l0 a1 (!t340) t314 t317 t320 t325 t328 t331)))) else (some false)))) else (some false)) = some true := H
  have A9 := Aside0.mk A90
  clear A90
  by_cases c10 : t333 = true
  ·subst c10
   have H1 : ((laws_toHeldS.f k l0).bind fun t334 => ((laws_eqHeldS.f k t322 t334).bind fun t337 => (if t337 = true then ((laws_markHeldS.f k t322 1).bind fun bt338 => (if bt338.1 < 0 then (laws_FnExactRibSweep.j0 k l0 a1 true t314 t317 t320 t325 t328 t331) else ((laws_eqRibOut.f k t325 t328 t331 t314 t317 t320).bind fun t340 => (laws_FnExactRibSweep.j0 k l0 a1 (!t340) t314 t317 t320 t325 t328 t331)))) else (some false)))) = some true := by rw [if_pos rfl] at H; exact H
   clear H
   have H := H1
   clear H1
   replace H := Option.bind_eq_some_iff.mp H
   obtain ⟨t334, A110, H⟩ := H
   replace H : ((laws_eqHeldS.f k t322 t334).bind fun t337 => (if t337 = true then ((laws_markHeldS.f k t322 1).bind fun bt338 => (if bt338.1 < 0 then (laws_FnExactRibSweep.j0 k l0 a1 true t314 t317 t320 t325 t328 t331) else ((laws_eqRibOut.f k t325 t328 t331 t314 t317 t320).bind fun t340 => (laws_FnExactRibSweep.j0 k l0 a1 (!t340) t314 t317 t320 t325 t328 t331)))) else (some false))) = some true := H
   have A11 := Aside0.mk A110
   clear A110
   replace H := Option.bind_eq_some_iff.mp H
   obtain ⟨t337, A120, H⟩ := H
   replace H : (if t337 = true then ((laws_markHeldS.f k t322 1).bind fun bt338 => (if bt338.1 < 0 then (laws_FnExactRibSweep.j0 k l0 a1 true t314 t317 t320 t325 t328 t331) else ((laws_eqRibOut.f k t325 t328 t331 t314 t317 t320).bind fun t340 => (laws_FnExactRibSweep.j0 k l0 a1 (!t340) t314 t317 t320 t325 t328 t331)))) else (some false)) = some true := H
   have A12 := Aside0.mk A120
   clear A120
   by_cases c13 : t337 = true
   ·subst c13
    have H1 : ((laws_markHeldS.f k t322 1).bind fun bt338 => (if bt338.1 < 0 then (laws_FnExactRibSweep.j0 k l0 a1 true t314 t317 t320 t325 t328 t331) else ((laws_eqRibOut.f k t325 t328 t331 t314 t317 t320).bind fun t340 => (laws_FnExactRibSweep.j0 k l0 a1 (!t340) t314 t317 t320 t325 t328 t331)))) = some true := by rw [if_pos rfl] at H; exact H
    clear H
    have H := H1
    clear H1
    replace H := Option.bind_eq_some_iff.mp H
    obtain ⟨⟨t338, t339⟩, A140, H⟩ := H
    replace H : (if t338 < 0 then (laws_FnExactRibSweep.j0 k l0 a1 true t314 t317 t320 t325 t328 t331) else ((laws_eqRibOut.f k t325 t328 t331 t314 t317 t320).bind fun t340 => (laws_FnExactRibSweep.j0 k l0 a1 (!t340) t314 t317 t320 t325 t328 t331))) = some true := H
    have A14 := Aside0.mk A140
    clear A140
    have HC15 := Aside0.mk H
    clear H
    go_enter Try.func5, Try.ntmps5
    go_upto_region 14 with (first | ((with_reducible refine gate_callee (f := 13) rfl ?_); refine goesL_ (some 15) rfl rfl Try.func13 (by kernel_rfl) rfl #[.slice A0 l0.length c0, .int .i64 1048576] rfl (by (try simp only [List.map_toArray, List.map_cons, List.map_nil]); first | done | rfl | (simp only [List.length_drop, List.length_take]; rfl)) ?_; (with_reducible refine (laws_szHeldS.calls _ _ l0 1048576 t310 _ ?side1 ?side2 A3.out).mono ?_); (case side1 => repeat (first | exact HR0.out | (with_reducible refine Kd.C_alloc ?_ _) | (with_reducible refine Kd.C_drewN ?_ _) | (with_reducible refine Kd.C_drew ?_))); (case side2 => exact HC0.out); rintro e w' ⟨rfl, ⟨nd, rfl⟩⟩; refine ⟨_, rfl, ?_⟩) | ((with_reducible refine gate_callee (f := 15) rfl ?_); refine goesL_ (some 19) rfl rfl Try.func15 (by kernel_rfl) rfl #[.slice A0 l0.length c0] rfl (by (try simp only [List.map_toArray, List.map_cons, List.map_nil]); first | done | rfl | (simp only [List.length_drop, List.length_take]; rfl)) ?_; (with_reducible refine (laws_toHeldS.calls k _ _ l0 t311 _ ?side1 ?side2 A5.out).mono ?_); (case side1 => repeat (first | exact HR0.out | (with_reducible refine Kd.C_alloc ?_ _) | (with_reducible refine Kd.C_drewN ?_ _) | (with_reducible refine Kd.C_drew ?_))); (case side2 => exact HC0.out); rintro e w16 ⟨v312, rfl, ho0, hb⟩; refine ⟨_, rfl, ?_⟩; have n0_ := Aside0.mk (Kd.R_lower ho0 (below_size (by repeat (first | (with_reducible first | exact HB.out | apply below_alloc | apply pw_below_drewN | apply below_drew1) | exact HB.out)))); have n1_ := Aside0.mk (below_step (by repeat (first | (with_reducible first | exact HB.out | apply below_alloc | apply pw_below_drewN | apply below_drew1) | exact HB.out)) hb); clear HB; have HO313 := n0_; have HB := n1_; clear n0_ n1_; (try clear hb); (try clear hb2); (try clear hk); (try clear hi); (try clear ho0); obtain ⟨Ao17, co17, eo17⟩ := Kd.R_slice HO313.out; subst eo17) | ((with_reducible refine gate_callee (f := 27) rfl ?_); refine goesL_ (some 21) rfl rfl Try.func27 (by kernel_rfl) rfl #[.slice Ao17 t311.length co17, .int .i64 a1] rfl (by (try simp only [List.map_toArray, List.map_cons, List.map_nil]); first | done | rfl | (simp only [List.length_drop, List.length_take]; rfl)) ?_; (with_reducible refine (spec_RibSweep.calls k _ _ t311 a1 t314 t317 t320 _ ?side1 ?side2 A6.out).mono ?_); (case side1 => repeat (first | exact (Kd.R_reads' HO313.out).2.2 | (with_reducible refine Kd.C_alloc ?_ _) | (with_reducible refine Kd.C_drewN ?_ _) | (with_reducible refine Kd.C_drew ?_))); (case side2 => exact (Kd.R_reads' HO313.out).2.1); rintro e w18 ⟨v315, v318, rfl, ho0, ho1, hb⟩; refine ⟨_, rfl, ?_⟩; have n0_ := Aside0.mk (Kd.R_elder' (by (with_reducible repeat (first | apply Kd.R_alloc | apply Kd.R_drewN | apply Kd.R_drew)); exact HO313.out) (Kd.R_base ho0) hb); have n1_ := Aside0.mk (Kd.R_lower (Kd.R_new' ho0 (Kd.R_lt (by (with_reducible repeat (first | apply Kd.R_alloc | apply Kd.R_drewN | apply Kd.R_drew)); exact HO313.out))) (below_size (by repeat (first | (with_reducible first | exact HB.out | apply below_alloc | apply pw_below_drewN | apply below_drew1) | exact HB.out)))); have n2_ := Aside0.mk (Kd.R_lower ho1 (below_size (by repeat (first | (with_reducible first | exact HB.out | apply below_alloc | apply pw_below_drewN | apply below_drew1) | exact HB.out)))); have n3_ := Aside0.mk (below_step (by repeat (first | (with_reducible first | exact HB.out | apply below_alloc | apply pw_below_drewN | apply below_drew1) | exact HB.out)) hb); clear HO313; clear HB; have HO313 := n0_; have HO316 := n1_; have HO319 := n2_; have HB := n3_; clear n0_ n1_ n2_ n3_; (try clear hb); (try clear hb2); (try clear hk); (try clear hi); (try clear ho0); (try clear ho1)) | ((with_reducible refine gate_dst (N := 6) rfl ?_); refine box_event ?hg (N := 6) ?hd (cs := #[.slice none 0 0, .slice none 0 0, .int .i64 0]) (t := 34) ?hr ?_; (case hd => rfl); (case hg => rfl); (case hr => first | (go_simp; done) | (go_simp; rfl)); intro gb321 hg w19 hbox hb; have n0_ := Aside0.mk (Kd.R_below (by (with_reducible repeat (first | apply Kd.R_alloc | apply Kd.R_drewN | apply Kd.R_drew)); exact HO313.out) hb); have n1_ := Aside0.mk (Kd.R_below (by (with_reducible repeat (first | apply Kd.R_alloc | apply Kd.R_drewN | apply Kd.R_drew)); exact HO316.out) hb); have n2_ := Aside0.mk (Kd.R_below (by (with_reducible repeat (first | apply Kd.R_alloc | apply Kd.R_drewN | apply Kd.R_drew)); exact HO319.out) hb); have n3_ := Aside0.mk (below_step (by repeat (first | (with_reducible first | exact HB.out | apply below_alloc | apply pw_below_drewN | apply below_drew1) | exact HB.out)) hb); have n4_ := Aside0.mk (hbox); have n5_ := Aside0.mk ((by rw [hg]; exact (below_size (by repeat (first | (with_reducible first | exact HB.out | apply below_alloc | apply pw_below_drewN | apply below_drew1) | exact HB.out))) : w.heap.size ≤ gb321)); have n6_ := Aside0.mk ((by rw [hg]; exact (below_size (by repeat (first | (with_reducible first | exact HB.out | apply below_alloc | apply pw_below_drewN | apply below_drew1) | exact HB.out))) : w.heap.size ≤ gb321)); clear HO313; clear HO316; clear HO319; clear HB; have HO313 := n0_; have HO316 := n1_; have HO319 := n2_; have HB := n3_; have BK321 := n4_; have GW321 := n5_; have GE321 := n6_; clear n0_ n1_ n2_ n3_ n4_ n5_ n6_; clear hb hbox hg; obtain ⟨Ao20, co20, eo20⟩ := Kd.R_slice HO316.out; subst eo20; have hcz21_0 : w19.cell? ⟨gb321, 0, none⟩ = some (.slice none 0 0) := (blk_cell BK321.out 0).trans rfl; have hcz21_1 : w19.cell? ⟨gb321, 1, none⟩ = some (.slice none 0 0) := (blk_cell BK321.out 1).trans rfl; have hcz21_2 : w19.cell? ⟨gb321, 2, none⟩ = some (.int .i64 0) := (blk_cell BK321.out 2).trans rfl; have hfz21_0 := blk_frozen BK321.out 0; have hfz21_1 := blk_frozen BK321.out 1; have hfz21_2 := blk_frozen BK321.out 2; obtain ⟨Ao22, co22, eo22⟩ := Kd.R_slice HO319.out; subst eo22) | ((with_reducible refine gate_callee (f := 15) rfl ?_); refine goesL_ (some 23) rfl rfl Try.func15 (by kernel_rfl) rfl #[.slice A0 l0.length c0] rfl (by (try simp only [List.map_toArray, List.map_cons, List.map_nil]); first | done | rfl | (simp only [List.length_drop, List.length_take]; rfl)) ?_; (with_reducible refine (laws_toHeldS.calls k _ _ l0 t322 _ ?side1 ?side2 A7.out).mono ?_); (case side1 => exact Kd.C_below HR0.out (by repeat (first | (with_reducible first | exact HB.out | apply below_alloc | apply pw_below_drewN | apply below_drew1 | refine below_set ?_ GE321.out) | exact HB.out))); (case side2 => exact HC0.out); rintro e w23 ⟨v323, rfl, ho0, hb⟩; refine ⟨_, rfl, ?_⟩; have n0_ := Aside0.mk (Kd.R_elder' (by (with_reducible repeat (first | apply Kd.R_alloc | apply Kd.R_drewN | apply Kd.R_drew)); exact (Kd.R_mono (Kd.R_far (p := ⟨gb321, 2, none⟩) (Kd.R_far (p := ⟨gb321, 1, none⟩) (Kd.R_far (p := ⟨gb321, 0, none⟩) (Kd.R_types HO313.out BK321.out (by decide)) (fun _ hk => hk.2) (.slice Ao20 t314.length co20)) (fun _ hk => hk.2) (.slice Ao22 t317.length co22)) (fun _ hk => hk.2) (.int .i64 t320)) (fun _ h_ => h_.1))) (Kd.R_base ho0) hb); have n1_ := Aside0.mk (Kd.R_elder' (by (with_reducible repeat (first | apply Kd.R_alloc | apply Kd.R_drewN | apply Kd.R_drew)); exact (Kd.R_mono (Kd.R_far (p := ⟨gb321, 2, none⟩) (Kd.R_far (p := ⟨gb321, 1, none⟩) (Kd.R_far (p := ⟨gb321, 0, none⟩) (Kd.R_types HO316.out BK321.out (by decide)) (fun _ hk => hk.2) (.slice Ao20 t314.length co20)) (fun _ hk => hk.2) (.slice Ao22 t317.length co22)) (fun _ hk => hk.2) (.int .i64 t320)) (fun _ h_ => h_.1))) (Kd.R_base ho0) hb); have n2_ := Aside0.mk (Kd.R_below (by (with_reducible repeat (first | apply Kd.R_alloc | apply Kd.R_drewN | apply Kd.R_drew)); exact (Kd.R_mono (Kd.R_far (p := ⟨gb321, 2, none⟩) (Kd.R_far (p := ⟨gb321, 1, none⟩) (Kd.R_far (p := ⟨gb321, 0, none⟩) (Kd.R_types HO319.out BK321.out (by decide)) (fun _ hk => hk.2) (.slice Ao20 t314.length co20)) (fun _ hk => hk.2) (.slice Ao22 t317.length co22)) (fun _ hk => hk.2) (.int .i64 t320)) (fun _ h_ => h_.1))) hb); have n3_ := Aside0.mk (Kd.R_lower (Kd.R_new' (Kd.R_new' ho0 (Kd.R_lt (by (with_reducible repeat (first | apply Kd.R_alloc | apply Kd.R_drewN | apply Kd.R_drew)); exact (Kd.R_mono (Kd.R_far (p := ⟨gb321, 2, none⟩) (Kd.R_far (p := ⟨gb321, 1, none⟩) (Kd.R_far (p := ⟨gb321, 0, none⟩) (Kd.R_types HO313.out BK321.out (by decide)) (fun _ hk => hk.2) (.slice Ao20 t314.length co20)) (fun _ hk => hk.2) (.slice Ao22 t317.length co22)) (fun _ hk => hk.2) (.int .i64 t320)) (fun _ h_ => h_.1))))) (Kd.R_lt (by (with_reducible repeat (first | apply Kd.R_alloc | apply Kd.R_drewN | apply Kd.R_drew)); exact (Kd.R_mono (Kd.R_far (p := ⟨gb321, 2, none⟩) (Kd.R_far (p := ⟨gb321, 1, none⟩) (Kd.R_far (p := ⟨gb321, 0, none⟩) (Kd.R_types HO316.out BK321.out (by decide)) (fun _ hk => hk.2) (.slice Ao20 t314.length co20)) (fun _ hk => hk.2) (.slice Ao22 t317.length co22)) (fun _ hk => hk.2) (.int .i64 t320)) (fun _ h_ => h_.1))))) (below_size (by repeat (first | (with_reducible first | exact HB.out | apply below_alloc | apply pw_below_drewN | apply below_drew1 | refine below_set ?_ GE321.out) | exact HB.out)))); have n4_ := Aside0.mk (blk_below (g := gb321) (o := .cells #[.slice Ao20 t314.length co20, .slice Ao22 t317.length co22, .int .i64 t320] 34 (0, 0)) (by (with_reducible repeat (first | refine blk_drewN ?_ _ | refine blk_drew ?_ | refine blk_alloc ?_ _)); refine blk_put (cs := #[.slice Ao20 t314.length co20, .slice Ao22 t317.length co22, .int .i64 0]) ?_ 2 _ rfl; (with_reducible repeat (first | refine blk_drewN ?_ _ | refine blk_drew ?_ | refine blk_alloc ?_ _)); refine blk_put (cs := #[.slice Ao20 t314.length co20, .slice none 0 0, .int .i64 0]) ?_ 1 _ rfl; (with_reducible repeat (first | refine blk_drewN ?_ _ | refine blk_drew ?_ | refine blk_alloc ?_ _)); refine blk_put (cs := #[.slice none 0 0, .slice none 0 0, .int .i64 0]) ?_ 0 _ rfl; (with_reducible repeat (first | refine blk_drewN ?_ _ | refine blk_drew ?_ | refine blk_alloc ?_ _)); exact BK321.out) hb); have n5_ := Aside0.mk (below_step (by repeat (first | (with_reducible first | exact HB.out | apply below_alloc | apply pw_below_drewN | apply below_drew1 | refine below_set ?_ GE321.out) | exact HB.out)) hb); clear HO313; clear HO316; clear HO319; clear BK321; clear HB; have HO313 := n0_; have HO316 := n1_; have HO319 := n2_; have HO324 := n3_; have BK321 := n4_; have HB := n5_; clear n0_ n1_ n2_ n3_ n4_ n5_; (try clear hb); (try clear hb2); (try clear hk); (try clear hi); (try clear ho0); obtain ⟨Ao24, co24, eo24⟩ := Kd.R_slice HO324.out; subst eo24) | ((with_reducible refine gate_callee (f := 28) rfl ?_); refine goesL_ (some 26) rfl rfl Try.func28 (by kernel_rfl) rfl #[.slice Ao24 t322.length co24, .int .i64 a1] rfl (by (try simp only [List.map_toArray, List.map_cons, List.map_nil]); first | done | rfl | (simp only [List.length_drop, List.length_take]; rfl)) ?_; (with_reducible refine (impl_RibSweep.calls k _ _ t322 a1 t325 t328 t331 _ ?side1 ?side2 A8.out).mono ?_); (case side1 => repeat (first | exact (Kd.R_reads' HO324.out).2.2 | (with_reducible refine Kd.C_alloc ?_ _) | (with_reducible refine Kd.C_drewN ?_ _) | (with_reducible refine Kd.C_drew ?_))); (case side2 => exact (Kd.R_reads' HO324.out).2.1); rintro e w25 ⟨v326, v329, rfl, ho0, ho1, hb⟩; refine ⟨_, rfl, ?_⟩; have n0_ := Aside0.mk (Kd.R_elder' (by (with_reducible repeat (first | apply Kd.R_alloc | apply Kd.R_drewN | apply Kd.R_drew)); exact HO313.out) (Kd.R_base ho0) hb); have n1_ := Aside0.mk (Kd.R_elder' (by (with_reducible repeat (first | apply Kd.R_alloc | apply Kd.R_drewN | apply Kd.R_drew)); exact HO316.out) (Kd.R_base ho0) hb); have n2_ := Aside0.mk (Kd.R_elder' (by (with_reducible repeat (first | apply Kd.R_alloc | apply Kd.R_drewN | apply Kd.R_drew)); exact HO319.out) (Kd.R_base ho1) hb); have n3_ := Aside0.mk (Kd.R_elder' (by (with_reducible repeat (first | apply Kd.R_alloc | apply Kd.R_drewN | apply Kd.R_drew)); exact HO324.out) (Kd.R_base ho0) hb); have n4_ := Aside0.mk (Kd.R_lower (Kd.R_new' (Kd.R_new' (Kd.R_new' ho0 (Kd.R_lt (by (with_reducible repeat (first | apply Kd.R_alloc | apply Kd.R_drewN | apply Kd.R_drew)); exact HO313.out))) (Kd.R_lt (by (with_reducible repeat (first | apply Kd.R_alloc | apply Kd.R_drewN | apply Kd.R_drew)); exact HO316.out))) (Kd.R_lt (by (with_reducible repeat (first | apply Kd.R_alloc | apply Kd.R_drewN | apply Kd.R_drew)); exact HO324.out))) (below_size (by repeat (first | (with_reducible first | exact HB.out | apply below_alloc | apply pw_below_drewN | apply below_drew1 | refine below_set ?_ GE321.out) | exact HB.out)))); have n5_ := Aside0.mk (Kd.R_lower (Kd.R_new' ho1 (Kd.R_lt (by (with_reducible repeat (first | apply Kd.R_alloc | apply Kd.R_drewN | apply Kd.R_drew)); exact HO319.out))) (below_size (by repeat (first | (with_reducible first | exact HB.out | apply below_alloc | apply pw_below_drewN | apply below_drew1 | refine below_set ?_ GE321.out) | exact HB.out)))); have n6_ := Aside0.mk (blk_below (g := gb321) (o := .cells #[.slice Ao20 t314.length co20, .slice Ao22 t317.length co22, .int .i64 t320] 34 (0, 0)) (by (with_reducible repeat (first | refine blk_drewN ?_ _ | refine blk_drew ?_ | refine blk_alloc ?_ _)); exact BK321.out) hb); have n7_ := Aside0.mk (below_step (by repeat (first | (with_reducible first | exact HB.out | apply below_alloc | apply pw_below_drewN | apply below_drew1 | refine below_set ?_ GE321.out) | exact HB.out)) hb); clear HO313; clear HO316; clear HO319; clear HO324; clear BK321; clear HB; have HO313 := n0_; have HO316 := n1_; have HO319 := n2_; have HO324 := n3_; have HO327 := n4_; have HO330 := n5_; have BK321 := n6_; have HB := n7_; clear n0_ n1_ n2_ n3_ n4_ n5_ n6_ n7_; (try clear hb); (try clear hb2); (try clear hk); (try clear hi); (try clear ho0); (try clear ho1)) | ((with_reducible refine gate_dst (N := 8) rfl ?_); refine box_event ?hg (N := 8) ?hd (cs := #[.slice none 0 0, .slice none 0 0, .int .i64 0]) (t := 34) ?hr ?_; (case hd => rfl); (case hg => rfl); (case hr => first | (go_simp; done) | (go_simp; rfl)); intro gb332 hg w26 hbox hb; have n0_ := Aside0.mk (Kd.R_below (by (with_reducible repeat (first | apply Kd.R_alloc | apply Kd.R_drewN | apply Kd.R_drew)); exact HO313.out) hb); have n1_ := Aside0.mk (Kd.R_below (by (with_reducible repeat (first | apply Kd.R_alloc | apply Kd.R_drewN | apply Kd.R_drew)); exact HO316.out) hb); have n2_ := Aside0.mk (Kd.R_below (by (with_reducible repeat (first | apply Kd.R_alloc | apply Kd.R_drewN | apply Kd.R_drew)); exact HO319.out) hb); have n3_ := Aside0.mk (Kd.R_below (by (with_reducible repeat (first | apply Kd.R_alloc | apply Kd.R_drewN | apply Kd.R_drew)); exact HO324.out) hb); have n4_ := Aside0.mk (Kd.R_below (by (with_reducible repeat (first | apply Kd.R_alloc | apply Kd.R_drewN | apply Kd.R_drew)); exact HO327.out) hb); have n5_ := Aside0.mk (Kd.R_below (by (with_reducible repeat (first | apply Kd.R_alloc | apply Kd.R_drewN | apply Kd.R_drew)); exact HO330.out) hb); have n6_ := Aside0.mk (blk_below (g := gb321) (o := .cells #[.slice Ao20 t314.length co20, .slice Ao22 t317.length co22, .int .i64 t320] 34 (0, 0)) (by (with_reducible repeat (first | refine blk_drewN ?_ _ | refine blk_drew ?_ | refine blk_alloc ?_ _)); exact BK321.out) hb); have n7_ := Aside0.mk (below_step (by repeat (first | (with_reducible first | exact HB.out | apply below_alloc | apply pw_below_drewN | apply below_drew1 | refine below_set ?_ GE321.out) | exact HB.out)) hb); have n8_ := Aside0.mk (hbox); have n9_ := Aside0.mk ((by rw [hg]; exact (below_size (by repeat (first | (with_reducible first | exact HB.out | apply below_alloc | apply pw_below_drewN | apply below_drew1 | refine below_set ?_ GE321.out) | exact HB.out))) : w.heap.size ≤ gb332)); have n10_ := Aside0.mk ((by rw [hg]; exact (below_size (by repeat (first | (with_reducible first | exact HB.out | apply below_alloc | apply pw_below_drewN | apply below_drew1 | refine below_set ?_ GE321.out) | exact HB.out))) : w.heap.size ≤ gb332)); have n11_ := Aside0.mk ((by rw [hg]; exact Nat.ne_of_lt (blk_lt (g := gb321) (o := .cells #[.slice Ao20 t314.length co20, .slice Ao22 t317.length co22, .int .i64 t320] 34 (0, 0)) (by (with_reducible repeat (first | refine blk_drewN ?_ _ | refine blk_drew ?_ | refine blk_alloc ?_ _)); exact BK321.out)) : gb321 ≠ gb332)); have n12_ := Aside0.mk ((by rw [hg]; exact Nat.ne_of_gt (blk_lt (g := gb321) (o := .cells #[.slice Ao20 t314.length co20, .slice Ao22 t317.length co22, .int .i64 t320] 34 (0, 0)) (by (with_reducible repeat (first | refine blk_drewN ?_ _ | refine blk_drew ?_ | refine blk_alloc ?_ _)); exact BK321.out)) : gb332 ≠ gb321)); clear HO313; clear HO316; clear HO319; clear HO324; clear HO327; clear HO330; clear BK321; clear HB; have HO313 := n0_; have HO316 := n1_; have HO319 := n2_; have HO324 := n3_; have HO327 := n4_; have HO330 := n5_; have BK321 := n6_; have HB := n7_; have BK332 := n8_; have GW332 := n9_; have GE332 := n10_; have NB321_332 := n11_; have NB332_321 := n12_; clear n0_ n1_ n2_ n3_ n4_ n5_ n6_ n7_ n8_ n9_ n10_ n11_ n12_; clear hb hbox hg; obtain ⟨Ao27, co27, eo27⟩ := Kd.R_slice HO327.out; subst eo27; have hnb28 := NB332_321.out; have hnc28 := NB321_332.out; have hcz29_0 : w26.cell? ⟨gb332, 0, none⟩ = some (.slice none 0 0) := (blk_cell BK332.out 0).trans rfl; have hcz29_1 : w26.cell? ⟨gb332, 1, none⟩ = some (.slice none 0 0) := (blk_cell BK332.out 1).trans rfl; have hcz29_2 : w26.cell? ⟨gb332, 2, none⟩ = some (.int .i64 0) := (blk_cell BK332.out 2).trans rfl; have hfz29_0 := blk_frozen BK332.out 0; have hfz29_1 := blk_frozen BK332.out 1; have hfz29_2 := blk_frozen BK332.out 2; obtain ⟨Ao30, co30, eo30⟩ := Kd.R_slice HO330.out; subst eo30; have hcz31_0 : w26.cell? ⟨gb321, 0, none⟩ = some (.slice Ao20 t314.length co20) := (blk_cell BK321.out 0).trans rfl; have hcz31_1 : w26.cell? ⟨gb321, 1, none⟩ = some (.slice Ao22 t317.length co22) := (blk_cell BK321.out 1).trans rfl; have hcz31_2 : w26.cell? ⟨gb321, 2, none⟩ = some (.int .i64 t320) := (blk_cell BK321.out 2).trans rfl; have hfz31_0 := blk_frozen BK321.out 0; have hfz31_1 := blk_frozen BK321.out 1; have hfz31_2 := blk_frozen BK321.out 2) | ((with_reducible refine gate_callee (f := 24) rfl ?_); refine goesL_ (some 29) rfl rfl Try.func24 (by kernel_rfl) rfl #[.agg #[.slice Ao27 t325.length co27, .slice Ao30 t328.length co30, .int .i64 t331], .agg #[.slice Ao20 t314.length co20, .slice Ao22 t317.length co22, .int .i64 t320]] rfl (by (try simp only [List.map_toArray, List.map_cons, List.map_nil]); first | done | rfl | (simp only [List.length_drop, List.length_take]; rfl)) ?_; (with_reducible refine (laws_eqRibOut.calls k _ _ t325 _ _ t328 t331 _ _ t314 _ _ t317 t320 true _ ?side1 ?side2 ?side3 ?side4 ?side5 ?side6 ?side7 ?side8 A9.out).mono ?_); (case side1 => refine (Kd.R_reads' (e := 73) (base := w.heap.size) (ok := fun k_ => (((True ∧ some k_ ≠ (.slice Ao17 t311.length co17 : Value).ownBlock) ∧ some k_ ≠ (.slice Ao20 t314.length co20 : Value).ownBlock) ∧ some k_ ≠ (.slice Ao24 t322.length co24 : Value).ownBlock)) (n := t325.length) (c := co27) ?_).2.2; exact (by (with_reducible repeat (first | apply Kd.R_alloc | apply Kd.R_drewN | apply Kd.R_drew)); exact (Kd.R_mono (Kd.R_far (p := ⟨gb332, 2, none⟩) (Kd.R_far (p := ⟨gb332, 1, none⟩) (Kd.R_far (p := ⟨gb332, 0, none⟩) (Kd.R_types HO327.out BK332.out (by decide)) (fun _ hk => hk.2) (.slice Ao27 t325.length co27)) (fun _ hk => hk.2) (.slice Ao30 t328.length co30)) (fun _ hk => hk.2) (.int .i64 t331)) (fun _ h_ => h_.1)))); (case side2 => exact (Kd.R_reads' HO327.out).2.1); (case side3 => refine (Kd.R_reads' (e := 42) (base := w.heap.size) (ok := fun k_ => (True ∧ some k_ ≠ (.slice Ao22 t317.length co22 : Value).ownBlock)) (n := t328.length) (c := co30) ?_).2.2; exact (by (with_reducible repeat (first | apply Kd.R_alloc | apply Kd.R_drewN | apply Kd.R_drew)); exact (Kd.R_mono (Kd.R_far (p := ⟨gb332, 2, none⟩) (Kd.R_far (p := ⟨gb332, 1, none⟩) (Kd.R_far (p := ⟨gb332, 0, none⟩) (Kd.R_types HO330.out BK332.out (by decide)) (fun _ hk => hk.2) (.slice Ao27 t325.length co27)) (fun _ hk => hk.2) (.slice Ao30 t328.length co30)) (fun _ hk => hk.2) (.int .i64 t331)) (fun _ h_ => h_.1)))); (case side4 => exact (Kd.R_reads' HO330.out).2.1); (case side5 => refine (Kd.R_reads' (e := 73) (base := w.heap.size) (ok := fun k_ => (((True ∧ some k_ ≠ (.slice Ao17 t311.length co17 : Value).ownBlock) ∧ some k_ ≠ (.slice Ao24 t322.length co24 : Value).ownBlock) ∧ some k_ ≠ (.slice Ao27 t325.length co27 : Value).ownBlock)) (n := t314.length) (c := co20) ?_).2.2; exact (by (with_reducible repeat (first | apply Kd.R_alloc | apply Kd.R_drewN | apply Kd.R_drew)); exact (Kd.R_mono (Kd.R_far (p := ⟨gb332, 2, none⟩) (Kd.R_far (p := ⟨gb332, 1, none⟩) (Kd.R_far (p := ⟨gb332, 0, none⟩) (Kd.R_types HO316.out BK332.out (by decide)) (fun _ hk => hk.2) (.slice Ao27 t325.length co27)) (fun _ hk => hk.2) (.slice Ao30 t328.length co30)) (fun _ hk => hk.2) (.int .i64 t331)) (fun _ h_ => h_.1)))); (case side6 => exact (Kd.R_reads' HO316.out).2.1); (case side7 => refine (Kd.R_reads' (e := 42) (base := w.heap.size) (ok := fun k_ => (True ∧ some k_ ≠ (.slice Ao30 t328.length co30 : Value).ownBlock)) (n := t317.length) (c := co22) ?_).2.2; exact (by (with_reducible repeat (first | apply Kd.R_alloc | apply Kd.R_drewN | apply Kd.R_drew)); exact (Kd.R_mono (Kd.R_far (p := ⟨gb332, 2, none⟩) (Kd.R_far (p := ⟨gb332, 1, none⟩) (Kd.R_far (p := ⟨gb332, 0, none⟩) (Kd.R_types HO319.out BK332.out (by decide)) (fun _ hk => hk.2) (.slice Ao27 t325.length co27)) (fun _ hk => hk.2) (.slice Ao30 t328.length co30)) (fun _ hk => hk.2) (.int .i64 t331)) (fun _ h_ => h_.1)))); (case side8 => exact (Kd.R_reads' HO319.out).2.1); rintro e w32 ⟨rfl, hb⟩; refine ⟨_, rfl, ?_⟩; have n0_ := Aside0.mk (Kd.R_below (by (with_reducible repeat (first | apply Kd.R_alloc | apply Kd.R_drewN | apply Kd.R_drew)); exact (Kd.R_mono (Kd.R_far (p := ⟨gb332, 2, none⟩) (Kd.R_far (p := ⟨gb332, 1, none⟩) (Kd.R_far (p := ⟨gb332, 0, none⟩) (Kd.R_types HO313.out BK332.out (by decide)) (fun _ hk => hk.2) (.slice Ao27 t325.length co27)) (fun _ hk => hk.2) (.slice Ao30 t328.length co30)) (fun _ hk => hk.2) (.int .i64 t331)) (fun _ h_ => h_.1))) hb); have n1_ := Aside0.mk (Kd.R_below (by (with_reducible repeat (first | apply Kd.R_alloc | apply Kd.R_drewN | apply Kd.R_drew)); exact (Kd.R_mono (Kd.R_far (p := ⟨gb332, 2, none⟩) (Kd.R_far (p := ⟨gb332, 1, none⟩) (Kd.R_far (p := ⟨gb332, 0, none⟩) (Kd.R_types HO316.out BK332.out (by decide)) (fun _ hk => hk.2) (.slice Ao27 t325.length co27)) (fun _ hk => hk.2) (.slice Ao30 t328.length co30)) (fun _ hk => hk.2) (.int .i64 t331)) (fun _ h_ => h_.1))) hb); have n2_ := Aside0.mk (Kd.R_below (by (with_reducible repeat (first | apply Kd.R_alloc | apply Kd.R_drewN | apply Kd.R_drew)); exact (Kd.R_mono (Kd.R_far (p := ⟨gb332, 2, none⟩) (Kd.R_far (p := ⟨gb332, 1, none⟩) (Kd.R_far (p := ⟨gb332, 0, none⟩) (Kd.R_types HO319.out BK332.out (by decide)) (fun _ hk => hk.2) (.slice Ao27 t325.length co27)) (fun _ hk => hk.2) (.slice Ao30 t328.length co30)) (fun _ hk => hk.2) (.int .i64 t331)) (fun _ h_ => h_.1))) hb); have n3_ := Aside0.mk (Kd.R_below (by (with_reducible repeat (first | apply Kd.R_alloc | apply Kd.R_drewN | apply Kd.R_drew)); exact (Kd.R_mono (Kd.R_far (p := ⟨gb332, 2, none⟩) (Kd.R_far (p := ⟨gb332, 1, none⟩) (Kd.R_far (p := ⟨gb332, 0, none⟩) (Kd.R_types HO324.out BK332.out (by decide)) (fun _ hk => hk.2) (.slice Ao27 t325.length co27)) (fun _ hk => hk.2) (.slice Ao30 t328.length co30)) (fun _ hk => hk.2) (.int .i64 t331)) (fun _ h_ => h_.1))) hb); have n4_ := Aside0.mk (Kd.R_below (by (with_reducible repeat (first | apply Kd.R_alloc | apply Kd.R_drewN | apply Kd.R_drew)); exact (Kd.R_mono (Kd.R_far (p := ⟨gb332, 2, none⟩) (Kd.R_far (p := ⟨gb332, 1, none⟩) (Kd.R_far (p := ⟨gb332, 0, none⟩) (Kd.R_types HO327.out BK332.out (by decide)) (fun _ hk => hk.2) (.slice Ao27 t325.length co27)) (fun _ hk => hk.2) (.slice Ao30 t328.length co30)) (fun _ hk => hk.2) (.int .i64 t331)) (fun _ h_ => h_.1))) hb); have n5_ := Aside0.mk (Kd.R_below (by (with_reducible repeat (first | apply Kd.R_alloc | apply Kd.R_drewN | apply Kd.R_drew)); exact (Kd.R_mono (Kd.R_far (p := ⟨gb332, 2, none⟩) (Kd.R_far (p := ⟨gb332, 1, none⟩) (Kd.R_far (p := ⟨gb332, 0, none⟩) (Kd.R_types HO330.out BK332.out (by decide)) (fun _ hk => hk.2) (.slice Ao27 t325.length co27)) (fun _ hk => hk.2) (.slice Ao30 t328.length co30)) (fun _ hk => hk.2) (.int .i64 t331)) (fun _ h_ => h_.1))) hb); have n6_ := Aside0.mk (blk_below (g := gb321) (o := .cells #[.slice Ao20 t314.length co20, .slice Ao22 t317.length co22, .int .i64 t320] 34 (0, 0)) (by (with_reducible repeat (first | refine blk_drewN ?_ _ | refine blk_drew ?_ | refine blk_alloc ?_ _)); refine blk_far ?_ NB321_332.out _; (with_reducible repeat (first | refine blk_drewN ?_ _ | refine blk_drew ?_ | refine blk_alloc ?_ _)); refine blk_far ?_ NB321_332.out _; (with_reducible repeat (first | refine blk_drewN ?_ _ | refine blk_drew ?_ | refine blk_alloc ?_ _)); refine blk_far ?_ NB321_332.out _; (with_reducible repeat (first | refine blk_drewN ?_ _ | refine blk_drew ?_ | refine blk_alloc ?_ _)); exact BK321.out) hb); have n7_ := Aside0.mk (blk_below (g := gb332) (o := .cells #[.slice Ao27 t325.length co27, .slice Ao30 t328.length co30, .int .i64 t331] 34 (0, 0)) (by (with_reducible repeat (first | refine blk_drewN ?_ _ | refine blk_drew ?_ | refine blk_alloc ?_ _)); refine blk_put (cs := #[.slice Ao27 t325.length co27, .slice Ao30 t328.length co30, .int .i64 0]) ?_ 2 _ rfl; (with_reducible repeat (first | refine blk_drewN ?_ _ | refine blk_drew ?_ | refine blk_alloc ?_ _)); refine blk_put (cs := #[.slice Ao27 t325.length co27, .slice none 0 0, .int .i64 0]) ?_ 1 _ rfl; (with_reducible repeat (first | refine blk_drewN ?_ _ | refine blk_drew ?_ | refine blk_alloc ?_ _)); refine blk_put (cs := #[.slice none 0 0, .slice none 0 0, .int .i64 0]) ?_ 0 _ rfl; (with_reducible repeat (first | refine blk_drewN ?_ _ | refine blk_drew ?_ | refine blk_alloc ?_ _)); exact BK332.out) hb); have n8_ := Aside0.mk (below_step (by repeat (first | (with_reducible first | exact HB.out | apply below_alloc | apply pw_below_drewN | apply below_drew1 | refine below_set ?_ GE321.out | refine below_set ?_ GE332.out) | exact HB.out)) hb); clear HO313; clear HO316; clear HO319; clear HO324; clear HO327; clear HO330; clear BK321; clear BK332; clear HB; have HO313 := n0_; have HO316 := n1_; have HO319 := n2_; have HO324 := n3_; have HO327 := n4_; have HO330 := n5_; have BK321 := n6_; have BK332 := n7_; have HB := n8_; clear n0_ n1_ n2_ n3_ n4_ n5_ n6_ n7_ n8_; (try clear hb); (try clear hb2); (try clear hk); (try clear hi)) | ((with_reducible refine gate_callee (f := 15) rfl ?_); refine goesL_ (some 33) rfl rfl Try.func15 (by kernel_rfl) rfl #[.slice A0 l0.length c0] rfl (by (try simp only [List.map_toArray, List.map_cons, List.map_nil]); first | done | rfl | (simp only [List.length_drop, List.length_take]; rfl)) ?_; (with_reducible refine (laws_toHeldS.calls k _ _ l0 t334 _ ?side1 ?side2 A11.out).mono ?_); (case side1 => repeat (first | exact (Kd.C_below HR0.out HB.out) | (with_reducible refine Kd.C_alloc ?_ _) | (with_reducible refine Kd.C_drewN ?_ _) | (with_reducible refine Kd.C_drew ?_))); (case side2 => exact HC0.out); rintro e w33 ⟨v335, rfl, ho0, hb⟩; refine ⟨_, rfl, ?_⟩; have n0_ := Aside0.mk (Kd.R_elder' (by (with_reducible repeat (first | apply Kd.R_alloc | apply Kd.R_drewN | apply Kd.R_drew)); exact HO313.out) (Kd.R_base ho0) hb); have n1_ := Aside0.mk (Kd.R_elder' (by (with_reducible repeat (first | apply Kd.R_alloc | apply Kd.R_drewN | apply Kd.R_drew)); exact HO316.out) (Kd.R_base ho0) hb); have n2_ := Aside0.mk (Kd.R_below (by (with_reducible repeat (first | apply Kd.R_alloc | apply Kd.R_drewN | apply Kd.R_drew)); exact HO319.out) hb); have n3_ := Aside0.mk (Kd.R_elder' (by (with_reducible repeat (first | apply Kd.R_alloc | apply Kd.R_drewN | apply Kd.R_drew)); exact HO324.out) (Kd.R_base ho0) hb); have n4_ := Aside0.mk (Kd.R_elder' (by (with_reducible repeat (first | apply Kd.R_alloc | apply Kd.R_drewN | apply Kd.R_drew)); exact HO327.out) (Kd.R_base ho0) hb); have n5_ := Aside0.mk (Kd.R_below (by (with_reducible repeat (first | apply Kd.R_alloc | apply Kd.R_drewN | apply Kd.R_drew)); exact HO330.out) hb); have n6_ := Aside0.mk (Kd.R_lower (Kd.R_new' (Kd.R_new' (Kd.R_new' (Kd.R_new' ho0 (Kd.R_lt (by (with_reducible repeat (first | apply Kd.R_alloc | apply Kd.R_drewN | apply Kd.R_drew)); exact HO313.out))) (Kd.R_lt (by (with_reducible repeat (first | apply Kd.R_alloc | apply Kd.R_drewN | apply Kd.R_drew)); exact HO316.out))) (Kd.R_lt (by (with_reducible repeat (first | apply Kd.R_alloc | apply Kd.R_drewN | apply Kd.R_drew)); exact HO324.out))) (Kd.R_lt (by (with_reducible repeat (first | apply Kd.R_alloc | apply Kd.R_drewN | apply Kd.R_drew)); exact HO327.out))) (below_size (by repeat (first | (with_reducible first | exact HB.out | apply below_alloc | apply pw_below_drewN | apply below_drew1 | refine below_set ?_ GE321.out | refine below_set ?_ GE332.out) | exact HB.out)))); have n7_ := Aside0.mk (blk_below (g := gb321) (o := .cells #[.slice Ao20 t314.length co20, .slice Ao22 t317.length co22, .int .i64 t320] 34 (0, 0)) (by (with_reducible repeat (first | refine blk_drewN ?_ _ | refine blk_drew ?_ | refine blk_alloc ?_ _)); exact BK321.out) hb); have n8_ := Aside0.mk (blk_below (g := gb332) (o := .cells #[.slice Ao27 t325.length co27, .slice Ao30 t328.length co30, .int .i64 t331] 34 (0, 0)) (by (with_reducible repeat (first | refine blk_drewN ?_ _ | refine blk_drew ?_ | refine blk_alloc ?_ _)); exact BK332.out) hb); have n9_ := Aside0.mk (below_step (by repeat (first | (with_reducible first | exact HB.out | apply below_alloc | apply pw_below_drewN | apply below_drew1 | refine below_set ?_ GE321.out | refine below_set ?_ GE332.out) | exact HB.out)) hb); clear HO313; clear HO316; clear HO319; clear HO324; clear HO327; clear HO330; clear BK321; clear BK332; clear HB; have HO313 := n0_; have HO316 := n1_; have HO319 := n2_; have HO324 := n3_; have HO327 := n4_; have HO330 := n5_; have HO336 := n6_; have BK321 := n7_; have BK332 := n8_; have HB := n9_; clear n0_ n1_ n2_ n3_ n4_ n5_ n6_ n7_ n8_ n9_; (try clear hb); (try clear hb2); (try clear hk); (try clear hi); (try clear ho0); obtain ⟨Ao34, co34, eo34⟩ := Kd.R_slice HO336.out; subst eo34) | ((with_reducible refine gate_callee (f := 18) rfl ?_); refine goesL_ (some 34) rfl rfl Try.func18 (by kernel_rfl) rfl #[.slice Ao24 t322.length co24, .slice Ao34 t334.length co34] rfl (by (try simp only [List.map_toArray, List.map_cons, List.map_nil]); first | done | rfl | (simp only [List.length_drop, List.length_take]; rfl)) ?_; (with_reducible refine (laws_eqHeldS.calls k _ _ t322 _ _ t334 true _ ?side1 ?side2 ?side3 ?side4 A12.out).mono ?_); (case side1 => repeat (first | exact (Kd.R_reads' HO324.out).2.2 | (with_reducible refine Kd.C_alloc ?_ _) | (with_reducible refine Kd.C_drewN ?_ _) | (with_reducible refine Kd.C_drew ?_))); (case side2 => exact (Kd.R_reads' HO324.out).2.1); (case side3 => repeat (first | exact (Kd.R_reads' HO336.out).2.2 | (with_reducible refine Kd.C_alloc ?_ _) | (with_reducible refine Kd.C_drewN ?_ _) | (with_reducible refine Kd.C_drew ?_))); (case side4 => exact (Kd.R_reads' HO336.out).2.1); rintro e w35 ⟨rfl, hb⟩; refine ⟨_, rfl, ?_⟩; have n0_ := Aside0.mk (Kd.R_below (by (with_reducible repeat (first | apply Kd.R_alloc | apply Kd.R_drewN | apply Kd.R_drew)); exact HO313.out) hb); have n1_ := Aside0.mk (Kd.R_below (by (with_reducible repeat (first | apply Kd.R_alloc | apply Kd.R_drewN | apply Kd.R_drew)); exact HO316.out) hb); have n2_ := Aside0.mk (Kd.R_below (by (with_reducible repeat (first | apply Kd.R_alloc | apply Kd.R_drewN | apply Kd.R_drew)); exact HO319.out) hb); have n3_ := Aside0.mk (Kd.R_below (by (with_reducible repeat (first | apply Kd.R_alloc | apply Kd.R_drewN | apply Kd.R_drew)); exact HO324.out) hb); have n4_ := Aside0.mk (Kd.R_below (by (with_reducible repeat (first | apply Kd.R_alloc | apply Kd.R_drewN | apply Kd.R_drew)); exact HO327.out) hb); have n5_ := Aside0.mk (Kd.R_below (by (with_reducible repeat (first | apply Kd.R_alloc | apply Kd.R_drewN | apply Kd.R_drew)); exact HO330.out) hb); have n6_ := Aside0.mk (Kd.R_below (by (with_reducible repeat (first | apply Kd.R_alloc | apply Kd.R_drewN | apply Kd.R_drew)); exact HO336.out) hb); have n7_ := Aside0.mk (blk_below (g := gb321) (o := .cells #[.slice Ao20 t314.length co20, .slice Ao22 t317.length co22, .int .i64 t320] 34 (0, 0)) (by (with_reducible repeat (first | refine blk_drewN ?_ _ | refine blk_drew ?_ | refine blk_alloc ?_ _)); exact BK321.out) hb); have n8_ := Aside0.mk (blk_below (g := gb332) (o := .cells #[.slice Ao27 t325.length co27, .slice Ao30 t328.length co30, .int .i64 t331] 34 (0, 0)) (by (with_reducible repeat (first | refine blk_drewN ?_ _ | refine blk_drew ?_ | refine blk_alloc ?_ _)); exact BK332.out) hb); have n9_ := Aside0.mk (below_step (by repeat (first | (with_reducible first | exact HB.out | apply below_alloc | apply pw_below_drewN | apply below_drew1 | refine below_set ?_ GE321.out | refine below_set ?_ GE332.out) | exact HB.out)) hb); clear HO313; clear HO316; clear HO319; clear HO324; clear HO327; clear HO330; clear HO336; clear BK321; clear BK332; clear HB; have HO313 := n0_; have HO316 := n1_; have HO319 := n2_; have HO324 := n3_; have HO327 := n4_; have HO330 := n5_; have HO336 := n6_; have BK321 := n7_; have BK332 := n8_; have HB := n9_; clear n0_ n1_ n2_ n3_ n4_ n5_ n6_ n7_ n8_ n9_; (try clear hb); (try clear hb2); (try clear hk); (try clear hi)) | ((with_reducible refine gate_callee (f := 19) rfl ?_); refine goesL_ (some 38) rfl rfl Try.func19 (by kernel_rfl) rfl #[.slice Ao24 t322.length co24, .int .i64 1] rfl (by (try simp only [List.map_toArray, List.map_cons, List.map_nil]); first | done | rfl | (simp only [List.length_drop, List.length_take]; rfl)) ?_; (with_reducible refine (laws_markHeldS.calls k (fun k_ => some k_ = (.slice Ao24 t322.length co24 : Value).ownBlock) (.slice Ao24 t322.length co24) t322 1 t338 t339 w _ ?side1 ?side2 A14.out).mono ?_); (case side1 => repeat (first | (with_reducible first | exact HB.out | apply below_alloc | apply pw_below_drewN | apply below_drew1 | refine below_set ?_ GE321.out | refine below_set ?_ GE332.out) | exact HB.out)); (case side2 => exact Kd.R_tight rfl HO324.out); rintro e w36 ⟨rfl, hy0, hb, hkp⟩; refine ⟨_, rfl, ?_⟩; have n0_ := Aside0.mk (Kd.R_mono (ok' := fun k_ => some k_ ≠ (.slice Ao20 t314.length co20 : Value).ownBlock ∧ some k_ ≠ (.slice Ao24 t322.length co24 : Value).ownBlock ∧ some k_ ≠ (.slice Ao27 t325.length co27 : Value).ownBlock ∧ some k_ ≠ (.slice Ao34 t334.length co34 : Value).ownBlock) (Kd.R_keptB (HO313.out) hkp (fun k_ hk_ hs_ => (hk_.1.1.2) hs_)) (fun k_ hk_ => ⟨hk_.1.1.1.1.2, hk_.1.1.1.2, hk_.1.1.2, hk_.1.2⟩)); have n1_ := Aside0.mk (Kd.R_mono (ok' := fun k_ => some k_ ≠ (.slice Ao17 t311.length co17 : Value).ownBlock ∧ some k_ ≠ (.slice Ao24 t322.length co24 : Value).ownBlock ∧ some k_ ≠ (.slice Ao27 t325.length co27 : Value).ownBlock ∧ some k_ ≠ (.slice Ao34 t334.length co34 : Value).ownBlock) (Kd.R_keptB (HO316.out) hkp (fun k_ hk_ hs_ => (hk_.1.1.2) hs_)) (fun k_ hk_ => ⟨hk_.1.1.1.1.2, hk_.1.1.1.2, hk_.1.1.2, hk_.1.2⟩)); have n2_ := Aside0.mk (Kd.R_mono (ok' := fun k_ => some k_ ≠ (.slice Ao30 t328.length co30 : Value).ownBlock) (Kd.R_keptB ((Kd.R_apart' HO319.out (Kd.R_typed HO324.out) (by decide))) hkp (fun k_ hk_ hs_ => (hk_.2) hs_)) (fun k_ hk_ => hk_.1.1.2)); have n3_ := Aside0.mk (blk_kept (by (with_reducible repeat (first | refine blk_drewN ?_ _ | refine blk_drew ?_ | refine blk_alloc ?_ _)); exact BK321.out) hkp (fun hs_ => (fun e_ => (Kd.R_ne HO324.out BK321.out (by decide)) e_) hs_)); have n4_ := Aside0.mk (Kd.R_reok rfl hy0 (fun k_ e_ => HO324.out.1 k_ e_)); have n5_ := Aside0.mk (Kd.R_mono (ok' := fun k_ => some k_ ≠ (.slice Ao17 t311.length co17 : Value).ownBlock ∧ some k_ ≠ (.slice Ao20 t314.length co20 : Value).ownBlock ∧ some k_ ≠ (.slice Ao24 t322.length co24 : Value).ownBlock ∧ some k_ ≠ (.slice Ao34 t334.length co34 : Value).ownBlock) (Kd.R_keptB (HO327.out) hkp (fun k_ hk_ hs_ => (hk_.1.2) hs_)) (fun k_ hk_ => ⟨hk_.1.1.1.1.2, hk_.1.1.1.2, hk_.1.1.2, hk_.1.2⟩)); have n6_ := Aside0.mk (Kd.R_mono (ok' := fun k_ => some k_ ≠ (.slice Ao22 t317.length co22 : Value).ownBlock) (Kd.R_keptB ((Kd.R_apart' HO330.out (Kd.R_typed HO324.out) (by decide))) hkp (fun k_ hk_ hs_ => (hk_.2) hs_)) (fun k_ hk_ => hk_.1.1.2)); have n7_ := Aside0.mk (blk_kept (by (with_reducible repeat (first | refine blk_drewN ?_ _ | refine blk_drew ?_ | refine blk_alloc ?_ _)); exact BK332.out) hkp (fun hs_ => (fun e_ => (Kd.R_ne HO324.out BK332.out (by decide)) e_) hs_)); have n8_ := Aside0.mk (Kd.R_mono (ok' := fun k_ => some k_ ≠ (.slice Ao17 t311.length co17 : Value).ownBlock ∧ some k_ ≠ (.slice Ao20 t314.length co20 : Value).ownBlock ∧ some k_ ≠ (.slice Ao24 t322.length co24 : Value).ownBlock ∧ some k_ ≠ (.slice Ao27 t325.length co27 : Value).ownBlock) (Kd.R_keptB (HO336.out) hkp (fun k_ hk_ hs_ => (hk_.1.2) hs_)) (fun k_ hk_ => ⟨hk_.1.1.1.1.2, hk_.1.1.1.2, hk_.1.1.2, hk_.1.2⟩)); have n9_ := Aside0.mk (hb); clear HO313; clear HO316; clear HO319; clear BK321; clear HO324; clear HO327; clear HO330; clear BK332; clear HO336; clear HB; have HO313 := n0_; have HO316 := n1_; have HO319 := n2_; have BK321 := n3_; have HO324 := n4_; have HO327 := n5_; have HO330 := n6_; have BK332 := n7_; have HO336 := n8_; have HB := n9_; clear n0_ n1_ n2_ n3_ n4_ n5_ n6_ n7_ n8_ n9_; (try clear hb); (try clear hkp); (try clear hy0)))
    (try simp only [Act.put, List.setIfInBounds_toArray, List.set_cons_zero, List.set_cons_succ])
    go_cut [46] (fun v46 wc => ∃ (kq : Nat) (x46_14 : Bool), v46 = .bool x46_14 ∧ Aside0 (laws_FnExactRibSweep.j0 kq l0 a1 x46_14 t314 t317 t320 t325 t328 t331 = some true) ∧ Aside0 (kq ≤ k) ∧ Aside0 (Kd.R k73 73 wc w.heap.size (fun k_ => some k_ ≠ ((.slice Ao27 t325.length co27) : Value).ownBlock) (.slice Ao20 t314.length co20) t314) ∧ Aside0 (Kd.R k42 42 wc w.heap.size (fun k_ => some k_ ≠ ((.slice Ao30 t328.length co30) : Value).ownBlock) (.slice Ao22 t317.length co22) t317) ∧ Aside0 (Kd.R k73 73 wc w.heap.size (fun k_ => some k_ ≠ ((.slice Ao20 t314.length co20) : Value).ownBlock) (.slice Ao27 t325.length co27) t325) ∧ Aside0 (Kd.R k42 42 wc w.heap.size (fun k_ => some k_ ≠ ((.slice Ao22 t317.length co22) : Value).ownBlock) (.slice Ao30 t328.length co30) t328) ∧ Aside0 (wc.heap[gb321]? = some (.cells #[(.slice Ao20 t314.length co20), (.slice Ao22 t317.length co22), .int .i64 t320] 34 (0, 0))) ∧ Aside0 (wc.heap[gb332]? = some (.cells #[(.slice Ao27 t325.length co27), (.slice Ao30 t328.length co30), .int .i64 t331] 34 (0, 0))) ∧ Aside0 (Below w.heap.size w wc))
    case first =>
     have H := HC15.out
     clear HC15
     by_cases c37 : t338 < 0
     ·rw [if_pos c37] at H
      have c37b0 : decide (t338 < 0) = true := decide_eq_true c37
      clear c37
      (first | rw [c37b0] | (simp only [i64_w, i32_w]; rw [c37b0]) | skip)
      have H' := Aside0.mk H
      clear H
      go_wp2
      go_meet
      case rel => exact ⟨_, (true), (by first | rfl | (simp; done) | (simp [*]; done)), H', ⟨by first | omega | exact Nat.le_refl _⟩, ⟨by (with_reducible repeat (first | apply Kd.R_alloc | apply Kd.R_drewN | apply Kd.R_drew)); exact Kd.R_mono HO316.out (fun _ hk => hk.2.2.1)⟩, ⟨by (with_reducible repeat (first | apply Kd.R_alloc | apply Kd.R_drewN | apply Kd.R_drew)); exact HO319.out⟩, ⟨by (with_reducible repeat (first | apply Kd.R_alloc | apply Kd.R_drewN | apply Kd.R_drew)); exact Kd.R_mono HO327.out (fun _ hk => hk.2.1)⟩, ⟨by (with_reducible repeat (first | apply Kd.R_alloc | apply Kd.R_drewN | apply Kd.R_drew)); exact HO330.out⟩, ⟨by (with_reducible repeat (first | refine blk_drewN ?_ _ | refine blk_drew ?_ | refine blk_alloc ?_ _)); exact BK321.out⟩, ⟨by (with_reducible repeat (first | refine blk_drewN ?_ _ | refine blk_drew ?_ | refine blk_alloc ?_ _)); exact BK332.out⟩, ⟨by repeat (first | (with_reducible first | exact HB.out | apply below_alloc | apply pw_below_drewN | apply below_drew1 | refine below_set ?_ GE321.out | refine below_set ?_ GE332.out) | exact HB.out)⟩⟩
     ·rw [if_neg c37] at H
      have c37b0 : decide (t338 < 0) = false := decide_eq_false c37
      clear c37
      (first | rw [c37b0] | (simp only [i64_w, i32_w]; rw [c37b0]) | skip)
      replace H := Option.bind_eq_some_iff.mp H
      obtain ⟨t340, A380, H⟩ := H
      replace H : (laws_FnExactRibSweep.j0 k l0 a1 (!t340) t314 t317 t320 t325 t328 t331) = some true := H
      have A38 := Aside0.mk A380
      clear A380
      have H' := Aside0.mk H
      clear H
      have hnb39 := NB332_321.out
      have hnc39 := NB321_332.out
      have hcz40_0 : w36.cell? ⟨gb332, 0, none⟩ = some (.slice Ao27 t325.length co27) := (blk_cell BK332.out 0).trans rfl
      have hcz40_1 : w36.cell? ⟨gb332, 1, none⟩ = some (.slice Ao30 t328.length co30) := (blk_cell BK332.out 1).trans rfl
      have hcz40_2 : w36.cell? ⟨gb332, 2, none⟩ = some (.int .i64 t331) := (blk_cell BK332.out 2).trans rfl
      have hfz40_0 := blk_frozen BK332.out 0
      have hfz40_1 := blk_frozen BK332.out 1
      have hfz40_2 := blk_frozen BK332.out 2
      have hcz41_0 : w36.cell? ⟨gb321, 0, none⟩ = some (.slice Ao20 t314.length co20) := (blk_cell BK321.out 0).trans rfl
      have hcz41_1 : w36.cell? ⟨gb321, 1, none⟩ = some (.slice Ao22 t317.length co22) := (blk_cell BK321.out 1).trans rfl
      have hcz41_2 : w36.cell? ⟨gb321, 2, none⟩ = some (.int .i64 t320) := (blk_cell BK321.out 2).trans rfl
      have hfz41_0 := blk_frozen BK321.out 0
      have hfz41_1 := blk_frozen BK321.out 1
      have hfz41_2 := blk_frozen BK321.out 2
      go_wp2_with (first | (go_at_call 24; (with_reducible refine (laws_eqRibOut.calls k _ _ t325 _ _ t328 t331 _ _ t314 _ _ t317 t320 t340 _ ?side1 ?side2 ?side3 ?side4 ?side5 ?side6 ?side7 ?side8 A38.out).mono ?_); (case side1 => repeat (first | exact (Kd.R_reads' HO327.out).2.2 | (with_reducible refine Kd.C_alloc ?_ _) | (with_reducible refine Kd.C_drewN ?_ _) | (with_reducible refine Kd.C_drew ?_))); (case side2 => exact (Kd.R_reads' HO327.out).2.1); (case side3 => repeat (first | exact (Kd.R_reads' HO330.out).2.2 | (with_reducible refine Kd.C_alloc ?_ _) | (with_reducible refine Kd.C_drewN ?_ _) | (with_reducible refine Kd.C_drew ?_))); (case side4 => exact (Kd.R_reads' HO330.out).2.1); (case side5 => repeat (first | exact (Kd.R_reads' HO316.out).2.2 | (with_reducible refine Kd.C_alloc ?_ _) | (with_reducible refine Kd.C_drewN ?_ _) | (with_reducible refine Kd.C_drew ?_))); (case side6 => exact (Kd.R_reads' HO316.out).2.1); (case side7 => repeat (first | exact (Kd.R_reads' HO319.out).2.2 | (with_reducible refine Kd.C_alloc ?_ _) | (with_reducible refine Kd.C_drewN ?_ _) | (with_reducible refine Kd.C_drew ?_))); (case side8 => exact (Kd.R_reads' HO319.out).2.1); rintro e w42 ⟨rfl, hb⟩; have n0_ := Aside0.mk (Kd.R_below (by (with_reducible repeat (first | apply Kd.R_alloc | apply Kd.R_drewN | apply Kd.R_drew)); exact HO313.out) hb); have n1_ := Aside0.mk (Kd.R_below (by (with_reducible repeat (first | apply Kd.R_alloc | apply Kd.R_drewN | apply Kd.R_drew)); exact HO316.out) hb); have n2_ := Aside0.mk (Kd.R_below (by (with_reducible repeat (first | apply Kd.R_alloc | apply Kd.R_drewN | apply Kd.R_drew)); exact HO319.out) hb); have n3_ := Aside0.mk (Kd.R_below (by (with_reducible repeat (first | apply Kd.R_alloc | apply Kd.R_drewN | apply Kd.R_drew)); exact HO324.out) hb); have n4_ := Aside0.mk (Kd.R_below (by (with_reducible repeat (first | apply Kd.R_alloc | apply Kd.R_drewN | apply Kd.R_drew)); exact HO327.out) hb); have n5_ := Aside0.mk (Kd.R_below (by (with_reducible repeat (first | apply Kd.R_alloc | apply Kd.R_drewN | apply Kd.R_drew)); exact HO330.out) hb); have n6_ := Aside0.mk (Kd.R_below (by (with_reducible repeat (first | apply Kd.R_alloc | apply Kd.R_drewN | apply Kd.R_drew)); exact HO336.out) hb); have n7_ := Aside0.mk (blk_below (g := gb321) (o := .cells #[.slice Ao20 t314.length co20, .slice Ao22 t317.length co22, .int .i64 t320] 34 (0, 0)) (by (with_reducible repeat (first | refine blk_drewN ?_ _ | refine blk_drew ?_ | refine blk_alloc ?_ _)); exact BK321.out) hb); have n8_ := Aside0.mk (blk_below (g := gb332) (o := .cells #[.slice Ao27 t325.length co27, .slice Ao30 t328.length co30, .int .i64 t331] 34 (0, 0)) (by (with_reducible repeat (first | refine blk_drewN ?_ _ | refine blk_drew ?_ | refine blk_alloc ?_ _)); exact BK332.out) hb); have n9_ := Aside0.mk (below_step (by repeat (first | (with_reducible first | exact HB.out | apply below_alloc | apply pw_below_drewN | apply below_drew1 | refine below_set ?_ GE321.out | refine below_set ?_ GE332.out) | exact HB.out)) hb); clear HO313; clear HO316; clear HO319; clear HO324; clear HO327; clear HO330; clear HO336; clear BK321; clear BK332; clear HB; have HO313 := n0_; have HO316 := n1_; have HO319 := n2_; have HO324 := n3_; have HO327 := n4_; have HO330 := n5_; have HO336 := n6_; have BK321 := n7_; have BK332 := n8_; have HB := n9_; clear n0_ n1_ n2_ n3_ n4_ n5_ n6_ n7_ n8_ n9_; (try clear hb); (try clear hb2); (try clear hk); (try clear hi)))
      go_meet
      case rel => exact ⟨_, (!t340), (by first | rfl | (simp; done) | (simp [*]; done)), H', ⟨by first | omega | exact Nat.le_refl _⟩, ⟨by (with_reducible repeat (first | apply Kd.R_alloc | apply Kd.R_drewN | apply Kd.R_drew)); exact Kd.R_mono HO316.out (fun _ hk => hk.2.2.1)⟩, ⟨by (with_reducible repeat (first | apply Kd.R_alloc | apply Kd.R_drewN | apply Kd.R_drew)); exact HO319.out⟩, ⟨by (with_reducible repeat (first | apply Kd.R_alloc | apply Kd.R_drewN | apply Kd.R_drew)); exact Kd.R_mono HO327.out (fun _ hk => hk.2.1)⟩, ⟨by (with_reducible repeat (first | apply Kd.R_alloc | apply Kd.R_drewN | apply Kd.R_drew)); exact HO330.out⟩, ⟨by (with_reducible repeat (first | refine blk_drewN ?_ _ | refine blk_drew ?_ | refine blk_alloc ?_ _)); exact BK321.out⟩, ⟨by (with_reducible repeat (first | refine blk_drewN ?_ _ | refine blk_drew ?_ | refine blk_alloc ?_ _)); exact BK332.out⟩, ⟨by repeat (first | (with_reducible first | exact HB.out | apply below_alloc | apply pw_below_drewN | apply below_drew1 | refine below_set ?_ GE321.out | refine below_set ?_ GE332.out) | exact HB.out)⟩⟩
    case rest =>
     clear HC15
     try clear c1
     try clear c2
     try clear p2
     try clear c3
     try clear c4
     try clear c4b0
     try clear c5
     try clear c10
     try clear c13
     try clear c15
     try clear c18
     try clear c19
     try clear c24
     try clear c27
     try clear c28
     try clear c37
     try clear c37b0
     try clear c39
     try clear hcz21_0
     try clear hcz21_1
     try clear hcz21_2
     try clear hcz29_0
     try clear hcz29_1
     try clear hcz29_2
     try clear hcz31_0
     try clear hcz31_1
     try clear hcz31_2
     try clear hcz40_0
     try clear hcz40_1
     try clear hcz40_2
     try clear hcz41_0
     try clear hcz41_1
     try clear hcz41_2
     try clear hfz21_0
     try clear hfz21_1
     try clear hfz21_2
     try clear hfz29_0
     try clear hfz29_1
     try clear hfz29_2
     try clear hfz31_0
     try clear hfz31_1
     try clear hfz31_2
     try clear hfz40_0
     try clear hfz40_1
     try clear hfz40_2
     try clear hfz41_0
     try clear hfz41_1
     try clear hfz41_2
     obtain ⟨kq, x46_14, rfl, HA, HJ14, HO_322000, HO_322001, HO_333000, HO_333001, BK321, BK332, HB⟩ := hcut
     cases kq with
     | zero => exact absurd HA.out (by simp [laws_FnExactRibSweep.j0])
     | succ kj14 =>
      have H := HA.out
      clear HA
      simp only [laws_FnExactRibSweep.j0] at H
      by_cases c43 : x46_14 = true
      ·subst c43
       have H1 : (some false) = some true := by rw [if_pos rfl] at H; exact H
       clear H
       have H := H1
       clear H1
       exact absurd (Option.some.inj H) (by decide)
      ·replace c43 := Bool.eq_false_iff.mpr c43
       subst c43
       have H1 : ((laws_markRibOut.f kj14 t325 t328 t331 1).bind fun bt341 => ((laws_heldRibOut.f kj14 bt341.2.1 bt341.2.2 t331 1).bind fun t344 => (if t344 < 0 then (some false) else (if t344 = bt341.1 then ((laws_toHeldS.f kj14 l0).bind fun t345 => ((impl_RibSweep.f kj14 t345 a1).bind fun bt348 => ((laws_eqRibOut.f kj14 bt348.1 bt348.2.1 bt348.2.2 t314 t317 t320).bind fun t356 => (if t356 = true then ((laws_heldRibOut.f kj14 bt341.2.1 bt341.2.2 t331 1).bind fun t357 => (if t357 < 0 then (some false) else (if t357 = bt341.1 then (some true) else (some false)))) else (some false))))) else (some false))))) = some true := by rw [if_neg (show ¬ (false = true) by decide)] at H; exact H
       clear H
       have H := H1
       clear H1
       replace H := Option.bind_eq_some_iff.mp H
       obtain ⟨⟨t341, t342, t343⟩, A440, H⟩ := H
       replace H : ((laws_heldRibOut.f kj14 t342 t343 t331 1).bind fun t344 => (if t344 < 0 then (some false) else (if t344 = t341 then ((laws_toHeldS.f kj14 l0).bind fun t345 => ((impl_RibSweep.f kj14 t345 a1).bind fun bt348 => ((laws_eqRibOut.f kj14 bt348.1 bt348.2.1 bt348.2.2 t314 t317 t320).bind fun t356 => (if t356 = true then ((laws_heldRibOut.f kj14 t342 t343 t331 1).bind fun t357 => (if t357 < 0 then (some false) else (if t357 = t341 then (some true) else (some false)))) else (some false))))) else (some false)))) = some true := H
       have A44 := Aside0.mk A440
       clear A440
       replace H := Option.bind_eq_some_iff.mp H
       obtain ⟨t344, A450, H⟩ := H
       replace H : (if t344 < 0 then (some false) else (if t344 = t341 then ((laws_toHeldS.f kj14 l0).bind fun t345 => ((impl_RibSweep.f kj14 t345 a1).bind fun bt348 => ((laws_eqRibOut.f kj14 bt348.1 bt348.2.1 bt348.2.2 t314 t317 t320).bind fun t356 => (if t356 = true then ((laws_heldRibOut.f kj14 t342 t343 t331 1).bind fun t357 => (if t357 < 0 then (some false) else (if t357 = t341 then (some true) else (some false)))) else (some false))))) else (some false))) = some true := H
       have A45 := Aside0.mk A450
       clear A450
       by_cases c46 : t344 < 0
       ·rw [if_pos c46] at H
        have c46b0 : decide (t344 < 0) = true := decide_eq_true c46
        clear c46
        exact absurd (Option.some.inj H) (by decide)
       ·rw [if_neg c46] at H
        have c46b0 : decide (t344 < 0) = false := decide_eq_false c46
        clear c46
        by_cases c52 : t344 = t341
        ·rw [if_pos c52] at H
         have c52b0 : (t344 == t341) = true := beq_iff_eq.mpr c52
         have c52b1 : (t344 != t341) = false := bne_eq_false_iff_eq.mpr c52
         clear c52
         replace H := Option.bind_eq_some_iff.mp H
         obtain ⟨t345, A530, H⟩ := H
         replace H : ((impl_RibSweep.f kj14 t345 a1).bind fun bt348 => ((laws_eqRibOut.f kj14 bt348.1 bt348.2.1 bt348.2.2 t314 t317 t320).bind fun t356 => (if t356 = true then ((laws_heldRibOut.f kj14 t342 t343 t331 1).bind fun t357 => (if t357 < 0 then (some false) else (if t357 = t341 then (some true) else (some false)))) else (some false)))) = some true := H
         have A53 := Aside0.mk A530
         clear A530
         replace H := Option.bind_eq_some_iff.mp H
         obtain ⟨⟨t348, t351, t354⟩, A540, H⟩ := H
         replace H : ((laws_eqRibOut.f kj14 t348 t351 t354 t314 t317 t320).bind fun t356 => (if t356 = true then ((laws_heldRibOut.f kj14 t342 t343 t331 1).bind fun t357 => (if t357 < 0 then (some false) else (if t357 = t341 then (some true) else (some false)))) else (some false))) = some true := H
         have A54 := Aside0.mk A540
         clear A540
         replace H := Option.bind_eq_some_iff.mp H
         obtain ⟨t356, A550, H⟩ := H
         replace H : (if t356 = true then ((laws_heldRibOut.f kj14 t342 t343 t331 1).bind fun t357 => (if t357 < 0 then (some false) else (if t357 = t341 then (some true) else (some false)))) else (some false)) = some true := H
         have A55 := Aside0.mk A550
         clear A550
         by_cases c56 : t356 = true
         ·subst c56
          have H1 : ((laws_heldRibOut.f kj14 t342 t343 t331 1).bind fun t357 => (if t357 < 0 then (some false) else (if t357 = t341 then (some true) else (some false)))) = some true := by rw [if_pos rfl] at H; exact H
          clear H
          have H := H1
          clear H1
          replace H := Option.bind_eq_some_iff.mp H
          obtain ⟨t357, A570, H⟩ := H
          replace H : (if t357 < 0 then (some false) else (if t357 = t341 then (some true) else (some false))) = some true := H
          have A57 := Aside0.mk A570
          clear A570
          by_cases c58 : t357 < 0
          ·rw [if_pos c58] at H
           have c58b0 : decide (t357 < 0) = true := decide_eq_true c58
           clear c58
           exact absurd (Option.some.inj H) (by decide)
          ·rw [if_neg c58] at H
           have c58b0 : decide (t357 < 0) = false := decide_eq_false c58
           clear c58
           by_cases c77 : t357 = t341
           ·rw [if_pos c77] at H
            have c77b0 : (t357 == t341) = true := beq_iff_eq.mpr c77
            have c77b1 : (t357 != t341) = false := bne_eq_false_iff_eq.mpr c77
            clear c77
            clear H
            have hnb78 := NB332_321.out
            have hnc78 := NB321_332.out
            have hcz79_0 : wc.cell? ⟨gb332, 0, none⟩ = some (.slice Ao27 t325.length co27) := (blk_cell BK332.out 0).trans rfl
            have hcz79_1 : wc.cell? ⟨gb332, 1, none⟩ = some (.slice Ao30 t328.length co30) := (blk_cell BK332.out 1).trans rfl
            have hcz79_2 : wc.cell? ⟨gb332, 2, none⟩ = some (.int .i64 t331) := (blk_cell BK332.out 2).trans rfl
            have hfz79_0 := blk_frozen BK332.out 0
            have hfz79_1 := blk_frozen BK332.out 1
            have hfz79_2 := blk_frozen BK332.out 2
            go_wp2_with (first | ((with_reducible refine gate_callee (f := 25) rfl ?_); refine goesL_ (some 49) rfl rfl Try.func25 (by kernel_rfl) rfl #[.agg #[.slice Ao27 t325.length co27, .slice Ao30 t328.length co30, .int .i64 t331], .int .i64 1] rfl (by (try simp only [List.map_toArray, List.map_cons, List.map_nil]); first | done | rfl | (simp only [List.length_drop, List.length_take]; rfl)) ?_; (with_reducible refine (laws_markRibOut.calls kj14 (fun k_ => some k_ = (.slice Ao27 t325.length co27 : Value).ownBlock) (.slice Ao27 t325.length co27) t325 (fun k_ => some k_ = (.slice Ao30 t328.length co30 : Value).ownBlock) (.slice Ao30 t328.length co30) t328 t331 1 t341 t342 t343 w _ ?side1 ?side2 ?side3 A44.out).mono ?_); (case side1 => repeat (first | (with_reducible first | exact HB.out | apply below_alloc | apply pw_below_drewN | apply below_drew1 | refine below_set ?_ GE321.out | refine below_set ?_ GE332.out) | exact HB.out)); (case side2 => exact Kd.R_tight rfl HO_333000.out); (case side3 => exact Kd.R_tight rfl HO_333001.out); rintro e w80 ⟨rfl, hy0, hy1, hb, hkp⟩; refine ⟨_, rfl, ?_⟩; have n0_ := Aside0.mk (Kd.R_mono (ok' := fun k_ => some k_ ≠ (.slice Ao27 t325.length co27 : Value).ownBlock) (Kd.R_keptB ((Kd.R_apart' HO_322000.out (Kd.R_typed HO_333001.out) (by decide))) hkp (fun k_ hk_ hs_ => Or.elim hs_ (fun e_ => (hk_.1) e_) (fun e_ => (hk_.2) e_))) (fun k_ hk_ => hk_.1.1)); have n1_ := Aside0.mk (Kd.R_mono (ok' := fun k_ => some k_ ≠ (.slice Ao30 t328.length co30 : Value).ownBlock) (Kd.R_keptB ((Kd.R_apart' HO_322001.out (Kd.R_typed HO_333000.out) (by decide))) hkp (fun k_ hk_ hs_ => Or.elim hs_ (fun e_ => (hk_.2) e_) (fun e_ => (hk_.1) e_))) (fun k_ hk_ => hk_.1.1)); have n2_ := Aside0.mk (Kd.R_reok rfl hy0 (fun k_ e_ => HO_333000.out.1 k_ e_)); have n3_ := Aside0.mk (Kd.R_reok rfl hy1 (fun k_ e_ => HO_333001.out.1 k_ e_)); have n4_ := Aside0.mk (blk_kept (by (with_reducible repeat (first | refine blk_drewN ?_ _ | refine blk_drew ?_ | refine blk_alloc ?_ _)); exact BK321.out) hkp (fun hs_ => Or.elim hs_ (fun e_ => (fun e_ => (Kd.R_ne HO_333000.out BK321.out (by decide)) e_) e_) (fun e_ => (fun e_ => (Kd.R_ne HO_333001.out BK321.out (by decide)) e_) e_))); have n5_ := Aside0.mk (blk_kept (by (with_reducible repeat (first | refine blk_drewN ?_ _ | refine blk_drew ?_ | refine blk_alloc ?_ _)); exact BK332.out) hkp (fun hs_ => Or.elim hs_ (fun e_ => (fun e_ => (Kd.R_ne HO_333000.out BK332.out (by decide)) e_) e_) (fun e_ => (fun e_ => (Kd.R_ne HO_333001.out BK332.out (by decide)) e_) e_))); have n6_ := Aside0.mk (hb); clear HO_322000; clear HO_322001; clear HO_333000; clear HO_333001; clear BK321; clear BK332; clear HB; have HO_322000 := n0_; have HO_322001 := n1_; have HO_333000 := n2_; have HO_333001 := n3_; have BK321 := n4_; have BK332 := n5_; have HB := n6_; clear n0_ n1_ n2_ n3_ n4_ n5_ n6_; (try clear hb); (try clear hkp); (try clear hy0); (try clear hy1); have hcz81_0 : w80.cell? ⟨gb332, 0, none⟩ = some (.slice Ao27 t325.length co27) := (blk_cell BK332.out 0).trans rfl; have hcz81_1 : w80.cell? ⟨gb332, 1, none⟩ = some (.slice Ao30 t328.length co30) := (blk_cell BK332.out 1).trans rfl; have hcz81_2 : w80.cell? ⟨gb332, 2, none⟩ = some (.int .i64 t331) := (blk_cell BK332.out 2).trans rfl; have hfz81_0 := blk_frozen BK332.out 0; have hfz81_1 := blk_frozen BK332.out 1; have hfz81_2 := blk_frozen BK332.out 2) | ((with_reducible refine gate_callee (f := 26) rfl ?_); refine goesL_ (some 52) rfl rfl Try.func26 (by kernel_rfl) rfl #[.agg #[.slice Ao27 t342.length co27, .slice Ao30 t343.length co30, .int .i64 t331], .int .i64 1] rfl (by (try simp only [List.map_toArray, List.map_cons, List.map_nil]); first | done | (rw [show t342.length = t325.length from (Kd.R_reads' HO_333000.out).1.symm, show t343.length = t328.length from (Kd.R_reads' HO_333001.out).1.symm] <;> rfl) | rfl | (simp only [List.length_drop, List.length_take]; rfl)) ?_; (with_reducible refine (laws_heldRibOut.calls kj14 _ _ t342 _ _ t343 t331 1 t344 _ ?side1 ?side2 ?side3 ?side4 A45.out).mono ?_); (case side1 => repeat (first | exact (Kd.R_reads' HO_333000.out).2.2 | (with_reducible refine Kd.C_alloc ?_ _) | (with_reducible refine Kd.C_drewN ?_ _) | (with_reducible refine Kd.C_drew ?_))); (case side2 => rw [show t342.length = t325.length from (Kd.R_reads' HO_333000.out).1.symm]; exact (Kd.R_reads' HO_333000.out).2.1); (case side3 => repeat (first | exact (Kd.R_reads' HO_333001.out).2.2 | (with_reducible refine Kd.C_alloc ?_ _) | (with_reducible refine Kd.C_drewN ?_ _) | (with_reducible refine Kd.C_drew ?_))); (case side4 => rw [show t343.length = t328.length from (Kd.R_reads' HO_333001.out).1.symm]; exact (Kd.R_reads' HO_333001.out).2.1); rintro e w82 ⟨rfl, hb⟩; refine ⟨_, rfl, ?_⟩; have n0_ := Aside0.mk (Kd.R_below (by (with_reducible repeat (first | apply Kd.R_alloc | apply Kd.R_drewN | apply Kd.R_drew)); exact HO_322000.out) hb); have n1_ := Aside0.mk (Kd.R_below (by (with_reducible repeat (first | apply Kd.R_alloc | apply Kd.R_drewN | apply Kd.R_drew)); exact HO_322001.out) hb); have n2_ := Aside0.mk (Kd.R_below (by (with_reducible repeat (first | apply Kd.R_alloc | apply Kd.R_drewN | apply Kd.R_drew)); exact HO_333000.out) hb); have n3_ := Aside0.mk (Kd.R_below (by (with_reducible repeat (first | apply Kd.R_alloc | apply Kd.R_drewN | apply Kd.R_drew)); exact HO_333001.out) hb); have n4_ := Aside0.mk (blk_below (g := gb321) (o := .cells #[.slice Ao20 t314.length co20, .slice Ao22 t317.length co22, .int .i64 t320] 34 (0, 0)) (by (with_reducible repeat (first | refine blk_drewN ?_ _ | refine blk_drew ?_ | refine blk_alloc ?_ _)); exact BK321.out) hb); have n5_ := Aside0.mk (blk_below (g := gb332) (o := .cells #[.slice Ao27 t325.length co27, .slice Ao30 t328.length co30, .int .i64 t331] 34 (0, 0)) (by (with_reducible repeat (first | refine blk_drewN ?_ _ | refine blk_drew ?_ | refine blk_alloc ?_ _)); exact BK332.out) hb); have n6_ := Aside0.mk (below_step (by repeat (first | (with_reducible first | exact HB.out | apply below_alloc | apply pw_below_drewN | apply below_drew1 | refine below_set ?_ GE321.out | refine below_set ?_ GE332.out) | exact HB.out)) hb); clear HO_322000; clear HO_322001; clear HO_333000; clear HO_333001; clear BK321; clear BK332; clear HB; have HO_322000 := n0_; have HO_322001 := n1_; have HO_333000 := n2_; have HO_333001 := n3_; have BK321 := n4_; have BK332 := n5_; have HB := n6_; clear n0_ n1_ n2_ n3_ n4_ n5_ n6_; (try clear hb); (try clear hb2); (try clear hk); (try clear hi)) | ((with_reducible refine gate_callee (f := 15) rfl ?_); refine goesL_ (some 59) rfl rfl Try.func15 (by kernel_rfl) rfl #[.slice A0 l0.length c0] rfl (by (try simp only [List.map_toArray, List.map_cons, List.map_nil]); first | done | rfl | (simp only [List.length_drop, List.length_take]; rfl)) ?_; (with_reducible refine (laws_toHeldS.calls kj14 _ _ l0 t345 _ ?side1 ?side2 A53.out).mono ?_); (case side1 => repeat (first | exact (Kd.C_below HR0.out HB.out) | (with_reducible refine Kd.C_alloc ?_ _) | (with_reducible refine Kd.C_drewN ?_ _) | (with_reducible refine Kd.C_drew ?_))); (case side2 => exact HC0.out); rintro e w83 ⟨v346, rfl, ho0, hb⟩; refine ⟨_, rfl, ?_⟩; have n0_ := Aside0.mk (Kd.R_elder' (by (with_reducible repeat (first | apply Kd.R_alloc | apply Kd.R_drewN | apply Kd.R_drew)); exact HO_322000.out) (Kd.R_base ho0) hb); have n1_ := Aside0.mk (Kd.R_below (by (with_reducible repeat (first | apply Kd.R_alloc | apply Kd.R_drewN | apply Kd.R_drew)); exact HO_322001.out) hb); have n2_ := Aside0.mk (Kd.R_elder' (by (with_reducible repeat (first | apply Kd.R_alloc | apply Kd.R_drewN | apply Kd.R_drew)); exact HO_333000.out) (Kd.R_base ho0) hb); have n3_ := Aside0.mk (Kd.R_below (by (with_reducible repeat (first | apply Kd.R_alloc | apply Kd.R_drewN | apply Kd.R_drew)); exact HO_333001.out) hb); have n4_ := Aside0.mk (Kd.R_lower (Kd.R_new' (Kd.R_new' ho0 (Kd.R_lt (by (with_reducible repeat (first | apply Kd.R_alloc | apply Kd.R_drewN | apply Kd.R_drew)); exact HO_322000.out))) (Kd.R_lt (by (with_reducible repeat (first | apply Kd.R_alloc | apply Kd.R_drewN | apply Kd.R_drew)); exact HO_333000.out))) (below_size (by repeat (first | (with_reducible first | exact HB.out | apply below_alloc | apply pw_below_drewN | apply below_drew1 | refine below_set ?_ GE321.out | refine below_set ?_ GE332.out) | exact HB.out)))); have n5_ := Aside0.mk (blk_below (g := gb321) (o := .cells #[.slice Ao20 t314.length co20, .slice Ao22 t317.length co22, .int .i64 t320] 34 (0, 0)) (by (with_reducible repeat (first | refine blk_drewN ?_ _ | refine blk_drew ?_ | refine blk_alloc ?_ _)); exact BK321.out) hb); have n6_ := Aside0.mk (blk_below (g := gb332) (o := .cells #[.slice Ao27 t325.length co27, .slice Ao30 t328.length co30, .int .i64 t331] 34 (0, 0)) (by (with_reducible repeat (first | refine blk_drewN ?_ _ | refine blk_drew ?_ | refine blk_alloc ?_ _)); exact BK332.out) hb); have n7_ := Aside0.mk (below_step (by repeat (first | (with_reducible first | exact HB.out | apply below_alloc | apply pw_below_drewN | apply below_drew1 | refine below_set ?_ GE321.out | refine below_set ?_ GE332.out) | exact HB.out)) hb); clear HO_322000; clear HO_322001; clear HO_333000; clear HO_333001; clear BK321; clear BK332; clear HB; have HO_322000 := n0_; have HO_322001 := n1_; have HO_333000 := n2_; have HO_333001 := n3_; have HO347 := n4_; have BK321 := n5_; have BK332 := n6_; have HB := n7_; clear n0_ n1_ n2_ n3_ n4_ n5_ n6_ n7_; (try clear hb); (try clear hb2); (try clear hk); (try clear hi); (try clear ho0); obtain ⟨Ao84, co84, eo84⟩ := Kd.R_slice HO347.out; subst eo84) | ((with_reducible refine gate_callee (f := 28) rfl ?_); refine goesL_ (some 61) rfl rfl Try.func28 (by kernel_rfl) rfl #[.slice Ao84 t345.length co84, .int .i64 a1] rfl (by (try simp only [List.map_toArray, List.map_cons, List.map_nil]); first | done | rfl | (simp only [List.length_drop, List.length_take]; rfl)) ?_; (with_reducible refine (impl_RibSweep.calls kj14 _ _ t345 a1 t348 t351 t354 _ ?side1 ?side2 A54.out).mono ?_); (case side1 => repeat (first | exact (Kd.R_reads' HO347.out).2.2 | (with_reducible refine Kd.C_alloc ?_ _) | (with_reducible refine Kd.C_drewN ?_ _) | (with_reducible refine Kd.C_drew ?_))); (case side2 => exact (Kd.R_reads' HO347.out).2.1); rintro e w85 ⟨v349, v352, rfl, ho0, ho1, hb⟩; refine ⟨_, rfl, ?_⟩; have n0_ := Aside0.mk (Kd.R_elder' (by (with_reducible repeat (first | apply Kd.R_alloc | apply Kd.R_drewN | apply Kd.R_drew)); exact HO_322000.out) (Kd.R_base ho0) hb); have n1_ := Aside0.mk (Kd.R_elder' (by (with_reducible repeat (first | apply Kd.R_alloc | apply Kd.R_drewN | apply Kd.R_drew)); exact HO_322001.out) (Kd.R_base ho1) hb); have n2_ := Aside0.mk (Kd.R_elder' (by (with_reducible repeat (first | apply Kd.R_alloc | apply Kd.R_drewN | apply Kd.R_drew)); exact HO_333000.out) (Kd.R_base ho0) hb); have n3_ := Aside0.mk (Kd.R_elder' (by (with_reducible repeat (first | apply Kd.R_alloc | apply Kd.R_drewN | apply Kd.R_drew)); exact HO_333001.out) (Kd.R_base ho1) hb); have n4_ := Aside0.mk (Kd.R_elder' (by (with_reducible repeat (first | apply Kd.R_alloc | apply Kd.R_drewN | apply Kd.R_drew)); exact HO347.out) (Kd.R_base ho0) hb); have n5_ := Aside0.mk (Kd.R_lower (Kd.R_new' (Kd.R_new' (Kd.R_new' ho0 (Kd.R_lt (by (with_reducible repeat (first | apply Kd.R_alloc | apply Kd.R_drewN | apply Kd.R_drew)); exact HO_322000.out))) (Kd.R_lt (by (with_reducible repeat (first | apply Kd.R_alloc | apply Kd.R_drewN | apply Kd.R_drew)); exact HO_333000.out))) (Kd.R_lt (by (with_reducible repeat (first | apply Kd.R_alloc | apply Kd.R_drewN | apply Kd.R_drew)); exact HO347.out))) (below_size (by repeat (first | (with_reducible first | exact HB.out | apply below_alloc | apply pw_below_drewN | apply below_drew1 | refine below_set ?_ GE321.out | refine below_set ?_ GE332.out) | exact HB.out)))); have n6_ := Aside0.mk (Kd.R_lower (Kd.R_new' (Kd.R_new' ho1 (Kd.R_lt (by (with_reducible repeat (first | apply Kd.R_alloc | apply Kd.R_drewN | apply Kd.R_drew)); exact HO_322001.out))) (Kd.R_lt (by (with_reducible repeat (first | apply Kd.R_alloc | apply Kd.R_drewN | apply Kd.R_drew)); exact HO_333001.out))) (below_size (by repeat (first | (with_reducible first | exact HB.out | apply below_alloc | apply pw_below_drewN | apply below_drew1 | refine below_set ?_ GE321.out | refine below_set ?_ GE332.out) | exact HB.out)))); have n7_ := Aside0.mk (blk_below (g := gb321) (o := .cells #[.slice Ao20 t314.length co20, .slice Ao22 t317.length co22, .int .i64 t320] 34 (0, 0)) (by (with_reducible repeat (first | refine blk_drewN ?_ _ | refine blk_drew ?_ | refine blk_alloc ?_ _)); exact BK321.out) hb); have n8_ := Aside0.mk (blk_below (g := gb332) (o := .cells #[.slice Ao27 t325.length co27, .slice Ao30 t328.length co30, .int .i64 t331] 34 (0, 0)) (by (with_reducible repeat (first | refine blk_drewN ?_ _ | refine blk_drew ?_ | refine blk_alloc ?_ _)); exact BK332.out) hb); have n9_ := Aside0.mk (below_step (by repeat (first | (with_reducible first | exact HB.out | apply below_alloc | apply pw_below_drewN | apply below_drew1 | refine below_set ?_ GE321.out | refine below_set ?_ GE332.out) | exact HB.out)) hb); clear HO_322000; clear HO_322001; clear HO_333000; clear HO_333001; clear HO347; clear BK321; clear BK332; clear HB; have HO_322000 := n0_; have HO_322001 := n1_; have HO_333000 := n2_; have HO_333001 := n3_; have HO347 := n4_; have HO350 := n5_; have HO353 := n6_; have BK321 := n7_; have BK332 := n8_; have HB := n9_; clear n0_ n1_ n2_ n3_ n4_ n5_ n6_ n7_ n8_ n9_; (try clear hb); (try clear hb2); (try clear hk); (try clear hi); (try clear ho0); (try clear ho1)) | ((with_reducible refine gate_dst (N := 12) rfl ?_); refine box_event ?hg (N := 12) ?hd (cs := #[.slice none 0 0, .slice none 0 0, .int .i64 0]) (t := 34) ?hr ?_; (case hd => rfl); (case hg => rfl); (case hr => first | (go_simp; done) | (go_simp; rfl)); intro gb355 hg w86 hbox hb; have n0_ := Aside0.mk (Kd.R_below (by (with_reducible repeat (first | apply Kd.R_alloc | apply Kd.R_drewN | apply Kd.R_drew)); exact HO_322000.out) hb); have n1_ := Aside0.mk (Kd.R_below (by (with_reducible repeat (first | apply Kd.R_alloc | apply Kd.R_drewN | apply Kd.R_drew)); exact HO_322001.out) hb); have n2_ := Aside0.mk (Kd.R_below (by (with_reducible repeat (first | apply Kd.R_alloc | apply Kd.R_drewN | apply Kd.R_drew)); exact HO_333000.out) hb); have n3_ := Aside0.mk (Kd.R_below (by (with_reducible repeat (first | apply Kd.R_alloc | apply Kd.R_drewN | apply Kd.R_drew)); exact HO_333001.out) hb); have n4_ := Aside0.mk (Kd.R_below (by (with_reducible repeat (first | apply Kd.R_alloc | apply Kd.R_drewN | apply Kd.R_drew)); exact HO347.out) hb); have n5_ := Aside0.mk (Kd.R_below (by (with_reducible repeat (first | apply Kd.R_alloc | apply Kd.R_drewN | apply Kd.R_drew)); exact HO350.out) hb); have n6_ := Aside0.mk (Kd.R_below (by (with_reducible repeat (first | apply Kd.R_alloc | apply Kd.R_drewN | apply Kd.R_drew)); exact HO353.out) hb); have n7_ := Aside0.mk (blk_below (g := gb321) (o := .cells #[.slice Ao20 t314.length co20, .slice Ao22 t317.length co22, .int .i64 t320] 34 (0, 0)) (by (with_reducible repeat (first | refine blk_drewN ?_ _ | refine blk_drew ?_ | refine blk_alloc ?_ _)); exact BK321.out) hb); have n8_ := Aside0.mk (blk_below (g := gb332) (o := .cells #[.slice Ao27 t325.length co27, .slice Ao30 t328.length co30, .int .i64 t331] 34 (0, 0)) (by (with_reducible repeat (first | refine blk_drewN ?_ _ | refine blk_drew ?_ | refine blk_alloc ?_ _)); exact BK332.out) hb); have n9_ := Aside0.mk (below_step (by repeat (first | (with_reducible first | exact HB.out | apply below_alloc | apply pw_below_drewN | apply below_drew1 | refine below_set ?_ GE321.out | refine below_set ?_ GE332.out) | exact HB.out)) hb); have n10_ := Aside0.mk (hbox); have n11_ := Aside0.mk ((by rw [hg]; exact (below_size (by repeat (first | (with_reducible first | exact HB.out | apply below_alloc | apply pw_below_drewN | apply below_drew1 | refine below_set ?_ GE321.out | refine below_set ?_ GE332.out) | exact HB.out))) : w.heap.size ≤ gb355)); have n12_ := Aside0.mk ((by rw [hg]; exact (below_size (by repeat (first | (with_reducible first | exact HB.out | apply below_alloc | apply pw_below_drewN | apply below_drew1 | refine below_set ?_ GE321.out | refine below_set ?_ GE332.out) | exact HB.out))) : w.heap.size ≤ gb355)); have n13_ := Aside0.mk ((by rw [hg]; exact Nat.ne_of_lt (blk_lt (g := gb321) (o := .cells #[.slice Ao20 t314.length co20, .slice Ao22 t317.length co22, .int .i64 t320] 34 (0, 0)) (by (with_reducible repeat (first | refine blk_drewN ?_ _ | refine blk_drew ?_ | refine blk_alloc ?_ _)); exact BK321.out)) : gb321 ≠ gb355)); have n14_ := Aside0.mk ((by rw [hg]; exact Nat.ne_of_gt (blk_lt (g := gb321) (o := .cells #[.slice Ao20 t314.length co20, .slice Ao22 t317.length co22, .int .i64 t320] 34 (0, 0)) (by (with_reducible repeat (first | refine blk_drewN ?_ _ | refine blk_drew ?_ | refine blk_alloc ?_ _)); exact BK321.out)) : gb355 ≠ gb321)); have n15_ := Aside0.mk ((by rw [hg]; exact Nat.ne_of_lt (blk_lt (g := gb332) (o := .cells #[.slice Ao27 t325.length co27, .slice Ao30 t328.length co30, .int .i64 t331] 34 (0, 0)) (by (with_reducible repeat (first | refine blk_drewN ?_ _ | refine blk_drew ?_ | refine blk_alloc ?_ _)); exact BK332.out)) : gb332 ≠ gb355)); have n16_ := Aside0.mk ((by rw [hg]; exact Nat.ne_of_gt (blk_lt (g := gb332) (o := .cells #[.slice Ao27 t325.length co27, .slice Ao30 t328.length co30, .int .i64 t331] 34 (0, 0)) (by (with_reducible repeat (first | refine blk_drewN ?_ _ | refine blk_drew ?_ | refine blk_alloc ?_ _)); exact BK332.out)) : gb355 ≠ gb332)); clear HO_322000; clear HO_322001; clear HO_333000; clear HO_333001; clear HO347; clear HO350; clear HO353; clear BK321; clear BK332; clear HB; have HO_322000 := n0_; have HO_322001 := n1_; have HO_333000 := n2_; have HO_333001 := n3_; have HO347 := n4_; have HO350 := n5_; have HO353 := n6_; have BK321 := n7_; have BK332 := n8_; have HB := n9_; have BK355 := n10_; have GW355 := n11_; have GE355 := n12_; have NB321_355 := n13_; have NB355_321 := n14_; have NB332_355 := n15_; have NB355_332 := n16_; clear n0_ n1_ n2_ n3_ n4_ n5_ n6_ n7_ n8_ n9_ n10_ n11_ n12_ n13_ n14_ n15_ n16_; clear hb hbox hg; obtain ⟨Ao87, co87, eo87⟩ := Kd.R_slice HO350.out; subst eo87; have hnb88 := NB355_321.out; have hnc88 := NB321_355.out; have hnb89 := NB355_332.out; have hnc89 := NB332_355.out; have hcz90_0 : w86.cell? ⟨gb355, 0, none⟩ = some (.slice none 0 0) := (blk_cell BK355.out 0).trans rfl; have hcz90_1 : w86.cell? ⟨gb355, 1, none⟩ = some (.slice none 0 0) := (blk_cell BK355.out 1).trans rfl; have hcz90_2 : w86.cell? ⟨gb355, 2, none⟩ = some (.int .i64 0) := (blk_cell BK355.out 2).trans rfl; have hfz90_0 := blk_frozen BK355.out 0; have hfz90_1 := blk_frozen BK355.out 1; have hfz90_2 := blk_frozen BK355.out 2; obtain ⟨Ao91, co91, eo91⟩ := Kd.R_slice HO353.out; subst eo91; have hcz92_0 : w86.cell? ⟨gb321, 0, none⟩ = some (.slice Ao20 t314.length co20) := (blk_cell BK321.out 0).trans rfl; have hcz92_1 : w86.cell? ⟨gb321, 1, none⟩ = some (.slice Ao22 t317.length co22) := (blk_cell BK321.out 1).trans rfl; have hcz92_2 : w86.cell? ⟨gb321, 2, none⟩ = some (.int .i64 t320) := (blk_cell BK321.out 2).trans rfl; have hfz92_0 := blk_frozen BK321.out 0; have hfz92_1 := blk_frozen BK321.out 1; have hfz92_2 := blk_frozen BK321.out 2) | ((with_reducible refine gate_callee (f := 24) rfl ?_); refine goesL_ (some 64) rfl rfl Try.func24 (by kernel_rfl) rfl #[.agg #[.slice Ao87 t348.length co87, .slice Ao91 t351.length co91, .int .i64 t354], .agg #[.slice Ao20 t314.length co20, .slice Ao22 t317.length co22, .int .i64 t320]] rfl (by (try simp only [List.map_toArray, List.map_cons, List.map_nil]); first | done | rfl | (simp only [List.length_drop, List.length_take]; rfl)) ?_; (with_reducible refine (laws_eqRibOut.calls kj14 _ _ t348 _ _ t351 t354 _ _ t314 _ _ t317 t320 true _ ?side1 ?side2 ?side3 ?side4 ?side5 ?side6 ?side7 ?side8 A55.out).mono ?_); (case side1 => refine (Kd.R_reads' (e := 73) (base := w.heap.size) (ok := fun k_ => (((True ∧ some k_ ≠ (.slice Ao20 t314.length co20 : Value).ownBlock) ∧ some k_ ≠ (.slice Ao27 t325.length co27 : Value).ownBlock) ∧ some k_ ≠ (.slice Ao84 t345.length co84 : Value).ownBlock)) (n := t348.length) (c := co87) ?_).2.2; exact (by (with_reducible repeat (first | apply Kd.R_alloc | apply Kd.R_drewN | apply Kd.R_drew)); exact (Kd.R_mono (Kd.R_far (p := ⟨gb355, 2, none⟩) (Kd.R_far (p := ⟨gb355, 1, none⟩) (Kd.R_far (p := ⟨gb355, 0, none⟩) (Kd.R_types HO350.out BK355.out (by decide)) (fun _ hk => hk.2) (.slice Ao87 t348.length co87)) (fun _ hk => hk.2) (.slice Ao91 t351.length co91)) (fun _ hk => hk.2) (.int .i64 t354)) (fun _ h_ => h_.1)))); (case side2 => exact (Kd.R_reads' HO350.out).2.1); (case side3 => refine (Kd.R_reads' (e := 42) (base := w.heap.size) (ok := fun k_ => ((True ∧ some k_ ≠ (.slice Ao22 t317.length co22 : Value).ownBlock) ∧ some k_ ≠ (.slice Ao30 t328.length co30 : Value).ownBlock)) (n := t351.length) (c := co91) ?_).2.2; exact (by (with_reducible repeat (first | apply Kd.R_alloc | apply Kd.R_drewN | apply Kd.R_drew)); exact (Kd.R_mono (Kd.R_far (p := ⟨gb355, 2, none⟩) (Kd.R_far (p := ⟨gb355, 1, none⟩) (Kd.R_far (p := ⟨gb355, 0, none⟩) (Kd.R_types HO353.out BK355.out (by decide)) (fun _ hk => hk.2) (.slice Ao87 t348.length co87)) (fun _ hk => hk.2) (.slice Ao91 t351.length co91)) (fun _ hk => hk.2) (.int .i64 t354)) (fun _ h_ => h_.1)))); (case side4 => exact (Kd.R_reads' HO353.out).2.1); (case side5 => refine (Kd.R_reads' (e := 73) (base := w.heap.size) (ok := fun k_ => ((some k_ ≠ (.slice Ao27 t325.length co27 : Value).ownBlock ∧ some k_ ≠ (.slice Ao84 t345.length co84 : Value).ownBlock) ∧ some k_ ≠ (.slice Ao87 t348.length co87 : Value).ownBlock)) (n := t314.length) (c := co20) ?_).2.2; exact (by (with_reducible repeat (first | apply Kd.R_alloc | apply Kd.R_drewN | apply Kd.R_drew)); exact (Kd.R_mono (Kd.R_far (p := ⟨gb355, 2, none⟩) (Kd.R_far (p := ⟨gb355, 1, none⟩) (Kd.R_far (p := ⟨gb355, 0, none⟩) (Kd.R_types HO_322000.out BK355.out (by decide)) (fun _ hk => hk.2) (.slice Ao87 t348.length co87)) (fun _ hk => hk.2) (.slice Ao91 t351.length co91)) (fun _ hk => hk.2) (.int .i64 t354)) (fun _ h_ => h_.1)))); (case side6 => exact (Kd.R_reads' HO_322000.out).2.1); (case side7 => refine (Kd.R_reads' (e := 42) (base := w.heap.size) (ok := fun k_ => (some k_ ≠ (.slice Ao30 t328.length co30 : Value).ownBlock ∧ some k_ ≠ (.slice Ao91 t351.length co91 : Value).ownBlock)) (n := t317.length) (c := co22) ?_).2.2; exact (by (with_reducible repeat (first | apply Kd.R_alloc | apply Kd.R_drewN | apply Kd.R_drew)); exact (Kd.R_mono (Kd.R_far (p := ⟨gb355, 2, none⟩) (Kd.R_far (p := ⟨gb355, 1, none⟩) (Kd.R_far (p := ⟨gb355, 0, none⟩) (Kd.R_types HO_322001.out BK355.out (by decide)) (fun _ hk => hk.2) (.slice Ao87 t348.length co87)) (fun _ hk => hk.2) (.slice Ao91 t351.length co91)) (fun _ hk => hk.2) (.int .i64 t354)) (fun _ h_ => h_.1)))); (case side8 => exact (Kd.R_reads' HO_322001.out).2.1); rintro e w93 ⟨rfl, hb⟩; refine ⟨_, rfl, ?_⟩; have n0_ := Aside0.mk (Kd.R_below (by (with_reducible repeat (first | apply Kd.R_alloc | apply Kd.R_drewN | apply Kd.R_drew)); exact (Kd.R_mono (Kd.R_far (p := ⟨gb355, 2, none⟩) (Kd.R_far (p := ⟨gb355, 1, none⟩) (Kd.R_far (p := ⟨gb355, 0, none⟩) (Kd.R_types HO_322000.out BK355.out (by decide)) (fun _ hk => hk.2) (.slice Ao87 t348.length co87)) (fun _ hk => hk.2) (.slice Ao91 t351.length co91)) (fun _ hk => hk.2) (.int .i64 t354)) (fun _ h_ => h_.1))) hb); have n1_ := Aside0.mk (Kd.R_below (by (with_reducible repeat (first | apply Kd.R_alloc | apply Kd.R_drewN | apply Kd.R_drew)); exact (Kd.R_mono (Kd.R_far (p := ⟨gb355, 2, none⟩) (Kd.R_far (p := ⟨gb355, 1, none⟩) (Kd.R_far (p := ⟨gb355, 0, none⟩) (Kd.R_types HO_322001.out BK355.out (by decide)) (fun _ hk => hk.2) (.slice Ao87 t348.length co87)) (fun _ hk => hk.2) (.slice Ao91 t351.length co91)) (fun _ hk => hk.2) (.int .i64 t354)) (fun _ h_ => h_.1))) hb); have n2_ := Aside0.mk (Kd.R_below (by (with_reducible repeat (first | apply Kd.R_alloc | apply Kd.R_drewN | apply Kd.R_drew)); exact (Kd.R_mono (Kd.R_far (p := ⟨gb355, 2, none⟩) (Kd.R_far (p := ⟨gb355, 1, none⟩) (Kd.R_far (p := ⟨gb355, 0, none⟩) (Kd.R_types HO_333000.out BK355.out (by decide)) (fun _ hk => hk.2) (.slice Ao87 t348.length co87)) (fun _ hk => hk.2) (.slice Ao91 t351.length co91)) (fun _ hk => hk.2) (.int .i64 t354)) (fun _ h_ => h_.1))) hb); have n3_ := Aside0.mk (Kd.R_below (by (with_reducible repeat (first | apply Kd.R_alloc | apply Kd.R_drewN | apply Kd.R_drew)); exact (Kd.R_mono (Kd.R_far (p := ⟨gb355, 2, none⟩) (Kd.R_far (p := ⟨gb355, 1, none⟩) (Kd.R_far (p := ⟨gb355, 0, none⟩) (Kd.R_types HO_333001.out BK355.out (by decide)) (fun _ hk => hk.2) (.slice Ao87 t348.length co87)) (fun _ hk => hk.2) (.slice Ao91 t351.length co91)) (fun _ hk => hk.2) (.int .i64 t354)) (fun _ h_ => h_.1))) hb); have n4_ := Aside0.mk (Kd.R_below (by (with_reducible repeat (first | apply Kd.R_alloc | apply Kd.R_drewN | apply Kd.R_drew)); exact (Kd.R_mono (Kd.R_far (p := ⟨gb355, 2, none⟩) (Kd.R_far (p := ⟨gb355, 1, none⟩) (Kd.R_far (p := ⟨gb355, 0, none⟩) (Kd.R_types HO347.out BK355.out (by decide)) (fun _ hk => hk.2) (.slice Ao87 t348.length co87)) (fun _ hk => hk.2) (.slice Ao91 t351.length co91)) (fun _ hk => hk.2) (.int .i64 t354)) (fun _ h_ => h_.1))) hb); have n5_ := Aside0.mk (Kd.R_below (by (with_reducible repeat (first | apply Kd.R_alloc | apply Kd.R_drewN | apply Kd.R_drew)); exact (Kd.R_mono (Kd.R_far (p := ⟨gb355, 2, none⟩) (Kd.R_far (p := ⟨gb355, 1, none⟩) (Kd.R_far (p := ⟨gb355, 0, none⟩) (Kd.R_types HO350.out BK355.out (by decide)) (fun _ hk => hk.2) (.slice Ao87 t348.length co87)) (fun _ hk => hk.2) (.slice Ao91 t351.length co91)) (fun _ hk => hk.2) (.int .i64 t354)) (fun _ h_ => h_.1))) hb); have n6_ := Aside0.mk (Kd.R_below (by (with_reducible repeat (first | apply Kd.R_alloc | apply Kd.R_drewN | apply Kd.R_drew)); exact (Kd.R_mono (Kd.R_far (p := ⟨gb355, 2, none⟩) (Kd.R_far (p := ⟨gb355, 1, none⟩) (Kd.R_far (p := ⟨gb355, 0, none⟩) (Kd.R_types HO353.out BK355.out (by decide)) (fun _ hk => hk.2) (.slice Ao87 t348.length co87)) (fun _ hk => hk.2) (.slice Ao91 t351.length co91)) (fun _ hk => hk.2) (.int .i64 t354)) (fun _ h_ => h_.1))) hb); have n7_ := Aside0.mk (blk_below (g := gb321) (o := .cells #[.slice Ao20 t314.length co20, .slice Ao22 t317.length co22, .int .i64 t320] 34 (0, 0)) (by (with_reducible repeat (first | refine blk_drewN ?_ _ | refine blk_drew ?_ | refine blk_alloc ?_ _)); refine blk_far ?_ NB321_355.out _; (with_reducible repeat (first | refine blk_drewN ?_ _ | refine blk_drew ?_ | refine blk_alloc ?_ _)); refine blk_far ?_ NB321_355.out _; (with_reducible repeat (first | refine blk_drewN ?_ _ | refine blk_drew ?_ | refine blk_alloc ?_ _)); refine blk_far ?_ NB321_355.out _; (with_reducible repeat (first | refine blk_drewN ?_ _ | refine blk_drew ?_ | refine blk_alloc ?_ _)); exact BK321.out) hb); have n8_ := Aside0.mk (blk_below (g := gb332) (o := .cells #[.slice Ao27 t325.length co27, .slice Ao30 t328.length co30, .int .i64 t331] 34 (0, 0)) (by (with_reducible repeat (first | refine blk_drewN ?_ _ | refine blk_drew ?_ | refine blk_alloc ?_ _)); refine blk_far ?_ NB332_355.out _; (with_reducible repeat (first | refine blk_drewN ?_ _ | refine blk_drew ?_ | refine blk_alloc ?_ _)); refine blk_far ?_ NB332_355.out _; (with_reducible repeat (first | refine blk_drewN ?_ _ | refine blk_drew ?_ | refine blk_alloc ?_ _)); refine blk_far ?_ NB332_355.out _; (with_reducible repeat (first | refine blk_drewN ?_ _ | refine blk_drew ?_ | refine blk_alloc ?_ _)); exact BK332.out) hb); have n9_ := Aside0.mk (blk_below (g := gb355) (o := .cells #[.slice Ao87 t348.length co87, .slice Ao91 t351.length co91, .int .i64 t354] 34 (0, 0)) (by (with_reducible repeat (first | refine blk_drewN ?_ _ | refine blk_drew ?_ | refine blk_alloc ?_ _)); refine blk_put (cs := #[.slice Ao87 t348.length co87, .slice Ao91 t351.length co91, .int .i64 0]) ?_ 2 _ rfl; (with_reducible repeat (first | refine blk_drewN ?_ _ | refine blk_drew ?_ | refine blk_alloc ?_ _)); refine blk_put (cs := #[.slice Ao87 t348.length co87, .slice none 0 0, .int .i64 0]) ?_ 1 _ rfl; (with_reducible repeat (first | refine blk_drewN ?_ _ | refine blk_drew ?_ | refine blk_alloc ?_ _)); refine blk_put (cs := #[.slice none 0 0, .slice none 0 0, .int .i64 0]) ?_ 0 _ rfl; (with_reducible repeat (first | refine blk_drewN ?_ _ | refine blk_drew ?_ | refine blk_alloc ?_ _)); exact BK355.out) hb); have n10_ := Aside0.mk (below_step (by repeat (first | (with_reducible first | exact HB.out | apply below_alloc | apply pw_below_drewN | apply below_drew1 | refine below_set ?_ GE321.out | refine below_set ?_ GE332.out | refine below_set ?_ GE355.out) | exact HB.out)) hb); clear HO_322000; clear HO_322001; clear HO_333000; clear HO_333001; clear HO347; clear HO350; clear HO353; clear BK321; clear BK332; clear BK355; clear HB; have HO_322000 := n0_; have HO_322001 := n1_; have HO_333000 := n2_; have HO_333001 := n3_; have HO347 := n4_; have HO350 := n5_; have HO353 := n6_; have BK321 := n7_; have BK332 := n8_; have BK355 := n9_; have HB := n10_; clear n0_ n1_ n2_ n3_ n4_ n5_ n6_ n7_ n8_ n9_ n10_; (try clear hb); (try clear hb2); (try clear hk); (try clear hi); have hcz94_0 : w93.cell? ⟨gb332, 0, none⟩ = some (.slice Ao27 t325.length co27) := (blk_cell BK332.out 0).trans rfl; have hcz94_1 : w93.cell? ⟨gb332, 1, none⟩ = some (.slice Ao30 t328.length co30) := (blk_cell BK332.out 1).trans rfl; have hcz94_2 : w93.cell? ⟨gb332, 2, none⟩ = some (.int .i64 t331) := (blk_cell BK332.out 2).trans rfl; have hfz94_0 := blk_frozen BK332.out 0; have hfz94_1 := blk_frozen BK332.out 1; have hfz94_2 := blk_frozen BK332.out 2) | ((with_reducible refine gate_callee (f := 26) rfl ?_); refine goesL_ (some 68) rfl rfl Try.func26 (by kernel_rfl) rfl #[.agg #[.slice Ao27 t342.length co27, .slice Ao30 t343.length co30, .int .i64 t331], .int .i64 1] rfl (by (try simp only [List.map_toArray, List.map_cons, List.map_nil]); first | done | (rw [show t342.length = t325.length from (Kd.R_reads' HO_333000.out).1.symm, show t343.length = t328.length from (Kd.R_reads' HO_333001.out).1.symm] <;> rfl) | rfl | (simp only [List.length_drop, List.length_take]; rfl)) ?_; (with_reducible refine (laws_heldRibOut.calls kj14 _ _ t342 _ _ t343 t331 1 t357 _ ?side1 ?side2 ?side3 ?side4 A57.out).mono ?_); (case side1 => repeat (first | exact (Kd.R_reads' HO_333000.out).2.2 | (with_reducible refine Kd.C_alloc ?_ _) | (with_reducible refine Kd.C_drewN ?_ _) | (with_reducible refine Kd.C_drew ?_))); (case side2 => rw [show t342.length = t325.length from (Kd.R_reads' HO_333000.out).1.symm]; exact (Kd.R_reads' HO_333000.out).2.1); (case side3 => repeat (first | exact (Kd.R_reads' HO_333001.out).2.2 | (with_reducible refine Kd.C_alloc ?_ _) | (with_reducible refine Kd.C_drewN ?_ _) | (with_reducible refine Kd.C_drew ?_))); (case side4 => rw [show t343.length = t328.length from (Kd.R_reads' HO_333001.out).1.symm]; exact (Kd.R_reads' HO_333001.out).2.1); rintro e w95 ⟨rfl, hb⟩; refine ⟨_, rfl, ?_⟩; have n0_ := Aside0.mk (Kd.R_below (by (with_reducible repeat (first | apply Kd.R_alloc | apply Kd.R_drewN | apply Kd.R_drew)); exact HO_322000.out) hb); have n1_ := Aside0.mk (Kd.R_below (by (with_reducible repeat (first | apply Kd.R_alloc | apply Kd.R_drewN | apply Kd.R_drew)); exact HO_322001.out) hb); have n2_ := Aside0.mk (Kd.R_below (by (with_reducible repeat (first | apply Kd.R_alloc | apply Kd.R_drewN | apply Kd.R_drew)); exact HO_333000.out) hb); have n3_ := Aside0.mk (Kd.R_below (by (with_reducible repeat (first | apply Kd.R_alloc | apply Kd.R_drewN | apply Kd.R_drew)); exact HO_333001.out) hb); have n4_ := Aside0.mk (Kd.R_below (by (with_reducible repeat (first | apply Kd.R_alloc | apply Kd.R_drewN | apply Kd.R_drew)); exact HO347.out) hb); have n5_ := Aside0.mk (Kd.R_below (by (with_reducible repeat (first | apply Kd.R_alloc | apply Kd.R_drewN | apply Kd.R_drew)); exact HO350.out) hb); have n6_ := Aside0.mk (Kd.R_below (by (with_reducible repeat (first | apply Kd.R_alloc | apply Kd.R_drewN | apply Kd.R_drew)); exact HO353.out) hb); have n7_ := Aside0.mk (blk_below (g := gb321) (o := .cells #[.slice Ao20 t314.length co20, .slice Ao22 t317.length co22, .int .i64 t320] 34 (0, 0)) (by (with_reducible repeat (first | refine blk_drewN ?_ _ | refine blk_drew ?_ | refine blk_alloc ?_ _)); exact BK321.out) hb); have n8_ := Aside0.mk (blk_below (g := gb332) (o := .cells #[.slice Ao27 t325.length co27, .slice Ao30 t328.length co30, .int .i64 t331] 34 (0, 0)) (by (with_reducible repeat (first | refine blk_drewN ?_ _ | refine blk_drew ?_ | refine blk_alloc ?_ _)); exact BK332.out) hb); have n9_ := Aside0.mk (blk_below (g := gb355) (o := .cells #[.slice Ao87 t348.length co87, .slice Ao91 t351.length co91, .int .i64 t354] 34 (0, 0)) (by (with_reducible repeat (first | refine blk_drewN ?_ _ | refine blk_drew ?_ | refine blk_alloc ?_ _)); exact BK355.out) hb); have n10_ := Aside0.mk (below_step (by repeat (first | (with_reducible first | exact HB.out | apply below_alloc | apply pw_below_drewN | apply below_drew1 | refine below_set ?_ GE321.out | refine below_set ?_ GE332.out | refine below_set ?_ GE355.out) | exact HB.out)) hb); clear HO_322000; clear HO_322001; clear HO_333000; clear HO_333001; clear HO347; clear HO350; clear HO353; clear BK321; clear BK332; clear BK355; clear HB; have HO_322000 := n0_; have HO_322001 := n1_; have HO_333000 := n2_; have HO_333001 := n3_; have HO347 := n4_; have HO350 := n5_; have HO353 := n6_; have BK321 := n7_; have BK332 := n8_; have BK355 := n9_; have HB := n10_; clear n0_ n1_ n2_ n3_ n4_ n5_ n6_ n7_ n8_ n9_ n10_; (try clear hb); (try clear hb2); (try clear hk); (try clear hi)))
            go_ret
            exact ⟨by first | rfl | (simp [errW_none, errW_some] <;> rfl) | (simp [*, errW_none, errW_some] <;> rfl), by repeat (first | (with_reducible first | exact HB.out | apply below_alloc | apply pw_below_drewN | apply below_drew1 | refine below_set ?_ GE321.out | refine below_set ?_ GE332.out | refine below_set ?_ GE355.out) | exact HB.out)⟩
           ·rw [if_neg c77] at H
            have c77b0 : (t357 == t341) = false := beq_eq_false_iff_ne.mpr c77
            have c77b1 : (t357 != t341) = true := bne_iff_ne.mpr c77
            exact absurd (Option.some.inj H) (by decide)
         ·replace c56 := Bool.eq_false_iff.mpr c56
          subst c56
          have H1 : (some false) = some true := by rw [if_neg (show ¬ (false = true) by decide)] at H; exact H
          clear H
          have H := H1
          clear H1
          exact absurd (Option.some.inj H) (by decide)
        ·rw [if_neg c52] at H
         have c52b0 : (t344 == t341) = false := beq_eq_false_iff_ne.mpr c52
         have c52b1 : (t344 != t341) = true := bne_iff_ne.mpr c52
         exact absurd (Option.some.inj H) (by decide)
   ·replace c13 := Bool.eq_false_iff.mpr c13
    subst c13
    have H1 : (some false) = some true := by rw [if_neg (show ¬ (false = true) by decide)] at H; exact H
    clear H
    have H := H1
    clear H1
    exact absurd (Option.some.inj H) (by decide)
  ·replace c10 := Bool.eq_false_iff.mpr c10
   subst c10
   have H1 : (some false) = some true := by rw [if_neg (show ¬ (false = true) by decide)] at H; exact H
   clear H
   have H := H1
   clear H1
   exact absurd (Option.some.inj H) (by decide)
end Go.Proofs.Ytmgmaflfednngaa.PFnExactRibSweep
