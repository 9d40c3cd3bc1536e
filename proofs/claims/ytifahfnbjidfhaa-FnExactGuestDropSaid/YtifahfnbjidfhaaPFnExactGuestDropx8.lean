-- Written by print.py of the kit over this session's own stand-ins (mkprint.py of its wip/gen): not an official print; the functions proved by hand are named where they stand.
import Derived.Test.YtifahfnbjidfhaaPFnExactGuestDropx0
import Derived.Test.YtifahfnbjidfhaaPFnExactGuestDropx1
import Derived.Test.YtifahfnbjidfhaaPFnExactGuestDropx2
import Derived.Test.YtifahfnbjidfhaaPFnExactGuestDropx5
import Derived.Test.YtifahfnbjidfhaaPFnExactGuestDropx7
import Derived.Test.YtifahfnbjidfhaaBase
import Derived.Test.YtifahfnbjidfhaaSlices
import Derived.Shelf.Abstract
namespace Go.Proofs.Ytifahfnbjidfhaa.PFnExactGuestDrop
open Go.RowKit Go.Proofs.YtifahfnbjidfhaaW.PrintWords Go.Proofs.YtifahfnbjidfhaaW.PrintLast Go.Proofs.YtifahfnbjidfhaaW.PrintMore
attribute [local go_sem] max2_int min2_int max_two min_two max_three min_three max_four min_four   -- for this text's walks alone
set_option linter.unusedVariables false
set_option linter.unusedSimpArgs false

/-! ### impl_guestsCode: function 88 -/
def impl_guestsCode.f (k : Nat) (l0 : List (S52)) (a1 : Bool) : Option (Int) := if (l0.length : Int) > 400 then (some 2) else ((impl_GuestsRight.f k l0).bind fun t244 => (if t244 = true then (if a1 = true then (some 0) else (some 1)) else (some 1)))
theorem impl_guestsCode.mono : ∀ a0 a1 k, LeO (impl_guestsCode.f k a0 a1) (impl_guestsCode.f (k + 1) a0 a1) := by
 intro a0 a1 k
 unfold impl_guestsCode.f
 repeat' first
   | (with_reducible exact impl_GuestsRight.mono _ _)
   | (with_reducible exact LeO.refl _)
   | (with_reducible exact LeO.none _)
   | (with_reducible refine LeO.ite ?_ ?_)
   | (with_reducible refine LeO.bind ?_ (fun _ => ?_))
   | exact impl_GuestsRight.mono _ _
   | exact LeO.none _
   | refine LeO.ite ?_ ?_
   | refine LeO.bind ?_ (fun _ => ?_)
set_option maxHeartbeats 8000000 in
set_option maxRecDepth 100000 in
theorem impl_guestsCode.calls (k : Nat) (A0 : Option Addr) (c0 : Nat) (l0 : List (S52)) (a1 : Bool) (r : Int) (w : World) (hr0 : Kd.C k52 w A0 l0.length l0) (hc0 : l0.length ≤ c0) (h : impl_guestsCode.f k l0 a1 = some r) :
  Calls Try.prog 88 #[.slice A0 l0.length c0, .bool a1] w fun e w' => e = .returned (.int .i64 r) ∧ Below w.heap.size w w' := by
 have HR0 := Aside0.mk hr0
 have HC0 := Aside0.mk hc0
 clear hr0 hc0
 have HB := Aside0.mk (Below.refl w.heap.size w)
 have H : (if (l0.length : Int) > 400 then (some 2) else ((impl_GuestsRight.f k l0).bind fun t244 => (if t244 = true then (if a1 = true then (some 0) else (some 1)) else (some 1)))) = some r := h
 clear h
 by_cases c3 : (l0.length : Int) > 400
 ·rw [if_pos c3] at H
  have c3b0 : decide (400 < (l0.length : Int)) = true := decide_eq_true c3
  have c3b1 : decide (400 < l0.length) = true := decide_eq_true (by omega)
  clear c3
  obtain rfl := Option.some.inj H
  go_enter Try.func88, Try.ntmps88
  go_wp2
  go_ret
  exact ⟨by first | rfl | (simp [errW_none, errW_some] <;> rfl) | (simp [*, errW_none, errW_some] <;> rfl), by repeat (first | (with_reducible first | exact HB.out | apply below_alloc | apply pw_below_drewN | apply below_drew1) | exact HB.out)⟩
 ·rw [if_neg c3] at H
  have c3b0 : decide (400 < (l0.length : Int)) = false := decide_eq_false c3
  have c3b1 : decide (400 < l0.length) = false := decide_eq_false (by omega)
  clear c3
  replace H := Option.bind_eq_some_iff.mp H
  obtain ⟨t244, A40, H⟩ := H
  replace H : (if t244 = true then (if a1 = true then (some 0) else (some 1)) else (some 1)) = some r := H
  have A4 := Aside0.mk A40
  clear A40
  by_cases c5 : t244 = true
  ·subst c5
   have H1 : (if a1 = true then (some 0) else (some 1)) = some r := by rw [if_pos rfl] at H; exact H
   clear H
   have H := H1
   clear H1
   by_cases c6 : a1 = true
   ·subst c6
    have H1 : (some 0) = some r := by rw [if_pos rfl] at H; exact H
    clear H
    have H := H1
    clear H1
    obtain rfl := Option.some.inj H
    go_enter Try.func88, Try.ntmps88
    go_wp2_with (first | ((with_reducible refine gate_callee (f := 33) rfl ?_); refine goesL_ (some 11) rfl rfl Try.func33 (by kernel_rfl) rfl #[.slice A0 l0.length c0] rfl (by (try simp only [List.map_toArray, List.map_cons, List.map_nil]); first | done | rfl | (simp only [List.length_drop, List.length_take]; rfl)) ?_; (with_reducible refine (impl_GuestsRight.calls k _ _ l0 true _ ?side1 ?side2 A4.out).mono ?_); (case side1 => repeat (first | exact HR0.out | (with_reducible refine Kd.C_alloc ?_ _) | (with_reducible refine Kd.C_drewN ?_ _) | (with_reducible refine Kd.C_drew ?_))); (case side2 => exact HC0.out); rintro e w7 ⟨rfl, hb⟩; refine ⟨_, rfl, ?_⟩; have n0_ := Aside0.mk (below_step (by repeat (first | (with_reducible first | exact HB.out | apply below_alloc | apply pw_below_drewN | apply below_drew1) | exact HB.out)) hb); clear HB; have HB := n0_; clear n0_; (try clear hb); (try clear hb2); (try clear hk); (try clear hi)))
    go_ret
    exact ⟨by first | rfl | (simp [errW_none, errW_some] <;> rfl) | (simp [*, errW_none, errW_some] <;> rfl), by repeat (first | (with_reducible first | exact HB.out | apply below_alloc | apply pw_below_drewN | apply below_drew1) | exact HB.out)⟩
   ·replace c6 := Bool.eq_false_iff.mpr c6
    subst c6
    have H1 : (some 1) = some r := by rw [if_neg (show ¬ (false = true) by decide)] at H; exact H
    clear H
    have H := H1
    clear H1
    obtain rfl := Option.some.inj H
    go_enter Try.func88, Try.ntmps88
    go_wp2_with (first | ((with_reducible refine gate_callee (f := 33) rfl ?_); refine goesL_ (some 11) rfl rfl Try.func33 (by kernel_rfl) rfl #[.slice A0 l0.length c0] rfl (by (try simp only [List.map_toArray, List.map_cons, List.map_nil]); first | done | rfl | (simp only [List.length_drop, List.length_take]; rfl)) ?_; (with_reducible refine (impl_GuestsRight.calls k _ _ l0 true _ ?side1 ?side2 A4.out).mono ?_); (case side1 => repeat (first | exact HR0.out | (with_reducible refine Kd.C_alloc ?_ _) | (with_reducible refine Kd.C_drewN ?_ _) | (with_reducible refine Kd.C_drew ?_))); (case side2 => exact HC0.out); rintro e w8 ⟨rfl, hb⟩; refine ⟨_, rfl, ?_⟩; have n0_ := Aside0.mk (below_step (by repeat (first | (with_reducible first | exact HB.out | apply below_alloc | apply pw_below_drewN | apply below_drew1) | exact HB.out)) hb); clear HB; have HB := n0_; clear n0_; (try clear hb); (try clear hb2); (try clear hk); (try clear hi)))
    go_ret
    exact ⟨by first | rfl | (simp [errW_none, errW_some] <;> rfl) | (simp [*, errW_none, errW_some] <;> rfl), by repeat (first | (with_reducible first | exact HB.out | apply below_alloc | apply pw_below_drewN | apply below_drew1) | exact HB.out)⟩
  ·replace c5 := Bool.eq_false_iff.mpr c5
   subst c5
   have H1 : (some 1) = some r := by rw [if_neg (show ¬ (false = true) by decide)] at H; exact H
   clear H
   have H := H1
   clear H1
   obtain rfl := Option.some.inj H
   go_enter Try.func88, Try.ntmps88
   go_wp2_with (first | ((with_reducible refine gate_callee (f := 33) rfl ?_); refine goesL_ (some 11) rfl rfl Try.func33 (by kernel_rfl) rfl #[.slice A0 l0.length c0] rfl (by (try simp only [List.map_toArray, List.map_cons, List.map_nil]); first | done | rfl | (simp only [List.length_drop, List.length_take]; rfl)) ?_; (with_reducible refine (impl_GuestsRight.calls k _ _ l0 false _ ?side1 ?side2 A4.out).mono ?_); (case side1 => repeat (first | exact HR0.out | (with_reducible refine Kd.C_alloc ?_ _) | (with_reducible refine Kd.C_drewN ?_ _) | (with_reducible refine Kd.C_drew ?_))); (case side2 => exact HC0.out); rintro e w9 ⟨rfl, hb⟩; refine ⟨_, rfl, ?_⟩; have n0_ := Aside0.mk (below_step (by repeat (first | (with_reducible first | exact HB.out | apply below_alloc | apply pw_below_drewN | apply below_drew1) | exact HB.out)) hb); clear HB; have HB := n0_; clear n0_; (try clear hb); (try clear hb2); (try clear hk); (try clear hi)))
   go_ret
   exact ⟨by first | rfl | (simp [errW_none, errW_some] <;> rfl) | (simp [*, errW_none, errW_some] <;> rfl), by repeat (first | (with_reducible first | exact HB.out | apply below_alloc | apply pw_below_drewN | apply below_drew1) | exact HB.out)⟩

-- NOT PRINTED: function 92 (impl_guestsWithout)

/-! ### impl_GuestDrop: function 45 -/
def impl_GuestDrop.f (k : Nat) (l0 : List (S52)) (a1 : Int) (a2 : Int) : Option ((List (S52)) × (List (S52)) × Int) := if (l0.length : Int) > 400 then ((spec_l07Ill.f 2).bind fun bt246 => (some (bt246.1, bt246.2.1, bt246.2.2))) else ((impl_GuestsRight.f k l0).bind fun t253 => (if t253 = true then ((spec_l07Drop.f k l0 a1 a2).bind fun bt254 => (some (bt254.1, bt254.2.1, bt254.2.2))) else ((spec_l07Ill.f 1).bind fun bt261 => (some (bt261.1, bt261.2.1, bt261.2.2)))))
theorem impl_GuestDrop.mono : ∀ a0 a1 a2 k, LeO (impl_GuestDrop.f k a0 a1 a2) (impl_GuestDrop.f (k + 1) a0 a1 a2) := by
 intro a0 a1 a2 k
 unfold impl_GuestDrop.f
 repeat' first
   | (with_reducible exact impl_GuestsRight.mono _ _)
   | (with_reducible exact spec_l07Drop.mono _ _ _ _)
   | (with_reducible exact LeO.refl _)
   | (with_reducible exact LeO.none _)
   | (with_reducible refine LeO.ite ?_ ?_)
   | (with_reducible refine LeO.bind ?_ (fun _ => ?_))
   | exact impl_GuestsRight.mono _ _
   | exact spec_l07Drop.mono _ _ _ _
   | exact LeO.none _
   | refine LeO.ite ?_ ?_
   | refine LeO.bind ?_ (fun _ => ?_)
set_option maxHeartbeats 1600000 in
set_option maxRecDepth 100000 in
theorem guestsWithout_calls (g : Nat) (cb : Array Value) (eg : ∀ args w, (callFunc g args).run Try.prog w = .ok (.enter g args) w) (p : S52 → Bool) (K : Nat → Prop) (A : Option Addr) (c : Nat) (l : List S52) (w : World) (hl : l.length ≤ 1048576) (hr : Kd.C k52 w A l.length l) (hK : ∀ k, K k → k < w.heap.size) (hp : Go.Proofs.Ytifahfnbjidfhaa.Base.PredB Try.prog g cb k52 p K w) :
  Calls Try.prog 92 #[.slice A l.length c, .func (.func g) #[] cb] w fun e w' => ∃ v1 v2 : Value, e = .returned (.tuple #[v1, v2]) ∧ Kd.R k52 52 w' w.heap.size (fun k => some k ≠ v2.ownBlock) v1 (l.filter (fun x => !p x)) ∧ Kd.R k52 52 w' w.heap.size (fun k => some k ≠ v1.ownBlock) v2 (l.filter p) ∧ Below w.heap.size w w' := by
 have HR := Aside0.mk hr
 have HP := Aside0.mk hp
 have HKl := Aside0.mk hK
 have HB := Aside0.mk (Below.refl w.heap.size w)
 clear hr hp hK
 go_enter Try.func92, Try.ntmps92
 go_wp2_with (first | ((with_reducible refine gate_dst (N := 10) rfl ?_); refine Kd.R_lit k52 _ 52 ?hg (N := 10) ?hd (xs := ([] : List S52)) (inner := []) (ok := fun _ => True) (okp := fun _ => True) ?hr ?hp (fun _ hk => hk) trivial (Below.refl _ _) (Nat.le_refl _) (by simp) ?_; (case hd => rfl); (case hg => rfl); (case hr => first | (go_simp; done) | (go_simp; rfl)); (case hp => exact (Reps.none _ _)); intro v1 w1 ho1 hb1 hg1 hn1; have HO1 := Aside0.mk (Kd.R_lower ho1 (below_size HB.out)); have HB1 := Aside0.mk (below_step HB.out hb1); clear ho1 hb1 hg1 hn1) | ((with_reducible refine gate_dst (N := 11) rfl ?_); refine Kd.R_lit k52 _ 52 ?hg (N := 11) ?hd (xs := ([] : List S52)) (inner := []) (ok := fun _ => True) (okp := fun _ => True) ?hr ?hp (fun _ hk => hk) trivial (Below.refl _ _) (Nat.le_refl _) (by simp) ?_; (case hd => rfl); (case hg => rfl); (case hr => first | (go_simp; done) | (go_simp; rfl)); (case hp => exact (Reps.none _ _)); intro v2 w2 ho2 hb2 hg2 hn2; have AP := Aside0.mk (show Go.Proofs.Ytifahfnbjidfhaa.Base.Apart v1 v2 from fun k h1 h2 => by have a1 := Kd.R_lt HO1.out k h1; have a2 := Kd.R_base ho2 k h2; omega); have HO2 := Aside0.mk (Kd.R_lower ho2 (below_size HB1.out)); have HO1' := Aside0.mk (Kd.R_below HO1.out hb2); have HB2 := Aside0.mk (below_step HB1.out hb2); clear ho2 hb2 hg2 hn2))
 go_loopg [6, 7, 9, 14] l.length (fun gg v6 v7 _ v14 wr => ∃ kk : Nat, kk ≤ l.length ∧ l.length - kk ≤ gg ∧ v14 = .int .i64 kk ∧ Aside0 (Kd.R k52 52 wr w.heap.size (fun _ => True) v6 ((l.take kk).filter (fun x => !p x))) ∧ Aside0 (Kd.R k52 52 wr w.heap.size (fun _ => True) v7 ((l.take kk).filter p)) ∧ Aside0 (Go.Proofs.Ytifahfnbjidfhaa.Base.Apart v6 v7) ∧ Aside0 (Below w.heap.size w wr))
 case atStart => exact ⟨0, Nat.zero_le _, by omega, rfl, HO1', HO2, AP, HB2⟩
 case round =>
  obtain ⟨kk, hkk, hg, rfl, HX, HY, AP, HB⟩ := hrel
  by_cases hlt : kk < l.length
  ·skip
   obtain ⟨ad, e, hx0, hx1, hx2, hx3, hx4, hx5, hx6⟩ := at_T52 HR.out (kk : Int) (by omega) (by omega)
   cases e
   replace hx0 := (HB.out.cell (World.block_lt_of_cell? w _ hx0)).trans hx0
   replace hx1 := (HB.out.cell (World.block_lt_of_cell? w _ hx1)).trans hx1
   replace hx2 := (HB.out.cell (World.block_lt_of_cell? w _ hx2)).trans hx2
   replace hx3 := (HB.out.cell (World.block_lt_of_cell? w _ hx3)).trans hx3
   replace hx4 := (HB.out.cell (World.block_lt_of_cell? w _ hx4)).trans hx4
   replace hx5 := (HB.out.cell (World.block_lt_of_cell? w _ hx5)).trans hx5
   replace hx6 := (HB.out.cell (World.block_lt_of_cell? w _ hx6)).trans hx6
   simp only [Int.toNat_natCast] at hx0 hx1 hx2 hx3 hx4 hx5 hx6
   have HQ := Aside0.mk (show Go.Proofs.Ytifahfnbjidfhaa.Base.nth z52 l kk = rd_T52 l (kk : Int) from rfl)
   have hltz : (kk : Int) < (l.length : Int) := by omega
   generalize rd_T52 l (kk : Int) = y at *
   cases hq : p y with
   | true =>
    have HV := Aside0.mk hq
    clear hq
    go_wp2_with fail
    refine (HP.out _ y _ ((Go.Proofs.Ytifahfnbjidfhaa.Base.Same.refl (K := K) w).below HKl.out (below_alloc HB.out _)) (k52_mk _ y)).mono ?_
    rintro e w2 ⟨rfl, hb⟩
    rw [HV.out]
    have HX' := Aside0.mk (Kd.R_below (Kd.R_alloc HX.out _) hb)
    have HY' := Aside0.mk (Kd.R_below (Kd.R_alloc HY.out _) hb)
    have HB' := Aside0.mk (below_step (below_alloc HB.out _) hb)
    have BK' := Aside0.mk (blk_below (blk_new wr _) hb)
    have HL := Aside0.mk (Go.Proofs.Ytifahfnbjidfhaa.Base.take_filter_len p l kk)
    clear hb
    have f0 := blk_frozen BK'.out 0
    have f1 := blk_frozen BK'.out 1
    have f2 := blk_frozen BK'.out 2
    have f3 := blk_frozen BK'.out 3
    have f4 := blk_frozen BK'.out 4
    have f5 := blk_frozen BK'.out 5
    have f6 := blk_frozen BK'.out 6
    have k0 := (blk_cell BK'.out 0).trans rfl
    have k1 := (blk_cell BK'.out 1).trans rfl
    have k2 := (blk_cell BK'.out 2).trans rfl
    have k3 := (blk_cell BK'.out 3).trans rfl
    have k4 := (blk_cell BK'.out 4).trans rfl
    have k5 := (blk_cell BK'.out 5).trans rfl
    have k6 := (blk_cell BK'.out 6).trans rfl
    go_wp2_with (first | ((with_reducible refine gate_builtin (b := .append) (xs := #[.tmp 21, .tmp 23]) rfl ?_); at_builtin; refine Kd.R_append k52 (w0 := w) w.heap.size rfl (.tmp 21) (.tmp 23) 47 52 (.agg #[.int .i64 0, .int .i64 0, .int .i64 0, .int .i64 0, .int .i64 0, .int .i64 0, .bool false]) 56 rfl Try.underlying47 info52 rfl (by decide) (by omega) u7 ((l.take kk).filter p) y [.int .i64 y.f0, .int .i64 y.f1, .int .i64 y.f2, .int .i64 y.f3, .int .i64 y.f4, .int .i64 y.f5, .bool y.f6] (fun _ => True) (fun _ => False) rfl rfl ?aP (fun _ hk => hk.elim) ?aF ?aO ?aB ?aS ?aL ?_; (case aP => exact k52_mkM _ _ _ y); (case aB => exact HB'.out); (case aF => exact (fun _ _ => trivial)); (case aO => exact HY'.out); (case aS => exact HB'.out.size); (case aL => have := HL.out; omega); intro v3 w3 ho hb hg hat; have HO := Aside0.mk ho; have HB2 := Aside0.mk hb; have HG := Aside0.mk hg; have HT := Aside0.mk hat; clear ho hb hg hat))
    have HY2 := HO
    have HX2 := Aside0.mk (Kd.R_grown2 HX'.out rfl HG.out AP.out.other)
    have AP2 := Aside0.mk (AP.out.grown HX'.out HT.out)
    go_roundg (l.length - (kk + 1))
    case measure => omega
    case rel => exact ⟨kk + 1, by omega, by omega, by go_num, ⟨by rw [Go.Proofs.Ytifahfnbjidfhaa.Base.take_filter_no z52 (fun x => !p x) hlt (by rw [HQ.out, HV.out]; rfl)]; exact HX2.out⟩, ⟨by rw [Go.Proofs.Ytifahfnbjidfhaa.Base.take_filter_yes z52 p hlt (by rw [HQ.out]; exact HV.out), HQ.out]; exact HY2.out⟩, AP2, HB2⟩
   | false =>
    have HV := Aside0.mk hq
    clear hq
    go_wp2_with fail
    refine (HP.out _ y _ ((Go.Proofs.Ytifahfnbjidfhaa.Base.Same.refl (K := K) w).below HKl.out (below_alloc HB.out _)) (k52_mk _ y)).mono ?_
    rintro e w2 ⟨rfl, hb⟩
    rw [HV.out]
    have HX' := Aside0.mk (Kd.R_below (Kd.R_alloc HX.out _) hb)
    have HY' := Aside0.mk (Kd.R_below (Kd.R_alloc HY.out _) hb)
    have HB' := Aside0.mk (below_step (below_alloc HB.out _) hb)
    have BK' := Aside0.mk (blk_below (blk_new wr _) hb)
    have HL := Aside0.mk (Go.Proofs.Ytifahfnbjidfhaa.Base.take_filter_len (fun x => !p x) l kk)
    clear hb
    have f0 := blk_frozen BK'.out 0
    have f1 := blk_frozen BK'.out 1
    have f2 := blk_frozen BK'.out 2
    have f3 := blk_frozen BK'.out 3
    have f4 := blk_frozen BK'.out 4
    have f5 := blk_frozen BK'.out 5
    have f6 := blk_frozen BK'.out 6
    have k0 := (blk_cell BK'.out 0).trans rfl
    have k1 := (blk_cell BK'.out 1).trans rfl
    have k2 := (blk_cell BK'.out 2).trans rfl
    have k3 := (blk_cell BK'.out 3).trans rfl
    have k4 := (blk_cell BK'.out 4).trans rfl
    have k5 := (blk_cell BK'.out 5).trans rfl
    have k6 := (blk_cell BK'.out 6).trans rfl
    go_wp2_with (first | ((with_reducible refine gate_builtin (b := .append) (xs := #[.tmp 25, .tmp 27]) rfl ?_); at_builtin; refine Kd.R_append k52 (w0 := w) w.heap.size rfl (.tmp 25) (.tmp 27) 47 52 (.agg #[.int .i64 0, .int .i64 0, .int .i64 0, .int .i64 0, .int .i64 0, .int .i64 0, .bool false]) 56 rfl Try.underlying47 info52 rfl (by decide) (by omega) u6 ((l.take kk).filter (fun x => !p x)) y [.int .i64 y.f0, .int .i64 y.f1, .int .i64 y.f2, .int .i64 y.f3, .int .i64 y.f4, .int .i64 y.f5, .bool y.f6] (fun _ => True) (fun _ => False) rfl rfl ?aP (fun _ hk => hk.elim) ?aF ?aO ?aB ?aS ?aL ?_; (case aP => exact k52_mkM _ _ _ y); (case aB => exact HB'.out); (case aF => exact (fun _ _ => trivial)); (case aO => exact HX'.out); (case aS => exact HB'.out.size); (case aL => have := HL.out; omega); intro v3 w3 ho hb hg hat; have HO := Aside0.mk ho; have HB2 := Aside0.mk hb; have HG := Aside0.mk hg; have HT := Aside0.mk hat; clear ho hb hg hat))
    have HX2 := HO
    have HY2 := Aside0.mk (Kd.R_grown2 HY'.out rfl HG.out AP.out.symm.other)
    have AP2 := Aside0.mk (AP.out.symm.grown HY'.out HT.out).symm
    go_roundg (l.length - (kk + 1))
    case measure => omega
    case rel => exact ⟨kk + 1, by omega, by omega, by go_num, ⟨by rw [Go.Proofs.Ytifahfnbjidfhaa.Base.take_filter_yes z52 (fun x => !p x) hlt (by rw [HQ.out, HV.out]; rfl), HQ.out]; exact HX2.out⟩, ⟨by rw [Go.Proofs.Ytifahfnbjidfhaa.Base.take_filter_no z52 p hlt (by rw [HQ.out]; exact HV.out)]; exact HY2.out⟩, AP2, HB2⟩
  ·have hltz : ¬ (kk : Int) < (l.length : Int) := by omega
   obtain rfl : kk = l.length := by omega
   have HX2 := Aside0.mk (show Kd.R k52 52 wr w.heap.size (fun k => some k ≠ u7.ownBlock) u6 (l.filter (fun x => !p x)) from by have := HX.out; rw [List.take_length] at this; exact Kd.R_flat (fun h => h) this (fun k hk _ he => AP.out k hk he.symm))
   have HY2 := Aside0.mk (show Kd.R k52 52 wr w.heap.size (fun k => some k ≠ u6.ownBlock) u7 (l.filter p) from by have := HY.out; rw [List.take_length] at this; exact Kd.R_flat (fun h => h) this (fun k hk _ he => AP.out k he.symm hk))
   go_wp2
   refine bodyPost_ret (results_tmp2 rfl _ _ _) rfl ?_
   exact ⟨_, _, rfl, HX2.out, HY2.out, HB.out⟩
def isG (vni mac : Int) (x : S52) : Bool := decide (x.f0 = vni) && decide (x.f1 = mac)
set_option maxHeartbeats 800000 in
set_option maxRecDepth 100000 in
theorem guestDrop_pred (vni mac : Int) (b : Nat) (w : World) (hc1 : w.cell? ⟨b, 0, none⟩ = some (.int .i64 vni)) (hc2 : w.cell? ⟨b + 1, 0, none⟩ = some (.int .i64 mac)) :
  Go.Proofs.Ytifahfnbjidfhaa.Base.PredB Try.prog 93 #[.pointer (some ⟨b, 0, none⟩), .pointer (some ⟨b + 1, 0, none⟩)] k52 (isG vni mac) (fun k => k = b ∨ k = b + 1) w := by
 intro W x cs hs hk
 obtain rfl := k52_open hk
 have hl2 : b + 1 < W.heap.size := Nat.lt_of_lt_of_le (World.block_lt_of_cell? w _ hc2) hs.1
 have hl1 : b < W.heap.size := by omega
 replace hc1 := (World.cell?_of_block (a := ⟨b, 0, none⟩) (hs.2 b (.inl rfl))).trans hc1
 replace hc2 := (World.cell?_of_block (a := ⟨b + 1, 0, none⟩) (hs.2 (b + 1) (.inr rfl))).trans hc2
 have hne1 : b ≠ W.heap.size := by omega
 have hne2 : b + 1 ≠ W.heap.size := by omega
 have HB := Aside0.mk ((Below.refl _ W).alloc (Nat.le_refl _) (.cells [.int .i64 x.f0, .int .i64 x.f1, .int .i64 x.f2, .int .i64 x.f3, .int .i64 x.f4, .int .i64 x.f5, .bool x.f6].toArray 52))
 clear hk hs
 obtain ⟨x0, x1, x2, x3, x4, x5, x6⟩ := x
 show Calls Try.prog 93 #[.agg #[.int .i64 x0, .int .i64 x1, .int .i64 x2, .int .i64 x3, .int .i64 x4, .int .i64 x5, .bool x6], .pointer (some ⟨b, 0, none⟩), .pointer (some ⟨b + 1, 0, none⟩)] W _
 by_cases g1 : x0 = vni
 ·by_cases g2 : x1 = mac
  ·have G := Aside0.mk (show isG vni mac ⟨x0, x1, x2, x3, x4, x5, x6⟩ = true by simp [isG, g1, g2])
   have G1 : (x0 == vni) = true := beq_iff_eq.2 g1
   have G2 : (x1 == mac) = true := beq_iff_eq.2 g2
   clear g1 g2
   go_enter Try.func93, Try.ntmps93
   go_wp2
   go_ret
   exact ⟨by rw [G.out]; rfl, HB.out⟩
  ·have G := Aside0.mk (show isG vni mac ⟨x0, x1, x2, x3, x4, x5, x6⟩ = false by simp [isG, g1, g2])
   have G1 : (x0 == vni) = true := beq_iff_eq.2 g1
   have G2 : (x1 == mac) = false := beq_eq_false_iff_ne.2 g2
   clear g1 g2
   go_enter Try.func93, Try.ntmps93
   go_wp2
   go_ret
   exact ⟨by rw [G.out]; rfl, HB.out⟩
 ·have G := Aside0.mk (show isG vni mac ⟨x0, x1, x2, x3, x4, x5, x6⟩ = false by simp [isG, g1])
  have G1 : (x0 == vni) = false := beq_eq_false_iff_ne.2 g1
  clear g1
  go_enter Try.func93, Try.ntmps93
  go_wp2
  go_ret
  exact ⟨by rw [G.out]; rfl, HB.out⟩
/-- What the reference's loop comes to: the code is 6 as long as_ nobody went. -/
theorem drop_loop (l : List S52) (v m : Int) (hn : l.length ≤ 9223372036854775807) : ∀ (k i : Nat) (a b : List S52) (c : Int) (r : List S52 × List S52 × Int), i ≤ l.length → (c = 0 ∧ b ≠ [] ∨ c = 6 ∧ b = []) → spec_l07Drop.l0 k l v m (i : Int) a b c = some r →
  (b ++ (l.drop i).filter (isG v m) ≠ [] ∧ r = (a ++ (l.drop i).filter (fun x => !isG v m x), b ++ (l.drop i).filter (isG v m), 0)) ∨ (b ++ (l.drop i).filter (isG v m) = [] ∧ r = ([], [], 6)) := by
 intro k
 induction k with
 | zero => intro i a b c r _ _ h; cases h
 | succ k ih =>
  intro i a b c r hi hc h
  simp only [spec_l07Drop.l0] at h
  by_cases hlt : i < l.length
  ·rw [if_pos (by omega), if_pos (by omega), show rd_T52 l (i : Int) = Go.Proofs.Ytifahfnbjidfhaa.Base.nth z52 l i from rfl, Go.Proofs.Ytifahfnbjidfhaa.Base.wrap_up hlt hn] at h
   rw [Go.Proofs.Ytifahfnbjidfhaa.Base.drop_nth z52 hlt]
   generalize Go.Proofs.Ytifahfnbjidfhaa.Base.nth z52 l i = y at *
   have keep : isG v m y = false → (if a.length < 2513169434916 then spec_l07Drop.l0 k l v m ((i + 1 : Nat) : Int) (a ++ [y]) b c else none) = some r →
     (b ++ (y :: l.drop (i + 1)).filter (isG v m) ≠ [] ∧ r = (a ++ (y :: l.drop (i + 1)).filter (fun x => !isG v m x), b ++ (y :: l.drop (i + 1)).filter (isG v m), 0)) ∨ (b ++ (y :: l.drop (i + 1)).filter (isG v m) = [] ∧ r = ([], [], 6)) := by
    intro hq h
    by_cases h2 : a.length < 2513169434916
    ·rw [if_pos h2] at h
     rw [List.filter_cons_of_neg (by simp [hq]), List.filter_cons_of_pos (by simp [hq])]
     have := ih (i + 1) _ _ _ r (by omega) hc h
     rw [List.append_assoc] at this
     exact this
    ·rw [if_neg h2] at h
     cases h
   by_cases g1 : y.f0 = v
   ·rw [if_pos g1] at h
    by_cases g2 : y.f1 = m
    ·rw [if_pos g2] at h
     have hq : isG v m y = true := by simp [isG, g1, g2]
     by_cases h2 : b.length < 2513169434916
     ·rw [if_pos h2] at h
      rw [List.filter_cons_of_pos hq, List.filter_cons_of_neg (by simp [hq])]
      have := ih (i + 1) _ _ _ r (by omega) (.inl ⟨rfl, by simp⟩) h
      rw [List.append_assoc] at this
      exact this
     ·rw [if_neg h2] at h
      cases h
    ·rw [if_neg g2] at h
     exact keep (by simp [isG, g2]) h
   ·rw [if_neg g1] at h
    exact keep (by simp [isG, g1]) h
  ·rw [if_neg (by omega)] at h
   rw [List.drop_of_length_le (by omega)]
   simp only [List.filter_nil, List.append_nil]
   rcases hc with ⟨rfl, hb⟩ | ⟨rfl, rfl⟩
   ·rw [if_pos rfl] at h
    exact .inl ⟨hb, (Option.some.inj h).symm⟩
   ·rw [if_neg (by decide)] at h
    simp only [spec_l07Ill.f, Option.bind_some] at h
    exact .inr ⟨rfl, (Option.some.inj h).symm⟩
/-- What the call's steps come to. -/
theorem drop_cases (k : Nat) (l : List S52) (v m : Int) (hn : l.length ≤ 9223372036854775807) (r1 r2 : List S52) (r3 : Int) (h : impl_GuestDrop.f k l v m = some (r1, r2, r3)) :
  (r3 ≠ 0 ∧ impl_guestsCode.f k l true = some r3 ∧ r1 = [] ∧ r2 = []) ∨ (impl_guestsCode.f k l true = some 0 ∧ l.length ≤ 400 ∧ l.filter (isG v m) = [] ∧ r1 = [] ∧ r2 = [] ∧ r3 = 6) ∨ (r3 = 0 ∧ impl_guestsCode.f k l true = some 0 ∧ l.length ≤ 400 ∧ l.filter (isG v m) ≠ [] ∧ r1 = l.filter (fun x => !isG v m x) ∧ r2 = l.filter (isG v m)) := by
 unfold impl_GuestDrop.f at h
 unfold impl_guestsCode.f
 by_cases h0 : (l.length : Int) > 400
 ·rw [if_pos h0] at h ⊢
  simp only [spec_l07Ill.f, Option.bind_some, Option.some.injEq, Prod.mk.injEq] at h
  obtain ⟨rfl, rfl, rfl⟩ := h
  exact .inl ⟨by decide, rfl, rfl, rfl⟩
 ·rw [if_neg h0] at h ⊢
  obtain ⟨g, hg, h⟩ := Option.bind_eq_some_iff.mp h
  rw [hg, Option.bind_some]
  cases g with
  | false =>
   rw [if_neg (by decide)] at h ⊢
   simp only [spec_l07Ill.f, Option.bind_some, Option.some.injEq, Prod.mk.injEq] at h
   obtain ⟨rfl, rfl, rfl⟩ := h
   exact .inl ⟨by decide, rfl, rfl, rfl⟩
  | true =>
   rw [if_pos rfl] at h ⊢
   obtain ⟨q, hq, h⟩ := Option.bind_eq_some_iff.mp h
   have := drop_loop l v m hn k 0 [] [] 6 q (by omega) (.inr ⟨rfl, rfl⟩) hq
   simp only [List.drop_zero, List.nil_append] at this
   simp only [Option.some.injEq, Prod.mk.injEq] at h
   rcases this with ⟨hne, rfl⟩ | ⟨he, rfl⟩
   ·exact .inr (.inr ⟨h.2.2.symm, rfl, by omega, hne, h.1.symm, h.2.1.symm⟩)
   ·exact .inr (.inl ⟨rfl, by omega, he, h.1.symm, h.2.1.symm, h.2.2.symm⟩)
set_option maxHeartbeats 8000000 in
set_option maxRecDepth 100000 in
theorem impl_GuestDrop.calls (k : Nat) (A0 : Option Addr) (c0 : Nat) (l0 : List (S52)) (a1 : Int) (a2 : Int) (r1 : List (S52)) (r2 : List (S52)) (r3 : Int) (w : World) (hr0 : Kd.C k52 w A0 l0.length l0) (hc0 : l0.length ≤ c0) (h : impl_GuestDrop.f k l0 a1 a2 = some (r1, r2, r3)) :
  Calls Try.prog 45 #[.slice A0 l0.length c0, .int .i64 a1, .int .i64 a2] w fun e w' => ∃ v0_ v1_ : Value, e = .returned (.agg #[v0_, v1_, .int .i64 r3]) ∧ Kd.R k52 52 w' w.heap.size (fun k_ => some k_ ≠ (v1_ : Value).ownBlock) v0_ r1 ∧ Kd.R k52 52 w' w.heap.size (fun k_ => some k_ ≠ (v0_ : Value).ownBlock) v1_ r2 ∧ Below w.heap.size w w' := by
 have eg : ∀ args w, (callFunc 93 args).run Try.prog w = .ok (.enter 93 args) w := enters_of Try.func93 (by kernel_rfl) rfl
 have hcase := drop_cases k l0 a1 a2 hr0.2.1 r1 r2 r3 h
 have HR := Aside0.mk hr0
 have HC := Aside0.mk hc0
 have bk1 := blk_new w (.cells #[.int .i64 a1] 2)
 have bk2 := blk_new (w.alloc (.cells #[.int .i64 a1] 2)) (.cells #[.int .i64 a2] 2)
 have bk3 := blk_new ((w.alloc (.cells #[.int .i64 a1] 2)).alloc (.cells #[.int .i64 a2] 2)) (.cells #[.slice none 0 0, .slice none 0 0, .int .i64 0] 57)
 rw [World.size_alloc] at bk2
 rw [World.size_alloc, World.size_alloc] at bk3
 have BL := Aside0.mk (blk_alloc (blk_alloc bk1 (.cells #[.int .i64 a2] 2)) (.cells #[.slice none 0 0, .slice none 0 0, .int .i64 0] 57))
 have BM := Aside0.mk (blk_alloc bk2 (.cells #[.slice none 0 0, .slice none 0 0, .int .i64 0] 57))
 have BK := Aside0.mk bk3
 have B1 := Aside0.mk ((((Below.refl _ w).alloc (Nat.le_refl _) (.cells #[.int .i64 a1] 2)).alloc (by simp) (.cells #[.int .i64 a2] 2)).alloc (by simp; omega) (.cells #[.slice none 0 0, .slice none 0 0, .int .i64 0] 57))
 clear h hr0 hc0 bk1 bk2 bk3
 rcases hcase with ⟨hne, hcode, rfl, rfl⟩ | ⟨hcode, hlen, he, rfl, rfl, rfl⟩ | ⟨rfl, hcode, hlen, hne, hx1, hx2⟩
 ·have HCo := Aside0.mk hcode
  have hne1 : (r3 != 0) = true := by simpa using hne
  clear hcode hne
  go_enter Try.func45, Try.ntmps45
  go_wp2_with fail
  refine (impl_guestsCode.calls k _ _ l0 true _ _ (Kd.C_below HR.out B1.out) HC.out HCo.out).mono ?_
  rintro e w2 ⟨rfl, hb⟩
  have B2 := Aside0.mk (below_step B1.out hb)
  have BK2 := Aside0.mk (blk_below BK.out hb)
  clear hb
  have f0 := blk_frozen BK2.out 0
  have f1 := blk_frozen BK2.out 1
  have f2 := blk_frozen BK2.out 2
  have k0 := (blk_cell BK2.out 0).trans rfl
  have k1 := (blk_cell BK2.out 1).trans rfl
  have k2 := (blk_cell BK2.out 2).trans rfl
  have HF := Aside0.mk (blk_set (blk_set (blk_set BK2.out 0 (.slice none 0 0)) 1 (.slice none 0 0)) 2 (.int .i64 r3))
  go_wp2
  refine bodyPost_ret (v := .agg #[.slice none 0 0, .slice none 0 0, .int .i64 r3]) ?_ rfl ⟨_, _, rfl, Kd.R_nil _ _ _ _ _, Kd.R_nil _ _ _ _ _, ?_⟩
  ·refine results_cell_row (fn := Try.f45) (p := 6) (ty := 57) ?_ _ _ (w.heap.size + 1 + 1) 57 #[.slice none 0 0, .slice none 0 0, .int .i64 r3] (0, 0) _ ?_ HF.out Try.underlying57 ?_ ?_
   all_goals first | rfl | kernel_rfl
  ·exact (((B2.out.setCell (by simp; omega) _).setCell (by simp; omega) _).setCell (by simp; omega) _)
 ·have HCo := Aside0.mk hcode
  have HL := Aside0.mk hlen
  have HE := Aside0.mk he
  clear hcode hlen he
  go_enter Try.func45, Try.ntmps45
  go_wp2_with fail
  refine (impl_guestsCode.calls k _ _ l0 true _ _ (Kd.C_below HR.out B1.out) HC.out HCo.out).mono ?_
  rintro e w2 ⟨rfl, hb⟩
  have B2 := Aside0.mk (below_step B1.out hb)
  have BK2 := Aside0.mk (blk_below BK.out hb)
  have BL2 := Aside0.mk (blk_below BL.out hb)
  have BM2 := Aside0.mk (blk_below BM.out hb)
  clear hb
  go_wp2_with fail
  refine (guestsWithout_calls 93 #[.pointer (some ⟨w.heap.size, 0, none⟩), .pointer (some ⟨w.heap.size + 1, 0, none⟩)] eg (isG a1 a2) (fun k => k = w.heap.size ∨ k = w.heap.size + 1) _ _ l0 _ (by have := HL.out; omega) (Kd.C_below HR.out B2.out) (fun k hk => by rcases hk with rfl | rfl; exact blk_lt BL2.out; exact blk_lt BM2.out) (guestDrop_pred a1 a2 w.heap.size _ ((blk_cell BL2.out 0).trans rfl) ((blk_cell BM2.out 0).trans rfl))).mono ?_
  rintro e w3 ⟨v1, v2, rfl, h1, h2, hb⟩
  rw [HE.out] at h2
  have B3 := Aside0.mk (below_step B2.out hb)
  have BK3 := Aside0.mk (blk_below BK2.out hb)
  obtain ⟨A1, c1, e1⟩ := Kd.R_slice h1
  subst e1
  obtain ⟨A2, c2, e2⟩ := Kd.R_slice h2
  subst e2
  clear h1 h2 hb
  simp only [List.length_nil]
  have f0 := blk_frozen BK3.out 0
  have f1 := blk_frozen BK3.out 1
  have f2 := blk_frozen BK3.out 2
  have k0 := (blk_cell BK3.out 0).trans rfl
  have k1 := (blk_cell BK3.out 1).trans rfl
  have k2 := (blk_cell BK3.out 2).trans rfl
  have HF := Aside0.mk (blk_set (blk_set (blk_set BK3.out 0 (.slice none 0 0)) 1 (.slice none 0 0)) 2 (.int .i64 6))
  go_wp2
  refine bodyPost_ret (v := .agg #[.slice none 0 0, .slice none 0 0, .int .i64 6]) ?_ rfl ⟨_, _, rfl, Kd.R_nil _ _ _ _ _, Kd.R_nil _ _ _ _ _, ?_⟩
  ·refine results_cell_row (fn := Try.f45) (p := 6) (ty := 57) ?_ _ _ (w.heap.size + 1 + 1) 57 #[.slice none 0 0, .slice none 0 0, .int .i64 6] (0, 0) _ ?_ HF.out Try.underlying57 ?_ ?_
   all_goals first | rfl | kernel_rfl
  ·exact (((B3.out.setCell (by simp; omega) _).setCell (by simp; omega) _).setCell (by simp; omega) _)
 ·have HCo := Aside0.mk hcode
  have HL := Aside0.mk hlen
  have E1 := Aside0.mk hx1
  have E2 := Aside0.mk hx2
  have hn0 : 0 < r2.length := by rw [hx2]; exact List.length_pos_iff.2 hne
  have hn1 : ((r2.length : Int) == 0) = false := beq_eq_false_iff_ne.2 (by omega)
  clear hcode hlen hx1 hx2 hne
  go_enter Try.func45, Try.ntmps45
  go_wp2_with fail
  refine (impl_guestsCode.calls k _ _ l0 true _ _ (Kd.C_below HR.out B1.out) HC.out HCo.out).mono ?_
  rintro e w2 ⟨rfl, hb⟩
  have B2 := Aside0.mk (below_step B1.out hb)
  have BK2 := Aside0.mk (blk_below BK.out hb)
  have BL2 := Aside0.mk (blk_below BL.out hb)
  have BM2 := Aside0.mk (blk_below BM.out hb)
  clear hb
  go_wp2_with fail
  refine (guestsWithout_calls 93 #[.pointer (some ⟨w.heap.size, 0, none⟩), .pointer (some ⟨w.heap.size + 1, 0, none⟩)] eg (isG a1 a2) (fun k => k = w.heap.size ∨ k = w.heap.size + 1) _ _ l0 _ (by have := HL.out; omega) (Kd.C_below HR.out B2.out) (fun k hk => by rcases hk with rfl | rfl; exact blk_lt BL2.out; exact blk_lt BM2.out) (guestDrop_pred a1 a2 w.heap.size _ ((blk_cell BL2.out 0).trans rfl) ((blk_cell BM2.out 0).trans rfl))).mono ?_
  rintro e w3 ⟨v1, v2, rfl, h1, h2, hb⟩
  rw [← E1.out] at h1
  rw [← E2.out] at h2
  have H1 := Aside0.mk (Kd.R_lower h1 B2.out.size)
  have H2 := Aside0.mk (Kd.R_lower h2 B2.out.size)
  have B3 := Aside0.mk (below_step B2.out hb)
  have BK3 := Aside0.mk (blk_below BK2.out hb)
  clear h1 h2 hb
  obtain ⟨A1, c1, e1⟩ := Kd.R_slice H1.out
  subst e1
  obtain ⟨A2, c2, e2⟩ := Kd.R_slice H2.out
  subst e2
  have f0 := blk_frozen BK3.out 0
  have f1 := blk_frozen BK3.out 1
  have f2 := blk_frozen BK3.out 2
  have k0 := (blk_cell BK3.out 0).trans rfl
  have k1 := (blk_cell BK3.out 1).trans rfl
  have k2 := (blk_cell BK3.out 2).trans rfl
  have HF := Aside0.mk (blk_set (blk_set (blk_set BK3.out 0 (.slice A1 r1.length c1)) 1 (.slice A2 r2.length c2)) 2 (.int .i64 0))
  have HX := Aside0.mk (Kd.R_set (Kd.R_set (Kd.R_set H1.out BK3.out (by decide) 0 (.slice A1 r1.length c1)) (blk_set BK3.out 0 _) (by decide) 1 (.slice A2 r2.length c2)) (blk_set (blk_set BK3.out 0 _) 1 _) (by decide) 2 (.int .i64 0))
  have HY := Aside0.mk (Kd.R_set (Kd.R_set (Kd.R_set H2.out BK3.out (by decide) 0 (.slice A1 r1.length c1)) (blk_set BK3.out 0 _) (by decide) 1 (.slice A2 r2.length c2)) (blk_set (blk_set BK3.out 0 _) 1 _) (by decide) 2 (.int .i64 0))
  go_wp2
  refine bodyPost_ret (v := .agg #[.slice A1 r1.length c1, .slice A2 r2.length c2, .int .i64 0]) ?_ rfl ⟨_, _, rfl, HX.out, HY.out, ?_⟩
  ·refine results_cell_row (fn := Try.f45) (p := 6) (ty := 57) ?_ _ _ (w.heap.size + 1 + 1) 57 #[.slice A1 r1.length c1, .slice A2 r2.length c2, .int .i64 0] (0, 0) _ ?_ HF.out Try.underlying57 ?_ ?_
   all_goals first | rfl | kernel_rfl
  ·exact (((B3.out.setCell (by simp; omega) _).setCell (by simp; omega) _).setCell (by simp; omega) _)

/-! ### laws_FnExactGuestDrop: function 10 -/
def laws_FnExactGuestDrop.j0 : Nat → List (S64) → Int → Int → Bool → List (S52) → List (S52) → Int → List (S52) → List (S52) → Int → Option (Bool)
 | 0, _, _, _, _, _, _, _, _, _, _ => none
 | k + 1, x0, x1, x2, x50, x280000, x280001, x280002, x291000, x291001, x291002 => if x50 = true then (some false) else ((laws_markGuestsOut.f k x291000 x291001 x291002 1).bind fun bt299 => ((laws_heldGuestsOut.f k bt299.2.1 bt299.2.2 x291002 1).bind fun t302 => (if t302 < 0 then (some false) else (if t302 = bt299.1 then ((laws_toGuestS.f k x0).bind fun t303 => ((impl_GuestDrop.f k t303 x1 x2).bind fun bt306 => ((laws_eqGuestsOut.f k bt306.1 bt306.2.1 bt306.2.2 x280000 x280001 x280002).bind fun t314 => (if t314 = true then ((laws_heldGuestsOut.f k bt299.2.1 bt299.2.2 x291002 1).bind fun t315 => (if t315 < 0 then (some false) else (if t315 = bt299.1 then (some true) else (some false)))) else (some false))))) else (some false)))))
def laws_FnExactGuestDrop.f (k : Nat) (l0 : List (S64)) (a1 : Int) (a2 : Int) : Option (Bool) := (laws_szGuestS.f l0 1048576).bind fun t268 => (if t268 < 0 then (some true) else ((laws_toGuestS.f k l0).bind fun t269 => ((spec_GuestDrop.f k t269 a1 a2).bind fun bt272 => ((laws_toGuestS.f k l0).bind fun t280 => ((impl_GuestDrop.f k t280 a1 a2).bind fun bt283 => ((laws_eqGuestsOut.f k bt283.1 bt283.2.1 bt283.2.2 bt272.1 bt272.2.1 bt272.2.2).bind fun t291 => (if t291 = true then ((laws_toGuestS.f k l0).bind fun t292 => ((laws_eqGuestS.f k t280 t292).bind fun t295 => (if t295 = true then ((laws_markGuestS.f k t280 1).bind fun bt296 => (if bt296.1 < 0 then (laws_FnExactGuestDrop.j0 k l0 a1 a2 true bt272.1 bt272.2.1 bt272.2.2 bt283.1 bt283.2.1 bt283.2.2) else ((laws_eqGuestsOut.f k bt283.1 bt283.2.1 bt283.2.2 bt272.1 bt272.2.1 bt272.2.2).bind fun t298 => (laws_FnExactGuestDrop.j0 k l0 a1 a2 (!t298) bt272.1 bt272.2.1 bt272.2.2 bt283.1 bt283.2.1 bt283.2.2)))) else (some false)))) else (some false))))))))
theorem laws_FnExactGuestDrop.mono_l : ∀ k, (∀ y0 y1 y2 y3 y4 y5 y6 y7 y8 y9, LeO (laws_FnExactGuestDrop.j0 k y0 y1 y2 y3 y4 y5 y6 y7 y8 y9) (laws_FnExactGuestDrop.j0 (k + 1) y0 y1 y2 y3 y4 y5 y6 y7 y8 y9))
 | 0 => fun _ _ _ _ _ _ _ _ _ _ r h => by simp [laws_FnExactGuestDrop.j0] at h
 | k + 1 => by
  have ih0 := laws_FnExactGuestDrop.mono_l k
  ·intro y0 y1 y2 y3 y4 y5 y6 y7 y8 y9
   unfold laws_FnExactGuestDrop.j0
   repeat' first
   | (with_reducible exact ih0 _ _ _ _ _ _ _ _ _ _)
   | (with_reducible exact impl_GuestDrop.mono _ _ _ _)
   | (with_reducible exact laws_eqGuestS.mono _ _ _)
   | (with_reducible exact laws_eqGuestsOut.mono _ _ _ _ _ _ _)
   | (with_reducible exact laws_heldGuestsOut.mono _ _ _ _ _)
   | (with_reducible exact laws_markGuestS.mono _ _ _)
   | (with_reducible exact laws_markGuestsOut.mono _ _ _ _ _)
   | (with_reducible exact laws_toGuestS.mono _ _)
   | (with_reducible exact spec_GuestDrop.mono _ _ _ _)
   | (with_reducible exact LeO.refl _)
   | (with_reducible exact LeO.none _)
   | (with_reducible refine LeO.ite ?_ ?_)
   | (with_reducible refine LeO.bind ?_ (fun _ => ?_))
   | exact ih0 _ _ _ _ _ _ _ _ _ _
   | exact impl_GuestDrop.mono _ _ _ _
   | exact laws_eqGuestS.mono _ _ _
   | exact laws_eqGuestsOut.mono _ _ _ _ _ _ _
   | exact laws_heldGuestsOut.mono _ _ _ _ _
   | exact laws_markGuestS.mono _ _ _
   | exact laws_markGuestsOut.mono _ _ _ _ _
   | exact laws_toGuestS.mono _ _
   | exact spec_GuestDrop.mono _ _ _ _
   | exact LeO.none _
   | refine LeO.ite ?_ ?_
   | refine LeO.bind ?_ (fun _ => ?_)
theorem laws_FnExactGuestDrop.mono : ∀ a0 a1 a2 k, LeO (laws_FnExactGuestDrop.f k a0 a1 a2) (laws_FnExactGuestDrop.f (k + 1) a0 a1 a2) := by
 intro a0 a1 a2 k
 have ih0 := laws_FnExactGuestDrop.mono_l k
 unfold laws_FnExactGuestDrop.f
 repeat' first
   | (with_reducible exact ih0 _ _ _ _ _ _ _ _ _ _)
   | (with_reducible exact impl_GuestDrop.mono _ _ _ _)
   | (with_reducible exact laws_eqGuestS.mono _ _ _)
   | (with_reducible exact laws_eqGuestsOut.mono _ _ _ _ _ _ _)
   | (with_reducible exact laws_heldGuestsOut.mono _ _ _ _ _)
   | (with_reducible exact laws_markGuestS.mono _ _ _)
   | (with_reducible exact laws_markGuestsOut.mono _ _ _ _ _)
   | (with_reducible exact laws_toGuestS.mono _ _)
   | (with_reducible exact spec_GuestDrop.mono _ _ _ _)
   | (with_reducible exact LeO.refl _)
   | (with_reducible exact LeO.none _)
   | (with_reducible refine LeO.ite ?_ ?_)
   | (with_reducible refine LeO.bind ?_ (fun _ => ?_))
   | exact ih0 _ _ _ _ _ _ _ _ _ _
   | exact impl_GuestDrop.mono _ _ _ _
   | exact laws_eqGuestS.mono _ _ _
   | exact laws_eqGuestsOut.mono _ _ _ _ _ _ _
   | exact laws_heldGuestsOut.mono _ _ _ _ _
   | exact laws_markGuestS.mono _ _ _
   | exact laws_markGuestsOut.mono _ _ _ _ _
   | exact laws_toGuestS.mono _ _
   | exact spec_GuestDrop.mono _ _ _ _
   | exact LeO.none _
   | refine LeO.ite ?_ ?_
   | refine LeO.bind ?_ (fun _ => ?_)
set_option maxHeartbeats 8000000 in
set_option maxRecDepth 100000 in
theorem laws_FnExactGuestDrop.calls_true (k : Nat) (A0 : Option Addr) (c0 : Nat) (l0 : List (S64)) (a1 : Int) (a2 : Int) (w : World) (hr0 : Kd.C k64 w A0 l0.length l0) (hc0 : l0.length ≤ c0) (h : laws_FnExactGuestDrop.f k l0 a1 a2 = some true) :
  Calls Try.prog 10 #[.slice A0 l0.length c0, .int .i64 a1, .int .i64 a2] w fun e w' => e = .returned (.bool true) ∧ Below w.heap.size w w' := by
 have hu57 := Try.underlying57
 have HR0 := Aside0.mk hr0
 have HC0 := Aside0.mk hc0
 clear hr0 hc0
 have HB := Aside0.mk (Below.refl w.heap.size w)
 have H : ((laws_szGuestS.f l0 1048576).bind fun t268 => (if t268 < 0 then (some true) else ((laws_toGuestS.f k l0).bind fun t269 => ((spec_GuestDrop.f k t269 a1 a2).bind fun bt272 => ((laws_toGuestS.f k l0).bind fun t280 => ((impl_GuestDrop.f k t280 a1 a2).bind fun bt283 => ((laws_eqGuestsOut.f k bt283.1 bt283.2.1 bt283.2.2 bt272.1 bt272.2.1 bt272.2.2).bind fun t291 => (if t291 = true then ((laws_toGuestS.f k l0).bind fun t292 => ((laws_eqGuestS.f k t280 t292).bind fun t295 => (if t295 = true then ((laws_markGuestS.f k t280 1).bind fun bt296 => (if bt296.1 < 0 then (laws_FnExactGuestDrop.j0 k l0 a1 a2 true bt272.1 bt272.2.1 bt272.2.2 bt283.1 bt283.2.1 bt283.2.2) else ((laws_eqGuestsOut.f k bt283.1 bt283.2.1 bt283.2.2 bt272.1 bt272.2.1 bt272.2.2).bind fun t298 => (laws_FnExactGuestDrop.j0 k l0 a1 a2 (!t298) bt272.1 bt272.2.1 bt272.2.2 bt283.1 bt283.2.1 bt283.2.2)))) else (some false)))) else (some false))))))))) = some true := h
 clear h
 replace H := Option.bind_eq_some_iff.mp H
 obtain ⟨t268, A40, H⟩ := H
 replace H : (if t268 < 0 then (some true) else ((laws_toGuestS.f k l0).bind fun t269 => ((spec_GuestDrop.f k t269 a1 a2).bind fun bt272 => ((laws_toGuestS.f k l0).bind fun t280 => ((impl_GuestDrop.f k t280 a1 a2).bind fun bt283 => ((laws_eqGuestsOut.f k bt283.1 bt283.2.1 bt283.2.2 bt272.1 bt272.2.1 bt272.2.2).bind fun t291 => (if t291 = true then ((laws_toGuestS.f k l0).bind fun t292 => ((laws_eqGuestS.f k t280 t292).bind fun t295 => (if t295 = true then ((laws_markGuestS.f k t280 1).bind fun bt296 => (if bt296.1 < 0 then (laws_FnExactGuestDrop.j0 k l0 a1 a2 true bt272.1 bt272.2.1 bt272.2.2 bt283.1 bt283.2.1 bt283.2.2) else ((laws_eqGuestsOut.f k bt283.1 bt283.2.1 bt283.2.2 bt272.1 bt272.2.1 bt272.2.2).bind fun t298 => (laws_FnExactGuestDrop.j0 k l0 a1 a2 (!t298) bt272.1 bt272.2.1 bt272.2.2 bt283.1 bt283.2.1 bt283.2.2)))) else (some false)))) else (some false)))))))) = some true := H
 have A4 := Aside0.mk A40
 clear A40
 by_cases c5 : t268 < 0
 ·rw [if_pos c5] at H
  have c5b0 : decide (t268 < 0) = true := decide_eq_true c5
  clear c5
  clear H
  go_enter Try.func10, Try.ntmps10
  go_wp2_with (first | ((with_reducible refine gate_callee (f := 30) rfl ?_); refine goesL_ (some 17) rfl rfl Try.func30 (by kernel_rfl) rfl #[.slice A0 l0.length c0, .int .i64 1048576] rfl (by (try simp only [List.map_toArray, List.map_cons, List.map_nil]); first | done | rfl | (simp only [List.length_drop, List.length_take]; rfl)) ?_; (with_reducible refine (laws_szGuestS.calls _ _ l0 1048576 t268 _ ?side1 ?side2 A4.out).mono ?_); (case side1 => repeat (first | exact HR0.out | (with_reducible refine Kd.C_alloc ?_ _) | (with_reducible refine Kd.C_drewN ?_ _) | (with_reducible refine Kd.C_drew ?_))); (case side2 => exact HC0.out); rintro e w' ⟨rfl, ⟨nd, rfl⟩⟩; refine ⟨_, rfl, ?_⟩))
  go_ret
  exact ⟨by first | rfl | (simp [errW_none, errW_some] <;> rfl) | (simp [*, errW_none, errW_some] <;> rfl), by repeat (first | (with_reducible first | exact HB.out | apply below_alloc | apply pw_below_drewN | apply below_drew1) | exact HB.out)⟩
 ·rw [if_neg c5] at H
  have c5b0 : decide (t268 < 0) = false := decide_eq_false c5
  clear c5
  replace H := Option.bind_eq_some_iff.mp H
  obtain ⟨t269, A60, H⟩ := H
  replace H : ((spec_GuestDrop.f k t269 a1 a2).bind fun bt272 => ((laws_toGuestS.f k l0).bind fun t280 => ((impl_GuestDrop.f k t280 a1 a2).bind fun bt283 => ((laws_eqGuestsOut.f k bt283.1 bt283.2.1 bt283.2.2 bt272.1 bt272.2.1 bt272.2.2).bind fun t291 => (if t291 = true then ((laws_toGuestS.f k l0).bind fun t292 => ((laws_eqGuestS.f k t280 t292).bind fun t295 => (if t295 = true then ((laws_markGuestS.f k t280 1).bind fun bt296 => (if bt296.1 < 0 then (laws_FnExactGuestDrop.j0 k l0 a1 a2 true bt272.1 bt272.2.1 bt272.2.2 bt283.1 bt283.2.1 bt283.2.2) else ((laws_eqGuestsOut.f k bt283.1 bt283.2.1 bt283.2.2 bt272.1 bt272.2.1 bt272.2.2).bind fun t298 => (laws_FnExactGuestDrop.j0 k l0 a1 a2 (!t298) bt272.1 bt272.2.1 bt272.2.2 bt283.1 bt283.2.1 bt283.2.2)))) else (some false)))) else (some false)))))) = some true := H
  have A6 := Aside0.mk A60
  clear A60
  replace H := Option.bind_eq_some_iff.mp H
  obtain ⟨⟨t272, t275, t278⟩, A70, H⟩ := H
  replace H : ((laws_toGuestS.f k l0).bind fun t280 => ((impl_GuestDrop.f k t280 a1 a2).bind fun bt283 => ((laws_eqGuestsOut.f k bt283.1 bt283.2.1 bt283.2.2 t272 t275 t278).bind fun t291 => (if t291 = true then ((laws_toGuestS.f k l0).bind fun t292 => ((laws_eqGuestS.f k t280 t292).bind fun t295 => (if t295 = true then ((laws_markGuestS.f k t280 1).bind fun bt296 => (if bt296.1 < 0 then (laws_FnExactGuestDrop.j0 k l0 a1 a2 true t272 t275 t278 bt283.1 bt283.2.1 bt283.2.2) else ((laws_eqGuestsOut.f k bt283.1 bt283.2.1 bt283.2.2 t272 t275 t278).bind fun t298 => (laws_FnExactGuestDrop.j0 k l0 a1 a2 (!t298) t272 t275 t278 bt283.1 bt283.2.1 bt283.2.2)))) else (some false)))) else (some false))))) = some true := H
  have A7 := Aside0.mk A70
  clear A70
  replace H := Option.bind_eq_some_iff.mp H
  obtain ⟨t280, A80, H⟩ := H
  replace H : ((impl_GuestDrop.f k t280 a1 a2).bind fun bt283 => ((laws_eqGuestsOut.f k bt283.1 bt283.2.1 bt283.2.2 t272 t275 t278).bind fun t291 => (if t291 = true then ((laws_toGuestS.f k l0).bind fun t292 => ((laws_eqGuestS.f k t280 t292).bind fun t295 => (if t295 = true then ((laws_markGuestS.f k t280 1).bind fun bt296 => (if bt296.1 < 0 then (laws_FnExactGuestDrop.j0 k l0 a1 a2 true t272 t275 t278 bt283.1 bt283.2.1 bt283.2.2) else ((laws_eqGuestsOut.f k bt283.1 bt283.2.1 bt283.2.2 t272 t275 t278).bind fun t298 => (laws_FnExactGuestDrop.j0 k l0 a1 a2 (!t298) t272 t275 t278 bt283.1 bt283.2.1 bt283.2.2)))) else (some false)))) else (some false)))) = some true := H
  have A8 := Aside0.mk A80
  clear A80
  replace H := Option.bind_eq_some_iff.mp H
  obtain ⟨⟨t283, t286, t289⟩, A90, H⟩ := H
  replace H : ((laws_eqGuestsOut.f k t283 t286 t289 t272 t275 t278).bind fun t291 => (if t291 = true then ((laws_toGuestS.f k l0).bind fun t292 => ((laws_eqGuestS.f k t280 t292).bind fun t295 => (if t295 = true then ((laws_markGuestS.f k t280 1).bind fun bt296 => (if bt296.1 < 0 then (laws_FnExactGuestDrop.j0 k l0 a1 a2 true t272 t275 t278 t283 t286 t289) else ((laws_eqGuestsOut.f k t283 t286 t289 t272 t275 t278).bind fun t298 => (laws_FnExactGuestDrop.j0 k l0 a1 a2 (!t298) t272 t275 t278 t283 t286 t289)))) else (some false)))) else (some false))) = some true := H
  have A9 := Aside0.mk A90
  clear A90
  replace H := Option.bind_eq_some_iff.mp H
  obtain ⟨t291, A100, H⟩ := H
  replace H : (if t291 = true then ((laws_toGuestS.f k l0).bind fun t292 => ((laws_eqGuestS.f k t280 t292).bind fun t295 => (if t295 = true then ((laws_markGuestS.f k t280 1).bind fun bt296 => (if bt296.1 < 0 then (laws_FnExactGuestDrop.j0 k l0 a1 a2 true t272 t275 t278 t283 t286 t289) else ((laws_eqGuestsOut.f k t283 t286 t289 t272 t275 t278).bind fun t298 => (laws_FnExactGuestDrop.j0 k l0 a1 a2 (!t298) t272 t275 t278 t283 t286 t289)))) else (some false)))) else (some false)) = some true := H
  have A10 := Aside0.mk A100
  clear A100
  by_cases c11 : t291 = true
  ·subst c11
   have H1 : ((laws_toGuestS.f k l0).bind fun t292 => ((laws_eqGuestS.f k t280 t292).bind fun t295 => (if t295 = true then ((laws_markGuestS.f k t280 1).bind fun bt296 => (if bt296.1 < 0 then (laws_FnExactGuestDrop.j0 k l0 a1 a2 true t272 t275 t278 t283 t286 t289) else ((laws_eqGuestsOut.f k t283 t286 t289 t272 t275 t278).bind fun t298 => (laws_FnExactGuestDrop.j0 k l0 a1 a2 (!t298) t272 t275 t278 t283 t286 t289)))) else (some false)))) = some true := by rw [if_pos rfl] at H; exact H
   clear H
   have H := H1
   clear H1
   replace H := Option.bind_eq_some_iff.mp H
   obtain ⟨t292, A120, H⟩ := H
   replace H : ((laws_eqGuestS.f k t280 t292).bind fun t295 => (if t295 = true then ((laws_markGuestS.f k t280 1).bind fun bt296 => (if bt296.1 < 0 then (laws_FnExactGuestDrop.j0 k l0 a1 a2 true t272 t275 t278 t283 t286 t289) else ((laws_eqGuestsOut.f k t283 t286 t289 t272 t275 t278).bind fun t298 => (laws_FnExactGuestDrop.j0 k l0 a1 a2 (!t298) t272 t275 t278 t283 t286 t289)))) else (some false))) = some true := H
   have A12 := Aside0.mk A120
   clear A120
   replace H := Option.bind_eq_some_iff.mp H
   obtain ⟨t295, A130, H⟩ := H
   replace H : (if t295 = true then ((laws_markGuestS.f k t280 1).bind fun bt296 => (if bt296.1 < 0 then (laws_FnExactGuestDrop.j0 k l0 a1 a2 true t272 t275 t278 t283 t286 t289) else ((laws_eqGuestsOut.f k t283 t286 t289 t272 t275 t278).bind fun t298 => (laws_FnExactGuestDrop.j0 k l0 a1 a2 (!t298) t272 t275 t278 t283 t286 t289)))) else (some false)) = some true := H
   have A13 := Aside0.mk A130
   clear A130
   by_cases c14 : t295 = true
   ·subst c14
    have H1 : ((laws_markGuestS.f k t280 1).bind fun bt296 => (if bt296.1 < 0 then (laws_FnExactGuestDrop.j0 k l0 a1 a2 true t272 t275 t278 t283 t286 t289) else ((laws_eqGuestsOut.f k t283 t286 t289 t272 t275 t278).bind fun t298 => (laws_FnExactGuestDrop.j0 k l0 a1 a2 (!t298) t272 t275 t278 t283 t286 t289)))) = some true := by rw [if_pos rfl] at H; exact H
    clear H
    have H := H1
    clear H1
    replace H := Option.bind_eq_some_iff.mp H
    obtain ⟨⟨t296, t297⟩, A150, H⟩ := H
    replace H : (if t296 < 0 then (laws_FnExactGuestDrop.j0 k l0 a1 a2 true t272 t275 t278 t283 t286 t289) else ((laws_eqGuestsOut.f k t283 t286 t289 t272 t275 t278).bind fun t298 => (laws_FnExactGuestDrop.j0 k l0 a1 a2 (!t298) t272 t275 t278 t283 t286 t289))) = some true := H
    have A15 := Aside0.mk A150
    clear A150
    have HC16 := Aside0.mk H
    clear H
    go_enter Try.func10, Try.ntmps10
    go_upto_region 14 with (first | ((with_reducible refine gate_callee (f := 30) rfl ?_); refine goesL_ (some 17) rfl rfl Try.func30 (by kernel_rfl) rfl #[.slice A0 l0.length c0, .int .i64 1048576] rfl (by (try simp only [List.map_toArray, List.map_cons, List.map_nil]); first | done | rfl | (simp only [List.length_drop, List.length_take]; rfl)) ?_; (with_reducible refine (laws_szGuestS.calls _ _ l0 1048576 t268 _ ?side1 ?side2 A4.out).mono ?_); (case side1 => repeat (first | exact HR0.out | (with_reducible refine Kd.C_alloc ?_ _) | (with_reducible refine Kd.C_drewN ?_ _) | (with_reducible refine Kd.C_drew ?_))); (case side2 => exact HC0.out); rintro e w' ⟨rfl, ⟨nd, rfl⟩⟩; refine ⟨_, rfl, ?_⟩) | ((with_reducible refine gate_callee (f := 32) rfl ?_); refine goesL_ (some 21) rfl rfl Try.func32 (by kernel_rfl) rfl #[.slice A0 l0.length c0] rfl (by (try simp only [List.map_toArray, List.map_cons, List.map_nil]); first | done | rfl | (simp only [List.length_drop, List.length_take]; rfl)) ?_; (with_reducible refine (laws_toGuestS.calls k _ _ l0 t269 _ ?side1 ?side2 A6.out).mono ?_); (case side1 => repeat (first | exact HR0.out | (with_reducible refine Kd.C_alloc ?_ _) | (with_reducible refine Kd.C_drewN ?_ _) | (with_reducible refine Kd.C_drew ?_))); (case side2 => exact HC0.out); rintro e w17 ⟨v270, rfl, ho0, hb⟩; refine ⟨_, rfl, ?_⟩; have n0_ := Aside0.mk (Kd.R_lower ho0 (below_size (by repeat (first | (with_reducible first | exact HB.out | apply below_alloc | apply pw_below_drewN | apply below_drew1) | exact HB.out)))); have n1_ := Aside0.mk (below_step (by repeat (first | (with_reducible first | exact HB.out | apply below_alloc | apply pw_below_drewN | apply below_drew1) | exact HB.out)) hb); clear HB; have HO271 := n0_; have HB := n1_; clear n0_ n1_; (try clear hb); (try clear hb2); (try clear hk); (try clear hi); (try clear ho0); obtain ⟨Ao18, co18, eo18⟩ := Kd.R_slice HO271.out; subst eo18) | ((with_reducible refine gate_callee (f := 44) rfl ?_); refine goesL_ (some 24) rfl rfl Try.func44 (by kernel_rfl) rfl #[.slice Ao18 t269.length co18, .int .i64 a1, .int .i64 a2] rfl (by (try simp only [List.map_toArray, List.map_cons, List.map_nil]); first | done | rfl | (simp only [List.length_drop, List.length_take]; rfl)) ?_; (with_reducible refine (spec_GuestDrop.calls k _ _ t269 a1 a2 t272 t275 t278 _ ?side1 ?side2 A7.out).mono ?_); (case side1 => repeat (first | exact (Kd.R_reads' HO271.out).2.2 | (with_reducible refine Kd.C_alloc ?_ _) | (with_reducible refine Kd.C_drewN ?_ _) | (with_reducible refine Kd.C_drew ?_))); (case side2 => exact (Kd.R_reads' HO271.out).2.1); rintro e w19 ⟨v273, v276, rfl, ho0, ho1, hb⟩; refine ⟨_, rfl, ?_⟩; have n0_ := Aside0.mk (Kd.R_mono (Kd.R_told (Kd.R_told (Kd.R_old (by (with_reducible repeat (first | apply Kd.R_alloc | apply Kd.R_drewN | apply Kd.R_drew)); exact HO271.out) hb) (Kd.R_base ho0)) (Kd.R_base ho1)) (fun _ h_ => h_.1)); have n1_ := Aside0.mk (Kd.R_lower (Kd.R_new' ho0 (Kd.R_lt (by (with_reducible repeat (first | apply Kd.R_alloc | apply Kd.R_drewN | apply Kd.R_drew)); exact HO271.out))) (below_size (by repeat (first | (with_reducible first | exact HB.out | apply below_alloc | apply pw_below_drewN | apply below_drew1) | exact HB.out)))); have n2_ := Aside0.mk (Kd.R_lower (Kd.R_new' ho1 (Kd.R_lt (by (with_reducible repeat (first | apply Kd.R_alloc | apply Kd.R_drewN | apply Kd.R_drew)); exact HO271.out))) (below_size (by repeat (first | (with_reducible first | exact HB.out | apply below_alloc | apply pw_below_drewN | apply below_drew1) | exact HB.out)))); have n3_ := Aside0.mk (below_step (by repeat (first | (with_reducible first | exact HB.out | apply below_alloc | apply pw_below_drewN | apply below_drew1) | exact HB.out)) hb); clear HO271; clear HB; have HO271 := n0_; have HO274 := n1_; have HO277 := n2_; have HB := n3_; clear n0_ n1_ n2_ n3_; (try clear hb); (try clear hb2); (try clear hk); (try clear hi); (try clear ho0); (try clear ho1)) | ((with_reducible refine gate_dst (N := 8) rfl ?_); refine box_event ?hg (N := 8) ?hd (cs := #[.slice none 0 0, .slice none 0 0, .int .i64 0]) (t := 57) ?hr ?_; (case hd => rfl); (case hg => rfl); (case hr => first | (go_simp; done) | (go_simp; rfl)); intro gb279 hg w20 hbox hb; have n0_ := Aside0.mk (Kd.R_below (by (with_reducible repeat (first | apply Kd.R_alloc | apply Kd.R_drewN | apply Kd.R_drew)); exact HO271.out) hb); have n1_ := Aside0.mk (Kd.R_below (by (with_reducible repeat (first | apply Kd.R_alloc | apply Kd.R_drewN | apply Kd.R_drew)); exact HO274.out) hb); have n2_ := Aside0.mk (Kd.R_below (by (with_reducible repeat (first | apply Kd.R_alloc | apply Kd.R_drewN | apply Kd.R_drew)); exact HO277.out) hb); have n3_ := Aside0.mk (below_step (by repeat (first | (with_reducible first | exact HB.out | apply below_alloc | apply pw_below_drewN | apply below_drew1) | exact HB.out)) hb); have n4_ := Aside0.mk (hbox); have n5_ := Aside0.mk ((by rw [hg]; exact (below_size (by repeat (first | (with_reducible first | exact HB.out | apply below_alloc | apply pw_below_drewN | apply below_drew1) | exact HB.out))) : w.heap.size ≤ gb279)); have n6_ := Aside0.mk ((by rw [hg]; exact (below_size (by repeat (first | (with_reducible first | exact HB.out | apply below_alloc | apply pw_below_drewN | apply below_drew1) | exact HB.out))) : w.heap.size ≤ gb279)); clear HO271; clear HO274; clear HO277; clear HB; have HO271 := n0_; have HO274 := n1_; have HO277 := n2_; have HB := n3_; have BK279 := n4_; have GW279 := n5_; have GE279 := n6_; clear n0_ n1_ n2_ n3_ n4_ n5_ n6_; clear hb hbox hg; obtain ⟨Ao21, co21, eo21⟩ := Kd.R_slice HO274.out; subst eo21; have hcz22_0 : w20.cell? ⟨gb279, 0, none⟩ = some (.slice none 0 0) := (blk_cell BK279.out 0).trans rfl; have hcz22_1 : w20.cell? ⟨gb279, 1, none⟩ = some (.slice none 0 0) := (blk_cell BK279.out 1).trans rfl; have hcz22_2 : w20.cell? ⟨gb279, 2, none⟩ = some (.int .i64 0) := (blk_cell BK279.out 2).trans rfl; have hfz22_0 := blk_frozen BK279.out 0; have hfz22_1 := blk_frozen BK279.out 1; have hfz22_2 := blk_frozen BK279.out 2; obtain ⟨Ao23, co23, eo23⟩ := Kd.R_slice HO277.out; subst eo23) | ((with_reducible refine gate_callee (f := 32) rfl ?_); refine goesL_ (some 26) rfl rfl Try.func32 (by kernel_rfl) rfl #[.slice A0 l0.length c0] rfl (by (try simp only [List.map_toArray, List.map_cons, List.map_nil]); first | done | rfl | (simp only [List.length_drop, List.length_take]; rfl)) ?_; (with_reducible refine (laws_toGuestS.calls k _ _ l0 t280 _ ?side1 ?side2 A8.out).mono ?_); (case side1 => exact Kd.C_below HR0.out (by repeat (first | (with_reducible first | exact HB.out | apply below_alloc | apply pw_below_drewN | apply below_drew1 | refine below_set ?_ GE279.out) | exact HB.out))); (case side2 => exact HC0.out); rintro e w24 ⟨v281, rfl, ho0, hb⟩; refine ⟨_, rfl, ?_⟩; have n0_ := Aside0.mk (Kd.R_elder' (by (with_reducible repeat (first | apply Kd.R_alloc | apply Kd.R_drewN | apply Kd.R_drew)); exact (Kd.R_mono (Kd.R_far (p := ⟨gb279, 2, none⟩) (Kd.R_far (p := ⟨gb279, 1, none⟩) (Kd.R_far (p := ⟨gb279, 0, none⟩) (Kd.R_types HO271.out BK279.out (by decide)) (fun _ hk => hk.2) (.slice Ao21 t272.length co21)) (fun _ hk => hk.2) (.slice Ao23 t275.length co23)) (fun _ hk => hk.2) (.int .i64 t278)) (fun _ h_ => h_.1))) (Kd.R_base ho0) hb); have n1_ := Aside0.mk (Kd.R_elder' (by (with_reducible repeat (first | apply Kd.R_alloc | apply Kd.R_drewN | apply Kd.R_drew)); exact (Kd.R_mono (Kd.R_far (p := ⟨gb279, 2, none⟩) (Kd.R_far (p := ⟨gb279, 1, none⟩) (Kd.R_far (p := ⟨gb279, 0, none⟩) (Kd.R_types HO274.out BK279.out (by decide)) (fun _ hk => hk.2) (.slice Ao21 t272.length co21)) (fun _ hk => hk.2) (.slice Ao23 t275.length co23)) (fun _ hk => hk.2) (.int .i64 t278)) (fun _ h_ => h_.1))) (Kd.R_base ho0) hb); have n2_ := Aside0.mk (Kd.R_elder' (by (with_reducible repeat (first | apply Kd.R_alloc | apply Kd.R_drewN | apply Kd.R_drew)); exact (Kd.R_mono (Kd.R_far (p := ⟨gb279, 2, none⟩) (Kd.R_far (p := ⟨gb279, 1, none⟩) (Kd.R_far (p := ⟨gb279, 0, none⟩) (Kd.R_types HO277.out BK279.out (by decide)) (fun _ hk => hk.2) (.slice Ao21 t272.length co21)) (fun _ hk => hk.2) (.slice Ao23 t275.length co23)) (fun _ hk => hk.2) (.int .i64 t278)) (fun _ h_ => h_.1))) (Kd.R_base ho0) hb); have n3_ := Aside0.mk (Kd.R_lower (Kd.R_new' (Kd.R_new' (Kd.R_new' ho0 (Kd.R_lt (by (with_reducible repeat (first | apply Kd.R_alloc | apply Kd.R_drewN | apply Kd.R_drew)); exact (Kd.R_mono (Kd.R_far (p := ⟨gb279, 2, none⟩) (Kd.R_far (p := ⟨gb279, 1, none⟩) (Kd.R_far (p := ⟨gb279, 0, none⟩) (Kd.R_types HO271.out BK279.out (by decide)) (fun _ hk => hk.2) (.slice Ao21 t272.length co21)) (fun _ hk => hk.2) (.slice Ao23 t275.length co23)) (fun _ hk => hk.2) (.int .i64 t278)) (fun _ h_ => h_.1))))) (Kd.R_lt (by (with_reducible repeat (first | apply Kd.R_alloc | apply Kd.R_drewN | apply Kd.R_drew)); exact (Kd.R_mono (Kd.R_far (p := ⟨gb279, 2, none⟩) (Kd.R_far (p := ⟨gb279, 1, none⟩) (Kd.R_far (p := ⟨gb279, 0, none⟩) (Kd.R_types HO274.out BK279.out (by decide)) (fun _ hk => hk.2) (.slice Ao21 t272.length co21)) (fun _ hk => hk.2) (.slice Ao23 t275.length co23)) (fun _ hk => hk.2) (.int .i64 t278)) (fun _ h_ => h_.1))))) (Kd.R_lt (by (with_reducible repeat (first | apply Kd.R_alloc | apply Kd.R_drewN | apply Kd.R_drew)); exact (Kd.R_mono (Kd.R_far (p := ⟨gb279, 2, none⟩) (Kd.R_far (p := ⟨gb279, 1, none⟩) (Kd.R_far (p := ⟨gb279, 0, none⟩) (Kd.R_types HO277.out BK279.out (by decide)) (fun _ hk => hk.2) (.slice Ao21 t272.length co21)) (fun _ hk => hk.2) (.slice Ao23 t275.length co23)) (fun _ hk => hk.2) (.int .i64 t278)) (fun _ h_ => h_.1))))) (below_size (by repeat (first | (with_reducible first | exact HB.out | apply below_alloc | apply pw_below_drewN | apply below_drew1 | refine below_set ?_ GE279.out) | exact HB.out)))); have n4_ := Aside0.mk (blk_below (g := gb279) (o := .cells #[.slice Ao21 t272.length co21, .slice Ao23 t275.length co23, .int .i64 t278] 57 (0, 0)) (by (with_reducible repeat (first | refine blk_drewN ?_ _ | refine blk_drew ?_ | refine blk_alloc ?_ _)); refine blk_put (cs := #[.slice Ao21 t272.length co21, .slice Ao23 t275.length co23, .int .i64 0]) ?_ 2 _ rfl; (with_reducible repeat (first | refine blk_drewN ?_ _ | refine blk_drew ?_ | refine blk_alloc ?_ _)); refine blk_put (cs := #[.slice Ao21 t272.length co21, .slice none 0 0, .int .i64 0]) ?_ 1 _ rfl; (with_reducible repeat (first | refine blk_drewN ?_ _ | refine blk_drew ?_ | refine blk_alloc ?_ _)); refine blk_put (cs := #[.slice none 0 0, .slice none 0 0, .int .i64 0]) ?_ 0 _ rfl; (with_reducible repeat (first | refine blk_drewN ?_ _ | refine blk_drew ?_ | refine blk_alloc ?_ _)); exact BK279.out) hb); have n5_ := Aside0.mk (below_step (by repeat (first | (with_reducible first | exact HB.out | apply below_alloc | apply pw_below_drewN | apply below_drew1 | refine below_set ?_ GE279.out) | exact HB.out)) hb); clear HO271; clear HO274; clear HO277; clear BK279; clear HB; have HO271 := n0_; have HO274 := n1_; have HO277 := n2_; have HO282 := n3_; have BK279 := n4_; have HB := n5_; clear n0_ n1_ n2_ n3_ n4_ n5_; (try clear hb); (try clear hb2); (try clear hk); (try clear hi); (try clear ho0); obtain ⟨Ao25, co25, eo25⟩ := Kd.R_slice HO282.out; subst eo25) | ((with_reducible refine gate_callee (f := 45) rfl ?_); refine goesL_ (some 30) rfl rfl Try.func45 (by kernel_rfl) rfl #[.slice Ao25 t280.length co25, .int .i64 a1, .int .i64 a2] rfl (by (try simp only [List.map_toArray, List.map_cons, List.map_nil]); first | done | rfl | (simp only [List.length_drop, List.length_take]; rfl)) ?_; (with_reducible refine (impl_GuestDrop.calls k _ _ t280 a1 a2 t283 t286 t289 _ ?side1 ?side2 A9.out).mono ?_); (case side1 => repeat (first | exact (Kd.R_reads' HO282.out).2.2 | (with_reducible refine Kd.C_alloc ?_ _) | (with_reducible refine Kd.C_drewN ?_ _) | (with_reducible refine Kd.C_drew ?_))); (case side2 => exact (Kd.R_reads' HO282.out).2.1); rintro e w26 ⟨v284, v287, rfl, ho0, ho1, hb⟩; refine ⟨_, rfl, ?_⟩; have n0_ := Aside0.mk (Kd.R_mono (Kd.R_told (Kd.R_told (Kd.R_old (by (with_reducible repeat (first | apply Kd.R_alloc | apply Kd.R_drewN | apply Kd.R_drew)); exact HO271.out) hb) (Kd.R_base ho0)) (Kd.R_base ho1)) (fun _ h_ => h_.1)); have n1_ := Aside0.mk (Kd.R_mono (Kd.R_told (Kd.R_told (Kd.R_old (by (with_reducible repeat (first | apply Kd.R_alloc | apply Kd.R_drewN | apply Kd.R_drew)); exact HO274.out) hb) (Kd.R_base ho0)) (Kd.R_base ho1)) (fun _ h_ => h_.1)); have n2_ := Aside0.mk (Kd.R_mono (Kd.R_told (Kd.R_told (Kd.R_old (by (with_reducible repeat (first | apply Kd.R_alloc | apply Kd.R_drewN | apply Kd.R_drew)); exact HO277.out) hb) (Kd.R_base ho0)) (Kd.R_base ho1)) (fun _ h_ => h_.1)); have n3_ := Aside0.mk (Kd.R_mono (Kd.R_told (Kd.R_told (Kd.R_old (by (with_reducible repeat (first | apply Kd.R_alloc | apply Kd.R_drewN | apply Kd.R_drew)); exact HO282.out) hb) (Kd.R_base ho0)) (Kd.R_base ho1)) (fun _ h_ => h_.1)); have n4_ := Aside0.mk (Kd.R_lower (Kd.R_new' (Kd.R_new' (Kd.R_new' (Kd.R_new' ho0 (Kd.R_lt (by (with_reducible repeat (first | apply Kd.R_alloc | apply Kd.R_drewN | apply Kd.R_drew)); exact HO271.out))) (Kd.R_lt (by (with_reducible repeat (first | apply Kd.R_alloc | apply Kd.R_drewN | apply Kd.R_drew)); exact HO274.out))) (Kd.R_lt (by (with_reducible repeat (first | apply Kd.R_alloc | apply Kd.R_drewN | apply Kd.R_drew)); exact HO277.out))) (Kd.R_lt (by (with_reducible repeat (first | apply Kd.R_alloc | apply Kd.R_drewN | apply Kd.R_drew)); exact HO282.out))) (below_size (by repeat (first | (with_reducible first | exact HB.out | apply below_alloc | apply pw_below_drewN | apply below_drew1 | refine below_set ?_ GE279.out) | exact HB.out)))); have n5_ := Aside0.mk (Kd.R_lower (Kd.R_new' (Kd.R_new' (Kd.R_new' (Kd.R_new' ho1 (Kd.R_lt (by (with_reducible repeat (first | apply Kd.R_alloc | apply Kd.R_drewN | apply Kd.R_drew)); exact HO271.out))) (Kd.R_lt (by (with_reducible repeat (first | apply Kd.R_alloc | apply Kd.R_drewN | apply Kd.R_drew)); exact HO274.out))) (Kd.R_lt (by (with_reducible repeat (first | apply Kd.R_alloc | apply Kd.R_drewN | apply Kd.R_drew)); exact HO277.out))) (Kd.R_lt (by (with_reducible repeat (first | apply Kd.R_alloc | apply Kd.R_drewN | apply Kd.R_drew)); exact HO282.out))) (below_size (by repeat (first | (with_reducible first | exact HB.out | apply below_alloc | apply pw_below_drewN | apply below_drew1 | refine below_set ?_ GE279.out) | exact HB.out)))); have n6_ := Aside0.mk (blk_below (g := gb279) (o := .cells #[.slice Ao21 t272.length co21, .slice Ao23 t275.length co23, .int .i64 t278] 57 (0, 0)) (by (with_reducible repeat (first | refine blk_drewN ?_ _ | refine blk_drew ?_ | refine blk_alloc ?_ _)); exact BK279.out) hb); have n7_ := Aside0.mk (below_step (by repeat (first | (with_reducible first | exact HB.out | apply below_alloc | apply pw_below_drewN | apply below_drew1 | refine below_set ?_ GE279.out) | exact HB.out)) hb); clear HO271; clear HO274; clear HO277; clear HO282; clear BK279; clear HB; have HO271 := n0_; have HO274 := n1_; have HO277 := n2_; have HO282 := n3_; have HO285 := n4_; have HO288 := n5_; have BK279 := n6_; have HB := n7_; clear n0_ n1_ n2_ n3_ n4_ n5_ n6_ n7_; (try clear hb); (try clear hb2); (try clear hk); (try clear hi); (try clear ho0); (try clear ho1)) | ((with_reducible refine gate_dst (N := 10) rfl ?_); refine box_event ?hg (N := 10) ?hd (cs := #[.slice none 0 0, .slice none 0 0, .int .i64 0]) (t := 57) ?hr ?_; (case hd => rfl); (case hg => rfl); (case hr => first | (go_simp; done) | (go_simp; rfl)); intro gb290 hg w27 hbox hb; have n0_ := Aside0.mk (Kd.R_below (by (with_reducible repeat (first | apply Kd.R_alloc | apply Kd.R_drewN | apply Kd.R_drew)); exact HO271.out) hb); have n1_ := Aside0.mk (Kd.R_below (by (with_reducible repeat (first | apply Kd.R_alloc | apply Kd.R_drewN | apply Kd.R_drew)); exact HO274.out) hb); have n2_ := Aside0.mk (Kd.R_below (by (with_reducible repeat (first | apply Kd.R_alloc | apply Kd.R_drewN | apply Kd.R_drew)); exact HO277.out) hb); have n3_ := Aside0.mk (Kd.R_below (by (with_reducible repeat (first | apply Kd.R_alloc | apply Kd.R_drewN | apply Kd.R_drew)); exact HO282.out) hb); have n4_ := Aside0.mk (Kd.R_below (by (with_reducible repeat (first | apply Kd.R_alloc | apply Kd.R_drewN | apply Kd.R_drew)); exact HO285.out) hb); have n5_ := Aside0.mk (Kd.R_below (by (with_reducible repeat (first | apply Kd.R_alloc | apply Kd.R_drewN | apply Kd.R_drew)); exact HO288.out) hb); have n6_ := Aside0.mk (blk_below (g := gb279) (o := .cells #[.slice Ao21 t272.length co21, .slice Ao23 t275.length co23, .int .i64 t278] 57 (0, 0)) (by (with_reducible repeat (first | refine blk_drewN ?_ _ | refine blk_drew ?_ | refine blk_alloc ?_ _)); exact BK279.out) hb); have n7_ := Aside0.mk (below_step (by repeat (first | (with_reducible first | exact HB.out | apply below_alloc | apply pw_below_drewN | apply below_drew1 | refine below_set ?_ GE279.out) | exact HB.out)) hb); have n8_ := Aside0.mk (hbox); have n9_ := Aside0.mk ((by rw [hg]; exact (below_size (by repeat (first | (with_reducible first | exact HB.out | apply below_alloc | apply pw_below_drewN | apply below_drew1 | refine below_set ?_ GE279.out) | exact HB.out))) : w.heap.size ≤ gb290)); have n10_ := Aside0.mk ((by rw [hg]; exact (below_size (by repeat (first | (with_reducible first | exact HB.out | apply below_alloc | apply pw_below_drewN | apply below_drew1 | refine below_set ?_ GE279.out) | exact HB.out))) : w.heap.size ≤ gb290)); have n11_ := Aside0.mk ((by rw [hg]; exact Nat.ne_of_lt (blk_lt (g := gb279) (o := .cells #[.slice Ao21 t272.length co21, .slice Ao23 t275.length co23, .int .i64 t278] 57 (0, 0)) (by (with_reducible repeat (first | refine blk_drewN ?_ _ | refine blk_drew ?_ | refine blk_alloc ?_ _)); exact BK279.out)) : gb279 ≠ gb290)); have n12_ := Aside0.mk ((by rw [hg]; exact Nat.ne_of_gt (blk_lt (g := gb279) (o := .cells #[.slice Ao21 t272.length co21, .slice Ao23 t275.length co23, .int .i64 t278] 57 (0, 0)) (by (with_reducible repeat (first | refine blk_drewN ?_ _ | refine blk_drew ?_ | refine blk_alloc ?_ _)); exact BK279.out)) : gb290 ≠ gb279)); clear HO271; clear HO274; clear HO277; clear HO282; clear HO285; clear HO288; clear BK279; clear HB; have HO271 := n0_; have HO274 := n1_; have HO277 := n2_; have HO282 := n3_; have HO285 := n4_; have HO288 := n5_; have BK279 := n6_; have HB := n7_; have BK290 := n8_; have GW290 := n9_; have GE290 := n10_; have NB279_290 := n11_; have NB290_279 := n12_; clear n0_ n1_ n2_ n3_ n4_ n5_ n6_ n7_ n8_ n9_ n10_ n11_ n12_; clear hb hbox hg; obtain ⟨Ao28, co28, eo28⟩ := Kd.R_slice HO285.out; subst eo28; have hnb29 := NB290_279.out; have hnc29 := NB279_290.out; have hcz30_0 : w27.cell? ⟨gb290, 0, none⟩ = some (.slice none 0 0) := (blk_cell BK290.out 0).trans rfl; have hcz30_1 : w27.cell? ⟨gb290, 1, none⟩ = some (.slice none 0 0) := (blk_cell BK290.out 1).trans rfl; have hcz30_2 : w27.cell? ⟨gb290, 2, none⟩ = some (.int .i64 0) := (blk_cell BK290.out 2).trans rfl; have hfz30_0 := blk_frozen BK290.out 0; have hfz30_1 := blk_frozen BK290.out 1; have hfz30_2 := blk_frozen BK290.out 2; obtain ⟨Ao31, co31, eo31⟩ := Kd.R_slice HO288.out; subst eo31; have hcz32_0 : w27.cell? ⟨gb279, 0, none⟩ = some (.slice Ao21 t272.length co21) := (blk_cell BK279.out 0).trans rfl; have hcz32_1 : w27.cell? ⟨gb279, 1, none⟩ = some (.slice Ao23 t275.length co23) := (blk_cell BK279.out 1).trans rfl; have hcz32_2 : w27.cell? ⟨gb279, 2, none⟩ = some (.int .i64 t278) := (blk_cell BK279.out 2).trans rfl; have hfz32_0 := blk_frozen BK279.out 0; have hfz32_1 := blk_frozen BK279.out 1; have hfz32_2 := blk_frozen BK279.out 2) | ((with_reducible refine gate_callee (f := 40) rfl ?_); refine goesL_ (some 33) rfl rfl Try.func40 (by kernel_rfl) rfl #[.agg #[.slice Ao28 t283.length co28, .slice Ao31 t286.length co31, .int .i64 t289], .agg #[.slice Ao21 t272.length co21, .slice Ao23 t275.length co23, .int .i64 t278]] rfl (by (try simp only [List.map_toArray, List.map_cons, List.map_nil]); first | done | rfl | (simp only [List.length_drop, List.length_take]; rfl)) ?_; (with_reducible refine (laws_eqGuestsOut.calls k _ _ t283 _ _ t286 t289 _ _ t272 _ _ t275 t278 true _ ?side1 ?side2 ?side3 ?side4 ?side5 ?side6 ?side7 ?side8 A10.out).mono ?_); (case side1 => refine (Kd.R_reads' (e := 52) (base := w.heap.size) (ok := fun k_ => ((((some k_ ≠ (.slice Ao31 t286.length co31 : Value).ownBlock ∧ some k_ ≠ (.slice Ao18 t269.length co18 : Value).ownBlock) ∧ some k_ ≠ (.slice Ao21 t272.length co21 : Value).ownBlock) ∧ some k_ ≠ (.slice Ao23 t275.length co23 : Value).ownBlock) ∧ some k_ ≠ (.slice Ao25 t280.length co25 : Value).ownBlock)) (n := t283.length) (c := co28) ?_).2.2; exact (by (with_reducible repeat (first | apply Kd.R_alloc | apply Kd.R_drewN | apply Kd.R_drew)); exact (Kd.R_mono (Kd.R_far (p := ⟨gb290, 2, none⟩) (Kd.R_far (p := ⟨gb290, 1, none⟩) (Kd.R_far (p := ⟨gb290, 0, none⟩) (Kd.R_types HO285.out BK290.out (by decide)) (fun _ hk => hk.2) (.slice Ao28 t283.length co28)) (fun _ hk => hk.2) (.slice Ao31 t286.length co31)) (fun _ hk => hk.2) (.int .i64 t289)) (fun _ h_ => h_.1)))); (case side2 => exact (Kd.R_reads' HO285.out).2.1); (case side3 => refine (Kd.R_reads' (e := 52) (base := w.heap.size) (ok := fun k_ => ((((some k_ ≠ (.slice Ao28 t283.length co28 : Value).ownBlock ∧ some k_ ≠ (.slice Ao18 t269.length co18 : Value).ownBlock) ∧ some k_ ≠ (.slice Ao21 t272.length co21 : Value).ownBlock) ∧ some k_ ≠ (.slice Ao23 t275.length co23 : Value).ownBlock) ∧ some k_ ≠ (.slice Ao25 t280.length co25 : Value).ownBlock)) (n := t286.length) (c := co31) ?_).2.2; exact (by (with_reducible repeat (first | apply Kd.R_alloc | apply Kd.R_drewN | apply Kd.R_drew)); exact (Kd.R_mono (Kd.R_far (p := ⟨gb290, 2, none⟩) (Kd.R_far (p := ⟨gb290, 1, none⟩) (Kd.R_far (p := ⟨gb290, 0, none⟩) (Kd.R_types HO288.out BK290.out (by decide)) (fun _ hk => hk.2) (.slice Ao28 t283.length co28)) (fun _ hk => hk.2) (.slice Ao31 t286.length co31)) (fun _ hk => hk.2) (.int .i64 t289)) (fun _ h_ => h_.1)))); (case side4 => exact (Kd.R_reads' HO288.out).2.1); (case side5 => refine (Kd.R_reads' (e := 52) (base := w.heap.size) (ok := fun k_ => ((((some k_ ≠ (.slice Ao23 t275.length co23 : Value).ownBlock ∧ some k_ ≠ (.slice Ao18 t269.length co18 : Value).ownBlock) ∧ some k_ ≠ (.slice Ao25 t280.length co25 : Value).ownBlock) ∧ some k_ ≠ (.slice Ao28 t283.length co28 : Value).ownBlock) ∧ some k_ ≠ (.slice Ao31 t286.length co31 : Value).ownBlock)) (n := t272.length) (c := co21) ?_).2.2; exact (by (with_reducible repeat (first | apply Kd.R_alloc | apply Kd.R_drewN | apply Kd.R_drew)); exact (Kd.R_mono (Kd.R_far (p := ⟨gb290, 2, none⟩) (Kd.R_far (p := ⟨gb290, 1, none⟩) (Kd.R_far (p := ⟨gb290, 0, none⟩) (Kd.R_types HO274.out BK290.out (by decide)) (fun _ hk => hk.2) (.slice Ao28 t283.length co28)) (fun _ hk => hk.2) (.slice Ao31 t286.length co31)) (fun _ hk => hk.2) (.int .i64 t289)) (fun _ h_ => h_.1)))); (case side6 => exact (Kd.R_reads' HO274.out).2.1); (case side7 => refine (Kd.R_reads' (e := 52) (base := w.heap.size) (ok := fun k_ => ((((some k_ ≠ (.slice Ao21 t272.length co21 : Value).ownBlock ∧ some k_ ≠ (.slice Ao18 t269.length co18 : Value).ownBlock) ∧ some k_ ≠ (.slice Ao25 t280.length co25 : Value).ownBlock) ∧ some k_ ≠ (.slice Ao28 t283.length co28 : Value).ownBlock) ∧ some k_ ≠ (.slice Ao31 t286.length co31 : Value).ownBlock)) (n := t275.length) (c := co23) ?_).2.2; exact (by (with_reducible repeat (first | apply Kd.R_alloc | apply Kd.R_drewN | apply Kd.R_drew)); exact (Kd.R_mono (Kd.R_far (p := ⟨gb290, 2, none⟩) (Kd.R_far (p := ⟨gb290, 1, none⟩) (Kd.R_far (p := ⟨gb290, 0, none⟩) (Kd.R_types HO277.out BK290.out (by decide)) (fun _ hk => hk.2) (.slice Ao28 t283.length co28)) (fun _ hk => hk.2) (.slice Ao31 t286.length co31)) (fun _ hk => hk.2) (.int .i64 t289)) (fun _ h_ => h_.1)))); (case side8 => exact (Kd.R_reads' HO277.out).2.1); rintro e w33 ⟨rfl, hb⟩; refine ⟨_, rfl, ?_⟩; have n0_ := Aside0.mk (Kd.R_below (by (with_reducible repeat (first | apply Kd.R_alloc | apply Kd.R_drewN | apply Kd.R_drew)); exact (Kd.R_mono (Kd.R_far (p := ⟨gb290, 2, none⟩) (Kd.R_far (p := ⟨gb290, 1, none⟩) (Kd.R_far (p := ⟨gb290, 0, none⟩) (Kd.R_types HO271.out BK290.out (by decide)) (fun _ hk => hk.2) (.slice Ao28 t283.length co28)) (fun _ hk => hk.2) (.slice Ao31 t286.length co31)) (fun _ hk => hk.2) (.int .i64 t289)) (fun _ h_ => h_.1))) hb); have n1_ := Aside0.mk (Kd.R_below (by (with_reducible repeat (first | apply Kd.R_alloc | apply Kd.R_drewN | apply Kd.R_drew)); exact (Kd.R_mono (Kd.R_far (p := ⟨gb290, 2, none⟩) (Kd.R_far (p := ⟨gb290, 1, none⟩) (Kd.R_far (p := ⟨gb290, 0, none⟩) (Kd.R_types HO274.out BK290.out (by decide)) (fun _ hk => hk.2) (.slice Ao28 t283.length co28)) (fun _ hk => hk.2) (.slice Ao31 t286.length co31)) (fun _ hk => hk.2) (.int .i64 t289)) (fun _ h_ => h_.1))) hb); have n2_ := Aside0.mk (Kd.R_below (by (with_reducible repeat (first | apply Kd.R_alloc | apply Kd.R_drewN | apply Kd.R_drew)); exact (Kd.R_mono (Kd.R_far (p := ⟨gb290, 2, none⟩) (Kd.R_far (p := ⟨gb290, 1, none⟩) (Kd.R_far (p := ⟨gb290, 0, none⟩) (Kd.R_types HO277.out BK290.out (by decide)) (fun _ hk => hk.2) (.slice Ao28 t283.length co28)) (fun _ hk => hk.2) (.slice Ao31 t286.length co31)) (fun _ hk => hk.2) (.int .i64 t289)) (fun _ h_ => h_.1))) hb); have n3_ := Aside0.mk (Kd.R_below (by (with_reducible repeat (first | apply Kd.R_alloc | apply Kd.R_drewN | apply Kd.R_drew)); exact (Kd.R_mono (Kd.R_far (p := ⟨gb290, 2, none⟩) (Kd.R_far (p := ⟨gb290, 1, none⟩) (Kd.R_far (p := ⟨gb290, 0, none⟩) (Kd.R_types HO282.out BK290.out (by decide)) (fun _ hk => hk.2) (.slice Ao28 t283.length co28)) (fun _ hk => hk.2) (.slice Ao31 t286.length co31)) (fun _ hk => hk.2) (.int .i64 t289)) (fun _ h_ => h_.1))) hb); have n4_ := Aside0.mk (Kd.R_below (by (with_reducible repeat (first | apply Kd.R_alloc | apply Kd.R_drewN | apply Kd.R_drew)); exact (Kd.R_mono (Kd.R_far (p := ⟨gb290, 2, none⟩) (Kd.R_far (p := ⟨gb290, 1, none⟩) (Kd.R_far (p := ⟨gb290, 0, none⟩) (Kd.R_types HO285.out BK290.out (by decide)) (fun _ hk => hk.2) (.slice Ao28 t283.length co28)) (fun _ hk => hk.2) (.slice Ao31 t286.length co31)) (fun _ hk => hk.2) (.int .i64 t289)) (fun _ h_ => h_.1))) hb); have n5_ := Aside0.mk (Kd.R_below (by (with_reducible repeat (first | apply Kd.R_alloc | apply Kd.R_drewN | apply Kd.R_drew)); exact (Kd.R_mono (Kd.R_far (p := ⟨gb290, 2, none⟩) (Kd.R_far (p := ⟨gb290, 1, none⟩) (Kd.R_far (p := ⟨gb290, 0, none⟩) (Kd.R_types HO288.out BK290.out (by decide)) (fun _ hk => hk.2) (.slice Ao28 t283.length co28)) (fun _ hk => hk.2) (.slice Ao31 t286.length co31)) (fun _ hk => hk.2) (.int .i64 t289)) (fun _ h_ => h_.1))) hb); have n6_ := Aside0.mk (blk_below (g := gb279) (o := .cells #[.slice Ao21 t272.length co21, .slice Ao23 t275.length co23, .int .i64 t278] 57 (0, 0)) (by (with_reducible repeat (first | refine blk_drewN ?_ _ | refine blk_drew ?_ | refine blk_alloc ?_ _)); refine blk_far ?_ NB279_290.out _; (with_reducible repeat (first | refine blk_drewN ?_ _ | refine blk_drew ?_ | refine blk_alloc ?_ _)); refine blk_far ?_ NB279_290.out _; (with_reducible repeat (first | refine blk_drewN ?_ _ | refine blk_drew ?_ | refine blk_alloc ?_ _)); refine blk_far ?_ NB279_290.out _; (with_reducible repeat (first | refine blk_drewN ?_ _ | refine blk_drew ?_ | refine blk_alloc ?_ _)); exact BK279.out) hb); have n7_ := Aside0.mk (blk_below (g := gb290) (o := .cells #[.slice Ao28 t283.length co28, .slice Ao31 t286.length co31, .int .i64 t289] 57 (0, 0)) (by (with_reducible repeat (first | refine blk_drewN ?_ _ | refine blk_drew ?_ | refine blk_alloc ?_ _)); refine blk_put (cs := #[.slice Ao28 t283.length co28, .slice Ao31 t286.length co31, .int .i64 0]) ?_ 2 _ rfl; (with_reducible repeat (first | refine blk_drewN ?_ _ | refine blk_drew ?_ | refine blk_alloc ?_ _)); refine blk_put (cs := #[.slice Ao28 t283.length co28, .slice none 0 0, .int .i64 0]) ?_ 1 _ rfl; (with_reducible repeat (first | refine blk_drewN ?_ _ | refine blk_drew ?_ | refine blk_alloc ?_ _)); refine blk_put (cs := #[.slice none 0 0, .slice none 0 0, .int .i64 0]) ?_ 0 _ rfl; (with_reducible repeat (first | refine blk_drewN ?_ _ | refine blk_drew ?_ | refine blk_alloc ?_ _)); exact BK290.out) hb); have n8_ := Aside0.mk (below_step (by repeat (first | (with_reducible first | exact HB.out | apply below_alloc | apply pw_below_drewN | apply below_drew1 | refine below_set ?_ GE279.out | refine below_set ?_ GE290.out) | exact HB.out)) hb); clear HO271; clear HO274; clear HO277; clear HO282; clear HO285; clear HO288; clear BK279; clear BK290; clear HB; have HO271 := n0_; have HO274 := n1_; have HO277 := n2_; have HO282 := n3_; have HO285 := n4_; have HO288 := n5_; have BK279 := n6_; have BK290 := n7_; have HB := n8_; clear n0_ n1_ n2_ n3_ n4_ n5_ n6_ n7_ n8_; (try clear hb); (try clear hb2); (try clear hk); (try clear hi)) | ((with_reducible refine gate_callee (f := 32) rfl ?_); refine goesL_ (some 37) rfl rfl Try.func32 (by kernel_rfl) rfl #[.slice A0 l0.length c0] rfl (by (try simp only [List.map_toArray, List.map_cons, List.map_nil]); first | done | rfl | (simp only [List.length_drop, List.length_take]; rfl)) ?_; (with_reducible refine (laws_toGuestS.calls k _ _ l0 t292 _ ?side1 ?side2 A12.out).mono ?_); (case side1 => repeat (first | exact (Kd.C_below HR0.out HB.out) | (with_reducible refine Kd.C_alloc ?_ _) | (with_reducible refine Kd.C_drewN ?_ _) | (with_reducible refine Kd.C_drew ?_))); (case side2 => exact HC0.out); rintro e w34 ⟨v293, rfl, ho0, hb⟩; refine ⟨_, rfl, ?_⟩; have n0_ := Aside0.mk (Kd.R_elder' (by (with_reducible repeat (first | apply Kd.R_alloc | apply Kd.R_drewN | apply Kd.R_drew)); exact HO271.out) (Kd.R_base ho0) hb); have n1_ := Aside0.mk (Kd.R_elder' (by (with_reducible repeat (first | apply Kd.R_alloc | apply Kd.R_drewN | apply Kd.R_drew)); exact HO274.out) (Kd.R_base ho0) hb); have n2_ := Aside0.mk (Kd.R_elder' (by (with_reducible repeat (first | apply Kd.R_alloc | apply Kd.R_drewN | apply Kd.R_drew)); exact HO277.out) (Kd.R_base ho0) hb); have n3_ := Aside0.mk (Kd.R_elder' (by (with_reducible repeat (first | apply Kd.R_alloc | apply Kd.R_drewN | apply Kd.R_drew)); exact HO282.out) (Kd.R_base ho0) hb); have n4_ := Aside0.mk (Kd.R_elder' (by (with_reducible repeat (first | apply Kd.R_alloc | apply Kd.R_drewN | apply Kd.R_drew)); exact HO285.out) (Kd.R_base ho0) hb); have n5_ := Aside0.mk (Kd.R_elder' (by (with_reducible repeat (first | apply Kd.R_alloc | apply Kd.R_drewN | apply Kd.R_drew)); exact HO288.out) (Kd.R_base ho0) hb); have n6_ := Aside0.mk (Kd.R_lower (Kd.R_new' (Kd.R_new' (Kd.R_new' (Kd.R_new' (Kd.R_new' (Kd.R_new' ho0 (Kd.R_lt (by (with_reducible repeat (first | apply Kd.R_alloc | apply Kd.R_drewN | apply Kd.R_drew)); exact HO271.out))) (Kd.R_lt (by (with_reducible repeat (first | apply Kd.R_alloc | apply Kd.R_drewN | apply Kd.R_drew)); exact HO274.out))) (Kd.R_lt (by (with_reducible repeat (first | apply Kd.R_alloc | apply Kd.R_drewN | apply Kd.R_drew)); exact HO277.out))) (Kd.R_lt (by (with_reducible repeat (first | apply Kd.R_alloc | apply Kd.R_drewN | apply Kd.R_drew)); exact HO282.out))) (Kd.R_lt (by (with_reducible repeat (first | apply Kd.R_alloc | apply Kd.R_drewN | apply Kd.R_drew)); exact HO285.out))) (Kd.R_lt (by (with_reducible repeat (first | apply Kd.R_alloc | apply Kd.R_drewN | apply Kd.R_drew)); exact HO288.out))) (below_size (by repeat (first | (with_reducible first | exact HB.out | apply below_alloc | apply pw_below_drewN | apply below_drew1 | refine below_set ?_ GE279.out | refine below_set ?_ GE290.out) | exact HB.out)))); have n7_ := Aside0.mk (blk_below (g := gb279) (o := .cells #[.slice Ao21 t272.length co21, .slice Ao23 t275.length co23, .int .i64 t278] 57 (0, 0)) (by (with_reducible repeat (first | refine blk_drewN ?_ _ | refine blk_drew ?_ | refine blk_alloc ?_ _)); exact BK279.out) hb); have n8_ := Aside0.mk (blk_below (g := gb290) (o := .cells #[.slice Ao28 t283.length co28, .slice Ao31 t286.length co31, .int .i64 t289] 57 (0, 0)) (by (with_reducible repeat (first | refine blk_drewN ?_ _ | refine blk_drew ?_ | refine blk_alloc ?_ _)); exact BK290.out) hb); have n9_ := Aside0.mk (below_step (by repeat (first | (with_reducible first | exact HB.out | apply below_alloc | apply pw_below_drewN | apply below_drew1 | refine below_set ?_ GE279.out | refine below_set ?_ GE290.out) | exact HB.out)) hb); clear HO271; clear HO274; clear HO277; clear HO282; clear HO285; clear HO288; clear BK279; clear BK290; clear HB; have HO271 := n0_; have HO274 := n1_; have HO277 := n2_; have HO282 := n3_; have HO285 := n4_; have HO288 := n5_; have HO294 := n6_; have BK279 := n7_; have BK290 := n8_; have HB := n9_; clear n0_ n1_ n2_ n3_ n4_ n5_ n6_ n7_ n8_ n9_; (try clear hb); (try clear hb2); (try clear hk); (try clear hi); (try clear ho0); obtain ⟨Ao35, co35, eo35⟩ := Kd.R_slice HO294.out; subst eo35) | ((with_reducible refine gate_callee (f := 34) rfl ?_); refine goesL_ (some 38) rfl rfl Try.func34 (by kernel_rfl) rfl #[.slice Ao25 t280.length co25, .slice Ao35 t292.length co35] rfl (by (try simp only [List.map_toArray, List.map_cons, List.map_nil]); first | done | rfl | (simp only [List.length_drop, List.length_take]; rfl)) ?_; (with_reducible refine (laws_eqGuestS.calls k _ _ t280 _ _ t292 true _ ?side1 ?side2 ?side3 ?side4 A13.out).mono ?_); (case side1 => repeat (first | exact (Kd.R_reads' HO282.out).2.2 | (with_reducible refine Kd.C_alloc ?_ _) | (with_reducible refine Kd.C_drewN ?_ _) | (with_reducible refine Kd.C_drew ?_))); (case side2 => exact (Kd.R_reads' HO282.out).2.1); (case side3 => repeat (first | exact (Kd.R_reads' HO294.out).2.2 | (with_reducible refine Kd.C_alloc ?_ _) | (with_reducible refine Kd.C_drewN ?_ _) | (with_reducible refine Kd.C_drew ?_))); (case side4 => exact (Kd.R_reads' HO294.out).2.1); rintro e w36 ⟨rfl, hb⟩; refine ⟨_, rfl, ?_⟩; have n0_ := Aside0.mk (Kd.R_below (by (with_reducible repeat (first | apply Kd.R_alloc | apply Kd.R_drewN | apply Kd.R_drew)); exact HO271.out) hb); have n1_ := Aside0.mk (Kd.R_below (by (with_reducible repeat (first | apply Kd.R_alloc | apply Kd.R_drewN | apply Kd.R_drew)); exact HO274.out) hb); have n2_ := Aside0.mk (Kd.R_below (by (with_reducible repeat (first | apply Kd.R_alloc | apply Kd.R_drewN | apply Kd.R_drew)); exact HO277.out) hb); have n3_ := Aside0.mk (Kd.R_below (by (with_reducible repeat (first | apply Kd.R_alloc | apply Kd.R_drewN | apply Kd.R_drew)); exact HO282.out) hb); have n4_ := Aside0.mk (Kd.R_below (by (with_reducible repeat (first | apply Kd.R_alloc | apply Kd.R_drewN | apply Kd.R_drew)); exact HO285.out) hb); have n5_ := Aside0.mk (Kd.R_below (by (with_reducible repeat (first | apply Kd.R_alloc | apply Kd.R_drewN | apply Kd.R_drew)); exact HO288.out) hb); have n6_ := Aside0.mk (Kd.R_below (by (with_reducible repeat (first | apply Kd.R_alloc | apply Kd.R_drewN | apply Kd.R_drew)); exact HO294.out) hb); have n7_ := Aside0.mk (blk_below (g := gb279) (o := .cells #[.slice Ao21 t272.length co21, .slice Ao23 t275.length co23, .int .i64 t278] 57 (0, 0)) (by (with_reducible repeat (first | refine blk_drewN ?_ _ | refine blk_drew ?_ | refine blk_alloc ?_ _)); exact BK279.out) hb); have n8_ := Aside0.mk (blk_below (g := gb290) (o := .cells #[.slice Ao28 t283.length co28, .slice Ao31 t286.length co31, .int .i64 t289] 57 (0, 0)) (by (with_reducible repeat (first | refine blk_drewN ?_ _ | refine blk_drew ?_ | refine blk_alloc ?_ _)); exact BK290.out) hb); have n9_ := Aside0.mk (below_step (by repeat (first | (with_reducible first | exact HB.out | apply below_alloc | apply pw_below_drewN | apply below_drew1 | refine below_set ?_ GE279.out | refine below_set ?_ GE290.out) | exact HB.out)) hb); clear HO271; clear HO274; clear HO277; clear HO282; clear HO285; clear HO288; clear HO294; clear BK279; clear BK290; clear HB; have HO271 := n0_; have HO274 := n1_; have HO277 := n2_; have HO282 := n3_; have HO285 := n4_; have HO288 := n5_; have HO294 := n6_; have BK279 := n7_; have BK290 := n8_; have HB := n9_; clear n0_ n1_ n2_ n3_ n4_ n5_ n6_ n7_ n8_ n9_; (try clear hb); (try clear hb2); (try clear hk); (try clear hi)) | ((with_reducible refine gate_callee (f := 41) rfl ?_); refine goesL_ (some 42) rfl rfl Try.func41 (by kernel_rfl) rfl #[.slice Ao25 t280.length co25, .int .i64 1] rfl (by (try simp only [List.map_toArray, List.map_cons, List.map_nil]); first | done | rfl | (simp only [List.length_drop, List.length_take]; rfl)) ?_; (with_reducible refine (laws_markGuestS.calls k (fun k_ => some k_ = (.slice Ao25 t280.length co25 : Value).ownBlock) (.slice Ao25 t280.length co25) t280 1 t296 t297 w _ ?side1 ?side2 A15.out).mono ?_); (case side1 => repeat (first | (with_reducible first | exact HB.out | apply below_alloc | apply pw_below_drewN | apply below_drew1 | refine below_set ?_ GE279.out | refine below_set ?_ GE290.out) | exact HB.out)); (case side2 => exact Kd.R_tight rfl HO282.out); rintro e w37 ⟨rfl, hy0, hb, hkp⟩; refine ⟨_, rfl, ?_⟩; have n0_ := Aside0.mk (Kd.R_mono (ok' := fun k_ => some k_ ≠ (.slice Ao21 t272.length co21 : Value).ownBlock ∧ some k_ ≠ (.slice Ao23 t275.length co23 : Value).ownBlock ∧ some k_ ≠ (.slice Ao25 t280.length co25 : Value).ownBlock ∧ some k_ ≠ (.slice Ao28 t283.length co28 : Value).ownBlock ∧ some k_ ≠ (.slice Ao31 t286.length co31 : Value).ownBlock ∧ some k_ ≠ (.slice Ao35 t292.length co35 : Value).ownBlock) (Kd.R_keptB (HO271.out) hkp (fun k_ hk_ hs_ => (hk_.1.1.1.2) hs_)) (fun k_ hk_ => ⟨hk_.1.1.1.1.1.1.2, hk_.1.1.1.1.1.2, hk_.1.1.1.1.2, hk_.1.1.1.2, hk_.1.1.2, hk_.1.2⟩)); have n1_ := Aside0.mk (Kd.R_mono (ok' := fun k_ => some k_ ≠ (.slice Ao18 t269.length co18 : Value).ownBlock ∧ some k_ ≠ (.slice Ao23 t275.length co23 : Value).ownBlock ∧ some k_ ≠ (.slice Ao25 t280.length co25 : Value).ownBlock ∧ some k_ ≠ (.slice Ao28 t283.length co28 : Value).ownBlock ∧ some k_ ≠ (.slice Ao31 t286.length co31 : Value).ownBlock ∧ some k_ ≠ (.slice Ao35 t292.length co35 : Value).ownBlock) (Kd.R_keptB (HO274.out) hkp (fun k_ hk_ hs_ => (hk_.1.1.1.2) hs_)) (fun k_ hk_ => ⟨hk_.1.1.1.1.1.2, hk_.1.1.1.1.1.1, hk_.1.1.1.1.2, hk_.1.1.1.2, hk_.1.1.2, hk_.1.2⟩)); have n2_ := Aside0.mk (Kd.R_mono (ok' := fun k_ => some k_ ≠ (.slice Ao18 t269.length co18 : Value).ownBlock ∧ some k_ ≠ (.slice Ao21 t272.length co21 : Value).ownBlock ∧ some k_ ≠ (.slice Ao25 t280.length co25 : Value).ownBlock ∧ some k_ ≠ (.slice Ao28 t283.length co28 : Value).ownBlock ∧ some k_ ≠ (.slice Ao31 t286.length co31 : Value).ownBlock ∧ some k_ ≠ (.slice Ao35 t292.length co35 : Value).ownBlock) (Kd.R_keptB (HO277.out) hkp (fun k_ hk_ hs_ => (hk_.1.1.1.2) hs_)) (fun k_ hk_ => ⟨hk_.1.1.1.1.1.2, hk_.1.1.1.1.1.1, hk_.1.1.1.1.2, hk_.1.1.1.2, hk_.1.1.2, hk_.1.2⟩)); have n3_ := Aside0.mk (blk_kept (by (with_reducible repeat (first | refine blk_drewN ?_ _ | refine blk_drew ?_ | refine blk_alloc ?_ _)); exact BK279.out) hkp (fun hs_ => (fun e_ => (Kd.R_ne HO282.out BK279.out (by decide)) e_) hs_)); have n4_ := Aside0.mk (Kd.R_reok rfl hy0 (fun k_ e_ => HO282.out.1 k_ e_)); have n5_ := Aside0.mk (Kd.R_mono (ok' := fun k_ => some k_ ≠ (.slice Ao18 t269.length co18 : Value).ownBlock ∧ some k_ ≠ (.slice Ao21 t272.length co21 : Value).ownBlock ∧ some k_ ≠ (.slice Ao23 t275.length co23 : Value).ownBlock ∧ some k_ ≠ (.slice Ao25 t280.length co25 : Value).ownBlock ∧ some k_ ≠ (.slice Ao31 t286.length co31 : Value).ownBlock ∧ some k_ ≠ (.slice Ao35 t292.length co35 : Value).ownBlock) (Kd.R_keptB (HO285.out) hkp (fun k_ hk_ hs_ => (hk_.1.2) hs_)) (fun k_ hk_ => ⟨hk_.1.1.1.1.1.2, hk_.1.1.1.1.2, hk_.1.1.1.2, hk_.1.1.2, hk_.1.1.1.1.1.1, hk_.1.2⟩)); have n6_ := Aside0.mk (Kd.R_mono (ok' := fun k_ => some k_ ≠ (.slice Ao18 t269.length co18 : Value).ownBlock ∧ some k_ ≠ (.slice Ao21 t272.length co21 : Value).ownBlock ∧ some k_ ≠ (.slice Ao23 t275.length co23 : Value).ownBlock ∧ some k_ ≠ (.slice Ao25 t280.length co25 : Value).ownBlock ∧ some k_ ≠ (.slice Ao28 t283.length co28 : Value).ownBlock ∧ some k_ ≠ (.slice Ao35 t292.length co35 : Value).ownBlock) (Kd.R_keptB (HO288.out) hkp (fun k_ hk_ hs_ => (hk_.1.2) hs_)) (fun k_ hk_ => ⟨hk_.1.1.1.1.1.2, hk_.1.1.1.1.2, hk_.1.1.1.2, hk_.1.1.2, hk_.1.1.1.1.1.1, hk_.1.2⟩)); have n7_ := Aside0.mk (blk_kept (by (with_reducible repeat (first | refine blk_drewN ?_ _ | refine blk_drew ?_ | refine blk_alloc ?_ _)); exact BK290.out) hkp (fun hs_ => (fun e_ => (Kd.R_ne HO282.out BK290.out (by decide)) e_) hs_)); have n8_ := Aside0.mk (Kd.R_mono (ok' := fun k_ => some k_ ≠ (.slice Ao18 t269.length co18 : Value).ownBlock ∧ some k_ ≠ (.slice Ao21 t272.length co21 : Value).ownBlock ∧ some k_ ≠ (.slice Ao23 t275.length co23 : Value).ownBlock ∧ some k_ ≠ (.slice Ao25 t280.length co25 : Value).ownBlock ∧ some k_ ≠ (.slice Ao28 t283.length co28 : Value).ownBlock ∧ some k_ ≠ (.slice Ao31 t286.length co31 : Value).ownBlock) (Kd.R_keptB (HO294.out) hkp (fun k_ hk_ hs_ => (hk_.1.1.2) hs_)) (fun k_ hk_ => ⟨hk_.1.1.1.1.1.1.2, hk_.1.1.1.1.1.2, hk_.1.1.1.1.2, hk_.1.1.1.2, hk_.1.1.2, hk_.1.2⟩)); have n9_ := Aside0.mk (hb); clear HO271; clear HO274; clear HO277; clear BK279; clear HO282; clear HO285; clear HO288; clear BK290; clear HO294; clear HB; have HO271 := n0_; have HO274 := n1_; have HO277 := n2_; have BK279 := n3_; have HO282 := n4_; have HO285 := n5_; have HO288 := n6_; have BK290 := n7_; have HO294 := n8_; have HB := n9_; clear n0_ n1_ n2_ n3_ n4_ n5_ n6_ n7_ n8_ n9_; (try clear hb); (try clear hkp); (try clear hy0)))
    (try simp only [Act.put, List.setIfInBounds_toArray, List.set_cons_zero, List.set_cons_succ])
    go_cut [50] (fun v50 wc => ∃ (kq : Nat) (x50_15 : Bool), v50 = .bool x50_15 ∧ Aside0 (laws_FnExactGuestDrop.j0 kq l0 a1 a2 x50_15 t272 t275 t278 t283 t286 t289 = some true) ∧ Aside0 (kq ≤ k) ∧ Aside0 (Kd.R k52 52 wc w.heap.size (fun k_ => some k_ ≠ ((.slice Ao23 t275.length co23) : Value).ownBlock ∧ some k_ ≠ ((.slice Ao28 t283.length co28) : Value).ownBlock ∧ some k_ ≠ ((.slice Ao31 t286.length co31) : Value).ownBlock) (.slice Ao21 t272.length co21) t272) ∧ Aside0 (Kd.R k52 52 wc w.heap.size (fun k_ => some k_ ≠ ((.slice Ao21 t272.length co21) : Value).ownBlock ∧ some k_ ≠ ((.slice Ao28 t283.length co28) : Value).ownBlock ∧ some k_ ≠ ((.slice Ao31 t286.length co31) : Value).ownBlock) (.slice Ao23 t275.length co23) t275) ∧ Aside0 (Kd.R k52 52 wc w.heap.size (fun k_ => some k_ ≠ ((.slice Ao21 t272.length co21) : Value).ownBlock ∧ some k_ ≠ ((.slice Ao23 t275.length co23) : Value).ownBlock ∧ some k_ ≠ ((.slice Ao31 t286.length co31) : Value).ownBlock) (.slice Ao28 t283.length co28) t283) ∧ Aside0 (Kd.R k52 52 wc w.heap.size (fun k_ => some k_ ≠ ((.slice Ao21 t272.length co21) : Value).ownBlock ∧ some k_ ≠ ((.slice Ao23 t275.length co23) : Value).ownBlock ∧ some k_ ≠ ((.slice Ao28 t283.length co28) : Value).ownBlock) (.slice Ao31 t286.length co31) t286) ∧ Aside0 (wc.heap[gb279]? = some (.cells #[(.slice Ao21 t272.length co21), (.slice Ao23 t275.length co23), .int .i64 t278] 57 (0, 0))) ∧ Aside0 (wc.heap[gb290]? = some (.cells #[(.slice Ao28 t283.length co28), (.slice Ao31 t286.length co31), .int .i64 t289] 57 (0, 0))) ∧ Aside0 (Below w.heap.size w wc))
    case first =>
     have H := HC16.out
     clear HC16
     by_cases c38 : t296 < 0
     ·rw [if_pos c38] at H
      have c38b0 : decide (t296 < 0) = true := decide_eq_true c38
      clear c38
      (first | rw [c38b0] | (simp only [i64_w, i32_w]; rw [c38b0]) | skip)
      have H' := Aside0.mk H
      clear H
      go_wp2
      go_meet
      case rel => exact ⟨_, (true), (by first | rfl | (simp; done) | (simp [*]; done)), H', ⟨by first | omega | exact Nat.le_refl _⟩, ⟨by (with_reducible repeat (first | apply Kd.R_alloc | apply Kd.R_drewN | apply Kd.R_drew)); exact Kd.R_mono HO274.out (fun _ hk => ⟨hk.2.1, ⟨hk.2.2.2.1, hk.2.2.2.2.1⟩⟩)⟩, ⟨by (with_reducible repeat (first | apply Kd.R_alloc | apply Kd.R_drewN | apply Kd.R_drew)); exact Kd.R_mono HO277.out (fun _ hk => ⟨hk.2.1, ⟨hk.2.2.2.1, hk.2.2.2.2.1⟩⟩)⟩, ⟨by (with_reducible repeat (first | apply Kd.R_alloc | apply Kd.R_drewN | apply Kd.R_drew)); exact Kd.R_mono HO285.out (fun _ hk => ⟨hk.2.1, ⟨hk.2.2.1, hk.2.2.2.2.1⟩⟩)⟩, ⟨by (with_reducible repeat (first | apply Kd.R_alloc | apply Kd.R_drewN | apply Kd.R_drew)); exact Kd.R_mono HO288.out (fun _ hk => ⟨hk.2.1, ⟨hk.2.2.1, hk.2.2.2.2.1⟩⟩)⟩, ⟨by (with_reducible repeat (first | refine blk_drewN ?_ _ | refine blk_drew ?_ | refine blk_alloc ?_ _)); exact BK279.out⟩, ⟨by (with_reducible repeat (first | refine blk_drewN ?_ _ | refine blk_drew ?_ | refine blk_alloc ?_ _)); exact BK290.out⟩, ⟨by repeat (first | (with_reducible first | exact HB.out | apply below_alloc | apply pw_below_drewN | apply below_drew1 | refine below_set ?_ GE279.out | refine below_set ?_ GE290.out) | exact HB.out)⟩⟩
     ·rw [if_neg c38] at H
      have c38b0 : decide (t296 < 0) = false := decide_eq_false c38
      clear c38
      (first | rw [c38b0] | (simp only [i64_w, i32_w]; rw [c38b0]) | skip)
      replace H := Option.bind_eq_some_iff.mp H
      obtain ⟨t298, A390, H⟩ := H
      replace H : (laws_FnExactGuestDrop.j0 k l0 a1 a2 (!t298) t272 t275 t278 t283 t286 t289) = some true := H
      have A39 := Aside0.mk A390
      clear A390
      have H' := Aside0.mk H
      clear H
      have hnb40 := NB290_279.out
      have hnc40 := NB279_290.out
      have hcz41_0 : w37.cell? ⟨gb290, 0, none⟩ = some (.slice Ao28 t283.length co28) := (blk_cell BK290.out 0).trans rfl
      have hcz41_1 : w37.cell? ⟨gb290, 1, none⟩ = some (.slice Ao31 t286.length co31) := (blk_cell BK290.out 1).trans rfl
      have hcz41_2 : w37.cell? ⟨gb290, 2, none⟩ = some (.int .i64 t289) := (blk_cell BK290.out 2).trans rfl
      have hfz41_0 := blk_frozen BK290.out 0
      have hfz41_1 := blk_frozen BK290.out 1
      have hfz41_2 := blk_frozen BK290.out 2
      have hcz42_0 : w37.cell? ⟨gb279, 0, none⟩ = some (.slice Ao21 t272.length co21) := (blk_cell BK279.out 0).trans rfl
      have hcz42_1 : w37.cell? ⟨gb279, 1, none⟩ = some (.slice Ao23 t275.length co23) := (blk_cell BK279.out 1).trans rfl
      have hcz42_2 : w37.cell? ⟨gb279, 2, none⟩ = some (.int .i64 t278) := (blk_cell BK279.out 2).trans rfl
      have hfz42_0 := blk_frozen BK279.out 0
      have hfz42_1 := blk_frozen BK279.out 1
      have hfz42_2 := blk_frozen BK279.out 2
      go_wp2_with (first | (go_at_call 40; (with_reducible refine (laws_eqGuestsOut.calls k _ _ t283 _ _ t286 t289 _ _ t272 _ _ t275 t278 t298 _ ?side1 ?side2 ?side3 ?side4 ?side5 ?side6 ?side7 ?side8 A39.out).mono ?_); (case side1 => repeat (first | exact (Kd.R_reads' HO285.out).2.2 | (with_reducible refine Kd.C_alloc ?_ _) | (with_reducible refine Kd.C_drewN ?_ _) | (with_reducible refine Kd.C_drew ?_))); (case side2 => exact (Kd.R_reads' HO285.out).2.1); (case side3 => repeat (first | exact (Kd.R_reads' HO288.out).2.2 | (with_reducible refine Kd.C_alloc ?_ _) | (with_reducible refine Kd.C_drewN ?_ _) | (with_reducible refine Kd.C_drew ?_))); (case side4 => exact (Kd.R_reads' HO288.out).2.1); (case side5 => repeat (first | exact (Kd.R_reads' HO274.out).2.2 | (with_reducible refine Kd.C_alloc ?_ _) | (with_reducible refine Kd.C_drewN ?_ _) | (with_reducible refine Kd.C_drew ?_))); (case side6 => exact (Kd.R_reads' HO274.out).2.1); (case side7 => repeat (first | exact (Kd.R_reads' HO277.out).2.2 | (with_reducible refine Kd.C_alloc ?_ _) | (with_reducible refine Kd.C_drewN ?_ _) | (with_reducible refine Kd.C_drew ?_))); (case side8 => exact (Kd.R_reads' HO277.out).2.1); rintro e w43 ⟨rfl, hb⟩; have n0_ := Aside0.mk (Kd.R_below (by (with_reducible repeat (first | apply Kd.R_alloc | apply Kd.R_drewN | apply Kd.R_drew)); exact HO271.out) hb); have n1_ := Aside0.mk (Kd.R_below (by (with_reducible repeat (first | apply Kd.R_alloc | apply Kd.R_drewN | apply Kd.R_drew)); exact HO274.out) hb); have n2_ := Aside0.mk (Kd.R_below (by (with_reducible repeat (first | apply Kd.R_alloc | apply Kd.R_drewN | apply Kd.R_drew)); exact HO277.out) hb); have n3_ := Aside0.mk (Kd.R_below (by (with_reducible repeat (first | apply Kd.R_alloc | apply Kd.R_drewN | apply Kd.R_drew)); exact HO282.out) hb); have n4_ := Aside0.mk (Kd.R_below (by (with_reducible repeat (first | apply Kd.R_alloc | apply Kd.R_drewN | apply Kd.R_drew)); exact HO285.out) hb); have n5_ := Aside0.mk (Kd.R_below (by (with_reducible repeat (first | apply Kd.R_alloc | apply Kd.R_drewN | apply Kd.R_drew)); exact HO288.out) hb); have n6_ := Aside0.mk (Kd.R_below (by (with_reducible repeat (first | apply Kd.R_alloc | apply Kd.R_drewN | apply Kd.R_drew)); exact HO294.out) hb); have n7_ := Aside0.mk (blk_below (g := gb279) (o := .cells #[.slice Ao21 t272.length co21, .slice Ao23 t275.length co23, .int .i64 t278] 57 (0, 0)) (by (with_reducible repeat (first | refine blk_drewN ?_ _ | refine blk_drew ?_ | refine blk_alloc ?_ _)); exact BK279.out) hb); have n8_ := Aside0.mk (blk_below (g := gb290) (o := .cells #[.slice Ao28 t283.length co28, .slice Ao31 t286.length co31, .int .i64 t289] 57 (0, 0)) (by (with_reducible repeat (first | refine blk_drewN ?_ _ | refine blk_drew ?_ | refine blk_alloc ?_ _)); exact BK290.out) hb); have n9_ := Aside0.mk (below_step (by repeat (first | (with_reducible first | exact HB.out | apply below_alloc | apply pw_below_drewN | apply below_drew1 | refine below_set ?_ GE279.out | refine below_set ?_ GE290.out) | exact HB.out)) hb); clear HO271; clear HO274; clear HO277; clear HO282; clear HO285; clear HO288; clear HO294; clear BK279; clear BK290; clear HB; have HO271 := n0_; have HO274 := n1_; have HO277 := n2_; have HO282 := n3_; have HO285 := n4_; have HO288 := n5_; have HO294 := n6_; have BK279 := n7_; have BK290 := n8_; have HB := n9_; clear n0_ n1_ n2_ n3_ n4_ n5_ n6_ n7_ n8_ n9_; (try clear hb); (try clear hb2); (try clear hk); (try clear hi)))
      go_meet
      case rel => exact ⟨_, (!t298), (by first | rfl | (simp; done) | (simp [*]; done)), H', ⟨by first | omega | exact Nat.le_refl _⟩, ⟨by (with_reducible repeat (first | apply Kd.R_alloc | apply Kd.R_drewN | apply Kd.R_drew)); exact Kd.R_mono HO274.out (fun _ hk => ⟨hk.2.1, ⟨hk.2.2.2.1, hk.2.2.2.2.1⟩⟩)⟩, ⟨by (with_reducible repeat (first | apply Kd.R_alloc | apply Kd.R_drewN | apply Kd.R_drew)); exact Kd.R_mono HO277.out (fun _ hk => ⟨hk.2.1, ⟨hk.2.2.2.1, hk.2.2.2.2.1⟩⟩)⟩, ⟨by (with_reducible repeat (first | apply Kd.R_alloc | apply Kd.R_drewN | apply Kd.R_drew)); exact Kd.R_mono HO285.out (fun _ hk => ⟨hk.2.1, ⟨hk.2.2.1, hk.2.2.2.2.1⟩⟩)⟩, ⟨by (with_reducible repeat (first | apply Kd.R_alloc | apply Kd.R_drewN | apply Kd.R_drew)); exact Kd.R_mono HO288.out (fun _ hk => ⟨hk.2.1, ⟨hk.2.2.1, hk.2.2.2.2.1⟩⟩)⟩, ⟨by (with_reducible repeat (first | refine blk_drewN ?_ _ | refine blk_drew ?_ | refine blk_alloc ?_ _)); exact BK279.out⟩, ⟨by (with_reducible repeat (first | refine blk_drewN ?_ _ | refine blk_drew ?_ | refine blk_alloc ?_ _)); exact BK290.out⟩, ⟨by repeat (first | (with_reducible first | exact HB.out | apply below_alloc | apply pw_below_drewN | apply below_drew1 | refine below_set ?_ GE279.out | refine below_set ?_ GE290.out) | exact HB.out)⟩⟩
    case rest =>
     clear HC16
     try clear c1
     try clear c2
     try clear p2
     try clear c3
     try clear c4
     try clear c5
     try clear c5b0
     try clear c10
     try clear c11
     try clear c14
     try clear c29
     try clear c30
     try clear c32
     try clear c34
     try clear c38
     try clear c38b0
     try clear c40
     try clear c41
     try clear hcz22_0
     try clear hcz22_1
     try clear hcz22_2
     try clear hcz30_0
     try clear hcz30_1
     try clear hcz30_2
     try clear hcz32_0
     try clear hcz32_1
     try clear hcz32_2
     try clear hcz41_0
     try clear hcz41_1
     try clear hcz41_2
     try clear hcz42_0
     try clear hcz42_1
     try clear hcz42_2
     try clear hfz22_0
     try clear hfz22_1
     try clear hfz22_2
     try clear hfz30_0
     try clear hfz30_1
     try clear hfz30_2
     try clear hfz32_0
     try clear hfz32_1
     try clear hfz32_2
     try clear hfz41_0
     try clear hfz41_1
     try clear hfz41_2
     try clear hfz42_0
     try clear hfz42_1
     try clear hfz42_2
     obtain ⟨kq, x50_15, rfl, HA, HJ15, HO_280000, HO_280001, HO_291000, HO_291001, BK279, BK290, HB⟩ := hcut
     cases kq with
     | zero => exact absurd HA.out (by simp [laws_FnExactGuestDrop.j0])
     | succ kj15 =>
      have H := HA.out
      clear HA
      simp only [laws_FnExactGuestDrop.j0] at H
      by_cases c44 : x50_15 = true
      ·subst c44
       have H1 : (some false) = some true := by rw [if_pos rfl] at H; exact H
       clear H
       have H := H1
       clear H1
       exact absurd (Option.some.inj H) (by decide)
      ·replace c44 := Bool.eq_false_iff.mpr c44
       subst c44
       have H1 : ((laws_markGuestsOut.f kj15 t283 t286 t289 1).bind fun bt299 => ((laws_heldGuestsOut.f kj15 bt299.2.1 bt299.2.2 t289 1).bind fun t302 => (if t302 < 0 then (some false) else (if t302 = bt299.1 then ((laws_toGuestS.f kj15 l0).bind fun t303 => ((impl_GuestDrop.f kj15 t303 a1 a2).bind fun bt306 => ((laws_eqGuestsOut.f kj15 bt306.1 bt306.2.1 bt306.2.2 t272 t275 t278).bind fun t314 => (if t314 = true then ((laws_heldGuestsOut.f kj15 bt299.2.1 bt299.2.2 t289 1).bind fun t315 => (if t315 < 0 then (some false) else (if t315 = bt299.1 then (some true) else (some false)))) else (some false))))) else (some false))))) = some true := by rw [if_neg (show ¬ (false = true) by decide)] at H; exact H
       clear H
       have H := H1
       clear H1
       replace H := Option.bind_eq_some_iff.mp H
       obtain ⟨⟨t299, t300, t301⟩, A450, H⟩ := H
       replace H : ((laws_heldGuestsOut.f kj15 t300 t301 t289 1).bind fun t302 => (if t302 < 0 then (some false) else (if t302 = t299 then ((laws_toGuestS.f kj15 l0).bind fun t303 => ((impl_GuestDrop.f kj15 t303 a1 a2).bind fun bt306 => ((laws_eqGuestsOut.f kj15 bt306.1 bt306.2.1 bt306.2.2 t272 t275 t278).bind fun t314 => (if t314 = true then ((laws_heldGuestsOut.f kj15 t300 t301 t289 1).bind fun t315 => (if t315 < 0 then (some false) else (if t315 = t299 then (some true) else (some false)))) else (some false))))) else (some false)))) = some true := H
       have A45 := Aside0.mk A450
       clear A450
       replace H := Option.bind_eq_some_iff.mp H
       obtain ⟨t302, A460, H⟩ := H
       replace H : (if t302 < 0 then (some false) else (if t302 = t299 then ((laws_toGuestS.f kj15 l0).bind fun t303 => ((impl_GuestDrop.f kj15 t303 a1 a2).bind fun bt306 => ((laws_eqGuestsOut.f kj15 bt306.1 bt306.2.1 bt306.2.2 t272 t275 t278).bind fun t314 => (if t314 = true then ((laws_heldGuestsOut.f kj15 t300 t301 t289 1).bind fun t315 => (if t315 < 0 then (some false) else (if t315 = t299 then (some true) else (some false)))) else (some false))))) else (some false))) = some true := H
       have A46 := Aside0.mk A460
       clear A460
       by_cases c47 : t302 < 0
       ·rw [if_pos c47] at H
        have c47b0 : decide (t302 < 0) = true := decide_eq_true c47
        clear c47
        exact absurd (Option.some.inj H) (by decide)
       ·rw [if_neg c47] at H
        have c47b0 : decide (t302 < 0) = false := decide_eq_false c47
        clear c47
        by_cases c53 : t302 = t299
        ·rw [if_pos c53] at H
         have c53b0 : (t302 == t299) = true := beq_iff_eq.mpr c53
         have c53b1 : (t302 != t299) = false := bne_eq_false_iff_eq.mpr c53
         clear c53
         replace H := Option.bind_eq_some_iff.mp H
         obtain ⟨t303, A540, H⟩ := H
         replace H : ((impl_GuestDrop.f kj15 t303 a1 a2).bind fun bt306 => ((laws_eqGuestsOut.f kj15 bt306.1 bt306.2.1 bt306.2.2 t272 t275 t278).bind fun t314 => (if t314 = true then ((laws_heldGuestsOut.f kj15 t300 t301 t289 1).bind fun t315 => (if t315 < 0 then (some false) else (if t315 = t299 then (some true) else (some false)))) else (some false)))) = some true := H
         have A54 := Aside0.mk A540
         clear A540
         replace H := Option.bind_eq_some_iff.mp H
         obtain ⟨⟨t306, t309, t312⟩, A550, H⟩ := H
         replace H : ((laws_eqGuestsOut.f kj15 t306 t309 t312 t272 t275 t278).bind fun t314 => (if t314 = true then ((laws_heldGuestsOut.f kj15 t300 t301 t289 1).bind fun t315 => (if t315 < 0 then (some false) else (if t315 = t299 then (some true) else (some false)))) else (some false))) = some true := H
         have A55 := Aside0.mk A550
         clear A550
         replace H := Option.bind_eq_some_iff.mp H
         obtain ⟨t314, A560, H⟩ := H
         replace H : (if t314 = true then ((laws_heldGuestsOut.f kj15 t300 t301 t289 1).bind fun t315 => (if t315 < 0 then (some false) else (if t315 = t299 then (some true) else (some false)))) else (some false)) = some true := H
         have A56 := Aside0.mk A560
         clear A560
         by_cases c57 : t314 = true
         ·subst c57
          have H1 : ((laws_heldGuestsOut.f kj15 t300 t301 t289 1).bind fun t315 => (if t315 < 0 then (some false) else (if t315 = t299 then (some true) else (some false)))) = some true := by rw [if_pos rfl] at H; exact H
          clear H
          have H := H1
          clear H1
          replace H := Option.bind_eq_some_iff.mp H
          obtain ⟨t315, A580, H⟩ := H
          replace H : (if t315 < 0 then (some false) else (if t315 = t299 then (some true) else (some false))) = some true := H
          have A58 := Aside0.mk A580
          clear A580
          by_cases c59 : t315 < 0
          ·rw [if_pos c59] at H
           have c59b0 : decide (t315 < 0) = true := decide_eq_true c59
           clear c59
           exact absurd (Option.some.inj H) (by decide)
          ·rw [if_neg c59] at H
           have c59b0 : decide (t315 < 0) = false := decide_eq_false c59
           clear c59
           by_cases c78 : t315 = t299
           ·rw [if_pos c78] at H
            have c78b0 : (t315 == t299) = true := beq_iff_eq.mpr c78
            have c78b1 : (t315 != t299) = false := bne_eq_false_iff_eq.mpr c78
            clear c78
            clear H
            have hnb79 := NB290_279.out
            have hnc79 := NB279_290.out
            have hcz80_0 : wc.cell? ⟨gb290, 0, none⟩ = some (.slice Ao28 t283.length co28) := (blk_cell BK290.out 0).trans rfl
            have hcz80_1 : wc.cell? ⟨gb290, 1, none⟩ = some (.slice Ao31 t286.length co31) := (blk_cell BK290.out 1).trans rfl
            have hcz80_2 : wc.cell? ⟨gb290, 2, none⟩ = some (.int .i64 t289) := (blk_cell BK290.out 2).trans rfl
            have hfz80_0 := blk_frozen BK290.out 0
            have hfz80_1 := blk_frozen BK290.out 1
            have hfz80_2 := blk_frozen BK290.out 2
            go_wp2_with (first | ((with_reducible refine gate_callee (f := 42) rfl ?_); refine goesL_ (some 53) rfl rfl Try.func42 (by kernel_rfl) rfl #[.agg #[.slice Ao28 t283.length co28, .slice Ao31 t286.length co31, .int .i64 t289], .int .i64 1] rfl (by (try simp only [List.map_toArray, List.map_cons, List.map_nil]); first | done | rfl | (simp only [List.length_drop, List.length_take]; rfl)) ?_; (with_reducible refine (laws_markGuestsOut.calls kj15 (fun k_ => some k_ = (.slice Ao28 t283.length co28 : Value).ownBlock) (.slice Ao28 t283.length co28) t283 (fun k_ => some k_ = (.slice Ao31 t286.length co31 : Value).ownBlock) (.slice Ao31 t286.length co31) t286 t289 1 t299 t300 t301 w _ ?side1 ?side2 ?side3 ?side4 ?side5 A45.out).mono ?_); (case side1 => repeat (first | (with_reducible first | exact HB.out | apply below_alloc | apply pw_below_drewN | apply below_drew1 | refine below_set ?_ GE279.out | refine below_set ?_ GE290.out) | exact HB.out)); (case side2 => exact Kd.R_tight rfl HO_291000.out); (case side3 => exact fun k_ e_ => (HO_291000.out.1 k_ e_.symm).2.2); (case side4 => exact Kd.R_tight rfl HO_291001.out); (case side5 => exact fun k_ e_ => (HO_291001.out.1 k_ e_.symm).2.2); rintro e w81 ⟨rfl, hy0, hy1, hb, hkp⟩; refine ⟨_, rfl, ?_⟩; have n0_ := Aside0.mk (Kd.R_mono (ok' := fun k_ => some k_ ≠ (.slice Ao23 t275.length co23 : Value).ownBlock ∧ some k_ ≠ (.slice Ao28 t283.length co28 : Value).ownBlock ∧ some k_ ≠ (.slice Ao31 t286.length co31 : Value).ownBlock) (Kd.R_keptB (HO_280000.out) hkp (fun k_ hk_ hs_ => Or.elim hs_ (fun e_ => (hk_.2.1) e_) (fun e_ => (hk_.2.2) e_))) (fun k_ hk_ => ⟨hk_.1.1, hk_.1.2.1, hk_.1.2.2⟩)); have n1_ := Aside0.mk (Kd.R_mono (ok' := fun k_ => some k_ ≠ (.slice Ao21 t272.length co21 : Value).ownBlock ∧ some k_ ≠ (.slice Ao28 t283.length co28 : Value).ownBlock ∧ some k_ ≠ (.slice Ao31 t286.length co31 : Value).ownBlock) (Kd.R_keptB (HO_280001.out) hkp (fun k_ hk_ hs_ => Or.elim hs_ (fun e_ => (hk_.2.1) e_) (fun e_ => (hk_.2.2) e_))) (fun k_ hk_ => ⟨hk_.1.1, hk_.1.2.1, hk_.1.2.2⟩)); have n2_ := Aside0.mk (Kd.R_reok rfl hy0 (fun k_ e_ => HO_291000.out.1 k_ e_)); have n3_ := Aside0.mk (Kd.R_reok rfl hy1 (fun k_ e_ => HO_291001.out.1 k_ e_)); have n4_ := Aside0.mk (blk_kept (by (with_reducible repeat (first | refine blk_drewN ?_ _ | refine blk_drew ?_ | refine blk_alloc ?_ _)); exact BK279.out) hkp (fun hs_ => Or.elim hs_ (fun e_ => (fun e_ => (Kd.R_ne HO_291000.out BK279.out (by decide)) e_) e_) (fun e_ => (fun e_ => (Kd.R_ne HO_291001.out BK279.out (by decide)) e_) e_))); have n5_ := Aside0.mk (blk_kept (by (with_reducible repeat (first | refine blk_drewN ?_ _ | refine blk_drew ?_ | refine blk_alloc ?_ _)); exact BK290.out) hkp (fun hs_ => Or.elim hs_ (fun e_ => (fun e_ => (Kd.R_ne HO_291000.out BK290.out (by decide)) e_) e_) (fun e_ => (fun e_ => (Kd.R_ne HO_291001.out BK290.out (by decide)) e_) e_))); have n6_ := Aside0.mk (hb); clear HO_280000; clear HO_280001; clear HO_291000; clear HO_291001; clear BK279; clear BK290; clear HB; have HO_280000 := n0_; have HO_280001 := n1_; have HO_291000 := n2_; have HO_291001 := n3_; have BK279 := n4_; have BK290 := n5_; have HB := n6_; clear n0_ n1_ n2_ n3_ n4_ n5_ n6_; (try clear hb); (try clear hkp); (try clear hy0); (try clear hy1); have hcz82_0 : w81.cell? ⟨gb290, 0, none⟩ = some (.slice Ao28 t283.length co28) := (blk_cell BK290.out 0).trans rfl; have hcz82_1 : w81.cell? ⟨gb290, 1, none⟩ = some (.slice Ao31 t286.length co31) := (blk_cell BK290.out 1).trans rfl; have hcz82_2 : w81.cell? ⟨gb290, 2, none⟩ = some (.int .i64 t289) := (blk_cell BK290.out 2).trans rfl; have hfz82_0 := blk_frozen BK290.out 0; have hfz82_1 := blk_frozen BK290.out 1; have hfz82_2 := blk_frozen BK290.out 2) | ((with_reducible refine gate_callee (f := 43) rfl ?_); refine goesL_ (some 56) rfl rfl Try.func43 (by kernel_rfl) rfl #[.agg #[.slice Ao28 t300.length co28, .slice Ao31 t301.length co31, .int .i64 t289], .int .i64 1] rfl (by (try simp only [List.map_toArray, List.map_cons, List.map_nil]); first | done | (rw [show t300.length = t283.length from (Kd.R_reads' HO_291000.out).1.symm, show t301.length = t286.length from (Kd.R_reads' HO_291001.out).1.symm] <;> rfl) | rfl | (simp only [List.length_drop, List.length_take]; rfl)) ?_; (with_reducible refine (laws_heldGuestsOut.calls kj15 _ _ t300 _ _ t301 t289 1 t302 _ ?side1 ?side2 ?side3 ?side4 A46.out).mono ?_); (case side1 => repeat (first | exact (Kd.R_reads' HO_291000.out).2.2 | (with_reducible refine Kd.C_alloc ?_ _) | (with_reducible refine Kd.C_drewN ?_ _) | (with_reducible refine Kd.C_drew ?_))); (case side2 => rw [show t300.length = t283.length from (Kd.R_reads' HO_291000.out).1.symm]; exact (Kd.R_reads' HO_291000.out).2.1); (case side3 => repeat (first | exact (Kd.R_reads' HO_291001.out).2.2 | (with_reducible refine Kd.C_alloc ?_ _) | (with_reducible refine Kd.C_drewN ?_ _) | (with_reducible refine Kd.C_drew ?_))); (case side4 => rw [show t301.length = t286.length from (Kd.R_reads' HO_291001.out).1.symm]; exact (Kd.R_reads' HO_291001.out).2.1); rintro e w83 ⟨rfl, hb⟩; refine ⟨_, rfl, ?_⟩; have n0_ := Aside0.mk (Kd.R_below (by (with_reducible repeat (first | apply Kd.R_alloc | apply Kd.R_drewN | apply Kd.R_drew)); exact HO_280000.out) hb); have n1_ := Aside0.mk (Kd.R_below (by (with_reducible repeat (first | apply Kd.R_alloc | apply Kd.R_drewN | apply Kd.R_drew)); exact HO_280001.out) hb); have n2_ := Aside0.mk (Kd.R_below (by (with_reducible repeat (first | apply Kd.R_alloc | apply Kd.R_drewN | apply Kd.R_drew)); exact HO_291000.out) hb); have n3_ := Aside0.mk (Kd.R_below (by (with_reducible repeat (first | apply Kd.R_alloc | apply Kd.R_drewN | apply Kd.R_drew)); exact HO_291001.out) hb); have n4_ := Aside0.mk (blk_below (g := gb279) (o := .cells #[.slice Ao21 t272.length co21, .slice Ao23 t275.length co23, .int .i64 t278] 57 (0, 0)) (by (with_reducible repeat (first | refine blk_drewN ?_ _ | refine blk_drew ?_ | refine blk_alloc ?_ _)); exact BK279.out) hb); have n5_ := Aside0.mk (blk_below (g := gb290) (o := .cells #[.slice Ao28 t283.length co28, .slice Ao31 t286.length co31, .int .i64 t289] 57 (0, 0)) (by (with_reducible repeat (first | refine blk_drewN ?_ _ | refine blk_drew ?_ | refine blk_alloc ?_ _)); exact BK290.out) hb); have n6_ := Aside0.mk (below_step (by repeat (first | (with_reducible first | exact HB.out | apply below_alloc | apply pw_below_drewN | apply below_drew1 | refine below_set ?_ GE279.out | refine below_set ?_ GE290.out) | exact HB.out)) hb); clear HO_280000; clear HO_280001; clear HO_291000; clear HO_291001; clear BK279; clear BK290; clear HB; have HO_280000 := n0_; have HO_280001 := n1_; have HO_291000 := n2_; have HO_291001 := n3_; have BK279 := n4_; have BK290 := n5_; have HB := n6_; clear n0_ n1_ n2_ n3_ n4_ n5_ n6_; (try clear hb); (try clear hb2); (try clear hk); (try clear hi)) | ((with_reducible refine gate_callee (f := 32) rfl ?_); refine goesL_ (some 63) rfl rfl Try.func32 (by kernel_rfl) rfl #[.slice A0 l0.length c0] rfl (by (try simp only [List.map_toArray, List.map_cons, List.map_nil]); first | done | rfl | (simp only [List.length_drop, List.length_take]; rfl)) ?_; (with_reducible refine (laws_toGuestS.calls kj15 _ _ l0 t303 _ ?side1 ?side2 A54.out).mono ?_); (case side1 => repeat (first | exact (Kd.C_below HR0.out HB.out) | (with_reducible refine Kd.C_alloc ?_ _) | (with_reducible refine Kd.C_drewN ?_ _) | (with_reducible refine Kd.C_drew ?_))); (case side2 => exact HC0.out); rintro e w84 ⟨v304, rfl, ho0, hb⟩; refine ⟨_, rfl, ?_⟩; have n0_ := Aside0.mk (Kd.R_elder' (by (with_reducible repeat (first | apply Kd.R_alloc | apply Kd.R_drewN | apply Kd.R_drew)); exact HO_280000.out) (Kd.R_base ho0) hb); have n1_ := Aside0.mk (Kd.R_elder' (by (with_reducible repeat (first | apply Kd.R_alloc | apply Kd.R_drewN | apply Kd.R_drew)); exact HO_280001.out) (Kd.R_base ho0) hb); have n2_ := Aside0.mk (Kd.R_elder' (by (with_reducible repeat (first | apply Kd.R_alloc | apply Kd.R_drewN | apply Kd.R_drew)); exact HO_291000.out) (Kd.R_base ho0) hb); have n3_ := Aside0.mk (Kd.R_elder' (by (with_reducible repeat (first | apply Kd.R_alloc | apply Kd.R_drewN | apply Kd.R_drew)); exact HO_291001.out) (Kd.R_base ho0) hb); have n4_ := Aside0.mk (Kd.R_lower (Kd.R_new' (Kd.R_new' (Kd.R_new' (Kd.R_new' ho0 (Kd.R_lt (by (with_reducible repeat (first | apply Kd.R_alloc | apply Kd.R_drewN | apply Kd.R_drew)); exact HO_280000.out))) (Kd.R_lt (by (with_reducible repeat (first | apply Kd.R_alloc | apply Kd.R_drewN | apply Kd.R_drew)); exact HO_280001.out))) (Kd.R_lt (by (with_reducible repeat (first | apply Kd.R_alloc | apply Kd.R_drewN | apply Kd.R_drew)); exact HO_291000.out))) (Kd.R_lt (by (with_reducible repeat (first | apply Kd.R_alloc | apply Kd.R_drewN | apply Kd.R_drew)); exact HO_291001.out))) (below_size (by repeat (first | (with_reducible first | exact HB.out | apply below_alloc | apply pw_below_drewN | apply below_drew1 | refine below_set ?_ GE279.out | refine below_set ?_ GE290.out) | exact HB.out)))); have n5_ := Aside0.mk (blk_below (g := gb279) (o := .cells #[.slice Ao21 t272.length co21, .slice Ao23 t275.length co23, .int .i64 t278] 57 (0, 0)) (by (with_reducible repeat (first | refine blk_drewN ?_ _ | refine blk_drew ?_ | refine blk_alloc ?_ _)); exact BK279.out) hb); have n6_ := Aside0.mk (blk_below (g := gb290) (o := .cells #[.slice Ao28 t283.length co28, .slice Ao31 t286.length co31, .int .i64 t289] 57 (0, 0)) (by (with_reducible repeat (first | refine blk_drewN ?_ _ | refine blk_drew ?_ | refine blk_alloc ?_ _)); exact BK290.out) hb); have n7_ := Aside0.mk (below_step (by repeat (first | (with_reducible first | exact HB.out | apply below_alloc | apply pw_below_drewN | apply below_drew1 | refine below_set ?_ GE279.out | refine below_set ?_ GE290.out) | exact HB.out)) hb); clear HO_280000; clear HO_280001; clear HO_291000; clear HO_291001; clear BK279; clear BK290; clear HB; have HO_280000 := n0_; have HO_280001 := n1_; have HO_291000 := n2_; have HO_291001 := n3_; have HO305 := n4_; have BK279 := n5_; have BK290 := n6_; have HB := n7_; clear n0_ n1_ n2_ n3_ n4_ n5_ n6_ n7_; (try clear hb); (try clear hb2); (try clear hk); (try clear hi); (try clear ho0); obtain ⟨Ao85, co85, eo85⟩ := Kd.R_slice HO305.out; subst eo85) | ((with_reducible refine gate_callee (f := 45) rfl ?_); refine goesL_ (some 66) rfl rfl Try.func45 (by kernel_rfl) rfl #[.slice Ao85 t303.length co85, .int .i64 a1, .int .i64 a2] rfl (by (try simp only [List.map_toArray, List.map_cons, List.map_nil]); first | done | rfl | (simp only [List.length_drop, List.length_take]; rfl)) ?_; (with_reducible refine (impl_GuestDrop.calls kj15 _ _ t303 a1 a2 t306 t309 t312 _ ?side1 ?side2 A55.out).mono ?_); (case side1 => repeat (first | exact (Kd.R_reads' HO305.out).2.2 | (with_reducible refine Kd.C_alloc ?_ _) | (with_reducible refine Kd.C_drewN ?_ _) | (with_reducible refine Kd.C_drew ?_))); (case side2 => exact (Kd.R_reads' HO305.out).2.1); rintro e w86 ⟨v307, v310, rfl, ho0, ho1, hb⟩; refine ⟨_, rfl, ?_⟩; have n0_ := Aside0.mk (Kd.R_mono (Kd.R_told (Kd.R_told (Kd.R_old (by (with_reducible repeat (first | apply Kd.R_alloc | apply Kd.R_drewN | apply Kd.R_drew)); exact HO_280000.out) hb) (Kd.R_base ho0)) (Kd.R_base ho1)) (fun _ h_ => h_.1)); have n1_ := Aside0.mk (Kd.R_mono (Kd.R_told (Kd.R_told (Kd.R_old (by (with_reducible repeat (first | apply Kd.R_alloc | apply Kd.R_drewN | apply Kd.R_drew)); exact HO_280001.out) hb) (Kd.R_base ho0)) (Kd.R_base ho1)) (fun _ h_ => h_.1)); have n2_ := Aside0.mk (Kd.R_mono (Kd.R_told (Kd.R_told (Kd.R_old (by (with_reducible repeat (first | apply Kd.R_alloc | apply Kd.R_drewN | apply Kd.R_drew)); exact HO_291000.out) hb) (Kd.R_base ho0)) (Kd.R_base ho1)) (fun _ h_ => h_.1)); have n3_ := Aside0.mk (Kd.R_mono (Kd.R_told (Kd.R_told (Kd.R_old (by (with_reducible repeat (first | apply Kd.R_alloc | apply Kd.R_drewN | apply Kd.R_drew)); exact HO_291001.out) hb) (Kd.R_base ho0)) (Kd.R_base ho1)) (fun _ h_ => h_.1)); have n4_ := Aside0.mk (Kd.R_mono (Kd.R_told (Kd.R_told (Kd.R_old (by (with_reducible repeat (first | apply Kd.R_alloc | apply Kd.R_drewN | apply Kd.R_drew)); exact HO305.out) hb) (Kd.R_base ho0)) (Kd.R_base ho1)) (fun _ h_ => h_.1)); have n5_ := Aside0.mk (Kd.R_lower (Kd.R_new' (Kd.R_new' (Kd.R_new' (Kd.R_new' (Kd.R_new' ho0 (Kd.R_lt (by (with_reducible repeat (first | apply Kd.R_alloc | apply Kd.R_drewN | apply Kd.R_drew)); exact HO_280000.out))) (Kd.R_lt (by (with_reducible repeat (first | apply Kd.R_alloc | apply Kd.R_drewN | apply Kd.R_drew)); exact HO_280001.out))) (Kd.R_lt (by (with_reducible repeat (first | apply Kd.R_alloc | apply Kd.R_drewN | apply Kd.R_drew)); exact HO_291000.out))) (Kd.R_lt (by (with_reducible repeat (first | apply Kd.R_alloc | apply Kd.R_drewN | apply Kd.R_drew)); exact HO_291001.out))) (Kd.R_lt (by (with_reducible repeat (first | apply Kd.R_alloc | apply Kd.R_drewN | apply Kd.R_drew)); exact HO305.out))) (below_size (by repeat (first | (with_reducible first | exact HB.out | apply below_alloc | apply pw_below_drewN | apply below_drew1 | refine below_set ?_ GE279.out | refine below_set ?_ GE290.out) | exact HB.out)))); have n6_ := Aside0.mk (Kd.R_lower (Kd.R_new' (Kd.R_new' (Kd.R_new' (Kd.R_new' (Kd.R_new' ho1 (Kd.R_lt (by (with_reducible repeat (first | apply Kd.R_alloc | apply Kd.R_drewN | apply Kd.R_drew)); exact HO_280000.out))) (Kd.R_lt (by (with_reducible repeat (first | apply Kd.R_alloc | apply Kd.R_drewN | apply Kd.R_drew)); exact HO_280001.out))) (Kd.R_lt (by (with_reducible repeat (first | apply Kd.R_alloc | apply Kd.R_drewN | apply Kd.R_drew)); exact HO_291000.out))) (Kd.R_lt (by (with_reducible repeat (first | apply Kd.R_alloc | apply Kd.R_drewN | apply Kd.R_drew)); exact HO_291001.out))) (Kd.R_lt (by (with_reducible repeat (first | apply Kd.R_alloc | apply Kd.R_drewN | apply Kd.R_drew)); exact HO305.out))) (below_size (by repeat (first | (with_reducible first | exact HB.out | apply below_alloc | apply pw_below_drewN | apply below_drew1 | refine below_set ?_ GE279.out | refine below_set ?_ GE290.out) | exact HB.out)))); have n7_ := Aside0.mk (blk_below (g := gb279) (o := .cells #[.slice Ao21 t272.length co21, .slice Ao23 t275.length co23, .int .i64 t278] 57 (0, 0)) (by (with_reducible repeat (first | refine blk_drewN ?_ _ | refine blk_drew ?_ | refine blk_alloc ?_ _)); exact BK279.out) hb); have n8_ := Aside0.mk (blk_below (g := gb290) (o := .cells #[.slice Ao28 t283.length co28, .slice Ao31 t286.length co31, .int .i64 t289] 57 (0, 0)) (by (with_reducible repeat (first | refine blk_drewN ?_ _ | refine blk_drew ?_ | refine blk_alloc ?_ _)); exact BK290.out) hb); have n9_ := Aside0.mk (below_step (by repeat (first | (with_reducible first | exact HB.out | apply below_alloc | apply pw_below_drewN | apply below_drew1 | refine below_set ?_ GE279.out | refine below_set ?_ GE290.out) | exact HB.out)) hb); clear HO_280000; clear HO_280001; clear HO_291000; clear HO_291001; clear HO305; clear BK279; clear BK290; clear HB; have HO_280000 := n0_; have HO_280001 := n1_; have HO_291000 := n2_; have HO_291001 := n3_; have HO305 := n4_; have HO308 := n5_; have HO311 := n6_; have BK279 := n7_; have BK290 := n8_; have HB := n9_; clear n0_ n1_ n2_ n3_ n4_ n5_ n6_ n7_ n8_ n9_; (try clear hb); (try clear hb2); (try clear hk); (try clear hi); (try clear ho0); (try clear ho1)) | ((with_reducible refine gate_dst (N := 14) rfl ?_); refine box_event ?hg (N := 14) ?hd (cs := #[.slice none 0 0, .slice none 0 0, .int .i64 0]) (t := 57) ?hr ?_; (case hd => rfl); (case hg => rfl); (case hr => first | (go_simp; done) | (go_simp; rfl)); intro gb313 hg w87 hbox hb; have n0_ := Aside0.mk (Kd.R_below (by (with_reducible repeat (first | apply Kd.R_alloc | apply Kd.R_drewN | apply Kd.R_drew)); exact HO_280000.out) hb); have n1_ := Aside0.mk (Kd.R_below (by (with_reducible repeat (first | apply Kd.R_alloc | apply Kd.R_drewN | apply Kd.R_drew)); exact HO_280001.out) hb); have n2_ := Aside0.mk (Kd.R_below (by (with_reducible repeat (first | apply Kd.R_alloc | apply Kd.R_drewN | apply Kd.R_drew)); exact HO_291000.out) hb); have n3_ := Aside0.mk (Kd.R_below (by (with_reducible repeat (first | apply Kd.R_alloc | apply Kd.R_drewN | apply Kd.R_drew)); exact HO_291001.out) hb); have n4_ := Aside0.mk (Kd.R_below (by (with_reducible repeat (first | apply Kd.R_alloc | apply Kd.R_drewN | apply Kd.R_drew)); exact HO305.out) hb); have n5_ := Aside0.mk (Kd.R_below (by (with_reducible repeat (first | apply Kd.R_alloc | apply Kd.R_drewN | apply Kd.R_drew)); exact HO308.out) hb); have n6_ := Aside0.mk (Kd.R_below (by (with_reducible repeat (first | apply Kd.R_alloc | apply Kd.R_drewN | apply Kd.R_drew)); exact HO311.out) hb); have n7_ := Aside0.mk (blk_below (g := gb279) (o := .cells #[.slice Ao21 t272.length co21, .slice Ao23 t275.length co23, .int .i64 t278] 57 (0, 0)) (by (with_reducible repeat (first | refine blk_drewN ?_ _ | refine blk_drew ?_ | refine blk_alloc ?_ _)); exact BK279.out) hb); have n8_ := Aside0.mk (blk_below (g := gb290) (o := .cells #[.slice Ao28 t283.length co28, .slice Ao31 t286.length co31, .int .i64 t289] 57 (0, 0)) (by (with_reducible repeat (first | refine blk_drewN ?_ _ | refine blk_drew ?_ | refine blk_alloc ?_ _)); exact BK290.out) hb); have n9_ := Aside0.mk (below_step (by repeat (first | (with_reducible first | exact HB.out | apply below_alloc | apply pw_below_drewN | apply below_drew1 | refine below_set ?_ GE279.out | refine below_set ?_ GE290.out) | exact HB.out)) hb); have n10_ := Aside0.mk (hbox); have n11_ := Aside0.mk ((by rw [hg]; exact (below_size (by repeat (first | (with_reducible first | exact HB.out | apply below_alloc | apply pw_below_drewN | apply below_drew1 | refine below_set ?_ GE279.out | refine below_set ?_ GE290.out) | exact HB.out))) : w.heap.size ≤ gb313)); have n12_ := Aside0.mk ((by rw [hg]; exact (below_size (by repeat (first | (with_reducible first | exact HB.out | apply below_alloc | apply pw_below_drewN | apply below_drew1 | refine below_set ?_ GE279.out | refine below_set ?_ GE290.out) | exact HB.out))) : w.heap.size ≤ gb313)); have n13_ := Aside0.mk ((by rw [hg]; exact Nat.ne_of_lt (blk_lt (g := gb279) (o := .cells #[.slice Ao21 t272.length co21, .slice Ao23 t275.length co23, .int .i64 t278] 57 (0, 0)) (by (with_reducible repeat (first | refine blk_drewN ?_ _ | refine blk_drew ?_ | refine blk_alloc ?_ _)); exact BK279.out)) : gb279 ≠ gb313)); have n14_ := Aside0.mk ((by rw [hg]; exact Nat.ne_of_gt (blk_lt (g := gb279) (o := .cells #[.slice Ao21 t272.length co21, .slice Ao23 t275.length co23, .int .i64 t278] 57 (0, 0)) (by (with_reducible repeat (first | refine blk_drewN ?_ _ | refine blk_drew ?_ | refine blk_alloc ?_ _)); exact BK279.out)) : gb313 ≠ gb279)); have n15_ := Aside0.mk ((by rw [hg]; exact Nat.ne_of_lt (blk_lt (g := gb290) (o := .cells #[.slice Ao28 t283.length co28, .slice Ao31 t286.length co31, .int .i64 t289] 57 (0, 0)) (by (with_reducible repeat (first | refine blk_drewN ?_ _ | refine blk_drew ?_ | refine blk_alloc ?_ _)); exact BK290.out)) : gb290 ≠ gb313)); have n16_ := Aside0.mk ((by rw [hg]; exact Nat.ne_of_gt (blk_lt (g := gb290) (o := .cells #[.slice Ao28 t283.length co28, .slice Ao31 t286.length co31, .int .i64 t289] 57 (0, 0)) (by (with_reducible repeat (first | refine blk_drewN ?_ _ | refine blk_drew ?_ | refine blk_alloc ?_ _)); exact BK290.out)) : gb313 ≠ gb290)); clear HO_280000; clear HO_280001; clear HO_291000; clear HO_291001; clear HO305; clear HO308; clear HO311; clear BK279; clear BK290; clear HB; have HO_280000 := n0_; have HO_280001 := n1_; have HO_291000 := n2_; have HO_291001 := n3_; have HO305 := n4_; have HO308 := n5_; have HO311 := n6_; have BK279 := n7_; have BK290 := n8_; have HB := n9_; have BK313 := n10_; have GW313 := n11_; have GE313 := n12_; have NB279_313 := n13_; have NB313_279 := n14_; have NB290_313 := n15_; have NB313_290 := n16_; clear n0_ n1_ n2_ n3_ n4_ n5_ n6_ n7_ n8_ n9_ n10_ n11_ n12_ n13_ n14_ n15_ n16_; clear hb hbox hg; obtain ⟨Ao88, co88, eo88⟩ := Kd.R_slice HO308.out; subst eo88; have hnb89 := NB313_279.out; have hnc89 := NB279_313.out; have hnb90 := NB313_290.out; have hnc90 := NB290_313.out; have hcz91_0 : w87.cell? ⟨gb313, 0, none⟩ = some (.slice none 0 0) := (blk_cell BK313.out 0).trans rfl; have hcz91_1 : w87.cell? ⟨gb313, 1, none⟩ = some (.slice none 0 0) := (blk_cell BK313.out 1).trans rfl; have hcz91_2 : w87.cell? ⟨gb313, 2, none⟩ = some (.int .i64 0) := (blk_cell BK313.out 2).trans rfl; have hfz91_0 := blk_frozen BK313.out 0; have hfz91_1 := blk_frozen BK313.out 1; have hfz91_2 := blk_frozen BK313.out 2; obtain ⟨Ao92, co92, eo92⟩ := Kd.R_slice HO311.out; subst eo92; have hcz93_0 : w87.cell? ⟨gb279, 0, none⟩ = some (.slice Ao21 t272.length co21) := (blk_cell BK279.out 0).trans rfl; have hcz93_1 : w87.cell? ⟨gb279, 1, none⟩ = some (.slice Ao23 t275.length co23) := (blk_cell BK279.out 1).trans rfl; have hcz93_2 : w87.cell? ⟨gb279, 2, none⟩ = some (.int .i64 t278) := (blk_cell BK279.out 2).trans rfl; have hfz93_0 := blk_frozen BK279.out 0; have hfz93_1 := blk_frozen BK279.out 1; have hfz93_2 := blk_frozen BK279.out 2) | ((with_reducible refine gate_callee (f := 40) rfl ?_); refine goesL_ (some 69) rfl rfl Try.func40 (by kernel_rfl) rfl #[.agg #[.slice Ao88 t306.length co88, .slice Ao92 t309.length co92, .int .i64 t312], .agg #[.slice Ao21 t272.length co21, .slice Ao23 t275.length co23, .int .i64 t278]] rfl (by (try simp only [List.map_toArray, List.map_cons, List.map_nil]); first | done | rfl | (simp only [List.length_drop, List.length_take]; rfl)) ?_; (with_reducible refine (laws_eqGuestsOut.calls kj15 _ _ t306 _ _ t309 t312 _ _ t272 _ _ t275 t278 true _ ?side1 ?side2 ?side3 ?side4 ?side5 ?side6 ?side7 ?side8 A56.out).mono ?_); (case side1 => refine (Kd.R_reads' (e := 52) (base := w.heap.size) (ok := fun k_ => (((((some k_ ≠ (.slice Ao92 t309.length co92 : Value).ownBlock ∧ some k_ ≠ (.slice Ao21 t272.length co21 : Value).ownBlock) ∧ some k_ ≠ (.slice Ao23 t275.length co23 : Value).ownBlock) ∧ some k_ ≠ (.slice Ao28 t283.length co28 : Value).ownBlock) ∧ some k_ ≠ (.slice Ao31 t286.length co31 : Value).ownBlock) ∧ some k_ ≠ (.slice Ao85 t303.length co85 : Value).ownBlock)) (n := t306.length) (c := co88) ?_).2.2; exact (by (with_reducible repeat (first | apply Kd.R_alloc | apply Kd.R_drewN | apply Kd.R_drew)); exact (Kd.R_mono (Kd.R_far (p := ⟨gb313, 2, none⟩) (Kd.R_far (p := ⟨gb313, 1, none⟩) (Kd.R_far (p := ⟨gb313, 0, none⟩) (Kd.R_types HO308.out BK313.out (by decide)) (fun _ hk => hk.2) (.slice Ao88 t306.length co88)) (fun _ hk => hk.2) (.slice Ao92 t309.length co92)) (fun _ hk => hk.2) (.int .i64 t312)) (fun _ h_ => h_.1)))); (case side2 => exact (Kd.R_reads' HO308.out).2.1); (case side3 => refine (Kd.R_reads' (e := 52) (base := w.heap.size) (ok := fun k_ => (((((some k_ ≠ (.slice Ao88 t306.length co88 : Value).ownBlock ∧ some k_ ≠ (.slice Ao21 t272.length co21 : Value).ownBlock) ∧ some k_ ≠ (.slice Ao23 t275.length co23 : Value).ownBlock) ∧ some k_ ≠ (.slice Ao28 t283.length co28 : Value).ownBlock) ∧ some k_ ≠ (.slice Ao31 t286.length co31 : Value).ownBlock) ∧ some k_ ≠ (.slice Ao85 t303.length co85 : Value).ownBlock)) (n := t309.length) (c := co92) ?_).2.2; exact (by (with_reducible repeat (first | apply Kd.R_alloc | apply Kd.R_drewN | apply Kd.R_drew)); exact (Kd.R_mono (Kd.R_far (p := ⟨gb313, 2, none⟩) (Kd.R_far (p := ⟨gb313, 1, none⟩) (Kd.R_far (p := ⟨gb313, 0, none⟩) (Kd.R_types HO311.out BK313.out (by decide)) (fun _ hk => hk.2) (.slice Ao88 t306.length co88)) (fun _ hk => hk.2) (.slice Ao92 t309.length co92)) (fun _ hk => hk.2) (.int .i64 t312)) (fun _ h_ => h_.1)))); (case side4 => exact (Kd.R_reads' HO311.out).2.1); (case side5 => refine (Kd.R_reads' (e := 52) (base := w.heap.size) (ok := fun k_ => ((((some k_ ≠ (.slice Ao23 t275.length co23 : Value).ownBlock ∧ (some k_ ≠ (.slice Ao28 t283.length co28 : Value).ownBlock ∧ some k_ ≠ (.slice Ao31 t286.length co31 : Value).ownBlock)) ∧ some k_ ≠ (.slice Ao85 t303.length co85 : Value).ownBlock) ∧ some k_ ≠ (.slice Ao88 t306.length co88 : Value).ownBlock) ∧ some k_ ≠ (.slice Ao92 t309.length co92 : Value).ownBlock)) (n := t272.length) (c := co21) ?_).2.2; exact (by (with_reducible repeat (first | apply Kd.R_alloc | apply Kd.R_drewN | apply Kd.R_drew)); exact (Kd.R_mono (Kd.R_far (p := ⟨gb313, 2, none⟩) (Kd.R_far (p := ⟨gb313, 1, none⟩) (Kd.R_far (p := ⟨gb313, 0, none⟩) (Kd.R_types HO_280000.out BK313.out (by decide)) (fun _ hk => hk.2) (.slice Ao88 t306.length co88)) (fun _ hk => hk.2) (.slice Ao92 t309.length co92)) (fun _ hk => hk.2) (.int .i64 t312)) (fun _ h_ => h_.1)))); (case side6 => exact (Kd.R_reads' HO_280000.out).2.1); (case side7 => refine (Kd.R_reads' (e := 52) (base := w.heap.size) (ok := fun k_ => ((((some k_ ≠ (.slice Ao21 t272.length co21 : Value).ownBlock ∧ (some k_ ≠ (.slice Ao28 t283.length co28 : Value).ownBlock ∧ some k_ ≠ (.slice Ao31 t286.length co31 : Value).ownBlock)) ∧ some k_ ≠ (.slice Ao85 t303.length co85 : Value).ownBlock) ∧ some k_ ≠ (.slice Ao88 t306.length co88 : Value).ownBlock) ∧ some k_ ≠ (.slice Ao92 t309.length co92 : Value).ownBlock)) (n := t275.length) (c := co23) ?_).2.2; exact (by (with_reducible repeat (first | apply Kd.R_alloc | apply Kd.R_drewN | apply Kd.R_drew)); exact (Kd.R_mono (Kd.R_far (p := ⟨gb313, 2, none⟩) (Kd.R_far (p := ⟨gb313, 1, none⟩) (Kd.R_far (p := ⟨gb313, 0, none⟩) (Kd.R_types HO_280001.out BK313.out (by decide)) (fun _ hk => hk.2) (.slice Ao88 t306.length co88)) (fun _ hk => hk.2) (.slice Ao92 t309.length co92)) (fun _ hk => hk.2) (.int .i64 t312)) (fun _ h_ => h_.1)))); (case side8 => exact (Kd.R_reads' HO_280001.out).2.1); rintro e w94 ⟨rfl, hb⟩; refine ⟨_, rfl, ?_⟩; have n0_ := Aside0.mk (Kd.R_below (by (with_reducible repeat (first | apply Kd.R_alloc | apply Kd.R_drewN | apply Kd.R_drew)); exact (Kd.R_mono (Kd.R_far (p := ⟨gb313, 2, none⟩) (Kd.R_far (p := ⟨gb313, 1, none⟩) (Kd.R_far (p := ⟨gb313, 0, none⟩) (Kd.R_types HO_280000.out BK313.out (by decide)) (fun _ hk => hk.2) (.slice Ao88 t306.length co88)) (fun _ hk => hk.2) (.slice Ao92 t309.length co92)) (fun _ hk => hk.2) (.int .i64 t312)) (fun _ h_ => h_.1))) hb); have n1_ := Aside0.mk (Kd.R_below (by (with_reducible repeat (first | apply Kd.R_alloc | apply Kd.R_drewN | apply Kd.R_drew)); exact (Kd.R_mono (Kd.R_far (p := ⟨gb313, 2, none⟩) (Kd.R_far (p := ⟨gb313, 1, none⟩) (Kd.R_far (p := ⟨gb313, 0, none⟩) (Kd.R_types HO_280001.out BK313.out (by decide)) (fun _ hk => hk.2) (.slice Ao88 t306.length co88)) (fun _ hk => hk.2) (.slice Ao92 t309.length co92)) (fun _ hk => hk.2) (.int .i64 t312)) (fun _ h_ => h_.1))) hb); have n2_ := Aside0.mk (Kd.R_below (by (with_reducible repeat (first | apply Kd.R_alloc | apply Kd.R_drewN | apply Kd.R_drew)); exact (Kd.R_mono (Kd.R_far (p := ⟨gb313, 2, none⟩) (Kd.R_far (p := ⟨gb313, 1, none⟩) (Kd.R_far (p := ⟨gb313, 0, none⟩) (Kd.R_types HO_291000.out BK313.out (by decide)) (fun _ hk => hk.2) (.slice Ao88 t306.length co88)) (fun _ hk => hk.2) (.slice Ao92 t309.length co92)) (fun _ hk => hk.2) (.int .i64 t312)) (fun _ h_ => h_.1))) hb); have n3_ := Aside0.mk (Kd.R_below (by (with_reducible repeat (first | apply Kd.R_alloc | apply Kd.R_drewN | apply Kd.R_drew)); exact (Kd.R_mono (Kd.R_far (p := ⟨gb313, 2, none⟩) (Kd.R_far (p := ⟨gb313, 1, none⟩) (Kd.R_far (p := ⟨gb313, 0, none⟩) (Kd.R_types HO_291001.out BK313.out (by decide)) (fun _ hk => hk.2) (.slice Ao88 t306.length co88)) (fun _ hk => hk.2) (.slice Ao92 t309.length co92)) (fun _ hk => hk.2) (.int .i64 t312)) (fun _ h_ => h_.1))) hb); have n4_ := Aside0.mk (Kd.R_below (by (with_reducible repeat (first | apply Kd.R_alloc | apply Kd.R_drewN | apply Kd.R_drew)); exact (Kd.R_mono (Kd.R_far (p := ⟨gb313, 2, none⟩) (Kd.R_far (p := ⟨gb313, 1, none⟩) (Kd.R_far (p := ⟨gb313, 0, none⟩) (Kd.R_types HO305.out BK313.out (by decide)) (fun _ hk => hk.2) (.slice Ao88 t306.length co88)) (fun _ hk => hk.2) (.slice Ao92 t309.length co92)) (fun _ hk => hk.2) (.int .i64 t312)) (fun _ h_ => h_.1))) hb); have n5_ := Aside0.mk (Kd.R_below (by (with_reducible repeat (first | apply Kd.R_alloc | apply Kd.R_drewN | apply Kd.R_drew)); exact (Kd.R_mono (Kd.R_far (p := ⟨gb313, 2, none⟩) (Kd.R_far (p := ⟨gb313, 1, none⟩) (Kd.R_far (p := ⟨gb313, 0, none⟩) (Kd.R_types HO308.out BK313.out (by decide)) (fun _ hk => hk.2) (.slice Ao88 t306.length co88)) (fun _ hk => hk.2) (.slice Ao92 t309.length co92)) (fun _ hk => hk.2) (.int .i64 t312)) (fun _ h_ => h_.1))) hb); have n6_ := Aside0.mk (Kd.R_below (by (with_reducible repeat (first | apply Kd.R_alloc | apply Kd.R_drewN | apply Kd.R_drew)); exact (Kd.R_mono (Kd.R_far (p := ⟨gb313, 2, none⟩) (Kd.R_far (p := ⟨gb313, 1, none⟩) (Kd.R_far (p := ⟨gb313, 0, none⟩) (Kd.R_types HO311.out BK313.out (by decide)) (fun _ hk => hk.2) (.slice Ao88 t306.length co88)) (fun _ hk => hk.2) (.slice Ao92 t309.length co92)) (fun _ hk => hk.2) (.int .i64 t312)) (fun _ h_ => h_.1))) hb); have n7_ := Aside0.mk (blk_below (g := gb279) (o := .cells #[.slice Ao21 t272.length co21, .slice Ao23 t275.length co23, .int .i64 t278] 57 (0, 0)) (by (with_reducible repeat (first | refine blk_drewN ?_ _ | refine blk_drew ?_ | refine blk_alloc ?_ _)); refine blk_far ?_ NB279_313.out _; (with_reducible repeat (first | refine blk_drewN ?_ _ | refine blk_drew ?_ | refine blk_alloc ?_ _)); refine blk_far ?_ NB279_313.out _; (with_reducible repeat (first | refine blk_drewN ?_ _ | refine blk_drew ?_ | refine blk_alloc ?_ _)); refine blk_far ?_ NB279_313.out _; (with_reducible repeat (first | refine blk_drewN ?_ _ | refine blk_drew ?_ | refine blk_alloc ?_ _)); exact BK279.out) hb); have n8_ := Aside0.mk (blk_below (g := gb290) (o := .cells #[.slice Ao28 t283.length co28, .slice Ao31 t286.length co31, .int .i64 t289] 57 (0, 0)) (by (with_reducible repeat (first | refine blk_drewN ?_ _ | refine blk_drew ?_ | refine blk_alloc ?_ _)); refine blk_far ?_ NB290_313.out _; (with_reducible repeat (first | refine blk_drewN ?_ _ | refine blk_drew ?_ | refine blk_alloc ?_ _)); refine blk_far ?_ NB290_313.out _; (with_reducible repeat (first | refine blk_drewN ?_ _ | refine blk_drew ?_ | refine blk_alloc ?_ _)); refine blk_far ?_ NB290_313.out _; (with_reducible repeat (first | refine blk_drewN ?_ _ | refine blk_drew ?_ | refine blk_alloc ?_ _)); exact BK290.out) hb); have n9_ := Aside0.mk (blk_below (g := gb313) (o := .cells #[.slice Ao88 t306.length co88, .slice Ao92 t309.length co92, .int .i64 t312] 57 (0, 0)) (by (with_reducible repeat (first | refine blk_drewN ?_ _ | refine blk_drew ?_ | refine blk_alloc ?_ _)); refine blk_put (cs := #[.slice Ao88 t306.length co88, .slice Ao92 t309.length co92, .int .i64 0]) ?_ 2 _ rfl; (with_reducible repeat (first | refine blk_drewN ?_ _ | refine blk_drew ?_ | refine blk_alloc ?_ _)); refine blk_put (cs := #[.slice Ao88 t306.length co88, .slice none 0 0, .int .i64 0]) ?_ 1 _ rfl; (with_reducible repeat (first | refine blk_drewN ?_ _ | refine blk_drew ?_ | refine blk_alloc ?_ _)); refine blk_put (cs := #[.slice none 0 0, .slice none 0 0, .int .i64 0]) ?_ 0 _ rfl; (with_reducible repeat (first | refine blk_drewN ?_ _ | refine blk_drew ?_ | refine blk_alloc ?_ _)); exact BK313.out) hb); have n10_ := Aside0.mk (below_step (by repeat (first | (with_reducible first | exact HB.out | apply below_alloc | apply pw_below_drewN | apply below_drew1 | refine below_set ?_ GE279.out | refine below_set ?_ GE290.out | refine below_set ?_ GE313.out) | exact HB.out)) hb); clear HO_280000; clear HO_280001; clear HO_291000; clear HO_291001; clear HO305; clear HO308; clear HO311; clear BK279; clear BK290; clear BK313; clear HB; have HO_280000 := n0_; have HO_280001 := n1_; have HO_291000 := n2_; have HO_291001 := n3_; have HO305 := n4_; have HO308 := n5_; have HO311 := n6_; have BK279 := n7_; have BK290 := n8_; have BK313 := n9_; have HB := n10_; clear n0_ n1_ n2_ n3_ n4_ n5_ n6_ n7_ n8_ n9_ n10_; (try clear hb); (try clear hb2); (try clear hk); (try clear hi); have hcz95_0 : w94.cell? ⟨gb290, 0, none⟩ = some (.slice Ao28 t283.length co28) := (blk_cell BK290.out 0).trans rfl; have hcz95_1 : w94.cell? ⟨gb290, 1, none⟩ = some (.slice Ao31 t286.length co31) := (blk_cell BK290.out 1).trans rfl; have hcz95_2 : w94.cell? ⟨gb290, 2, none⟩ = some (.int .i64 t289) := (blk_cell BK290.out 2).trans rfl; have hfz95_0 := blk_frozen BK290.out 0; have hfz95_1 := blk_frozen BK290.out 1; have hfz95_2 := blk_frozen BK290.out 2) | ((with_reducible refine gate_callee (f := 43) rfl ?_); refine goesL_ (some 73) rfl rfl Try.func43 (by kernel_rfl) rfl #[.agg #[.slice Ao28 t300.length co28, .slice Ao31 t301.length co31, .int .i64 t289], .int .i64 1] rfl (by (try simp only [List.map_toArray, List.map_cons, List.map_nil]); first | done | (rw [show t300.length = t283.length from (Kd.R_reads' HO_291000.out).1.symm, show t301.length = t286.length from (Kd.R_reads' HO_291001.out).1.symm] <;> rfl) | rfl | (simp only [List.length_drop, List.length_take]; rfl)) ?_; (with_reducible refine (laws_heldGuestsOut.calls kj15 _ _ t300 _ _ t301 t289 1 t315 _ ?side1 ?side2 ?side3 ?side4 A58.out).mono ?_); (case side1 => repeat (first | exact (Kd.R_reads' HO_291000.out).2.2 | (with_reducible refine Kd.C_alloc ?_ _) | (with_reducible refine Kd.C_drewN ?_ _) | (with_reducible refine Kd.C_drew ?_))); (case side2 => rw [show t300.length = t283.length from (Kd.R_reads' HO_291000.out).1.symm]; exact (Kd.R_reads' HO_291000.out).2.1); (case side3 => repeat (first | exact (Kd.R_reads' HO_291001.out).2.2 | (with_reducible refine Kd.C_alloc ?_ _) | (with_reducible refine Kd.C_drewN ?_ _) | (with_reducible refine Kd.C_drew ?_))); (case side4 => rw [show t301.length = t286.length from (Kd.R_reads' HO_291001.out).1.symm]; exact (Kd.R_reads' HO_291001.out).2.1); rintro e w96 ⟨rfl, hb⟩; refine ⟨_, rfl, ?_⟩; have n0_ := Aside0.mk (Kd.R_below (by (with_reducible repeat (first | apply Kd.R_alloc | apply Kd.R_drewN | apply Kd.R_drew)); exact HO_280000.out) hb); have n1_ := Aside0.mk (Kd.R_below (by (with_reducible repeat (first | apply Kd.R_alloc | apply Kd.R_drewN | apply Kd.R_drew)); exact HO_280001.out) hb); have n2_ := Aside0.mk (Kd.R_below (by (with_reducible repeat (first | apply Kd.R_alloc | apply Kd.R_drewN | apply Kd.R_drew)); exact HO_291000.out) hb); have n3_ := Aside0.mk (Kd.R_below (by (with_reducible repeat (first | apply Kd.R_alloc | apply Kd.R_drewN | apply Kd.R_drew)); exact HO_291001.out) hb); have n4_ := Aside0.mk (Kd.R_below (by (with_reducible repeat (first | apply Kd.R_alloc | apply Kd.R_drewN | apply Kd.R_drew)); exact HO305.out) hb); have n5_ := Aside0.mk (Kd.R_below (by (with_reducible repeat (first | apply Kd.R_alloc | apply Kd.R_drewN | apply Kd.R_drew)); exact HO308.out) hb); have n6_ := Aside0.mk (Kd.R_below (by (with_reducible repeat (first | apply Kd.R_alloc | apply Kd.R_drewN | apply Kd.R_drew)); exact HO311.out) hb); have n7_ := Aside0.mk (blk_below (g := gb279) (o := .cells #[.slice Ao21 t272.length co21, .slice Ao23 t275.length co23, .int .i64 t278] 57 (0, 0)) (by (with_reducible repeat (first | refine blk_drewN ?_ _ | refine blk_drew ?_ | refine blk_alloc ?_ _)); exact BK279.out) hb); have n8_ := Aside0.mk (blk_below (g := gb290) (o := .cells #[.slice Ao28 t283.length co28, .slice Ao31 t286.length co31, .int .i64 t289] 57 (0, 0)) (by (with_reducible repeat (first | refine blk_drewN ?_ _ | refine blk_drew ?_ | refine blk_alloc ?_ _)); exact BK290.out) hb); have n9_ := Aside0.mk (blk_below (g := gb313) (o := .cells #[.slice Ao88 t306.length co88, .slice Ao92 t309.length co92, .int .i64 t312] 57 (0, 0)) (by (with_reducible repeat (first | refine blk_drewN ?_ _ | refine blk_drew ?_ | refine blk_alloc ?_ _)); exact BK313.out) hb); have n10_ := Aside0.mk (below_step (by repeat (first | (with_reducible first | exact HB.out | apply below_alloc | apply pw_below_drewN | apply below_drew1 | refine below_set ?_ GE279.out | refine below_set ?_ GE290.out | refine below_set ?_ GE313.out) | exact HB.out)) hb); clear HO_280000; clear HO_280001; clear HO_291000; clear HO_291001; clear HO305; clear HO308; clear HO311; clear BK279; clear BK290; clear BK313; clear HB; have HO_280000 := n0_; have HO_280001 := n1_; have HO_291000 := n2_; have HO_291001 := n3_; have HO305 := n4_; have HO308 := n5_; have HO311 := n6_; have BK279 := n7_; have BK290 := n8_; have BK313 := n9_; have HB := n10_; clear n0_ n1_ n2_ n3_ n4_ n5_ n6_ n7_ n8_ n9_ n10_; (try clear hb); (try clear hb2); (try clear hk); (try clear hi)))
            go_ret
            exact ⟨by first | rfl | (simp [errW_none, errW_some] <;> rfl) | (simp [*, errW_none, errW_some] <;> rfl), by repeat (first | (with_reducible first | exact HB.out | apply below_alloc | apply pw_below_drewN | apply below_drew1 | refine below_set ?_ GE279.out | refine below_set ?_ GE290.out | refine below_set ?_ GE313.out) | exact HB.out)⟩
           ·rw [if_neg c78] at H
            have c78b0 : (t315 == t299) = false := beq_eq_false_iff_ne.mpr c78
            have c78b1 : (t315 != t299) = true := bne_iff_ne.mpr c78
            exact absurd (Option.some.inj H) (by decide)
         ·replace c57 := Bool.eq_false_iff.mpr c57
          subst c57
          have H1 : (some false) = some true := by rw [if_neg (show ¬ (false = true) by decide)] at H; exact H
          clear H
          have H := H1
          clear H1
          exact absurd (Option.some.inj H) (by decide)
        ·rw [if_neg c53] at H
         have c53b0 : (t302 == t299) = false := beq_eq_false_iff_ne.mpr c53
         have c53b1 : (t302 != t299) = true := bne_iff_ne.mpr c53
         exact absurd (Option.some.inj H) (by decide)
   ·replace c14 := Bool.eq_false_iff.mpr c14
    subst c14
    have H1 : (some false) = some true := by rw [if_neg (show ¬ (false = true) by decide)] at H; exact H
    clear H
    have H := H1
    clear H1
    exact absurd (Option.some.inj H) (by decide)
  ·replace c11 := Bool.eq_false_iff.mpr c11
   subst c11
   have H1 : (some false) = some true := by rw [if_neg (show ¬ (false = true) by decide)] at H; exact H
   clear H
   have H := H1
   clear H1
   exact absurd (Option.some.inj H) (by decide)

end Go.Proofs.Ytifahfnbjidfhaa.PFnExactGuestDrop
