-- A copy, by trim.py of this session's wip/gen, of a text of this claim, without what the row does not reach and without comments: not an official print.
import Derived.Test.YtmgmaflfednngaaZExactRibStalePFnExactRibStalex0
namespace Go.Proofs.Ytmgmaflfednngaa.PFnExactRibStale
open Go.RowKit Go.Proofs.YtmgmaflfednngaaW.PrintWords Go.Proofs.YtmgmaflfednngaaW.PrintLast Go.Proofs.YtmgmaflfednngaaW.PrintMore
attribute [local go_sem] max2_int min2_int max_two min_two max_three min_three max_four min_four   -- for this text's walks alone
set_option linter.unusedVariables false
set_option linter.unusedSimpArgs false
def laws_markHeldS.l0 : Nat → List (S73) → Int → Int → Option (Int × (List (S73)))
 | 0, _, _, _ => none
 | k + 1, x0, x1, x5 => if x5 < (x0.length : Int) then (if 0 ≤ x5 then ((some (x0.set (x5 : Int).toNat (⟨x1, (rd_T73 x0 x5).f1, (⟨(rd_T73 x0 x5).f2.f0, (rd_T73 x0 x5).f2.f1, (rd_T73 x0 x5).f2.f2, (rd_T73 x0 x5).f2.f3, (rd_T73 x0 x5).f2.f4, (rd_T73 x0 x5).f2.f5, (rd_T73 x0 x5).f2.f6⟩ : S42)⟩ : S73) : List (S73))).bind fun y136 => ((some (y136.set (x5 : Int).toNat (⟨(rd_T73 y136 x5).f0, ((Int.tmod (wrap64 (x1 + 1)) 3) == 0), (⟨(rd_T73 y136 x5).f2.f0, (rd_T73 y136 x5).f2.f1, (rd_T73 y136 x5).f2.f2, (rd_T73 y136 x5).f2.f3, (rd_T73 y136 x5).f2.f4, (rd_T73 y136 x5).f2.f5, (rd_T73 y136 x5).f2.f6⟩ : S42)⟩ : S73) : List (S73))).bind fun y137 => ((some (y137.set (x5 : Int).toNat (⟨(rd_T73 y137 x5).f0, (rd_T73 y137 x5).f1, (⟨wrap64 ((wrap64 (x1 + 1)) + 1), (rd_T73 y137 x5).f2.f1, (rd_T73 y137 x5).f2.f2, (rd_T73 y137 x5).f2.f3, (rd_T73 y137 x5).f2.f4, (rd_T73 y137 x5).f2.f5, (rd_T73 y137 x5).f2.f6⟩ : S42)⟩ : S73) : List (S73))).bind fun y138 => ((some (y138.set (x5 : Int).toNat (⟨(rd_T73 y138 x5).f0, (rd_T73 y138 x5).f1, (⟨(rd_T73 y138 x5).f2.f0, wrap64 ((wrap64 ((wrap64 (x1 + 1)) + 1)) + 1), (rd_T73 y138 x5).f2.f2, (rd_T73 y138 x5).f2.f3, (rd_T73 y138 x5).f2.f4, (rd_T73 y138 x5).f2.f5, (rd_T73 y138 x5).f2.f6⟩ : S42)⟩ : S73) : List (S73))).bind fun y139 => ((some (y139.set (x5 : Int).toNat (⟨(rd_T73 y139 x5).f0, (rd_T73 y139 x5).f1, (⟨(rd_T73 y139 x5).f2.f0, (rd_T73 y139 x5).f2.f1, wrap64 ((wrap64 ((wrap64 ((wrap64 (x1 + 1)) + 1)) + 1)) + 1), (rd_T73 y139 x5).f2.f3, (rd_T73 y139 x5).f2.f4, (rd_T73 y139 x5).f2.f5, (rd_T73 y139 x5).f2.f6⟩ : S42)⟩ : S73) : List (S73))).bind fun y140 => ((some (y140.set (x5 : Int).toNat (⟨(rd_T73 y140 x5).f0, (rd_T73 y140 x5).f1, (⟨(rd_T73 y140 x5).f2.f0, (rd_T73 y140 x5).f2.f1, (rd_T73 y140 x5).f2.f2, wrap64 ((wrap64 ((wrap64 ((wrap64 ((wrap64 (x1 + 1)) + 1)) + 1)) + 1)) + 1), (rd_T73 y140 x5).f2.f4, (rd_T73 y140 x5).f2.f5, (rd_T73 y140 x5).f2.f6⟩ : S42)⟩ : S73) : List (S73))).bind fun y141 => ((some (y141.set (x5 : Int).toNat (⟨(rd_T73 y141 x5).f0, (rd_T73 y141 x5).f1, (⟨(rd_T73 y141 x5).f2.f0, (rd_T73 y141 x5).f2.f1, (rd_T73 y141 x5).f2.f2, (rd_T73 y141 x5).f2.f3, wrap64 ((wrap64 ((wrap64 ((wrap64 ((wrap64 ((wrap64 (x1 + 1)) + 1)) + 1)) + 1)) + 1)) + 1), (rd_T73 y141 x5).f2.f5, (rd_T73 y141 x5).f2.f6⟩ : S42)⟩ : S73) : List (S73))).bind fun y142 => ((some (y142.set (x5 : Int).toNat (⟨(rd_T73 y142 x5).f0, (rd_T73 y142 x5).f1, (⟨(rd_T73 y142 x5).f2.f0, (rd_T73 y142 x5).f2.f1, (rd_T73 y142 x5).f2.f2, (rd_T73 y142 x5).f2.f3, (rd_T73 y142 x5).f2.f4, wrap64 ((wrap64 ((wrap64 ((wrap64 ((wrap64 ((wrap64 ((wrap64 (x1 + 1)) + 1)) + 1)) + 1)) + 1)) + 1)) + 1), (rd_T73 y142 x5).f2.f6⟩ : S42)⟩ : S73) : List (S73))).bind fun y143 => (laws_markHeldS.l0 k (y143.set (x5 : Int).toNat (⟨(rd_T73 y143 x5).f0, (rd_T73 y143 x5).f1, (⟨(rd_T73 y143 x5).f2.f0, (rd_T73 y143 x5).f2.f1, (rd_T73 y143 x5).f2.f2, (rd_T73 y143 x5).f2.f3, (rd_T73 y143 x5).f2.f4, (rd_T73 y143 x5).f2.f5, ((Int.tmod (wrap64 ((wrap64 ((wrap64 ((wrap64 ((wrap64 ((wrap64 ((wrap64 ((wrap64 (x1 + 1)) + 1)) + 1)) + 1)) + 1)) + 1)) + 1)) + 1)) 3) == 0)⟩ : S42)⟩ : S73)) (wrap64 ((wrap64 ((wrap64 ((wrap64 ((wrap64 ((wrap64 ((wrap64 ((wrap64 ((wrap64 (x1 + 1)) + 1)) + 1)) + 1)) + 1)) + 1)) + 1)) + 1)) + 1)) (wrap64 (x5 + 1))))))))))) else (none)) else (some (x1, x0))
def laws_markHeldS.f (k : Nat) (l0 : List (S73)) (a1 : Int) : Option (Int × (List (S73))) := laws_markHeldS.l0 k l0 a1 0
theorem laws_markHeldS.mono_l : ∀ k, (∀ y0 y1 y2, LeO (laws_markHeldS.l0 k y0 y1 y2) (laws_markHeldS.l0 (k + 1) y0 y1 y2))
 | 0 => fun _ _ _ r h => by simp [laws_markHeldS.l0] at h
 | k + 1 => by
  have ih0 := laws_markHeldS.mono_l k
  ·intro y0 y1 y2
   unfold laws_markHeldS.l0
   repeat' first
   | (with_reducible exact ih0 _ _ _)
   | (with_reducible exact LeO.refl _)
   | (with_reducible exact LeO.none _)
   | (with_reducible refine LeO.ite ?_ ?_)
   | (with_reducible refine LeO.bind ?_ (fun _ => ?_))
   | exact ih0 _ _ _
   | exact LeO.none _
   | refine LeO.ite ?_ ?_
   | refine LeO.bind ?_ (fun _ => ?_)
theorem laws_markHeldS.mono : ∀ a0 a1 k, LeO (laws_markHeldS.f k a0 a1) (laws_markHeldS.f (k + 1) a0 a1) := by
 intro a0 a1 k
 have ih0 := laws_markHeldS.mono_l k
 unfold laws_markHeldS.f
 repeat' first
   | (with_reducible exact ih0 _ _ _)
   | (with_reducible exact LeO.refl _)
   | (with_reducible exact LeO.none _)
   | (with_reducible refine LeO.ite ?_ ?_)
   | (with_reducible refine LeO.bind ?_ (fun _ => ?_))
   | exact ih0 _ _ _
   | exact LeO.none _
   | refine LeO.ite ?_ ?_
   | refine LeO.bind ?_ (fun _ => ?_)
set_option maxHeartbeats 8000000 in
set_option maxRecDepth 100000 in
theorem laws_markHeldS.calls (k : Nat) (P0_ : Nat → Prop) (u9000_ : Value) (l0 : List (S73)) (a1 : Int) (r1 : Int) (r2 : List (S73)) (w0 w : World) (hB : Below w0.heap.size w0 w) (ho0 : Kd.R k73 73 w w0.heap.size P0_ u9000_ l0) (h : laws_markHeldS.f k l0 a1 = some (r1, r2)) :
  Calls Try.prog 19 #[u9000_, .int .i64 a1] w fun e w' => e = .returned (.int .i64 r1) ∧ Kd.R k73 73 w' w0.heap.size (fun k_ => (P0_ k_ ∨ w.heap.size ≤ k_)) u9000_ r2 ∧ Below w0.heap.size w0 w' ∧ Kept w w' (fun k_ => P0_ k_) := by
 have HO0 := Aside0.mk (show Kd.R k73 73 w w0.heap.size (fun k_ => (P0_ k_ ∨ w.heap.size ≤ k_)) u9000_ l0 from Kd.R_mono ho0 (fun k_ hk => (.inl hk)))
 have HK := Aside0.mk (Kept.refl w (fun k_ => P0_ k_))
 have HW0 := Aside0.mk hB.size
 have HB := Aside0.mk hB
 clear hB
 have H : (laws_markHeldS.l0 k l0 a1 0) = some (r1, r2) := h
 clear h
 have H' := Aside0.mk H
 clear H
 go_enter Try.func19, Try.ntmps19
 go_wp2
 go_loopg [1, 5] k (fun kq v1 v5 w' => ∃ (x0_1 : List (S73)) (x1_1 : Int) (x5_1 : Int), v1 = .int .i64 x1_1 ∧ v5 = .int .i64 x5_1 ∧ Aside0 (laws_markHeldS.l0 kq x0_1 x1_1 x5_1 = some (r1, r2)) ∧ Aside0 (kq ≤ k) ∧ Aside0 (Kd.R k73 73 w' w0.heap.size (fun k_ => (P0_ k_ ∨ w.heap.size ≤ k_)) u9000_ x0_1) ∧ Aside0 (Kept w w' (fun k_ => P0_ k_)) ∧ Aside0 (Below w0.heap.size w0 w'))
 case atStart => exact ⟨(l0), (a1), (0), (by first | rfl | (simp; done) | (simp [*]; done)), (by first | rfl | (simp; done) | (simp [*]; done)), H', ⟨Nat.le_refl _⟩, ⟨by (with_reducible repeat (first | apply Kd.R_alloc | apply Kd.R_drewN | apply Kd.R_drew)); exact HO0.out⟩, ⟨by repeat (first | (with_reducible first | exact HK.out | apply Kept.alloc | apply Kept.drewN | apply Kept.drew) | exact HK.out)⟩, ⟨by repeat (first | (with_reducible first | exact HB.out | apply below_alloc | apply pw_below_drewN | apply below_drew1) | exact HB.out)⟩⟩
 case round =>
  clear H'
  try clear c1
  try clear p2
  obtain ⟨x0_1, x1_1, x5_1, rfl, rfl, HA, HK1, HO_0, HK, HB⟩ := hrel
  cases gk with
  | zero => exact absurd HA.out (by simp [laws_markHeldS.l0])
  | succ k1 =>
   have H := HA.out
   clear HA
   simp only [laws_markHeldS.l0] at H
   by_cases c3 : x5_1 < (x0_1.length : Int)
   ·rw [if_pos c3] at H
    have c3b0 : decide (x5_1 < (x0_1.length : Int)) = true := decide_eq_true c3
    clear c3
    by_cases c4 : 0 ≤ x5_1
    ·rw [if_pos c4] at H
     have c4b0 : decide (0 ≤ x5_1) = true := decide_eq_true c4
     clear c4
     obtain ⟨y136, hy136⟩ : ∃ y_ : List (S73), y_ = (x0_1.set (x5_1 : Int).toNat (⟨x1_1, (rd_T73 x0_1 x5_1).f1, (⟨(rd_T73 x0_1 x5_1).f2.f0, (rd_T73 x0_1 x5_1).f2.f1, (rd_T73 x0_1 x5_1).f2.f2, (rd_T73 x0_1 x5_1).f2.f3, (rd_T73 x0_1 x5_1).f2.f4, (rd_T73 x0_1 x5_1).f2.f5, (rd_T73 x0_1 x5_1).f2.f6⟩ : S42)⟩ : S73)) := ⟨_, rfl⟩
     replace H : ((some (y136.set (x5_1 : Int).toNat (⟨(rd_T73 y136 x5_1).f0, ((Int.tmod (wrap64 (x1_1 + 1)) 3) == 0), (⟨(rd_T73 y136 x5_1).f2.f0, (rd_T73 y136 x5_1).f2.f1, (rd_T73 y136 x5_1).f2.f2, (rd_T73 y136 x5_1).f2.f3, (rd_T73 y136 x5_1).f2.f4, (rd_T73 y136 x5_1).f2.f5, (rd_T73 y136 x5_1).f2.f6⟩ : S42)⟩ : S73) : List (S73))).bind fun y137 => ((some (y137.set (x5_1 : Int).toNat (⟨(rd_T73 y137 x5_1).f0, (rd_T73 y137 x5_1).f1, (⟨wrap64 ((wrap64 (x1_1 + 1)) + 1), (rd_T73 y137 x5_1).f2.f1, (rd_T73 y137 x5_1).f2.f2, (rd_T73 y137 x5_1).f2.f3, (rd_T73 y137 x5_1).f2.f4, (rd_T73 y137 x5_1).f2.f5, (rd_T73 y137 x5_1).f2.f6⟩ : S42)⟩ : S73) : List (S73))).bind fun y138 => ((some (y138.set (x5_1 : Int).toNat (⟨(rd_T73 y138 x5_1).f0, (rd_T73 y138 x5_1).f1, (⟨(rd_T73 y138 x5_1).f2.f0, wrap64 ((wrap64 ((wrap64 (x1_1 + 1)) + 1)) + 1), (rd_T73 y138 x5_1).f2.f2, (rd_T73 y138 x5_1).f2.f3, (rd_T73 y138 x5_1).f2.f4, (rd_T73 y138 x5_1).f2.f5, (rd_T73 y138 x5_1).f2.f6⟩ : S42)⟩ : S73) : List (S73))).bind fun y139 => ((some (y139.set (x5_1 : Int).toNat (⟨(rd_T73 y139 x5_1).f0, (rd_T73 y139 x5_1).f1, (⟨(rd_T73 y139 x5_1).f2.f0, (rd_T73 y139 x5_1).f2.f1, wrap64 ((wrap64 ((wrap64 ((wrap64 (x1_1 + 1)) + 1)) + 1)) + 1), (rd_T73 y139 x5_1).f2.f3, (rd_T73 y139 x5_1).f2.f4, (rd_T73 y139 x5_1).f2.f5, (rd_T73 y139 x5_1).f2.f6⟩ : S42)⟩ : S73) : List (S73))).bind fun y140 => ((some (y140.set (x5_1 : Int).toNat (⟨(rd_T73 y140 x5_1).f0, (rd_T73 y140 x5_1).f1, (⟨(rd_T73 y140 x5_1).f2.f0, (rd_T73 y140 x5_1).f2.f1, (rd_T73 y140 x5_1).f2.f2, wrap64 ((wrap64 ((wrap64 ((wrap64 ((wrap64 (x1_1 + 1)) + 1)) + 1)) + 1)) + 1), (rd_T73 y140 x5_1).f2.f4, (rd_T73 y140 x5_1).f2.f5, (rd_T73 y140 x5_1).f2.f6⟩ : S42)⟩ : S73) : List (S73))).bind fun y141 => ((some (y141.set (x5_1 : Int).toNat (⟨(rd_T73 y141 x5_1).f0, (rd_T73 y141 x5_1).f1, (⟨(rd_T73 y141 x5_1).f2.f0, (rd_T73 y141 x5_1).f2.f1, (rd_T73 y141 x5_1).f2.f2, (rd_T73 y141 x5_1).f2.f3, wrap64 ((wrap64 ((wrap64 ((wrap64 ((wrap64 ((wrap64 (x1_1 + 1)) + 1)) + 1)) + 1)) + 1)) + 1), (rd_T73 y141 x5_1).f2.f5, (rd_T73 y141 x5_1).f2.f6⟩ : S42)⟩ : S73) : List (S73))).bind fun y142 => ((some (y142.set (x5_1 : Int).toNat (⟨(rd_T73 y142 x5_1).f0, (rd_T73 y142 x5_1).f1, (⟨(rd_T73 y142 x5_1).f2.f0, (rd_T73 y142 x5_1).f2.f1, (rd_T73 y142 x5_1).f2.f2, (rd_T73 y142 x5_1).f2.f3, (rd_T73 y142 x5_1).f2.f4, wrap64 ((wrap64 ((wrap64 ((wrap64 ((wrap64 ((wrap64 ((wrap64 (x1_1 + 1)) + 1)) + 1)) + 1)) + 1)) + 1)) + 1), (rd_T73 y142 x5_1).f2.f6⟩ : S42)⟩ : S73) : List (S73))).bind fun y143 => (laws_markHeldS.l0 k1 (y143.set (x5_1 : Int).toNat (⟨(rd_T73 y143 x5_1).f0, (rd_T73 y143 x5_1).f1, (⟨(rd_T73 y143 x5_1).f2.f0, (rd_T73 y143 x5_1).f2.f1, (rd_T73 y143 x5_1).f2.f2, (rd_T73 y143 x5_1).f2.f3, (rd_T73 y143 x5_1).f2.f4, (rd_T73 y143 x5_1).f2.f5, ((Int.tmod (wrap64 ((wrap64 ((wrap64 ((wrap64 ((wrap64 ((wrap64 ((wrap64 ((wrap64 (x1_1 + 1)) + 1)) + 1)) + 1)) + 1)) + 1)) + 1)) + 1)) 3) == 0)⟩ : S42)⟩ : S73)) (wrap64 ((wrap64 ((wrap64 ((wrap64 ((wrap64 ((wrap64 ((wrap64 ((wrap64 ((wrap64 (x1_1 + 1)) + 1)) + 1)) + 1)) + 1)) + 1)) + 1)) + 1)) + 1)) (wrap64 (x5_1 + 1)))))))))) = some (r1, r2) := by first | (rw [hy136]; with_reducible exact H) | (have H2_ := (Option.bind_some _ _).symm.trans H; rw [hy136]; with_reducible exact H2_) | (have H2_ := (Option.bind_some _ _).symm.trans H; with_reducible exact H2_) | with_reducible exact H | (rw [hy136]; exact H) | exact H
     have Ny136 := Aside0.mk hy136
     clear hy136
     obtain ⟨y137, hy137⟩ : ∃ y_ : List (S73), y_ = (y136.set (x5_1 : Int).toNat (⟨(rd_T73 y136 x5_1).f0, ((Int.tmod (wrap64 (x1_1 + 1)) 3) == 0), (⟨(rd_T73 y136 x5_1).f2.f0, (rd_T73 y136 x5_1).f2.f1, (rd_T73 y136 x5_1).f2.f2, (rd_T73 y136 x5_1).f2.f3, (rd_T73 y136 x5_1).f2.f4, (rd_T73 y136 x5_1).f2.f5, (rd_T73 y136 x5_1).f2.f6⟩ : S42)⟩ : S73)) := ⟨_, rfl⟩
     replace H : ((some (y137.set (x5_1 : Int).toNat (⟨(rd_T73 y137 x5_1).f0, (rd_T73 y137 x5_1).f1, (⟨wrap64 ((wrap64 (x1_1 + 1)) + 1), (rd_T73 y137 x5_1).f2.f1, (rd_T73 y137 x5_1).f2.f2, (rd_T73 y137 x5_1).f2.f3, (rd_T73 y137 x5_1).f2.f4, (rd_T73 y137 x5_1).f2.f5, (rd_T73 y137 x5_1).f2.f6⟩ : S42)⟩ : S73) : List (S73))).bind fun y138 => ((some (y138.set (x5_1 : Int).toNat (⟨(rd_T73 y138 x5_1).f0, (rd_T73 y138 x5_1).f1, (⟨(rd_T73 y138 x5_1).f2.f0, wrap64 ((wrap64 ((wrap64 (x1_1 + 1)) + 1)) + 1), (rd_T73 y138 x5_1).f2.f2, (rd_T73 y138 x5_1).f2.f3, (rd_T73 y138 x5_1).f2.f4, (rd_T73 y138 x5_1).f2.f5, (rd_T73 y138 x5_1).f2.f6⟩ : S42)⟩ : S73) : List (S73))).bind fun y139 => ((some (y139.set (x5_1 : Int).toNat (⟨(rd_T73 y139 x5_1).f0, (rd_T73 y139 x5_1).f1, (⟨(rd_T73 y139 x5_1).f2.f0, (rd_T73 y139 x5_1).f2.f1, wrap64 ((wrap64 ((wrap64 ((wrap64 (x1_1 + 1)) + 1)) + 1)) + 1), (rd_T73 y139 x5_1).f2.f3, (rd_T73 y139 x5_1).f2.f4, (rd_T73 y139 x5_1).f2.f5, (rd_T73 y139 x5_1).f2.f6⟩ : S42)⟩ : S73) : List (S73))).bind fun y140 => ((some (y140.set (x5_1 : Int).toNat (⟨(rd_T73 y140 x5_1).f0, (rd_T73 y140 x5_1).f1, (⟨(rd_T73 y140 x5_1).f2.f0, (rd_T73 y140 x5_1).f2.f1, (rd_T73 y140 x5_1).f2.f2, wrap64 ((wrap64 ((wrap64 ((wrap64 ((wrap64 (x1_1 + 1)) + 1)) + 1)) + 1)) + 1), (rd_T73 y140 x5_1).f2.f4, (rd_T73 y140 x5_1).f2.f5, (rd_T73 y140 x5_1).f2.f6⟩ : S42)⟩ : S73) : List (S73))).bind fun y141 => ((some (y141.set (x5_1 : Int).toNat (⟨(rd_T73 y141 x5_1).f0, (rd_T73 y141 x5_1).f1, (⟨(rd_T73 y141 x5_1).f2.f0, (rd_T73 y141 x5_1).f2.f1, (rd_T73 y141 x5_1).f2.f2, (rd_T73 y141 x5_1).f2.f3, wrap64 ((wrap64 ((wrap64 ((wrap64 ((wrap64 ((wrap64 (x1_1 + 1)) + 1)) + 1)) + 1)) + 1)) + 1), (rd_T73 y141 x5_1).f2.f5, (rd_T73 y141 x5_1).f2.f6⟩ : S42)⟩ : S73) : List (S73))).bind fun y142 => ((some (y142.set (x5_1 : Int).toNat (⟨(rd_T73 y142 x5_1).f0, (rd_T73 y142 x5_1).f1, (⟨(rd_T73 y142 x5_1).f2.f0, (rd_T73 y142 x5_1).f2.f1, (rd_T73 y142 x5_1).f2.f2, (rd_T73 y142 x5_1).f2.f3, (rd_T73 y142 x5_1).f2.f4, wrap64 ((wrap64 ((wrap64 ((wrap64 ((wrap64 ((wrap64 ((wrap64 (x1_1 + 1)) + 1)) + 1)) + 1)) + 1)) + 1)) + 1), (rd_T73 y142 x5_1).f2.f6⟩ : S42)⟩ : S73) : List (S73))).bind fun y143 => (laws_markHeldS.l0 k1 (y143.set (x5_1 : Int).toNat (⟨(rd_T73 y143 x5_1).f0, (rd_T73 y143 x5_1).f1, (⟨(rd_T73 y143 x5_1).f2.f0, (rd_T73 y143 x5_1).f2.f1, (rd_T73 y143 x5_1).f2.f2, (rd_T73 y143 x5_1).f2.f3, (rd_T73 y143 x5_1).f2.f4, (rd_T73 y143 x5_1).f2.f5, ((Int.tmod (wrap64 ((wrap64 ((wrap64 ((wrap64 ((wrap64 ((wrap64 ((wrap64 ((wrap64 (x1_1 + 1)) + 1)) + 1)) + 1)) + 1)) + 1)) + 1)) + 1)) 3) == 0)⟩ : S42)⟩ : S73)) (wrap64 ((wrap64 ((wrap64 ((wrap64 ((wrap64 ((wrap64 ((wrap64 ((wrap64 ((wrap64 (x1_1 + 1)) + 1)) + 1)) + 1)) + 1)) + 1)) + 1)) + 1)) + 1)) (wrap64 (x5_1 + 1))))))))) = some (r1, r2) := by first | (rw [hy137]; with_reducible exact H) | (have H2_ := (Option.bind_some _ _).symm.trans H; rw [hy137]; with_reducible exact H2_) | (have H2_ := (Option.bind_some _ _).symm.trans H; with_reducible exact H2_) | with_reducible exact H | (rw [hy137]; exact H) | exact H
     have Ny137 := Aside0.mk hy137
     clear hy137
     obtain ⟨y138, hy138⟩ : ∃ y_ : List (S73), y_ = (y137.set (x5_1 : Int).toNat (⟨(rd_T73 y137 x5_1).f0, (rd_T73 y137 x5_1).f1, (⟨wrap64 ((wrap64 (x1_1 + 1)) + 1), (rd_T73 y137 x5_1).f2.f1, (rd_T73 y137 x5_1).f2.f2, (rd_T73 y137 x5_1).f2.f3, (rd_T73 y137 x5_1).f2.f4, (rd_T73 y137 x5_1).f2.f5, (rd_T73 y137 x5_1).f2.f6⟩ : S42)⟩ : S73)) := ⟨_, rfl⟩
     replace H : ((some (y138.set (x5_1 : Int).toNat (⟨(rd_T73 y138 x5_1).f0, (rd_T73 y138 x5_1).f1, (⟨(rd_T73 y138 x5_1).f2.f0, wrap64 ((wrap64 ((wrap64 (x1_1 + 1)) + 1)) + 1), (rd_T73 y138 x5_1).f2.f2, (rd_T73 y138 x5_1).f2.f3, (rd_T73 y138 x5_1).f2.f4, (rd_T73 y138 x5_1).f2.f5, (rd_T73 y138 x5_1).f2.f6⟩ : S42)⟩ : S73) : List (S73))).bind fun y139 => ((some (y139.set (x5_1 : Int).toNat (⟨(rd_T73 y139 x5_1).f0, (rd_T73 y139 x5_1).f1, (⟨(rd_T73 y139 x5_1).f2.f0, (rd_T73 y139 x5_1).f2.f1, wrap64 ((wrap64 ((wrap64 ((wrap64 (x1_1 + 1)) + 1)) + 1)) + 1), (rd_T73 y139 x5_1).f2.f3, (rd_T73 y139 x5_1).f2.f4, (rd_T73 y139 x5_1).f2.f5, (rd_T73 y139 x5_1).f2.f6⟩ : S42)⟩ : S73) : List (S73))).bind fun y140 => ((some (y140.set (x5_1 : Int).toNat (⟨(rd_T73 y140 x5_1).f0, (rd_T73 y140 x5_1).f1, (⟨(rd_T73 y140 x5_1).f2.f0, (rd_T73 y140 x5_1).f2.f1, (rd_T73 y140 x5_1).f2.f2, wrap64 ((wrap64 ((wrap64 ((wrap64 ((wrap64 (x1_1 + 1)) + 1)) + 1)) + 1)) + 1), (rd_T73 y140 x5_1).f2.f4, (rd_T73 y140 x5_1).f2.f5, (rd_T73 y140 x5_1).f2.f6⟩ : S42)⟩ : S73) : List (S73))).bind fun y141 => ((some (y141.set (x5_1 : Int).toNat (⟨(rd_T73 y141 x5_1).f0, (rd_T73 y141 x5_1).f1, (⟨(rd_T73 y141 x5_1).f2.f0, (rd_T73 y141 x5_1).f2.f1, (rd_T73 y141 x5_1).f2.f2, (rd_T73 y141 x5_1).f2.f3, wrap64 ((wrap64 ((wrap64 ((wrap64 ((wrap64 ((wrap64 (x1_1 + 1)) + 1)) + 1)) + 1)) + 1)) + 1), (rd_T73 y141 x5_1).f2.f5, (rd_T73 y141 x5_1).f2.f6⟩ : S42)⟩ : S73) : List (S73))).bind fun y142 => ((some (y142.set (x5_1 : Int).toNat (⟨(rd_T73 y142 x5_1).f0, (rd_T73 y142 x5_1).f1, (⟨(rd_T73 y142 x5_1).f2.f0, (rd_T73 y142 x5_1).f2.f1, (rd_T73 y142 x5_1).f2.f2, (rd_T73 y142 x5_1).f2.f3, (rd_T73 y142 x5_1).f2.f4, wrap64 ((wrap64 ((wrap64 ((wrap64 ((wrap64 ((wrap64 ((wrap64 (x1_1 + 1)) + 1)) + 1)) + 1)) + 1)) + 1)) + 1), (rd_T73 y142 x5_1).f2.f6⟩ : S42)⟩ : S73) : List (S73))).bind fun y143 => (laws_markHeldS.l0 k1 (y143.set (x5_1 : Int).toNat (⟨(rd_T73 y143 x5_1).f0, (rd_T73 y143 x5_1).f1, (⟨(rd_T73 y143 x5_1).f2.f0, (rd_T73 y143 x5_1).f2.f1, (rd_T73 y143 x5_1).f2.f2, (rd_T73 y143 x5_1).f2.f3, (rd_T73 y143 x5_1).f2.f4, (rd_T73 y143 x5_1).f2.f5, ((Int.tmod (wrap64 ((wrap64 ((wrap64 ((wrap64 ((wrap64 ((wrap64 ((wrap64 ((wrap64 (x1_1 + 1)) + 1)) + 1)) + 1)) + 1)) + 1)) + 1)) + 1)) 3) == 0)⟩ : S42)⟩ : S73)) (wrap64 ((wrap64 ((wrap64 ((wrap64 ((wrap64 ((wrap64 ((wrap64 ((wrap64 ((wrap64 (x1_1 + 1)) + 1)) + 1)) + 1)) + 1)) + 1)) + 1)) + 1)) + 1)) (wrap64 (x5_1 + 1)))))))) = some (r1, r2) := by first | (rw [hy138]; with_reducible exact H) | (have H2_ := (Option.bind_some _ _).symm.trans H; rw [hy138]; with_reducible exact H2_) | (have H2_ := (Option.bind_some _ _).symm.trans H; with_reducible exact H2_) | with_reducible exact H | (rw [hy138]; exact H) | exact H
     have Ny138 := Aside0.mk hy138
     clear hy138
     obtain ⟨y139, hy139⟩ : ∃ y_ : List (S73), y_ = (y138.set (x5_1 : Int).toNat (⟨(rd_T73 y138 x5_1).f0, (rd_T73 y138 x5_1).f1, (⟨(rd_T73 y138 x5_1).f2.f0, wrap64 ((wrap64 ((wrap64 (x1_1 + 1)) + 1)) + 1), (rd_T73 y138 x5_1).f2.f2, (rd_T73 y138 x5_1).f2.f3, (rd_T73 y138 x5_1).f2.f4, (rd_T73 y138 x5_1).f2.f5, (rd_T73 y138 x5_1).f2.f6⟩ : S42)⟩ : S73)) := ⟨_, rfl⟩
     replace H : ((some (y139.set (x5_1 : Int).toNat (⟨(rd_T73 y139 x5_1).f0, (rd_T73 y139 x5_1).f1, (⟨(rd_T73 y139 x5_1).f2.f0, (rd_T73 y139 x5_1).f2.f1, wrap64 ((wrap64 ((wrap64 ((wrap64 (x1_1 + 1)) + 1)) + 1)) + 1), (rd_T73 y139 x5_1).f2.f3, (rd_T73 y139 x5_1).f2.f4, (rd_T73 y139 x5_1).f2.f5, (rd_T73 y139 x5_1).f2.f6⟩ : S42)⟩ : S73) : List (S73))).bind fun y140 => ((some (y140.set (x5_1 : Int).toNat (⟨(rd_T73 y140 x5_1).f0, (rd_T73 y140 x5_1).f1, (⟨(rd_T73 y140 x5_1).f2.f0, (rd_T73 y140 x5_1).f2.f1, (rd_T73 y140 x5_1).f2.f2, wrap64 ((wrap64 ((wrap64 ((wrap64 ((wrap64 (x1_1 + 1)) + 1)) + 1)) + 1)) + 1), (rd_T73 y140 x5_1).f2.f4, (rd_T73 y140 x5_1).f2.f5, (rd_T73 y140 x5_1).f2.f6⟩ : S42)⟩ : S73) : List (S73))).bind fun y141 => ((some (y141.set (x5_1 : Int).toNat (⟨(rd_T73 y141 x5_1).f0, (rd_T73 y141 x5_1).f1, (⟨(rd_T73 y141 x5_1).f2.f0, (rd_T73 y141 x5_1).f2.f1, (rd_T73 y141 x5_1).f2.f2, (rd_T73 y141 x5_1).f2.f3, wrap64 ((wrap64 ((wrap64 ((wrap64 ((wrap64 ((wrap64 (x1_1 + 1)) + 1)) + 1)) + 1)) + 1)) + 1), (rd_T73 y141 x5_1).f2.f5, (rd_T73 y141 x5_1).f2.f6⟩ : S42)⟩ : S73) : List (S73))).bind fun y142 => ((some (y142.set (x5_1 : Int).toNat (⟨(rd_T73 y142 x5_1).f0, (rd_T73 y142 x5_1).f1, (⟨(rd_T73 y142 x5_1).f2.f0, (rd_T73 y142 x5_1).f2.f1, (rd_T73 y142 x5_1).f2.f2, (rd_T73 y142 x5_1).f2.f3, (rd_T73 y142 x5_1).f2.f4, wrap64 ((wrap64 ((wrap64 ((wrap64 ((wrap64 ((wrap64 ((wrap64 (x1_1 + 1)) + 1)) + 1)) + 1)) + 1)) + 1)) + 1), (rd_T73 y142 x5_1).f2.f6⟩ : S42)⟩ : S73) : List (S73))).bind fun y143 => (laws_markHeldS.l0 k1 (y143.set (x5_1 : Int).toNat (⟨(rd_T73 y143 x5_1).f0, (rd_T73 y143 x5_1).f1, (⟨(rd_T73 y143 x5_1).f2.f0, (rd_T73 y143 x5_1).f2.f1, (rd_T73 y143 x5_1).f2.f2, (rd_T73 y143 x5_1).f2.f3, (rd_T73 y143 x5_1).f2.f4, (rd_T73 y143 x5_1).f2.f5, ((Int.tmod (wrap64 ((wrap64 ((wrap64 ((wrap64 ((wrap64 ((wrap64 ((wrap64 ((wrap64 (x1_1 + 1)) + 1)) + 1)) + 1)) + 1)) + 1)) + 1)) + 1)) 3) == 0)⟩ : S42)⟩ : S73)) (wrap64 ((wrap64 ((wrap64 ((wrap64 ((wrap64 ((wrap64 ((wrap64 ((wrap64 ((wrap64 (x1_1 + 1)) + 1)) + 1)) + 1)) + 1)) + 1)) + 1)) + 1)) + 1)) (wrap64 (x5_1 + 1))))))) = some (r1, r2) := by first | (rw [hy139]; with_reducible exact H) | (have H2_ := (Option.bind_some _ _).symm.trans H; rw [hy139]; with_reducible exact H2_) | (have H2_ := (Option.bind_some _ _).symm.trans H; with_reducible exact H2_) | with_reducible exact H | (rw [hy139]; exact H) | exact H
     have Ny139 := Aside0.mk hy139
     clear hy139
     obtain ⟨y140, hy140⟩ : ∃ y_ : List (S73), y_ = (y139.set (x5_1 : Int).toNat (⟨(rd_T73 y139 x5_1).f0, (rd_T73 y139 x5_1).f1, (⟨(rd_T73 y139 x5_1).f2.f0, (rd_T73 y139 x5_1).f2.f1, wrap64 ((wrap64 ((wrap64 ((wrap64 (x1_1 + 1)) + 1)) + 1)) + 1), (rd_T73 y139 x5_1).f2.f3, (rd_T73 y139 x5_1).f2.f4, (rd_T73 y139 x5_1).f2.f5, (rd_T73 y139 x5_1).f2.f6⟩ : S42)⟩ : S73)) := ⟨_, rfl⟩
     replace H : ((some (y140.set (x5_1 : Int).toNat (⟨(rd_T73 y140 x5_1).f0, (rd_T73 y140 x5_1).f1, (⟨(rd_T73 y140 x5_1).f2.f0, (rd_T73 y140 x5_1).f2.f1, (rd_T73 y140 x5_1).f2.f2, wrap64 ((wrap64 ((wrap64 ((wrap64 ((wrap64 (x1_1 + 1)) + 1)) + 1)) + 1)) + 1), (rd_T73 y140 x5_1).f2.f4, (rd_T73 y140 x5_1).f2.f5, (rd_T73 y140 x5_1).f2.f6⟩ : S42)⟩ : S73) : List (S73))).bind fun y141 => ((some (y141.set (x5_1 : Int).toNat (⟨(rd_T73 y141 x5_1).f0, (rd_T73 y141 x5_1).f1, (⟨(rd_T73 y141 x5_1).f2.f0, (rd_T73 y141 x5_1).f2.f1, (rd_T73 y141 x5_1).f2.f2, (rd_T73 y141 x5_1).f2.f3, wrap64 ((wrap64 ((wrap64 ((wrap64 ((wrap64 ((wrap64 (x1_1 + 1)) + 1)) + 1)) + 1)) + 1)) + 1), (rd_T73 y141 x5_1).f2.f5, (rd_T73 y141 x5_1).f2.f6⟩ : S42)⟩ : S73) : List (S73))).bind fun y142 => ((some (y142.set (x5_1 : Int).toNat (⟨(rd_T73 y142 x5_1).f0, (rd_T73 y142 x5_1).f1, (⟨(rd_T73 y142 x5_1).f2.f0, (rd_T73 y142 x5_1).f2.f1, (rd_T73 y142 x5_1).f2.f2, (rd_T73 y142 x5_1).f2.f3, (rd_T73 y142 x5_1).f2.f4, wrap64 ((wrap64 ((wrap64 ((wrap64 ((wrap64 ((wrap64 ((wrap64 (x1_1 + 1)) + 1)) + 1)) + 1)) + 1)) + 1)) + 1), (rd_T73 y142 x5_1).f2.f6⟩ : S42)⟩ : S73) : List (S73))).bind fun y143 => (laws_markHeldS.l0 k1 (y143.set (x5_1 : Int).toNat (⟨(rd_T73 y143 x5_1).f0, (rd_T73 y143 x5_1).f1, (⟨(rd_T73 y143 x5_1).f2.f0, (rd_T73 y143 x5_1).f2.f1, (rd_T73 y143 x5_1).f2.f2, (rd_T73 y143 x5_1).f2.f3, (rd_T73 y143 x5_1).f2.f4, (rd_T73 y143 x5_1).f2.f5, ((Int.tmod (wrap64 ((wrap64 ((wrap64 ((wrap64 ((wrap64 ((wrap64 ((wrap64 ((wrap64 (x1_1 + 1)) + 1)) + 1)) + 1)) + 1)) + 1)) + 1)) + 1)) 3) == 0)⟩ : S42)⟩ : S73)) (wrap64 ((wrap64 ((wrap64 ((wrap64 ((wrap64 ((wrap64 ((wrap64 ((wrap64 ((wrap64 (x1_1 + 1)) + 1)) + 1)) + 1)) + 1)) + 1)) + 1)) + 1)) + 1)) (wrap64 (x5_1 + 1)))))) = some (r1, r2) := by first | (rw [hy140]; with_reducible exact H) | (have H2_ := (Option.bind_some _ _).symm.trans H; rw [hy140]; with_reducible exact H2_) | (have H2_ := (Option.bind_some _ _).symm.trans H; with_reducible exact H2_) | with_reducible exact H | (rw [hy140]; exact H) | exact H
     have Ny140 := Aside0.mk hy140
     clear hy140
     obtain ⟨y141, hy141⟩ : ∃ y_ : List (S73), y_ = (y140.set (x5_1 : Int).toNat (⟨(rd_T73 y140 x5_1).f0, (rd_T73 y140 x5_1).f1, (⟨(rd_T73 y140 x5_1).f2.f0, (rd_T73 y140 x5_1).f2.f1, (rd_T73 y140 x5_1).f2.f2, wrap64 ((wrap64 ((wrap64 ((wrap64 ((wrap64 (x1_1 + 1)) + 1)) + 1)) + 1)) + 1), (rd_T73 y140 x5_1).f2.f4, (rd_T73 y140 x5_1).f2.f5, (rd_T73 y140 x5_1).f2.f6⟩ : S42)⟩ : S73)) := ⟨_, rfl⟩
     replace H : ((some (y141.set (x5_1 : Int).toNat (⟨(rd_T73 y141 x5_1).f0, (rd_T73 y141 x5_1).f1, (⟨(rd_T73 y141 x5_1).f2.f0, (rd_T73 y141 x5_1).f2.f1, (rd_T73 y141 x5_1).f2.f2, (rd_T73 y141 x5_1).f2.f3, wrap64 ((wrap64 ((wrap64 ((wrap64 ((wrap64 ((wrap64 (x1_1 + 1)) + 1)) + 1)) + 1)) + 1)) + 1), (rd_T73 y141 x5_1).f2.f5, (rd_T73 y141 x5_1).f2.f6⟩ : S42)⟩ : S73) : List (S73))).bind fun y142 => ((some (y142.set (x5_1 : Int).toNat (⟨(rd_T73 y142 x5_1).f0, (rd_T73 y142 x5_1).f1, (⟨(rd_T73 y142 x5_1).f2.f0, (rd_T73 y142 x5_1).f2.f1, (rd_T73 y142 x5_1).f2.f2, (rd_T73 y142 x5_1).f2.f3, (rd_T73 y142 x5_1).f2.f4, wrap64 ((wrap64 ((wrap64 ((wrap64 ((wrap64 ((wrap64 ((wrap64 (x1_1 + 1)) + 1)) + 1)) + 1)) + 1)) + 1)) + 1), (rd_T73 y142 x5_1).f2.f6⟩ : S42)⟩ : S73) : List (S73))).bind fun y143 => (laws_markHeldS.l0 k1 (y143.set (x5_1 : Int).toNat (⟨(rd_T73 y143 x5_1).f0, (rd_T73 y143 x5_1).f1, (⟨(rd_T73 y143 x5_1).f2.f0, (rd_T73 y143 x5_1).f2.f1, (rd_T73 y143 x5_1).f2.f2, (rd_T73 y143 x5_1).f2.f3, (rd_T73 y143 x5_1).f2.f4, (rd_T73 y143 x5_1).f2.f5, ((Int.tmod (wrap64 ((wrap64 ((wrap64 ((wrap64 ((wrap64 ((wrap64 ((wrap64 ((wrap64 (x1_1 + 1)) + 1)) + 1)) + 1)) + 1)) + 1)) + 1)) + 1)) 3) == 0)⟩ : S42)⟩ : S73)) (wrap64 ((wrap64 ((wrap64 ((wrap64 ((wrap64 ((wrap64 ((wrap64 ((wrap64 ((wrap64 (x1_1 + 1)) + 1)) + 1)) + 1)) + 1)) + 1)) + 1)) + 1)) + 1)) (wrap64 (x5_1 + 1))))) = some (r1, r2) := by first | (rw [hy141]; with_reducible exact H) | (have H2_ := (Option.bind_some _ _).symm.trans H; rw [hy141]; with_reducible exact H2_) | (have H2_ := (Option.bind_some _ _).symm.trans H; with_reducible exact H2_) | with_reducible exact H | (rw [hy141]; exact H) | exact H
     have Ny141 := Aside0.mk hy141
     clear hy141
     obtain ⟨y142, hy142⟩ : ∃ y_ : List (S73), y_ = (y141.set (x5_1 : Int).toNat (⟨(rd_T73 y141 x5_1).f0, (rd_T73 y141 x5_1).f1, (⟨(rd_T73 y141 x5_1).f2.f0, (rd_T73 y141 x5_1).f2.f1, (rd_T73 y141 x5_1).f2.f2, (rd_T73 y141 x5_1).f2.f3, wrap64 ((wrap64 ((wrap64 ((wrap64 ((wrap64 ((wrap64 (x1_1 + 1)) + 1)) + 1)) + 1)) + 1)) + 1), (rd_T73 y141 x5_1).f2.f5, (rd_T73 y141 x5_1).f2.f6⟩ : S42)⟩ : S73)) := ⟨_, rfl⟩
     replace H : ((some (y142.set (x5_1 : Int).toNat (⟨(rd_T73 y142 x5_1).f0, (rd_T73 y142 x5_1).f1, (⟨(rd_T73 y142 x5_1).f2.f0, (rd_T73 y142 x5_1).f2.f1, (rd_T73 y142 x5_1).f2.f2, (rd_T73 y142 x5_1).f2.f3, (rd_T73 y142 x5_1).f2.f4, wrap64 ((wrap64 ((wrap64 ((wrap64 ((wrap64 ((wrap64 ((wrap64 (x1_1 + 1)) + 1)) + 1)) + 1)) + 1)) + 1)) + 1), (rd_T73 y142 x5_1).f2.f6⟩ : S42)⟩ : S73) : List (S73))).bind fun y143 => (laws_markHeldS.l0 k1 (y143.set (x5_1 : Int).toNat (⟨(rd_T73 y143 x5_1).f0, (rd_T73 y143 x5_1).f1, (⟨(rd_T73 y143 x5_1).f2.f0, (rd_T73 y143 x5_1).f2.f1, (rd_T73 y143 x5_1).f2.f2, (rd_T73 y143 x5_1).f2.f3, (rd_T73 y143 x5_1).f2.f4, (rd_T73 y143 x5_1).f2.f5, ((Int.tmod (wrap64 ((wrap64 ((wrap64 ((wrap64 ((wrap64 ((wrap64 ((wrap64 ((wrap64 (x1_1 + 1)) + 1)) + 1)) + 1)) + 1)) + 1)) + 1)) + 1)) 3) == 0)⟩ : S42)⟩ : S73)) (wrap64 ((wrap64 ((wrap64 ((wrap64 ((wrap64 ((wrap64 ((wrap64 ((wrap64 ((wrap64 (x1_1 + 1)) + 1)) + 1)) + 1)) + 1)) + 1)) + 1)) + 1)) + 1)) (wrap64 (x5_1 + 1)))) = some (r1, r2) := by first | (rw [hy142]; with_reducible exact H) | (have H2_ := (Option.bind_some _ _).symm.trans H; rw [hy142]; with_reducible exact H2_) | (have H2_ := (Option.bind_some _ _).symm.trans H; with_reducible exact H2_) | with_reducible exact H | (rw [hy142]; exact H) | exact H
     have Ny142 := Aside0.mk hy142
     clear hy142
     obtain ⟨y143, hy143⟩ : ∃ y_ : List (S73), y_ = (y142.set (x5_1 : Int).toNat (⟨(rd_T73 y142 x5_1).f0, (rd_T73 y142 x5_1).f1, (⟨(rd_T73 y142 x5_1).f2.f0, (rd_T73 y142 x5_1).f2.f1, (rd_T73 y142 x5_1).f2.f2, (rd_T73 y142 x5_1).f2.f3, (rd_T73 y142 x5_1).f2.f4, wrap64 ((wrap64 ((wrap64 ((wrap64 ((wrap64 ((wrap64 ((wrap64 (x1_1 + 1)) + 1)) + 1)) + 1)) + 1)) + 1)) + 1), (rd_T73 y142 x5_1).f2.f6⟩ : S42)⟩ : S73)) := ⟨_, rfl⟩
     replace H : (laws_markHeldS.l0 k1 (y143.set (x5_1 : Int).toNat (⟨(rd_T73 y143 x5_1).f0, (rd_T73 y143 x5_1).f1, (⟨(rd_T73 y143 x5_1).f2.f0, (rd_T73 y143 x5_1).f2.f1, (rd_T73 y143 x5_1).f2.f2, (rd_T73 y143 x5_1).f2.f3, (rd_T73 y143 x5_1).f2.f4, (rd_T73 y143 x5_1).f2.f5, ((Int.tmod (wrap64 ((wrap64 ((wrap64 ((wrap64 ((wrap64 ((wrap64 ((wrap64 ((wrap64 (x1_1 + 1)) + 1)) + 1)) + 1)) + 1)) + 1)) + 1)) + 1)) 3) == 0)⟩ : S42)⟩ : S73)) (wrap64 ((wrap64 ((wrap64 ((wrap64 ((wrap64 ((wrap64 ((wrap64 ((wrap64 ((wrap64 (x1_1 + 1)) + 1)) + 1)) + 1)) + 1)) + 1)) + 1)) + 1)) + 1)) (wrap64 (x5_1 + 1))) = some (r1, r2) := by first | (rw [hy143]; with_reducible exact H) | (have H2_ := (Option.bind_some _ _).symm.trans H; rw [hy143]; with_reducible exact H2_) | (have H2_ := (Option.bind_some _ _).symm.trans H; with_reducible exact H2_) | with_reducible exact H | (rw [hy143]; exact H) | exact H
     have Ny143 := Aside0.mk hy143
     clear hy143
     obtain ⟨y144, hy144⟩ : ∃ y_ : List (S73), y_ = (y143.set (x5_1 : Int).toNat (⟨(rd_T73 y143 x5_1).f0, (rd_T73 y143 x5_1).f1, (⟨(rd_T73 y143 x5_1).f2.f0, (rd_T73 y143 x5_1).f2.f1, (rd_T73 y143 x5_1).f2.f2, (rd_T73 y143 x5_1).f2.f3, (rd_T73 y143 x5_1).f2.f4, (rd_T73 y143 x5_1).f2.f5, ((Int.tmod (wrap64 ((wrap64 ((wrap64 ((wrap64 ((wrap64 ((wrap64 ((wrap64 ((wrap64 (x1_1 + 1)) + 1)) + 1)) + 1)) + 1)) + 1)) + 1)) + 1)) 3) == 0)⟩ : S42)⟩ : S73)) := ⟨_, rfl⟩
     replace H : (laws_markHeldS.l0 k1 y144 (wrap64 ((wrap64 ((wrap64 ((wrap64 ((wrap64 ((wrap64 ((wrap64 ((wrap64 ((wrap64 (x1_1 + 1)) + 1)) + 1)) + 1)) + 1)) + 1)) + 1)) + 1)) + 1)) (wrap64 (x5_1 + 1))) = some (r1, r2) := by first | (rw [hy144]; with_reducible exact H) | (have H2_ := (Option.bind_some _ _).symm.trans H; rw [hy144]; with_reducible exact H2_) | (have H2_ := (Option.bind_some _ _).symm.trans H; with_reducible exact H2_) | with_reducible exact H | (rw [hy144]; exact H) | exact H
     have Ny144 := Aside0.mk hy144
     clear hy144
     have H' := Aside0.mk H
     clear H
     obtain ⟨Ao14, co14, eo14⟩ := Kd.R_slice HO_0.out
     subst eo14
     have p5 : 0 ≤ (x5_1 : Int) := of_decide_eq_true (by first | (with_reducible assumption) | assumption)
     have q5 : (x5_1 : Int) < ((x0_1.length : Int) : Int) := of_decide_eq_true (by first | (with_reducible assumption) | assumption)
     obtain ⟨go5, co5, eo5, gb5, gl5, cl5, HG5⟩ := Kd.R_form HO_0.out (by omega)
     (first | cases eo5 | (injection eo5 with ea_ en_ ec_; (first | subst ea_ | (injection ea_ with ea_; subst ea_)); subst ec_; clear en_))
     have GB5 := Aside0.mk gb5
     have GG5 := Aside0.mk HG5
     clear gb5 gl5 HG5
     have HMgo5 := Aside0.mk (show (P0_ go5 ∨ w.heap.size ≤ go5) from (HO_0.out.1 _ rfl))
     obtain ⟨ce5, hcl5, hM5, hcc5, hfr5⟩ := Kd.R_elem HO_0.out z73 (x5_1 : Int) p5 q5
     obtain rfl := k73_openM hM5
     have hx5_0 : wr.cell? ⟨go5, (x5_1 : Int).toNat * 9, none⟩ = some (.int .i64 ((rd_T73 x0_1 x5_1).f0)) := hcc5 0 _ rfl
     have hx5_1 : wr.cell? ⟨go5, (x5_1 : Int).toNat * 9 + 1, none⟩ = some (.bool ((rd_T73 x0_1 x5_1).f1)) := hcc5 1 _ rfl
     have hx5_2 : wr.cell? ⟨go5, (x5_1 : Int).toNat * 9 + 2, none⟩ = some (.int .i64 ((rd_T73 x0_1 x5_1).f2.f0)) := hcc5 2 _ rfl
     have hx5_3 : wr.cell? ⟨go5, (x5_1 : Int).toNat * 9 + 3, none⟩ = some (.int .i64 ((rd_T73 x0_1 x5_1).f2.f1)) := hcc5 3 _ rfl
     have hx5_4 : wr.cell? ⟨go5, (x5_1 : Int).toNat * 9 + 4, none⟩ = some (.int .i64 ((rd_T73 x0_1 x5_1).f2.f2)) := hcc5 4 _ rfl
     have hx5_5 : wr.cell? ⟨go5, (x5_1 : Int).toNat * 9 + 5, none⟩ = some (.int .i64 ((rd_T73 x0_1 x5_1).f2.f3)) := hcc5 5 _ rfl
     have hx5_6 : wr.cell? ⟨go5, (x5_1 : Int).toNat * 9 + 6, none⟩ = some (.int .i64 ((rd_T73 x0_1 x5_1).f2.f4)) := hcc5 6 _ rfl
     have hx5_7 : wr.cell? ⟨go5, (x5_1 : Int).toNat * 9 + 7, none⟩ = some (.int .i64 ((rd_T73 x0_1 x5_1).f2.f5)) := hcc5 7 _ rfl
     have hx5_8 : wr.cell? ⟨go5, (x5_1 : Int).toNat * 9 + 8, none⟩ = some (.bool ((rd_T73 x0_1 x5_1).f2.f6)) := hcc5 8 _ rfl
     have hf5_0 : wr.frozen? ⟨go5, (x5_1 : Int).toNat * 9, none⟩ = false := hfr5 0
     have hf5_1 : wr.frozen? ⟨go5, (x5_1 : Int).toNat * 9 + 1, none⟩ = false := hfr5 1
     have hf5_2 : wr.frozen? ⟨go5, (x5_1 : Int).toNat * 9 + 2, none⟩ = false := hfr5 2
     have hf5_3 : wr.frozen? ⟨go5, (x5_1 : Int).toNat * 9 + 3, none⟩ = false := hfr5 3
     have hf5_4 : wr.frozen? ⟨go5, (x5_1 : Int).toNat * 9 + 4, none⟩ = false := hfr5 4
     have hf5_5 : wr.frozen? ⟨go5, (x5_1 : Int).toNat * 9 + 5, none⟩ = false := hfr5 5
     have hf5_6 : wr.frozen? ⟨go5, (x5_1 : Int).toNat * 9 + 6, none⟩ = false := hfr5 6
     have hf5_7 : wr.frozen? ⟨go5, (x5_1 : Int).toNat * 9 + 7, none⟩ = false := hfr5 7
     have hf5_8 : wr.frozen? ⟨go5, (x5_1 : Int).toNat * 9 + 8, none⟩ = false := hfr5 8
     clear hcl5 hcc5 hfr5 hM5
     replace p5 := eq_true p5
     replace q5 := eq_true q5
     have HX15 := Aside0.mk (show Kd.R k73 73 wr w0.heap.size (fun k_ => (P0_ k_ ∨ w.heap.size ≤ k_)) (.slice (some ⟨go5, 0, none⟩) x0_1.length co14) x0_1 from (by (with_reducible repeat (first | apply Kd.R_alloc | apply Kd.R_drewN | apply Kd.R_drew)); exact HO_0.out))
     obtain ⟨ce15, hcl15, hM15, hcc15, hfr15⟩ := Kd.R_elem HX15.out z73 (x5_1 : Int) (of_decide_eq_true (by first | (with_reducible assumption) | assumption)) (by have h_ : (x5_1 : Int) < ((x0_1.length : Int) : Int) := of_decide_eq_true (by first | (with_reducible assumption) | assumption); first | exact h_ | (have e_ := (Kd.R_reads' HO_0.out).1; omega) | simpa using h_)
     obtain rfl := k73_openM hM15
     have HP15 := Kd.R_seg HX15.out (x5_1 : Int) (of_decide_eq_true (by first | (with_reducible assumption) | assumption)) (by have h_ : (x5_1 : Int) < ((x0_1.length : Int) : Int) := of_decide_eq_true (by first | (with_reducible assumption) | assumption); first | exact h_ | (have e_ := (Kd.R_reads' HO_0.out).1; omega) | simpa using h_) (seg := [.int .i64 x1_1]) (j := 0) hcl15 hcc15 (show 1 ≤ 9 from by decide) (x' := (⟨x1_1, (rd_T73 x0_1 x5_1).f1, (⟨(rd_T73 x0_1 x5_1).f2.f0, (rd_T73 x0_1 x5_1).f2.f1, (rd_T73 x0_1 x5_1).f2.f2, (rd_T73 x0_1 x5_1).f2.f3, (rd_T73 x0_1 x5_1).f2.f4, (rd_T73 x0_1 x5_1).f2.f5, (rd_T73 x0_1 x5_1).f2.f6⟩ : S42)⟩ : S73)) (k73_mkM _ _ _ (⟨x1_1, (rd_T73 x0_1 x5_1).f1, (⟨(rd_T73 x0_1 x5_1).f2.f0, (rd_T73 x0_1 x5_1).f2.f1, (rd_T73 x0_1 x5_1).f2.f2, (rd_T73 x0_1 x5_1).f2.f3, (rd_T73 x0_1 x5_1).f2.f4, (rd_T73 x0_1 x5_1).f2.f5, (rd_T73 x0_1 x5_1).f2.f6⟩ : S42)⟩ : S73) ) (fun _ hk => hk)
     have hx15_0 := hcc15 0 _ rfl
     (try simp only [show (k73).sz = 9 from rfl, Nat.mul_one, Nat.add_zero] at hx15_0)
     have hf15_0 := hfr15 0
     (try simp only [show (k73).sz = 9 from rfl, Nat.mul_one, Nat.add_zero] at hf15_0)
     clear hcl15 hcc15 hfr15 hM15
     go_wp2_with (first | ((with_reducible refine gate_store (t := 2) (p := 16) rfl ?_); refine store_event (t := 2) (p := 16) (v := ?vo_w16) (w1 := (wr.setCell ⟨go5, (x5_1 : Int).toNat * 9, none⟩ (.int .i64 x1_1))) ?hg ?ho ?hn ?hr ?_; (case ho => rfl); (case hg => rfl); (case hn => rfl); (case hr => first | (go_simp; done) | (go_simp; rfl)); intro w16 hw; have hg : wr.grownBy w16 (some go5) := (by rw [hw]; exact HP15.2); have hp_ : Kd.R k73 73 w16 w0.heap.size (fun k_ => (P0_ k_ ∨ w.heap.size ≤ k_)) (.slice (some ⟨go5, 0, none⟩) x0_1.length co14) y136 := (by rw [hw, Ny136.out]; exact HP15.1); clear HP15; have n0_ := Aside0.mk (hp_); have n1_ := Aside0.mk ((by rw [hw]; exact below_set (HB.out) GB5.out : Below w0.heap.size w0 w16)); have n2_ := Aside0.mk (Kept.of_grown (S := (fun k_ => P0_ k_)) hg (by repeat (first | (with_reducible first | exact HK.out | apply Kept.alloc | apply Kept.drewN | apply Kept.drew) | exact HK.out)) (fun k_ e_ => (HO_0.out.1 k_ e_))); clear HO_0; clear HB; clear HK; have HO_0 := n0_; have HB := n1_; have HK := n2_; clear n0_ n1_ n2_; clear hg hw hp_; have p6 : 0 ≤ (x5_1 : Int) := of_decide_eq_true (by first | (with_reducible assumption) | assumption); have q6 : (x5_1 : Int) < ((x0_1.length : Int) : Int) := of_decide_eq_true (by first | (with_reducible assumption) | assumption); obtain ⟨ce6, hcl6, hM6, hcc6, hfr6⟩ := Kd.R_elem HO_0.out z73 (x5_1 : Int) p6 q6; obtain rfl := k73_openM hM6; have hx6_0 : w16.cell? ⟨go5, (x5_1 : Int).toNat * 9, none⟩ = some (.int .i64 ((rd_T73 y136 x5_1).f0)) := hcc6 0 _ rfl; have hx6_1 : w16.cell? ⟨go5, (x5_1 : Int).toNat * 9 + 1, none⟩ = some (.bool ((rd_T73 y136 x5_1).f1)) := hcc6 1 _ rfl; have hx6_2 : w16.cell? ⟨go5, (x5_1 : Int).toNat * 9 + 2, none⟩ = some (.int .i64 ((rd_T73 y136 x5_1).f2.f0)) := hcc6 2 _ rfl; have hx6_3 : w16.cell? ⟨go5, (x5_1 : Int).toNat * 9 + 3, none⟩ = some (.int .i64 ((rd_T73 y136 x5_1).f2.f1)) := hcc6 3 _ rfl; have hx6_4 : w16.cell? ⟨go5, (x5_1 : Int).toNat * 9 + 4, none⟩ = some (.int .i64 ((rd_T73 y136 x5_1).f2.f2)) := hcc6 4 _ rfl; have hx6_5 : w16.cell? ⟨go5, (x5_1 : Int).toNat * 9 + 5, none⟩ = some (.int .i64 ((rd_T73 y136 x5_1).f2.f3)) := hcc6 5 _ rfl; have hx6_6 : w16.cell? ⟨go5, (x5_1 : Int).toNat * 9 + 6, none⟩ = some (.int .i64 ((rd_T73 y136 x5_1).f2.f4)) := hcc6 6 _ rfl; have hx6_7 : w16.cell? ⟨go5, (x5_1 : Int).toNat * 9 + 7, none⟩ = some (.int .i64 ((rd_T73 y136 x5_1).f2.f5)) := hcc6 7 _ rfl; have hx6_8 : w16.cell? ⟨go5, (x5_1 : Int).toNat * 9 + 8, none⟩ = some (.bool ((rd_T73 y136 x5_1).f2.f6)) := hcc6 8 _ rfl; have hf6_0 : w16.frozen? ⟨go5, (x5_1 : Int).toNat * 9, none⟩ = false := hfr6 0; have hf6_1 : w16.frozen? ⟨go5, (x5_1 : Int).toNat * 9 + 1, none⟩ = false := hfr6 1; have hf6_2 : w16.frozen? ⟨go5, (x5_1 : Int).toNat * 9 + 2, none⟩ = false := hfr6 2; have hf6_3 : w16.frozen? ⟨go5, (x5_1 : Int).toNat * 9 + 3, none⟩ = false := hfr6 3; have hf6_4 : w16.frozen? ⟨go5, (x5_1 : Int).toNat * 9 + 4, none⟩ = false := hfr6 4; have hf6_5 : w16.frozen? ⟨go5, (x5_1 : Int).toNat * 9 + 5, none⟩ = false := hfr6 5; have hf6_6 : w16.frozen? ⟨go5, (x5_1 : Int).toNat * 9 + 6, none⟩ = false := hfr6 6; have hf6_7 : w16.frozen? ⟨go5, (x5_1 : Int).toNat * 9 + 7, none⟩ = false := hfr6 7; have hf6_8 : w16.frozen? ⟨go5, (x5_1 : Int).toNat * 9 + 8, none⟩ = false := hfr6 8; clear hcl6 hcc6 hfr6 hM6; replace p6 := eq_true p6; replace q6 := eq_true q6; have HX17 := Aside0.mk (show Kd.R k73 73 w16 w0.heap.size (fun k_ => (P0_ k_ ∨ w.heap.size ≤ k_)) (.slice (some ⟨go5, 0, none⟩) x0_1.length co14) y136 from (by (with_reducible repeat (first | apply Kd.R_alloc | apply Kd.R_drewN | apply Kd.R_drew)); exact HO_0.out)); obtain ⟨ce17, hcl17, hM17, hcc17, hfr17⟩ := Kd.R_elem HX17.out z73 (x5_1 : Int) (of_decide_eq_true (by first | (with_reducible assumption) | assumption)) (by have h_ : (x5_1 : Int) < ((x0_1.length : Int) : Int) := of_decide_eq_true (by first | (with_reducible assumption) | assumption); first | exact h_ | (have e_ := (Kd.R_reads' HO_0.out).1; omega) | simpa using h_); obtain rfl := k73_openM hM17; have HP17 := Kd.R_seg HX17.out (x5_1 : Int) (of_decide_eq_true (by first | (with_reducible assumption) | assumption)) (by have h_ : (x5_1 : Int) < ((x0_1.length : Int) : Int) := of_decide_eq_true (by first | (with_reducible assumption) | assumption); first | exact h_ | (have e_ := (Kd.R_reads' HO_0.out).1; omega) | simpa using h_) (seg := [.bool ((Int.tmod (wrap64 (x1_1 + 1)) 3) == 0)]) (j := 1) hcl17 hcc17 (show 2 ≤ 9 from by decide) (x' := (⟨(rd_T73 y136 x5_1).f0, ((Int.tmod (wrap64 (x1_1 + 1)) 3) == 0), (⟨(rd_T73 y136 x5_1).f2.f0, (rd_T73 y136 x5_1).f2.f1, (rd_T73 y136 x5_1).f2.f2, (rd_T73 y136 x5_1).f2.f3, (rd_T73 y136 x5_1).f2.f4, (rd_T73 y136 x5_1).f2.f5, (rd_T73 y136 x5_1).f2.f6⟩ : S42)⟩ : S73)) (k73_mkM _ _ _ (⟨(rd_T73 y136 x5_1).f0, ((Int.tmod (wrap64 (x1_1 + 1)) 3) == 0), (⟨(rd_T73 y136 x5_1).f2.f0, (rd_T73 y136 x5_1).f2.f1, (rd_T73 y136 x5_1).f2.f2, (rd_T73 y136 x5_1).f2.f3, (rd_T73 y136 x5_1).f2.f4, (rd_T73 y136 x5_1).f2.f5, (rd_T73 y136 x5_1).f2.f6⟩ : S42)⟩ : S73) ) (fun _ hk => hk); have hx17_1 := hcc17 1 _ rfl; (try simp only [show (k73).sz = 9 from rfl, Nat.mul_one, Nat.add_zero] at hx17_1); have hf17_1 := hfr17 1; (try simp only [show (k73).sz = 9 from rfl, Nat.mul_one, Nat.add_zero] at hf17_1); clear hcl17 hcc17 hfr17 hM17) | ((with_reducible refine gate_store (t := 4) (p := 25) rfl ?_); refine store_event (t := 4) (p := 25) (v := ?vo_w18) (w1 := (w16.setCell ⟨go5, (x5_1 : Int).toNat * 9 + 1, none⟩ (.bool ((Int.tmod (wrap64 (x1_1 + 1)) 3) == 0)))) ?hg ?ho ?hn ?hr ?_; (case ho => rfl); (case hg => rfl); (case hn => rfl); (case hr => first | (go_simp; done) | (go_simp; rfl)); intro w18 hw; have hg : w16.grownBy w18 (some go5) := (by rw [hw]; exact HP17.2); have hp_ : Kd.R k73 73 w18 w0.heap.size (fun k_ => (P0_ k_ ∨ w.heap.size ≤ k_)) (.slice (some ⟨go5, 0, none⟩) x0_1.length co14) y137 := (by rw [hw, Ny137.out]; exact HP17.1); clear HP17; have n0_ := Aside0.mk (hp_); have n1_ := Aside0.mk ((by rw [hw]; exact below_set (HB.out) GB5.out : Below w0.heap.size w0 w18)); have n2_ := Aside0.mk (Kept.of_grown (S := (fun k_ => P0_ k_)) hg (by repeat (first | (with_reducible first | exact HK.out | apply Kept.alloc | apply Kept.drewN | apply Kept.drew) | exact HK.out)) (fun k_ e_ => (HO_0.out.1 k_ e_))); clear HO_0; clear HB; clear HK; have HO_0 := n0_; have HB := n1_; have HK := n2_; clear n0_ n1_ n2_; clear hg hw hp_; have p7 : 0 ≤ (x5_1 : Int) := of_decide_eq_true (by first | (with_reducible assumption) | assumption); have q7 : (x5_1 : Int) < ((x0_1.length : Int) : Int) := of_decide_eq_true (by first | (with_reducible assumption) | assumption); obtain ⟨ce7, hcl7, hM7, hcc7, hfr7⟩ := Kd.R_elem HO_0.out z73 (x5_1 : Int) p7 q7; obtain rfl := k73_openM hM7; have hx7_0 : w18.cell? ⟨go5, (x5_1 : Int).toNat * 9, none⟩ = some (.int .i64 ((rd_T73 y137 x5_1).f0)) := hcc7 0 _ rfl; have hx7_1 : w18.cell? ⟨go5, (x5_1 : Int).toNat * 9 + 1, none⟩ = some (.bool ((rd_T73 y137 x5_1).f1)) := hcc7 1 _ rfl; have hx7_2 : w18.cell? ⟨go5, (x5_1 : Int).toNat * 9 + 2, none⟩ = some (.int .i64 ((rd_T73 y137 x5_1).f2.f0)) := hcc7 2 _ rfl; have hx7_3 : w18.cell? ⟨go5, (x5_1 : Int).toNat * 9 + 3, none⟩ = some (.int .i64 ((rd_T73 y137 x5_1).f2.f1)) := hcc7 3 _ rfl; have hx7_4 : w18.cell? ⟨go5, (x5_1 : Int).toNat * 9 + 4, none⟩ = some (.int .i64 ((rd_T73 y137 x5_1).f2.f2)) := hcc7 4 _ rfl; have hx7_5 : w18.cell? ⟨go5, (x5_1 : Int).toNat * 9 + 5, none⟩ = some (.int .i64 ((rd_T73 y137 x5_1).f2.f3)) := hcc7 5 _ rfl; have hx7_6 : w18.cell? ⟨go5, (x5_1 : Int).toNat * 9 + 6, none⟩ = some (.int .i64 ((rd_T73 y137 x5_1).f2.f4)) := hcc7 6 _ rfl; have hx7_7 : w18.cell? ⟨go5, (x5_1 : Int).toNat * 9 + 7, none⟩ = some (.int .i64 ((rd_T73 y137 x5_1).f2.f5)) := hcc7 7 _ rfl; have hx7_8 : w18.cell? ⟨go5, (x5_1 : Int).toNat * 9 + 8, none⟩ = some (.bool ((rd_T73 y137 x5_1).f2.f6)) := hcc7 8 _ rfl; have hf7_0 : w18.frozen? ⟨go5, (x5_1 : Int).toNat * 9, none⟩ = false := hfr7 0; have hf7_1 : w18.frozen? ⟨go5, (x5_1 : Int).toNat * 9 + 1, none⟩ = false := hfr7 1; have hf7_2 : w18.frozen? ⟨go5, (x5_1 : Int).toNat * 9 + 2, none⟩ = false := hfr7 2; have hf7_3 : w18.frozen? ⟨go5, (x5_1 : Int).toNat * 9 + 3, none⟩ = false := hfr7 3; have hf7_4 : w18.frozen? ⟨go5, (x5_1 : Int).toNat * 9 + 4, none⟩ = false := hfr7 4; have hf7_5 : w18.frozen? ⟨go5, (x5_1 : Int).toNat * 9 + 5, none⟩ = false := hfr7 5; have hf7_6 : w18.frozen? ⟨go5, (x5_1 : Int).toNat * 9 + 6, none⟩ = false := hfr7 6; have hf7_7 : w18.frozen? ⟨go5, (x5_1 : Int).toNat * 9 + 7, none⟩ = false := hfr7 7; have hf7_8 : w18.frozen? ⟨go5, (x5_1 : Int).toNat * 9 + 8, none⟩ = false := hfr7 8; clear hcl7 hcc7 hfr7 hM7; replace p7 := eq_true p7; replace q7 := eq_true q7; have HX19 := Aside0.mk (show Kd.R k73 73 w18 w0.heap.size (fun k_ => (P0_ k_ ∨ w.heap.size ≤ k_)) (.slice (some ⟨go5, 0, none⟩) x0_1.length co14) y137 from (by (with_reducible repeat (first | apply Kd.R_alloc | apply Kd.R_drewN | apply Kd.R_drew)); exact HO_0.out)); obtain ⟨ce19, hcl19, hM19, hcc19, hfr19⟩ := Kd.R_elem HX19.out z73 (x5_1 : Int) (of_decide_eq_true (by first | (with_reducible assumption) | assumption)) (by have h_ : (x5_1 : Int) < ((x0_1.length : Int) : Int) := of_decide_eq_true (by first | (with_reducible assumption) | assumption); first | exact h_ | (have e_ := (Kd.R_reads' HO_0.out).1; omega) | simpa using h_); obtain rfl := k73_openM hM19; have HP19 := Kd.R_seg HX19.out (x5_1 : Int) (of_decide_eq_true (by first | (with_reducible assumption) | assumption)) (by have h_ : (x5_1 : Int) < ((x0_1.length : Int) : Int) := of_decide_eq_true (by first | (with_reducible assumption) | assumption); first | exact h_ | (have e_ := (Kd.R_reads' HO_0.out).1; omega) | simpa using h_) (seg := [.int .i64 (wrap64 ((wrap64 (x1_1 + 1)) + 1))]) (j := 2) hcl19 hcc19 (show 3 ≤ 9 from by decide) (x' := (⟨(rd_T73 y137 x5_1).f0, (rd_T73 y137 x5_1).f1, (⟨wrap64 ((wrap64 (x1_1 + 1)) + 1), (rd_T73 y137 x5_1).f2.f1, (rd_T73 y137 x5_1).f2.f2, (rd_T73 y137 x5_1).f2.f3, (rd_T73 y137 x5_1).f2.f4, (rd_T73 y137 x5_1).f2.f5, (rd_T73 y137 x5_1).f2.f6⟩ : S42)⟩ : S73)) (k73_mkM _ _ _ (⟨(rd_T73 y137 x5_1).f0, (rd_T73 y137 x5_1).f1, (⟨wrap64 ((wrap64 (x1_1 + 1)) + 1), (rd_T73 y137 x5_1).f2.f1, (rd_T73 y137 x5_1).f2.f2, (rd_T73 y137 x5_1).f2.f3, (rd_T73 y137 x5_1).f2.f4, (rd_T73 y137 x5_1).f2.f5, (rd_T73 y137 x5_1).f2.f6⟩ : S42)⟩ : S73) ) (fun _ hk => hk); have hx19_2 := hcc19 2 _ rfl; (try simp only [show (k73).sz = 9 from rfl, Nat.mul_one, Nat.add_zero] at hx19_2); have hf19_2 := hfr19 2; (try simp only [show (k73).sz = 9 from rfl, Nat.mul_one, Nat.add_zero] at hf19_2); clear hcl19 hcc19 hfr19 hM19) | ((with_reducible refine gate_store (t := 2) (p := 33) rfl ?_); refine store_event (t := 2) (p := 33) (v := ?vo_w20) (w1 := (w18.setCell ⟨go5, (x5_1 : Int).toNat * 9 + 2, none⟩ (.int .i64 (wrap64 ((wrap64 (x1_1 + 1)) + 1))))) ?hg ?ho ?hn ?hr ?_; (case ho => rfl); (case hg => rfl); (case hn => rfl); (case hr => first | (go_simp; done) | (go_simp; rfl)); intro w20 hw; have hg : w18.grownBy w20 (some go5) := (by rw [hw]; exact HP19.2); have hp_ : Kd.R k73 73 w20 w0.heap.size (fun k_ => (P0_ k_ ∨ w.heap.size ≤ k_)) (.slice (some ⟨go5, 0, none⟩) x0_1.length co14) y138 := (by rw [hw, Ny138.out]; exact HP19.1); clear HP19; have n0_ := Aside0.mk (hp_); have n1_ := Aside0.mk ((by rw [hw]; exact below_set (HB.out) GB5.out : Below w0.heap.size w0 w20)); have n2_ := Aside0.mk (Kept.of_grown (S := (fun k_ => P0_ k_)) hg (by repeat (first | (with_reducible first | exact HK.out | apply Kept.alloc | apply Kept.drewN | apply Kept.drew) | exact HK.out)) (fun k_ e_ => (HO_0.out.1 k_ e_))); clear HO_0; clear HB; clear HK; have HO_0 := n0_; have HB := n1_; have HK := n2_; clear n0_ n1_ n2_; clear hg hw hp_; have p8 : 0 ≤ (x5_1 : Int) := of_decide_eq_true (by first | (with_reducible assumption) | assumption); have q8 : (x5_1 : Int) < ((x0_1.length : Int) : Int) := of_decide_eq_true (by first | (with_reducible assumption) | assumption); obtain ⟨ce8, hcl8, hM8, hcc8, hfr8⟩ := Kd.R_elem HO_0.out z73 (x5_1 : Int) p8 q8; obtain rfl := k73_openM hM8; have hx8_0 : w20.cell? ⟨go5, (x5_1 : Int).toNat * 9, none⟩ = some (.int .i64 ((rd_T73 y138 x5_1).f0)) := hcc8 0 _ rfl; have hx8_1 : w20.cell? ⟨go5, (x5_1 : Int).toNat * 9 + 1, none⟩ = some (.bool ((rd_T73 y138 x5_1).f1)) := hcc8 1 _ rfl; have hx8_2 : w20.cell? ⟨go5, (x5_1 : Int).toNat * 9 + 2, none⟩ = some (.int .i64 ((rd_T73 y138 x5_1).f2.f0)) := hcc8 2 _ rfl; have hx8_3 : w20.cell? ⟨go5, (x5_1 : Int).toNat * 9 + 3, none⟩ = some (.int .i64 ((rd_T73 y138 x5_1).f2.f1)) := hcc8 3 _ rfl; have hx8_4 : w20.cell? ⟨go5, (x5_1 : Int).toNat * 9 + 4, none⟩ = some (.int .i64 ((rd_T73 y138 x5_1).f2.f2)) := hcc8 4 _ rfl; have hx8_5 : w20.cell? ⟨go5, (x5_1 : Int).toNat * 9 + 5, none⟩ = some (.int .i64 ((rd_T73 y138 x5_1).f2.f3)) := hcc8 5 _ rfl; have hx8_6 : w20.cell? ⟨go5, (x5_1 : Int).toNat * 9 + 6, none⟩ = some (.int .i64 ((rd_T73 y138 x5_1).f2.f4)) := hcc8 6 _ rfl; have hx8_7 : w20.cell? ⟨go5, (x5_1 : Int).toNat * 9 + 7, none⟩ = some (.int .i64 ((rd_T73 y138 x5_1).f2.f5)) := hcc8 7 _ rfl; have hx8_8 : w20.cell? ⟨go5, (x5_1 : Int).toNat * 9 + 8, none⟩ = some (.bool ((rd_T73 y138 x5_1).f2.f6)) := hcc8 8 _ rfl; have hf8_0 : w20.frozen? ⟨go5, (x5_1 : Int).toNat * 9, none⟩ = false := hfr8 0; have hf8_1 : w20.frozen? ⟨go5, (x5_1 : Int).toNat * 9 + 1, none⟩ = false := hfr8 1; have hf8_2 : w20.frozen? ⟨go5, (x5_1 : Int).toNat * 9 + 2, none⟩ = false := hfr8 2; have hf8_3 : w20.frozen? ⟨go5, (x5_1 : Int).toNat * 9 + 3, none⟩ = false := hfr8 3; have hf8_4 : w20.frozen? ⟨go5, (x5_1 : Int).toNat * 9 + 4, none⟩ = false := hfr8 4; have hf8_5 : w20.frozen? ⟨go5, (x5_1 : Int).toNat * 9 + 5, none⟩ = false := hfr8 5; have hf8_6 : w20.frozen? ⟨go5, (x5_1 : Int).toNat * 9 + 6, none⟩ = false := hfr8 6; have hf8_7 : w20.frozen? ⟨go5, (x5_1 : Int).toNat * 9 + 7, none⟩ = false := hfr8 7; have hf8_8 : w20.frozen? ⟨go5, (x5_1 : Int).toNat * 9 + 8, none⟩ = false := hfr8 8; clear hcl8 hcc8 hfr8 hM8; replace p8 := eq_true p8; replace q8 := eq_true q8; have HX21 := Aside0.mk (show Kd.R k73 73 w20 w0.heap.size (fun k_ => (P0_ k_ ∨ w.heap.size ≤ k_)) (.slice (some ⟨go5, 0, none⟩) x0_1.length co14) y138 from (by (with_reducible repeat (first | apply Kd.R_alloc | apply Kd.R_drewN | apply Kd.R_drew)); exact HO_0.out)); obtain ⟨ce21, hcl21, hM21, hcc21, hfr21⟩ := Kd.R_elem HX21.out z73 (x5_1 : Int) (of_decide_eq_true (by first | (with_reducible assumption) | assumption)) (by have h_ : (x5_1 : Int) < ((x0_1.length : Int) : Int) := of_decide_eq_true (by first | (with_reducible assumption) | assumption); first | exact h_ | (have e_ := (Kd.R_reads' HO_0.out).1; omega) | simpa using h_); obtain rfl := k73_openM hM21; have HP21 := Kd.R_seg HX21.out (x5_1 : Int) (of_decide_eq_true (by first | (with_reducible assumption) | assumption)) (by have h_ : (x5_1 : Int) < ((x0_1.length : Int) : Int) := of_decide_eq_true (by first | (with_reducible assumption) | assumption); first | exact h_ | (have e_ := (Kd.R_reads' HO_0.out).1; omega) | simpa using h_) (seg := [.int .i64 (wrap64 ((wrap64 ((wrap64 (x1_1 + 1)) + 1)) + 1))]) (j := 3) hcl21 hcc21 (show 4 ≤ 9 from by decide) (x' := (⟨(rd_T73 y138 x5_1).f0, (rd_T73 y138 x5_1).f1, (⟨(rd_T73 y138 x5_1).f2.f0, wrap64 ((wrap64 ((wrap64 (x1_1 + 1)) + 1)) + 1), (rd_T73 y138 x5_1).f2.f2, (rd_T73 y138 x5_1).f2.f3, (rd_T73 y138 x5_1).f2.f4, (rd_T73 y138 x5_1).f2.f5, (rd_T73 y138 x5_1).f2.f6⟩ : S42)⟩ : S73)) (k73_mkM _ _ _ (⟨(rd_T73 y138 x5_1).f0, (rd_T73 y138 x5_1).f1, (⟨(rd_T73 y138 x5_1).f2.f0, wrap64 ((wrap64 ((wrap64 (x1_1 + 1)) + 1)) + 1), (rd_T73 y138 x5_1).f2.f2, (rd_T73 y138 x5_1).f2.f3, (rd_T73 y138 x5_1).f2.f4, (rd_T73 y138 x5_1).f2.f5, (rd_T73 y138 x5_1).f2.f6⟩ : S42)⟩ : S73) ) (fun _ hk => hk); have hx21_3 := hcc21 3 _ rfl; (try simp only [show (k73).sz = 9 from rfl, Nat.mul_one, Nat.add_zero] at hx21_3); have hf21_3 := hfr21 3; (try simp only [show (k73).sz = 9 from rfl, Nat.mul_one, Nat.add_zero] at hf21_3); clear hcl21 hcc21 hfr21 hM21) | ((with_reducible refine gate_store (t := 2) (p := 41) rfl ?_); refine store_event (t := 2) (p := 41) (v := ?vo_w22) (w1 := (w20.setCell ⟨go5, (x5_1 : Int).toNat * 9 + 3, none⟩ (.int .i64 (wrap64 ((wrap64 ((wrap64 (x1_1 + 1)) + 1)) + 1))))) ?hg ?ho ?hn ?hr ?_; (case ho => rfl); (case hg => rfl); (case hn => rfl); (case hr => first | (go_simp; done) | (go_simp; rfl)); intro w22 hw; have hg : w20.grownBy w22 (some go5) := (by rw [hw]; exact HP21.2); have hp_ : Kd.R k73 73 w22 w0.heap.size (fun k_ => (P0_ k_ ∨ w.heap.size ≤ k_)) (.slice (some ⟨go5, 0, none⟩) x0_1.length co14) y139 := (by rw [hw, Ny139.out]; exact HP21.1); clear HP21; have n0_ := Aside0.mk (hp_); have n1_ := Aside0.mk ((by rw [hw]; exact below_set (HB.out) GB5.out : Below w0.heap.size w0 w22)); have n2_ := Aside0.mk (Kept.of_grown (S := (fun k_ => P0_ k_)) hg (by repeat (first | (with_reducible first | exact HK.out | apply Kept.alloc | apply Kept.drewN | apply Kept.drew) | exact HK.out)) (fun k_ e_ => (HO_0.out.1 k_ e_))); clear HO_0; clear HB; clear HK; have HO_0 := n0_; have HB := n1_; have HK := n2_; clear n0_ n1_ n2_; clear hg hw hp_; have p9 : 0 ≤ (x5_1 : Int) := of_decide_eq_true (by first | (with_reducible assumption) | assumption); have q9 : (x5_1 : Int) < ((x0_1.length : Int) : Int) := of_decide_eq_true (by first | (with_reducible assumption) | assumption); obtain ⟨ce9, hcl9, hM9, hcc9, hfr9⟩ := Kd.R_elem HO_0.out z73 (x5_1 : Int) p9 q9; obtain rfl := k73_openM hM9; have hx9_0 : w22.cell? ⟨go5, (x5_1 : Int).toNat * 9, none⟩ = some (.int .i64 ((rd_T73 y139 x5_1).f0)) := hcc9 0 _ rfl; have hx9_1 : w22.cell? ⟨go5, (x5_1 : Int).toNat * 9 + 1, none⟩ = some (.bool ((rd_T73 y139 x5_1).f1)) := hcc9 1 _ rfl; have hx9_2 : w22.cell? ⟨go5, (x5_1 : Int).toNat * 9 + 2, none⟩ = some (.int .i64 ((rd_T73 y139 x5_1).f2.f0)) := hcc9 2 _ rfl; have hx9_3 : w22.cell? ⟨go5, (x5_1 : Int).toNat * 9 + 3, none⟩ = some (.int .i64 ((rd_T73 y139 x5_1).f2.f1)) := hcc9 3 _ rfl; have hx9_4 : w22.cell? ⟨go5, (x5_1 : Int).toNat * 9 + 4, none⟩ = some (.int .i64 ((rd_T73 y139 x5_1).f2.f2)) := hcc9 4 _ rfl; have hx9_5 : w22.cell? ⟨go5, (x5_1 : Int).toNat * 9 + 5, none⟩ = some (.int .i64 ((rd_T73 y139 x5_1).f2.f3)) := hcc9 5 _ rfl; have hx9_6 : w22.cell? ⟨go5, (x5_1 : Int).toNat * 9 + 6, none⟩ = some (.int .i64 ((rd_T73 y139 x5_1).f2.f4)) := hcc9 6 _ rfl; have hx9_7 : w22.cell? ⟨go5, (x5_1 : Int).toNat * 9 + 7, none⟩ = some (.int .i64 ((rd_T73 y139 x5_1).f2.f5)) := hcc9 7 _ rfl; have hx9_8 : w22.cell? ⟨go5, (x5_1 : Int).toNat * 9 + 8, none⟩ = some (.bool ((rd_T73 y139 x5_1).f2.f6)) := hcc9 8 _ rfl; have hf9_0 : w22.frozen? ⟨go5, (x5_1 : Int).toNat * 9, none⟩ = false := hfr9 0; have hf9_1 : w22.frozen? ⟨go5, (x5_1 : Int).toNat * 9 + 1, none⟩ = false := hfr9 1; have hf9_2 : w22.frozen? ⟨go5, (x5_1 : Int).toNat * 9 + 2, none⟩ = false := hfr9 2; have hf9_3 : w22.frozen? ⟨go5, (x5_1 : Int).toNat * 9 + 3, none⟩ = false := hfr9 3; have hf9_4 : w22.frozen? ⟨go5, (x5_1 : Int).toNat * 9 + 4, none⟩ = false := hfr9 4; have hf9_5 : w22.frozen? ⟨go5, (x5_1 : Int).toNat * 9 + 5, none⟩ = false := hfr9 5; have hf9_6 : w22.frozen? ⟨go5, (x5_1 : Int).toNat * 9 + 6, none⟩ = false := hfr9 6; have hf9_7 : w22.frozen? ⟨go5, (x5_1 : Int).toNat * 9 + 7, none⟩ = false := hfr9 7; have hf9_8 : w22.frozen? ⟨go5, (x5_1 : Int).toNat * 9 + 8, none⟩ = false := hfr9 8; clear hcl9 hcc9 hfr9 hM9; replace p9 := eq_true p9; replace q9 := eq_true q9; have HX23 := Aside0.mk (show Kd.R k73 73 w22 w0.heap.size (fun k_ => (P0_ k_ ∨ w.heap.size ≤ k_)) (.slice (some ⟨go5, 0, none⟩) x0_1.length co14) y139 from (by (with_reducible repeat (first | apply Kd.R_alloc | apply Kd.R_drewN | apply Kd.R_drew)); exact HO_0.out)); obtain ⟨ce23, hcl23, hM23, hcc23, hfr23⟩ := Kd.R_elem HX23.out z73 (x5_1 : Int) (of_decide_eq_true (by first | (with_reducible assumption) | assumption)) (by have h_ : (x5_1 : Int) < ((x0_1.length : Int) : Int) := of_decide_eq_true (by first | (with_reducible assumption) | assumption); first | exact h_ | (have e_ := (Kd.R_reads' HO_0.out).1; omega) | simpa using h_); obtain rfl := k73_openM hM23; have HP23 := Kd.R_seg HX23.out (x5_1 : Int) (of_decide_eq_true (by first | (with_reducible assumption) | assumption)) (by have h_ : (x5_1 : Int) < ((x0_1.length : Int) : Int) := of_decide_eq_true (by first | (with_reducible assumption) | assumption); first | exact h_ | (have e_ := (Kd.R_reads' HO_0.out).1; omega) | simpa using h_) (seg := [.int .i64 (wrap64 ((wrap64 ((wrap64 ((wrap64 (x1_1 + 1)) + 1)) + 1)) + 1))]) (j := 4) hcl23 hcc23 (show 5 ≤ 9 from by decide) (x' := (⟨(rd_T73 y139 x5_1).f0, (rd_T73 y139 x5_1).f1, (⟨(rd_T73 y139 x5_1).f2.f0, (rd_T73 y139 x5_1).f2.f1, wrap64 ((wrap64 ((wrap64 ((wrap64 (x1_1 + 1)) + 1)) + 1)) + 1), (rd_T73 y139 x5_1).f2.f3, (rd_T73 y139 x5_1).f2.f4, (rd_T73 y139 x5_1).f2.f5, (rd_T73 y139 x5_1).f2.f6⟩ : S42)⟩ : S73)) (k73_mkM _ _ _ (⟨(rd_T73 y139 x5_1).f0, (rd_T73 y139 x5_1).f1, (⟨(rd_T73 y139 x5_1).f2.f0, (rd_T73 y139 x5_1).f2.f1, wrap64 ((wrap64 ((wrap64 ((wrap64 (x1_1 + 1)) + 1)) + 1)) + 1), (rd_T73 y139 x5_1).f2.f3, (rd_T73 y139 x5_1).f2.f4, (rd_T73 y139 x5_1).f2.f5, (rd_T73 y139 x5_1).f2.f6⟩ : S42)⟩ : S73) ) (fun _ hk => hk); have hx23_4 := hcc23 4 _ rfl; (try simp only [show (k73).sz = 9 from rfl, Nat.mul_one, Nat.add_zero] at hx23_4); have hf23_4 := hfr23 4; (try simp only [show (k73).sz = 9 from rfl, Nat.mul_one, Nat.add_zero] at hf23_4); clear hcl23 hcc23 hfr23 hM23) | ((with_reducible refine gate_store (t := 2) (p := 49) rfl ?_); refine store_event (t := 2) (p := 49) (v := ?vo_w24) (w1 := (w22.setCell ⟨go5, (x5_1 : Int).toNat * 9 + 4, none⟩ (.int .i64 (wrap64 ((wrap64 ((wrap64 ((wrap64 (x1_1 + 1)) + 1)) + 1)) + 1))))) ?hg ?ho ?hn ?hr ?_; (case ho => rfl); (case hg => rfl); (case hn => rfl); (case hr => first | (go_simp; done) | (go_simp; rfl)); intro w24 hw; have hg : w22.grownBy w24 (some go5) := (by rw [hw]; exact HP23.2); have hp_ : Kd.R k73 73 w24 w0.heap.size (fun k_ => (P0_ k_ ∨ w.heap.size ≤ k_)) (.slice (some ⟨go5, 0, none⟩) x0_1.length co14) y140 := (by rw [hw, Ny140.out]; exact HP23.1); clear HP23; have n0_ := Aside0.mk (hp_); have n1_ := Aside0.mk ((by rw [hw]; exact below_set (HB.out) GB5.out : Below w0.heap.size w0 w24)); have n2_ := Aside0.mk (Kept.of_grown (S := (fun k_ => P0_ k_)) hg (by repeat (first | (with_reducible first | exact HK.out | apply Kept.alloc | apply Kept.drewN | apply Kept.drew) | exact HK.out)) (fun k_ e_ => (HO_0.out.1 k_ e_))); clear HO_0; clear HB; clear HK; have HO_0 := n0_; have HB := n1_; have HK := n2_; clear n0_ n1_ n2_; clear hg hw hp_; have p10 : 0 ≤ (x5_1 : Int) := of_decide_eq_true (by first | (with_reducible assumption) | assumption); have q10 : (x5_1 : Int) < ((x0_1.length : Int) : Int) := of_decide_eq_true (by first | (with_reducible assumption) | assumption); obtain ⟨ce10, hcl10, hM10, hcc10, hfr10⟩ := Kd.R_elem HO_0.out z73 (x5_1 : Int) p10 q10; obtain rfl := k73_openM hM10; have hx10_0 : w24.cell? ⟨go5, (x5_1 : Int).toNat * 9, none⟩ = some (.int .i64 ((rd_T73 y140 x5_1).f0)) := hcc10 0 _ rfl; have hx10_1 : w24.cell? ⟨go5, (x5_1 : Int).toNat * 9 + 1, none⟩ = some (.bool ((rd_T73 y140 x5_1).f1)) := hcc10 1 _ rfl; have hx10_2 : w24.cell? ⟨go5, (x5_1 : Int).toNat * 9 + 2, none⟩ = some (.int .i64 ((rd_T73 y140 x5_1).f2.f0)) := hcc10 2 _ rfl; have hx10_3 : w24.cell? ⟨go5, (x5_1 : Int).toNat * 9 + 3, none⟩ = some (.int .i64 ((rd_T73 y140 x5_1).f2.f1)) := hcc10 3 _ rfl; have hx10_4 : w24.cell? ⟨go5, (x5_1 : Int).toNat * 9 + 4, none⟩ = some (.int .i64 ((rd_T73 y140 x5_1).f2.f2)) := hcc10 4 _ rfl; have hx10_5 : w24.cell? ⟨go5, (x5_1 : Int).toNat * 9 + 5, none⟩ = some (.int .i64 ((rd_T73 y140 x5_1).f2.f3)) := hcc10 5 _ rfl; have hx10_6 : w24.cell? ⟨go5, (x5_1 : Int).toNat * 9 + 6, none⟩ = some (.int .i64 ((rd_T73 y140 x5_1).f2.f4)) := hcc10 6 _ rfl; have hx10_7 : w24.cell? ⟨go5, (x5_1 : Int).toNat * 9 + 7, none⟩ = some (.int .i64 ((rd_T73 y140 x5_1).f2.f5)) := hcc10 7 _ rfl; have hx10_8 : w24.cell? ⟨go5, (x5_1 : Int).toNat * 9 + 8, none⟩ = some (.bool ((rd_T73 y140 x5_1).f2.f6)) := hcc10 8 _ rfl; have hf10_0 : w24.frozen? ⟨go5, (x5_1 : Int).toNat * 9, none⟩ = false := hfr10 0; have hf10_1 : w24.frozen? ⟨go5, (x5_1 : Int).toNat * 9 + 1, none⟩ = false := hfr10 1; have hf10_2 : w24.frozen? ⟨go5, (x5_1 : Int).toNat * 9 + 2, none⟩ = false := hfr10 2; have hf10_3 : w24.frozen? ⟨go5, (x5_1 : Int).toNat * 9 + 3, none⟩ = false := hfr10 3; have hf10_4 : w24.frozen? ⟨go5, (x5_1 : Int).toNat * 9 + 4, none⟩ = false := hfr10 4; have hf10_5 : w24.frozen? ⟨go5, (x5_1 : Int).toNat * 9 + 5, none⟩ = false := hfr10 5; have hf10_6 : w24.frozen? ⟨go5, (x5_1 : Int).toNat * 9 + 6, none⟩ = false := hfr10 6; have hf10_7 : w24.frozen? ⟨go5, (x5_1 : Int).toNat * 9 + 7, none⟩ = false := hfr10 7; have hf10_8 : w24.frozen? ⟨go5, (x5_1 : Int).toNat * 9 + 8, none⟩ = false := hfr10 8; clear hcl10 hcc10 hfr10 hM10; replace p10 := eq_true p10; replace q10 := eq_true q10; have HX25 := Aside0.mk (show Kd.R k73 73 w24 w0.heap.size (fun k_ => (P0_ k_ ∨ w.heap.size ≤ k_)) (.slice (some ⟨go5, 0, none⟩) x0_1.length co14) y140 from (by (with_reducible repeat (first | apply Kd.R_alloc | apply Kd.R_drewN | apply Kd.R_drew)); exact HO_0.out)); obtain ⟨ce25, hcl25, hM25, hcc25, hfr25⟩ := Kd.R_elem HX25.out z73 (x5_1 : Int) (of_decide_eq_true (by first | (with_reducible assumption) | assumption)) (by have h_ : (x5_1 : Int) < ((x0_1.length : Int) : Int) := of_decide_eq_true (by first | (with_reducible assumption) | assumption); first | exact h_ | (have e_ := (Kd.R_reads' HO_0.out).1; omega) | simpa using h_); obtain rfl := k73_openM hM25; have HP25 := Kd.R_seg HX25.out (x5_1 : Int) (of_decide_eq_true (by first | (with_reducible assumption) | assumption)) (by have h_ : (x5_1 : Int) < ((x0_1.length : Int) : Int) := of_decide_eq_true (by first | (with_reducible assumption) | assumption); first | exact h_ | (have e_ := (Kd.R_reads' HO_0.out).1; omega) | simpa using h_) (seg := [.int .i64 (wrap64 ((wrap64 ((wrap64 ((wrap64 ((wrap64 (x1_1 + 1)) + 1)) + 1)) + 1)) + 1))]) (j := 5) hcl25 hcc25 (show 6 ≤ 9 from by decide) (x' := (⟨(rd_T73 y140 x5_1).f0, (rd_T73 y140 x5_1).f1, (⟨(rd_T73 y140 x5_1).f2.f0, (rd_T73 y140 x5_1).f2.f1, (rd_T73 y140 x5_1).f2.f2, wrap64 ((wrap64 ((wrap64 ((wrap64 ((wrap64 (x1_1 + 1)) + 1)) + 1)) + 1)) + 1), (rd_T73 y140 x5_1).f2.f4, (rd_T73 y140 x5_1).f2.f5, (rd_T73 y140 x5_1).f2.f6⟩ : S42)⟩ : S73)) (k73_mkM _ _ _ (⟨(rd_T73 y140 x5_1).f0, (rd_T73 y140 x5_1).f1, (⟨(rd_T73 y140 x5_1).f2.f0, (rd_T73 y140 x5_1).f2.f1, (rd_T73 y140 x5_1).f2.f2, wrap64 ((wrap64 ((wrap64 ((wrap64 ((wrap64 (x1_1 + 1)) + 1)) + 1)) + 1)) + 1), (rd_T73 y140 x5_1).f2.f4, (rd_T73 y140 x5_1).f2.f5, (rd_T73 y140 x5_1).f2.f6⟩ : S42)⟩ : S73) ) (fun _ hk => hk); have hx25_5 := hcc25 5 _ rfl; (try simp only [show (k73).sz = 9 from rfl, Nat.mul_one, Nat.add_zero] at hx25_5); have hf25_5 := hfr25 5; (try simp only [show (k73).sz = 9 from rfl, Nat.mul_one, Nat.add_zero] at hf25_5); clear hcl25 hcc25 hfr25 hM25) | ((with_reducible refine gate_store (t := 2) (p := 57) rfl ?_); refine store_event (t := 2) (p := 57) (v := ?vo_w26) (w1 := (w24.setCell ⟨go5, (x5_1 : Int).toNat * 9 + 5, none⟩ (.int .i64 (wrap64 ((wrap64 ((wrap64 ((wrap64 ((wrap64 (x1_1 + 1)) + 1)) + 1)) + 1)) + 1))))) ?hg ?ho ?hn ?hr ?_; (case ho => rfl); (case hg => rfl); (case hn => rfl); (case hr => first | (go_simp; done) | (go_simp; rfl)); intro w26 hw; have hg : w24.grownBy w26 (some go5) := (by rw [hw]; exact HP25.2); have hp_ : Kd.R k73 73 w26 w0.heap.size (fun k_ => (P0_ k_ ∨ w.heap.size ≤ k_)) (.slice (some ⟨go5, 0, none⟩) x0_1.length co14) y141 := (by rw [hw, Ny141.out]; exact HP25.1); clear HP25; have n0_ := Aside0.mk (hp_); have n1_ := Aside0.mk ((by rw [hw]; exact below_set (HB.out) GB5.out : Below w0.heap.size w0 w26)); have n2_ := Aside0.mk (Kept.of_grown (S := (fun k_ => P0_ k_)) hg (by repeat (first | (with_reducible first | exact HK.out | apply Kept.alloc | apply Kept.drewN | apply Kept.drew) | exact HK.out)) (fun k_ e_ => (HO_0.out.1 k_ e_))); clear HO_0; clear HB; clear HK; have HO_0 := n0_; have HB := n1_; have HK := n2_; clear n0_ n1_ n2_; clear hg hw hp_; have p11 : 0 ≤ (x5_1 : Int) := of_decide_eq_true (by first | (with_reducible assumption) | assumption); have q11 : (x5_1 : Int) < ((x0_1.length : Int) : Int) := of_decide_eq_true (by first | (with_reducible assumption) | assumption); obtain ⟨ce11, hcl11, hM11, hcc11, hfr11⟩ := Kd.R_elem HO_0.out z73 (x5_1 : Int) p11 q11; obtain rfl := k73_openM hM11; have hx11_0 : w26.cell? ⟨go5, (x5_1 : Int).toNat * 9, none⟩ = some (.int .i64 ((rd_T73 y141 x5_1).f0)) := hcc11 0 _ rfl; have hx11_1 : w26.cell? ⟨go5, (x5_1 : Int).toNat * 9 + 1, none⟩ = some (.bool ((rd_T73 y141 x5_1).f1)) := hcc11 1 _ rfl; have hx11_2 : w26.cell? ⟨go5, (x5_1 : Int).toNat * 9 + 2, none⟩ = some (.int .i64 ((rd_T73 y141 x5_1).f2.f0)) := hcc11 2 _ rfl; have hx11_3 : w26.cell? ⟨go5, (x5_1 : Int).toNat * 9 + 3, none⟩ = some (.int .i64 ((rd_T73 y141 x5_1).f2.f1)) := hcc11 3 _ rfl; have hx11_4 : w26.cell? ⟨go5, (x5_1 : Int).toNat * 9 + 4, none⟩ = some (.int .i64 ((rd_T73 y141 x5_1).f2.f2)) := hcc11 4 _ rfl; have hx11_5 : w26.cell? ⟨go5, (x5_1 : Int).toNat * 9 + 5, none⟩ = some (.int .i64 ((rd_T73 y141 x5_1).f2.f3)) := hcc11 5 _ rfl; have hx11_6 : w26.cell? ⟨go5, (x5_1 : Int).toNat * 9 + 6, none⟩ = some (.int .i64 ((rd_T73 y141 x5_1).f2.f4)) := hcc11 6 _ rfl; have hx11_7 : w26.cell? ⟨go5, (x5_1 : Int).toNat * 9 + 7, none⟩ = some (.int .i64 ((rd_T73 y141 x5_1).f2.f5)) := hcc11 7 _ rfl; have hx11_8 : w26.cell? ⟨go5, (x5_1 : Int).toNat * 9 + 8, none⟩ = some (.bool ((rd_T73 y141 x5_1).f2.f6)) := hcc11 8 _ rfl; have hf11_0 : w26.frozen? ⟨go5, (x5_1 : Int).toNat * 9, none⟩ = false := hfr11 0; have hf11_1 : w26.frozen? ⟨go5, (x5_1 : Int).toNat * 9 + 1, none⟩ = false := hfr11 1; have hf11_2 : w26.frozen? ⟨go5, (x5_1 : Int).toNat * 9 + 2, none⟩ = false := hfr11 2; have hf11_3 : w26.frozen? ⟨go5, (x5_1 : Int).toNat * 9 + 3, none⟩ = false := hfr11 3; have hf11_4 : w26.frozen? ⟨go5, (x5_1 : Int).toNat * 9 + 4, none⟩ = false := hfr11 4; have hf11_5 : w26.frozen? ⟨go5, (x5_1 : Int).toNat * 9 + 5, none⟩ = false := hfr11 5; have hf11_6 : w26.frozen? ⟨go5, (x5_1 : Int).toNat * 9 + 6, none⟩ = false := hfr11 6; have hf11_7 : w26.frozen? ⟨go5, (x5_1 : Int).toNat * 9 + 7, none⟩ = false := hfr11 7; have hf11_8 : w26.frozen? ⟨go5, (x5_1 : Int).toNat * 9 + 8, none⟩ = false := hfr11 8; clear hcl11 hcc11 hfr11 hM11; replace p11 := eq_true p11; replace q11 := eq_true q11; have HX27 := Aside0.mk (show Kd.R k73 73 w26 w0.heap.size (fun k_ => (P0_ k_ ∨ w.heap.size ≤ k_)) (.slice (some ⟨go5, 0, none⟩) x0_1.length co14) y141 from (by (with_reducible repeat (first | apply Kd.R_alloc | apply Kd.R_drewN | apply Kd.R_drew)); exact HO_0.out)); obtain ⟨ce27, hcl27, hM27, hcc27, hfr27⟩ := Kd.R_elem HX27.out z73 (x5_1 : Int) (of_decide_eq_true (by first | (with_reducible assumption) | assumption)) (by have h_ : (x5_1 : Int) < ((x0_1.length : Int) : Int) := of_decide_eq_true (by first | (with_reducible assumption) | assumption); first | exact h_ | (have e_ := (Kd.R_reads' HO_0.out).1; omega) | simpa using h_); obtain rfl := k73_openM hM27; have HP27 := Kd.R_seg HX27.out (x5_1 : Int) (of_decide_eq_true (by first | (with_reducible assumption) | assumption)) (by have h_ : (x5_1 : Int) < ((x0_1.length : Int) : Int) := of_decide_eq_true (by first | (with_reducible assumption) | assumption); first | exact h_ | (have e_ := (Kd.R_reads' HO_0.out).1; omega) | simpa using h_) (seg := [.int .i64 (wrap64 ((wrap64 ((wrap64 ((wrap64 ((wrap64 ((wrap64 (x1_1 + 1)) + 1)) + 1)) + 1)) + 1)) + 1))]) (j := 6) hcl27 hcc27 (show 7 ≤ 9 from by decide) (x' := (⟨(rd_T73 y141 x5_1).f0, (rd_T73 y141 x5_1).f1, (⟨(rd_T73 y141 x5_1).f2.f0, (rd_T73 y141 x5_1).f2.f1, (rd_T73 y141 x5_1).f2.f2, (rd_T73 y141 x5_1).f2.f3, wrap64 ((wrap64 ((wrap64 ((wrap64 ((wrap64 ((wrap64 (x1_1 + 1)) + 1)) + 1)) + 1)) + 1)) + 1), (rd_T73 y141 x5_1).f2.f5, (rd_T73 y141 x5_1).f2.f6⟩ : S42)⟩ : S73)) (k73_mkM _ _ _ (⟨(rd_T73 y141 x5_1).f0, (rd_T73 y141 x5_1).f1, (⟨(rd_T73 y141 x5_1).f2.f0, (rd_T73 y141 x5_1).f2.f1, (rd_T73 y141 x5_1).f2.f2, (rd_T73 y141 x5_1).f2.f3, wrap64 ((wrap64 ((wrap64 ((wrap64 ((wrap64 ((wrap64 (x1_1 + 1)) + 1)) + 1)) + 1)) + 1)) + 1), (rd_T73 y141 x5_1).f2.f5, (rd_T73 y141 x5_1).f2.f6⟩ : S42)⟩ : S73) ) (fun _ hk => hk); have hx27_6 := hcc27 6 _ rfl; (try simp only [show (k73).sz = 9 from rfl, Nat.mul_one, Nat.add_zero] at hx27_6); have hf27_6 := hfr27 6; (try simp only [show (k73).sz = 9 from rfl, Nat.mul_one, Nat.add_zero] at hf27_6); clear hcl27 hcc27 hfr27 hM27) | ((with_reducible refine gate_store (t := 2) (p := 65) rfl ?_); refine store_event (t := 2) (p := 65) (v := ?vo_w28) (w1 := (w26.setCell ⟨go5, (x5_1 : Int).toNat * 9 + 6, none⟩ (.int .i64 (wrap64 ((wrap64 ((wrap64 ((wrap64 ((wrap64 ((wrap64 (x1_1 + 1)) + 1)) + 1)) + 1)) + 1)) + 1))))) ?hg ?ho ?hn ?hr ?_; (case ho => rfl); (case hg => rfl); (case hn => rfl); (case hr => first | (go_simp; done) | (go_simp; rfl)); intro w28 hw; have hg : w26.grownBy w28 (some go5) := (by rw [hw]; exact HP27.2); have hp_ : Kd.R k73 73 w28 w0.heap.size (fun k_ => (P0_ k_ ∨ w.heap.size ≤ k_)) (.slice (some ⟨go5, 0, none⟩) x0_1.length co14) y142 := (by rw [hw, Ny142.out]; exact HP27.1); clear HP27; have n0_ := Aside0.mk (hp_); have n1_ := Aside0.mk ((by rw [hw]; exact below_set (HB.out) GB5.out : Below w0.heap.size w0 w28)); have n2_ := Aside0.mk (Kept.of_grown (S := (fun k_ => P0_ k_)) hg (by repeat (first | (with_reducible first | exact HK.out | apply Kept.alloc | apply Kept.drewN | apply Kept.drew) | exact HK.out)) (fun k_ e_ => (HO_0.out.1 k_ e_))); clear HO_0; clear HB; clear HK; have HO_0 := n0_; have HB := n1_; have HK := n2_; clear n0_ n1_ n2_; clear hg hw hp_; have p12 : 0 ≤ (x5_1 : Int) := of_decide_eq_true (by first | (with_reducible assumption) | assumption); have q12 : (x5_1 : Int) < ((x0_1.length : Int) : Int) := of_decide_eq_true (by first | (with_reducible assumption) | assumption); obtain ⟨ce12, hcl12, hM12, hcc12, hfr12⟩ := Kd.R_elem HO_0.out z73 (x5_1 : Int) p12 q12; obtain rfl := k73_openM hM12; have hx12_0 : w28.cell? ⟨go5, (x5_1 : Int).toNat * 9, none⟩ = some (.int .i64 ((rd_T73 y142 x5_1).f0)) := hcc12 0 _ rfl; have hx12_1 : w28.cell? ⟨go5, (x5_1 : Int).toNat * 9 + 1, none⟩ = some (.bool ((rd_T73 y142 x5_1).f1)) := hcc12 1 _ rfl; have hx12_2 : w28.cell? ⟨go5, (x5_1 : Int).toNat * 9 + 2, none⟩ = some (.int .i64 ((rd_T73 y142 x5_1).f2.f0)) := hcc12 2 _ rfl; have hx12_3 : w28.cell? ⟨go5, (x5_1 : Int).toNat * 9 + 3, none⟩ = some (.int .i64 ((rd_T73 y142 x5_1).f2.f1)) := hcc12 3 _ rfl; have hx12_4 : w28.cell? ⟨go5, (x5_1 : Int).toNat * 9 + 4, none⟩ = some (.int .i64 ((rd_T73 y142 x5_1).f2.f2)) := hcc12 4 _ rfl; have hx12_5 : w28.cell? ⟨go5, (x5_1 : Int).toNat * 9 + 5, none⟩ = some (.int .i64 ((rd_T73 y142 x5_1).f2.f3)) := hcc12 5 _ rfl; have hx12_6 : w28.cell? ⟨go5, (x5_1 : Int).toNat * 9 + 6, none⟩ = some (.int .i64 ((rd_T73 y142 x5_1).f2.f4)) := hcc12 6 _ rfl; have hx12_7 : w28.cell? ⟨go5, (x5_1 : Int).toNat * 9 + 7, none⟩ = some (.int .i64 ((rd_T73 y142 x5_1).f2.f5)) := hcc12 7 _ rfl; have hx12_8 : w28.cell? ⟨go5, (x5_1 : Int).toNat * 9 + 8, none⟩ = some (.bool ((rd_T73 y142 x5_1).f2.f6)) := hcc12 8 _ rfl; have hf12_0 : w28.frozen? ⟨go5, (x5_1 : Int).toNat * 9, none⟩ = false := hfr12 0; have hf12_1 : w28.frozen? ⟨go5, (x5_1 : Int).toNat * 9 + 1, none⟩ = false := hfr12 1; have hf12_2 : w28.frozen? ⟨go5, (x5_1 : Int).toNat * 9 + 2, none⟩ = false := hfr12 2; have hf12_3 : w28.frozen? ⟨go5, (x5_1 : Int).toNat * 9 + 3, none⟩ = false := hfr12 3; have hf12_4 : w28.frozen? ⟨go5, (x5_1 : Int).toNat * 9 + 4, none⟩ = false := hfr12 4; have hf12_5 : w28.frozen? ⟨go5, (x5_1 : Int).toNat * 9 + 5, none⟩ = false := hfr12 5; have hf12_6 : w28.frozen? ⟨go5, (x5_1 : Int).toNat * 9 + 6, none⟩ = false := hfr12 6; have hf12_7 : w28.frozen? ⟨go5, (x5_1 : Int).toNat * 9 + 7, none⟩ = false := hfr12 7; have hf12_8 : w28.frozen? ⟨go5, (x5_1 : Int).toNat * 9 + 8, none⟩ = false := hfr12 8; clear hcl12 hcc12 hfr12 hM12; replace p12 := eq_true p12; replace q12 := eq_true q12; have HX29 := Aside0.mk (show Kd.R k73 73 w28 w0.heap.size (fun k_ => (P0_ k_ ∨ w.heap.size ≤ k_)) (.slice (some ⟨go5, 0, none⟩) x0_1.length co14) y142 from (by (with_reducible repeat (first | apply Kd.R_alloc | apply Kd.R_drewN | apply Kd.R_drew)); exact HO_0.out)); obtain ⟨ce29, hcl29, hM29, hcc29, hfr29⟩ := Kd.R_elem HX29.out z73 (x5_1 : Int) (of_decide_eq_true (by first | (with_reducible assumption) | assumption)) (by have h_ : (x5_1 : Int) < ((x0_1.length : Int) : Int) := of_decide_eq_true (by first | (with_reducible assumption) | assumption); first | exact h_ | (have e_ := (Kd.R_reads' HO_0.out).1; omega) | simpa using h_); obtain rfl := k73_openM hM29; have HP29 := Kd.R_seg HX29.out (x5_1 : Int) (of_decide_eq_true (by first | (with_reducible assumption) | assumption)) (by have h_ : (x5_1 : Int) < ((x0_1.length : Int) : Int) := of_decide_eq_true (by first | (with_reducible assumption) | assumption); first | exact h_ | (have e_ := (Kd.R_reads' HO_0.out).1; omega) | simpa using h_) (seg := [.int .i64 (wrap64 ((wrap64 ((wrap64 ((wrap64 ((wrap64 ((wrap64 ((wrap64 (x1_1 + 1)) + 1)) + 1)) + 1)) + 1)) + 1)) + 1))]) (j := 7) hcl29 hcc29 (show 8 ≤ 9 from by decide) (x' := (⟨(rd_T73 y142 x5_1).f0, (rd_T73 y142 x5_1).f1, (⟨(rd_T73 y142 x5_1).f2.f0, (rd_T73 y142 x5_1).f2.f1, (rd_T73 y142 x5_1).f2.f2, (rd_T73 y142 x5_1).f2.f3, (rd_T73 y142 x5_1).f2.f4, wrap64 ((wrap64 ((wrap64 ((wrap64 ((wrap64 ((wrap64 ((wrap64 (x1_1 + 1)) + 1)) + 1)) + 1)) + 1)) + 1)) + 1), (rd_T73 y142 x5_1).f2.f6⟩ : S42)⟩ : S73)) (k73_mkM _ _ _ (⟨(rd_T73 y142 x5_1).f0, (rd_T73 y142 x5_1).f1, (⟨(rd_T73 y142 x5_1).f2.f0, (rd_T73 y142 x5_1).f2.f1, (rd_T73 y142 x5_1).f2.f2, (rd_T73 y142 x5_1).f2.f3, (rd_T73 y142 x5_1).f2.f4, wrap64 ((wrap64 ((wrap64 ((wrap64 ((wrap64 ((wrap64 ((wrap64 (x1_1 + 1)) + 1)) + 1)) + 1)) + 1)) + 1)) + 1), (rd_T73 y142 x5_1).f2.f6⟩ : S42)⟩ : S73) ) (fun _ hk => hk); have hx29_7 := hcc29 7 _ rfl; (try simp only [show (k73).sz = 9 from rfl, Nat.mul_one, Nat.add_zero] at hx29_7); have hf29_7 := hfr29 7; (try simp only [show (k73).sz = 9 from rfl, Nat.mul_one, Nat.add_zero] at hf29_7); clear hcl29 hcc29 hfr29 hM29) | ((with_reducible refine gate_store (t := 2) (p := 73) rfl ?_); refine store_event (t := 2) (p := 73) (v := ?vo_w30) (w1 := (w28.setCell ⟨go5, (x5_1 : Int).toNat * 9 + 7, none⟩ (.int .i64 (wrap64 ((wrap64 ((wrap64 ((wrap64 ((wrap64 ((wrap64 ((wrap64 (x1_1 + 1)) + 1)) + 1)) + 1)) + 1)) + 1)) + 1))))) ?hg ?ho ?hn ?hr ?_; (case ho => rfl); (case hg => rfl); (case hn => rfl); (case hr => first | (go_simp; done) | (go_simp; rfl)); intro w30 hw; have hg : w28.grownBy w30 (some go5) := (by rw [hw]; exact HP29.2); have hp_ : Kd.R k73 73 w30 w0.heap.size (fun k_ => (P0_ k_ ∨ w.heap.size ≤ k_)) (.slice (some ⟨go5, 0, none⟩) x0_1.length co14) y143 := (by rw [hw, Ny143.out]; exact HP29.1); clear HP29; have n0_ := Aside0.mk (hp_); have n1_ := Aside0.mk ((by rw [hw]; exact below_set (HB.out) GB5.out : Below w0.heap.size w0 w30)); have n2_ := Aside0.mk (Kept.of_grown (S := (fun k_ => P0_ k_)) hg (by repeat (first | (with_reducible first | exact HK.out | apply Kept.alloc | apply Kept.drewN | apply Kept.drew) | exact HK.out)) (fun k_ e_ => (HO_0.out.1 k_ e_))); clear HO_0; clear HB; clear HK; have HO_0 := n0_; have HB := n1_; have HK := n2_; clear n0_ n1_ n2_; clear hg hw hp_; have p13 : 0 ≤ (x5_1 : Int) := of_decide_eq_true (by first | (with_reducible assumption) | assumption); have q13 : (x5_1 : Int) < ((x0_1.length : Int) : Int) := of_decide_eq_true (by first | (with_reducible assumption) | assumption); obtain ⟨ce13, hcl13, hM13, hcc13, hfr13⟩ := Kd.R_elem HO_0.out z73 (x5_1 : Int) p13 q13; obtain rfl := k73_openM hM13; have hx13_0 : w30.cell? ⟨go5, (x5_1 : Int).toNat * 9, none⟩ = some (.int .i64 ((rd_T73 y143 x5_1).f0)) := hcc13 0 _ rfl; have hx13_1 : w30.cell? ⟨go5, (x5_1 : Int).toNat * 9 + 1, none⟩ = some (.bool ((rd_T73 y143 x5_1).f1)) := hcc13 1 _ rfl; have hx13_2 : w30.cell? ⟨go5, (x5_1 : Int).toNat * 9 + 2, none⟩ = some (.int .i64 ((rd_T73 y143 x5_1).f2.f0)) := hcc13 2 _ rfl; have hx13_3 : w30.cell? ⟨go5, (x5_1 : Int).toNat * 9 + 3, none⟩ = some (.int .i64 ((rd_T73 y143 x5_1).f2.f1)) := hcc13 3 _ rfl; have hx13_4 : w30.cell? ⟨go5, (x5_1 : Int).toNat * 9 + 4, none⟩ = some (.int .i64 ((rd_T73 y143 x5_1).f2.f2)) := hcc13 4 _ rfl; have hx13_5 : w30.cell? ⟨go5, (x5_1 : Int).toNat * 9 + 5, none⟩ = some (.int .i64 ((rd_T73 y143 x5_1).f2.f3)) := hcc13 5 _ rfl; have hx13_6 : w30.cell? ⟨go5, (x5_1 : Int).toNat * 9 + 6, none⟩ = some (.int .i64 ((rd_T73 y143 x5_1).f2.f4)) := hcc13 6 _ rfl; have hx13_7 : w30.cell? ⟨go5, (x5_1 : Int).toNat * 9 + 7, none⟩ = some (.int .i64 ((rd_T73 y143 x5_1).f2.f5)) := hcc13 7 _ rfl; have hx13_8 : w30.cell? ⟨go5, (x5_1 : Int).toNat * 9 + 8, none⟩ = some (.bool ((rd_T73 y143 x5_1).f2.f6)) := hcc13 8 _ rfl; have hf13_0 : w30.frozen? ⟨go5, (x5_1 : Int).toNat * 9, none⟩ = false := hfr13 0; have hf13_1 : w30.frozen? ⟨go5, (x5_1 : Int).toNat * 9 + 1, none⟩ = false := hfr13 1; have hf13_2 : w30.frozen? ⟨go5, (x5_1 : Int).toNat * 9 + 2, none⟩ = false := hfr13 2; have hf13_3 : w30.frozen? ⟨go5, (x5_1 : Int).toNat * 9 + 3, none⟩ = false := hfr13 3; have hf13_4 : w30.frozen? ⟨go5, (x5_1 : Int).toNat * 9 + 4, none⟩ = false := hfr13 4; have hf13_5 : w30.frozen? ⟨go5, (x5_1 : Int).toNat * 9 + 5, none⟩ = false := hfr13 5; have hf13_6 : w30.frozen? ⟨go5, (x5_1 : Int).toNat * 9 + 6, none⟩ = false := hfr13 6; have hf13_7 : w30.frozen? ⟨go5, (x5_1 : Int).toNat * 9 + 7, none⟩ = false := hfr13 7; have hf13_8 : w30.frozen? ⟨go5, (x5_1 : Int).toNat * 9 + 8, none⟩ = false := hfr13 8; clear hcl13 hcc13 hfr13 hM13; replace p13 := eq_true p13; replace q13 := eq_true q13; have HX31 := Aside0.mk (show Kd.R k73 73 w30 w0.heap.size (fun k_ => (P0_ k_ ∨ w.heap.size ≤ k_)) (.slice (some ⟨go5, 0, none⟩) x0_1.length co14) y143 from (by (with_reducible repeat (first | apply Kd.R_alloc | apply Kd.R_drewN | apply Kd.R_drew)); exact HO_0.out)); obtain ⟨ce31, hcl31, hM31, hcc31, hfr31⟩ := Kd.R_elem HX31.out z73 (x5_1 : Int) (of_decide_eq_true (by first | (with_reducible assumption) | assumption)) (by have h_ : (x5_1 : Int) < ((x0_1.length : Int) : Int) := of_decide_eq_true (by first | (with_reducible assumption) | assumption); first | exact h_ | (have e_ := (Kd.R_reads' HO_0.out).1; omega) | simpa using h_); obtain rfl := k73_openM hM31; have HP31 := Kd.R_seg HX31.out (x5_1 : Int) (of_decide_eq_true (by first | (with_reducible assumption) | assumption)) (by have h_ : (x5_1 : Int) < ((x0_1.length : Int) : Int) := of_decide_eq_true (by first | (with_reducible assumption) | assumption); first | exact h_ | (have e_ := (Kd.R_reads' HO_0.out).1; omega) | simpa using h_) (seg := [.bool ((Int.tmod (wrap64 ((wrap64 ((wrap64 ((wrap64 ((wrap64 ((wrap64 ((wrap64 ((wrap64 (x1_1 + 1)) + 1)) + 1)) + 1)) + 1)) + 1)) + 1)) + 1)) 3) == 0)]) (j := 8) hcl31 hcc31 (show 9 ≤ 9 from by decide) (x' := (⟨(rd_T73 y143 x5_1).f0, (rd_T73 y143 x5_1).f1, (⟨(rd_T73 y143 x5_1).f2.f0, (rd_T73 y143 x5_1).f2.f1, (rd_T73 y143 x5_1).f2.f2, (rd_T73 y143 x5_1).f2.f3, (rd_T73 y143 x5_1).f2.f4, (rd_T73 y143 x5_1).f2.f5, ((Int.tmod (wrap64 ((wrap64 ((wrap64 ((wrap64 ((wrap64 ((wrap64 ((wrap64 ((wrap64 (x1_1 + 1)) + 1)) + 1)) + 1)) + 1)) + 1)) + 1)) + 1)) 3) == 0)⟩ : S42)⟩ : S73)) (k73_mkM _ _ _ (⟨(rd_T73 y143 x5_1).f0, (rd_T73 y143 x5_1).f1, (⟨(rd_T73 y143 x5_1).f2.f0, (rd_T73 y143 x5_1).f2.f1, (rd_T73 y143 x5_1).f2.f2, (rd_T73 y143 x5_1).f2.f3, (rd_T73 y143 x5_1).f2.f4, (rd_T73 y143 x5_1).f2.f5, ((Int.tmod (wrap64 ((wrap64 ((wrap64 ((wrap64 ((wrap64 ((wrap64 ((wrap64 ((wrap64 (x1_1 + 1)) + 1)) + 1)) + 1)) + 1)) + 1)) + 1)) + 1)) 3) == 0)⟩ : S42)⟩ : S73) ) (fun _ hk => hk); have hx31_8 := hcc31 8 _ rfl; (try simp only [show (k73).sz = 9 from rfl, Nat.mul_one, Nat.add_zero] at hx31_8); have hf31_8 := hfr31 8; (try simp only [show (k73).sz = 9 from rfl, Nat.mul_one, Nat.add_zero] at hf31_8); clear hcl31 hcc31 hfr31 hM31) | ((with_reducible refine gate_store (t := 4) (p := 83) rfl ?_); refine store_event (t := 4) (p := 83) (v := ?vo_w32) (w1 := (w30.setCell ⟨go5, (x5_1 : Int).toNat * 9 + 8, none⟩ (.bool ((Int.tmod (wrap64 ((wrap64 ((wrap64 ((wrap64 ((wrap64 ((wrap64 ((wrap64 ((wrap64 (x1_1 + 1)) + 1)) + 1)) + 1)) + 1)) + 1)) + 1)) + 1)) 3) == 0)))) ?hg ?ho ?hn ?hr ?_; (case ho => rfl); (case hg => rfl); (case hn => rfl); (case hr => first | (go_simp; done) | (go_simp; rfl)); intro w32 hw; have hg : w30.grownBy w32 (some go5) := (by rw [hw]; exact HP31.2); have hp_ : Kd.R k73 73 w32 w0.heap.size (fun k_ => (P0_ k_ ∨ w.heap.size ≤ k_)) (.slice (some ⟨go5, 0, none⟩) x0_1.length co14) y144 := (by rw [hw, Ny144.out]; exact HP31.1); clear HP31; have n0_ := Aside0.mk (hp_); have n1_ := Aside0.mk ((by rw [hw]; exact below_set (HB.out) GB5.out : Below w0.heap.size w0 w32)); have n2_ := Aside0.mk (Kept.of_grown (S := (fun k_ => P0_ k_)) hg (by repeat (first | (with_reducible first | exact HK.out | apply Kept.alloc | apply Kept.drewN | apply Kept.drew) | exact HK.out)) (fun k_ e_ => (HO_0.out.1 k_ e_))); clear HO_0; clear HB; clear HK; have HO_0 := n0_; have HB := n1_; have HK := n2_; clear n0_ n1_ n2_; clear hg hw hp_))
     go_roundg k1
     case measure => have := HK1.out; omega
     case rel => exact ⟨(y144), (wrap64 ((wrap64 ((wrap64 ((wrap64 ((wrap64 ((wrap64 ((wrap64 ((wrap64 ((wrap64 (x1_1 + 1)) + 1)) + 1)) + 1)) + 1)) + 1)) + 1)) + 1)) + 1)), (wrap64 (x5_1 + 1)), (by first | rfl | (simp; done) | (simp [*]; done)), (by first | rfl | (simp; done) | (simp [*]; done)), H', ⟨by have := HK1.out; omega⟩, ⟨by (with_reducible repeat (first | apply Kd.R_alloc | apply Kd.R_drewN | apply Kd.R_drew)); exact HO_0.out⟩, ⟨by repeat (first | (with_reducible first | exact HK.out | apply Kept.alloc | apply Kept.drewN | apply Kept.drew) | exact HK.out)⟩, ⟨by repeat (first | (with_reducible first | exact HB.out | apply below_alloc | apply pw_below_drewN | apply below_drew1) | exact HB.out)⟩⟩
    ·rw [if_neg c4] at H
     exact absurd H (by simp)
   ·rw [if_neg c3] at H
    have c3b0 : decide (x5_1 < (x0_1.length : Int)) = false := decide_eq_false c3
    clear c3
    simp only [Option.some.injEq, Prod.mk.injEq] at H
    obtain ⟨rfl, rfl⟩ := H
    obtain ⟨Ao33, co33, eo33⟩ := Kd.R_slice HO_0.out
    subst eo33
    go_wp2
    go_ret
    exact ⟨by first | rfl | (simp [errW_none, errW_some] <;> rfl) | (simp [*, errW_none, errW_some] <;> rfl), by (with_reducible repeat (first | apply Kd.R_alloc | apply Kd.R_drewN | apply Kd.R_drew)); exact HO_0.out, by repeat (first | (with_reducible first | exact HB.out | apply below_alloc | apply pw_below_drewN | apply below_drew1) | exact HB.out), by repeat (first | (with_reducible first | exact HK.out | apply Kept.alloc | apply Kept.drewN | apply Kept.drew) | exact HK.out)⟩
def spec_l02Is.f (a0 : Int) (a1 : Int) (a2 : Int) : Option (Bool) := if a0 ≥ a1 then (some (decide (a0 ≤ a2))) else (some false)
set_option maxHeartbeats 8000000 in
set_option maxRecDepth 100000 in
theorem spec_l02Is.calls (a0 : Int) (a1 : Int) (a2 : Int) (r : Bool) (w : World) (h : spec_l02Is.f a0 a1 a2 = some r) :
  Calls Try.prog 88 #[.int .i64 a0, .int .i64 a1, .int .i64 a2] w fun e w' => e = .returned (.bool r) ∧ Drawn0 w w' := by
 have H : (if a0 ≥ a1 then (some (decide (a0 ≤ a2))) else (some false)) = some r := h
 clear h
 by_cases c4 : a0 ≥ a1
 ·rw [if_pos c4] at H
  have c4b0 : decide (a1 ≤ a0) = true := decide_eq_true c4
  clear c4
  obtain rfl := Option.some.inj H
  go_enter Try.func88, Try.ntmps88
  go_wp2
  go_ret
  exact ⟨by first | rfl | (simp; done) | (simp [*]; done), by repeat (first | exact Drawn0.refl _ | apply Drawn0.step)⟩
 ·rw [if_neg c4] at H
  have c4b0 : decide (a1 ≤ a0) = false := decide_eq_false c4
  clear c4
  obtain rfl := Option.some.inj H
  go_enter Try.func88, Try.ntmps88
  go_wp2
  go_ret
  exact ⟨by first | rfl | (simp; done) | (simp [*]; done), by repeat (first | exact Drawn0.refl _ | apply Drawn0.step)⟩
def spec_l06Peer.f (a0 : Int) : Option (Bool) := (spec_l02Is.f a0 1 9).bind fun t145 => (some t145)
set_option maxHeartbeats 8000000 in
set_option maxRecDepth 100000 in
theorem spec_l06Peer.calls (a0 : Int) (r : Bool) (w : World) (h : spec_l06Peer.f a0 = some r) :
  Calls Try.prog 62 #[.int .i64 a0] w fun e w' => e = .returned (.bool r) ∧ Drawn0 w w' := by
 have H : ((spec_l02Is.f a0 1 9).bind fun t145 => (some t145)) = some r := h
 clear h
 replace H := Option.bind_eq_some_iff.mp H
 obtain ⟨t145, A20, H⟩ := H
 replace H : (some t145) = some r := H
 have A2 := Aside0.mk A20
 clear A20
 obtain rfl := Option.some.inj H
 go_enter Try.func62, Try.ntmps62
 go_wp2_with (first | ((with_reducible refine gate_callee (f := 88) rfl ?_); refine goesL_ (some 4) rfl rfl Try.func88 (by kernel_rfl) rfl #[.int .i64 a0, .int .i64 1, .int .i64 9] rfl (by (try simp only [List.map_toArray, List.map_cons, List.map_nil]); first | done | rfl | (simp only [List.length_drop, List.length_take]; rfl)) ?_; (with_reducible refine (spec_l02Is.calls a0 1 9 t145 _ A2.out).mono ?_); rintro e w' ⟨rfl, ⟨nd, rfl⟩⟩; refine ⟨_, rfl, ?_⟩))
 go_ret
 exact ⟨by first | rfl | (simp; done) | (simp [*]; done), by repeat (first | exact Drawn0.refl _ | apply Drawn0.step)⟩
def spec_l02Vni.f (a0 : Int) : Option (Bool) := (spec_l02Is.f a0 1 16777215).bind fun t146 => (some t146)
set_option maxHeartbeats 8000000 in
set_option maxRecDepth 100000 in
theorem spec_l02Vni.calls (a0 : Int) (r : Bool) (w : World) (h : spec_l02Vni.f a0 = some r) :
  Calls Try.prog 75 #[.int .i64 a0] w fun e w' => e = .returned (.bool r) ∧ Drawn0 w w' := by
 have H : ((spec_l02Is.f a0 1 16777215).bind fun t146 => (some t146)) = some r := h
 clear h
 replace H := Option.bind_eq_some_iff.mp H
 obtain ⟨t146, A20, H⟩ := H
 replace H : (some t146) = some r := H
 have A2 := Aside0.mk A20
 clear A20
 obtain rfl := Option.some.inj H
 go_enter Try.func75, Try.ntmps75
 go_wp2_with (first | ((with_reducible refine gate_callee (f := 88) rfl ?_); refine goesL_ (some 4) rfl rfl Try.func88 (by kernel_rfl) rfl #[.int .i64 a0, .int .i64 1, .int .i64 16777215] rfl (by (try simp only [List.map_toArray, List.map_cons, List.map_nil]); first | done | rfl | (simp only [List.length_drop, List.length_take]; rfl)) ?_; (with_reducible refine (spec_l02Is.calls a0 1 16777215 t146 _ A2.out).mono ?_); rintro e w' ⟨rfl, ⟨nd, rfl⟩⟩; refine ⟨_, rfl, ?_⟩))
 go_ret
 exact ⟨by first | rfl | (simp; done) | (simp [*]; done), by repeat (first | exact Drawn0.refl _ | apply Drawn0.step)⟩
def spec_l02Mac.f (a0 : Int) : Option (Bool) := (spec_l02Is.f a0 0 281474976710655).bind fun t147 => (some t147)
set_option maxHeartbeats 8000000 in
set_option maxRecDepth 100000 in
theorem spec_l02Mac.calls (a0 : Int) (r : Bool) (w : World) (h : spec_l02Mac.f a0 = some r) :
  Calls Try.prog 107 #[.int .i64 a0] w fun e w' => e = .returned (.bool r) ∧ Drawn0 w w' := by
 have H : ((spec_l02Is.f a0 0 281474976710655).bind fun t147 => (some t147)) = some r := h
 clear h
 replace H := Option.bind_eq_some_iff.mp H
 obtain ⟨t147, A20, H⟩ := H
 replace H : (some t147) = some r := H
 have A2 := Aside0.mk A20
 clear A20
 obtain rfl := Option.some.inj H
 go_enter Try.func107, Try.ntmps107
 go_wp2_with (first | ((with_reducible refine gate_callee (f := 88) rfl ?_); refine goesL_ (some 4) rfl rfl Try.func88 (by kernel_rfl) rfl #[.int .i64 a0, .int .i64 0, .int .i64 281474976710655] rfl (by (try simp only [List.map_toArray, List.map_cons, List.map_nil]); first | done | rfl | (simp only [List.length_drop, List.length_take]; rfl)) ?_; (with_reducible refine (spec_l02Is.calls a0 0 281474976710655 t147 _ A2.out).mono ?_); rintro e w' ⟨rfl, ⟨nd, rfl⟩⟩; refine ⟨_, rfl, ?_⟩))
 go_ret
 exact ⟨by first | rfl | (simp; done) | (simp [*]; done), by repeat (first | exact Drawn0.refl _ | apply Drawn0.step)⟩
def spec_IsGroup.f (a0 : Int) : Option (Bool) := (spec_l02Mac.f a0).bind fun t148 => (if t148 = true then (some ((Go.bits .and .i64 (a0 / 1099511627776) 1) == 1)) else (some false))
set_option maxHeartbeats 8000000 in
set_option maxRecDepth 100000 in
theorem spec_IsGroup.calls (a0 : Int) (r : Bool) (w : World) (h : spec_IsGroup.f a0 = some r) :
  Calls Try.prog 108 #[.int .i64 a0] w fun e w' => e = .returned (.bool r) ∧ Drawn0 w w' := by
 have H : ((spec_l02Mac.f a0).bind fun t148 => (if t148 = true then (some ((Go.bits .and .i64 (a0 / 1099511627776) 1) == 1)) else (some false))) = some r := h
 clear h
 replace H := Option.bind_eq_some_iff.mp H
 obtain ⟨t148, A20, H⟩ := H
 replace H : (if t148 = true then (some ((Go.bits .and .i64 (a0 / 1099511627776) 1) == 1)) else (some false)) = some r := H
 have A2 := Aside0.mk A20
 clear A20
 by_cases c3 : t148 = true
 ·subst c3
  have H1 : (some ((Go.bits .and .i64 (a0 / 1099511627776) 1) == 1)) = some r := by rw [if_pos rfl] at H; exact H
  clear H
  have H := H1
  clear H1
  obtain rfl := Option.some.inj H
  go_enter Try.func108, Try.ntmps108
  go_wp2_with (first | ((with_reducible refine gate_callee (f := 107) rfl ?_); refine goesL_ (some 4) rfl rfl Try.func107 (by kernel_rfl) rfl #[.int .i64 a0] rfl (by (try simp only [List.map_toArray, List.map_cons, List.map_nil]); first | done | rfl | (simp only [List.length_drop, List.length_take]; rfl)) ?_; (with_reducible refine (spec_l02Mac.calls a0 true _ A2.out).mono ?_); rintro e w' ⟨rfl, ⟨nd, rfl⟩⟩; refine ⟨_, rfl, ?_⟩))
  go_ret
  exact ⟨by first | rfl | (simp; done) | (simp [*]; done), by repeat (first | exact Drawn0.refl _ | apply Drawn0.step)⟩
 ·replace c3 := Bool.eq_false_iff.mpr c3
  subst c3
  have H1 : (some false) = some r := by rw [if_neg (show ¬ (false = true) by decide)] at H; exact H
  clear H
  have H := H1
  clear H1
  obtain rfl := Option.some.inj H
  go_enter Try.func108, Try.ntmps108
  go_wp2_with (first | ((with_reducible refine gate_callee (f := 107) rfl ?_); refine goesL_ (some 4) rfl rfl Try.func107 (by kernel_rfl) rfl #[.int .i64 a0] rfl (by (try simp only [List.map_toArray, List.map_cons, List.map_nil]); first | done | rfl | (simp only [List.length_drop, List.length_take]; rfl)) ?_; (with_reducible refine (spec_l02Mac.calls a0 false _ A2.out).mono ?_); rintro e w' ⟨rfl, ⟨nd, rfl⟩⟩; refine ⟨_, rfl, ?_⟩))
  go_ret
  exact ⟨by first | rfl | (simp; done) | (simp [*]; done), by repeat (first | exact Drawn0.refl _ | apply Drawn0.step)⟩
def spec_l02Ip.f (a0 : Int) : Option (Bool) := (spec_l02Is.f a0 0 4294967295).bind fun t149 => (some t149)
set_option maxHeartbeats 8000000 in
set_option maxRecDepth 100000 in
theorem spec_l02Ip.calls (a0 : Int) (r : Bool) (w : World) (h : spec_l02Ip.f a0 = some r) :
  Calls Try.prog 109 #[.int .i64 a0] w fun e w' => e = .returned (.bool r) ∧ Drawn0 w w' := by
 have H : ((spec_l02Is.f a0 0 4294967295).bind fun t149 => (some t149)) = some r := h
 clear h
 replace H := Option.bind_eq_some_iff.mp H
 obtain ⟨t149, A20, H⟩ := H
 replace H : (some t149) = some r := H
 have A2 := Aside0.mk A20
 clear A20
 obtain rfl := Option.some.inj H
 go_enter Try.func109, Try.ntmps109
 go_wp2_with (first | ((with_reducible refine gate_callee (f := 88) rfl ?_); refine goesL_ (some 4) rfl rfl Try.func88 (by kernel_rfl) rfl #[.int .i64 a0, .int .i64 0, .int .i64 4294967295] rfl (by (try simp only [List.map_toArray, List.map_cons, List.map_nil]); first | done | rfl | (simp only [List.length_drop, List.length_take]; rfl)) ?_; (with_reducible refine (spec_l02Is.calls a0 0 4294967295 t149 _ A2.out).mono ?_); rintro e w' ⟨rfl, ⟨nd, rfl⟩⟩; refine ⟨_, rfl, ?_⟩))
 go_ret
 exact ⟨by first | rfl | (simp; done) | (simp [*]; done), by repeat (first | exact Drawn0.refl _ | apply Drawn0.step)⟩
def spec_RouteRight.j0 : Nat → Bool → Int → Int → Int → Int → Int → Int → Bool → Option (Bool)
 | 0, _, _, _, _, _, _, _, _ => none
 | k + 1, x12, x151000, x151001, x151002, x151003, x151004, x151005, x151006 => if x12 = true then (some false) else (if x151000 = 2 then ((spec_l02Mac.f x151002).bind fun t153 => (if t153 = true then ((spec_IsGroup.f x151002).bind fun t154 => (if t154 = true then (some false) else ((spec_l02Ip.f x151003).bind fun t155 => (if t155 = true then ((spec_l02Is.f x151005 0 1000000).bind fun t156 => (some t156)) else (some false))))) else (some false))) else (if x151000 = 3 then (if x151002 = 0 then (if x151003 = 0 then (if x151005 = 0 then (some (!x151006)) else (some false)) else (some false)) else (some false)) else (some false)))
def spec_RouteRight.f (k : Nat) (a0_0 : Int) (a0_1 : Int) (a0_2 : Int) (a0_3 : Int) (a0_4 : Int) (a0_5 : Int) (a0_6 : Bool) : Option (Bool) := (spec_l02Vni.f a0_1).bind fun t151 => (if t151 = true then ((spec_l02Is.f a0_4 1 4).bind fun t152 => (spec_RouteRight.j0 k (!t152) a0_0 a0_1 a0_2 a0_3 a0_4 a0_5 a0_6)) else (spec_RouteRight.j0 k true a0_0 a0_1 a0_2 a0_3 a0_4 a0_5 a0_6))
theorem spec_RouteRight.mono_l : ∀ k, (∀ y0 y1 y2 y3 y4 y5 y6 y7, LeO (spec_RouteRight.j0 k y0 y1 y2 y3 y4 y5 y6 y7) (spec_RouteRight.j0 (k + 1) y0 y1 y2 y3 y4 y5 y6 y7))
 | 0 => fun _ _ _ _ _ _ _ _ r h => by simp [spec_RouteRight.j0] at h
 | k + 1 => by
  have ih0 := spec_RouteRight.mono_l k
  ·intro y0 y1 y2 y3 y4 y5 y6 y7
   unfold spec_RouteRight.j0
   repeat' first
   | (with_reducible exact ih0 _ _ _ _ _ _ _ _)
   | (with_reducible exact LeO.refl _)
   | (with_reducible exact LeO.none _)
   | (with_reducible refine LeO.ite ?_ ?_)
   | (with_reducible refine LeO.bind ?_ (fun _ => ?_))
   | exact ih0 _ _ _ _ _ _ _ _
   | exact LeO.none _
   | refine LeO.ite ?_ ?_
   | refine LeO.bind ?_ (fun _ => ?_)
theorem spec_RouteRight.mono : ∀ a0 a1 a2 a3 a4 a5 a6 k, LeO (spec_RouteRight.f k a0 a1 a2 a3 a4 a5 a6) (spec_RouteRight.f (k + 1) a0 a1 a2 a3 a4 a5 a6) := by
 intro a0 a1 a2 a3 a4 a5 a6 k
 have ih0 := spec_RouteRight.mono_l k
 unfold spec_RouteRight.f
 repeat' first
   | (with_reducible exact ih0 _ _ _ _ _ _ _ _)
   | (with_reducible exact LeO.refl _)
   | (with_reducible exact LeO.none _)
   | (with_reducible refine LeO.ite ?_ ?_)
   | (with_reducible refine LeO.bind ?_ (fun _ => ?_))
   | exact ih0 _ _ _ _ _ _ _ _
   | exact LeO.none _
   | refine LeO.ite ?_ ?_
   | refine LeO.bind ?_ (fun _ => ?_)
set_option maxHeartbeats 8000000 in
set_option maxRecDepth 100000 in
theorem spec_RouteRight.calls (k : Nat) (a0_0 : Int) (a0_1 : Int) (a0_2 : Int) (a0_3 : Int) (a0_4 : Int) (a0_5 : Int) (a0_6 : Bool) (r : Bool) (w : World) (h : spec_RouteRight.f k a0_0 a0_1 a0_2 a0_3 a0_4 a0_5 a0_6 = some r) :
  Calls Try.prog 69 #[.agg #[.int .i64 a0_0, .int .i64 a0_1, .int .i64 a0_2, .int .i64 a0_3, .int .i64 a0_4, .int .i64 a0_5, .bool a0_6]] w fun e w' => e = .returned (.bool r) ∧ Below w.heap.size w w' := by
 have hu42 := Try.underlying42
 have HB := Aside0.mk (Below.refl w.heap.size w)
 have H : ((spec_l02Vni.f a0_1).bind fun t151 => (if t151 = true then ((spec_l02Is.f a0_4 1 4).bind fun t152 => (spec_RouteRight.j0 k (!t152) a0_0 a0_1 a0_2 a0_3 a0_4 a0_5 a0_6)) else (spec_RouteRight.j0 k true a0_0 a0_1 a0_2 a0_3 a0_4 a0_5 a0_6))) = some r := h
 clear h
 have HC2 := Aside0.mk H
 clear H
 go_enter Try.func69, Try.ntmps69
 go_upto_region 1 with (first | ((with_reducible refine gate_dst (N := 1) rfl ?_); refine box_event ?hg (N := 1) ?hd (cs := #[.int .i64 a0_0, .int .i64 a0_1, .int .i64 a0_2, .int .i64 a0_3, .int .i64 a0_4, .int .i64 a0_5, .bool a0_6]) (t := 42) ?hr ?_; (case hd => rfl); (case hg => rfl); (case hr => first | (go_simp; done) | (go_simp; rfl)); intro gb150 hg w3 hbox hb; have n0_ := Aside0.mk (below_step (by repeat (first | (with_reducible first | exact HB.out | apply below_alloc | apply pw_below_drewN | apply below_drew1) | exact HB.out)) hb); have n1_ := Aside0.mk (hbox); have n2_ := Aside0.mk ((by rw [hg]; exact (below_size (by repeat (first | (with_reducible first | exact HB.out | apply below_alloc | apply pw_below_drewN | apply below_drew1) | exact HB.out))) : w.heap.size ≤ gb150)); have n3_ := Aside0.mk ((by rw [hg]; exact (below_size (by repeat (first | (with_reducible first | exact HB.out | apply below_alloc | apply pw_below_drewN | apply below_drew1) | exact HB.out))) : w.heap.size ≤ gb150)); clear HB; have HB := n0_; have BK150 := n1_; have GW150 := n2_; have GE150 := n3_; clear n0_ n1_ n2_ n3_; clear hb hbox hg))
 (try simp only [Act.put, List.setIfInBounds_toArray, List.set_cons_zero, List.set_cons_succ])
 go_cut [12] (fun v12 wc => ∃ (kq : Nat) (x12_1 : Bool), v12 = .bool x12_1 ∧ Aside0 (spec_RouteRight.j0 kq x12_1 a0_0 a0_1 a0_2 a0_3 a0_4 a0_5 a0_6 = some r) ∧ Aside0 (kq ≤ k) ∧ Aside0 (wc.heap[gb150]? = some (.cells #[.int .i64 a0_0, .int .i64 a0_1, .int .i64 a0_2, .int .i64 a0_3, .int .i64 a0_4, .int .i64 a0_5, .bool a0_6] 42 (0, 0))) ∧ Aside0 (Below w.heap.size w wc))
 case first =>
  have H := HC2.out
  clear HC2
  replace H := Option.bind_eq_some_iff.mp H
  obtain ⟨t151, A40, H⟩ := H
  replace H : (if t151 = true then ((spec_l02Is.f a0_4 1 4).bind fun t152 => (spec_RouteRight.j0 k (!t152) a0_0 a0_1 a0_2 a0_3 a0_4 a0_5 a0_6)) else (spec_RouteRight.j0 k true a0_0 a0_1 a0_2 a0_3 a0_4 a0_5 a0_6)) = some r := H
  have A4 := Aside0.mk A40
  clear A40
  by_cases c5 : t151 = true
  ·subst c5
   have H1 : ((spec_l02Is.f a0_4 1 4).bind fun t152 => (spec_RouteRight.j0 k (!t152) a0_0 a0_1 a0_2 a0_3 a0_4 a0_5 a0_6)) = some r := by rw [if_pos rfl] at H; exact H
   clear H
   have H := H1
   clear H1
   replace H := Option.bind_eq_some_iff.mp H
   obtain ⟨t152, A60, H⟩ := H
   replace H : (spec_RouteRight.j0 k (!t152) a0_0 a0_1 a0_2 a0_3 a0_4 a0_5 a0_6) = some r := H
   have A6 := Aside0.mk A60
   clear A60
   have H' := Aside0.mk H
   clear H
   have hcz7_0 : w3.cell? ⟨gb150, 0, none⟩ = some (.int .i64 a0_0) := (blk_cell BK150.out 0).trans rfl
   have hcz7_1 : w3.cell? ⟨gb150, 1, none⟩ = some (.int .i64 a0_1) := (blk_cell BK150.out 1).trans rfl
   have hcz7_2 : w3.cell? ⟨gb150, 2, none⟩ = some (.int .i64 a0_2) := (blk_cell BK150.out 2).trans rfl
   have hcz7_3 : w3.cell? ⟨gb150, 3, none⟩ = some (.int .i64 a0_3) := (blk_cell BK150.out 3).trans rfl
   have hcz7_4 : w3.cell? ⟨gb150, 4, none⟩ = some (.int .i64 a0_4) := (blk_cell BK150.out 4).trans rfl
   have hcz7_5 : w3.cell? ⟨gb150, 5, none⟩ = some (.int .i64 a0_5) := (blk_cell BK150.out 5).trans rfl
   have hcz7_6 : w3.cell? ⟨gb150, 6, none⟩ = some (.bool a0_6) := (blk_cell BK150.out 6).trans rfl
   have hfz7_0 := blk_frozen BK150.out 0
   have hfz7_1 := blk_frozen BK150.out 1
   have hfz7_2 := blk_frozen BK150.out 2
   have hfz7_3 := blk_frozen BK150.out 3
   have hfz7_4 := blk_frozen BK150.out 4
   have hfz7_5 := blk_frozen BK150.out 5
   have hfz7_6 := blk_frozen BK150.out 6
   go_wp2_with (first | ((with_reducible refine gate_callee (f := 75) rfl ?_); refine goesL_ (some 5) rfl rfl Try.func75 (by kernel_rfl) rfl #[.int .i64 a0_1] rfl (by (try simp only [List.map_toArray, List.map_cons, List.map_nil]); first | done | rfl | (simp only [List.length_drop, List.length_take]; rfl)) ?_; (with_reducible refine (spec_l02Vni.calls a0_1 true _ A4.out).mono ?_); rintro e w' ⟨rfl, ⟨nd, rfl⟩⟩; refine ⟨_, rfl, ?_⟩) | (go_at_call 88; (with_reducible refine (spec_l02Is.calls a0_4 1 4 t152 _ A6.out).mono ?_); rintro e w' ⟨rfl, ⟨nd, rfl⟩⟩))
   go_meet
   case rel => exact ⟨_, (!t152), (by first | rfl | (simp; done) | (simp [*]; done)), H', ⟨by first | omega | exact Nat.le_refl _⟩, ⟨by (with_reducible repeat (first | refine blk_drewN ?_ _ | refine blk_drew ?_ | refine blk_alloc ?_ _)); exact BK150.out⟩, ⟨by repeat (first | (with_reducible first | exact HB.out | apply below_alloc | apply pw_below_drewN | apply below_drew1 | refine below_set ?_ GE150.out) | exact HB.out)⟩⟩
  ·replace c5 := Bool.eq_false_iff.mpr c5
   subst c5
   have H1 : (spec_RouteRight.j0 k true a0_0 a0_1 a0_2 a0_3 a0_4 a0_5 a0_6) = some r := by rw [if_neg (show ¬ (false = true) by decide)] at H; exact H
   clear H
   have H := H1
   clear H1
   have H' := Aside0.mk H
   clear H
   have hcz8_0 : w3.cell? ⟨gb150, 0, none⟩ = some (.int .i64 a0_0) := (blk_cell BK150.out 0).trans rfl
   have hcz8_1 : w3.cell? ⟨gb150, 1, none⟩ = some (.int .i64 a0_1) := (blk_cell BK150.out 1).trans rfl
   have hcz8_2 : w3.cell? ⟨gb150, 2, none⟩ = some (.int .i64 a0_2) := (blk_cell BK150.out 2).trans rfl
   have hcz8_3 : w3.cell? ⟨gb150, 3, none⟩ = some (.int .i64 a0_3) := (blk_cell BK150.out 3).trans rfl
   have hcz8_4 : w3.cell? ⟨gb150, 4, none⟩ = some (.int .i64 a0_4) := (blk_cell BK150.out 4).trans rfl
   have hcz8_5 : w3.cell? ⟨gb150, 5, none⟩ = some (.int .i64 a0_5) := (blk_cell BK150.out 5).trans rfl
   have hcz8_6 : w3.cell? ⟨gb150, 6, none⟩ = some (.bool a0_6) := (blk_cell BK150.out 6).trans rfl
   have hfz8_0 := blk_frozen BK150.out 0
   have hfz8_1 := blk_frozen BK150.out 1
   have hfz8_2 := blk_frozen BK150.out 2
   have hfz8_3 := blk_frozen BK150.out 3
   have hfz8_4 := blk_frozen BK150.out 4
   have hfz8_5 := blk_frozen BK150.out 5
   have hfz8_6 := blk_frozen BK150.out 6
   go_wp2_with (first | ((with_reducible refine gate_callee (f := 75) rfl ?_); refine goesL_ (some 5) rfl rfl Try.func75 (by kernel_rfl) rfl #[.int .i64 a0_1] rfl (by (try simp only [List.map_toArray, List.map_cons, List.map_nil]); first | done | rfl | (simp only [List.length_drop, List.length_take]; rfl)) ?_; (with_reducible refine (spec_l02Vni.calls a0_1 false _ A4.out).mono ?_); rintro e w' ⟨rfl, ⟨nd, rfl⟩⟩; refine ⟨_, rfl, ?_⟩))
   go_meet
   case rel => exact ⟨_, (true), (by first | rfl | (simp; done) | (simp [*]; done)), H', ⟨by first | omega | exact Nat.le_refl _⟩, ⟨by (with_reducible repeat (first | refine blk_drewN ?_ _ | refine blk_drew ?_ | refine blk_alloc ?_ _)); exact BK150.out⟩, ⟨by repeat (first | (with_reducible first | exact HB.out | apply below_alloc | apply pw_below_drewN | apply below_drew1 | refine below_set ?_ GE150.out) | exact HB.out)⟩⟩
 case rest =>
  clear HC2
  try clear p2
  try clear c5
  try clear c6
  try clear c7
  try clear hcz7_0
  try clear hcz7_1
  try clear hcz7_2
  try clear hcz7_3
  try clear hcz7_4
  try clear hcz7_5
  try clear hcz7_6
  try clear hcz8_0
  try clear hcz8_1
  try clear hcz8_2
  try clear hcz8_3
  try clear hcz8_4
  try clear hcz8_5
  try clear hcz8_6
  try clear hfz7_0
  try clear hfz7_1
  try clear hfz7_2
  try clear hfz7_3
  try clear hfz7_4
  try clear hfz7_5
  try clear hfz7_6
  try clear hfz8_0
  try clear hfz8_1
  try clear hfz8_2
  try clear hfz8_3
  try clear hfz8_4
  try clear hfz8_5
  try clear hfz8_6
  obtain ⟨kq, x12_1, rfl, HA, HJ1, BK150, HB⟩ := hcut
  cases kq with
  | zero => exact absurd HA.out (by simp [spec_RouteRight.j0])
  | succ kj1 =>
   have H := HA.out
   clear HA
   simp only [spec_RouteRight.j0] at H
   by_cases c9 : x12_1 = true
   ·subst c9
    have H1 : (some false) = some r := by rw [if_pos rfl] at H; exact H
    clear H
    have H := H1
    clear H1
    obtain rfl := Option.some.inj H
    go_wp2
    go_ret
    exact ⟨by first | rfl | (simp [errW_none, errW_some] <;> rfl) | (simp [*, errW_none, errW_some] <;> rfl), by repeat (first | (with_reducible first | exact HB.out | apply below_alloc | apply pw_below_drewN | apply below_drew1 | refine below_set ?_ GE150.out) | exact HB.out)⟩
   ·replace c9 := Bool.eq_false_iff.mpr c9
    subst c9
    have H1 : (if a0_0 = 2 then ((spec_l02Mac.f a0_2).bind fun t153 => (if t153 = true then ((spec_IsGroup.f a0_2).bind fun t154 => (if t154 = true then (some false) else ((spec_l02Ip.f a0_3).bind fun t155 => (if t155 = true then ((spec_l02Is.f a0_5 0 1000000).bind fun t156 => (some t156)) else (some false))))) else (some false))) else (if a0_0 = 3 then (if a0_2 = 0 then (if a0_3 = 0 then (if a0_5 = 0 then (some (!a0_6)) else (some false)) else (some false)) else (some false)) else (some false))) = some r := by rw [if_neg (show ¬ (false = true) by decide)] at H; exact H
    clear H
    have H := H1
    clear H1
    by_cases c10 : a0_0 = 2
    ·rw [if_pos c10] at H
     have c10b0 : (a0_0 == 2) = true := beq_iff_eq.mpr c10
     have c10b1 : (a0_0 != 2) = false := bne_eq_false_iff_eq.mpr c10
     clear c10
     replace H := Option.bind_eq_some_iff.mp H
     obtain ⟨t153, A110, H⟩ := H
     replace H : (if t153 = true then ((spec_IsGroup.f a0_2).bind fun t154 => (if t154 = true then (some false) else ((spec_l02Ip.f a0_3).bind fun t155 => (if t155 = true then ((spec_l02Is.f a0_5 0 1000000).bind fun t156 => (some t156)) else (some false))))) else (some false)) = some r := H
     have A11 := Aside0.mk A110
     clear A110
     by_cases c12 : t153 = true
     ·subst c12
      have H1 : ((spec_IsGroup.f a0_2).bind fun t154 => (if t154 = true then (some false) else ((spec_l02Ip.f a0_3).bind fun t155 => (if t155 = true then ((spec_l02Is.f a0_5 0 1000000).bind fun t156 => (some t156)) else (some false))))) = some r := by rw [if_pos rfl] at H; exact H
      clear H
      have H := H1
      clear H1
      replace H := Option.bind_eq_some_iff.mp H
      obtain ⟨t154, A130, H⟩ := H
      replace H : (if t154 = true then (some false) else ((spec_l02Ip.f a0_3).bind fun t155 => (if t155 = true then ((spec_l02Is.f a0_5 0 1000000).bind fun t156 => (some t156)) else (some false)))) = some r := H
      have A13 := Aside0.mk A130
      clear A130
      by_cases c14 : t154 = true
      ·subst c14
       have H1 : (some false) = some r := by rw [if_pos rfl] at H; exact H
       clear H
       have H := H1
       clear H1
       obtain rfl := Option.some.inj H
       have hcz15_0 : wc.cell? ⟨gb150, 0, none⟩ = some (.int .i64 a0_0) := (blk_cell BK150.out 0).trans rfl
       have hcz15_1 : wc.cell? ⟨gb150, 1, none⟩ = some (.int .i64 a0_1) := (blk_cell BK150.out 1).trans rfl
       have hcz15_2 : wc.cell? ⟨gb150, 2, none⟩ = some (.int .i64 a0_2) := (blk_cell BK150.out 2).trans rfl
       have hcz15_3 : wc.cell? ⟨gb150, 3, none⟩ = some (.int .i64 a0_3) := (blk_cell BK150.out 3).trans rfl
       have hcz15_4 : wc.cell? ⟨gb150, 4, none⟩ = some (.int .i64 a0_4) := (blk_cell BK150.out 4).trans rfl
       have hcz15_5 : wc.cell? ⟨gb150, 5, none⟩ = some (.int .i64 a0_5) := (blk_cell BK150.out 5).trans rfl
       have hcz15_6 : wc.cell? ⟨gb150, 6, none⟩ = some (.bool a0_6) := (blk_cell BK150.out 6).trans rfl
       have hfz15_0 := blk_frozen BK150.out 0
       have hfz15_1 := blk_frozen BK150.out 1
       have hfz15_2 := blk_frozen BK150.out 2
       have hfz15_3 := blk_frozen BK150.out 3
       have hfz15_4 := blk_frozen BK150.out 4
       have hfz15_5 := blk_frozen BK150.out 5
       have hfz15_6 := blk_frozen BK150.out 6
       go_wp2_with (first | ((with_reducible refine gate_callee (f := 107) rfl ?_); refine goesL_ (some 19) rfl rfl Try.func107 (by kernel_rfl) rfl #[.int .i64 a0_2] rfl (by (try simp only [List.map_toArray, List.map_cons, List.map_nil]); first | done | rfl | (simp only [List.length_drop, List.length_take]; rfl)) ?_; (with_reducible refine (spec_l02Mac.calls a0_2 true _ A11.out).mono ?_); rintro e w' ⟨rfl, ⟨nd, rfl⟩⟩; refine ⟨_, rfl, ?_⟩) | (go_at_call 108; (with_reducible refine (spec_IsGroup.calls a0_2 true _ A13.out).mono ?_); rintro e w' ⟨rfl, ⟨nd, rfl⟩⟩))
       go_ret
       exact ⟨by first | rfl | (simp [errW_none, errW_some] <;> rfl) | (simp [*, errW_none, errW_some] <;> rfl), by repeat (first | (with_reducible first | exact HB.out | apply below_alloc | apply pw_below_drewN | apply below_drew1 | refine below_set ?_ GE150.out) | exact HB.out)⟩
      ·replace c14 := Bool.eq_false_iff.mpr c14
       subst c14
       have H1 : ((spec_l02Ip.f a0_3).bind fun t155 => (if t155 = true then ((spec_l02Is.f a0_5 0 1000000).bind fun t156 => (some t156)) else (some false))) = some r := by rw [if_neg (show ¬ (false = true) by decide)] at H; exact H
       clear H
       have H := H1
       clear H1
       replace H := Option.bind_eq_some_iff.mp H
       obtain ⟨t155, A160, H⟩ := H
       replace H : (if t155 = true then ((spec_l02Is.f a0_5 0 1000000).bind fun t156 => (some t156)) else (some false)) = some r := H
       have A16 := Aside0.mk A160
       clear A160
       by_cases c17 : t155 = true
       ·subst c17
        have H1 : ((spec_l02Is.f a0_5 0 1000000).bind fun t156 => (some t156)) = some r := by rw [if_pos rfl] at H; exact H
        clear H
        have H := H1
        clear H1
        replace H := Option.bind_eq_some_iff.mp H
        obtain ⟨t156, A180, H⟩ := H
        replace H : (some t156) = some r := H
        have A18 := Aside0.mk A180
        clear A180
        obtain rfl := Option.some.inj H
        have hcz19_0 : wc.cell? ⟨gb150, 0, none⟩ = some (.int .i64 a0_0) := (blk_cell BK150.out 0).trans rfl
        have hcz19_1 : wc.cell? ⟨gb150, 1, none⟩ = some (.int .i64 a0_1) := (blk_cell BK150.out 1).trans rfl
        have hcz19_2 : wc.cell? ⟨gb150, 2, none⟩ = some (.int .i64 a0_2) := (blk_cell BK150.out 2).trans rfl
        have hcz19_3 : wc.cell? ⟨gb150, 3, none⟩ = some (.int .i64 a0_3) := (blk_cell BK150.out 3).trans rfl
        have hcz19_4 : wc.cell? ⟨gb150, 4, none⟩ = some (.int .i64 a0_4) := (blk_cell BK150.out 4).trans rfl
        have hcz19_5 : wc.cell? ⟨gb150, 5, none⟩ = some (.int .i64 a0_5) := (blk_cell BK150.out 5).trans rfl
        have hcz19_6 : wc.cell? ⟨gb150, 6, none⟩ = some (.bool a0_6) := (blk_cell BK150.out 6).trans rfl
        have hfz19_0 := blk_frozen BK150.out 0
        have hfz19_1 := blk_frozen BK150.out 1
        have hfz19_2 := blk_frozen BK150.out 2
        have hfz19_3 := blk_frozen BK150.out 3
        have hfz19_4 := blk_frozen BK150.out 4
        have hfz19_5 := blk_frozen BK150.out 5
        have hfz19_6 := blk_frozen BK150.out 6
        go_wp2_with (first | ((with_reducible refine gate_callee (f := 107) rfl ?_); refine goesL_ (some 19) rfl rfl Try.func107 (by kernel_rfl) rfl #[.int .i64 a0_2] rfl (by (try simp only [List.map_toArray, List.map_cons, List.map_nil]); first | done | rfl | (simp only [List.length_drop, List.length_take]; rfl)) ?_; (with_reducible refine (spec_l02Mac.calls a0_2 true _ A11.out).mono ?_); rintro e w' ⟨rfl, ⟨nd, rfl⟩⟩; refine ⟨_, rfl, ?_⟩) | (go_at_call 108; (with_reducible refine (spec_IsGroup.calls a0_2 false _ A13.out).mono ?_); rintro e w' ⟨rfl, ⟨nd, rfl⟩⟩) | (go_at_call 109; (with_reducible refine (spec_l02Ip.calls a0_3 true _ A16.out).mono ?_); rintro e w' ⟨rfl, ⟨nd, rfl⟩⟩) | (go_at_call 88; (with_reducible refine (spec_l02Is.calls a0_5 0 1000000 t156 _ A18.out).mono ?_); rintro e w' ⟨rfl, ⟨nd, rfl⟩⟩))
        go_ret
        exact ⟨by first | rfl | (simp [errW_none, errW_some] <;> rfl) | (simp [*, errW_none, errW_some] <;> rfl), by repeat (first | (with_reducible first | exact HB.out | apply below_alloc | apply pw_below_drewN | apply below_drew1 | refine below_set ?_ GE150.out) | exact HB.out)⟩
       ·replace c17 := Bool.eq_false_iff.mpr c17
        subst c17
        have H1 : (some false) = some r := by rw [if_neg (show ¬ (false = true) by decide)] at H; exact H
        clear H
        have H := H1
        clear H1
        obtain rfl := Option.some.inj H
        have hcz20_0 : wc.cell? ⟨gb150, 0, none⟩ = some (.int .i64 a0_0) := (blk_cell BK150.out 0).trans rfl
        have hcz20_1 : wc.cell? ⟨gb150, 1, none⟩ = some (.int .i64 a0_1) := (blk_cell BK150.out 1).trans rfl
        have hcz20_2 : wc.cell? ⟨gb150, 2, none⟩ = some (.int .i64 a0_2) := (blk_cell BK150.out 2).trans rfl
        have hcz20_3 : wc.cell? ⟨gb150, 3, none⟩ = some (.int .i64 a0_3) := (blk_cell BK150.out 3).trans rfl
        have hcz20_4 : wc.cell? ⟨gb150, 4, none⟩ = some (.int .i64 a0_4) := (blk_cell BK150.out 4).trans rfl
        have hcz20_5 : wc.cell? ⟨gb150, 5, none⟩ = some (.int .i64 a0_5) := (blk_cell BK150.out 5).trans rfl
        have hcz20_6 : wc.cell? ⟨gb150, 6, none⟩ = some (.bool a0_6) := (blk_cell BK150.out 6).trans rfl
        have hfz20_0 := blk_frozen BK150.out 0
        have hfz20_1 := blk_frozen BK150.out 1
        have hfz20_2 := blk_frozen BK150.out 2
        have hfz20_3 := blk_frozen BK150.out 3
        have hfz20_4 := blk_frozen BK150.out 4
        have hfz20_5 := blk_frozen BK150.out 5
        have hfz20_6 := blk_frozen BK150.out 6
        go_wp2_with (first | ((with_reducible refine gate_callee (f := 107) rfl ?_); refine goesL_ (some 19) rfl rfl Try.func107 (by kernel_rfl) rfl #[.int .i64 a0_2] rfl (by (try simp only [List.map_toArray, List.map_cons, List.map_nil]); first | done | rfl | (simp only [List.length_drop, List.length_take]; rfl)) ?_; (with_reducible refine (spec_l02Mac.calls a0_2 true _ A11.out).mono ?_); rintro e w' ⟨rfl, ⟨nd, rfl⟩⟩; refine ⟨_, rfl, ?_⟩) | (go_at_call 108; (with_reducible refine (spec_IsGroup.calls a0_2 false _ A13.out).mono ?_); rintro e w' ⟨rfl, ⟨nd, rfl⟩⟩) | (go_at_call 109; (with_reducible refine (spec_l02Ip.calls a0_3 false _ A16.out).mono ?_); rintro e w' ⟨rfl, ⟨nd, rfl⟩⟩))
        go_ret
        exact ⟨by first | rfl | (simp [errW_none, errW_some] <;> rfl) | (simp [*, errW_none, errW_some] <;> rfl), by repeat (first | (with_reducible first | exact HB.out | apply below_alloc | apply pw_below_drewN | apply below_drew1 | refine below_set ?_ GE150.out) | exact HB.out)⟩
     ·replace c12 := Bool.eq_false_iff.mpr c12
      subst c12
      have H1 : (some false) = some r := by rw [if_neg (show ¬ (false = true) by decide)] at H; exact H
      clear H
      have H := H1
      clear H1
      obtain rfl := Option.some.inj H
      have hcz21_0 : wc.cell? ⟨gb150, 0, none⟩ = some (.int .i64 a0_0) := (blk_cell BK150.out 0).trans rfl
      have hcz21_1 : wc.cell? ⟨gb150, 1, none⟩ = some (.int .i64 a0_1) := (blk_cell BK150.out 1).trans rfl
      have hcz21_2 : wc.cell? ⟨gb150, 2, none⟩ = some (.int .i64 a0_2) := (blk_cell BK150.out 2).trans rfl
      have hcz21_3 : wc.cell? ⟨gb150, 3, none⟩ = some (.int .i64 a0_3) := (blk_cell BK150.out 3).trans rfl
      have hcz21_4 : wc.cell? ⟨gb150, 4, none⟩ = some (.int .i64 a0_4) := (blk_cell BK150.out 4).trans rfl
      have hcz21_5 : wc.cell? ⟨gb150, 5, none⟩ = some (.int .i64 a0_5) := (blk_cell BK150.out 5).trans rfl
      have hcz21_6 : wc.cell? ⟨gb150, 6, none⟩ = some (.bool a0_6) := (blk_cell BK150.out 6).trans rfl
      have hfz21_0 := blk_frozen BK150.out 0
      have hfz21_1 := blk_frozen BK150.out 1
      have hfz21_2 := blk_frozen BK150.out 2
      have hfz21_3 := blk_frozen BK150.out 3
      have hfz21_4 := blk_frozen BK150.out 4
      have hfz21_5 := blk_frozen BK150.out 5
      have hfz21_6 := blk_frozen BK150.out 6
      go_wp2_with (first | ((with_reducible refine gate_callee (f := 107) rfl ?_); refine goesL_ (some 19) rfl rfl Try.func107 (by kernel_rfl) rfl #[.int .i64 a0_2] rfl (by (try simp only [List.map_toArray, List.map_cons, List.map_nil]); first | done | rfl | (simp only [List.length_drop, List.length_take]; rfl)) ?_; (with_reducible refine (spec_l02Mac.calls a0_2 false _ A11.out).mono ?_); rintro e w' ⟨rfl, ⟨nd, rfl⟩⟩; refine ⟨_, rfl, ?_⟩))
      go_ret
      exact ⟨by first | rfl | (simp [errW_none, errW_some] <;> rfl) | (simp [*, errW_none, errW_some] <;> rfl), by repeat (first | (with_reducible first | exact HB.out | apply below_alloc | apply pw_below_drewN | apply below_drew1 | refine below_set ?_ GE150.out) | exact HB.out)⟩
    ·rw [if_neg c10] at H
     have c10b0 : (a0_0 == 2) = false := beq_eq_false_iff_ne.mpr c10
     have c10b1 : (a0_0 != 2) = true := bne_iff_ne.mpr c10
     by_cases c22 : a0_0 = 3
     ·rw [if_pos c22] at H
      have c22b0 : (a0_0 == 3) = true := beq_iff_eq.mpr c22
      have c22b1 : (a0_0 != 3) = false := bne_eq_false_iff_eq.mpr c22
      clear c22
      by_cases c23 : a0_2 = 0
      ·rw [if_pos c23] at H
       have c23b0 : (a0_2 == 0) = true := beq_iff_eq.mpr c23
       have c23b1 : (a0_2 != 0) = false := bne_eq_false_iff_eq.mpr c23
       clear c23
       by_cases c24 : a0_3 = 0
       ·rw [if_pos c24] at H
        have c24b0 : (a0_3 == 0) = true := beq_iff_eq.mpr c24
        have c24b1 : (a0_3 != 0) = false := bne_eq_false_iff_eq.mpr c24
        clear c24
        by_cases c25 : a0_5 = 0
        ·rw [if_pos c25] at H
         have c25b0 : (a0_5 == 0) = true := beq_iff_eq.mpr c25
         have c25b1 : (a0_5 != 0) = false := bne_eq_false_iff_eq.mpr c25
         clear c25
         obtain rfl := Option.some.inj H
         have hcz26_0 : wc.cell? ⟨gb150, 0, none⟩ = some (.int .i64 a0_0) := (blk_cell BK150.out 0).trans rfl
         have hcz26_1 : wc.cell? ⟨gb150, 1, none⟩ = some (.int .i64 a0_1) := (blk_cell BK150.out 1).trans rfl
         have hcz26_2 : wc.cell? ⟨gb150, 2, none⟩ = some (.int .i64 a0_2) := (blk_cell BK150.out 2).trans rfl
         have hcz26_3 : wc.cell? ⟨gb150, 3, none⟩ = some (.int .i64 a0_3) := (blk_cell BK150.out 3).trans rfl
         have hcz26_4 : wc.cell? ⟨gb150, 4, none⟩ = some (.int .i64 a0_4) := (blk_cell BK150.out 4).trans rfl
         have hcz26_5 : wc.cell? ⟨gb150, 5, none⟩ = some (.int .i64 a0_5) := (blk_cell BK150.out 5).trans rfl
         have hcz26_6 : wc.cell? ⟨gb150, 6, none⟩ = some (.bool a0_6) := (blk_cell BK150.out 6).trans rfl
         have hfz26_0 := blk_frozen BK150.out 0
         have hfz26_1 := blk_frozen BK150.out 1
         have hfz26_2 := blk_frozen BK150.out 2
         have hfz26_3 := blk_frozen BK150.out 3
         have hfz26_4 := blk_frozen BK150.out 4
         have hfz26_5 := blk_frozen BK150.out 5
         have hfz26_6 := blk_frozen BK150.out 6
         go_wp2
         go_ret
         exact ⟨by first | rfl | (simp [errW_none, errW_some] <;> rfl) | (simp [*, errW_none, errW_some] <;> rfl), by repeat (first | (with_reducible first | exact HB.out | apply below_alloc | apply pw_below_drewN | apply below_drew1 | refine below_set ?_ GE150.out) | exact HB.out)⟩
        ·rw [if_neg c25] at H
         have c25b0 : (a0_5 == 0) = false := beq_eq_false_iff_ne.mpr c25
         have c25b1 : (a0_5 != 0) = true := bne_iff_ne.mpr c25
         obtain rfl := Option.some.inj H
         have hcz27_0 : wc.cell? ⟨gb150, 0, none⟩ = some (.int .i64 a0_0) := (blk_cell BK150.out 0).trans rfl
         have hcz27_1 : wc.cell? ⟨gb150, 1, none⟩ = some (.int .i64 a0_1) := (blk_cell BK150.out 1).trans rfl
         have hcz27_2 : wc.cell? ⟨gb150, 2, none⟩ = some (.int .i64 a0_2) := (blk_cell BK150.out 2).trans rfl
         have hcz27_3 : wc.cell? ⟨gb150, 3, none⟩ = some (.int .i64 a0_3) := (blk_cell BK150.out 3).trans rfl
         have hcz27_4 : wc.cell? ⟨gb150, 4, none⟩ = some (.int .i64 a0_4) := (blk_cell BK150.out 4).trans rfl
         have hcz27_5 : wc.cell? ⟨gb150, 5, none⟩ = some (.int .i64 a0_5) := (blk_cell BK150.out 5).trans rfl
         have hcz27_6 : wc.cell? ⟨gb150, 6, none⟩ = some (.bool a0_6) := (blk_cell BK150.out 6).trans rfl
         have hfz27_0 := blk_frozen BK150.out 0
         have hfz27_1 := blk_frozen BK150.out 1
         have hfz27_2 := blk_frozen BK150.out 2
         have hfz27_3 := blk_frozen BK150.out 3
         have hfz27_4 := blk_frozen BK150.out 4
         have hfz27_5 := blk_frozen BK150.out 5
         have hfz27_6 := blk_frozen BK150.out 6
         go_wp2
         go_ret
         exact ⟨by first | rfl | (simp [errW_none, errW_some] <;> rfl) | (simp [*, errW_none, errW_some] <;> rfl), by repeat (first | (with_reducible first | exact HB.out | apply below_alloc | apply pw_below_drewN | apply below_drew1 | refine below_set ?_ GE150.out) | exact HB.out)⟩
       ·rw [if_neg c24] at H
        have c24b0 : (a0_3 == 0) = false := beq_eq_false_iff_ne.mpr c24
        have c24b1 : (a0_3 != 0) = true := bne_iff_ne.mpr c24
        obtain rfl := Option.some.inj H
        have hcz28_0 : wc.cell? ⟨gb150, 0, none⟩ = some (.int .i64 a0_0) := (blk_cell BK150.out 0).trans rfl
        have hcz28_1 : wc.cell? ⟨gb150, 1, none⟩ = some (.int .i64 a0_1) := (blk_cell BK150.out 1).trans rfl
        have hcz28_2 : wc.cell? ⟨gb150, 2, none⟩ = some (.int .i64 a0_2) := (blk_cell BK150.out 2).trans rfl
        have hcz28_3 : wc.cell? ⟨gb150, 3, none⟩ = some (.int .i64 a0_3) := (blk_cell BK150.out 3).trans rfl
        have hcz28_4 : wc.cell? ⟨gb150, 4, none⟩ = some (.int .i64 a0_4) := (blk_cell BK150.out 4).trans rfl
        have hcz28_5 : wc.cell? ⟨gb150, 5, none⟩ = some (.int .i64 a0_5) := (blk_cell BK150.out 5).trans rfl
        have hcz28_6 : wc.cell? ⟨gb150, 6, none⟩ = some (.bool a0_6) := (blk_cell BK150.out 6).trans rfl
        have hfz28_0 := blk_frozen BK150.out 0
        have hfz28_1 := blk_frozen BK150.out 1
        have hfz28_2 := blk_frozen BK150.out 2
        have hfz28_3 := blk_frozen BK150.out 3
        have hfz28_4 := blk_frozen BK150.out 4
        have hfz28_5 := blk_frozen BK150.out 5
        have hfz28_6 := blk_frozen BK150.out 6
        go_wp2
        go_ret
        exact ⟨by first | rfl | (simp [errW_none, errW_some] <;> rfl) | (simp [*, errW_none, errW_some] <;> rfl), by repeat (first | (with_reducible first | exact HB.out | apply below_alloc | apply pw_below_drewN | apply below_drew1 | refine below_set ?_ GE150.out) | exact HB.out)⟩
      ·rw [if_neg c23] at H
       have c23b0 : (a0_2 == 0) = false := beq_eq_false_iff_ne.mpr c23
       have c23b1 : (a0_2 != 0) = true := bne_iff_ne.mpr c23
       obtain rfl := Option.some.inj H
       have hcz29_0 : wc.cell? ⟨gb150, 0, none⟩ = some (.int .i64 a0_0) := (blk_cell BK150.out 0).trans rfl
       have hcz29_1 : wc.cell? ⟨gb150, 1, none⟩ = some (.int .i64 a0_1) := (blk_cell BK150.out 1).trans rfl
       have hcz29_2 : wc.cell? ⟨gb150, 2, none⟩ = some (.int .i64 a0_2) := (blk_cell BK150.out 2).trans rfl
       have hcz29_3 : wc.cell? ⟨gb150, 3, none⟩ = some (.int .i64 a0_3) := (blk_cell BK150.out 3).trans rfl
       have hcz29_4 : wc.cell? ⟨gb150, 4, none⟩ = some (.int .i64 a0_4) := (blk_cell BK150.out 4).trans rfl
       have hcz29_5 : wc.cell? ⟨gb150, 5, none⟩ = some (.int .i64 a0_5) := (blk_cell BK150.out 5).trans rfl
       have hcz29_6 : wc.cell? ⟨gb150, 6, none⟩ = some (.bool a0_6) := (blk_cell BK150.out 6).trans rfl
       have hfz29_0 := blk_frozen BK150.out 0
       have hfz29_1 := blk_frozen BK150.out 1
       have hfz29_2 := blk_frozen BK150.out 2
       have hfz29_3 := blk_frozen BK150.out 3
       have hfz29_4 := blk_frozen BK150.out 4
       have hfz29_5 := blk_frozen BK150.out 5
       have hfz29_6 := blk_frozen BK150.out 6
       go_wp2
       go_ret
       exact ⟨by first | rfl | (simp [errW_none, errW_some] <;> rfl) | (simp [*, errW_none, errW_some] <;> rfl), by repeat (first | (with_reducible first | exact HB.out | apply below_alloc | apply pw_below_drewN | apply below_drew1 | refine below_set ?_ GE150.out) | exact HB.out)⟩
     ·rw [if_neg c22] at H
      have c22b0 : (a0_0 == 3) = false := beq_eq_false_iff_ne.mpr c22
      have c22b1 : (a0_0 != 3) = true := bne_iff_ne.mpr c22
      obtain rfl := Option.some.inj H
      have hcz30_0 : wc.cell? ⟨gb150, 0, none⟩ = some (.int .i64 a0_0) := (blk_cell BK150.out 0).trans rfl
      have hcz30_1 : wc.cell? ⟨gb150, 1, none⟩ = some (.int .i64 a0_1) := (blk_cell BK150.out 1).trans rfl
      have hcz30_2 : wc.cell? ⟨gb150, 2, none⟩ = some (.int .i64 a0_2) := (blk_cell BK150.out 2).trans rfl
      have hcz30_3 : wc.cell? ⟨gb150, 3, none⟩ = some (.int .i64 a0_3) := (blk_cell BK150.out 3).trans rfl
      have hcz30_4 : wc.cell? ⟨gb150, 4, none⟩ = some (.int .i64 a0_4) := (blk_cell BK150.out 4).trans rfl
      have hcz30_5 : wc.cell? ⟨gb150, 5, none⟩ = some (.int .i64 a0_5) := (blk_cell BK150.out 5).trans rfl
      have hcz30_6 : wc.cell? ⟨gb150, 6, none⟩ = some (.bool a0_6) := (blk_cell BK150.out 6).trans rfl
      have hfz30_0 := blk_frozen BK150.out 0
      have hfz30_1 := blk_frozen BK150.out 1
      have hfz30_2 := blk_frozen BK150.out 2
      have hfz30_3 := blk_frozen BK150.out 3
      have hfz30_4 := blk_frozen BK150.out 4
      have hfz30_5 := blk_frozen BK150.out 5
      have hfz30_6 := blk_frozen BK150.out 6
      go_wp2
      go_ret
      exact ⟨by first | rfl | (simp [errW_none, errW_some] <;> rfl) | (simp [*, errW_none, errW_some] <;> rfl), by repeat (first | (with_reducible first | exact HB.out | apply below_alloc | apply pw_below_drewN | apply below_drew1 | refine below_set ?_ GE150.out) | exact HB.out)⟩
end Go.Proofs.Ytmgmaflfednngaa.PFnExactRibStale
