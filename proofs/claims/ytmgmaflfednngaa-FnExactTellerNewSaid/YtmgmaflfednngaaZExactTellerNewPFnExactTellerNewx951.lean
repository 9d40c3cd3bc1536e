-- A copy, made by trim.py (its own words shortened): not an official print.
import Derived.Test.YtmgmaflfednngaaZExactTellerNewPFnExactTellerNewx0
import Derived.Test.YtmgmaflfednngaaZExactTellerNewPFnExactTellerNewx1
import Derived.Test.YtmgmaflfednngaaZExactTellerNewPFnExactTellerNewx2
import Derived.Test.YtmgmaflfednngaaZExactTellerNewPFnExactTellerNewx3
import Derived.Test.YtmgmaflfednngaaZExactTellerNewPFnExactTellerNewx4
import Derived.Test.YtmgmaflfednngaaZExactTellerNewPFnExactTellerNewx5
import Derived.Test.YtmgmaflfednngaaZExactTellerNewPFnExactTellerNewx6
import Derived.Test.YtmgmaflfednngaaZExactTellerNewPFnExactTellerNewx7
import Derived.Test.YtmgmaflfednngaaZExactTellerNewPFnExactTellerNewx8
import Derived.Test.YtmgmaflfednngaaZExactTellerNewPFnExactTellerNewx9
import Derived.Test.YtmgmaflfednngaaZExactTellerNewPFnExactTellerNewx10
import Derived.Test.YtmgmaflfednngaaZExactTellerNewBase
import Derived.Test.YtmgmaflfednngaaZExactTellerNewSlices
import Derived.Test.YtmgmaflfednngaaZExactTellerNewPFnExactTellerNewx950
namespace Go.Proofs.Ytmgmaflfednngaa.PFnExactTellerNew
open Go.RowKit Go.Proofs.YtmgmaflfednngaaW.PrintWords Go.Proofs.YtmgmaflfednngaaW.PrintLast Go.Proofs.YtmgmaflfednngaaW.PrintMore
attribute [local go_sem] max2_int min2_int max_two min_two max_three min_three max_four min_four   -- for this text's walks alone
set_option linter.unusedVariables false
set_option linter.unusedSimpArgs false
theorem pipe_held_apart {w : World} {k : Nat} (h1 : ∃ q, q ∈ 100 :: k100.E ∧ ∃ cells, w.heap[k]? = some (.cells cells q (0, 0))) (h2 : ∃ q, q ∈ 73 :: k73.E ∧ ∃ cells, w.heap[k]? = some (.cells cells q (0, 0))) : False := by
 obtain ⟨q1, m1, c1, e1⟩ := h1
 obtain ⟨q2, m2, c2, e2⟩ := h2
 rw [e1] at e2
 injection e2 with e2
 injection e2 with _ e2
 subst e2
 revert m1 m2
 show q1 ∈ [100, 9] → q1 ∈ [73] → False
 intro m1 m2
 simp only [List.mem_cons, List.not_mem_nil, or_false] at m1 m2
 omega
set_option maxHeartbeats 1600000 in
set_option maxRecDepth 100000 in
theorem markTeller_calls (P : Nat → Prop) (a e : Int) (u2 u3 : Value) (l2 : List S100) (l3 : List S73) (m : Int) (w0 w : World) (hB : Below w0.heap.size w0 w) (ho2 : Kd.S k100 100 w w0.heap.size P u2 l2) (ho3 : Kd.R k73 73 w w0.heap.size P u3 l3) (hm : 0 ≤ m) (hB2 : m + pn l2 ≤ 1000000000000) (hs : ∀ x ∈ l2, x.f4.length ≤ 1048576) (hl : l3.length ≤ 1048576) :
  Calls Try.prog 44 #[.agg #[.int .i64 a, .int .i64 e, u2, u3], .int .i64 m] w fun e w' => e = .returned (.int .i64 (m + pn l2 + 9 * l3.length)) ∧ Kd.S k100 100 w' w0.heap.size (fun k => P k ∨ w.heap.size ≤ k) u2 (pm m l2) ∧ Kd.R k73 73 w' w0.heap.size (fun k => P k ∨ w.heap.size ≤ k) u3 (Base.marked 9 markHeld (m + pn l2) l3.length) ∧ Below w0.heap.size w0 w' ∧ Kept w w' P := by
 have hS := Kd.S_bound ho2
 have hR := Kd.R_bound ho3
 obtain ⟨A2, c2, rfl⟩ := Kd.S_slice ho2
 obtain ⟨A3, c3, rfl⟩ := Kd.R_slice ho3
 have HS := Aside0.mk (Kd.S_alloc hS (.cells #[.int .i64 a, .int .i64 e, .slice A2 l2.length c2, .slice A3 l3.length c3] 57))
 have HR := Aside0.mk (Kd.R_alloc hR (.cells #[.int .i64 a, .int .i64 e, .slice A2 l2.length c2, .slice A3 l3.length c3] 57))
 have HB := Aside0.mk (hB.alloc hB.size (.cells #[.int .i64 a, .int .i64 e, .slice A2 l2.length c2, .slice A3 l3.length c3] 57))
 have bk := blk_new w (.cells #[.int .i64 a, .int .i64 e, .slice A2 l2.length c2, .slice A3 l3.length c3] 57)
 have BK := Aside0.mk bk
 have HSM := Aside0.mk hs
 have HP2 := Aside0.mk hB2
 have HN := Aside0.mk (pn_nonneg l2)
 have HM3 := Aside0.mk (laws_markHeldS_eq l3 (m + pn l2) hl (by have := pn_nonneg l2; omega) hB2 (l3.length + 1) (by omega))
 have b2 := (Qa bk 2).trans rfl
 have b3 := (Qa bk 3).trans rfl
 clear ho2 ho3 hS hR hB bk hs hB2
 go_enter Try.func44, Try.ntmps44
 go_wp2_with fail
 refine (markPipeS_calls _ _ l2 m w0 _ HB.out HS.out hm HP2.out HSM.out).mono ?_
 rintro e w2 ⟨rfl, hS2, hB2, hK2⟩
 have HS2 := Aside0.mk hS2
 have HB2 := Aside0.mk hB2
 have HK2 := Aside0.mk hK2
 have HR2 := Aside0.mk (Kd.R_kept HR.out hK2 (fun k h3 h2 => pipe_held_apart h2.2.2.2 h3.2.2.2))
 have bk2 := blk_kept BK.out hK2 (fun h => Nat.lt_irrefl _ h.2.2.1)
 have d3 := (Qa bk2 3).trans rfl
 clear hS2 hB2 hK2 bk2 b2 b3
 go_wp2_with fail
 refine (laws_markHeldS.calls (l3.length + 1) _ _ l3 (m + pn l2) _ _ w0 _ HB2.out HR2.out HM3.out).mono ?_
 rintro e w3 ⟨rfl, hR3, hB3, hK3⟩
 have hw : w.heap.size < (w.alloc (.cells #[.int .i64 a, .int .i64 e, .slice A2 l2.length c2, .slice A3 l3.length c3] 57)).heap.size := by simp
 have hw2 := HK2.out.1
 have HS3 := Aside0.mk (Kd.S_kept HS2.out hK3 (fun k h2 h3 => h2.elim (fun h => pipe_held_apart h.2.2.2 h3.2.2.2) (fun h => by have := h3.2.2.1; omega)))
 have HK3 := Aside0.mk ((((Kept.refl w P).alloc (.cells #[.int .i64 a, .int .i64 e, .slice A2 l2.length c2, .slice A3 l3.length c3] 57)).then_ HK2.out (fun k h => .inl h.1)).then_ hK3 (fun k h => .inl h.1))
 have HR3 := Aside0.mk hR3
 have HB3 := Aside0.mk hB3
 have HW := Aside0.mk hw
 have HW2 := Aside0.mk hw2
 clear hR3 hB3 hK3 hw hw2
 go_wp2
 go_ret
 exact ⟨rfl, Kd.S_mono HS3.out (fun k h => h.elim (fun h => .inl h.1) (fun h => .inr (by have := HW.out; omega))), Kd.R_mono HR3.out (fun k h => h.elim (fun h => .inl h.1) (fun h => .inr (by have := HW.out; have := HW2.out; omega))), HB3.out, HK3.out⟩
set_option maxHeartbeats 1600000 in
set_option maxRecDepth 100000 in
theorem markTellerOut_calls (P : Nat → Prop) (a e code : Int) (u2 u3 : Value) (l2 : List S100) (l3 : List S73) (m : Int) (w0 w : World) (hB : Below w0.heap.size w0 w) (ho2 : Kd.S k100 100 w w0.heap.size P u2 l2) (ho3 : Kd.R k73 73 w w0.heap.size P u3 l3) (hm : 0 ≤ m) (hB2 : m + pn l2 ≤ 1000000000000) (hs : ∀ x ∈ l2, x.f4.length ≤ 1048576) (hl : l3.length ≤ 1048576) :
  Calls Try.prog 50 #[.agg #[.int .i64 a, .int .i64 e, u2, u3, .int .i64 code], .int .i64 m] w fun e w' => e = .returned (.int .i64 (m + pn l2 + 9 * l3.length)) ∧ Kd.S k100 100 w' w0.heap.size (fun k => P k ∨ w.heap.size ≤ k) u2 (pm m l2) ∧ Kd.R k73 73 w' w0.heap.size (fun k => P k ∨ w.heap.size ≤ k) u3 (Base.marked 9 markHeld (m + pn l2) l3.length) ∧ Below w0.heap.size w0 w' ∧ Kept w w' P := by
 have ho2' := ho2
 have ho3' := ho3
 obtain ⟨A2, c2, rfl⟩ := Kd.S_slice ho2
 obtain ⟨A3, c3, rfl⟩ := Kd.R_slice ho3
 have HC := Aside0.mk (markTeller_calls P a e _ _ l2 l3 m w0 _ (hB.alloc hB.size (.cells #[.int .i64 a, .int .i64 e, .slice A2 l2.length c2, .slice A3 l3.length c3, .int .i64 code] 65)) (Kd.S_alloc ho2 _) (Kd.R_alloc ho3 _) hm hB2 hs hl)
 have bk := blk_new w (.cells #[.int .i64 a, .int .i64 e, .slice A2 l2.length c2, .slice A3 l3.length c3, .int .i64 code] 65)
 have b0 := (Qa bk 0).trans rfl
 have b1 := (Qa bk 1).trans rfl
 have b2 := (Qa bk 2).trans rfl
 have b3 := (Qa bk 3).trans rfl
 clear ho2 ho3 ho2' ho3' hB bk hs hB2
 go_enter Try.func50, Try.ntmps50
 go_wp2_with fail
 refine HC.out.mono ?_
 rintro e w2 ⟨rfl, hS2, hR2, hB2, hK2⟩
 have hw : w.heap.size < (w.alloc (.cells #[.int .i64 a, .int .i64 e, .slice A2 l2.length c2, .slice A3 l3.length c3, .int .i64 code] 65)).heap.size := by simp
 have HS2 := Aside0.mk (Kd.S_mono (ok' := fun k => P k ∨ w.heap.size ≤ k) hS2 (fun k h => h.elim .inl (fun h => .inr (by omega))))
 have HR2 := Aside0.mk (Kd.R_mono (ok' := fun k => P k ∨ w.heap.size ≤ k) hR2 (fun k h => h.elim .inl (fun h => .inr (by omega))))
 have HB2 := Aside0.mk hB2
 have HK2 := Aside0.mk (((Kept.refl w P).alloc (.cells #[.int .i64 a, .int .i64 e, .slice A2 l2.length c2, .slice A3 l3.length c3, .int .i64 code] 65)).then_ hK2 (fun k h => .inl h))
 clear hS2 hR2 hB2 hK2 HC hw
 go_wp2
 go_ret
 exact ⟨rfl, HS2.out, HR2.out, HB2.out, HK2.out⟩
end Go.Proofs.Ytmgmaflfednngaa.PFnExactTellerNew
