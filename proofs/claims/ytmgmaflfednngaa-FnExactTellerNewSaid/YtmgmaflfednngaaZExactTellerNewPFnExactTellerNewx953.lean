-- A copy, made by trim.py (its own words shortened): not an official print.
import Derived.Test.YtmgmaflfednngaaZExactTellerNewPFnExactTellerNewx0
import Derived.Test.YtmgmaflfednngaaZExactTellerNewPFnExactTellerNewx1
import Derived.Test.YtmgmaflfednngaaZExactTellerNewPFnExactTellerNewx2
import Derived.Test.YtmgmaflfednngaaZExactTellerNewPFnExactTellerNewx3
import Derived.Test.YtmgmaflfednngaaZExactTellerNewPFnExactTellerNewx4
import Derived.Test.YtmgmaflfednngaaZExactTellerNewPFnExactTellerNewx5
import Derived.Test.YtmgmaflfednngaaZExactTellerNewPFnExactTellerNewx6
import Derived.Test.YtmgmaflfednngaaZExactTellerNewPFnExactTellerNewx7
import Derived.Test.YtmgmaflfednngaaZExactTellerNewPFnExactTellerNewx8
import Derived.Test.YtmgmaflfednngaaZExactTellerNewPFnExactTellerNewx9
import Derived.Test.YtmgmaflfednngaaZExactTellerNewPFnExactTellerNewx10
import Derived.Test.YtmgmaflfednngaaZExactTellerNewBase
import Derived.Test.YtmgmaflfednngaaZExactTellerNewSlices
import Derived.Test.YtmgmaflfednngaaZExactTellerNewPFnExactTellerNewx950
import Derived.Test.YtmgmaflfednngaaZExactTellerNewPFnExactTellerNewx951
import Derived.Test.YtmgmaflfednngaaZExactTellerNewPFnExactTellerNewx952
namespace Go.Proofs.Ytmgmaflfednngaa.PFnExactTellerNew
open Go.RowKit Go.Proofs.YtmgmaflfednngaaW.PrintWords Go.Proofs.YtmgmaflfednngaaW.PrintLast Go.Proofs.YtmgmaflfednngaaW.PrintMore
attribute [local go_sem] max2_int min2_int max_two min_two max_three min_three max_four min_four   -- for this text's walks alone
set_option linter.unusedVariables false
set_option linter.unusedSimpArgs false
def laws_FnExactTellerNew.f (k : Nat) (a0 : Int) (a1 : Int) (a2 : Int) : Option Bool := some true
set_option maxHeartbeats 16000000 in
set_option maxRecDepth 100000 in
theorem laws_FnExactTellerNew.calls_true (k : Nat) (a0 : Int) (a1 : Int) (a2 : Int) (w : World) (h : laws_FnExactTellerNew.f k a0 a1 a2 = some true) :
  Calls Try.prog 11 #[.int .i64 a0, .int .i64 a1, .int .i64 a2] w fun e w' => e = .returned (.bool true) ∧ Below w.heap.size w w' := by
 clear h
 obtain ⟨i, hi⟩ : ∃ i, i = newI a0 a1 a2 := ⟨_, rfl⟩
 obtain ⟨ep, he⟩ : ∃ i, i = newE a0 a1 a2 := ⟨_, rfl⟩
 obtain ⟨ps, hp⟩ : ∃ i, i = newP a0 a1 a2 := ⟨_, rfl⟩
 obtain ⟨code, hc⟩ : ∃ i, i = newC a0 a1 a2 := ⟨_, rfl⟩
 obtain ⟨rb, hr⟩ : ∃ rb : List S73, rb = [] := ⟨_, rfl⟩
 have ES := Aside0.mk (spec_TellerNew_eq a0 a1 a2 20 (by omega))
 have EI := Aside0.mk (impl_TellerNew_eq a0 a1 a2 20 (by omega))
 have hl : ps.length ≤ 4 := hp ▸ newP_len a0 a1 a2
 have hs : ∀ x ∈ ps, x.f4.length ≤ 1048576 := hp ▸ newP_out a0 a1 a2
 have hn : pn ps ≤ 16 := hp ▸ newP_pn a0 a1 a2
 have hrl : rb.length ≤ 1048576 := by rw [hr]; simp
 rw [← hi, ← he, ← hp, ← hc, ← hr] at ES EI
 have EQ := Aside0.mk (laws_eqTellerOut_self i ep code ps rb (by omega) hs hrl 2200000 (by omega))
 have EH := Aside0.mk (laws_heldTellerOut_eq i ep code ps rb.length (by omega) hs (by omega) hrl 2200000 (by omega))
 have HS := Aside0.mk hs
 have HN := Aside0.mk hn
 have HN0 := Aside0.mk (pn_nonneg ps)
 have HRL := Aside0.mk hrl
 obtain ⟨mm, hmm⟩ : ∃ mm : Int, mm = 1 + pn ps + 9 * (rb.length : Int) := ⟨_, rfl⟩
 have hmm0 : 0 ≤ mm := by have := HN0.out; omega
 rw [← hmm] at EH
 have HMM := Aside0.mk hmm.symm
 clear hmm
 clear hi he hp hc hs hn hl hr hrl
 go_enter Try.func11, Try.ntmps11
 go_wp2_with fail
 refine (spec_TellerNew.calls 20 a0 a1 a2 i ep ps rb code w ES.out).mono ?_
 rintro e w1 ⟨v2, v3, rfl, hS, hR, hb⟩
 obtain ⟨A1, c1, e2⟩ := Kd.S_slice hS
 subst e2
 obtain ⟨D1, d1, e3⟩ := Kd.R_slice hR
 subst e3
 have S1 := Aside0.mk (Kd.S_mono (ok' := fun k => k < w1.heap.size) (Kd.S_bound hS) (fun k h => h.2.2.1))
 have R1 := Aside0.mk (Kd.R_mono (ok' := fun k => k < w1.heap.size) (Kd.R_bound hR) (fun k h => h.2.2.1))
 have B1 := Aside0.mk hb
 clear hS hR hb
 have K7 := Aside0.mk (blk_new w1 (.cells #[.int .i64 i, .int .i64 ep, .slice A1 ps.length c1, .slice D1 rb.length d1, .int .i64 code] 65))
 have B2 := Aside0.mk (Qe B1.out (.cells #[.int .i64 i, .int .i64 ep, .slice A1 ps.length c1, .slice D1 rb.length d1, .int .i64 code] 65))
 have S2 := Aside0.mk (Kd.S_alloc S1.out (.cells #[.int .i64 i, .int .i64 ep, .slice A1 ps.length c1, .slice D1 rb.length d1, .int .i64 code] 65))
 have R2 := Aside0.mk (Kd.R_alloc R1.out (.cells #[.int .i64 i, .int .i64 ep, .slice A1 ps.length c1, .slice D1 rb.length d1, .int .i64 code] 65))
 have Z2 := Aside0.mk (World.size_alloc w1 (.cells #[.int .i64 i, .int .i64 ep, .slice A1 ps.length c1, .slice D1 rb.length d1, .int .i64 code] 65))
 go_wp2_with fail
 refine (impl_TellerNew.calls 20 a0 a1 a2 i ep ps rb code _ EI.out).mono ?_
 rintro e w3 ⟨v2, v3, rfl, hS, hR, hb⟩
 obtain ⟨A3, c3, e2⟩ := Kd.S_slice hS
 subst e2
 obtain ⟨D3, d3, e3⟩ := Kd.R_slice hR
 subst e3
 have G3 := Aside0.mk (Kd.S_mono (ok' := fun k => w1.heap.size < k ∧ k < w3.heap.size) (Kd.S_bound hS) (fun k h => ⟨by have := h.2.1; rw [Z2.out] at this; omega, h.2.2.1⟩))
 have H3 := Aside0.mk (Kd.R_mono (ok' := fun k => w1.heap.size < k ∧ k < w3.heap.size) (Kd.R_bound hR) (fun k h => ⟨by have := h.2.1; rw [Z2.out] at this; omega, h.2.2.1⟩))
 have Z3 := Aside0.mk (show w1.heap.size < w3.heap.size by have := hb.size; rw [Z2.out] at this; omega)
 have S3 := Aside0.mk (Kd.S_below S2.out hb)
 have R3 := Aside0.mk (Kd.R_below R2.out hb)
 have B3 := Aside0.mk (Ql B2.out hb)
 have K73 := Aside0.mk (Qo K7.out hb)
 clear hS hR hb
 have K8 := Aside0.mk (blk_new w3 (.cells #[.int .i64 i, .int .i64 ep, .slice A3 ps.length c3, .slice D3 rb.length d3, .int .i64 code] 65))
 have B4 := Aside0.mk (Qe B3.out (.cells #[.int .i64 i, .int .i64 ep, .slice A3 ps.length c3, .slice D3 rb.length d3, .int .i64 code] 65))
 have S4 := Aside0.mk (Kd.S_alloc S3.out (.cells #[.int .i64 i, .int .i64 ep, .slice A3 ps.length c3, .slice D3 rb.length d3, .int .i64 code] 65))
 have R4 := Aside0.mk (Kd.R_alloc R3.out (.cells #[.int .i64 i, .int .i64 ep, .slice A3 ps.length c3, .slice D3 rb.length d3, .int .i64 code] 65))
 have G4 := Aside0.mk (Kd.S_alloc G3.out (.cells #[.int .i64 i, .int .i64 ep, .slice A3 ps.length c3, .slice D3 rb.length d3, .int .i64 code] 65))
 have H4 := Aside0.mk (Kd.R_alloc H3.out (.cells #[.int .i64 i, .int .i64 ep, .slice A3 ps.length c3, .slice D3 rb.length d3, .int .i64 code] 65))
 have K74 := Aside0.mk (Qi K73.out (.cells #[.int .i64 i, .int .i64 ep, .slice A3 ps.length c3, .slice D3 rb.length d3, .int .i64 code] 65))
 have qa0 := (Qa K74.out 0).trans rfl
 have qa1 := (Qa K74.out 1).trans rfl
 have qa2 := (Qa K74.out 2).trans rfl
 have qa3 := (Qa K74.out 3).trans rfl
 have qa4 := (Qa K74.out 4).trans rfl
 go_wp2_with fail
 refine (laws_eqTellerOut.calls 2200000 i ep A3 c3 ps D3 d3 rb code i ep A1 c1 ps D1 d1 rb code true _ (Kd.S_reads' G4.out).2.2 (Kd.S_reads' G4.out).2.1 (Kd.R_reads' H4.out).2.2 (Kd.R_reads' H4.out).2.1 (Kd.S_reads' S4.out).2.2 (Kd.S_reads' S4.out).2.1 (Kd.R_reads' R4.out).2.2 (Kd.R_reads' R4.out).2.1 EQ.out).mono ?_
 rintro e w5 ⟨rfl, hb⟩
 have S5 := Aside0.mk (Kd.S_below S4.out hb)
 have R5 := Aside0.mk (Kd.R_below R4.out hb)
 have G5 := Aside0.mk (Kd.S_below G4.out hb)
 have H5 := Aside0.mk (Kd.R_below H4.out hb)
 have B5 := Aside0.mk (Ql B4.out hb)
 have K75 := Aside0.mk (Qo K74.out hb)
 have K85 := Aside0.mk (Qo K8.out hb)
 clear hb 
 have qb0 := (Qa K85.out 0).trans rfl
 have qb1 := (Qa K85.out 1).trans rfl
 have qb2 := (Qa K85.out 2).trans rfl
 have qb3 := (Qa K85.out 3).trans rfl
 have qb4 := (Qa K85.out 4).trans rfl
 go_wp2_with fail
 refine (markTellerOut_calls (fun k => w1.heap.size < k ∧ k < w3.heap.size) i ep code _ _ ps rb 1 w _ B5.out (Kd.S_lower G5.out (by have := B1.out.size; rw [Z2.out]; omega)) (Kd.R_lower H5.out (by have := B1.out.size; rw [Z2.out]; omega)) (by omega) (by have := HN.out; omega) HS.out HRL.out).mono ?_
 rintro e w6 ⟨he, hS, hR, hb, hk⟩
 rw [HMM.out] at he
 subst he
 have G6 := Aside0.mk hS
 have H6 := Aside0.mk hR
 have B6 := Aside0.mk hb
 have S6 := Aside0.mk (Kd.S_kept S5.out hk (fun k h1 h2 => by have := h2.1; omega))
 have R6 := Aside0.mk (Kd.R_kept R5.out hk (fun k h1 h2 => by have := h2.1; omega))
 have K76 := Aside0.mk (blk_kept K75.out hk (fun h => by have := h.1; omega))
 have K86 := Aside0.mk (blk_kept K85.out hk (fun h => by have := h.2; omega))
 clear hS hR hb hk qb0 qb1 qb2 qb3 qb4
 have qc0 := (Qa K86.out 0).trans rfl
 have qc1 := (Qa K86.out 1).trans rfl
 have qc2 := (Qa K86.out 2).trans rfl
 have qc3 := (Qa K86.out 3).trans rfl
 have qc4 := (Qa K86.out 4).trans rfl
 have hh := laws_heldTellerOut.calls 2200000 i ep A3 c3 (pm 1 ps) D3 d3 (Base.marked 9 markHeld (1 + pn ps) rb.length) code 1 _ _ (Kd.S_reads' G6.out).2.2 (by rw [pm_length]; exact (Kd.S_reads' G6.out).2.1) (Kd.R_reads' H6.out).2.2 (by rw [Base.marked_length]; exact (Kd.R_reads' H6.out).2.1) EH.out
 rw [pm_length, Base.marked_length] at hh
 have HH := Aside0.mk hh
 clear hh
 go_wp2_with fail
 refine HH.out.mono ?_
 rintro e w7 ⟨rfl, hb⟩
 clear HH
 have S7 := Aside0.mk (Kd.S_below S6.out hb)
 have R7 := Aside0.mk (Kd.R_below R6.out hb)
 have G7 := Aside0.mk (Kd.S_below G6.out hb)
 have H7 := Aside0.mk (Kd.R_below H6.out hb)
 have B7 := Aside0.mk (Ql B6.out hb)
 have K77 := Aside0.mk (Qo K76.out hb)
 have K87 := Aside0.mk (Qo K86.out hb)
 clear hb
 clear qc0 qc1 qc2 qc3 qc4
 go_wp2_with fail
 refine (impl_TellerNew.calls 20 a0 a1 a2 i ep ps rb code _ EI.out).mono ?_
 rintro e w8 ⟨v2, v3, rfl, hS, hR, hb⟩
 obtain ⟨A9, c9, e2⟩ := Kd.S_slice hS
 subst e2
 obtain ⟨D9, d9, e3⟩ := Kd.R_slice hR
 subst e3
 have P8 := Aside0.mk hS
 have Q8 := Aside0.mk hR
 have S8 := Aside0.mk (Kd.S_below S7.out hb)
 have R8 := Aside0.mk (Kd.R_below R7.out hb)
 have G8 := Aside0.mk (Kd.S_below G7.out hb)
 have H8 := Aside0.mk (Kd.R_below H7.out hb)
 have B8 := Aside0.mk (Ql B7.out hb)
 have K78 := Aside0.mk (Qo K77.out hb)
 have K88 := Aside0.mk (Qo K87.out hb)
 clear hb
 clear hS hR
 have K9 := Aside0.mk (blk_new w8 (.cells #[.int .i64 i, .int .i64 ep, .slice A9 ps.length c9, .slice D9 rb.length d9, .int .i64 code] 65))
 have P9 := Aside0.mk (Kd.S_alloc P8.out (.cells #[.int .i64 i, .int .i64 ep, .slice A9 ps.length c9, .slice D9 rb.length d9, .int .i64 code] 65))
 have Q9 := Aside0.mk (Kd.R_alloc Q8.out (.cells #[.int .i64 i, .int .i64 ep, .slice A9 ps.length c9, .slice D9 rb.length d9, .int .i64 code] 65))
 have S9 := Aside0.mk (Kd.S_alloc S8.out (.cells #[.int .i64 i, .int .i64 ep, .slice A9 ps.length c9, .slice D9 rb.length d9, .int .i64 code] 65))
 have R9 := Aside0.mk (Kd.R_alloc R8.out (.cells #[.int .i64 i, .int .i64 ep, .slice A9 ps.length c9, .slice D9 rb.length d9, .int .i64 code] 65))
 have G9 := Aside0.mk (Kd.S_alloc G8.out (.cells #[.int .i64 i, .int .i64 ep, .slice A9 ps.length c9, .slice D9 rb.length d9, .int .i64 code] 65))
 have H9 := Aside0.mk (Kd.R_alloc H8.out (.cells #[.int .i64 i, .int .i64 ep, .slice A9 ps.length c9, .slice D9 rb.length d9, .int .i64 code] 65))
 have B9 := Aside0.mk (Qe B8.out (.cells #[.int .i64 i, .int .i64 ep, .slice A9 ps.length c9, .slice D9 rb.length d9, .int .i64 code] 65))
 have K79 := Aside0.mk (Qi K78.out (.cells #[.int .i64 i, .int .i64 ep, .slice A9 ps.length c9, .slice D9 rb.length d9, .int .i64 code] 65))
 have K89 := Aside0.mk (Qi K88.out (.cells #[.int .i64 i, .int .i64 ep, .slice A9 ps.length c9, .slice D9 rb.length d9, .int .i64 code] 65))
 have qd0 := (Qa K79.out 0).trans rfl
 have qd1 := (Qa K79.out 1).trans rfl
 have qd2 := (Qa K79.out 2).trans rfl
 have qd3 := (Qa K79.out 3).trans rfl
 have qd4 := (Qa K79.out 4).trans rfl
 go_wp2_with fail
 refine (laws_eqTellerOut.calls 2200000 i ep A9 c9 ps D9 d9 rb code i ep A1 c1 ps D1 d1 rb code true _ (Kd.S_reads' P9.out).2.2 (Kd.S_reads' P9.out).2.1 (Kd.R_reads' Q9.out).2.2 (Kd.R_reads' Q9.out).2.1 (Kd.S_reads' S9.out).2.2 (Kd.S_reads' S9.out).2.1 (Kd.R_reads' R9.out).2.2 (Kd.R_reads' R9.out).2.1 EQ.out).mono ?_
 rintro e w10 ⟨rfl, hb⟩
 have G10 := Aside0.mk (Kd.S_below G9.out hb)
 have H10 := Aside0.mk (Kd.R_below H9.out hb)
 have B10 := Aside0.mk (Ql B9.out hb)
 have K810 := Aside0.mk (Qo K89.out hb)
 clear hb qd0 qd1 qd2 qd3 qd4
 have qe0 := (Qa K810.out 0).trans rfl
 have qe1 := (Qa K810.out 1).trans rfl
 have qe2 := (Qa K810.out 2).trans rfl
 have qe3 := (Qa K810.out 3).trans rfl
 have qe4 := (Qa K810.out 4).trans rfl
 have hh := laws_heldTellerOut.calls 2200000 i ep A3 c3 (pm 1 ps) D3 d3 (Base.marked 9 markHeld (1 + pn ps) rb.length) code 1 _ _ (Kd.S_reads' G10.out).2.2 (by rw [pm_length]; exact (Kd.S_reads' G10.out).2.1) (Kd.R_reads' H10.out).2.2 (by rw [Base.marked_length]; exact (Kd.R_reads' H10.out).2.1) EH.out
 rw [pm_length, Base.marked_length] at hh
 have HH := Aside0.mk hh
 clear hh
 go_wp2_with fail
 refine HH.out.mono ?_
 rintro e w11 ⟨rfl, hb⟩
 have B11 := Aside0.mk (Ql B10.out hb)
 clear hb HH qe0 qe1 qe2 qe3 qe4
 go_wp2
 go_ret
 exact ⟨rfl, B11.out⟩
end Go.Proofs.Ytmgmaflfednngaa.PFnExactTellerNew
