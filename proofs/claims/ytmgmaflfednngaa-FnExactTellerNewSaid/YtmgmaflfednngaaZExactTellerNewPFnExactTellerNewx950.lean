-- A copy, made by trim.py (its own words shortened): not an official print.
import Derived.Test.YtmgmaflfednngaaZExactTellerNewPFnExactTellerNewx0
import Derived.Test.YtmgmaflfednngaaZExactTellerNewPFnExactTellerNewx1
import Derived.Test.YtmgmaflfednngaaZExactTellerNewPFnExactTellerNewx2
import Derived.Test.YtmgmaflfednngaaZExactTellerNewPFnExactTellerNewx3
import Derived.Test.YtmgmaflfednngaaZExactTellerNewPFnExactTellerNewx4
import Derived.Test.YtmgmaflfednngaaZExactTellerNewPFnExactTellerNewx5
import Derived.Test.YtmgmaflfednngaaZExactTellerNewPFnExactTellerNewx6
import Derived.Test.YtmgmaflfednngaaZExactTellerNewPFnExactTellerNewx7
import Derived.Test.YtmgmaflfednngaaZExactTellerNewPFnExactTellerNewx8
import Derived.Test.YtmgmaflfednngaaZExactTellerNewPFnExactTellerNewx9
import Derived.Test.YtmgmaflfednngaaZExactTellerNewPFnExactTellerNewx10
import Derived.Test.YtmgmaflfednngaaZExactTellerNewBase
import Derived.Test.YtmgmaflfednngaaZExactTellerNewSlices
namespace Go.Proofs.Ytmgmaflfednngaa.PFnExactTellerNew
open Go.RowKit Go.Proofs.YtmgmaflfednngaaW.PrintWords Go.Proofs.YtmgmaflfednngaaW.PrintLast Go.Proofs.YtmgmaflfednngaaW.PrintMore
attribute [local go_sem] max2_int min2_int max_two min_two max_three min_three max_four min_four   -- for this text's walks alone
set_option linter.unusedVariables false
set_option linter.unusedSimpArgs false
section
open Go.Proofs.Ytmgmaflfednngaa.Base
theorem laws_eqHeldS_self (xs : List S73) (hn : xs.length ≤ 9223372036854775807) (k : Nat) (hk : xs.length < k) : laws_eqHeldS.f k xs xs = some true := by
 unfold laws_eqHeldS.f
 rw [if_pos rfl, show (0 : Int) = ((0 : Nat) : Int) from rfl]
 rw [chk_loop 0 (fun k i => laws_eqHeldS.l0 k xs xs i) xs.length (fun _ => true) true ?_ ?_ xs.length 0 k (by omega) hk]
 ·simp only [Bool.and_true, Option.some.injEq, chk_iff]
  intros; trivial
 ·intro k i _ hi
  simp only [laws_eqHeldS.l0, laws_eqHeld.f, laws_eqRoute.f, if_true, Option.bind_some, bne_self_eq_false, Bool.false_eq_true, if_false]
  rw [if_pos (by omega), if_pos (by omega), if_pos (by omega), wrap_up hi hn]
 ·intro k _
  simp only [laws_eqHeldS.l0]
  rw [if_neg (by omega)]
theorem laws_markHeldS_eq (xs : List S73) (m : Int) (hn : xs.length ≤ 1048576) (hm : 0 ≤ m) (hB : m ≤ 1000000000000) (k : Nat) (hk : xs.length < k) : laws_markHeldS.f k xs m = some (m + 9 * xs.length, marked 9 markHeld m xs.length) := by
 unfold laws_markHeldS.f
 refine mark_all 0 9 (fun k acc m i => laws_markHeldS.l0 k acc m i) xs markHeld 1000010000000 ?_ ?_ k m (by omega) hm (by omega)
 ·intro k i acc m _ hi hl hm hB
  have e1 : wrap64 (m + 1) = m + 1 := by unfold wrap64; omega
  have e2 : wrap64 (m + 1 + 1) = m + 2 := by unfold wrap64; omega
  have e3 : wrap64 (m + 2 + 1) = m + 3 := by unfold wrap64; omega
  have e4 : wrap64 (m + 3 + 1) = m + 4 := by unfold wrap64; omega
  have e5 : wrap64 (m + 4 + 1) = m + 5 := by unfold wrap64; omega
  have e6 : wrap64 (m + 5 + 1) = m + 6 := by unfold wrap64; omega
  have e7 : wrap64 (m + 6 + 1) = m + 7 := by unfold wrap64; omega
  have e8 : wrap64 (m + 7 + 1) = m + 8 := by unfold wrap64; omega
  have e9 : wrap64 (m + 8 + 1) = m + 9 := by unfold wrap64; omega
  have hr : ∀ x : S73, Qd (acc.set i x) (i : Int) = x := fun x => rd_setH acc i x (by omega)
  simp only [laws_markHeldS.l0, Option.bind_some, Int.toNat_natCast, e1, e2, e3, e4, e5, e6, e7, e8, e9, hr, List.set_set]
  rw [if_pos (by omega), if_pos (by omega), wrap_up hi (by omega)]
  rfl
 ·intro k acc m _ hl
  simp only [laws_markHeldS.l0]
  rw [if_neg (by omega)]
theorem laws_heldHeldS_eq (n : Nat) (m : Int) (hn : n ≤ 1048576) (hm : 0 ≤ m) (hB : m ≤ 1000000000000) (k : Nat) (hk : n < k) : laws_heldHeldS.f k (marked 9 markHeld m n) m = some (m + 9 * n) := by
 unfold laws_heldHeldS.f
 have hl := marked_length 9 markHeld m n
 have := held_loop z73 0 9 markHeld (fun k q i => laws_heldHeldS.l0 k (marked 9 markHeld m n) q i) n m 1000010000000 ?_ ?_ hm (by omega) n 0 k (by omega) (by omega)
 ·simpa using this
 ·intro k i q _ hi hq hq0 hqB
  have hx : Qd (marked 9 markHeld m n) (i : Int) = markHeld q := by
   show nth z73 _ i = _
   rw [marked_nth _ hi, hq]
  have e1 : wrap64 (q + 1) = q + 1 := by unfold wrap64; omega
  have e2 : wrap64 (q + 1 + 1) = q + 2 := by unfold wrap64; omega
  have e3 : wrap64 (q + 2 + 1) = q + 3 := by unfold wrap64; omega
  have e4 : wrap64 (q + 3 + 1) = q + 4 := by unfold wrap64; omega
  have e5 : wrap64 (q + 4 + 1) = q + 5 := by unfold wrap64; omega
  have e6 : wrap64 (q + 5 + 1) = q + 6 := by unfold wrap64; omega
  have e7 : wrap64 (q + 6 + 1) = q + 7 := by unfold wrap64; omega
  have e8 : wrap64 (q + 7 + 1) = q + 8 := by unfold wrap64; omega
  have e9 : wrap64 (q + 8 + 1) = q + 9 := by unfold wrap64; omega
  simp only [laws_heldHeldS.l0, hx, markHeld, e1, e2, e3, e4, e5, e6, e7, e8, e9, if_true, bne_self_eq_false, Bool.false_eq_true, if_false]
  rw [if_pos (by omega), if_pos (by omega), wrap_up hi (by omega)]
  rfl
 ·intro k q _
  simp only [laws_heldHeldS.l0]
  rw [if_neg (by omega)]
end
section
open Go.Proofs.Ytmgmaflfednngaa.Base
theorem rdS' (xs : List ByteArray) (i : Nat) : rdOf ByteArray.empty xs (i : Int) = nth ByteArray.empty xs i := rfl
theorem markText_loop (n : Nat) : ∀ (k : Nat) (x : Int) (s : ByteArray), 0 ≤ x → x < 10 ^ n → x ≤ 9223372036854775807 → s.size + n ≤ 1000 → n < k → ∃ t, laws_markText.l0 k x s = some t := by
 induction n with
 | zero =>
  intro k x s h0 h1 _ hs hk
  obtain ⟨k, rfl⟩ : ∃ q, k = q + 1 := ⟨k - 1, by omega⟩
  have hx : x = 0 := by simp at h1; omega
  rw [laws_markText.l0, if_neg (by omega), if_pos (by omega)]
  exact ⟨_, rfl⟩
 | succ n ih =>
  intro k x s h0 h1 hb hs hk
  obtain ⟨k, rfl⟩ : ∃ q, k = q + 1 := ⟨k - 1, by omega⟩
  rw [laws_markText.l0]
  by_cases hx : x > 0
  ·rw [if_pos hx, Option.bind_some, if_pos (by rw [strOfNums_size]; simp; omega)]
   have e : Int.tdiv x 10 = x / 10 := Int.tdiv_eq_ediv_of_nonneg h0
   have hp : (10 : Int) ^ (n + 1) = 10 ^ n * 10 := Int.pow_succ ..
   have h2 : x / 10 < 10 ^ n := by omega
   rw [e, show wrap64 (x / 10) = x / 10 from by unfold wrap64; omega]
   have hsz : ((strOfNums [wrap64 (48 + Int.tmod x 10) % 256]) ++ s).size = s.size + 1 := by
    rw [ByteArray.size_append, strOfNums_size]
    simp
    omega
   exact ih k (x / 10) _ (by omega) h2 (by omega) (by omega) (by omega)
  ·rw [if_neg hx, if_pos (by omega)]
   exact ⟨_, rfl⟩
def markT (m : Int) : ByteArray := (laws_markText.f 101 m).getD ByteArray.empty
theorem markText_up (m : Int) (k : Nat) (t : ByteArray) (h : laws_markText.f k m = some t) : ∀ n, laws_markText.f (k + n) m = some t := by
 intro n
 induction n with
 | zero => exact h
 | succ n ih => exact laws_markText.mono _ _ _ ih
theorem laws_markText_eq (m : Int) (h0 : 0 ≤ m) (h1 : m ≤ 1000010000000) (k : Nat) (hk : 100 < k) : laws_markText.f k m = some (markT m) := by
 have hs : ∃ t, laws_markText.f 101 m = some t := by
  unfold laws_markText.f
  by_cases h : m ≤ 0
  ·rw [if_pos h]; exact ⟨_, rfl⟩
  ·rw [if_neg h]
   exact markText_loop 14 101 m _ h0 (by omega) (by omega) (by decide) (by omega)
 obtain ⟨t, ht⟩ := hs
 have hm : markT m = t := by unfold markT; rw [ht]; rfl
 rw [hm]
 have := markText_up m 101 t ht (k - 101)
 rwa [show 101 + (k - 101) = k from by omega] at this
def markStr (m : Int) (n : Nat) : List ByteArray := marked 1 markT m n
theorem laws_markStringS_eq (xs : List ByteArray) (m : Int) (hn : xs.length ≤ 1048576) (hm : 0 ≤ m) (hB : m + xs.length ≤ 1000010000000) (k : Nat) (hk : xs.length + 101 < k) : laws_markStringS.f k xs m = some (m + xs.length, markStr m xs.length) := by
 unfold laws_markStringS.f
 have := mark_all 101 1 (fun k acc m i => laws_markStringS.l0 k acc m i) xs markT 1000010000000 ?_ ?_ k m (by omega) hm (by omega)
 ·simpa [markStr] using this
 ·intro k i acc m hc hi hl hm hB
  have e1 : wrap64 (m + 1) = m + 1 := by unfold wrap64; omega
  simp only [laws_markStringS.l0]
  rw [if_pos (by omega), laws_markText_eq m hm (by omega) k (by omega), Option.bind_some, if_pos (by omega), e1, wrap_up hi (by omega)]
  rfl
 ·intro k acc m _ hl
  simp only [laws_markStringS.l0]
  rw [if_neg (by omega)]
theorem laws_heldStringS_eq (n : Nat) (m : Int) (hn : n ≤ 1048576) (hm : 0 ≤ m) (hB : m + n ≤ 1000010000000) (k : Nat) (hk : n + 101 < k) : laws_heldStringS.f k (markStr m n) m = some (m + n) := by
 unfold laws_heldStringS.f markStr
 have hl := marked_length 1 markT m n
 have := held_loop ByteArray.empty 101 1 markT (fun k q i => laws_heldStringS.l0 k (marked 1 markT m n) q i) n m 1000010000000 ?_ ?_ hm (by omega) n 0 k (by omega) (by omega)
 ·simpa using this
 ·intro k i q hc hi hq hq0 hqB
  have hx : rdOf ByteArray.empty (marked 1 markT m n) (i : Int) = markT q := by
   rw [rdS', marked_nth _ hi, hq]
  have e1 : wrap64 (q + 1) = q + 1 := by unfold wrap64; omega
  simp only [laws_heldStringS.l0]
  rw [if_pos (by omega), if_pos (by omega), laws_markText_eq q hq0 (by omega) k (by omega), Option.bind_some, hx, if_pos rfl, e1, wrap_up hi (by omega)]
  rfl
 ·intro k q _
  simp only [laws_heldStringS.l0]
  rw [if_neg (by omega)]
def pn : List S100 → Int
 | [] => 0
 | x :: xs => 4 + x.f4.length + pn xs
def pm : Int → List S100 → List S100
 | _, [] => []
 | m, x :: xs => ⟨m, m + 1, m + 2, m + 3, markStr (m + 4) x.f4.length⟩ :: pm (m + 4 + x.f4.length) xs
theorem pn_nonneg : ∀ l, 0 ≤ pn l
 | [] => by simp [pn]
 | x :: xs => by have := pn_nonneg xs; simp only [pn]; omega
theorem pm_length : ∀ (l : List S100) (m : Int), (pm m l).length = l.length
 | [], _ => rfl
 | x :: xs, m => by simp [pm, pm_length xs]
end
set_option maxHeartbeats 1600000 in
set_option maxRecDepth 100000 in
theorem markPipeS_calls (P0 : Nat → Prop) (u : Value) (l : List S100) (m : Int) (w0 w : World) (hB : Below w0.heap.size w0 w) (ho : Kd.S k100 100 w w0.heap.size P0 u l) (hm : 0 ≤ m) (hB2 : m + pn l ≤ 1000000000000) (hs : ∀ x ∈ l, x.f4.length ≤ 1048576) :
  Calls Try.prog 87 #[u, .int .i64 m] w fun e w' => e = .returned (.int .i64 (m + pn l)) ∧ Kd.S k100 100 w' w0.heap.size (fun k => P0 k ∨ w.heap.size ≤ k) u (pm m l) ∧ Below w0.heap.size w0 w' ∧ Kept w w' P0 := by
 have HL := Aside0.mk (Kd.S_reads ho).choose_spec.choose_spec.2.2.2.1
 have HO := Aside0.mk (Kd.S_mono (ok' := fun k => P0 k ∨ w.heap.size ≤ k) ho (fun k hk => .inl hk))
 have HK := Aside0.mk (Kept.refl w P0)
 have HB := Aside0.mk hB
 have HW := Aside0.mk hB.size
 have HS := Aside0.mk hs
 have HM := Aside0.mk hB2
 have HP := Aside0.mk (pn_nonneg l)
 obtain ⟨A, c, rfl⟩ := Kd.S_slice ho
 clear ho hB hs hB2
 go_enter Try.func87, Try.ntmps87
 go_wp2
 go_loopg [1, 5] l.length (fun gg v1 v5 wr => ∃ (kk : Nat) (m' : Int) (dn : List S100), kk ≤ l.length ∧ l.length - kk ≤ gg ∧ v1 = .int .i64 m' ∧ v5 = .int .i64 kk ∧ 0 ≤ m' ∧ Aside0 (dn.length = kk ∧ pm m l = dn ++ pm m' (l.drop kk) ∧ m + pn l = m' + pn (l.drop kk)) ∧ Aside0 (Kd.S k100 100 wr w0.heap.size (fun k => P0 k ∨ w.heap.size ≤ k) (.slice A l.length c) (dn ++ l.drop kk)) ∧ Aside0 (Below w0.heap.size w0 wr) ∧ Aside0 (Kept w wr P0))
 case atStart => exact ⟨0, m, [], Nat.zero_le _, by omega, rfl, rfl, hm, ⟨by simp⟩, ⟨by simpa using HO.out⟩, HB, HK⟩
 case round =>
  obtain ⟨kk, m', dn, hkk, hg, rfl, rfl, hm', HI, HO, HB, HK⟩ := hrel
  have hmax : l.length ≤ 9223372036854775807 := HL.out
  by_cases hlt : kk < l.length
  ·have hltz : (kk : Int) < (l.length : Int) := by omega
   have hll : (dn ++ l.drop kk).length = l.length := by rw [List.length_append, HI.out.1, List.length_drop]; omega
   obtain ⟨g, cap, eo, hgb, hglt, hcells⟩ := Kd.S_form HO.out (by rw [hll]; omega)
   have hok := Kd.S_R HO.out
   injection eo with e1 e2 e3
   subst e1
   clear e2 e3 hgb hglt hcells
   have hgok : P0 g ∨ w.heap.size ≤ g := hok.1 g (by simp [Value.ownBlock])
   obtain ⟨oki, ce, hcl, hM, hcc, hfr, hoki, hH⟩ := Kd.S_elem HO.out z100 (kk : Int) (by omega) (by omega)
   have hxe : (dn ++ l.drop kk).getD (kk : Int).toNat z100 = Base.nth z100 l kk := by
    have e1 := HI.out.1
    rw [Int.toNat_natCast, List.getD_eq_getElem?_getD, List.getElem?_append_right (by omega), e1, Nat.sub_self, List.getElem?_drop, Nat.add_zero]
    rw [Base.nth, List.getD_eq_getElem?_getD]
   have hdr := Base.drop_nth z100 hlt
   have hxm := HS.out _ (Base.nth_mem (z := z100) hlt)
   rw [hxe] at hM
   obtain ⟨v4, rfl, g4⟩ := k100_openM hM
   generalize Base.nth z100 l kk = x at *
   obtain ⟨A4, c4, e4⟩ := Kd.R_slice g4
   subst e4
   have hx0 := hcc 0 _ rfl
   have hx1 := hcc 1 _ rfl
   have hx2 := hcc 2 _ rfl
   have hx3 := hcc 3 _ rfl
   have hx4 := hcc 4 _ rfl
   have hf0 := hfr 0
   have hf1 := hfr 1
   have hf2 := hfr 2
   have hf3 := hfr 3
   have hpn := pn_nonneg (l.drop (kk + 1))
   have hI3 := HI.out.2.2
   have hM3 := HM.out
   rw [hdr] at hI3
   simp only [pn] at hI3
   have hm2 : m' ≤ 1000000000000 := by omega
   have H4 := Kd.H_seg hH (by omega) (by omega) (seg := [.int .i64 m', .int .i64 (m' + 1), .int .i64 (m' + 2), .int .i64 (m' + 3)]) (j := 0) (by show 0 + 4 ≤ 5; decide) (by simp [Value.oneCell'])
   have G4 := Aside0.mk H4.2
   have HH4 := Aside0.mk (Kd.H_widen H4.1)
   have HR4 := Aside0.mk (Kd.R_grown g4 H4.2 (fun k hk e => by injection e with e; exact (hoki k hk).2 e))
   have HB4 := Aside0.mk (HB.out.grown H4.2 HB.out.size (fun k e => by injection e with e; subst e; exact Kd.S_base HO.out _ (by simp [Value.ownBlock])))
   have HE := Aside0.mk (laws_markStringS_eq x.f4 (m' + 4) hxm (by omega) (by omega) (x.f4.length + 102) (by omega))
   have HOK := Aside0.mk hoki
   have HGO := Aside0.mk hgok
   have HX := Aside0.mk hdr
   have HI4 := Aside0.mk hI3
   clear hH H4 hcc hfr hcl hM g4 hoki hok hgok hxe hdr hI3 hpn hM3
   simp only [Int.toNat_natCast, show k100.sz = 5 from rfl, Nat.add_zero] at hx0 hx1 hx2 hx3 hx4 hf0 hf1 hf2 hf3
   go_wp2_with fail
   simp only [show m' + 1 + 1 = m' + 2 by omega, show m' + 2 + 1 = m' + 3 by omega, show m' + 3 + 1 = m' + 4 by omega]
   refine (laws_markStringS.calls (x.f4.length + 102) oki (.slice A4 x.f4.length c4) x.f4 (m' + 4) _ _ w0 _ HB4.out HR4.out HE.out).mono ?_
   rintro e w5 ⟨rfl, hR5, hB5, hK5⟩
   have hsz : wr.heap.size ≤ (wr.setCells g ((kk : Int).toNat * k100.sz + 0) [.int .i64 m', .int .i64 (m' + 1), .int .i64 (m' + 2), .int .i64 (m' + 3)]).heap.size := G4.out.size
   have hkw := HK.out.1
   have H5 := Kd.H_kept HH4.out hK5 (fun k _ hn h => hn (.inl h))
   have HO5 := Aside0.mk (Kd.H_back H5 (k100_mkM w5 _ _ ⟨m', m' + 1, m' + 2, m' + 3, markStr (m' + 4) x.f4.length⟩ hR5) (fun k hk => hk.elim .inl (fun h => .inr ⟨.inr (Nat.le_trans (Nat.le_trans hkw hsz) h), h⟩)))
   have HB5 := Aside0.mk hB5
   have HK5 := Aside0.mk ((Kept.of_grown G4.out HK.out (fun k e => by injection e with e; subst e; exact HGO.out)).then_ hK5 (fun k hk => (HOK.out k hk).1))
   clear hR5 hB5 hK5 H5 hsz hkw
   go_wp2
   go_roundg (l.length - (kk + 1))
   case measure => omega
   case rel =>
    refine ⟨kk + 1, m' + 4 + x.f4.length, dn ++ [⟨m', m' + 1, m' + 2, m' + 3, markStr (m' + 4) x.f4.length⟩], by omega, by omega, rfl, by go_num, by omega, ⟨?_⟩, ⟨?_⟩, HB5, HK5⟩
    ·refine ⟨by rw [List.length_append, HI.out.1]; rfl, ?_, by have := HI4.out; omega⟩
     rw [HI.out.2.1, HX.out, pm, List.append_assoc]
     rfl
    ·have h := HO5.out
     rw [HX.out, Int.toNat_natCast, List.set_append_right _ _ (by rw [HI.out.1]; exact Nat.le_refl _), HI.out.1, Nat.sub_self, List.set_cons_zero] at h
     rw [List.append_assoc]
     exact h
  ·have hltz : ¬ (kk : Int) < (l.length : Int) := by omega
   obtain rfl : kk = l.length := by omega
   have h1 := HI.out.2.1
   have h2 := HI.out.2.2
   rw [List.drop_length] at h1 h2
   have HO2 := HO.out
   rw [List.drop_length, List.append_nil] at HO2
   simp only [pm, List.append_nil] at h1
   simp only [pn] at h2
   have HE := Aside0.mk h1
   have HN := Aside0.mk h2
   have HO3 := Aside0.mk HO2
   clear h1 h2 HO2
   go_wp2
   go_ret
   exact ⟨by rw [HN.out]; simp, by rw [HE.out]; exact HO3.out, HB.out, HK.out⟩
end Go.Proofs.Ytmgmaflfednngaa.PFnExactTellerNew
