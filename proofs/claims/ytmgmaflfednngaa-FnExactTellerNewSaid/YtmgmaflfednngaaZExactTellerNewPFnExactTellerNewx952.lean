-- A copy, made by trim.py (its own words shortened): not an official print.
import Derived.Test.YtmgmaflfednngaaZExactTellerNewPFnExactTellerNewx0
import Derived.Test.YtmgmaflfednngaaZExactTellerNewPFnExactTellerNewx1
import Derived.Test.YtmgmaflfednngaaZExactTellerNewPFnExactTellerNewx2
import Derived.Test.YtmgmaflfednngaaZExactTellerNewPFnExactTellerNewx3
import Derived.Test.YtmgmaflfednngaaZExactTellerNewPFnExactTellerNewx4
import Derived.Test.YtmgmaflfednngaaZExactTellerNewPFnExactTellerNewx5
import Derived.Test.YtmgmaflfednngaaZExactTellerNewPFnExactTellerNewx6
import Derived.Test.YtmgmaflfednngaaZExactTellerNewPFnExactTellerNewx7
import Derived.Test.YtmgmaflfednngaaZExactTellerNewPFnExactTellerNewx8
import Derived.Test.YtmgmaflfednngaaZExactTellerNewPFnExactTellerNewx9
import Derived.Test.YtmgmaflfednngaaZExactTellerNewPFnExactTellerNewx10
import Derived.Test.YtmgmaflfednngaaZExactTellerNewBase
import Derived.Test.YtmgmaflfednngaaZExactTellerNewSlices
import Derived.Test.YtmgmaflfednngaaZExactTellerNewPFnExactTellerNewx950
import Derived.Test.YtmgmaflfednngaaZExactTellerNewPFnExactTellerNewx951
namespace Go.Proofs.Ytmgmaflfednngaa.PFnExactTellerNew
open Go.RowKit Go.Proofs.YtmgmaflfednngaaW.PrintWords Go.Proofs.YtmgmaflfednngaaW.PrintLast Go.Proofs.YtmgmaflfednngaaW.PrintMore
attribute [local go_sem] max2_int min2_int max_two min_two max_three min_three max_four min_four   -- for this text's walks alone
set_option linter.unusedVariables false
set_option linter.unusedSimpArgs false
section
open Go.Proofs.Ytmgmaflfednngaa.Base
theorem laws_eqStringS_self (xs : List ByteArray) (hn : xs.length ≤ 9223372036854775807) (k : Nat) (hk : xs.length < k) : laws_eqStringS.f k xs xs = some true := by
 unfold laws_eqStringS.f
 rw [if_pos rfl, show (0 : Int) = ((0 : Nat) : Int) from rfl]
 rw [chk_loop 0 (fun k i => laws_eqStringS.l0 k xs xs i) xs.length (fun _ => true) true ?_ ?_ xs.length 0 k (by omega) hk]
 ·simp only [Bool.and_true, Option.some.injEq, chk_iff]
  intros; trivial
 ·intro k i _ hi
  simp only [laws_eqStringS.l0, if_true]
  rw [if_pos (by omega), if_pos (by omega), if_pos (by omega), wrap_up hi hn]
 ·intro k _
  simp only [laws_eqStringS.l0]
  rw [if_neg (by omega)]
theorem laws_eqPipeS_self (xs : List S100) (hn : xs.length ≤ 1048576) (hs : ∀ i, i < xs.length → (nth z100 xs i).f4.length ≤ 1048576) (k : Nat) (hk : 2097160 < k) : laws_eqPipeS.f k xs xs = some true := by
 unfold laws_eqPipeS.f
 rw [if_pos rfl, show (0 : Int) = ((0 : Nat) : Int) from rfl]
 rw [chk_loop 1048577 (fun k i => laws_eqPipeS.l0 k xs xs i) xs.length (fun _ => true) true ?_ ?_ xs.length 0 k (by omega) (by omega)]
 ·simp only [Bool.and_true, Option.some.injEq, chk_iff]
  intros; trivial
 ·intro k i hc hi
  have h4 := hs i hi
  simp only [laws_eqPipeS.l0, laws_eqPipe.f, rdP, if_true]
  rw [if_pos (by omega), if_pos (by omega), if_pos (by omega), laws_eqStringS_self _ (by omega) k (by omega)]
  simp only [Option.bind_some, if_true]
  rw [wrap_up hi (by omega)]
 ·intro k _
  simp only [laws_eqPipeS.l0]
  rw [if_neg (by omega)]
theorem laws_eqTellerOut_self (a e c : Int) (ps : List S100) (l : List S73) (hn : ps.length ≤ 1048576) (hs : ∀ x ∈ ps, x.f4.length ≤ 1048576) (hl : l.length ≤ 1048576) (k : Nat) (hk : 2097160 < k) : laws_eqTellerOut.f k a e ps l c a e ps l c = some true := by
 unfold laws_eqTellerOut.f laws_eqTeller.f
 rw [if_pos rfl, if_pos rfl, laws_eqPipeS_self ps hn (fun i hi => hs _ (nth_mem hi)) k hk]
 simp only [Option.bind_some, if_true]
 rw [laws_eqHeldS_self l (by omega) k (by omega)]
 simp
theorem laws_heldPipeS_loop : ∀ (l pre : List S100) (m : Int) (k : Nat), 0 ≤ m → m + pn l ≤ 1000000000000 → (∀ x ∈ l, x.f4.length ≤ 1048576) → (pre ++ l).length ≤ 1048576 → l.length + 1048700 < k → laws_heldPipeS.l0 k (pre ++ pm m l) m (pre.length : Int) = some (m + pn l) := by
 intro l
 induction l with
 | nil =>
  intro pre m k hm hB hs hn hk
  obtain ⟨k, rfl⟩ : ∃ q, k = q + 1 := ⟨k - 1, by omega⟩
  simp only [laws_heldPipeS.l0, pm, pn, List.append_nil]
  rw [if_neg (by omega)]
  simp
 | cons x xs ih =>
  intro pre m k hm hB hs hn hk
  obtain ⟨k, rfl⟩ : ∃ q, k = q + 1 := ⟨k - 1, by omega⟩
  have hp := pn_nonneg xs
  simp only [pn] at hB
  have hx := hs x (List.mem_cons_self ..)
  simp only [List.length_append, List.length_cons] at hn hk
  have hlen : (pre ++ pm m (x :: xs)).length = pre.length + (xs.length + 1) := by simp [pm, pm_length]
  have hy : Qp (pre ++ pm m (x :: xs)) (pre.length : Int) = ⟨m, m + 1, m + 2, m + 3, markStr (m + 4) x.f4.length⟩ := by
   unfold Qp
   rw [Int.toNat_natCast, List.getD_eq_getElem?_getD, List.getElem?_append_right (Nat.le_refl _), Nat.sub_self]
   rfl
  have e1 : wrap64 (m + 1) = m + 1 := by unfold wrap64; omega
  have e2 : wrap64 (m + 1 + 1) = m + 2 := by unfold wrap64; omega
  have e3 : wrap64 (m + 2 + 1) = m + 3 := by unfold wrap64; omega
  have e4 : wrap64 (m + 3 + 1) = m + 4 := by unfold wrap64; omega
  have hi := ih (pre ++ [⟨m, m + 1, m + 2, m + 3, markStr (m + 4) x.f4.length⟩]) (m + 4 + x.f4.length) k (by omega) (by omega) (fun z hz => hs z (List.mem_cons_of_mem _ hz)) (by simp; omega) (by omega)
  rw [laws_heldPipeS.l0, hlen, if_pos (by omega), if_pos (by omega), hy]
  simp only [e1, e2, e3, e4, if_true]
  rw [laws_heldStringS_eq _ _ hx (by omega) (by omega) k (by omega)]
  simp only [Option.bind_some]
  rw [if_neg (by omega), wrap_up (by omega : pre.length < pre.length + 1) (by omega)]
  rw [List.length_append, List.append_assoc] at hi
  simp only [pm, pn]
  have : m + 4 + (x.f4.length : Int) + pn xs = m + (4 + x.f4.length + pn xs) := by omega
  rw [← this]
  exact hi
theorem laws_heldPipeS_eq (l : List S100) (m : Int) (hm : 0 ≤ m) (hB : m + pn l ≤ 1000000000000) (hs : ∀ x ∈ l, x.f4.length ≤ 1048576) (hn : l.length ≤ 1048576) (k : Nat) (hk : 2100000 < k) : laws_heldPipeS.f k (pm m l) m = some (m + pn l) := by
 unfold laws_heldPipeS.f
 exact laws_heldPipeS_loop l [] m k hm hB hs (by simpa using hn) (by omega)
theorem laws_heldTellerOut_eq (a e c : Int) (l2 : List S100) (n3 : Nat) (hB : 1 + pn l2 ≤ 1000000000000) (hs : ∀ x ∈ l2, x.f4.length ≤ 1048576) (hn : l2.length ≤ 1048576) (hn3 : n3 ≤ 1048576) (k : Nat) (hk : 2100000 < k) : laws_heldTellerOut.f k a e (pm 1 l2) (marked 9 markHeld (1 + pn l2) n3) c 1 = some (1 + pn l2 + 9 * n3) := by
 have hp := pn_nonneg l2
 unfold laws_heldTellerOut.f laws_heldTeller.f
 rw [laws_heldPipeS_eq l2 1 (by omega) hB hs hn k hk]
 simp only [Option.bind_some]
 rw [if_neg (by omega), laws_heldHeldS_eq n3 (1 + pn l2) hn3 (by omega) hB k (by omega)]
 simp only [Option.bind_some]
 rw [if_neg (by omega)]
 simp only [Option.bind_some]
 rw [if_neg (by omega)]
def newPs (e : Int) (n : Nat) : List S100 := List.replicate n ⟨e, 0, 0, 0, []⟩
def okNew (i e h : Int) : Bool := inB i 1 2 && (inB e 1 1000000 && houseB h)
def newI (i e h : Int) : Int := if okNew i e h = true then i else 0
def newE (i e h : Int) : Int := if okNew i e h = true then e else 0
def newP (i e h : Int) : List S100 := if okNew i e h = true then newPs e h.toNat else []
def newC (i e h : Int) : Int := if okNew i e h = true then 0 else 1
theorem newPs_snoc (e : Int) (n : Nat) : newPs e n ++ [⟨e, 0, 0, 0, []⟩] = newPs e (n + 1) := by
 unfold newPs
 rw [List.replicate_succ']
theorem newP_len (i e h : Int) : (newP i e h).length ≤ 4 := by
 unfold newP newPs
 split
 ·rename_i hk
  have : 1 ≤ h ∧ h ≤ 4 := by simp [okNew, houseB, inB] at hk; omega
  simp
  omega
 ·simp
theorem newP_out (i e h : Int) : ∀ x ∈ newP i e h, x.f4.length ≤ 1048576 := by
 intro x hx
 unfold newP newPs at hx
 split at hx
 ·rw [List.eq_of_mem_replicate hx]; simp
 ·simp at hx
theorem newP_pn (i e h : Int) : pn (newP i e h) ≤ 16 := by
 have key : ∀ n, pn (newPs e n) = 4 * n := by
  intro n
  induction n with
  | zero => rfl
  | succ n ih =>
   rw [newPs, List.replicate_succ, pn, show List.replicate n (⟨e, 0, 0, 0, []⟩ : S100) = newPs e n from rfl, ih]
   simp
   omega
 have := newP_len i e h
 unfold newP at this ⊢
 split
 ·rename_i hk
  rw [if_pos hk] at this
  rw [key]
  simp [newPs] at this
  omega
 ·simp [pn]
theorem spec_TellerNew_loop (e h a b : Int) (h0 : 0 ≤ h) (h4 : h ≤ 4) : ∀ (d i k : Nat), (i : Int) + d = h → d < k → spec_TellerNew.l0 k e h (i : Int) a b (newPs e i) = some (a, b, newPs e h.toNat, [], 0) := by
 intro d
 induction d with
 | zero =>
  intro i k hi hk
  obtain ⟨k, rfl⟩ : ∃ q, k = q + 1 := ⟨k - 1, by omega⟩
  rw [spec_TellerNew.l0, if_neg (by omega), show h.toNat = i by omega]
 | succ d ih =>
  intro i k hi hk
  obtain ⟨k, rfl⟩ : ∃ q, k = q + 1 := ⟨k - 1, by omega⟩
  rw [spec_TellerNew.l0, if_pos (by omega), if_pos (by simp [newPs]; omega), newPs_snoc, wrap_up (by omega : i < 5) (by omega)]
  exact ih (i + 1) k (by omega) (by omega)
theorem spec_TellerNew_eq (i e h : Int) (k : Nat) (hk : 10 < k) : spec_TellerNew.f k i e h = some (newI i e h, newE i e h, newP i e h, [], newC i e h) := by
 obtain ⟨k, rfl⟩ : ∃ q, k = q + 1 := ⟨k - 1, by omega⟩
 unfold spec_TellerNew.f newI newE newP newC okNew
 rw [spec_l02Is_eq, spec_l02Is_eq, spec_l09House_eq]
 simp only [Option.bind_some, spec_TellerNew.j0, spec_l12Ill.f]
 cases inB i 1 2 with
 | false => rfl
 | true =>
  cases inB e 1 1000000 with
  | false => rfl
  | true =>
   cases hh : houseB h with
   | false => rfl
   | true =>
    have : 1 ≤ h ∧ h ≤ 4 := by simpa [houseB, inB] using hh
    rw [if_pos rfl, if_pos rfl, if_neg (by decide)]
    have := spec_TellerNew_loop e h i e (by omega) (by omega) h.toNat 0 k (by omega) (by omega)
    exact this
theorem impl_newPipes_loop (e h : Int) (h0 : 0 ≤ h) (h4 : h ≤ 4) : ∀ (d i k : Nat), (i : Int) + d = h → d < k → impl_newPipes.l0 k e (newPs e i) h (i : Int) = some (newPs e h.toNat) := by
 intro d
 induction d with
 | zero =>
  intro i k hi hk
  obtain ⟨k, rfl⟩ : ∃ q, k = q + 1 := ⟨k - 1, by omega⟩
  rw [impl_newPipes.l0, if_neg (by omega), show h.toNat = i by omega]
 | succ d ih =>
  intro i k hi hk
  obtain ⟨k, rfl⟩ : ∃ q, k = q + 1 := ⟨k - 1, by omega⟩
  rw [impl_newPipes.l0, if_pos (by omega), if_pos (by simp [newPs]; omega), newPs_snoc, wrap_up (by omega : i < 5) (by omega)]
  exact ih (i + 1) k (by omega) (by omega)
theorem tellerB_new (i e h : Int) (h1 : 1 ≤ h) (h4 : h ≤ 4) : tellerB i e (newPs e h.toNat) [] = (inB i 1 2 && inB e 1 1000000) := by
 have hl : (newPs e h.toNat).length = h.toNat := by simp [newPs]
 have hr : ribRight [] = true := rfl
 unfold tellerB
 rw [hl, hr, decide_eq_true (show 1 ≤ h.toNat by omega), decide_eq_true (show h.toNat ≤ 4 by omega)]
 cases inB i 1 2 with
 | false => rfl
 | true =>
  cases he : inB e 1 1000000 with
  | false => rfl
  | true =>
   have : (newPs e h.toNat).all (fun x => pipeS x && decide (x.f0 ≤ e)) = true := by
    rw [List.all_eq_true]
    intro x hx
    rw [List.eq_of_mem_replicate hx]
    have he' : 1 ≤ e ∧ e ≤ 1000000 := by simpa [inB] using he
    simp [pipeS, pipeB, timeB, inB, he'.1, he'.2]
   rw [this]
   rfl
theorem impl_TellerNew_eq (i e h : Int) (k : Nat) (hk : 10 < k) : impl_TellerNew.f k i e h = some (newI i e h, newE i e h, newP i e h, [], newC i e h) := by
 unfold impl_TellerNew.f impl_tellerNew.f newI newE newP newC okNew
 rw [impl_in_eq, show inB h 1 4 = houseB h from rfl]
 simp only [Option.bind_some]
 cases hh : houseB h with
 | false =>
  rw [if_neg (by decide)]
  cases inB i 1 2 <;> cases inB e 1 1000000 <;> rfl
 | true =>
  have hb : 1 ≤ h ∧ h ≤ 4 := by simpa [houseB, inB] using hh
  have hn : impl_newPipes.f k e h = some (newPs e h.toNat) := impl_newPipes_loop e h (by omega) (by omega) h.toNat 0 k (by omega) (by omega)
  rw [if_pos rfl, hn]
  simp only [Option.bind_some, impl_TellerRight.f, tellerB_new i e h hb.1 hb.2]
  cases inB i 1 2 <;> cases inB e 1 1000000 <;> rfl
end
end Go.Proofs.Ytmgmaflfednngaa.PFnExactTellerNew
