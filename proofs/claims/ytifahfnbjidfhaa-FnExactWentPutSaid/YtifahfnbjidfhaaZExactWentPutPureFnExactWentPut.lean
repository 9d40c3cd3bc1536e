-- A copy, by trim.py of this session's wip/gen, of a text of this claim, without what the row does not reach and without comments: not an official print.
import Derived.Test.YtifahfnbjidfhaaZExactWentPutPFnExactWentPutx0
import Derived.Test.YtifahfnbjidfhaaZExactWentPutPFnExactWentPutx1
import Derived.Test.YtifahfnbjidfhaaZExactWentPutPFnExactWentPutx2
import Derived.Test.YtifahfnbjidfhaaZExactWentPutPFnExactWentPutx3
import Derived.Test.YtifahfnbjidfhaaZExactWentPutPFnExactWentPutx4
import Derived.Test.YtifahfnbjidfhaaZExactWentPutPFnExactWentPutx5
import Derived.Test.YtifahfnbjidfhaaZExactWentPutPFnExactWentPutx6
import Derived.Test.YtifahfnbjidfhaaZExactWentPutPFnExactWentPutx7
import Derived.Test.YtifahfnbjidfhaaZExactWentPutPFnExactWentPutx8
import Derived.Test.YtifahfnbjidfhaaZExactWentPutPFnExactWentPutx9
import Derived.Test.YtifahfnbjidfhaaZExactWentPutPFnExactWentPutx10
import Derived.Test.YtifahfnbjidfhaaZExactWentPutBase
set_option linter.unusedSimpArgs false
set_option linter.unusedVariables false
namespace Go.Proofs.Ytifahfnbjidfhaa.fnExactWentPutRow.Pure
open Go.RowKit Go.Proofs.YtifahfnbjidfhaaW.PrintWords Go.Proofs.YtifahfnbjidfhaaW.PrintLast Go.Proofs.Ytifahfnbjidfhaa.PFnExactWentPut Go.Proofs.Ytifahfnbjidfhaa.Base
theorem spec_l02Is_eq (a b c : Int) : spec_l02Is.f a b c = some (inB a b c) := by
  unfold spec_l02Is.f inB
  by_cases h : b ≤ a <;> simp [h]
theorem impl_in_eq (a b c : Int) : impl_in.f a b c = some (inB a b c) := by
  unfold impl_in.f inB
  by_cases h : b ≤ a <;> simp [h]
theorem spec_l02Mac_eq (a : Int) : spec_l02Mac.f a = some (macB a) := by simp [spec_l02Mac.f, spec_l02Is_eq, macB]
theorem spec_l02Vni_eq (a : Int) : spec_l02Vni.f a = some (vniB a) := by simp [spec_l02Vni.f, spec_l02Is_eq, vniB]
theorem spec_l05Time_eq (a : Int) : spec_l05Time.f a = some (timeB a) := by simp [spec_l05Time.f, spec_l02Is_eq, timeB]
theorem impl_isMac_eq (a : Int) : impl_isMac.f a = some (macB a) := by simp [impl_isMac.f, impl_in_eq, macB]
theorem impl_isVni_eq (a : Int) : impl_isVni.f a = some (vniB a) := by simp [impl_isVni.f, impl_in_eq, vniB]
theorem impl_isTime_eq (a : Int) : impl_isTime.f a = some (timeB a) := by simp [impl_isTime.f, impl_in_eq, timeB]
def wentB (a b c : Int) : Bool := vniB a && macB b && timeB c
theorem spec_l08Went_eq (a b c : Int) : spec_l08Went.f a b c = some (wentB a b c) := by
  simp only [spec_l08Went.f, spec_l02Vni_eq, spec_l02Mac_eq, spec_l05Time_eq, Option.bind_some, some_ite, wentB, Bool.and_assoc]
theorem impl_Went_isRight_eq (a b c : Int) : impl_Went_isRight.f a b c = some (wentB a b c) := by
  simp only [impl_Went_isRight.f, impl_isVni_eq, impl_isMac_eq, impl_isTime_eq, Option.bind_some, some_ite, wentB, Bool.and_assoc]
def wentAt (xs : List S34) (j : Nat) : Bool :=
  wentB (nth z34 xs j).f0 (nth z34 xs j).f1 (nth z34 xs j).f2 && (j == 0 || decide ((nth z34 xs (j - 1)).f2 ≤ (nth z34 xs j).f2))
def wentRight (xs : List S34) : Bool := chk (wentAt xs) xs.length 0 && decide (xs.length ≤ 30)
theorem rdWent (xs : List S34) (i : Nat) : rd_T34 xs (i : Int) = nth z34 xs i := rfl
theorem spec_WentRight_loop (xs : List S34) (hn : xs.length ≤ 9223372036854775807) : ∀ (d i k : Nat), i + d = xs.length → d < k → spec_WentRight.l0 k xs (i : Int) = some (chk (wentAt xs) d i && true) := by
  apply chk_loop 0 (fun k i => spec_WentRight.l0 k xs i)
  · intro k i _ hi
    simp only [spec_WentRight.l0]
    rw [if_pos (by omega), if_pos (by omega), rdWent, spec_l08Went_eq, Option.bind_some]
    unfold wentAt
    by_cases h : wentB (nth z34 xs i).f0 (nth z34 xs i).f1 (nth z34 xs i).f2 = true
    · rw [if_pos h, h, Bool.true_and]
      by_cases h0 : i = 0
      · subst h0
        rw [if_neg (by omega), if_pos (by simp), wrap_up hi hn]
      · rw [if_pos (by omega), wrap_down (by omega) (by omega), if_pos (by omega), if_pos (by omega), rdWent, wrap_up hi hn]
        by_cases h1 : (nth z34 xs (i - 1)).f2 ≤ (nth z34 xs i).f2
        · rw [if_neg (by omega), if_pos (by simp [h1])]
        · rw [if_pos (by omega), if_neg (by simp [h1, h0])]
    · rw [if_neg h]
      simp [h]
  · intro k _
    simp only [spec_WentRight.l0]
    rw [if_neg (by omega)]
theorem spec_WentRight_eq (xs : List S34) (hn : xs.length ≤ 9223372036854775807) (k : Nat) (hk : xs.length < k) : spec_WentRight.f k xs = some (wentRight xs) := by
  unfold spec_WentRight.f wentRight
  by_cases h : xs.length ≤ 30
  · rw [if_neg (by omega), show (0 : Int) = ((0 : Nat) : Int) from rfl, spec_WentRight_loop xs hn xs.length 0 k (by omega) hk]
    simp [h]
  · rw [if_pos (by omega)]
    simp [h]
theorem impl_WentRight_loop (xs : List S34) (hn : xs.length ≤ 9223372036854775807) : ∀ (d i k : Nat), i + d = xs.length → d < k → impl_WentRight.l0 k xs xs (xs.length : Int) (i : Int) = some (chk (wentAt xs) d i && decide (xs.length ≤ 30)) := by
  apply chk_loop 0 (fun k i => impl_WentRight.l0 k xs xs (xs.length : Int) i)
  · intro k i _ hi
    simp only [impl_WentRight.l0]
    rw [if_pos (by omega), if_pos (by omega), if_pos (by omega), rdWent, impl_Went_isRight_eq, Option.bind_some]
    unfold wentAt
    by_cases h : wentB (nth z34 xs i).f0 (nth z34 xs i).f1 (nth z34 xs i).f2 = true
    · rw [if_pos h, h, Bool.true_and]
      by_cases h0 : i = 0
      · subst h0
        rw [if_neg (by omega), if_pos (by simp), wrap_up hi hn]
      · rw [if_pos (by omega), wrap_down (by omega) (by omega), if_pos (by omega), if_pos (by omega), rdWent, wrap_up hi hn]
        by_cases h1 : (nth z34 xs (i - 1)).f2 ≤ (nth z34 xs i).f2
        · rw [if_neg (by omega), if_pos (by simp [h1])]
        · rw [if_pos (by omega), if_neg (by simp [h1, h0])]
    · rw [if_neg h]
      simp [h]
  · intro k _
    simp only [impl_WentRight.l0]
    rw [if_neg (by omega)]
    simp only [Option.some.injEq, decide_eq_decide]
    omega
theorem impl_WentRight_eq (xs : List S34) (hn : xs.length ≤ 9223372036854775807) (k : Nat) (hk : xs.length < k) : impl_WentRight.f k xs = some (wentRight xs) := by
  unfold impl_WentRight.f wentRight
  rw [show (0 : Int) = ((0 : Nat) : Int) from rfl, impl_WentRight_loop xs hn xs.length 0 k (by omega) hk]
def toWent (x : S30) : S34 := ⟨x.f0, x.f1, x.f2⟩
theorem laws_toWentS_eq (xs : List S30) (hn : xs.length ≤ 1048576) (k : Nat) (hk : xs.length < k) : laws_toWentS.f k xs = some (xs.map toWent) := by
  unfold laws_toWentS.f
  rw [if_pos (by omega), if_pos (by omega), show (0 : Int) = ((0 : Nat) : Int) from rfl]
  rw [fill_loop 0 (fun k acc i => laws_toWentS.l0 k xs acc i) xs.length (fun j => toWent (nth z30 xs j)) ?_ ?_ xs.length 0 k _ (by simp) (by omega) hk]
  · simp [map_range_getD]
  · intro k i acc _ hi hl
    simp only [laws_toWentS.l0, laws_toWent.f, Option.bind_some]
    rw [if_pos (by omega), if_pos (by omega), if_pos (by omega), wrap_up hi (by omega)]
    rfl
  · intro k acc _ hl
    simp only [laws_toWentS.l0]
    rw [if_neg (by omega)]
theorem laws_eqWentS_self (xs : List S34) (hn : xs.length ≤ 9223372036854775807) (k : Nat) (hk : xs.length < k) : laws_eqWentS.f k xs xs = some true := by
  unfold laws_eqWentS.f
  rw [if_pos rfl, show (0 : Int) = ((0 : Nat) : Int) from rfl]
  rw [chk_loop 0 (fun k i => laws_eqWentS.l0 k xs xs i) xs.length (fun _ => true) true ?_ ?_ xs.length 0 k (by omega) hk]
  · simp only [Bool.and_true, Option.some.injEq, chk_iff]
    intros; trivial
  · intro k i _ hi
    simp only [laws_eqWentS.l0, laws_eqWent.f, if_true, Option.bind_some]
    rw [if_pos (by omega), if_pos (by omega), if_pos (by omega), wrap_up hi hn]
  · intro k _
    simp only [laws_eqWentS.l0]
    rw [if_neg (by omega)]
def markWent (m : Int) : S34 := ⟨m, m + 1, m + 2⟩
theorem rd_set (xs : List S34) (i : Nat) (x : S34) (h : i < xs.length) : rd_T34 (xs.set i x) (i : Int) = x := by
  simp [rd_T34, h]
theorem laws_markWentS_eq (xs : List S34) (m : Int) (hn : xs.length ≤ 1048576) (hm : 0 ≤ m) (hB : m ≤ 1000000000000) (k : Nat) (hk : xs.length < k) : laws_markWentS.f k xs m = some (m + 3 * xs.length, marked 3 markWent m xs.length) := by
  unfold laws_markWentS.f
  refine mark_all 0 3 (fun k acc m i => laws_markWentS.l0 k acc m i) xs markWent 1000010000000 ?_ ?_ k m (by omega) hm (by omega)
  · intro k i acc m _ hi hl hm hB
    have e1 : wrap64 (m + 1) = m + 1 := by unfold wrap64; omega
    have e2 : wrap64 (m + 1 + 1) = m + 2 := by unfold wrap64; omega
    have e3 : wrap64 (m + 2 + 1) = m + 3 := by unfold wrap64; omega
    simp only [laws_markWentS.l0, Option.bind_some, Int.toNat_natCast, e1, e2, e3]
    rw [if_pos (by omega), if_pos (by omega), wrap_up hi (by omega)]
    rw [rd_set _ _ _ (by omega), List.set_set, rd_set _ _ _ (by simp; omega), List.set_set]
    rfl
  · intro k acc m _ hl
    simp only [laws_markWentS.l0]
    rw [if_neg (by omega)]
theorem laws_heldWentS_eq (n : Nat) (m : Int) (hn : n ≤ 1048576) (hm : 0 ≤ m) (hB : m ≤ 1000000000000) (k : Nat) (hk : n < k) : laws_heldWentS.f k (marked 3 markWent m n) m = some (m + 3 * n) := by
  unfold laws_heldWentS.f
  have hl := marked_length 3 markWent m n
  have := held_loop z34 0 3 markWent (fun k q i => laws_heldWentS.l0 k (marked 3 markWent m n) q i) n m 1000010000000 ?_ ?_ hm (by omega) n 0 k (by omega) (by omega)
  · simpa using this
  · intro k i q _ hi hq hq0 hqB
    have hx : rd_T34 (marked 3 markWent m n) (i : Int) = markWent q := by
      show nth z34 _ i = _
      rw [marked_nth _ hi, hq]
    have e1 : wrap64 (q + 1) = q + 1 := by unfold wrap64; omega
    have e2 : wrap64 (q + 1 + 1) = q + 2 := by unfold wrap64; omega
    have e3 : wrap64 (q + 2 + 1) = q + 3 := by unfold wrap64; omega
    simp only [laws_heldWentS.l0, hx, markWent, e1, e2, e3, if_true]
    rw [if_pos (by omega), if_pos (by omega), wrap_up hi (by omega)]
    rfl
  · intro k q _
    simp only [laws_heldWentS.l0]
    rw [if_neg (by omega)]
theorem laws_eqWentOut_self (xs : List S34) (c : Int) (hn : xs.length ≤ 9223372036854775807) (k : Nat) (hk : xs.length < k) : laws_eqWentOut.f k xs c xs c = some true := by
  unfold laws_eqWentOut.f
  rw [laws_eqWentS_self xs hn k hk]
  simp
theorem laws_markWentOut_eq (xs : List S34) (c : Int) (hn : xs.length ≤ 1048576) (k : Nat) (hk : xs.length < k) : laws_markWentOut.f k xs c 1 = some (1 + 3 * (xs.length : Int), marked 3 markWent 1 xs.length) := by
  unfold laws_markWentOut.f
  rw [laws_markWentS_eq xs 1 hn (by omega) (by omega) k hk]
  simp
theorem laws_heldWentOut_eq (n : Nat) (c : Int) (hn : n ≤ 1048576) (k : Nat) (hk : n < k) : laws_heldWentOut.f k (marked 3 markWent 1 n) c 1 = some (1 + 3 * (n : Int)) := by
  unfold laws_heldWentOut.f
  rw [laws_heldWentS_eq n 1 hn (by omega) (by omega) k hk]
  simp only [Option.bind_some]
  rw [if_neg (by omega)]
def wentCode (xs : List S34) (b : Bool) : Int := if xs.length > 400 then 2 else if wentRight xs = true then if b = true then 0 else 1 else 1
theorem impl_wentCode_eq (xs : List S34) (b : Bool) (hn : xs.length ≤ 9223372036854775807) (k : Nat) (hk : xs.length < k) : impl_wentCode.f k xs b = some (wentCode xs b) := by
  unfold impl_wentCode.f wentCode
  rw [impl_WentRight_eq xs hn k hk]
  simp only [Option.bind_some]
  by_cases h : xs.length > 400
  · rw [if_pos (by omega), if_pos h]
  · rw [if_neg (by omega), if_neg h]
    split <;> (try split) <;> simp_all
def putW (xs : List S34) (w : S34) : List S34 := if xs.length ≥ 30 then xs.drop 1 ++ [w] else xs ++ [w]
theorem spec_l08Put_eq (xs : List S34) (a b c : Int) (hn : xs.length ≤ 1048576) : spec_l08Put.f xs a b c = some (putW xs ⟨a, b, c⟩) := by
  unfold spec_l08Put.f putW
  by_cases h : xs.length ≥ 30
  · rw [if_pos (by omega), if_pos h, if_pos (by omega), Option.bind_some, Option.bind_some, if_pos (by simp; omega), Option.bind_some, Option.bind_some, if_pos (by simp; omega)]
    simp
  · rw [if_neg (by omega), if_neg h, Option.bind_some, if_pos (by simp; omega), Option.bind_some, Option.bind_some, if_pos (by simp; omega)]
    simp
theorem impl_wentPut_eq (xs : List S34) (a b c : Int) (hn : xs.length ≤ 1048576) : impl_wentPut.f xs a b c = some (putW xs ⟨a, b, c⟩) := by
  have hcl : impl_Went.f xs = some xs := by
    rw [impl_Went.f, Option.bind_some, if_pos (by simp; omega)]
    simp
  unfold impl_wentPut.f putW
  rw [hcl, Option.bind_some, Option.bind_some, if_pos (by simp; omega), Option.bind_some]
  by_cases h : xs.length ≥ 30
  · rw [if_pos (by simp; omega), if_pos h, if_pos (by simp; omega)]
    simp only [show (1 : Int).toNat = 1 from rfl]
    rw [List.drop_append_of_le_length (by omega)]
  · rw [if_neg (by simp; omega), if_neg h]
theorem putW_len (xs : List S34) (w : S34) : (putW xs w).length ≤ xs.length + 1 := by
  unfold putW
  split <;> simp
theorem WentPut_same (xs : List S34) (a b c : Int) (hn : xs.length ≤ 1048576) (k : Nat) (hk : xs.length + 2 < k) : ∃ rs cd, (rs.length ≤ xs.length + 1 ∧ rs.length ≤ 1048576) ∧ spec_WentPut.f k xs a b c = some (rs, cd) ∧ impl_WentPut.f k xs a b c = some (rs, cd) := by
  obtain ⟨k, rfl⟩ : ∃ m, k = m + 1 := ⟨k - 1, by omega⟩
  have hpl := putW_len xs ⟨a, b, c⟩
  have hC : ∀ t, impl_wentCode.f (k + 1) xs t = some (wentCode xs t) := fun t => impl_wentCode_eq xs t (by omega) _ (by omega)
  have hJ : ∀ t, spec_WentPut.j0 k.succ xs t a b c = some (if t = true then ([], 1) else (putW xs ⟨a, b, c⟩, 0)) := by
    intro t
    rw [spec_WentPut.j0]
    cases t with
    | true => rfl
    | false => rw [if_neg (by decide), spec_l08Put_eq xs a b c hn, Option.bind_some]; rfl
  have hI : ∀ t, ((impl_wentCode.f (k + 1) xs t).bind fun q => (if q = 0 then ((impl_wentPut.f xs a b c).bind fun z => (some (z, (0 : Int)))) else (some (([] : List (S34)), q)))) = some (if wentCode xs t = 0 then (putW xs ⟨a, b, c⟩, 0) else ([], wentCode xs t)) := by
    intro t
    rw [hC, Option.bind_some, impl_wentPut_eq xs a b c hn, Option.bind_some]
    split <;> rfl
  have hfin : ∀ t, ∃ rs cd, (rs.length ≤ xs.length + 1 ∧ rs.length ≤ 1048576) ∧ (if (xs.length : Int) > 400 then some (([] : List S34), (2 : Int)) else if wentRight xs = true then (if t = true then some (putW xs ⟨a, b, c⟩, 0) else some ([], 1)) else some ([], 1)) = some (rs, cd) ∧ some (if wentCode xs t = 0 then (putW xs ⟨a, b, c⟩, 0) else ([], wentCode xs t)) = some (rs, cd) := by
    intro t
    by_cases h : xs.length > 400
    · rw [if_pos (by omega)]
      exact ⟨_, _, ⟨Nat.zero_le _, Nat.zero_le _⟩, rfl, by simp [wentCode, h]⟩
    · rw [if_neg (by omega)]
      cases hr : wentRight xs with
      | false => exact ⟨_, _, ⟨Nat.zero_le _, Nat.zero_le _⟩, rfl, by simp [wentCode, h, hr]⟩
      | true =>
        cases t with
        | false => exact ⟨_, _, ⟨Nat.zero_le _, Nat.zero_le _⟩, rfl, by simp [wentCode, h, hr]⟩
        | true => exact ⟨_, _, ⟨hpl, by omega⟩, rfl, by simp [wentCode, h, hr]⟩
  have h5 : wrap64 ((xs.length : Int) - 1) = (xs.length : Int) - 1 := by unfold wrap64; omega
  obtain ⟨T, hT⟩ : ∃ T, T = (wentB a b c && (decide (xs.length = 0) || decide ((rd_T34 xs ((xs.length : Int) - 1)).f2 ≤ c))) := ⟨_, rfl⟩
  obtain ⟨rs, cd, hl, h1, h2⟩ := hfin T
  refine ⟨rs, cd, hl, ?_, ?_⟩
  · rw [← h1]
    unfold spec_WentPut.f
    rw [spec_WentRight_eq xs (by omega) _ (by omega), spec_l08Went_eq, h5]
    simp only [Option.bind_some, spec_l08Ill.f, hJ]
    by_cases h : (xs.length : Int) > 400
    · rw [if_pos h, if_pos h]
    · rw [if_neg h, if_neg h]
      cases hr : wentRight xs with
      | false => rfl
      | true =>
        rw [if_pos rfl, if_pos rfl]
        cases hw : wentB a b c with
        | false =>
          rw [hT, hw]
          rfl
        | true =>
          rw [if_pos rfl]
          by_cases h0 : xs.length = 0
          · rw [if_neg (by omega), hT, hw]
            simp [h0]
          · rw [if_pos (by omega), if_pos (by omega), if_pos (by omega), hT, hw]
            by_cases h6 : (rd_T34 xs ((xs.length : Int) - 1)).f2 ≤ c
            · simp [h0, h6, show ¬ c < (rd_T34 xs ((xs.length : Int) - 1)).f2 by omega]
            · simp [h0, h6, show c < (rd_T34 xs ((xs.length : Int) - 1)).f2 by omega]
  · rw [← h2]
    unfold impl_WentPut.f
    rw [impl_Went_isRight_eq, h5]
    simp only [Option.bind_some, hI]
    cases hw : wentB a b c with
    | false =>
      rw [if_neg (by decide), hT, hw]
      rfl
    | true =>
      rw [if_pos rfl]
      by_cases h0 : xs.length = 0
      · rw [if_pos (by omega), hT, hw]
        simp [h0]
      · rw [if_neg (by omega), if_pos (by omega), if_pos (by omega), hT, hw]
        simp [h0]
theorem FnExactWentPut : ∀ (x0 : List S30) (x1 x2 x3 : Int), (x0.length ≤ maxLen ∧ ∀ y ∈ x0, (Lit.int .i64 y.f0).wf = true ∧ (Lit.int .i64 y.f1).wf = true ∧ (Lit.int .i64 y.f2).wf = true) → (Lit.int .i64 x1).wf = true → (Lit.int .i64 x2).wf = true → (Lit.int .i64 x3).wf = true → ∃ k, laws_FnExactWentPut.f k x0 x1 x2 x3 = some true := by
  intro xs a b c ⟨hl, _⟩ _ _ _
  have hl' : xs.length ≤ 9223372036854775807 := hl
  refine ⟨xs.length + 8, ?_⟩
  unfold laws_FnExactWentPut.f laws_szWentS.f
  rw [sz_wrap hl']
  by_cases h : (1048576 : Int) - xs.length < 0
  · rw [if_pos h]; rfl
  · rw [if_neg h]
    simp only [Option.bind_some, laws_toWent.f]
    have hx : (xs.map toWent).length = xs.length := by simp
    rw [if_neg h, laws_toWentS_eq xs (by omega) _ (by omega)]
    simp only [Option.bind_some]
    obtain ⟨rs, cd, ⟨hr0, hr⟩, h1, h2⟩ := WentPut_same (xs.map toWent) a b c (by omega) (xs.length + 8) (by omega)
    have h3 : impl_WentPut.f (xs.length + 7) (xs.map toWent) a b c = some (rs, cd) := by
      obtain ⟨rs', c', _, h1', h2'⟩ := WentPut_same (xs.map toWent) a b c (by omega) (xs.length + 7) (by omega)
      have := impl_WentPut.mono _ _ _ _ _ _ h2'
      rw [h2] at this
      rw [h2', this]
    rw [h1]
    simp only [Option.bind_some]
    rw [h2]
    simp only [Option.bind_some]
    rw [laws_eqWentOut_self _ _ (by omega) _ (by omega)]
    simp only [Option.bind_some, if_true]
    rw [laws_eqWentS_self _ (by omega) _ (by omega)]
    simp only [Option.bind_some, if_true]
    rw [laws_markWentS_eq _ 1 (by omega) (by omega) (by omega) _ (by omega)]
    simp only [Option.bind_some]
    rw [if_neg (by omega)]
    simp only [laws_FnExactWentPut.j0, Bool.not_true, Bool.false_eq_true, if_false]
    rw [laws_markWentOut_eq _ _ (by omega) _ (by omega)]
    simp only [Option.bind_some]
    rw [laws_heldWentOut_eq _ _ (by omega) _ (by omega)]
    simp only [Option.bind_some, if_true]
    rw [if_neg (by omega), laws_toWentS_eq xs (by omega) _ (by omega)]
    simp only [Option.bind_some, laws_toWent.f]
    rw [h3]
    simp only [Option.bind_some]
    rw [laws_eqWentOut_self _ _ (by omega) _ (by omega)]
    simp only [Option.bind_some, if_true]
    rw [if_neg (by omega)]
end Go.Proofs.Ytifahfnbjidfhaa.fnExactWentPutRow.Pure
