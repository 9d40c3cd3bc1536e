/- The plain law of FnExactWentCount: over numbers and lists alone, that what the program computes is what the reference computes. No condition beyond what a machine's numbers are. -/
import Derived.Test.YtifahfnbjidfhaaPFnExactWentCountx0
import Derived.Test.YtifahfnbjidfhaaPFnExactWentCountx1
import Derived.Test.YtifahfnbjidfhaaPFnExactWentCountx2
import Derived.Test.YtifahfnbjidfhaaPFnExactWentCountx3
import Derived.Test.YtifahfnbjidfhaaPFnExactWentCountx4
import Derived.Test.YtifahfnbjidfhaaPFnExactWentCountx5
import Derived.Test.YtifahfnbjidfhaaBase
set_option linter.unusedSimpArgs false
set_option linter.unusedVariables false
namespace Go.Proofs.Ytifahfnbjidfhaa.fnExactWentCountRow.Pure
open Go.RowKit Go.Proofs.YtifahfnbjidfhaaW.PrintWords Go.Proofs.YtifahfnbjidfhaaW.PrintLast Go.Proofs.Ytifahfnbjidfhaa.PFnExactWentCount Go.Proofs.Ytifahfnbjidfhaa.Base

theorem spec_l02Is_eq (a b c : Int) : spec_l02Is.f a b c = some (inB a b c) := by
  unfold spec_l02Is.f inB
  by_cases h : b ≤ a <;> simp [h]

theorem impl_in_eq (a b c : Int) : impl_in.f a b c = some (inB a b c) := by
  unfold impl_in.f inB
  by_cases h : b ≤ a <;> simp [h]
theorem spec_l02Mac_eq (a : Int) : spec_l02Mac.f a = some (macB a) := by simp [spec_l02Mac.f, spec_l02Is_eq, macB]
theorem spec_l02Vni_eq (a : Int) : spec_l02Vni.f a = some (vniB a) := by simp [spec_l02Vni.f, spec_l02Is_eq, vniB]
theorem spec_l05Time_eq (a : Int) : spec_l05Time.f a = some (timeB a) := by simp [spec_l05Time.f, spec_l02Is_eq, timeB]
theorem impl_isMac_eq (a : Int) : impl_isMac.f a = some (macB a) := by simp [impl_isMac.f, impl_in_eq, macB]
theorem impl_isVni_eq (a : Int) : impl_isVni.f a = some (vniB a) := by simp [impl_isVni.f, impl_in_eq, vniB]
theorem impl_isTime_eq (a : Int) : impl_isTime.f a = some (timeB a) := by simp [impl_isTime.f, impl_in_eq, timeB]def wentB (a b c : Int) : Bool := vniB a && macB b && timeB c
theorem spec_l08Went_eq (a b c : Int) : spec_l08Went.f a b c = some (wentB a b c) := by
  simp only [spec_l08Went.f, spec_l02Vni_eq, spec_l02Mac_eq, spec_l05Time_eq, Option.bind_some, some_ite, wentB, Bool.and_assoc]
theorem impl_Went_isRight_eq (a b c : Int) : impl_Went_isRight.f a b c = some (wentB a b c) := by
  simp only [impl_Went_isRight.f, impl_isVni_eq, impl_isMac_eq, impl_isTime_eq, Option.bind_some, some_ite, wentB, Bool.and_assoc]
/-- What stands at a place of a right row of moves. -/
def wentAt (xs : List S34) (j : Nat) : Bool :=
  wentB (nth z34 xs j).f0 (nth z34 xs j).f1 (nth z34 xs j).f2 && (j == 0 || decide ((nth z34 xs (j - 1)).f2 ≤ (nth z34 xs j).f2))
def wentRight (xs : List S34) : Bool := chk (wentAt xs) xs.length 0 && decide (xs.length ≤ 30)
theorem rdWent (xs : List S34) (i : Nat) : rd_T34 xs (i : Int) = nth z34 xs i := rfl
theorem spec_WentRight_loop (xs : List S34) (hn : xs.length ≤ 9223372036854775807) : ∀ (d i k : Nat), i + d = xs.length → d < k → spec_WentRight.l0 k xs (i : Int) = some (chk (wentAt xs) d i && true) := by
  apply chk_loop 0 (fun k i => spec_WentRight.l0 k xs i)
  · intro k i _ hi
    simp only [spec_WentRight.l0]
    rw [if_pos (by omega), if_pos (by omega), rdWent, spec_l08Went_eq, Option.bind_some]
    unfold wentAt
    by_cases h : wentB (nth z34 xs i).f0 (nth z34 xs i).f1 (nth z34 xs i).f2 = true
    · rw [if_pos h, h, Bool.true_and]
      by_cases h0 : i = 0
      · subst h0
        rw [if_neg (by omega), if_pos (by simp), wrap_up hi hn]
      · rw [if_pos (by omega), wrap_down (by omega) (by omega), if_pos (by omega), if_pos (by omega), rdWent, wrap_up hi hn]
        by_cases h1 : (nth z34 xs (i - 1)).f2 ≤ (nth z34 xs i).f2
        · rw [if_neg (by omega), if_pos (by simp [h1])]
        · rw [if_pos (by omega), if_neg (by simp [h1, h0])]
    · rw [if_neg h]
      simp [h]
  · intro k _
    simp only [spec_WentRight.l0]
    rw [if_neg (by omega)]
theorem spec_WentRight_eq (xs : List S34) (hn : xs.length ≤ 9223372036854775807) (k : Nat) (hk : xs.length < k) : spec_WentRight.f k xs = some (wentRight xs) := by
  unfold spec_WentRight.f wentRight
  by_cases h : xs.length ≤ 30
  · rw [if_neg (by omega), show (0 : Int) = ((0 : Nat) : Int) from rfl, spec_WentRight_loop xs hn xs.length 0 k (by omega) hk]
    simp [h]
  · rw [if_pos (by omega)]
    simp [h]
theorem impl_WentRight_loop (xs : List S34) (hn : xs.length ≤ 9223372036854775807) : ∀ (d i k : Nat), i + d = xs.length → d < k → impl_WentRight.l0 k xs xs (xs.length : Int) (i : Int) = some (chk (wentAt xs) d i && decide (xs.length ≤ 30)) := by
  apply chk_loop 0 (fun k i => impl_WentRight.l0 k xs xs (xs.length : Int) i)
  · intro k i _ hi
    simp only [impl_WentRight.l0]
    rw [if_pos (by omega), if_pos (by omega), if_pos (by omega), rdWent, impl_Went_isRight_eq, Option.bind_some]
    unfold wentAt
    by_cases h : wentB (nth z34 xs i).f0 (nth z34 xs i).f1 (nth z34 xs i).f2 = true
    · rw [if_pos h, h, Bool.true_and]
      by_cases h0 : i = 0
      · subst h0
        rw [if_neg (by omega), if_pos (by simp), wrap_up hi hn]
      · rw [if_pos (by omega), wrap_down (by omega) (by omega), if_pos (by omega), if_pos (by omega), rdWent, wrap_up hi hn]
        by_cases h1 : (nth z34 xs (i - 1)).f2 ≤ (nth z34 xs i).f2
        · rw [if_neg (by omega), if_pos (by simp [h1])]
        · rw [if_pos (by omega), if_neg (by simp [h1, h0])]
    · rw [if_neg h]
      simp [h]
  · intro k _
    simp only [impl_WentRight.l0]
    rw [if_neg (by omega)]
    simp only [Option.some.injEq, decide_eq_decide]
    omega
theorem impl_WentRight_eq (xs : List S34) (hn : xs.length ≤ 9223372036854775807) (k : Nat) (hk : xs.length < k) : impl_WentRight.f k xs = some (wentRight xs) := by
  unfold impl_WentRight.f wentRight
  rw [show (0 : Int) = ((0 : Nat) : Int) from rfl, impl_WentRight_loop xs hn xs.length 0 k (by omega) hk]
def toWent (x : S30) : S34 := ⟨x.f0, x.f1, x.f2⟩
theorem laws_toWentS_eq (xs : List S30) (hn : xs.length ≤ 1048576) (k : Nat) (hk : xs.length < k) : laws_toWentS.f k xs = some (xs.map toWent) := by
  unfold laws_toWentS.f
  rw [if_pos (by omega), if_pos (by omega), show (0 : Int) = ((0 : Nat) : Int) from rfl]
  rw [fill_loop 0 (fun k acc i => laws_toWentS.l0 k xs acc i) xs.length (fun j => toWent (nth z30 xs j)) ?_ ?_ xs.length 0 k _ (by simp) (by omega) hk]
  · simp [map_range_getD]
  · intro k i acc _ hi hl
    simp only [laws_toWentS.l0, laws_toWent.f, Option.bind_some]
    rw [if_pos (by omega), if_pos (by omega), if_pos (by omega), wrap_up hi (by omega)]
    rfl
  · intro k acc _ hl
    simp only [laws_toWentS.l0]
    rw [if_neg (by omega)]
theorem laws_eqWentS_self (xs : List S34) (hn : xs.length ≤ 9223372036854775807) (k : Nat) (hk : xs.length < k) : laws_eqWentS.f k xs xs = some true := by
  unfold laws_eqWentS.f
  rw [if_pos rfl, show (0 : Int) = ((0 : Nat) : Int) from rfl]
  rw [chk_loop 0 (fun k i => laws_eqWentS.l0 k xs xs i) xs.length (fun _ => true) true ?_ ?_ xs.length 0 k (by omega) hk]
  · simp only [Bool.and_true, Option.some.injEq, chk_iff]
    intros; trivial
  · intro k i _ hi
    simp only [laws_eqWentS.l0, laws_eqWent.f, if_true, Option.bind_some]
    rw [if_pos (by omega), if_pos (by omega), if_pos (by omega), wrap_up hi hn]
  · intro k _
    simp only [laws_eqWentS.l0]
    rw [if_neg (by omega)]
/-- How often a guest has moved of late. -/
def wentIs (v m now : Int) (x : S34) : Bool := decide (x.f0 = v) && decide (x.f1 = m) && decide (x.f2 > now - 30)
def cntFrom (xs : List S34) (v m now : Int) : Nat → Nat → Int → Int := run (fun i s => .inl (if wentIs v m now (nth z34 xs i) then s + 1 else s)) (fun s => s)
theorem spec_l08Count_eq (xs : List S34) (v m now : Int) (hn : xs.length ≤ 1048576) (hw : timeB now = true) (k : Nat) (hk : xs.length < k) : spec_l08Count.f k xs v m now = some (cntFrom xs v m now xs.length 0 0) := by
  have hnow : 0 ≤ now ∧ now ≤ 1000000 := by simpa [timeB, inB] using hw
  have hnw : wrap64 (now - 30) = now - 30 := by unfold wrap64; omega
  unfold spec_l08Count.f cntFrom
  refine run_loop 0 (fun k s i => spec_l08Count.l0 k xs v m now s i) xs.length (fun i s => 0 ≤ s ∧ s ≤ i) _ _ ?_ ?_ ?_ ?_ xs.length 0 k 0 (by simp) (by omega) (by omega)
  · intro i s s' hi hs hst
    simp only [Sum.inl.injEq] at hst
    subst hst
    split <;> omega
  · intro k i s s' _ hi hs hst
    simp only [Sum.inl.injEq] at hst
    subst hst
    have hs1 : wrap64 (s + 1) = s + 1 := by unfold wrap64; omega
    simp only [spec_l08Count.l0]
    rw [if_pos (by omega), if_pos (by omega), rdWent, wrap_up hi (by omega), hnw, hs1]
    unfold wentIs
    by_cases h0 : (nth z34 xs i).f0 = v <;> by_cases h1 : (nth z34 xs i).f1 = m <;> by_cases h2 : (nth z34 xs i).f2 > now - 30 <;> simp [h0, h1, h2]
  · intro k i s r _ hi hs hst
    cases hst
  · intro k s _ hs
    simp only [spec_l08Count.l0]
    rw [if_neg (by omega)]
theorem impl_wentCount_eq (xs : List S34) (v m now : Int) (hn : xs.length ≤ 1048576) (hw : timeB now = true) (k : Nat) (hk : xs.length < k) : impl_wentCount.f k xs v m now = some (cntFrom xs v m now xs.length 0 0) := by
  have hnow : 0 ≤ now ∧ now ≤ 1000000 := by simpa [timeB, inB] using hw
  have hnw : wrap64 (now - 30) = now - 30 := by unfold wrap64; omega
  unfold impl_wentCount.f cntFrom
  refine run_loop 0 (fun k s i => impl_wentCount.l0 k v m now s xs (xs.length : Int) i) xs.length (fun i s => 0 ≤ s ∧ s ≤ i) _ _ ?_ ?_ ?_ ?_ xs.length 0 k 0 (by simp) (by omega) (by omega)
  · intro i s s' hi hs hst
    simp only [Sum.inl.injEq] at hst
    subst hst
    split <;> omega
  · intro k i s s' _ hi hs hst
    simp only [Sum.inl.injEq] at hst
    subst hst
    have hs1 : wrap64 (s + 1) = s + 1 := by unfold wrap64; omega
    simp only [impl_wentCount.l0]
    rw [if_pos (by omega), if_pos (by omega), if_pos (by omega), rdWent, wrap_up hi (by omega), hnw, hs1]
    unfold wentIs
    by_cases h0 : (nth z34 xs i).f0 = v <;> by_cases h1 : (nth z34 xs i).f1 = m <;> by_cases h2 : (nth z34 xs i).f2 > now - 30 <;> simp [h0, h1, h2]
  · intro k i s r _ hi hs hst
    cases hst
  · intro k s _ hs
    simp only [impl_wentCount.l0]
    rw [if_neg (by omega)]
theorem WentCount_same (xs : List S34) (v m now : Int) (hn : xs.length ≤ 1048576) (k : Nat) (hk : xs.length < k) : ∃ r, spec_WentCount.f k xs v m now = some r ∧ impl_WentCount.f k xs v m now = some r := by
  unfold spec_WentCount.f impl_WentCount.f
  rw [spec_WentRight_eq xs (by omega) k hk, impl_WentRight_eq xs (by omega) k hk, spec_l05Time_eq, impl_isTime_eq]
  simp only [Option.bind_some]
  by_cases h : wentRight xs = true
  · rw [if_pos h, if_pos h]
    by_cases ht : timeB now = true
    · rw [if_pos ht, if_pos ht, spec_l08Count_eq xs v m now hn ht k hk, impl_wentCount_eq xs v m now hn ht k hk]
      exact ⟨_, rfl, rfl⟩
    · rw [if_neg ht, if_neg ht]
      exact ⟨_, rfl, rfl⟩
  · rw [if_neg h, if_neg h]
    exact ⟨_, rfl, rfl⟩
theorem FnExactWentCount : ∀ (x0 : List S30) (x1 x2 x3 : Int), (x0.length ≤ maxLen ∧ ∀ y ∈ x0, (Lit.int .i64 y.f0).wf = true ∧ (Lit.int .i64 y.f1).wf = true ∧ (Lit.int .i64 y.f2).wf = true) → (Lit.int .i64 x1).wf = true → (Lit.int .i64 x2).wf = true → (Lit.int .i64 x3).wf = true → ∃ k, laws_FnExactWentCount.f k x0 x1 x2 x3 = some true := by
  intro xs v m now ⟨hl, _⟩ _ _ _
  have hl' : xs.length ≤ 9223372036854775807 := hl
  refine ⟨xs.length + 1, ?_⟩
  unfold laws_FnExactWentCount.f laws_szWentS.f
  rw [sz_wrap hl']
  by_cases h : (1048576 : Int) - xs.length < 0
  · rw [if_pos h]; rfl
  · rw [if_neg h]
    simp only [Option.bind_some]
    have hx : (xs.map toWent).length = xs.length := by simp
    rw [if_neg h, laws_toWentS_eq xs (by omega) _ (by omega)]
    simp only [Option.bind_some]
    obtain ⟨r, h1, h2⟩ := WentCount_same (xs.map toWent) v m now (by omega) (xs.length + 1) (by omega)
    rw [h1]
    simp only [Option.bind_some]
    rw [h2]
    simp only [Option.bind_some, if_true]
    rw [laws_eqWentS_self _ (by omega) _ (by omega)]
    rfl

end Go.Proofs.Ytifahfnbjidfhaa.fnExactWentCountRow.Pure
