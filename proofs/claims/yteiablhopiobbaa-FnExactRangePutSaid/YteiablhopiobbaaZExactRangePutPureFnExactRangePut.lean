-- A copy, by trim.py of this session's wip/gen, of a text of this claim, without what the row does not reach and without comments: not an official print.
import Derived.Test.YteiablhopiobbaaZExactRangePutPFnExactRangePutx0
import Derived.Test.YteiablhopiobbaaZExactRangePutPFnExactRangePutx1
import Derived.Test.YteiablhopiobbaaZExactRangePutPFnExactRangePutx2
import Derived.Test.YteiablhopiobbaaZExactRangePutPFnExactRangePutx3
import Derived.Test.YteiablhopiobbaaZExactRangePutPFnExactRangePutx4
import Derived.Test.YteiablhopiobbaaZExactRangePutPFnExactRangePutx5
import Derived.Test.YteiablhopiobbaaZExactRangePutPFnExactRangePutx6
import Derived.Test.YteiablhopiobbaaZExactRangePutPFnExactRangePutx7
import Derived.Test.YteiablhopiobbaaZExactRangePutPFnExactRangePutx8
import Derived.Test.YteiablhopiobbaaZExactRangePutPFnExactRangePutx9
import Derived.Test.YteiablhopiobbaaZExactRangePutPFnExactRangePutx10
import Derived.Test.YteiablhopiobbaaZExactRangePutBase
set_option linter.unusedSimpArgs false
set_option linter.unusedVariables false
namespace Go.Proofs.Yteiablhopiobbaa.fnExactRangePutRow.Pure
open Go.RowKit Go.Proofs.YteiablhopiobbaaW.PrintWords Go.Proofs.YteiablhopiobbaaW.PrintLast Go.Proofs.Yteiablhopiobbaa.PFnExactRangePut Go.Proofs.Yteiablhopiobbaa.Base
theorem spec_l02Is_eq (a b c : Int) : spec_l02Is.f a b c = some (inB a b c) := by
  unfold spec_l02Is.f inB
  by_cases h : b ≤ a <;> simp [h]
theorem impl_in_eq (a b c : Int) : impl_in.f a b c = some (inB a b c) := by
  unfold impl_in.f inB
  by_cases h : b ≤ a <;> simp [h]
theorem spec_l02Ip_eq (a : Int) : spec_l02Ip.f a = some (ipB a) := by simp [spec_l02Ip.f, spec_l02Is_eq, ipB]
theorem spec_l09House_eq (a : Int) : spec_l09House.f a = some (houseB a) := by simp [spec_l09House.f, spec_l02Is_eq, houseB]
theorem impl_isIp_eq (a : Int) : impl_isIp.f a = some (ipB a) := by simp [impl_isIp.f, impl_in_eq, ipB]
theorem impl_isHouse_eq (a : Int) : impl_isHouse.f a = some (houseB a) := by simp [impl_isHouse.f, impl_in_eq, houseB]
theorem cmp_Compare_eq (a b : Int) : cmp_Compare_int64.f a b = some (cmpI a b) := by
  simp only [cmp_Compare_int64.f, cmp_isNaN_int64.f, Option.bind_some, bne_self_eq_false, cmpI]
  simp only [Bool.false_eq_true, if_false]
  repeat' split
  all_goals rfl
theorem cmp_Or_eq (xs : List Int) (hn : xs.length ≤ 100) (k : Nat) (hk : xs.length < k) : cmp_Or_int.f k xs = some (firstNZ xs) := by
  have key : ∀ (d i k : Nat), i + d = xs.length → d < k → cmp_Or_int.l0 k 0 xs (xs.length : Int) (i : Int) = some (firstNZ (xs.drop i)) := by
    intro d
    induction d with
    | zero =>
      intro i k hd hk
      obtain ⟨k, rfl⟩ : ∃ m, k = m + 1 := ⟨k - 1, by omega⟩
      simp only [cmp_Or_int.l0]
      rw [if_neg (by omega), List.drop_of_length_le (by omega)]
      rfl
    | succ d ih =>
      intro i k hd hk
      obtain ⟨k, rfl⟩ : ∃ m, k = m + 1 := ⟨k - 1, by omega⟩
      simp only [cmp_Or_int.l0]
      rw [if_pos (by omega), if_pos (by omega), if_pos (by omega), show rd xs (i : Int) = nth 0 xs i from rfl, drop_nth 0 (by omega : i < xs.length), wrap_up (by omega : i < xs.length) (by omega), ih (i + 1) k (by omega) (by omega)]
      simp only [firstNZ]
      split <;> rfl
  exact key xs.length 0 k (by omega) hk
theorem spec_l16Size_eq {b : Int} (h0 : 0 ≤ b) (h1 : b ≤ 32) : spec_l16Size.f b = some (sizeB b) := by
  unfold spec_l16Size.f
  rw [if_pos (by unfold wrap64; omega), size_eq h0 h1]
theorem impl_Range_size_eq {a b c : Int} (h0 : 0 ≤ b) (h1 : b ≤ 32) : impl_Range_size.f a b c = some (sizeB b) := by
  unfold impl_Range_size.f
  rw [if_pos (by unfold wrap64; omega), size_eq h0 h1]
theorem spec_RangeRight_eq (a b c : Int) : spec_RangeRight.f a b c = some (rangeB a b c) := by
  simp only [spec_RangeRight.f, spec_l02Ip_eq, spec_l02Is_eq, spec_l09House_eq, Option.bind_some, rangeB]
  by_cases h1 : ipB a = true
  · by_cases h2 : inB b 0 32 = true
    · have hb : 0 ≤ b ∧ b ≤ 32 := by simpa [inB] using h2
      have ha : 0 ≤ a ∧ a ≤ 4294967295 := by simpa [ipB, inB] using h1
      have hp := size_pos b
      rw [if_pos h1, if_pos h2, spec_l16Size_eq hb.1 hb.2]
      simp only [Option.bind_some]
      rw [if_neg (by omega), Int.tmod_eq_emod_of_nonneg ha.1]
      by_cases h3 : a % sizeB b = 0 <;> simp [h1, h2, h3]
    · simp [h1, h2]
  · simp [h1]
theorem impl_RangeRight_eq (a b c : Int) : impl_RangeRight.f a b c = some (rangeB a b c) := by
  simp only [impl_RangeRight.f, impl_isIp_eq, impl_in_eq, impl_isHouse_eq, Option.bind_some, rangeB]
  by_cases h1 : ipB a = true
  · by_cases h2 : inB b 0 32 = true
    · have hb : 0 ≤ b ∧ b ≤ 32 := by simpa [inB] using h2
      have ha : 0 ≤ a ∧ a ≤ 4294967295 := by simpa [ipB, inB] using h1
      have hp := size_pos b
      rw [if_pos h1, if_pos h2, impl_Range_size_eq hb.1 hb.2]
      simp only [Option.bind_some]
      rw [if_neg (by omega), Int.tmod_eq_emod_of_nonneg ha.1]
      by_cases h3 : a % sizeB b = 0 <;> simp [h1, h2, h3]
    · simp [h1, h2]
  · simp [h1]
theorem impl_Range_order_eq (a b c x y z : Int) (k : Nat) (hk : 3 ≤ k) : impl_Range_order.f k a b c x y z = some (firstNZ [cmpI a x, cmpI b y]) := by
  simp only [impl_Range_order.f, cmp_Compare_eq, Option.bind_some]
  rw [cmp_Or_eq _ (by simp) k (by simp; omega)]
  rfl
def lessR (a b : S48) : Bool := decide (a.f0 < b.f0) || (decide (a.f0 = b.f0) && decide (a.f1 < b.f1))
def rightR (a : S48) : Bool := rangeB a.f0 a.f1 a.f2
def rangeAt (xs : List S48) (j : Nat) : Bool := rightR (nth z48 xs j) && (j == 0 || lessR (nth z48 xs (j - 1)) (nth z48 xs j))
def rangesRight (xs : List S48) : Bool := chk (rangeAt xs) xs.length 0 && decide (xs.length ≤ 30)
theorem rdR (xs : List S48) (i : Nat) : rd_T48 xs (i : Int) = nth z48 xs i := rfl
theorem rightR_eq (a : S48) : rangeB a.f0 a.f1 a.f2 = rightR a := rfl
theorem spec_l16Less_eq (a b : S48) : spec_l16Less.f a.f0 a.f1 a.f2 b.f0 b.f1 b.f2 = some (lessR a b) := by
  unfold spec_l16Less.f lessR
  by_cases h : a.f0 < b.f0
  · simp [h]
  · by_cases h1 : a.f0 = b.f0 <;> simp [h, h1]
theorem ordR_neg (a b : S48) : (firstNZ [cmpI a.f0 b.f0, cmpI a.f1 b.f1] ≥ 0) ↔ lessR a b = false := by
  unfold lessR cmpI firstNZ firstNZ firstNZ
  repeat' split
  all_goals simp
  all_goals omega
theorem spec_RangesRight_loop (xs : List S48) (hn : xs.length ≤ 9223372036854775807) : ∀ (d i k : Nat), i + d = xs.length → d + 0 < k → spec_RangesRight.l0 k xs (i : Int) = some (chk (rangeAt xs) d i && true) := by
  apply chk_loop 0 (fun k i => spec_RangesRight.l0 k xs i)
  · intro k i _ hi
    simp only [spec_RangesRight.l0]
    rw [if_pos (by omega), if_pos (by omega), rdR, spec_RangeRight_eq, Option.bind_some, rightR_eq]
    unfold rangeAt
    by_cases h : rightR (nth z48 xs i) = true
    · rw [if_pos h, h, Bool.true_and]
      by_cases h0 : i = 0
      · subst h0
        rw [if_neg (by omega), if_pos (by simp), wrap_up hi hn]
      · rw [if_pos (by omega), wrap_down (by omega) (by omega), if_pos (by omega), if_pos (by omega), rdR, wrap_up hi hn, spec_l16Less_eq, Option.bind_some]
        cases h1 : lessR (nth z48 xs (i - 1)) (nth z48 xs i) <;> simp [h0]
    · rw [if_neg h]
      simp [h]
  · intro k _
    simp only [spec_RangesRight.l0]
    rw [if_neg (by omega)]
theorem spec_RangesRight_eq (xs : List S48) (hn : xs.length ≤ 9223372036854775807) (k : Nat) (hk : xs.length + 3 < k) : spec_RangesRight.f k xs = some (rangesRight xs) := by
  unfold spec_RangesRight.f rangesRight
  by_cases h : xs.length ≤ 30
  · rw [if_neg (by omega), show (0 : Int) = ((0 : Nat) : Int) from rfl, spec_RangesRight_loop xs hn xs.length 0 k (by omega) (by omega)]
    simp [h]
  · rw [if_pos (by omega)]
    simp [h]
theorem impl_RangesRight_loop (xs : List S48) (hn : xs.length ≤ 9223372036854775807) : ∀ (d i k : Nat), i + d = xs.length → d + 3 < k → impl_RangesRight.l0 k xs xs (xs.length : Int) (i : Int) = some (chk (rangeAt xs) d i && decide (xs.length ≤ 30)) := by
  apply chk_loop 3 (fun k i => impl_RangesRight.l0 k xs xs (xs.length : Int) i)
  · intro k i hc hi
    simp only [impl_RangesRight.l0]
    rw [if_pos (by omega), if_pos (by omega), if_pos (by omega), rdR, impl_RangeRight_eq, Option.bind_some, rightR_eq]
    unfold rangeAt
    by_cases h : rightR (nth z48 xs i) = true
    · rw [if_pos h, h, Bool.true_and]
      by_cases h0 : i = 0
      · subst h0
        rw [if_neg (by omega), if_pos (by simp), wrap_up hi hn]
      · rw [if_pos (by omega), wrap_down (by omega) (by omega), if_pos (by omega), if_pos (by omega), rdR, wrap_up hi hn, impl_Range_order_eq _ _ _ _ _ _ k hc, Option.bind_some]
        have ho := ordR_neg (nth z48 xs (i - 1)) (nth z48 xs i)
        cases h1 : lessR (nth z48 xs (i - 1)) (nth z48 xs i) with
        | true => rw [if_neg (by rw [ho, h1]; simp)]; simp
        | false => rw [if_pos (by rw [ho, h1])]; simp [h0]
    · rw [if_neg h]
      simp [h]
  · intro k _
    simp only [impl_RangesRight.l0]
    rw [if_neg (by omega)]
    simp only [Option.some.injEq, decide_eq_decide]
    omega
theorem impl_RangesRight_eq (xs : List S48) (hn : xs.length ≤ 9223372036854775807) (k : Nat) (hk : xs.length + 3 < k) : impl_RangesRight.f k xs = some (rangesRight xs) := by
  unfold impl_RangesRight.f rangesRight
  rw [show (0 : Int) = ((0 : Nat) : Int) from rfl, impl_RangesRight_loop xs hn xs.length 0 k (by omega) hk]
def toRange (x : S46) : S48 := ⟨x.f0, x.f1, x.f2⟩
theorem laws_toRangeS_eq (xs : List S46) (hn : xs.length ≤ 1048576) (k : Nat) (hk : xs.length < k) : laws_toRangeS.f k xs = some (xs.map toRange) := by
  unfold laws_toRangeS.f
  rw [if_pos (by omega), if_pos (by omega), show (0 : Int) = ((0 : Nat) : Int) from rfl]
  rw [fill_loop 0 (fun k acc i => laws_toRangeS.l0 k xs acc i) xs.length (fun j => toRange (nth z46 xs j)) ?_ ?_ xs.length 0 k _ (by simp) (by omega) hk]
  · simp [map_range_getD]
  · intro k i acc _ hi hl
    simp only [laws_toRangeS.l0, laws_toRange.f, Option.bind_some]
    rw [if_pos (by omega), if_pos (by omega), if_pos (by omega), wrap_up hi (by omega)]
    rfl
  · intro k acc _ hl
    simp only [laws_toRangeS.l0]
    rw [if_neg (by omega)]
theorem laws_eqRangeS_self (xs : List S48) (hn : xs.length ≤ 9223372036854775807) (k : Nat) (hk : xs.length < k) : laws_eqRangeS.f k xs xs = some true := by
  unfold laws_eqRangeS.f
  rw [if_pos rfl, show (0 : Int) = ((0 : Nat) : Int) from rfl]
  rw [chk_loop 0 (fun k i => laws_eqRangeS.l0 k xs xs i) xs.length (fun _ => true) true ?_ ?_ xs.length 0 k (by omega) hk]
  · simp only [Bool.and_true, Option.some.injEq, chk_iff]
    intros; trivial
  · intro k i _ hi
    simp only [laws_eqRangeS.l0, laws_eqRange.f, if_true, Option.bind_some]
    rw [if_pos (by omega), if_pos (by omega), if_pos (by omega), wrap_up hi hn]
  · intro k _
    simp only [laws_eqRangeS.l0]
    rw [if_neg (by omega)]
def markRange (m : Int) : S48 := ⟨m, m + 1, m + 2⟩
theorem rd_set (xs : List S48) (i : Nat) (x : S48) (h : i < xs.length) : rd_T48 (xs.set i x) (i : Int) = x := by
  simp [rd_T48, h]
theorem laws_markRangeS_eq (xs : List S48) (m : Int) (hn : xs.length ≤ 1048576) (hm : 0 ≤ m) (hB : m ≤ 1000000000000) (k : Nat) (hk : xs.length < k) : laws_markRangeS.f k xs m = some (m + 3 * xs.length, marked 3 markRange m xs.length) := by
  unfold laws_markRangeS.f
  refine mark_all 0 3 (fun k acc m i => laws_markRangeS.l0 k acc m i) xs markRange 1000010000000 ?_ ?_ k m (by omega) hm (by omega)
  · intro k i acc m _ hi hl hm hB
    have e1 : wrap64 (m + 1) = m + 1 := by unfold wrap64; omega
    have e2 : wrap64 (m + 1 + 1) = m + 2 := by unfold wrap64; omega
    have e3 : wrap64 (m + 2 + 1) = m + 3 := by unfold wrap64; omega
    simp only [laws_markRangeS.l0, Option.bind_some, Int.toNat_natCast, e1, e2, e3]
    rw [if_pos (by omega), if_pos (by omega), wrap_up hi (by omega)]
    rw [rd_set _ _ _ (by omega), List.set_set, rd_set _ _ _ (by simp; omega), List.set_set]
    rfl
  · intro k acc m _ hl
    simp only [laws_markRangeS.l0]
    rw [if_neg (by omega)]
theorem laws_heldRangeS_eq (n : Nat) (m : Int) (hn : n ≤ 1048576) (hm : 0 ≤ m) (hB : m ≤ 1000000000000) (k : Nat) (hk : n < k) : laws_heldRangeS.f k (marked 3 markRange m n) m = some (m + 3 * n) := by
  unfold laws_heldRangeS.f
  have hl := marked_length 3 markRange m n
  have := held_loop z48 0 3 markRange (fun k q i => laws_heldRangeS.l0 k (marked 3 markRange m n) q i) n m 1000010000000 ?_ ?_ hm (by omega) n 0 k (by omega) (by omega)
  · simpa using this
  · intro k i q _ hi hq hq0 hqB
    have hx : rd_T48 (marked 3 markRange m n) (i : Int) = markRange q := by
      show nth z48 _ i = _
      rw [marked_nth _ hi, hq]
    have e1 : wrap64 (q + 1) = q + 1 := by unfold wrap64; omega
    have e2 : wrap64 (q + 1 + 1) = q + 2 := by unfold wrap64; omega
    have e3 : wrap64 (q + 2 + 1) = q + 3 := by unfold wrap64; omega
    simp only [laws_heldRangeS.l0, hx, markRange, e1, e2, e3, if_true]
    rw [if_pos (by omega), if_pos (by omega), wrap_up hi (by omega)]
    rfl
  · intro k q _
    simp only [laws_heldRangeS.l0]
    rw [if_neg (by omega)]
theorem laws_eqRangeOut_self (a b e : Int) (xs : List S48) (c : Int) (hn : xs.length ≤ 9223372036854775807) (k : Nat) (hk : xs.length < k) : laws_eqRangeOut.f k a b e xs c a b e xs c = some true := by
  unfold laws_eqRangeOut.f laws_eqRange.f
  rw [laws_eqRangeS_self xs hn k hk]
  simp
theorem laws_markRangeOut_eq (a b e : Int) (xs : List S48) (c : Int) (hn : xs.length ≤ 1048576) (k : Nat) (hk : xs.length < k) : laws_markRangeOut.f k a b e xs c 1 = some (1 + 3 * (xs.length : Int), marked 3 markRange 1 xs.length) := by
  unfold laws_markRangeOut.f
  rw [laws_markRangeS_eq xs 1 hn (by omega) (by omega) k hk]
  simp
theorem laws_heldRangeOut_eq (a b e : Int) (n : Nat) (c : Int) (hn : n ≤ 1048576) (k : Nat) (hk : n < k) : laws_heldRangeOut.f k a b e (marked 3 markRange 1 n) c 1 = some (1 + 3 * (n : Int)) := by
  unfold laws_heldRangeOut.f
  rw [laws_heldRangeS_eq n 1 hn (by omega) (by omega) k hk]
  simp only [Option.bind_some]
  rw [if_neg (by omega)]
theorem put_some (xs : List S48) (y : S48) (hn : xs.length ≤ 1048576) : ∀ (d i k : Nat), i + d = xs.length → d < k → ∃ z, spec_l16Put.l0 k xs (i : Int) y.f0 y.f1 y.f2 = some z ∧ z.length ≤ xs.length + 1 := by
  intro d
  induction d with
  | zero =>
    intro i k hd hk
    obtain ⟨k, rfl⟩ : ∃ m, k = m + 1 := ⟨k - 1, by omega⟩
    obtain rfl : i = xs.length := by omega
    rw [spec_l16Put.l0, if_neg (by omega), Option.bind_some, if_pos (by omega), if_pos (by omega), Option.bind_some, if_pos (by simp; omega), Option.bind_some, if_pos (by simp; omega), Option.bind_some, Option.bind_some, if_pos (by simp; omega)]
    exact ⟨_, rfl, by simp⟩
  | succ d ih =>
    intro i k hd hk
    obtain ⟨k, rfl⟩ : ∃ m, k = m + 1 := ⟨k - 1, by omega⟩
    have hw : wrap64 ((i : Int) + 1) = ((i + 1 : Nat) : Int) := by unfold wrap64; omega
    rw [spec_l16Put.l0, if_pos (by omega), if_pos (by omega), rdR, spec_l16Less_eq, Option.bind_some, hw]
    cases h1 : lessR (nth z48 xs i) y with
    | true =>
      rw [if_pos rfl]
      exact ih (i + 1) k (by omega) (by omega)
    | false =>
      rw [if_neg (by decide), Option.bind_some, if_pos (by omega), Option.bind_some, if_pos (by simp; omega), Option.bind_some, if_pos (by simp; omega), Option.bind_some, spec_l16Less_eq, Option.bind_some]
      cases h2 : lessR y (nth z48 xs i) with
      | true =>
        rw [if_pos rfl, Option.bind_some, if_pos (by simp; omega)]
        exact ⟨_, rfl, by simp; omega⟩
      | false =>
        rw [if_neg (by decide), if_pos (by omega), if_pos (by omega), Option.bind_some, if_pos (by simp; omega)]
        exact ⟨_, rfl, by simp; omega⟩
theorem RangePut_same (xs : List S48) (a b c : Int) (hn : xs.length ≤ 1048576) (k : Nat) (hk : xs.length + 5 < k) : ∃ r1 r2 r3 r4 r5, (r4.length ≤ xs.length + 1 ∧ r4.length ≤ 1048576) ∧ spec_RangePut.f k xs a b c = some (r1, r2, r3, r4, r5) ∧ impl_RangePut.f k xs a b c = some (r1, r2, r3, r4, r5) := by
  obtain ⟨k, rfl⟩ : ∃ m, k = m + 1 := ⟨k - 1, by omega⟩
  have hcl : impl_Range_90.f xs = some xs := by
    simp only [impl_Range_90.f, Option.bind_some, List.nil_append]
    rw [if_pos (by simp; omega)]
  unfold spec_RangePut.f impl_RangePut.f
  rw [spec_RangesRight_eq xs (by omega) _ (by omega), impl_RangesRight_eq xs (by omega) _ (by omega), spec_RangeRight_eq, impl_RangeRight_eq, hcl]
  simp only [Option.bind_some, spec_l16Ill.f, spec_RangePut.j0, impl_RangePut.j0]
  by_cases h : xs.length > 400
  · have h0 : (xs.length : Int) > 400 := by omega
    simp only [h0, if_true]
    exact ⟨_, _, _, _, _, ⟨Nat.zero_le _, Nat.zero_le _⟩, rfl, rfl⟩
  · have h0 : ¬ (xs.length : Int) > 400 := by omega
    simp only [h0, if_false]
    cases hg : rangesRight xs with
    | false => exact ⟨_, _, _, _, _, ⟨Nat.zero_le _, Nat.zero_le _⟩, rfl, rfl⟩
    | true =>
      cases ht : rangeB a b c with
      | false => exact ⟨_, _, _, _, _, ⟨Nat.zero_le _, Nat.zero_le _⟩, rfl, rfl⟩
      | true =>
        obtain ⟨z, h1, h2⟩ := put_some xs ⟨a, b, c⟩ hn xs.length 0 k (by omega) (by omega)
        have h1' : spec_l16Put.f k xs a b c = some z := h1
        simp only [h1', Option.bind_some, Bool.not_true, Bool.false_eq_true, if_false, if_true]
        by_cases hq : (z.length : Int) > 30
        · simp only [hq, if_true]
          exact ⟨_, _, _, _, _, ⟨Nat.zero_le _, Nat.zero_le _⟩, rfl, rfl⟩
        · simp only [hq, if_false]
          exact ⟨_, _, _, _, _, ⟨h2, by omega⟩, rfl, rfl⟩
theorem FnExactRangePut : ∀ (x0 : List S46) (x1 x2 x3 : Int), (x0.length ≤ maxLen ∧ ∀ y ∈ x0, (Lit.int .i64 y.f0).wf = true ∧ (Lit.int .i64 y.f1).wf = true ∧ (Lit.int .i64 y.f2).wf = true) → (Lit.int .i64 x1).wf = true → (Lit.int .i64 x2).wf = true → (Lit.int .i64 x3).wf = true → ∃ k, laws_FnExactRangePut.f k x0 x1 x2 x3 = some true := by
  intro xs a b c ⟨hl, _⟩ _ _ _
  have hl' : xs.length ≤ 9223372036854775807 := hl
  refine ⟨xs.length + 8, ?_⟩
  unfold laws_FnExactRangePut.f laws_szRangeS.f
  rw [sz_wrap hl']
  by_cases h : (1048576 : Int) - xs.length < 0
  · rw [if_pos h]; rfl
  · rw [if_neg h]
    simp only [Option.bind_some, laws_toRange.f]
    have hx : (xs.map toRange).length = xs.length := by simp
    rw [if_neg h, laws_toRangeS_eq xs (by omega) _ (by omega)]
    simp only [Option.bind_some]
    obtain ⟨r1, r2, r3, r4, r5, ⟨hr0, hr⟩, h1, h2⟩ := RangePut_same (xs.map toRange) a b c (by omega) (xs.length + 8) (by omega)
    have h3 : impl_RangePut.f (xs.length + 7) (xs.map toRange) a b c = some (r1, r2, r3, r4, r5) := by
      obtain ⟨r1', r2', r3', r4', r5', _, _, h2'⟩ := RangePut_same (xs.map toRange) a b c (by omega) (xs.length + 7) (by omega)
      have := impl_RangePut.mono _ _ _ _ _ _ h2'
      rw [h2] at this
      rw [h2', this]
    rw [h1]
    simp only [Option.bind_some]
    rw [h2]
    simp only [Option.bind_some]
    rw [laws_eqRangeOut_self _ _ _ _ _ (by omega) _ (by omega)]
    simp only [Option.bind_some, if_true]
    rw [laws_eqRangeS_self _ (by omega) _ (by omega)]
    simp only [Option.bind_some, if_true]
    rw [laws_markRangeS_eq _ 1 (by omega) (by omega) (by omega) _ (by omega)]
    simp only [Option.bind_some]
    rw [if_neg (by omega)]
    simp only [laws_FnExactRangePut.j0, Bool.not_true, Bool.false_eq_true, if_false]
    rw [laws_markRangeOut_eq _ _ _ _ _ (by omega) _ (by omega)]
    simp only [Option.bind_some]
    rw [laws_heldRangeOut_eq _ _ _ _ _ (by omega) _ (by omega)]
    simp only [Option.bind_some, if_true]
    rw [if_neg (by omega), laws_toRangeS_eq xs (by omega) _ (by omega)]
    simp only [Option.bind_some, laws_toRange.f]
    rw [h3]
    simp only [Option.bind_some]
    rw [laws_eqRangeOut_self _ _ _ _ _ (by omega) _ (by omega)]
    simp only [Option.bind_some, if_true]
    rw [if_neg (by omega)]
end Go.Proofs.Yteiablhopiobbaa.fnExactRangePutRow.Pure
