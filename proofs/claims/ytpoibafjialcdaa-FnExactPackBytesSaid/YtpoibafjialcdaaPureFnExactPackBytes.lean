/- The plain law of FnExactPackBytes: over numbers and lists alone, that what the program computes is what the reference computes. No condition beyond what a machine's numbers are. -/
import Derived.Test.YtpoibafjialcdaaPFnExactPackBytesx0
import Derived.Test.YtpoibafjialcdaaPFnExactPackBytesx1
import Derived.Test.YtpoibafjialcdaaPFnExactPackBytesx2
import Derived.Test.YtpoibafjialcdaaBase
set_option linter.unusedSimpArgs false
set_option linter.unusedVariables false
namespace Go.Proofs.Ytpoibafjialcdaa.fnExactPackBytesRow.Pure
open Go.RowKit Go.Proofs.YtpoibafjialcdaaW.PrintWords Go.Proofs.YtpoibafjialcdaaW.PrintLast Go.Proofs.Ytpoibafjialcdaa.PFnExactPackBytes Go.Proofs.Ytpoibafjialcdaa.Base

theorem spec_l02Is_eq (a b c : Int) : spec_l02Is.f a b c = some (inB a b c) := by
  unfold spec_l02Is.f inB
  by_cases h : b ≤ a <;> simp [h]

theorem impl_in_eq (a b c : Int) : impl_in.f a b c = some (inB a b c) := by
  unfold impl_in.f inB
  by_cases h : b ≤ a <;> simp [h]
theorem impl_big_eq (m : Nat) (n : Int) (hm : m ≤ 100) (k : Nat) (hk : m < k) : impl_big.f k n (m : Int) = some (bigS m n) := by
  have key : ∀ (m k : Nat) (x : Int) (acc : List Int), m ≤ acc.length → m < k → m ≤ 100 → impl_big.l0 k x acc ((m : Int) - 1) = some (strOfNums (bigL m x ++ acc.drop m)) := by
    intro m
    induction m with
    | zero =>
      intro k x acc _ hk _
      obtain ⟨k, rfl⟩ : ∃ j, k = j + 1 := ⟨k - 1, by omega⟩
      simp only [impl_big.l0]
      rw [if_neg (by omega)]
      simp [bigL]
    | succ m ih =>
      intro k x acc hl hk hm
      obtain ⟨k, rfl⟩ : ∃ j, k = j + 1 := ⟨k - 1, by omega⟩
      have e : ((m + 1 : Nat) : Int) - 1 = (m : Int) := by omega
      rw [e]
      simp only [impl_big.l0]
      rw [if_pos (by omega), if_pos (by omega), if_pos (by omega), show wrap64 ((m : Int) - 1) = (m : Int) - 1 from by unfold wrap64; omega, Int.toNat_natCast, ih k _ _ (by simp; omega) (by omega) (by omega), set_drop _ _ _ (by omega)]
      simp [bigL]
  unfold impl_big.f
  rw [if_pos (by omega), if_pos (by omega), Int.toNat_natCast, show wrap64 ((m : Int) - 1) = (m : Int) - 1 from by unfold wrap64; omega, key m k n _ (by simp) hk hm]
  simp [bigS]
theorem spec_l02Put_eq (m : Nat) (n : Int) (h0 : 0 ≤ n) (h1 : n < 9223372036854775808) (hm : m ≤ 100) (k : Nat) (hk : m < k) : spec_l02Put.f k n (m : Int) = some (bigS m n) := by
  have key : ∀ (m k : Nat) (x : Int) (acc : List Int), 0 ≤ x → x < 9223372036854775808 → m ≤ acc.length → m < k → m ≤ 100 → spec_l02Put.l0 k x acc ((m : Int) - 1) = some (strOfNums (bigL m x ++ acc.drop m)) := by
    intro m
    induction m with
    | zero =>
      intro k x acc _ _ _ hk _
      obtain ⟨k, rfl⟩ : ∃ j, k = j + 1 := ⟨k - 1, by omega⟩
      simp only [spec_l02Put.l0]
      rw [if_neg (by omega)]
      simp [bigL]
    | succ m ih =>
      intro k x acc hx0 hx1 hl hk hm
      obtain ⟨k, rfl⟩ : ∃ j, k = j + 1 := ⟨k - 1, by omega⟩
      have e : ((m + 1 : Nat) : Int) - 1 = (m : Int) := by omega
      rw [e]
      simp only [spec_l02Put.l0]
      rw [if_pos (by omega), if_pos (by omega), if_pos (by omega), show wrap64 ((m : Int) - 1) = (m : Int) - 1 from by unfold wrap64; omega, Int.toNat_natCast, and255 hx0 hx1, show x % 256 % 256 = x % 256 from by omega, ih k _ _ (by omega) (by omega) (by simp; omega) (by omega) (by omega), set_drop _ _ _ (by omega)]
      simp [bigL]
  unfold spec_l02Put.f
  rw [if_pos (by omega), if_pos (by omega), Int.toNat_natCast, show wrap64 ((m : Int) - 1) = (m : Int) - 1 from by unfold wrap64; omega, key m k n _ h0 h1 (by simp) hk hm]
  simp [bigS]
def packB (a b c : Int) (s : ByteArray) : Bool := inB a 1 4294967295 && inB b 1 4294967295 && inB c 0 16 && decide (s.size ≤ 40)
theorem packB_and {a b c : Int} {s : ByteArray} (h : packB a b c s = true) : 0 ≤ a ∧ a ≤ 4294967295 ∧ 0 ≤ b ∧ b ≤ 4294967295 ∧ 0 ≤ c ∧ c ≤ 16 ∧ s.size ≤ 40 := by
  simp [packB, inB] at h
  omega
theorem impl_Pack_isRight_eq (a b c : Int) (s : ByteArray) : impl_Pack_isRight.f a b c s = some (packB a b c s) := by
  have e : decide ((s.size : Int) ≤ 40) = decide (s.size ≤ 40) := by simp only [decide_eq_decide]; omega
  simp only [impl_Pack_isRight.f, impl_in_eq, Option.bind_some, some_ite, packB, Bool.and_assoc, e]
def packS (a b c : Int) (s : ByteArray) : ByteArray := if packB a b c s = true then ((bigS 4 a ++ bigS 4 b) ++ bigS 1 c) ++ s else ⟨#[]⟩
theorem spec_PackBytes_eq (a b c : Int) (s : ByteArray) (k : Nat) (hk : 6 < k) : spec_PackBytes.f k a b c s = some (packS a b c s) := by
  have e : decide ((s.size : Int) > 40) = !decide (s.size ≤ 40) := by
    rw [Bool.eq_iff_iff]; simp; omega
  have hj : ∀ x, spec_PackBytes.j0 k x a b c s = if x = true then some (⟨#[]⟩ : ByteArray) else spec_PackBytes.j0 k false a b c s := by
    intro x
    cases x with
    | false => rfl
    | true =>
      obtain ⟨k, rfl⟩ : ∃ j, k = j + 1 := ⟨k - 1, by omega⟩
      simp [spec_PackBytes.j0]
  have hb : spec_PackBytes.f k a b c s = if packB a b c s = true then spec_PackBytes.j0 k false a b c s else some (⟨#[]⟩ : ByteArray) := by
    simp only [spec_PackBytes.f, spec_l17Ip.f, spec_l02Is_eq, Option.bind_some, e, packB]
    rw [hj true, hj (!decide (s.size ≤ 40))]
    by_cases h1 : inB a 1 4294967295 = true <;> by_cases h2 : inB b 1 4294967295 = true <;> by_cases h3 : inB c 0 16 = true <;> by_cases h4 : s.size ≤ 40 <;> simp [h1, h2, h3, h4]
  rw [hb]
  unfold packS
  by_cases h : packB a b c s = true
  · rw [if_pos h, if_pos h]
    obtain ⟨h1, h2, h3, h4, h5, h6, h7⟩ := packB_and h
    obtain ⟨k, rfl⟩ : ∃ j, k = j + 1 := ⟨k - 1, by omega⟩
    simp only [spec_PackBytes.j0]
    rw [if_neg (by simp), show (4 : Int) = ((4 : Nat) : Int) from rfl, spec_l02Put_eq 4 a h1 (by omega) (by omega) k (by omega)]
    simp only [Option.bind_some]
    rw [spec_l02Put_eq 4 b h3 (by omega) (by omega) k (by omega)]
    simp only [Option.bind_some]
    rw [if_pos (by simp only [bigS_size]; omega), show (1 : Int) = ((1 : Nat) : Int) from rfl, spec_l02Put_eq 1 c h5 (by omega) (by omega) k (by omega)]
    simp only [Option.bind_some]
    rw [if_pos (by simp only [ByteArray.size_append, bigS_size]; omega), if_pos (by simp only [ByteArray.size_append, bigS_size]; omega)]
  · rw [if_neg h, if_neg h]
theorem impl_PackBytes_eq (a b c : Int) (s : ByteArray) (k : Nat) (hk : 6 < k) : impl_PackBytes.f k a b c s = some (packS a b c s) := by
  unfold impl_PackBytes.f packS
  rw [impl_Pack_isRight_eq]
  simp only [Option.bind_some]
  by_cases h : packB a b c s = true
  · rw [if_pos h, if_pos h]
    obtain ⟨h1, h2, h3, h4, h5, h6, h7⟩ := packB_and h
    rw [show (4 : Int) = ((4 : Nat) : Int) from rfl, impl_big_eq 4 a (by omega) k (by omega)]
    simp only [Option.bind_some]
    rw [impl_big_eq 4 b (by omega) k (by omega)]
    simp only [Option.bind_some]
    rw [if_pos (by simp only [bigS_size]; omega), show (1 : Int) = ((1 : Nat) : Int) from rfl, impl_big_eq 1 c (by omega) k (by omega)]
    simp only [Option.bind_some]
    rw [if_pos (by simp only [ByteArray.size_append, bigS_size]; omega), if_pos (by simp only [ByteArray.size_append, bigS_size]; omega)]
  · rw [if_neg h, if_neg h]

theorem FnExactPackBytes : ∀ (x0_0 x0_1 x0_2 : Int) (x0_3 : ByteArray), ((Lit.int .i64 x0_0).wf = true) → ((Lit.int .i64 x0_1).wf = true) → ((Lit.int .i64 x0_2).wf = true) → (x0_3.size ≤ maxLen) → ∃ k, laws_FnExactPackBytes.f k x0_0 x0_1 x0_2 x0_3 = some true := by
  intro a b c s _ _ _ hl
  have hl' : s.size ≤ 9223372036854775807 := hl
  refine ⟨7, ?_⟩
  unfold laws_FnExactPackBytes.f laws_szPack.f
  rw [sz_wrap hl']
  by_cases h : (1048576 : Int) - s.size < 0
  · rw [if_pos h]; rfl
  · rw [if_neg h]
    simp only [Option.bind_some, laws_toPack.f]
    rw [if_neg h, spec_PackBytes_eq a b c s 7 (by omega)]
    simp only [Option.bind_some]
    rw [impl_PackBytes_eq a b c s 7 (by omega)]
    simp

end Go.Proofs.Ytpoibafjialcdaa.fnExactPackBytesRow.Pure
