/- The plain law of FnExactEthBytes: over numbers and lists alone, that what the program computes is what the reference computes. No condition beyond what a machine's numbers are. -/
import Derived.Test.YtpoibafjialcdaaPFnExactEthBytesx0
import Derived.Test.YtpoibafjialcdaaPFnExactEthBytesx1
import Derived.Test.YtpoibafjialcdaaPFnExactEthBytesx2
import Derived.Test.YtpoibafjialcdaaBase
set_option linter.unusedSimpArgs false
set_option linter.unusedVariables false
namespace Go.Proofs.Ytpoibafjialcdaa.fnExactEthBytesRow.Pure
open Go.RowKit Go.Proofs.YtpoibafjialcdaaW.PrintWords Go.Proofs.YtpoibafjialcdaaW.PrintLast Go.Proofs.Ytpoibafjialcdaa.PFnExactEthBytes Go.Proofs.Ytpoibafjialcdaa.Base

theorem spec_l02Is_eq (a b c : Int) : spec_l02Is.f a b c = some (inB a b c) := by
  unfold spec_l02Is.f inB
  by_cases h : b ≤ a <;> simp [h]

theorem impl_in_eq (a b c : Int) : impl_in.f a b c = some (inB a b c) := by
  unfold impl_in.f inB
  by_cases h : b ≤ a <;> simp [h]
theorem spec_l02Mac_eq (a : Int) : spec_l02Mac.f a = some (macB a) := by simp [spec_l02Mac.f, spec_l02Is_eq, macB]
theorem impl_isMac_eq (a : Int) : impl_isMac.f a = some (macB a) := by simp [impl_isMac.f, impl_in_eq, macB]
theorem impl_big_eq (m : Nat) (n : Int) (hm : m ≤ 100) (k : Nat) (hk : m < k) : impl_big.f k n (m : Int) = some (bigS m n) := by
  have key : ∀ (m k : Nat) (x : Int) (acc : List Int), m ≤ acc.length → m < k → m ≤ 100 → impl_big.l0 k x acc ((m : Int) - 1) = some (strOfNums (bigL m x ++ acc.drop m)) := by
    intro m
    induction m with
    | zero =>
      intro k x acc _ hk _
      obtain ⟨k, rfl⟩ : ∃ j, k = j + 1 := ⟨k - 1, by omega⟩
      simp only [impl_big.l0]
      rw [if_neg (by omega)]
      simp [bigL]
    | succ m ih =>
      intro k x acc hl hk hm
      obtain ⟨k, rfl⟩ : ∃ j, k = j + 1 := ⟨k - 1, by omega⟩
      have e : ((m + 1 : Nat) : Int) - 1 = (m : Int) := by omega
      rw [e]
      simp only [impl_big.l0]
      rw [if_pos (by omega), if_pos (by omega), if_pos (by omega), show wrap64 ((m : Int) - 1) = (m : Int) - 1 from by unfold wrap64; omega, Int.toNat_natCast, ih k _ _ (by simp; omega) (by omega) (by omega), set_drop _ _ _ (by omega)]
      simp [bigL]
  unfold impl_big.f
  rw [if_pos (by omega), if_pos (by omega), Int.toNat_natCast, show wrap64 ((m : Int) - 1) = (m : Int) - 1 from by unfold wrap64; omega, key m k n _ (by simp) hk hm]
  simp [bigS]
theorem spec_l02Put_eq (m : Nat) (n : Int) (h0 : 0 ≤ n) (h1 : n < 9223372036854775808) (hm : m ≤ 100) (k : Nat) (hk : m < k) : spec_l02Put.f k n (m : Int) = some (bigS m n) := by
  have key : ∀ (m k : Nat) (x : Int) (acc : List Int), 0 ≤ x → x < 9223372036854775808 → m ≤ acc.length → m < k → m ≤ 100 → spec_l02Put.l0 k x acc ((m : Int) - 1) = some (strOfNums (bigL m x ++ acc.drop m)) := by
    intro m
    induction m with
    | zero =>
      intro k x acc _ _ _ hk _
      obtain ⟨k, rfl⟩ : ∃ j, k = j + 1 := ⟨k - 1, by omega⟩
      simp only [spec_l02Put.l0]
      rw [if_neg (by omega)]
      simp [bigL]
    | succ m ih =>
      intro k x acc hx0 hx1 hl hk hm
      obtain ⟨k, rfl⟩ : ∃ j, k = j + 1 := ⟨k - 1, by omega⟩
      have e : ((m + 1 : Nat) : Int) - 1 = (m : Int) := by omega
      rw [e]
      simp only [spec_l02Put.l0]
      rw [if_pos (by omega), if_pos (by omega), if_pos (by omega), show wrap64 ((m : Int) - 1) = (m : Int) - 1 from by unfold wrap64; omega, Int.toNat_natCast, and255 hx0 hx1, show x % 256 % 256 = x % 256 from by omega, ih k _ _ (by omega) (by omega) (by simp; omega) (by omega) (by omega), set_drop _ _ _ (by omega)]
      simp [bigL]
  unfold spec_l02Put.f
  rw [if_pos (by omega), if_pos (by omega), Int.toNat_natCast, show wrap64 ((m : Int) - 1) = (m : Int) - 1 from by unfold wrap64; omega, key m k n _ h0 h1 (by simp) hk hm]
  simp [bigS]
theorem ite_neg_pos {α : Type} {c : Bool} {x y : α} (h : c = true) : (if (!c) = true then x else y) = y := by subst h; rfl
theorem ite_neg_neg {α : Type} {c : Bool} {x y : α} (h : ¬ c = true) : (if (!c) = true then x else y) = x := by cases c <;> simp_all
def ethB (a b c : Int) (s : ByteArray) : Bool := macB a && macB b && inB c 0 65535 && decide (s.size ≤ 60)
theorem ethB_and {a b c : Int} {s : ByteArray} (h : ethB a b c s = true) : 0 ≤ a ∧ a ≤ 281474976710655 ∧ 0 ≤ b ∧ b ≤ 281474976710655 ∧ 0 ≤ c ∧ c ≤ 65535 ∧ s.size ≤ 60 := by
  simp [ethB, macB, inB] at h
  omega
theorem impl_Eth_isRight_eq (a b c : Int) (s : ByteArray) : impl_Eth_isRight.f a b c s = some (ethB a b c s) := by
  have e : decide ((s.size : Int) ≤ 60) = decide (s.size ≤ 60) := by simp only [decide_eq_decide]; omega
  simp only [impl_Eth_isRight.f, impl_in_eq, impl_isMac_eq, Option.bind_some, some_ite, ethB, Bool.and_assoc, e]
def ethS (a b c : Int) (s : ByteArray) : ByteArray := if ethB a b c s = true then ((bigS 6 a ++ bigS 6 b) ++ bigS 2 c) ++ s else ⟨#[]⟩
theorem spec_EthBytes_eq (a b c : Int) (s : ByteArray) (k : Nat) (hk : 8 < k) : spec_EthBytes.f k a b c s = some (ethS a b c s) := by
  have e : decide ((s.size : Int) > 60) = !decide (s.size ≤ 60) := by
    rw [Bool.eq_iff_iff]; simp; omega
  have hj : ∀ x, spec_EthBytes.j0 k x a b c s = if x = true then some (⟨#[]⟩ : ByteArray) else spec_EthBytes.j0 k false a b c s := by
    intro x
    cases x with
    | false => rfl
    | true =>
      obtain ⟨k, rfl⟩ : ∃ j, k = j + 1 := ⟨k - 1, by omega⟩
      simp [spec_EthBytes.j0]
  have hb : spec_EthBytes.f k a b c s = if ethB a b c s = true then spec_EthBytes.j0 k false a b c s else some (⟨#[]⟩ : ByteArray) := by
    simp only [spec_EthBytes.f, spec_l02Mac_eq, spec_l02Is_eq, Option.bind_some, e, ethB]
    rw [hj true, hj (!decide (s.size ≤ 60))]
    by_cases h1 : macB a = true <;> by_cases h2 : macB b = true <;> by_cases h3 : inB c 0 65535 = true <;> by_cases h4 : s.size ≤ 60 <;> simp [h1, h2, h3, h4]
  rw [hb]
  unfold ethS
  by_cases h : ethB a b c s = true
  · rw [if_pos h, if_pos h]
    obtain ⟨h1, h2, h3, h4, h5, h6, h7⟩ := ethB_and h
    obtain ⟨k, rfl⟩ : ∃ j, k = j + 1 := ⟨k - 1, by omega⟩
    simp only [spec_EthBytes.j0]
    rw [if_neg (by simp), show (6 : Int) = ((6 : Nat) : Int) from rfl, spec_l02Put_eq 6 a h1 (by omega) (by omega) k (by omega)]
    simp only [Option.bind_some]
    rw [spec_l02Put_eq 6 b h3 (by omega) (by omega) k (by omega)]
    simp only [Option.bind_some]
    rw [if_pos (by simp only [bigS_size]; omega), show (2 : Int) = ((2 : Nat) : Int) from rfl, spec_l02Put_eq 2 c h5 (by omega) (by omega) k (by omega)]
    simp only [Option.bind_some]
    rw [if_pos (by simp only [ByteArray.size_append, bigS_size]; omega), if_pos (by simp only [ByteArray.size_append, bigS_size]; omega)]
  · rw [if_neg h, if_neg h]
theorem impl_EthBytes_eq (a b c : Int) (s : ByteArray) (k : Nat) (hk : 8 < k) : impl_EthBytes.f k a b c s = some (ethS a b c s) := by
  unfold impl_EthBytes.f ethS
  rw [impl_Eth_isRight_eq]
  simp only [Option.bind_some]
  by_cases h : ethB a b c s = true
  · rw [if_pos h, if_pos h]
    obtain ⟨h1, h2, h3, h4, h5, h6, h7⟩ := ethB_and h
    rw [show (6 : Int) = ((6 : Nat) : Int) from rfl, impl_big_eq 6 a (by omega) k (by omega)]
    simp only [Option.bind_some]
    rw [impl_big_eq 6 b (by omega) k (by omega)]
    simp only [Option.bind_some]
    rw [if_pos (by simp only [bigS_size]; omega), show (2 : Int) = ((2 : Nat) : Int) from rfl, impl_big_eq 2 c (by omega) k (by omega)]
    simp only [Option.bind_some]
    rw [if_pos (by simp only [ByteArray.size_append, bigS_size]; omega), if_pos (by simp only [ByteArray.size_append, bigS_size]; omega)]
  · rw [if_neg h, if_neg h]

theorem FnExactEthBytes : ∀ (x0_0 x0_1 x0_2 : Int) (x0_3 : ByteArray), ((Lit.int .i64 x0_0).wf = true) → ((Lit.int .i64 x0_1).wf = true) → ((Lit.int .i64 x0_2).wf = true) → (x0_3.size ≤ maxLen) → ∃ k, laws_FnExactEthBytes.f k x0_0 x0_1 x0_2 x0_3 = some true := by
  intro a b c s _ _ _ hl
  have hl' : s.size ≤ 9223372036854775807 := hl
  refine ⟨9, ?_⟩
  unfold laws_FnExactEthBytes.f laws_szEth.f
  rw [sz_wrap hl']
  by_cases h : (1048576 : Int) - s.size < 0
  · rw [if_pos h]; rfl
  · rw [if_neg h]
    simp only [Option.bind_some, laws_toEth.f]
    rw [if_neg h, spec_EthBytes_eq a b c s 9 (by omega)]
    simp only [Option.bind_some]
    rw [impl_EthBytes_eq a b c s 9 (by omega)]
    simp

end Go.Proofs.Ytpoibafjialcdaa.fnExactEthBytesRow.Pure
