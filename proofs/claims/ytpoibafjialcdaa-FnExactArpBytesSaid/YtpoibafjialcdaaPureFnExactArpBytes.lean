/- The plain law of FnExactArpBytes: over numbers and lists alone, that what the program computes is what the reference computes. No condition beyond what a machine's numbers are. -/
import Derived.Test.YtpoibafjialcdaaPFnExactArpBytesx0
import Derived.Test.YtpoibafjialcdaaPFnExactArpBytesx1
import Derived.Test.YtpoibafjialcdaaPFnExactArpBytesx2
import Derived.Test.YtpoibafjialcdaaBase
set_option linter.unusedSimpArgs false
set_option linter.unusedVariables false
namespace Go.Proofs.Ytpoibafjialcdaa.fnExactArpBytesRow.Pure
open Go.RowKit Go.Proofs.YtpoibafjialcdaaW.PrintWords Go.Proofs.YtpoibafjialcdaaW.PrintLast Go.Proofs.Ytpoibafjialcdaa.PFnExactArpBytes Go.Proofs.Ytpoibafjialcdaa.Base

theorem spec_l02Is_eq (a b c : Int) : spec_l02Is.f a b c = some (inB a b c) := by
  unfold spec_l02Is.f inB
  by_cases h : b ≤ a <;> simp [h]

theorem impl_in_eq (a b c : Int) : impl_in.f a b c = some (inB a b c) := by
  unfold impl_in.f inB
  by_cases h : b ≤ a <;> simp [h]
theorem spec_l02Mac_eq (a : Int) : spec_l02Mac.f a = some (macB a) := by simp [spec_l02Mac.f, spec_l02Is_eq, macB]
theorem spec_l02Ip_eq (a : Int) : spec_l02Ip.f a = some (ipB a) := by simp [spec_l02Ip.f, spec_l02Is_eq, ipB]
theorem impl_isMac_eq (a : Int) : impl_isMac.f a = some (macB a) := by simp [impl_isMac.f, impl_in_eq, macB]
theorem impl_isIp_eq (a : Int) : impl_isIp.f a = some (ipB a) := by simp [impl_isIp.f, impl_in_eq, ipB]
theorem impl_big_eq (m : Nat) (n : Int) (hm : m ≤ 100) (k : Nat) (hk : m < k) : impl_big.f k n (m : Int) = some (bigS m n) := by
  have key : ∀ (m k : Nat) (x : Int) (acc : List Int), m ≤ acc.length → m < k → m ≤ 100 → impl_big.l0 k x acc ((m : Int) - 1) = some (strOfNums (bigL m x ++ acc.drop m)) := by
    intro m
    induction m with
    | zero =>
      intro k x acc _ hk _
      obtain ⟨k, rfl⟩ : ∃ j, k = j + 1 := ⟨k - 1, by omega⟩
      simp only [impl_big.l0]
      rw [if_neg (by omega)]
      simp [bigL]
    | succ m ih =>
      intro k x acc hl hk hm
      obtain ⟨k, rfl⟩ : ∃ j, k = j + 1 := ⟨k - 1, by omega⟩
      have e : ((m + 1 : Nat) : Int) - 1 = (m : Int) := by omega
      rw [e]
      simp only [impl_big.l0]
      rw [if_pos (by omega), if_pos (by omega), if_pos (by omega), show wrap64 ((m : Int) - 1) = (m : Int) - 1 from by unfold wrap64; omega, Int.toNat_natCast, ih k _ _ (by simp; omega) (by omega) (by omega), set_drop _ _ _ (by omega)]
      simp [bigL]
  unfold impl_big.f
  rw [if_pos (by omega), if_pos (by omega), Int.toNat_natCast, show wrap64 ((m : Int) - 1) = (m : Int) - 1 from by unfold wrap64; omega, key m k n _ (by simp) hk hm]
  simp [bigS]
theorem spec_l02Put_eq (m : Nat) (n : Int) (h0 : 0 ≤ n) (h1 : n < 9223372036854775808) (hm : m ≤ 100) (k : Nat) (hk : m < k) : spec_l02Put.f k n (m : Int) = some (bigS m n) := by
  have key : ∀ (m k : Nat) (x : Int) (acc : List Int), 0 ≤ x → x < 9223372036854775808 → m ≤ acc.length → m < k → m ≤ 100 → spec_l02Put.l0 k x acc ((m : Int) - 1) = some (strOfNums (bigL m x ++ acc.drop m)) := by
    intro m
    induction m with
    | zero =>
      intro k x acc _ _ _ hk _
      obtain ⟨k, rfl⟩ : ∃ j, k = j + 1 := ⟨k - 1, by omega⟩
      simp only [spec_l02Put.l0]
      rw [if_neg (by omega)]
      simp [bigL]
    | succ m ih =>
      intro k x acc hx0 hx1 hl hk hm
      obtain ⟨k, rfl⟩ : ∃ j, k = j + 1 := ⟨k - 1, by omega⟩
      have e : ((m + 1 : Nat) : Int) - 1 = (m : Int) := by omega
      rw [e]
      simp only [spec_l02Put.l0]
      rw [if_pos (by omega), if_pos (by omega), if_pos (by omega), show wrap64 ((m : Int) - 1) = (m : Int) - 1 from by unfold wrap64; omega, Int.toNat_natCast, and255 hx0 hx1, show x % 256 % 256 = x % 256 from by omega, ih k _ _ (by omega) (by omega) (by simp; omega) (by omega) (by omega), set_drop _ _ _ (by omega)]
      simp [bigL]
  unfold spec_l02Put.f
  rw [if_pos (by omega), if_pos (by omega), Int.toNat_natCast, show wrap64 ((m : Int) - 1) = (m : Int) - 1 from by unfold wrap64; omega, key m k n _ h0 h1 (by simp) hk hm]
  simp [bigS]
theorem ite_neg_pos {α : Type} {c : Bool} {x y : α} (h : c = true) : (if (!c) = true then x else y) = y := by subst h; rfl
theorem ite_neg_neg {α : Type} {c : Bool} {x y : α} (h : ¬ c = true) : (if (!c) = true then x else y) = x := by cases c <;> simp_all
def arpB (a b c d e : Int) : Bool := inB a 1 2 && macB b && macB d && ipB c && ipB e
theorem arpB_and {a b c d e : Int} (h : arpB a b c d e = true) : 1 ≤ a ∧ a ≤ 2 ∧ 0 ≤ b ∧ b ≤ 281474976710655 ∧ 0 ≤ d ∧ d ≤ 281474976710655 ∧ 0 ≤ c ∧ c ≤ 4294967295 ∧ 0 ≤ e ∧ e ≤ 4294967295 := by
  simp [arpB, macB, ipB, inB] at h
  omega
theorem impl_Arp_isRight_eq (a b c d e : Int) : impl_Arp_isRight.f a b c d e = some (arpB a b c d e) := by
  simp only [impl_Arp_isRight.f, impl_in_eq, impl_isMac_eq, impl_isIp_eq, Option.bind_some, some_ite, arpB, Bool.and_assoc]
def arpHead : ByteArray := ⟨#[0, 1, 8, 0, 6, 4]⟩
def arpS (a b c d e : Int) : ByteArray := if arpB a b c d e = true then ((((arpHead ++ bigS 2 a) ++ bigS 6 b) ++ bigS 4 c) ++ bigS 6 d) ++ bigS 4 e else ⟨#[]⟩
theorem arpHead_size : arpHead.size = 6 := rfl
theorem spec_ArpBytes_eq (a b c d e : Int) (k : Nat) (hk : 8 < k) : spec_ArpBytes.f k a b c d e = some (arpS a b c d e) := by
  have hj : ∀ x, spec_ArpBytes.j0 k x a b c d e = if x = true then some (⟨#[]⟩ : ByteArray) else spec_ArpBytes.j0 k false a b c d e := by
    intro x
    cases x with
    | false => rfl
    | true =>
      obtain ⟨k, rfl⟩ : ∃ j, k = j + 1 := ⟨k - 1, by omega⟩
      simp [spec_ArpBytes.j0]
  have hb : spec_ArpBytes.f k a b c d e = if arpB a b c d e = true then spec_ArpBytes.j0 k false a b c d e else some (⟨#[]⟩ : ByteArray) := by
    simp only [spec_ArpBytes.f, spec_l02Mac_eq, spec_l02Ip_eq, spec_l02Is_eq, Option.bind_some, arpB]
    rw [hj true, hj (!ipB e)]
    by_cases h1 : inB a 1 2 = true <;> by_cases h2 : macB b = true <;> by_cases h3 : macB d = true <;> by_cases h4 : ipB c = true <;> by_cases h5 : ipB e = true <;> simp [h1, h2, h3, h4, h5]
  rw [hb]
  unfold arpS
  by_cases h : arpB a b c d e = true
  · rw [if_pos h, if_pos h]
    obtain ⟨h1, h2, h3, h4, h5, h6, h7, h8, h9, h10⟩ := arpB_and h
    obtain ⟨k, rfl⟩ : ∃ j, k = j + 1 := ⟨k - 1, by omega⟩
    simp only [spec_ArpBytes.j0]
    rw [if_neg (by simp), show (2 : Int) = ((2 : Nat) : Int) from rfl, spec_l02Put_eq 2 a (by omega) (by omega) (by omega) k (by omega)]
    simp only [Option.bind_some]
    rw [show (⟨#[0, 1, 8, 0, 6, 4]⟩ : ByteArray) = arpHead from rfl, if_pos (by simp only [bigS_size]; omega), show (6 : Int) = ((6 : Nat) : Int) from rfl, spec_l02Put_eq 6 b (by omega) (by omega) (by omega) k (by omega)]
    simp only [Option.bind_some]
    rw [if_pos (by simp only [ByteArray.size_append, bigS_size, arpHead_size]; omega), show (4 : Int) = ((4 : Nat) : Int) from rfl, spec_l02Put_eq 4 c (by omega) (by omega) (by omega) k (by omega)]
    simp only [Option.bind_some]
    rw [if_pos (by simp only [ByteArray.size_append, bigS_size, arpHead_size]; omega), spec_l02Put_eq 6 d (by omega) (by omega) (by omega) k (by omega)]
    simp only [Option.bind_some]
    rw [if_pos (by simp only [ByteArray.size_append, bigS_size, arpHead_size]; omega), spec_l02Put_eq 4 e (by omega) (by omega) (by omega) k (by omega)]
    simp only [Option.bind_some]
    rw [if_pos (by simp only [ByteArray.size_append, bigS_size, arpHead_size]; omega)]
  · rw [if_neg h, if_neg h]
theorem arp_head (a : Int) (h1 : 1 ≤ a) (h2 : a ≤ 2) : (⟨#[0, 1, 8, 0, 6, 4, 0]⟩ : ByteArray) ++ bigS 1 a = arpHead ++ bigS 2 a := by
  have e : bigS 2 a = ⟨#[0]⟩ ++ bigS 1 a := by
    unfold bigS
    rw [show bigL 2 a = [0] ++ bigL 1 a from by simp [bigL]; omega, strOfNums_append]
    rfl
  rw [e, ← ByteArray.append_assoc]
  rfl
theorem impl_ArpBytes_eq (a b c d e : Int) (k : Nat) (hk : 8 < k) : impl_ArpBytes.f k a b c d e = some (arpS a b c d e) := by
  unfold impl_ArpBytes.f arpS
  rw [impl_Arp_isRight_eq]
  simp only [Option.bind_some]
  by_cases h : arpB a b c d e = true
  · rw [if_pos h, if_pos h]
    obtain ⟨h1, h2, h3, h4, h5, h6, h7, h8, h9, h10⟩ := arpB_and h
    rw [show (1 : Int) = ((1 : Nat) : Int) from rfl, impl_big_eq 1 a (by omega) k (by omega)]
    simp only [Option.bind_some]
    rw [arp_head a h1 h2]
    rw [if_pos (by simp only [bigS_size]; omega), show (6 : Int) = ((6 : Nat) : Int) from rfl, impl_big_eq 6 b (by omega) k (by omega)]
    simp only [Option.bind_some]
    rw [if_pos (by simp only [ByteArray.size_append, bigS_size, arpHead_size]; omega), show (4 : Int) = ((4 : Nat) : Int) from rfl, impl_big_eq 4 c (by omega) k (by omega)]
    simp only [Option.bind_some]
    rw [if_pos (by simp only [ByteArray.size_append, bigS_size, arpHead_size]; omega), impl_big_eq 6 d (by omega) k (by omega)]
    simp only [Option.bind_some]
    rw [if_pos (by simp only [ByteArray.size_append, bigS_size, arpHead_size]; omega), impl_big_eq 4 e (by omega) k (by omega)]
    simp only [Option.bind_some]
    rw [if_pos (by simp only [ByteArray.size_append, bigS_size, arpHead_size]; omega)]
  · rw [if_neg h, if_neg h]

theorem FnExactArpBytes : ∀ (x0_0 x0_1 x0_2 x0_3 x0_4 : Int), ((Lit.int .i64 x0_0).wf = true) → ((Lit.int .i64 x0_1).wf = true) → ((Lit.int .i64 x0_2).wf = true) → ((Lit.int .i64 x0_3).wf = true) → ((Lit.int .i64 x0_4).wf = true) → ∃ k, laws_FnExactArpBytes.f k x0_0 x0_1 x0_2 x0_3 x0_4 = some true := by
  intro a b c d e _ _ _ _ _
  refine ⟨9, ?_⟩
  simp only [laws_FnExactArpBytes.f, laws_toArp.f, Option.bind_some]
  rw [spec_ArpBytes_eq a b c d e 9 (by omega)]
  simp only [Option.bind_some]
  rw [impl_ArpBytes_eq a b c d e 9 (by omega)]
  simp

end Go.Proofs.Ytpoibafjialcdaa.fnExactArpBytesRow.Pure
