/- The plain law of FnExactPackRead: over numbers and lists alone, that what the program computes is what the reference computes. No condition beyond what a machine's numbers are. -/
import Derived.Test.YteiablhopiobbaaPFnExactPackReadx0
import Derived.Test.YteiablhopiobbaaPFnExactPackReadx1
import Derived.Test.YteiablhopiobbaaPFnExactPackReadx2
import Derived.Test.YteiablhopiobbaaPFnExactPackReadx3
import Derived.Test.YteiablhopiobbaaPFnExactPackReadx4
import Derived.Test.YteiablhopiobbaaPFnExactPackReadx5
import Derived.Test.YteiablhopiobbaaBase
set_option linter.unusedSimpArgs false
set_option linter.unusedVariables false
namespace Go.Proofs.Yteiablhopiobbaa.fnExactPackReadRow.Pure
open Go.RowKit Go.Proofs.YteiablhopiobbaaW.PrintWords Go.Proofs.YteiablhopiobbaaW.PrintLast Go.Proofs.Yteiablhopiobbaa.PFnExactPackRead Go.Proofs.Yteiablhopiobbaa.Base

theorem spec_l02Is_eq (a b c : Int) : spec_l02Is.f a b c = some (inB a b c) := by
  unfold spec_l02Is.f inB
  by_cases h : b ≤ a <;> simp [h]

theorem impl_in_eq (a b c : Int) : impl_in.f a b c = some (inB a b c) := by
  unfold impl_in.f inB
  by_cases h : b ≤ a <;> simp [h]

theorem spec_l02Put_eq (m : Nat) (n : Int) (h0 : 0 ≤ n) (h1 : n < 9223372036854775808) (hm : m ≤ 100) (k : Nat) (hk : m < k) : spec_l02Put.f k n (m : Int) = some (bigS m n) := by
  have key : ∀ (m k : Nat) (x : Int) (acc : List Int), 0 ≤ x → x < 9223372036854775808 → m ≤ acc.length → m < k → m ≤ 100 → spec_l02Put.l0 k x acc ((m : Int) - 1) = some (strOfNums (bigL m x ++ acc.drop m)) := by
    intro m
    induction m with
    | zero =>
      intro k x acc _ _ _ hk _
      obtain ⟨k, rfl⟩ : ∃ j, k = j + 1 := ⟨k - 1, by omega⟩
      simp only [spec_l02Put.l0]
      rw [if_neg (by omega)]
      simp [bigL]
    | succ m ih =>
      intro k x acc hx0 hx1 hl hk hm
      obtain ⟨k, rfl⟩ : ∃ j, k = j + 1 := ⟨k - 1, by omega⟩
      have e : ((m + 1 : Nat) : Int) - 1 = (m : Int) := by omega
      rw [e]
      simp only [spec_l02Put.l0]
      rw [if_pos (by omega), if_pos (by omega), if_pos (by omega), show wrap64 ((m : Int) - 1) = (m : Int) - 1 from by unfold wrap64; omega, Int.toNat_natCast, and255 hx0 hx1, show x % 256 % 256 = x % 256 from by omega, ih k _ _ (by omega) (by omega) (by simp; omega) (by omega) (by omega), set_drop _ _ _ (by omega)]
      simp [bigL]
  unfold spec_l02Put.f
  rw [if_pos (by omega), if_pos (by omega), Int.toNat_natCast, show wrap64 ((m : Int) - 1) = (m : Int) - 1 from by unfold wrap64; omega, key m k n _ h0 h1 (by simp) hk hm]
  simp [bigS]
def packB (a b c : Int) (s : ByteArray) : Bool := inB a 1 4294967295 && inB b 1 4294967295 && inB c 0 16 && decide (s.size ≤ 40)
theorem packB_and {a b c : Int} {s : ByteArray} (h : packB a b c s = true) : 0 ≤ a ∧ a ≤ 4294967295 ∧ 0 ≤ b ∧ b ≤ 4294967295 ∧ 0 ≤ c ∧ c ≤ 16 ∧ s.size ≤ 40 := by
  simp [packB, inB] at h
  omega
theorem impl_Pack_isRight_eq (a b c : Int) (s : ByteArray) : impl_Pack_isRight.f a b c s = some (packB a b c s) := by
  have e : decide ((s.size : Int) ≤ 40) = decide (s.size ≤ 40) := by simp only [decide_eq_decide]; omega
  simp only [impl_Pack_isRight.f, impl_in_eq, Option.bind_some, some_ite, packB, Bool.and_assoc, e]
def packS (a b c : Int) (s : ByteArray) : ByteArray := if packB a b c s = true then ((bigS 4 a ++ bigS 4 b) ++ bigS 1 c) ++ s else ⟨#[]⟩
theorem spec_PackBytes_eq (a b c : Int) (s : ByteArray) (k : Nat) (hk : 6 < k) : spec_PackBytes.f k a b c s = some (packS a b c s) := by
  have e : decide ((s.size : Int) > 40) = !decide (s.size ≤ 40) := by
    rw [Bool.eq_iff_iff]; simp; omega
  have hj : ∀ x, spec_PackBytes.j0 k x a b c s = if x = true then some (⟨#[]⟩ : ByteArray) else spec_PackBytes.j0 k false a b c s := by
    intro x
    cases x with
    | false => rfl
    | true =>
      obtain ⟨k, rfl⟩ : ∃ j, k = j + 1 := ⟨k - 1, by omega⟩
      simp [spec_PackBytes.j0]
  have hb : spec_PackBytes.f k a b c s = if packB a b c s = true then spec_PackBytes.j0 k false a b c s else some (⟨#[]⟩ : ByteArray) := by
    simp only [spec_PackBytes.f, spec_l17Ip.f, spec_l02Is_eq, Option.bind_some, e, packB]
    rw [hj true, hj (!decide (s.size ≤ 40))]
    by_cases h1 : inB a 1 4294967295 = true <;> by_cases h2 : inB b 1 4294967295 = true <;> by_cases h3 : inB c 0 16 = true <;> by_cases h4 : s.size ≤ 40 <;> simp [h1, h2, h3, h4]
  rw [hb]
  unfold packS
  by_cases h : packB a b c s = true
  · rw [if_pos h, if_pos h]
    obtain ⟨h1, h2, h3, h4, h5, h6, h7⟩ := packB_and h
    obtain ⟨k, rfl⟩ : ∃ j, k = j + 1 := ⟨k - 1, by omega⟩
    simp only [spec_PackBytes.j0]
    rw [if_neg (by simp), show (4 : Int) = ((4 : Nat) : Int) from rfl, spec_l02Put_eq 4 a h1 (by omega) (by omega) k (by omega)]
    simp only [Option.bind_some]
    rw [spec_l02Put_eq 4 b h3 (by omega) (by omega) k (by omega)]
    simp only [Option.bind_some]
    rw [if_pos (by simp only [bigS_size]; omega), show (1 : Int) = ((1 : Nat) : Int) from rfl, spec_l02Put_eq 1 c h5 (by omega) (by omega) k (by omega)]
    simp only [Option.bind_some]
    rw [if_pos (by simp only [ByteArray.size_append, bigS_size]; omega), if_pos (by simp only [ByteArray.size_append, bigS_size]; omega)]
  · rw [if_neg h, if_neg h]
theorem ite_neg_pos {α : Type} {c : Bool} {x y : α} (h : c = true) : (if (!c) = true then x else y) = y := by subst h; rfl
theorem ite_neg_neg {α : Type} {c : Bool} {x y : α} (h : ¬ c = true) : (if (!c) = true then x else y) = x := by cases c <;> simp_all

theorem pow256 : (256 : Int) ^ 1 = 256 ∧ (256 : Int) ^ 2 = 65536 ∧ (256 : Int) ^ 4 = 4294967296 ∧ (256 : Int) ^ 6 = 281474976710656 := by decide
theorem getV_bd (s : ByteArray) : 0 ≤ getV s ∧ getV s < 256 ^ s.size := by
  have := valL_bd s.data.toList
  rw [ba_len] at this
  exact this
theorem spec_l02Get_eq (s : ByteArray) (hs : s.size ≤ 7) (k : Nat) (hk : 7 < k) : spec_l02Get.f k s = some (getV s) := by
  have key : ∀ (d i k : Nat), i + d = s.size → d < k → spec_l02Get.l0 k s (valL 0 (s.data.toList.take i)) (i : Int) = some (getV s) := by
    intro d
    induction d with
    | zero =>
      intro i k hi hk
      obtain ⟨k, rfl⟩ : ∃ j, k = j + 1 := ⟨k - 1, by omega⟩
      simp only [spec_l02Get.l0]
      rw [if_neg (by omega), List.take_of_length_le (by rw [ba_len]; omega)]
      rfl
    | succ d ih =>
      intro i k hi hk
      obtain ⟨k, rfl⟩ : ∃ j, k = j + 1 := ⟨k - 1, by omega⟩
      have hlt : i < s.data.toList.length := by rw [ba_len]; omega
      have hb := valL_bd (s.data.toList.take i)
      have hl : (s.data.toList.take i).length = i := by rw [List.length_take]; omega
      rw [hl] at hb
      have hp : (256 : Int) ^ i ≤ 281474976710656 := by
        have : i ≤ 6 := by omega
        have h2 := Nat.pow_le_pow_right (n := 256) (by omega) this
        have e : ((256 ^ i : Nat) : Int) = (256 : Int) ^ i := by rw [Int.natCast_pow]; rfl
        rw [← e]
        omega
      have hc : bt s (i : Int) = ((s.data.toList[i]'hlt).toNat : Int) := by
        rw [← bt_getD s i (by omega), List.getD_eq_getElem?_getD, List.getElem?_eq_getElem hlt]
        rfl
      have hlt2 : 0 ≤ ((s.data.toList[i]'hlt).toNat : Int) ∧ ((s.data.toList[i]'hlt).toNat : Int) < 256 := by have := (s.data.toList[i]'hlt).toNat_lt; omega
      have ht : valL 0 (s.data.toList.take (i + 1)) = valL 0 (s.data.toList.take i) * 256 + ((s.data.toList[i]'hlt).toNat : Int) := by
        rw [List.take_succ_eq_append_getElem hlt, valL_snoc]
      simp only [spec_l02Get.l0]
      rw [if_pos (by omega), if_pos (by omega), hc, show wrap64 ((i : Int) + 1) = ((i + 1 : Nat) : Int) from by unfold wrap64; omega]
      generalize ((s.data.toList[i]'hlt).toNat : Int) = c at *
      rw [show wrap64 (valL 0 (s.data.toList.take i) * 256) = valL 0 (s.data.toList.take i) * 256 from by unfold wrap64; omega, show wrap64 c = c from by unfold wrap64; omega, show wrap64 (valL 0 (s.data.toList.take i) * 256 + c) = valL 0 (s.data.toList.take i) * 256 + c from by unfold wrap64; omega, ← ht]
      exact ih (i + 1) k (by omega) (by omega)
  have := key s.size 0 k (by omega) (by omega)
  simpa [spec_l02Get.f, valL] using this
theorem impl_unbig_eq (s : ByteArray) (hs : s.size ≤ 7) (k : Nat) (hk : 7 < k) : impl_unbig.f k s = some (getV s) := by
  have e : ∀ k x i, impl_unbig.l0 k s x i = spec_l02Get.l0 k s x i := by
    intro k
    induction k with
    | zero => intro x i; rfl
    | succ k ih =>
      intro x i
      simp only [impl_unbig.l0, spec_l02Get.l0, ih]
  rw [show impl_unbig.f k s = spec_l02Get.f k s from e k 0 0]
  exact spec_l02Get_eq s hs k hk
theorem impl_isLong_eq (s : ByteArray) : impl_isLong.f s = some (decide ((s.size : Int) > 8000)) := rfl

def packOf (s : ByteArray) : Int × Int × Int × ByteArray × Int :=
  if packB (getV (s.extract 0 4)) (getV (s.extract 4 8)) (getV (s.extract 8 9)) (s.extract 9 s.size) = true then (getV (s.extract 0 4), getV (s.extract 4 8), getV (s.extract 8 9), s.extract 9 s.size, 0) else (0, 0, 0, ⟨#[]⟩, 3)
theorem pack_back (s : ByteArray) (h : 9 ≤ s.size) : ((bigS 4 (getV (s.extract 0 4)) ++ bigS 4 (getV (s.extract 4 8))) ++ bigS 1 (getV (s.extract 8 9))) ++ s.extract 9 s.size = s := by
  have e1 : bigS 4 (getV (s.extract 0 4)) = s.extract 0 4 := by
    have := bigS_getV (s.extract 0 4)
    rwa [extract_size s (by omega)] at this
  have e2 : bigS 4 (getV (s.extract 4 8)) = s.extract 4 8 := by
    have := bigS_getV (s.extract 4 8)
    rwa [extract_size s (by omega)] at this
  have e3 : bigS 1 (getV (s.extract 8 9)) = s.extract 8 9 := by
    have := bigS_getV (s.extract 8 9)
    rwa [extract_size s (by omega)] at this
  rw [e1, e2, e3, extract_app s (by omega), extract_app s (by omega), extract_app s (by omega), extract_all]
theorem FnExactPackRead : ∀ (x0 : ByteArray), (x0.size ≤ maxLen) → ∃ k, laws_FnExactPackRead.f k x0 = some true := by
  intro s hs
  refine ⟨9, ?_⟩
  unfold laws_FnExactPackRead.f
  by_cases hb : (s.size : Int) > 1048576
  · rw [if_pos hb]
  · rw [if_neg hb]
    have hself : ∀ (a b c : Int) (t : ByteArray) (d : Int), laws_eqPackOut.f a b c t d a b c t d = some true := by
      intro a b c t d
      simp [laws_eqPackOut.f, laws_eqPack.f]
    have hsame : ∃ r, spec_PackRead.f 9 s = some r ∧ impl_PackRead.f 9 s = some r := by
      unfold spec_PackRead.f impl_PackRead.f
      rw [impl_isLong_eq]
      simp only [Option.bind_some, decide_eq_true_eq]
      by_cases h1 : (s.size : Int) > 8000
      · rw [if_pos h1, if_pos h1]
        exact ⟨_, rfl, rfl⟩
      · rw [if_neg h1, if_neg h1]
        by_cases h2 : (s.size : Int) < 9
        · rw [if_pos h2, if_pos h2]
          exact ⟨_, rfl, rfl⟩
        · rw [if_neg h2, if_neg h2]
          simp only [show (0 : Nat) ≤ 4 from by omega, show (4 : Nat) ≤ 8 from by omega, show (8 : Nat) ≤ 9 from by omega, show (4 : Int) ≤ (s.size : Int) from by omega, show (8 : Int) ≤ (s.size : Int) from by omega, show (9 : Int) ≤ (s.size : Int) from by omega, if_true]
          rw [spec_l02Get_eq _ (by rw [extract_size s (by omega)]; omega) 9 (by omega), impl_unbig_eq _ (by rw [extract_size s (by omega)]; omega) 9 (by omega)]
          simp only [Option.bind_some]
          rw [spec_l02Get_eq _ (by rw [extract_size s (by omega)]; omega) 9 (by omega), impl_unbig_eq _ (by rw [extract_size s (by omega)]; omega) 9 (by omega)]
          simp only [Option.bind_some]
          rw [spec_l02Get_eq _ (by rw [extract_size s (by omega)]; omega) 9 (by omega), impl_unbig_eq _ (by rw [extract_size s (by omega)]; omega) 9 (by omega)]
          simp only [Option.bind_some]
          rw [spec_PackBytes_eq _ _ _ _ 9 (by omega), impl_Pack_isRight_eq]
          simp only [Option.bind_some]
          by_cases hp : packB (getV (s.extract 0 4)) (getV (s.extract 4 8)) (getV (s.extract 8 9)) (s.extract 9 s.size) = true
          · rw [packS, if_pos hp, if_pos hp, pack_back s (by omega), if_pos rfl]
            exact ⟨_, rfl, rfl⟩
          · rw [packS, if_neg hp, if_neg hp, if_neg]
            · exact ⟨_, rfl, rfl⟩
            · intro e
              have hl := congrArg List.length e
              have h3 : (⟨#[]⟩ : ByteArray).toList = [] := by rw [toList_data]
              rw [h3] at hl
              have h4 : s.toList.length = s.size := by rw [toList_data, ba_len]
              rw [h4] at hl
              simp at hl
              omega
    obtain ⟨r, h1, h2⟩ := hsame
    rw [h1]
    simp only [Option.bind_some]
    rw [h2]
    simp only [Option.bind_some]
    rw [hself]
    rfl

end Go.Proofs.Yteiablhopiobbaa.fnExactPackReadRow.Pure
