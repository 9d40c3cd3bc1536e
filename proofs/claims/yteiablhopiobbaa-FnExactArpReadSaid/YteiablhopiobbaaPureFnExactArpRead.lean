/- The plain law of FnExactArpRead: over numbers and lists alone, that what the program computes is what the reference computes. No condition beyond what a machine's numbers are. -/
import Derived.Test.YteiablhopiobbaaPFnExactArpReadx0
import Derived.Test.YteiablhopiobbaaPFnExactArpReadx1
import Derived.Test.YteiablhopiobbaaPFnExactArpReadx2
import Derived.Test.YteiablhopiobbaaPFnExactArpReadx3
import Derived.Test.YteiablhopiobbaaPFnExactArpReadx4
import Derived.Test.YteiablhopiobbaaPFnExactArpReadx5
import Derived.Test.YteiablhopiobbaaBase
set_option linter.unusedSimpArgs false
set_option linter.unusedVariables false
namespace Go.Proofs.Yteiablhopiobbaa.fnExactArpReadRow.Pure
open Go.RowKit Go.Proofs.YteiablhopiobbaaW.PrintWords Go.Proofs.YteiablhopiobbaaW.PrintLast Go.Proofs.Yteiablhopiobbaa.PFnExactArpRead Go.Proofs.Yteiablhopiobbaa.Base

theorem spec_l02Is_eq (a b c : Int) : spec_l02Is.f a b c = some (inB a b c) := by
  unfold spec_l02Is.f inB
  by_cases h : b ≤ a <;> simp [h]

theorem impl_in_eq (a b c : Int) : impl_in.f a b c = some (inB a b c) := by
  unfold impl_in.f inB
  by_cases h : b ≤ a <;> simp [h]
theorem spec_l02Mac_eq (a : Int) : spec_l02Mac.f a = some (macB a) := by simp [spec_l02Mac.f, spec_l02Is_eq, macB]
theorem spec_l02Ip_eq (a : Int) : spec_l02Ip.f a = some (ipB a) := by simp [spec_l02Ip.f, spec_l02Is_eq, ipB]
theorem impl_isMac_eq (a : Int) : impl_isMac.f a = some (macB a) := by simp [impl_isMac.f, impl_in_eq, macB]
theorem impl_isIp_eq (a : Int) : impl_isIp.f a = some (ipB a) := by simp [impl_isIp.f, impl_in_eq, ipB]

theorem spec_l02Put_eq (m : Nat) (n : Int) (h0 : 0 ≤ n) (h1 : n < 9223372036854775808) (hm : m ≤ 100) (k : Nat) (hk : m < k) : spec_l02Put.f k n (m : Int) = some (bigS m n) := by
  have key : ∀ (m k : Nat) (x : Int) (acc : List Int), 0 ≤ x → x < 9223372036854775808 → m ≤ acc.length → m < k → m ≤ 100 → spec_l02Put.l0 k x acc ((m : Int) - 1) = some (strOfNums (bigL m x ++ acc.drop m)) := by
    intro m
    induction m with
    | zero =>
      intro k x acc _ _ _ hk _
      obtain ⟨k, rfl⟩ : ∃ j, k = j + 1 := ⟨k - 1, by omega⟩
      simp only [spec_l02Put.l0]
      rw [if_neg (by omega)]
      simp [bigL]
    | succ m ih =>
      intro k x acc hx0 hx1 hl hk hm
      obtain ⟨k, rfl⟩ : ∃ j, k = j + 1 := ⟨k - 1, by omega⟩
      have e : ((m + 1 : Nat) : Int) - 1 = (m : Int) := by omega
      rw [e]
      simp only [spec_l02Put.l0]
      rw [if_pos (by omega), if_pos (by omega), if_pos (by omega), show wrap64 ((m : Int) - 1) = (m : Int) - 1 from by unfold wrap64; omega, Int.toNat_natCast, and255 hx0 hx1, show x % 256 % 256 = x % 256 from by omega, ih k _ _ (by omega) (by omega) (by simp; omega) (by omega) (by omega), set_drop _ _ _ (by omega)]
      simp [bigL]
  unfold spec_l02Put.f
  rw [if_pos (by omega), if_pos (by omega), Int.toNat_natCast, show wrap64 ((m : Int) - 1) = (m : Int) - 1 from by unfold wrap64; omega, key m k n _ h0 h1 (by simp) hk hm]
  simp [bigS]
theorem ite_neg_pos {α : Type} {c : Bool} {x y : α} (h : c = true) : (if (!c) = true then x else y) = y := by subst h; rfl
theorem ite_neg_neg {α : Type} {c : Bool} {x y : α} (h : ¬ c = true) : (if (!c) = true then x else y) = x := by cases c <;> simp_all
def arpB (a b c d e : Int) : Bool := inB a 1 2 && macB b && macB d && ipB c && ipB e
theorem arpB_and {a b c d e : Int} (h : arpB a b c d e = true) : 1 ≤ a ∧ a ≤ 2 ∧ 0 ≤ b ∧ b ≤ 281474976710655 ∧ 0 ≤ d ∧ d ≤ 281474976710655 ∧ 0 ≤ c ∧ c ≤ 4294967295 ∧ 0 ≤ e ∧ e ≤ 4294967295 := by
  simp [arpB, macB, ipB, inB] at h
  omega
theorem impl_Arp_isRight_eq (a b c d e : Int) : impl_Arp_isRight.f a b c d e = some (arpB a b c d e) := by
  simp only [impl_Arp_isRight.f, impl_in_eq, impl_isMac_eq, impl_isIp_eq, Option.bind_some, some_ite, arpB, Bool.and_assoc]
def arpHead : ByteArray := ⟨#[0, 1, 8, 0, 6, 4]⟩
def arpS (a b c d e : Int) : ByteArray := if arpB a b c d e = true then ((((arpHead ++ bigS 2 a) ++ bigS 6 b) ++ bigS 4 c) ++ bigS 6 d) ++ bigS 4 e else ⟨#[]⟩
theorem arpHead_size : arpHead.size = 6 := rfl
theorem arp_head (a : Int) (h1 : 1 ≤ a) (h2 : a ≤ 2) : (⟨#[0, 1, 8, 0, 6, 4, 0]⟩ : ByteArray) ++ bigS 1 a = arpHead ++ bigS 2 a := by
  have e : bigS 2 a = ⟨#[0]⟩ ++ bigS 1 a := by
    unfold bigS
    rw [show bigL 2 a = [0] ++ bigL 1 a from by simp [bigL]; omega, strOfNums_append]
    rfl
  rw [e, ← ByteArray.append_assoc]
  rfl
theorem spec_ArpBytes_eq (a b c d e : Int) (k : Nat) (hk : 8 < k) : spec_ArpBytes.f k a b c d e = some (arpS a b c d e) := by
  have hj : ∀ x, spec_ArpBytes.j0 k x a b c d e = if x = true then some (⟨#[]⟩ : ByteArray) else spec_ArpBytes.j0 k false a b c d e := by
    intro x
    cases x with
    | false => rfl
    | true =>
      obtain ⟨k, rfl⟩ : ∃ j, k = j + 1 := ⟨k - 1, by omega⟩
      simp [spec_ArpBytes.j0]
  have hb : spec_ArpBytes.f k a b c d e = if arpB a b c d e = true then spec_ArpBytes.j0 k false a b c d e else some (⟨#[]⟩ : ByteArray) := by
    simp only [spec_ArpBytes.f, spec_l02Mac_eq, spec_l02Ip_eq, spec_l02Is_eq, Option.bind_some, arpB]
    rw [hj true, hj (!ipB e)]
    by_cases h1 : inB a 1 2 = true <;> by_cases h2 : macB b = true <;> by_cases h3 : macB d = true <;> by_cases h4 : ipB c = true <;> by_cases h5 : ipB e = true <;> simp [h1, h2, h3, h4, h5]
  rw [hb]
  unfold arpS
  by_cases h : arpB a b c d e = true
  · rw [if_pos h, if_pos h]
    obtain ⟨h1, h2, h3, h4, h5, h6, h7, h8, h9, h10⟩ := arpB_and h
    obtain ⟨k, rfl⟩ : ∃ j, k = j + 1 := ⟨k - 1, by omega⟩
    simp only [spec_ArpBytes.j0]
    rw [if_neg (by simp), show (2 : Int) = ((2 : Nat) : Int) from rfl, spec_l02Put_eq 2 a (by omega) (by omega) (by omega) k (by omega)]
    simp only [Option.bind_some]
    rw [show (⟨#[0, 1, 8, 0, 6, 4]⟩ : ByteArray) = arpHead from rfl, if_pos (by simp only [bigS_size]; omega), show (6 : Int) = ((6 : Nat) : Int) from rfl, spec_l02Put_eq 6 b (by omega) (by omega) (by omega) k (by omega)]
    simp only [Option.bind_some]
    rw [if_pos (by simp only [ByteArray.size_append, bigS_size, arpHead_size]; omega), show (4 : Int) = ((4 : Nat) : Int) from rfl, spec_l02Put_eq 4 c (by omega) (by omega) (by omega) k (by omega)]
    simp only [Option.bind_some]
    rw [if_pos (by simp only [ByteArray.size_append, bigS_size, arpHead_size]; omega), spec_l02Put_eq 6 d (by omega) (by omega) (by omega) k (by omega)]
    simp only [Option.bind_some]
    rw [if_pos (by simp only [ByteArray.size_append, bigS_size, arpHead_size]; omega), spec_l02Put_eq 4 e (by omega) (by omega) (by omega) k (by omega)]
    simp only [Option.bind_some]
    rw [if_pos (by simp only [ByteArray.size_append, bigS_size, arpHead_size]; omega)]
  · rw [if_neg h, if_neg h]

theorem pow256 : (256 : Int) ^ 1 = 256 ∧ (256 : Int) ^ 2 = 65536 ∧ (256 : Int) ^ 4 = 4294967296 ∧ (256 : Int) ^ 6 = 281474976710656 := by decide
theorem getV_bd (s : ByteArray) : 0 ≤ getV s ∧ getV s < 256 ^ s.size := by
  have := valL_bd s.data.toList
  rw [ba_len] at this
  exact this
theorem spec_l02Get_eq (s : ByteArray) (hs : s.size ≤ 7) (k : Nat) (hk : 7 < k) : spec_l02Get.f k s = some (getV s) := by
  have key : ∀ (d i k : Nat), i + d = s.size → d < k → spec_l02Get.l0 k s (valL 0 (s.data.toList.take i)) (i : Int) = some (getV s) := by
    intro d
    induction d with
    | zero =>
      intro i k hi hk
      obtain ⟨k, rfl⟩ : ∃ j, k = j + 1 := ⟨k - 1, by omega⟩
      simp only [spec_l02Get.l0]
      rw [if_neg (by omega), List.take_of_length_le (by rw [ba_len]; omega)]
      rfl
    | succ d ih =>
      intro i k hi hk
      obtain ⟨k, rfl⟩ : ∃ j, k = j + 1 := ⟨k - 1, by omega⟩
      have hlt : i < s.data.toList.length := by rw [ba_len]; omega
      have hb := valL_bd (s.data.toList.take i)
      have hl : (s.data.toList.take i).length = i := by rw [List.length_take]; omega
      rw [hl] at hb
      have hp : (256 : Int) ^ i ≤ 281474976710656 := by
        have : i ≤ 6 := by omega
        have h2 := Nat.pow_le_pow_right (n := 256) (by omega) this
        have e : ((256 ^ i : Nat) : Int) = (256 : Int) ^ i := by rw [Int.natCast_pow]; rfl
        rw [← e]
        omega
      have hc : bt s (i : Int) = ((s.data.toList[i]'hlt).toNat : Int) := by
        rw [← bt_getD s i (by omega), List.getD_eq_getElem?_getD, List.getElem?_eq_getElem hlt]
        rfl
      have hlt2 : 0 ≤ ((s.data.toList[i]'hlt).toNat : Int) ∧ ((s.data.toList[i]'hlt).toNat : Int) < 256 := by have := (s.data.toList[i]'hlt).toNat_lt; omega
      have ht : valL 0 (s.data.toList.take (i + 1)) = valL 0 (s.data.toList.take i) * 256 + ((s.data.toList[i]'hlt).toNat : Int) := by
        rw [List.take_succ_eq_append_getElem hlt, valL_snoc]
      simp only [spec_l02Get.l0]
      rw [if_pos (by omega), if_pos (by omega), hc, show wrap64 ((i : Int) + 1) = ((i + 1 : Nat) : Int) from by unfold wrap64; omega]
      generalize ((s.data.toList[i]'hlt).toNat : Int) = c at *
      rw [show wrap64 (valL 0 (s.data.toList.take i) * 256) = valL 0 (s.data.toList.take i) * 256 from by unfold wrap64; omega, show wrap64 c = c from by unfold wrap64; omega, show wrap64 (valL 0 (s.data.toList.take i) * 256 + c) = valL 0 (s.data.toList.take i) * 256 + c from by unfold wrap64; omega, ← ht]
      exact ih (i + 1) k (by omega) (by omega)
  have := key s.size 0 k (by omega) (by omega)
  simpa [spec_l02Get.f, valL] using this
theorem impl_unbig_eq (s : ByteArray) (hs : s.size ≤ 7) (k : Nat) (hk : 7 < k) : impl_unbig.f k s = some (getV s) := by
  have e : ∀ k x i, impl_unbig.l0 k s x i = spec_l02Get.l0 k s x i := by
    intro k
    induction k with
    | zero => intro x i; rfl
    | succ k ih =>
      intro x i
      simp only [impl_unbig.l0, spec_l02Get.l0, ih]
  rw [show impl_unbig.f k s = spec_l02Get.f k s from e k 0 0]
  exact spec_l02Get_eq s hs k hk
theorem impl_isLong_eq (s : ByteArray) : impl_isLong.f s = some (decide ((s.size : Int) > 8000)) := rfl

theorem ext_getV (s : ByteArray) {a b : Nat} (h : a ≤ b) (hb : b ≤ s.size) : bigS (b - a) (getV (s.extract a b)) = s.extract a b := by
  have := bigS_getV (s.extract a b)
  rwa [extract_size s hb] at this
theorem arp_back (s : ByteArray) (h : s.size = 28) (h6 : s.extract 0 6 = arpHead) : ((((arpHead ++ bigS 2 (getV (s.extract 6 8))) ++ bigS 6 (getV (s.extract 8 14))) ++ bigS 4 (getV (s.extract 14 18))) ++ bigS 6 (getV (s.extract 18 24))) ++ bigS 4 (getV (s.extract 24 28)) = s := by
  have e1 := ext_getV s (a := 6) (b := 8) (by omega) (by omega)
  have e2 := ext_getV s (a := 8) (b := 14) (by omega) (by omega)
  have e3 := ext_getV s (a := 14) (b := 18) (by omega) (by omega)
  have e4 := ext_getV s (a := 18) (b := 24) (by omega) (by omega)
  have e5 := ext_getV s (a := 24) (b := 28) (by omega) (by omega)
  rw [show (2 : Nat) = 8 - 6 from rfl, e1, show (6 : Nat) = 14 - 8 from rfl, e2, show (4 : Nat) = 18 - 14 from rfl, e3, show 14 - 8 = 24 - 18 from rfl, e4, show 18 - 14 = 28 - 24 from rfl, e5, ← h6, extract_app s (by omega), extract_app s (by omega), extract_app s (by omega), extract_app s (by omega), extract_app s (by omega)]
  have := extract_all s
  rwa [h] at this
/-- The whole of a text that is an ARP message's: the bytes at its head. -/
theorem arp_front (x y : ByteArray) (n : Nat) (hn : x.size = n) : (x ++ y).extract 0 n = x := by
  apply ba_ext
  rw [ba_extract, ba_append, List.drop_zero, ← hn, ← ba_len, List.take_left]
theorem FnExactArpRead : ∀ (x0 : ByteArray), (x0.size ≤ maxLen) → ∃ k, laws_FnExactArpRead.f k x0 = some true := by
  intro s hs
  refine ⟨10, ?_⟩
  unfold laws_FnExactArpRead.f
  by_cases hb : (s.size : Int) > 1048576
  · rw [if_pos hb]
  · rw [if_neg hb]
    have hself : ∀ (a b c d e f : Int), laws_eqArpOut.f a b c d e f a b c d e f = some true := by
      intro a b c d e f
      simp [laws_eqArpOut.f, laws_eqArp.f]
    have hsame : ∃ r, spec_ArpRead.f 10 s = some r ∧ impl_ArpRead.f 10 s = some r := by
      unfold spec_ArpRead.f impl_ArpRead.f
      rw [impl_isLong_eq]
      simp only [Option.bind_some, decide_eq_true_eq]
      by_cases h1 : (s.size : Int) > 8000
      · rw [if_pos h1, if_pos h1]
        exact ⟨_, rfl, rfl⟩
      · rw [if_neg h1, if_neg h1]
        unfold impl_arpRead.f
        by_cases h2 : (s.size : Int) = 28
        · have h28 : s.size = 28 := by omega
          rw [if_pos h2, if_pos h2]
          simp only [h28, show (6 : Nat) ≤ 8 from by omega, show (8 : Nat) ≤ 14 from by omega, show (14 : Nat) ≤ 18 from by omega, show (18 : Nat) ≤ 24 from by omega, show (24 : Nat) ≤ 28 from by omega, show (0 : Nat) ≤ 7 from by omega, show (8 : Int) ≤ ((28 : Nat) : Int) from by omega, show (14 : Int) ≤ ((28 : Nat) : Int) from by omega, show (18 : Int) ≤ ((28 : Nat) : Int) from by omega, show (24 : Int) ≤ ((28 : Nat) : Int) from by omega, show (28 : Int) ≤ ((28 : Nat) : Int) from by omega, show (7 : Int) ≤ ((28 : Nat) : Int) from by omega, if_true]
          rw [spec_l02Get_eq _ (by rw [extract_size s (by omega)]; omega) 10 (by omega)]
          simp only [Option.bind_some]
          rw [spec_l02Get_eq _ (by rw [extract_size s (by omega)]; omega) 10 (by omega)]
          simp only [Option.bind_some]
          rw [spec_l02Get_eq _ (by rw [extract_size s (by omega)]; omega) 10 (by omega)]
          simp only [Option.bind_some]
          rw [spec_l02Get_eq _ (by rw [extract_size s (by omega)]; omega) 10 (by omega)]
          simp only [Option.bind_some]
          rw [spec_l02Get_eq _ (by rw [extract_size s (by omega)]; omega) 10 (by omega)]
          simp only [Option.bind_some]
          rw [spec_ArpBytes_eq _ _ _ _ _ 10 (by omega)]
          simp only [Option.bind_some]
          have hempty : (⟨#[]⟩ : ByteArray).toList = [] := by rw [toList_data]
          have hlen : s.toList.length = 28 := by rw [toList_data, ba_len, h28]
          by_cases h7 : (s.extract 0 7).toList = ([0, 1, 8, 0, 6, 4, 0] : List UInt8)
          · -- the head is an ARP message's
            have hx : s.extract 0 7 = (⟨#[0, 1, 8, 0, 6, 4, 0]⟩ : ByteArray) := ba_ext (by rw [← toList_data, h7])
            have h6 : s.extract 0 6 = arpHead := by
              apply ba_ext
              have e := congrArg (fun l => l.take 6) h7
              rw [toList_data, ba_extract, List.drop_zero, List.take_take] at e
              rw [ba_extract, List.drop_zero]
              exact e
            have h67 : s.extract 6 8 = (⟨#[0]⟩ : ByteArray) ++ s.extract 7 8 := by
              apply ba_ext
              have e := congrArg (fun l => l.drop 6) h7
              rw [toList_data, ba_extract, List.drop_zero] at e
              rw [ba_append, ba_extract, ba_extract]
              have e2 : s.data.toList.take 8 = s.data.toList.take 7 ++ (s.data.toList.take 8).drop 7 := by
                have := List.take_append_drop 7 (s.data.toList.take 8)
                rw [List.take_take] at this
                exact this.symm
              rw [e2, List.drop_append_of_le_length (by rw [List.length_take, ba_len]; omega)]
              rw [e, List.drop_left' (by rw [List.length_take, ba_len]; omega)]
              rfl
            have hop : getV (s.extract 6 8) = getV (s.extract 7 8) := by
              unfold getV
              rw [h67, ba_append]
              rfl
            have hj : impl_arpRead.j0 10 s ((s.extract 0 7).toList != ([0, 1, 8, 0, 6, 4, 0] : List UInt8)) = some (getV (s.extract 7 8), getV (s.extract 8 14), getV (s.extract 14 18), getV (s.extract 18 24), getV (s.extract 24 28), arpB (getV (s.extract 7 8)) (getV (s.extract 8 14)) (getV (s.extract 14 18)) (getV (s.extract 18 24)) (getV (s.extract 24 28))) := by
              rw [show ((s.extract 0 7).toList != ([0, 1, 8, 0, 6, 4, 0] : List UInt8)) = false from by rw [h7]; rfl]
              simp only [impl_arpRead.j0, Bool.false_eq_true, if_false, h28, show (7 : Nat) ≤ 8 from by omega, show (8 : Nat) ≤ 14 from by omega, show (14 : Nat) ≤ 18 from by omega, show (18 : Nat) ≤ 24 from by omega, show (8 : Int) ≤ ((28 : Nat) : Int) from by omega, show (14 : Int) ≤ ((28 : Nat) : Int) from by omega, show (18 : Int) ≤ ((28 : Nat) : Int) from by omega, show (24 : Int) ≤ ((28 : Nat) : Int) from by omega, if_true]
              rw [impl_unbig_eq _ (by rw [extract_size s (by omega)]; omega) 9 (by omega)]
              simp only [Option.bind_some]
              rw [impl_unbig_eq _ (by rw [extract_size s (by omega)]; omega) 9 (by omega)]
              simp only [Option.bind_some]
              rw [impl_unbig_eq _ (by rw [extract_size s (by omega)]; omega) 9 (by omega)]
              simp only [Option.bind_some]
              rw [impl_unbig_eq _ (by rw [extract_size s (by omega)]; omega) 9 (by omega)]
              simp only [Option.bind_some]
              rw [impl_unbig_eq _ (by rw [extract_size s (by omega)]; omega) 9 (by omega)]
              simp only [Option.bind_some]
              rw [impl_Arp_isRight_eq]
              rfl
            rw [hj]
            simp only [Option.bind_some, hop]
            by_cases hp : arpB (getV (s.extract 7 8)) (getV (s.extract 8 14)) (getV (s.extract 14 18)) (getV (s.extract 18 24)) (getV (s.extract 24 28)) = true
            · rw [if_pos hp, arpS, if_pos hp, ← hop, arp_back s h28 h6, if_pos rfl]
              exact ⟨_, rfl, rfl⟩
            · rw [if_neg hp, arpS, if_neg hp, if_neg (by rw [hempty]; intro e; rw [← e] at hlen; simp at hlen)]
              exact ⟨_, rfl, rfl⟩
          · have hj : impl_arpRead.j0 10 s ((s.extract 0 7).toList != ([0, 1, 8, 0, 6, 4, 0] : List UInt8)) = some (0, 0, 0, 0, 0, false) := by
              rw [show ((s.extract 0 7).toList != ([0, 1, 8, 0, 6, 4, 0] : List UInt8)) = true from by simpa using h7]
              simp [impl_arpRead.j0]
            rw [hj]
            simp only [Option.bind_some, Bool.false_eq_true, if_false]
            rw [if_neg]
            · exact ⟨_, rfl, rfl⟩
            · intro e
              by_cases hp : arpB (getV (s.extract 6 8)) (getV (s.extract 8 14)) (getV (s.extract 14 18)) (getV (s.extract 18 24)) (getV (s.extract 24 28)) = true
              · have hb2 := arpB_and hp
                rw [arpS, if_pos hp, toList_data, toList_data] at e
                have e' := ba_ext e
                apply h7
                rw [← arp_head _ hb2.1 hb2.2.1] at e'
                rw [← e']
                have e3 : ((((((⟨#[0, 1, 8, 0, 6, 4, 0]⟩ : ByteArray) ++ bigS 1 (getV (s.extract 6 8))) ++ bigS 6 (getV (s.extract 8 14))) ++ bigS 4 (getV (s.extract 14 18))) ++ bigS 6 (getV (s.extract 18 24))) ++ bigS 4 (getV (s.extract 24 28))).extract 0 7 = (⟨#[0, 1, 8, 0, 6, 4, 0]⟩ : ByteArray) := by
                  rw [ByteArray.append_assoc, ByteArray.append_assoc, ByteArray.append_assoc, ByteArray.append_assoc]
                  exact arp_front _ _ 7 rfl
                rw [e3, toList_data]
              · rw [arpS, if_neg hp, hempty] at e
                rw [← e] at hlen
                simp at hlen
        · rw [if_neg h2, if_neg h2]
          have hj : impl_arpRead.j0 10 s true = some (0, 0, 0, 0, 0, false) := by simp [impl_arpRead.j0]
          rw [hj]
          exact ⟨_, rfl, rfl⟩
    obtain ⟨r, h1, h2⟩ := hsame
    rw [h1]
    simp only [Option.bind_some]
    rw [h2]
    simp only [Option.bind_some]
    rw [hself]
    rfl

end Go.Proofs.Yteiablhopiobbaa.fnExactArpReadRow.Pure
