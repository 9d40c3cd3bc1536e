/- The plain law of FnExactRoomOf: over numbers and lists alone, that what the program computes is what the reference computes. No condition beyond what a machine's numbers are. -/
import Derived.Test.YteiablhopiobbaaPFnExactRoomOfx0
import Derived.Test.YteiablhopiobbaaPFnExactRoomOfx1
import Derived.Test.YteiablhopiobbaaPFnExactRoomOfx2
import Derived.Test.YteiablhopiobbaaPFnExactRoomOfx3
import Derived.Test.YteiablhopiobbaaPFnExactRoomOfx4
import Derived.Test.YteiablhopiobbaaPFnExactRoomOfx5
import Derived.Test.YteiablhopiobbaaBase
set_option linter.unusedSimpArgs false
set_option linter.unusedVariables false
namespace Go.Proofs.Yteiablhopiobbaa.fnExactRoomOfRow.Pure
open Go.RowKit Go.Proofs.YteiablhopiobbaaW.PrintWords Go.Proofs.YteiablhopiobbaaW.PrintLast Go.Proofs.Yteiablhopiobbaa.PFnExactRoomOf Go.Proofs.Yteiablhopiobbaa.Base

theorem spec_l02Is_eq (a b c : Int) : spec_l02Is.f a b c = some (inB a b c) := by
  unfold spec_l02Is.f inB
  by_cases h : b ≤ a <;> simp [h]

theorem impl_in_eq (a b c : Int) : impl_in.f a b c = some (inB a b c) := by
  unfold impl_in.f inB
  by_cases h : b ≤ a <;> simp [h]
theorem spec_l02Ip_eq (a : Int) : spec_l02Ip.f a = some (ipB a) := by simp [spec_l02Ip.f, spec_l02Is_eq, ipB]
theorem spec_l02Vni_eq (a : Int) : spec_l02Vni.f a = some (vniB a) := by simp [spec_l02Vni.f, spec_l02Is_eq, vniB]
theorem spec_l09House_eq (a : Int) : spec_l09House.f a = some (houseB a) := by simp [spec_l09House.f, spec_l02Is_eq, houseB]
theorem impl_isIp_eq (a : Int) : impl_isIp.f a = some (ipB a) := by simp [impl_isIp.f, impl_in_eq, ipB]
theorem impl_isVni_eq (a : Int) : impl_isVni.f a = some (vniB a) := by simp [impl_isVni.f, impl_in_eq, vniB]
theorem impl_isHouse_eq (a : Int) : impl_isHouse.f a = some (houseB a) := by simp [impl_isHouse.f, impl_in_eq, houseB]
theorem cmp_Compare_eq (a b : Int) : cmp_Compare_int64.f a b = some (cmpI a b) := by
  simp only [cmp_Compare_int64.f, cmp_isNaN_int64.f, Option.bind_some, bne_self_eq_false, cmpI]
  simp only [Bool.false_eq_true, if_false]
  repeat' split
  all_goals rfl
theorem cmp_Or_eq (xs : List Int) (hn : xs.length ≤ 100) (k : Nat) (hk : xs.length < k) : cmp_Or_int.f k xs = some (firstNZ xs) := by
  have key : ∀ (d i k : Nat), i + d = xs.length → d < k → cmp_Or_int.l0 k 0 xs (xs.length : Int) (i : Int) = some (firstNZ (xs.drop i)) := by
    intro d
    induction d with
    | zero =>
      intro i k hd hk
      obtain ⟨k, rfl⟩ : ∃ m, k = m + 1 := ⟨k - 1, by omega⟩
      simp only [cmp_Or_int.l0]
      rw [if_neg (by omega), List.drop_of_length_le (by omega)]
      rfl
    | succ d ih =>
      intro i k hd hk
      obtain ⟨k, rfl⟩ : ∃ m, k = m + 1 := ⟨k - 1, by omega⟩
      simp only [cmp_Or_int.l0]
      rw [if_pos (by omega), if_pos (by omega), if_pos (by omega), show rd xs (i : Int) = nth 0 xs i from rfl, drop_nth 0 (by omega : i < xs.length), wrap_up (by omega : i < xs.length) (by omega), ih (i + 1) k (by omega) (by omega)]
      simp only [firstNZ]
      split <;> rfl
  exact key xs.length 0 k (by omega) hk

theorem spec_l16Size_eq {b : Int} (h0 : 0 ≤ b) (h1 : b ≤ 32) : spec_l16Size.f b = some (sizeB b) := by
  unfold spec_l16Size.f
  rw [if_pos (by unfold wrap64; omega), size_eq h0 h1]
theorem impl_Range_size_eq {a b c : Int} (h0 : 0 ≤ b) (h1 : b ≤ 32) : impl_Range_size.f a b c = some (sizeB b) := by
  unfold impl_Range_size.f
  rw [if_pos (by unfold wrap64; omega), size_eq h0 h1]
theorem spec_RangeRight_eq (a b c : Int) : spec_RangeRight.f a b c = some (rangeB a b c) := by
  simp only [spec_RangeRight.f, spec_l02Ip_eq, spec_l02Is_eq, spec_l09House_eq, Option.bind_some, rangeB]
  by_cases h1 : ipB a = true
  · by_cases h2 : inB b 0 32 = true
    · have hb : 0 ≤ b ∧ b ≤ 32 := by simpa [inB] using h2
      have ha : 0 ≤ a ∧ a ≤ 4294967295 := by simpa [ipB, inB] using h1
      have hp := size_pos b
      rw [if_pos h1, if_pos h2, spec_l16Size_eq hb.1 hb.2]
      simp only [Option.bind_some]
      rw [if_neg (by omega), Int.tmod_eq_emod_of_nonneg ha.1]
      by_cases h3 : a % sizeB b = 0 <;> simp [h1, h2, h3]
    · simp [h1, h2]
  · simp [h1]
theorem impl_RangeRight_eq (a b c : Int) : impl_RangeRight.f a b c = some (rangeB a b c) := by
  simp only [impl_RangeRight.f, impl_isIp_eq, impl_in_eq, impl_isHouse_eq, Option.bind_some, rangeB]
  by_cases h1 : ipB a = true
  · by_cases h2 : inB b 0 32 = true
    · have hb : 0 ≤ b ∧ b ≤ 32 := by simpa [inB] using h2
      have ha : 0 ≤ a ∧ a ≤ 4294967295 := by simpa [ipB, inB] using h1
      have hp := size_pos b
      rw [if_pos h1, if_pos h2, impl_Range_size_eq hb.1 hb.2]
      simp only [Option.bind_some]
      rw [if_neg (by omega), Int.tmod_eq_emod_of_nonneg ha.1]
      by_cases h3 : a % sizeB b = 0 <;> simp [h1, h2, h3]
    · simp [h1, h2]
  · simp [h1]
theorem spec_l16Covers_eq {a b c x : Int} (hr : rangeB a b c = true) : spec_l16Covers.f a b c x = some (coversB a b x) := by
  obtain ⟨h1, h2, h3, h4, _⟩ := rangeB_and hr
  have hs := size_pos b
  have hl := size_le h3 h4
  unfold spec_l16Covers.f
  rw [spec_l16Size_eq h3 h4]
  simp only [Option.bind_some]
  rw [show wrap64 (a + sizeB b) = a + sizeB b from by unfold wrap64; omega]
  unfold coversB
  by_cases h : a ≤ x <;> simp [h]
theorem impl_Range_covers_eq {a b c x : Int} (hr : rangeB a b c = true) : impl_Range_covers.f a b c x = some (coversB a b x) := by
  obtain ⟨h1, h2, h3, h4, _⟩ := rangeB_and hr
  have hs := size_pos b
  have hl := size_le h3 h4
  unfold impl_Range_covers.f
  rw [impl_Range_size_eq h3 h4]
  simp only [Option.bind_some]
  rw [show wrap64 (a + sizeB b) = a + sizeB b from by unfold wrap64; omega, show wrap64 (a + sizeB b - 1) = a + sizeB b - 1 from by unfold wrap64; omega, impl_in_eq]
  simp only [Option.bind_some, inB, coversB, Option.some.injEq]
  congr 1
  simp only [decide_eq_decide]
  omega
theorem impl_Range_order_eq (a b c x y z : Int) (k : Nat) (hk : 3 ≤ k) : impl_Range_order.f k a b c x y z = some (firstNZ [cmpI a x, cmpI b y]) := by
  simp only [impl_Range_order.f, cmp_Compare_eq, Option.bind_some]
  rw [cmp_Or_eq _ (by simp) k (by simp; omega)]
  rfl
theorem rangeOrd_zero (a b x y : Int) : firstNZ [cmpI a x, cmpI b y] = 0 ↔ (a = x ∧ b = y) := by
  unfold firstNZ firstNZ firstNZ cmpI
  repeat' split
  all_goals omega

theorem rdRule (xs : List S94) (i : Nat) : rd_T94 xs (i : Int) = nth z94 xs i := rfl
def ruleAt (xs : List S94) (i : Nat) : Bool := vniB (nth z94 xs i).f0 && rangeB (nth z94 xs i).f1.f0 (nth z94 xs i).f1.f1 (nth z94 xs i).f1.f2
def sameAt (xs : List S94) (i j : Nat) : Bool := decide ((nth z94 xs j).f1.f0 = (nth z94 xs i).f1.f0) && decide ((nth z94 xs j).f1.f1 = (nth z94 xs i).f1.f1)
def ruleOk (xs : List S94) (i : Nat) : Bool := ruleAt xs i && chk (fun j => !sameAt xs i j) i 0
def rulesRight (xs : List S94) : Bool := chk (ruleOk xs) xs.length 0 && decide (xs.length ≤ 30)
theorem spec_Rules_in (xs : List S94) (hn : xs.length ≤ 1048576) (i : Nat) (hi : i < xs.length) (v : Bool) (hv : Ev (fun k => spec_RulesRight.l0 k xs ((i + 1 : Nat) : Int)) v) :
    ∀ d j, j + d = i → Ev (fun k => spec_RulesRight.l1 k xs (i : Int) (j : Int)) (chk (fun j => !sameAt xs i j) d j && v) := by
  intro d
  induction d with
  | zero =>
    intro j hj
    obtain rfl : j = i := by omega
    refine ev_step (f := fun k => spec_RulesRight.l0 k xs ((j + 1 : Nat) : Int)) (by simpa [chk] using hv) (fun k => ?_)
    simp only [spec_RulesRight.l1]
    rw [if_neg (by omega), wrap_up hi (by omega)]
  | succ d ih =>
    intro j hj
    have hnx := ih (j + 1) (by omega)
    simp only [chk]
    by_cases hs : sameAt xs i j = true
    · refine ev_step (f := fun k => some false) (by simpa [hs] using Ev.now false) (fun k => ?_)
      simp only [sameAt, Bool.and_eq_true, decide_eq_true_eq] at hs
      simp only [spec_RulesRight.l1]
      rw [if_pos (by omega), if_pos (by omega), if_pos (by omega), if_pos (by omega), if_pos (by omega), rdRule, rdRule, if_pos hs.1, if_pos hs.2]
    · refine ev_step (f := fun k => spec_RulesRight.l1 k xs (i : Int) ((j + 1 : Nat) : Int)) (by simpa [hs] using hnx) (fun k => ?_)
      simp only [sameAt, Bool.and_eq_true, decide_eq_true_eq] at hs
      simp only [spec_RulesRight.l1]
      rw [if_pos (by omega), if_pos (by omega), if_pos (by omega), if_pos (by omega), if_pos (by omega), rdRule, rdRule, wrap_up (by omega : j < xs.length) (by omega)]
      by_cases h1 : (nth z94 xs j).f1.f0 = (nth z94 xs i).f1.f0
      · rw [if_pos h1, if_neg (fun h2 => hs ⟨h1, h2⟩)]
      · rw [if_neg h1]
theorem spec_RulesRight_ev (xs : List S94) (hn : xs.length ≤ 1048576) : Ev (fun k => spec_RulesRight.f k xs) (rulesRight xs) := by
  unfold spec_RulesRight.f rulesRight
  by_cases h : xs.length ≤ 30
  · simp only [if_neg (by omega : ¬ ((xs.length : Int) > 30)), decide_eq_true h]
    have key := ev_chk (fun k i => spec_RulesRight.l0 k xs i) xs.length (ruleOk xs) true ?_ ?_ ?_ xs.length 0 (by omega)
    · simpa using key
    · intro i v hi hp hv
      simp only [ruleOk, Bool.and_eq_true] at hp
      have hin := spec_Rules_in xs hn i hi v hv i 0 (by omega)
      rw [hp.2, Bool.true_and] at hin
      refine ev_step (f := fun k => spec_RulesRight.j1 k xs (i : Int) false) (ev_step (f := fun k => spec_RulesRight.l1 k xs (i : Int) 0) hin (fun k => by simp [spec_RulesRight.j1])) (fun k => ?_)
      have h2 := hp.1
      simp only [ruleAt, Bool.and_eq_true] at h2
      simp only [spec_RulesRight.l0]
      rw [if_pos (by omega), if_pos (by omega), rdRule, spec_l02Vni_eq, Option.bind_some, if_pos h2.1, spec_RangeRight_eq, Option.bind_some, h2.2]
      rfl
    · intro i hi hp
      by_cases ha : ruleAt xs i = true
      · simp only [ruleOk, ha, Bool.true_and] at hp
        simp only [ruleAt, Bool.and_eq_true] at ha
        -- a same one stands ahead: whatever comes behind
        have hin : ∀ d j, j + d = i → chk (fun j => !sameAt xs i j) d j = false → Ev (fun k => spec_RulesRight.l1 k xs (i : Int) (j : Int)) false := by
          intro d
          induction d with
          | zero => intro j _ hc; simp [chk] at hc
          | succ d ih =>
            intro j hj hc
            by_cases hs : sameAt xs i j = true
            · refine ev_step (f := fun k => some false) (Ev.now false) (fun k => ?_)
              simp only [sameAt, Bool.and_eq_true, decide_eq_true_eq] at hs
              simp only [spec_RulesRight.l1]
              rw [if_pos (by omega), if_pos (by omega), if_pos (by omega), if_pos (by omega), if_pos (by omega), rdRule, rdRule, if_pos hs.1, if_pos hs.2]
            · refine ev_step (f := fun k => spec_RulesRight.l1 k xs (i : Int) ((j + 1 : Nat) : Int)) (ih (j + 1) (by omega) (by simpa [chk, hs] using hc)) (fun k => ?_)
              simp only [sameAt, Bool.and_eq_true, decide_eq_true_eq] at hs
              simp only [spec_RulesRight.l1]
              rw [if_pos (by omega), if_pos (by omega), if_pos (by omega), if_pos (by omega), if_pos (by omega), rdRule, rdRule, wrap_up (by omega : j < xs.length) (by omega)]
              by_cases h1 : (nth z94 xs j).f1.f0 = (nth z94 xs i).f1.f0
              · rw [if_pos h1, if_neg (fun h2 => hs ⟨h1, h2⟩)]
              · rw [if_neg h1]
        refine ev_step (f := fun k => spec_RulesRight.j1 k xs (i : Int) false) (ev_step (f := fun k => spec_RulesRight.l1 k xs (i : Int) 0) (hin i 0 (by omega) hp) (fun k => by simp [spec_RulesRight.j1])) (fun k => ?_)
        simp only [spec_RulesRight.l0]
        rw [if_pos (by omega), if_pos (by omega), rdRule, spec_l02Vni_eq, Option.bind_some, if_pos ha.1, spec_RangeRight_eq, Option.bind_some, ha.2]
        rfl
      · refine ev_step (f := fun k => spec_RulesRight.j1 k xs (i : Int) true) (ev_step (f := fun _ => some false) (Ev.now false) (fun k => by simp [spec_RulesRight.j1])) (fun k => ?_)
        simp only [spec_RulesRight.l0]
        rw [if_pos (by omega), if_pos (by omega), rdRule, spec_l02Vni_eq, Option.bind_some]
        by_cases h1 : vniB (nth z94 xs i).f0 = true
        · rw [if_pos h1, spec_RangeRight_eq, Option.bind_some]
          simp only [ruleAt, h1, Bool.true_and] at ha
          simp [ha]
        · rw [if_neg h1]
    · refine ev_step (f := fun _ => some true) (Ev.now true) (fun k => ?_)
      simp only [spec_RulesRight.l0]
      rw [if_neg (by omega)]
  · simp only [if_pos (by omega : (xs.length : Int) > 30), decide_eq_false h, Bool.and_false]
    exact Ev.now false
theorem take_nth {α : Type} (z : α) (xs : List α) {i j : Nat} (h : j < i) (hi : i ≤ xs.length) : nth z (xs.take i) j = nth z xs j := by
  rw [nth_lt (by simp; omega), nth_lt (by omega)]
  simp
theorem impl_Rules_in (xs : List S94) (hn : xs.length ≤ 1048576) (i : Nat) (hi : i < xs.length) (v : Bool) (hv : Ev (fun k => if (i : Int) ≥ 30 then some false else impl_RulesRight.l0 k xs xs (xs.length : Int) ((i + 1 : Nat) : Int)) v) :
    ∀ d j, j + d = i → Ev (fun k => impl_RulesRight.l1 k xs (i : Int) xs (xs.length : Int) (i : Int) (xs.take i) ((xs.take i).length : Int) (j : Int) (nth z94 xs i).f0 (nth z94 xs i).f1.f0 (nth z94 xs i).f1.f1 (nth z94 xs i).f1.f2) (if chk (fun j => !sameAt xs i j) d j = true then v else false) := by
  have hl : (xs.take i).length = i := by simp; omega
  rw [hl]
  intro d
  induction d with
  | zero =>
    intro j hj
    obtain rfl : j = i := by omega
    refine ev_step (f := fun k => if (j : Int) ≥ 30 then some false else impl_RulesRight.l0 k xs xs (xs.length : Int) ((j + 1 : Nat) : Int)) (by simpa [chk] using hv) (fun k => ?_)
    simp only [impl_RulesRight.l1]
    rw [if_neg (by omega), wrap_up hi (by omega)]
  | succ d ih =>
    intro j hj
    have hnx := ih (j + 1) (by omega)
    have hr : rd_T94 (xs.take i) (j : Int) = nth z94 xs j := take_nth _ _ (by omega) (by omega)
    have hz := rangeOrd_zero (nth z94 xs j).f1.f0 (nth z94 xs j).f1.f1 (nth z94 xs i).f1.f0 (nth z94 xs i).f1.f1
    obtain ⟨K, hK⟩ := hnx
    simp only at hK
    refine ⟨K + 4, fun k hk => ?_⟩
    obtain ⟨k, rfl⟩ : ∃ m, k = m + 1 := ⟨k - 1, by omega⟩
    simp only [chk]
    simp only [impl_RulesRight.l1]
    rw [if_pos (by omega), if_pos (by omega), if_pos (by omega), hr, impl_Range_order_eq _ _ _ _ _ _ k (by omega), Option.bind_some, wrap_up (by omega : j < xs.length) (by omega)]
    by_cases hs : sameAt xs i j = true
    · rw [if_pos (hz.2 (by simpa [sameAt] using hs))]
      simp [hs]
    · rw [if_neg (fun h => hs (by simpa [sameAt] using hz.1 h)), hK k (by omega)]
      simp [hs]
theorem impl_RulesRight_ev (xs : List S94) (hn : xs.length ≤ 1048576) : Ev (fun k => impl_RulesRight.f k xs) (rulesRight xs) := by
  have key := ev_chk (fun k i => impl_RulesRight.l0 k xs xs (xs.length : Int) i) xs.length (fun i => ruleOk xs i && decide (i < 30)) true ?_ ?_ ?_ xs.length 0 (by omega)
  · rw [chk_and, chk_lt] at key
    simpa [rulesRight, impl_RulesRight.f] using key
  · intro i v hi hp hv
    simp only [ruleOk, Bool.and_eq_true, decide_eq_true_eq] at hp
    have hin := impl_Rules_in xs hn i hi v (by simpa [if_neg (by omega : ¬ (i : Int) ≥ 30)] using hv) i 0 (by omega)
    rw [if_pos hp.1.2] at hin
    have h2 := hp.1.1
    simp only [ruleAt, Bool.and_eq_true] at h2
    refine ev_step (f := fun k => impl_RulesRight.j1 k xs (i : Int) xs (xs.length : Int) (i : Int) false (nth z94 xs i).f0 (nth z94 xs i).f1.f0 (nth z94 xs i).f1.f1 (nth z94 xs i).f1.f2) (ev_step hin (fun k => ?_)) (fun k => ?_)
    · simp only [impl_RulesRight.j1]
      rw [if_neg (by simp), if_pos (by omega), if_pos (by omega)]
      rfl
    · simp only [impl_RulesRight.l0]
      rw [if_pos (by omega), if_pos (by omega), if_pos (by omega), rdRule, impl_isVni_eq, Option.bind_some, if_pos h2.1, impl_RangeRight_eq, Option.bind_some, h2.2]
      rfl
  · intro i hi hp
    by_cases ha : ruleAt xs i = true
    · have hv : Ev (fun k => if (i : Int) ≥ 30 then some false else impl_RulesRight.l0 k xs xs (xs.length : Int) ((i + 1 : Nat) : Int)) false ∨ chk (fun j => !sameAt xs i j) i 0 = false := by
        simp only [ruleOk, ha, Bool.true_and] at hp
        by_cases hc : chk (fun j => !sameAt xs i j) i 0 = true
        · left
          rw [hc] at hp
          simp at hp
          simp only [if_pos (by omega : (i : Int) ≥ 30)]
          exact Ev.now false
        · right
          simpa using hc
      simp only [ruleAt, Bool.and_eq_true] at ha
      have hin : Ev (fun k => impl_RulesRight.l1 k xs (i : Int) xs (xs.length : Int) (i : Int) (xs.take i) ((xs.take i).length : Int) 0 (nth z94 xs i).f0 (nth z94 xs i).f1.f0 (nth z94 xs i).f1.f1 (nth z94 xs i).f1.f2) false := by
        rcases hv with hv | hv
        · have := impl_Rules_in xs hn i hi false hv i 0 (by omega)
          simpa using this
        · have hl : (xs.take i).length = i := by simp; omega
          rw [hl]
          have hin : ∀ d j, j + d = i → chk (fun j => !sameAt xs i j) d j = false → Ev (fun k => impl_RulesRight.l1 k xs (i : Int) xs (xs.length : Int) (i : Int) (xs.take i) (i : Int) (j : Int) (nth z94 xs i).f0 (nth z94 xs i).f1.f0 (nth z94 xs i).f1.f1 (nth z94 xs i).f1.f2) false := by
            intro d
            induction d with
            | zero => intro j _ hc; simp [chk] at hc
            | succ d ih =>
              intro j hj hc
              have hr : rd_T94 (xs.take i) (j : Int) = nth z94 xs j := take_nth _ _ (by omega) (by omega)
              have hz := rangeOrd_zero (nth z94 xs j).f1.f0 (nth z94 xs j).f1.f1 (nth z94 xs i).f1.f0 (nth z94 xs i).f1.f1
              by_cases hs : sameAt xs i j = true
              · refine ⟨4, fun k hk => ?_⟩
                obtain ⟨k, rfl⟩ : ∃ m, k = m + 1 := ⟨k - 1, by omega⟩
                simp only [impl_RulesRight.l1]
                rw [if_pos (by omega), if_pos (by omega), if_pos (by omega), hr, impl_Range_order_eq _ _ _ _ _ _ k (by omega), Option.bind_some, if_pos (hz.2 (by simpa [sameAt] using hs))]
              · obtain ⟨K, hK⟩ := ih (j + 1) (by omega) (by simpa [chk, hs] using hc)
                simp only at hK
                refine ⟨K + 4, fun k hk => ?_⟩
                obtain ⟨k, rfl⟩ : ∃ m, k = m + 1 := ⟨k - 1, by omega⟩
                simp only [impl_RulesRight.l1]
                rw [if_pos (by omega), if_pos (by omega), if_pos (by omega), hr, impl_Range_order_eq _ _ _ _ _ _ k (by omega), Option.bind_some, if_neg (fun h => hs (by simpa [sameAt] using hz.1 h)), wrap_up (by omega : j < xs.length) (by omega), hK k (by omega)]
          exact hin i 0 (by omega) hv
      refine ev_step (f := fun k => impl_RulesRight.j1 k xs (i : Int) xs (xs.length : Int) (i : Int) false (nth z94 xs i).f0 (nth z94 xs i).f1.f0 (nth z94 xs i).f1.f1 (nth z94 xs i).f1.f2) (ev_step hin (fun k => ?_)) (fun k => ?_)
      · simp only [impl_RulesRight.j1]
        rw [if_neg (by simp), if_pos (by omega), if_pos (by omega)]
        rfl
      · simp only [impl_RulesRight.l0]
        rw [if_pos (by omega), if_pos (by omega), if_pos (by omega), rdRule, impl_isVni_eq, Option.bind_some, if_pos ha.1, impl_RangeRight_eq, Option.bind_some, ha.2]
        rfl
    · refine ev_step (f := fun k => impl_RulesRight.j1 k xs (i : Int) xs (xs.length : Int) (i : Int) true (nth z94 xs i).f0 (nth z94 xs i).f1.f0 (nth z94 xs i).f1.f1 (nth z94 xs i).f1.f2) (ev_step (f := fun _ => some false) (Ev.now false) (fun k => by simp [impl_RulesRight.j1])) (fun k => ?_)
      simp only [impl_RulesRight.l0]
      rw [if_pos (by omega), if_pos (by omega), if_pos (by omega), rdRule, impl_isVni_eq, Option.bind_some]
      by_cases h1 : vniB (nth z94 xs i).f0 = true
      · rw [if_pos h1, impl_RangeRight_eq, Option.bind_some]
        simp only [ruleAt, h1, Bool.true_and] at ha
        simp [ha]
      · rw [if_neg h1]
  · refine ev_step (f := fun _ => some true) (Ev.now true) (fun k => ?_)
    simp only [impl_RulesRight.l0]
    rw [if_neg (by omega)]
def toRule (x : S98) : S94 := ⟨x.f0, ⟨x.f1.f0, x.f1.f1, x.f1.f2⟩⟩
theorem laws_toRuleS_eq (xs : List S98) (hn : xs.length ≤ 1048576) (k : Nat) (hk : xs.length < k) : laws_toRuleS.f k xs = some (xs.map toRule) := by
  unfold laws_toRuleS.f
  rw [if_pos (by omega), if_pos (by omega), show (0 : Int) = ((0 : Nat) : Int) from rfl]
  rw [fill_loop 0 (fun k acc i => laws_toRuleS.l0 k xs acc i) xs.length (fun j => toRule (nth z98 xs j)) ?_ ?_ xs.length 0 k _ (by simp) (by omega) hk]
  · simp [map_range_getD]
  · intro k i acc _ hi hl
    simp only [laws_toRuleS.l0, laws_toRule.f, laws_toRange.f, Option.bind_some]
    rw [if_pos (by omega), if_pos (by omega), if_pos (by omega), wrap_up hi (by omega)]
    rfl
  · intro k acc _ hl
    simp only [laws_toRuleS.l0]
    rw [if_neg (by omega)]
theorem laws_eqRuleS_self (xs : List S94) (hn : xs.length ≤ 9223372036854775807) (k : Nat) (hk : xs.length < k) : laws_eqRuleS.f k xs xs = some true := by
  unfold laws_eqRuleS.f
  rw [if_pos rfl, show (0 : Int) = ((0 : Nat) : Int) from rfl]
  rw [chk_loop 0 (fun k i => laws_eqRuleS.l0 k xs xs i) xs.length (fun _ => true) true ?_ ?_ xs.length 0 k (by omega) hk]
  · simp only [Bool.and_true, Option.some.injEq, chk_iff]
    intros; trivial
  · intro k i _ hi
    simp only [laws_eqRuleS.l0, laws_eqRule.f, laws_eqRange.f, if_true, Option.bind_some]
    rw [if_pos (by omega), if_pos (by omega), if_pos (by omega), wrap_up hi hn]
  · intro k _
    simp only [laws_eqRuleS.l0]
    rw [if_neg (by omega)]

def roomStep (xs : List S94) (ip : Int) (i : Nat) (s : Int × Int) : (Int × Int) ⊕ Int :=
  .inl (if (nth z94 xs i).f1.f1 > s.2 ∧ coversB (nth z94 xs i).f1.f0 (nth z94 xs i).f1.f1 ip = true then ((nth z94 xs i).f0, (nth z94 xs i).f1.f1) else s)
def roomV (xs : List S94) (ip : Int) : Int := run (roomStep xs ip) (fun s => s.1) xs.length 0 (0, -1)
theorem rules_at (xs : List S94) (h : rulesRight xs = true) (i : Nat) (hi : i < xs.length) : rangeB (nth z94 xs i).f1.f0 (nth z94 xs i).f1.f1 (nth z94 xs i).f1.f2 = true := by
  simp only [rulesRight, Bool.and_eq_true, chk_iff] at h
  have := h.1 i (by omega) (by omega)
  simp only [ruleOk, ruleAt, Bool.and_eq_true] at this
  exact this.1.2
theorem spec_l17Room_eq (xs : List S94) (hn : xs.length ≤ 1048576) (h : rulesRight xs = true) (ip : Int) (k : Nat) (hk : xs.length < k) : spec_l17Room.f k xs ip = some (roomV xs ip) := by
  unfold spec_l17Room.f roomV
  refine run_loop 0 (fun k s i => spec_l17Room.l0 k xs ip s.1 s.2 i) xs.length (fun _ _ => True) _ _ ?_ ?_ ?_ ?_ xs.length 0 k (0, -1) trivial (by omega) (by omega)
  · intros; trivial
  · intro k i s s' _ hi _ hst
    simp only [roomStep, Sum.inl.injEq] at hst
    subst hst
    simp only [spec_l17Room.l0]
    rw [if_pos (by omega), if_pos (by omega), rdRule, wrap_up hi (by omega), spec_l16Covers_eq (rules_at xs h i hi), Option.bind_some]
    by_cases h1 : (nth z94 xs i).f1.f1 > s.2 <;> by_cases h2 : coversB (nth z94 xs i).f1.f0 (nth z94 xs i).f1.f1 ip = true <;> simp [h1, h2]
  · intro k i s r _ hi _ hst
    simp [roomStep] at hst
  · intro k s _ _
    simp only [spec_l17Room.l0]
    rw [if_neg (by omega)]
theorem impl_roomOf_eq (xs : List S94) (hn : xs.length ≤ 1048576) (h : rulesRight xs = true) (ip : Int) (k : Nat) (hk : xs.length < k) : impl_roomOf.f k xs ip = some (roomV xs ip) := by
  unfold impl_roomOf.f roomV
  refine run_loop 0 (fun k s i => impl_roomOf.l0 k ip s.1 s.2 xs (xs.length : Int) i) xs.length (fun _ _ => True) _ _ ?_ ?_ ?_ ?_ xs.length 0 k (0, -1) trivial (by omega) (by omega)
  · intros; trivial
  · intro k i s s' _ hi _ hst
    simp only [roomStep, Sum.inl.injEq] at hst
    subst hst
    simp only [impl_roomOf.l0]
    rw [if_pos (by omega), if_pos (by omega), if_pos (by omega), rdRule, wrap_up hi (by omega), impl_Range_covers_eq (rules_at xs h i hi), Option.bind_some]
    by_cases h1 : (nth z94 xs i).f1.f1 > s.2 <;> by_cases h2 : coversB (nth z94 xs i).f1.f0 (nth z94 xs i).f1.f1 ip = true <;> simp [h1, h2]
  · intro k i s r _ hi _ hst
    simp [roomStep] at hst
  · intro k s _ _
    simp only [impl_roomOf.l0]
    rw [if_neg (by omega)]
theorem FnExactRoomOf : ∀ (x0 : List S98) (x1 : Int), (x0.length ≤ maxLen ∧ ∀ y ∈ x0, (Lit.int .i64 y.f0).wf = true ∧ (Lit.int .i64 y.f1.f0).wf = true ∧ (Lit.int .i64 y.f1.f1).wf = true ∧ (Lit.int .i64 y.f1.f2).wf = true) → (Lit.int .i64 x1).wf = true → ∃ k, laws_FnExactRoomOf.f k x0 x1 = some true := by
  intro xs ip ⟨hl, _⟩ _
  have hl' : xs.length ≤ 9223372036854775807 := hl
  unfold laws_FnExactRoomOf.f laws_szRuleS.f
  rw [sz_wrap hl']
  by_cases h : (1048576 : Int) - xs.length < 0
  · refine ⟨0, ?_⟩
    rw [if_pos h]; rfl
  · have hx : (xs.map toRule).length = xs.length := by simp
    obtain ⟨K1, h1⟩ := spec_RulesRight_ev (xs.map toRule) (by omega)
    obtain ⟨K2, h2⟩ := impl_RulesRight_ev (xs.map toRule) (by omega)
    simp only at h1 h2
    refine ⟨xs.length + 1 + K1 + K2, ?_⟩
    have hs : ∃ r, spec_RoomOf.f (xs.length + 1 + K1 + K2) (xs.map toRule) ip = some r ∧ impl_RoomOf.f (xs.length + 1 + K1 + K2) (xs.map toRule) ip = some r := by
      unfold spec_RoomOf.f impl_RoomOf.f
      rw [h1 _ (by omega), h2 _ (by omega), spec_l02Ip_eq, impl_isIp_eq]
      simp only [Option.bind_some]
      by_cases hr : rulesRight (xs.map toRule) = true
      · rw [if_pos hr, if_pos hr]
        by_cases hi : ipB ip = true
        · rw [if_pos hi, if_pos hi, spec_l17Room_eq _ (by omega) hr ip _ (by omega), impl_roomOf_eq _ (by omega) hr ip _ (by omega)]
          exact ⟨_, rfl, rfl⟩
        · rw [if_neg hi, if_neg hi]
          exact ⟨_, rfl, rfl⟩
      · rw [if_neg hr, if_neg hr]
        exact ⟨_, rfl, rfl⟩
    obtain ⟨r, hs1, hs2⟩ := hs
    rw [if_neg h]
    simp only [Option.bind_some]
    rw [if_neg h, laws_toRuleS_eq xs (by omega) _ (by omega)]
    simp only [Option.bind_some]
    rw [hs1]
    simp only [Option.bind_some]
    rw [hs2]
    simp only [Option.bind_some, if_true]
    rw [laws_eqRuleS_self _ (by omega) _ (by omega)]
    rfl

end Go.Proofs.Yteiablhopiobbaa.fnExactRoomOfRow.Pure
