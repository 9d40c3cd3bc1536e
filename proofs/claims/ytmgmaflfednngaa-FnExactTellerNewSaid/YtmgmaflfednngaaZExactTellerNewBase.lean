-- A copy, made by trim.py (its own words shortened): not an official print.
import Derived.Test.YtmgmaflfednngaaRows
import Derived.Test.YtmgmaflfednngaaZExactTellerNewWWords
import Derived.Test.YtmgmaflfednngaaZExactTellerNewWLast
import Derived.Test.YtmgmaflfednngaaZExactTellerNewWMore
set_option linter.unusedSimpArgs false
set_option linter.unusedVariables false
namespace Go.Proofs.Ytmgmaflfednngaa.Base
open Go.RowKit Go.Proofs.YtmgmaflfednngaaW.PrintWords Go.Proofs.YtmgmaflfednngaaW.PrintLast
def inB (a b c : Int) : Bool := decide (b ≤ a) && decide (a ≤ c)
def macB (a : Int) : Bool := inB a 0 281474976710655
def ipB (a : Int) : Bool := inB a 0 4294967295
def vniB (a : Int) : Bool := inB a 1 16777215
def timeB (a : Int) : Bool := inB a 0 1000000
def houseB (a : Int) : Bool := inB a 1 4
def groupB (a : Int) : Bool := macB a && (Go.bits .and .i64 (a / 1099511627776) 1 == 1)
def run {σ β : Type} (step : Nat → σ → σ ⊕ β) (fin : σ → β) : Nat → Nat → σ → β
  | 0, _, s => fin s
  | d + 1, i, s => match step i s with
    | .inl s' => run step fin d (i + 1) s'
    | .inr r => r
def chk (p : Nat → Bool) : Nat → Nat → Bool
  | 0, _ => true
  | d + 1, i => p i && chk p d (i + 1)
theorem chk_iff (p : Nat → Bool) : ∀ d i, chk p d i = true ↔ ∀ j, i ≤ j → j < i + d → p j = true
  | 0, i => by simp [chk]; intro j h1 h2; omega
  | d + 1, i => by
    simp only [chk, Bool.and_eq_true, chk_iff p d (i + 1)]
    constructor
    · rintro ⟨h1, h2⟩ j h3 h4
      rcases Nat.eq_or_lt_of_le h3 with rfl | h5
      · exact h1
      · exact h2 j (by omega) (by omega)
    · intro h
      exact ⟨h i (by omega) (by omega), fun j h1 h2 => h j (by omega) (by omega)⟩
theorem chk_loop (c : Nat) (L : Nat → Int → Option Bool) (n : Nat) (p : Nat → Bool) (fin : Bool)
    (h1 : ∀ k (i : Nat), c ≤ k → i < n → L (k + 1) (i : Int) = if p i = true then L k ((i + 1 : Nat) : Int) else some false)
    (h3 : ∀ k, c ≤ k → L (k + 1) (n : Int) = some fin) : ∀ (d i k : Nat), i + d = n → d + c < k → L k (i : Int) = some (chk p d i && fin) := by
  intro d
  induction d with
  | zero =>
    intro i k hd hk
    obtain ⟨k, rfl⟩ : ∃ m, k = m + 1 := ⟨k - 1, by omega⟩
    obtain rfl : i = n := by omega
    simpa [chk] using h3 k (by omega)
  | succ d ih =>
    intro i k hd hk
    obtain ⟨k, rfl⟩ : ∃ m, k = m + 1 := ⟨k - 1, by omega⟩
    rw [h1 k i (by omega) (by omega)]
    simp only [chk]
    cases p i with
    | false => simp
    | true => simpa using ih (i + 1) k (by omega) (by omega)
def nth {α : Type} (z : α) (xs : List α) (j : Nat) : α := xs.getD j z
theorem nth_lt {α : Type} {z : α} {xs : List α} {j : Nat} (h : j < xs.length) : nth z xs j = xs[j] := by simp [nth, List.getD_eq_getElem?_getD, h]
theorem nth_mem {α : Type} {z : α} {xs : List α} {j : Nat} (h : j < xs.length) : nth z xs j ∈ xs := by rw [nth_lt h]; exact List.getElem_mem h
theorem wrap_up {i n : Nat} (h : i < n) (hn : n ≤ 9223372036854775807) : wrap64 ((i : Int) + 1) = ((i + 1 : Nat) : Int) := by
  unfold wrap64; omega
theorem wrap_down {i : Nat} (h : 0 < i) (hn : i ≤ 9223372036854775807) : wrap64 ((i : Int) - 1) = ((i - 1 : Nat) : Int) := by
  unfold wrap64; omega
def firstNZ : List Int → Int
  | [] => 0
  | x :: xs => if x = 0 then firstNZ xs else x
def cmpI (a b : Int) : Int := if a < b then -1 else if a > b then 1 else 0
theorem drop_nth {α : Type} (z : α) {xs : List α} {i : Nat} (h : i < xs.length) : xs.drop i = nth z xs i :: xs.drop (i + 1) := by
  rw [nth_lt h]; exact List.drop_eq_getElem_cons h
theorem strOfNums_size (l : List Int) : (strOfNums l).size = l.length := by simp [strOfNums, ByteArray.size]
def PredK {α : Type} (P : Go.Program) (g : Nat) (cb : Array Value) (k : Kd α) (p : α → Bool) (w : World) : Prop :=
  ∀ (W : World) (x : α) (cs : List Value), Below w.heap.size w W → k.K W x cs → Calls P g (#[.agg cs.toArray] ++ cb) W fun e w' => e = .returned (.bool (p x)) ∧ Below w.heap.size w w'
def idxOf {α : Type} (p : α → Bool) : List α → Int → Int
  | [], _ => -1
  | x :: xs, i => if p x = true then i else idxOf p xs (i + 1)
theorem idxOf_drop {α : Type} (z : α) (p : α → Bool) (l : List α) (k : Nat) (hk : k ≤ l.length) (h : ∀ j, j < k → p (nth z l j) = false) : idxOf p l 0 = idxOf p (l.drop k) k := by
  induction k with
  | zero => rfl
  | succ k ih =>
    rw [ih (by omega) (fun j hj => h j (by omega)), drop_nth z (by omega : k < l.length), idxOf, if_neg (by rw [h k (by omega)]; simp)]
    rfl
theorem idxOf_hit {α : Type} (z : α) (p : α → Bool) (l : List α) (k : Nat) (hk : k < l.length) (h : ∀ j, j < k → p (nth z l j) = false) (hp : p (nth z l k) = true) : idxOf p l 0 = k := by
  rw [idxOf_drop z p l k (by omega) h, drop_nth z hk, idxOf, if_pos hp]
theorem idxOf_miss {α : Type} (z : α) (p : α → Bool) (l : List α) (h : ∀ j, j < l.length → p (nth z l j) = false) : idxOf p l 0 = -1 := by
  rw [idxOf_drop z p l l.length (by omega) h, List.drop_length, idxOf]
theorem idxOf_cases {α : Type} (z : α) (p : α → Bool) : ∀ (l : List α) (i : Nat), (idxOf p l i = -1 ∧ l.find? p = none) ∨ ∃ k, k < l.length ∧ idxOf p l i = ((i + k : Nat) : Int) ∧ l.find? p = some (nth z l k)
  | [], i => .inl ⟨rfl, rfl⟩
  | x :: xs, i => by
    by_cases h : p x = true
    · exact .inr ⟨0, by simp, by simp [idxOf, h], by simp [h, nth]⟩
    · have hx : p x = false := by simpa using h
      rcases idxOf_cases z p xs (i + 1) with ⟨h1, h2⟩ | ⟨k, h1, h2, h3⟩
      · exact .inl ⟨by simpa [idxOf, hx] using h1, by simpa [hx] using h2⟩
      · refine .inr ⟨k + 1, by simpa using h1, ?_, ?_⟩
        · have : idxOf p (x :: xs) i = idxOf p xs ((i + 1 : Nat) : Int) := by simp [idxOf, hx]
          rw [this, h2]
          congr 1
          omega
        · simpa [hx, nth] using h3
theorem mark_loop {β : Type} (c s : Nat) (L : Nat → List β → Int → Int → Option (Int × List β)) (n : Nat) (f : Int → β) (B : Int)
    (h1 : ∀ k (i : Nat) acc (m : Int), c ≤ k → i < n → acc.length = n → 0 ≤ m → m + s ≤ B → L (k + 1) acc m (i : Int) = L k (acc.set i (f m)) (m + s) ((i + 1 : Nat) : Int))
    (h3 : ∀ k acc (m : Int), c ≤ k → acc.length = n → L (k + 1) acc m (n : Int) = some (m, acc)) :
    ∀ (d i k : Nat) (acc : List β) (m : Int), acc.length = n → i + d = n → d + c < k → 0 ≤ m → m + s * d ≤ B → L k acc m (i : Int) = some (m + s * d, acc.take i ++ (List.range d).map (fun j : Nat => f (m + s * (j : Int)))) := by
  intro d
  induction d with
  | zero =>
    intro i k acc m hl hd hk _ _
    obtain ⟨k, rfl⟩ : ∃ m, k = m + 1 := ⟨k - 1, by omega⟩
    obtain rfl : i = n := by omega
    rw [h3 k acc m (by omega) hl]
    simp [List.take_of_length_le (Nat.le_of_eq hl)]
  | succ d ih =>
    intro i k acc m hl hd hk hm hB
    obtain ⟨k, rfl⟩ : ∃ m, k = m + 1 := ⟨k - 1, by omega⟩
    have e1 : (s : Int) * ((d + 1 : Nat) : Int) = s * d + s := by rw [Int.natCast_add, Int.mul_add]; simp
    have e0 : (0 : Int) ≤ s * d := Int.mul_nonneg (by omega) (by omega)
    rw [h1 k i acc m (by omega) (by omega) hl hm (by omega), ih (i + 1) k _ _ (by simp [hl]) (by omega) (by omega) (by omega) (by omega)]
    rw [e1]
    congr 1
    congr 1
    · omega
    · rw [List.range_succ_eq_map, List.map_cons, List.map_map]
      have e : (acc.set i (f m)).take (i + 1) = acc.take i ++ [f m] := by
        rw [List.take_succ_eq_append_getElem (by simp; omega), List.take_set_of_le (Nat.le_refl _)]
        simp
      rw [e, List.append_assoc]
      congr 1
      simp only [List.singleton_append]
      congr 1
      · simp
      · apply List.map_congr_left
        intro j _
        simp only [Function.comp]
        congr 1
        rw [Nat.succ_eq_add_one, Int.natCast_add, Int.mul_add]
        simp
        omega
def marked {β : Type} (s : Nat) (f : Int → β) (m : Int) (n : Nat) : List β := (List.range n).map (fun j : Nat => f (m + s * (j : Int)))
theorem marked_length {β : Type} (s : Nat) (f : Int → β) (m : Int) (n : Nat) : (marked s f m n).length = n := by simp [marked]
theorem marked_nth {β : Type} (z : β) {s : Nat} {f : Int → β} {m : Int} {n i : Nat} (h : i < n) : nth z (marked s f m n) i = f (m + s * i) := by
  rw [nth_lt (by simpa [marked] using h)]
  simp [marked]
theorem mark_all {β : Type} (c s : Nat) (L : Nat → List β → Int → Int → Option (Int × List β)) (xs : List β) (f : Int → β) (B : Int)
    (h1 : ∀ k (i : Nat) acc (m : Int), c ≤ k → i < xs.length → acc.length = xs.length → 0 ≤ m → m + s ≤ B → L (k + 1) acc m (i : Int) = L k (acc.set i (f m)) (m + s) ((i + 1 : Nat) : Int))
    (h3 : ∀ k acc (m : Int), c ≤ k → acc.length = xs.length → L (k + 1) acc m (xs.length : Int) = some (m, acc))
    (k : Nat) (m : Int) (hk : xs.length + c < k) (hm : 0 ≤ m) (hB : m + s * xs.length ≤ B) : L k xs m 0 = some (m + s * xs.length, marked s f m xs.length) := by
  have := mark_loop c s L xs.length f B h1 h3 xs.length 0 k xs m rfl (by omega) hk hm hB
  simpa [marked] using this
theorem held_loop {β : Type} (z : β) (c s : Nat) (f : Int → β) (L : Nat → Int → Int → Option Int) (n : Nat) (m : Int) (B : Int)
    (h1 : ∀ k (i : Nat) (q : Int), c ≤ k → i < n → q = m + s * i → 0 ≤ q → q + s ≤ B → L (k + 1) q (i : Int) = L k (q + s) ((i + 1 : Nat) : Int))
    (h3 : ∀ k (q : Int), c ≤ k → L (k + 1) q (n : Int) = some q) (hm : 0 ≤ m) (hB : m + s * n ≤ B) :
    ∀ (d i k : Nat), i + d = n → d + c < k → L k (m + s * i) (i : Int) = some (m + s * n) := by
  intro d
  induction d with
  | zero =>
    intro i k hd hk
    obtain ⟨k, rfl⟩ : ∃ m, k = m + 1 := ⟨k - 1, by omega⟩
    obtain rfl : i = n := by omega
    exact h3 k _ (by omega)
  | succ d ih =>
    intro i k hd hk
    obtain ⟨k, rfl⟩ : ∃ m, k = m + 1 := ⟨k - 1, by omega⟩
    have e1 : (s : Int) * ((i + 1 : Nat) : Int) = s * i + s := by rw [Int.natCast_add, Int.mul_add]; simp
    have e0 : (0 : Int) ≤ s * i := Int.mul_nonneg (by omega) (by omega)
    have e2 : (s : Int) * ((i + 1 : Nat) : Int) ≤ s * n := Int.mul_le_mul_of_nonneg_left (by omega) (by omega)
    rw [h1 k i _ (by omega) (by omega) rfl (by omega) (by omega)]
    have := ih (i + 1) k (by omega) (by omega)
    rw [e1] at this
    rwa [show m + (s : Int) * i + s = m + (s * i + s) from by omega]
end Go.Proofs.Ytmgmaflfednngaa.Base
