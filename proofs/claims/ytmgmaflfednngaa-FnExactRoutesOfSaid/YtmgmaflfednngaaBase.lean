/- Plain words on numbers and lists, without any program. -/
import Derived.Test.YtmgmaflfednngaaRows
import Derived.Test.YtmgmaflfednngaaWWords
import Derived.Test.YtmgmaflfednngaaWLast
import Derived.Test.YtmgmaflfednngaaWMore
set_option linter.unusedSimpArgs false
set_option linter.unusedVariables false
namespace Go.Proofs.Ytmgmaflfednngaa.Base
open Go.RowKit Go.Proofs.YtmgmaflfednngaaW.PrintWords Go.Proofs.YtmgmaflfednngaaW.PrintLast

/-- low ≤ n ≤ high, as a Bool. -/
def inB (a b c : Int) : Bool := decide (b ≤ a) && decide (a ≤ c)
def macB (a : Int) : Bool := inB a 0 281474976710655
def ipB (a : Int) : Bool := inB a 0 4294967295
def vniB (a : Int) : Bool := inB a 1 16777215
def timeB (a : Int) : Bool := inB a 0 1000000
def houseB (a : Int) : Bool := inB a 1 4
def groupB (a : Int) : Bool := macB a && (Go.bits .and .i64 (a / 1099511627776) 1 == 1)
def guestB (a b c d e f : Int) : Bool := vniB a && (macB b && !groupB b) && ipB c && inB d 1 4 && timeB e && timeB f
theorem iteB {α : Type} (c : Bool) (x y : α) : (if c = true then x else y) = bif c then x else y := by cases c <;> rfl
theorem some_ite (c b : Bool) : (if c = true then some b else some false) = some (c && b) := by cases c <;> rfl
theorem some_iteN (c b : Bool) : (if c = true then some false else some b) = some (!c && b) := by cases c <;> rfl

/-! A loop that counts up from 0 to n over a state: what it comes to. -/
def run {σ β : Type} (step : Nat → σ → σ ⊕ β) (fin : σ → β) : Nat → Nat → σ → β
  | 0, _, s => fin s
  | d + 1, i, s => match step i s with
    | .inl s' => run step fin d (i + 1) s'
    | .inr r => r
theorem run_loop {σ β : Type} (c : Nat) (L : Nat → σ → Int → Option β) (n : Nat) (I : Nat → σ → Prop) (step : Nat → σ → σ ⊕ β) (fin : σ → β)
    (hI : ∀ i s s', i < n → I i s → step i s = .inl s' → I (i + 1) s')
    (h1 : ∀ k (i : Nat) s s', c ≤ k → i < n → I i s → step i s = .inl s' → L (k + 1) s (i : Int) = L k s' ((i + 1 : Nat) : Int))
    (h2 : ∀ k (i : Nat) s r, c ≤ k → i < n → I i s → step i s = .inr r → L (k + 1) s (i : Int) = some r)
    (h3 : ∀ k s, c ≤ k → I n s → L (k + 1) s (n : Int) = some (fin s)) :
    ∀ (d i k : Nat) (s : σ), I i s → i + d = n → d + c < k → L k s (i : Int) = some (run step fin d i s) := by
  intro d
  induction d with
  | zero =>
    intro i k s hs hd hk
    obtain ⟨k, rfl⟩ : ∃ m, k = m + 1 := ⟨k - 1, by omega⟩
    obtain rfl : i = n := by omega
    exact h3 k s (by omega) hs
  | succ d ih =>
    intro i k s hs hd hk
    obtain ⟨k, rfl⟩ : ∃ m, k = m + 1 := ⟨k - 1, by omega⟩
    simp only [run]
    cases hst : step i s with
    | inl s' =>
      rw [h1 k i s s' (by omega) (by omega) hs hst]
      exact ih (i + 1) k s' (hI i s s' (by omega) hs hst) (by omega) (by omega)
    | inr r => rw [h2 k i s r (by omega) (by omega) hs hst]
/-- A test of each place. -/
def chk (p : Nat → Bool) : Nat → Nat → Bool
  | 0, _ => true
  | d + 1, i => p i && chk p d (i + 1)
theorem chk_iff (p : Nat → Bool) : ∀ d i, chk p d i = true ↔ ∀ j, i ≤ j → j < i + d → p j = true
  | 0, i => by simp [chk]; intro j h1 h2; omega
  | d + 1, i => by
    simp only [chk, Bool.and_eq_true, chk_iff p d (i + 1)]
    constructor
    · rintro ⟨h1, h2⟩ j h3 h4
      rcases Nat.eq_or_lt_of_le h3 with rfl | h5
      · exact h1
      · exact h2 j (by omega) (by omega)
    · intro h
      exact ⟨h i (by omega) (by omega), fun j h1 h2 => h j (by omega) (by omega)⟩
theorem chk_congr {p q : Nat → Bool} : ∀ d i, (∀ j, i ≤ j → j < i + d → p j = q j) → chk p d i = chk q d i
  | 0, _, _ => rfl
  | d + 1, i, h => by
    simp only [chk]
    rw [h i (by omega) (by omega), chk_congr d (i + 1) (fun j h1 h2 => h j (by omega) (by omega))]
theorem chk_loop (c : Nat) (L : Nat → Int → Option Bool) (n : Nat) (p : Nat → Bool) (fin : Bool)
    (h1 : ∀ k (i : Nat), c ≤ k → i < n → L (k + 1) (i : Int) = if p i = true then L k ((i + 1 : Nat) : Int) else some false)
    (h3 : ∀ k, c ≤ k → L (k + 1) (n : Int) = some fin) : ∀ (d i k : Nat), i + d = n → d + c < k → L k (i : Int) = some (chk p d i && fin) := by
  intro d
  induction d with
  | zero =>
    intro i k hd hk
    obtain ⟨k, rfl⟩ : ∃ m, k = m + 1 := ⟨k - 1, by omega⟩
    obtain rfl : i = n := by omega
    simpa [chk] using h3 k (by omega)
  | succ d ih =>
    intro i k hd hk
    obtain ⟨k, rfl⟩ : ∃ m, k = m + 1 := ⟨k - 1, by omega⟩
    rw [h1 k i (by omega) (by omega)]
    simp only [chk]
    cases p i with
    | false => simp
    | true => simpa using ih (i + 1) k (by omega) (by omega)
/-- What stands at a place, z behind the end. -/
def nth {α : Type} (z : α) (xs : List α) (j : Nat) : α := xs.getD j z
theorem nth_lt {α : Type} {z : α} {xs : List α} {j : Nat} (h : j < xs.length) : nth z xs j = xs[j] := by simp [nth, List.getD_eq_getElem?_getD, h]
theorem nth_mem {α : Type} {z : α} {xs : List α} {j : Nat} (h : j < xs.length) : nth z xs j ∈ xs := by rw [nth_lt h]; exact List.getElem_mem h
theorem chk_all {α : Type} (p : α → Bool) (z : α) (xs : List α) : chk (fun j => p (nth z xs j)) xs.length 0 = xs.all p := by
  rw [Bool.eq_iff_iff, chk_iff, List.all_eq_true]
  constructor
  · intro h x hx
    obtain ⟨j, hj, rfl⟩ := List.getElem_of_mem hx
    have := h j (by omega) (by omega)
    rwa [nth_lt hj] at this
  · intro h j _ hj
    have hj' : j < xs.length := by omega
    exact h _ (nth_mem hj')
/-- A loop that fills a row. -/
theorem fill_loop {β : Type} (c : Nat) (L : Nat → List β → Int → Option (List β)) (n : Nat) (f : Nat → β)
    (h1 : ∀ k (i : Nat) acc, c ≤ k → i < n → acc.length = n → L (k + 1) acc (i : Int) = L k (acc.set i (f i)) ((i + 1 : Nat) : Int))
    (h3 : ∀ k acc, c ≤ k → acc.length = n → L (k + 1) acc (n : Int) = some acc) :
    ∀ (d i k : Nat) (acc : List β), acc.length = n → i + d = n → d + c < k → L k acc (i : Int) = some (acc.take i ++ (List.range d).map (fun j => f (i + j))) := by
  intro d
  induction d with
  | zero =>
    intro i k acc hl hd hk
    obtain ⟨k, rfl⟩ : ∃ m, k = m + 1 := ⟨k - 1, by omega⟩
    obtain rfl : i = n := by omega
    rw [h3 k acc (by omega) hl]
    simp [List.take_of_length_le (Nat.le_of_eq hl)]
  | succ d ih =>
    intro i k acc hl hd hk
    obtain ⟨k, rfl⟩ : ∃ m, k = m + 1 := ⟨k - 1, by omega⟩
    rw [h1 k i acc (by omega) (by omega) hl, ih (i + 1) k _ (by simp [hl]) (by omega) (by omega)]
    congr 1
    rw [List.range_succ_eq_map, List.map_cons, List.map_map]
    have e : (acc.set i (f i)).take (i + 1) = acc.take i ++ [f i] := by
      rw [List.take_succ_eq_append_getElem (by simp; omega), List.take_set_of_le (Nat.le_refl _)]
      simp
    rw [e, List.append_assoc]
    congr 1
    simp only [List.singleton_append, Nat.add_zero]
    congr 1
    apply List.map_congr_left
    intro j _
    simp [Nat.add_assoc, Nat.add_comm 1 j]
theorem map_range_getD {α β : Type} (g : α → β) (z : α) (xs : List α) : (List.range xs.length).map (fun j => g (nth z xs j)) = xs.map g := by
  apply List.ext_getElem
  · simp
  · intro i h1 h2
    have : i < xs.length := by simpa using h2
    simp [nth_lt this]
theorem wrap_up {i n : Nat} (h : i < n) (hn : n ≤ 9223372036854775807) : wrap64 ((i : Int) + 1) = ((i + 1 : Nat) : Int) := by
  unfold wrap64; omega
theorem wrap_down {i : Nat} (h : 0 < i) (hn : i ≤ 9223372036854775807) : wrap64 ((i : Int) - 1) = ((i - 1 : Nat) : Int) := by
  unfold wrap64; omega
theorem sz_wrap {n : Nat} (h : n ≤ 9223372036854775807) : wrap64 (1048576 - (n : Int)) = 1048576 - (n : Int) := by
  unfold wrap64; omega
/-- The first number that is not 0, else 0. -/
def firstNZ : List Int → Int
  | [] => 0
  | x :: xs => if x = 0 then firstNZ xs else x
def cmpI (a b : Int) : Int := if a < b then -1 else if a > b then 1 else 0
theorem drop_nth {α : Type} (z : α) {xs : List α} {i : Nat} (h : i < xs.length) : xs.drop i = nth z xs i :: xs.drop (i + 1) := by
  rw [nth_lt h]; exact List.drop_eq_getElem_cons h

/-! Numbers in bytes, the highest first. -/
def bigL : Nat → Int → List Int
  | 0, _ => []
  | m + 1, n => bigL m (n / 256) ++ [n % 256]
theorem bigL_len : ∀ m n, (bigL m n).length = m
  | 0, _ => rfl
  | m + 1, n => by simp [bigL, bigL_len m]
def bigS (m : Nat) (n : Int) : ByteArray := strOfNums (bigL m n)
theorem strOfNums_size (l : List Int) : (strOfNums l).size = l.length := by simp [strOfNums, ByteArray.size]
theorem bigS_size (m : Nat) (n : Int) : (bigS m n).size = m := by rw [bigS, strOfNums_size, bigL_len]
theorem ba_ext {a b : ByteArray} (h : a.data.toList = b.data.toList) : a = b := by
  obtain ⟨⟨x⟩⟩ := a
  obtain ⟨⟨y⟩⟩ := b
  simp at h
  subst h
  rfl
theorem ba_append (a b : ByteArray) : (a ++ b).data.toList = a.data.toList ++ b.data.toList := by simp [ByteArray.data_append]
theorem strOfNums_append (a b : List Int) : strOfNums (a ++ b) = strOfNums a ++ strOfNums b := by
  apply ba_ext
  rw [ba_append]
  simp [strOfNums]
theorem set_drop {α : Type} (acc : List α) (m : Nat) (v : α) (h : m < acc.length) : (acc.set m v).drop m = v :: acc.drop (m + 1) := by
  rw [List.drop_eq_getElem_cons (by simpa using h)]
  simp
  rw [List.drop_set_of_lt (by omega)]
theorem and255 {x : Int} (h0 : 0 ≤ x) (h1 : x < 9223372036854775808) : Go.bits .and .i64 x 255 = x % 256 :=
  Go.bits_mask .i64 63 (by decide) (fun n a b => by rw [Go.IntKind.wrap_i64]; omega) 8 (by decide) x h0 h1

/-! Loops whose rounds take rounds of their own: 'from some number of rounds on'. -/
theorem ev_chk (L : Nat → Int → Option Bool) (n : Nat) (p : Nat → Bool) (fin : Bool)
    (h1 : ∀ i v, i < n → p i = true → Ev (fun k => L k ((i + 1 : Nat) : Int)) v → Ev (fun k => L k (i : Int)) v)
    (h2 : ∀ i, i < n → p i = false → Ev (fun k => L k (i : Int)) false) (h3 : Ev (fun k => L k (n : Int)) fin) :
    ∀ d i, i + d = n → Ev (fun k => L k (i : Int)) (chk p d i && fin) := by
  intro d
  induction d with
  | zero =>
    intro i hi
    obtain rfl : i = n := by omega
    simpa [chk] using h3
  | succ d ih =>
    intro i hi
    simp only [chk]
    cases hp : p i with
    | false => simpa using h2 i (by omega) hp
    | true => simpa using h1 i _ (by omega) hp (ih (i + 1) (by omega))
theorem ev_run {σ β : Type} (L : Nat → σ → Int → Option β) (n : Nat) (I : Nat → σ → Prop) (step : Nat → σ → σ ⊕ β) (fin : σ → β)
    (hI : ∀ i s s', i < n → I i s → step i s = .inl s' → I (i + 1) s')
    (h1 : ∀ (i : Nat) s s' v, i < n → I i s → step i s = .inl s' → Ev (fun k => L k s' ((i + 1 : Nat) : Int)) v → Ev (fun k => L k s (i : Int)) v)
    (h2 : ∀ (i : Nat) s r, i < n → I i s → step i s = .inr r → Ev (fun k => L k s (i : Int)) r)
    (h3 : ∀ s, I n s → Ev (fun k => L k s (n : Int)) (fin s)) :
    ∀ (d i : Nat) (s : σ), I i s → i + d = n → Ev (fun k => L k s (i : Int)) (run step fin d i s) := by
  intro d
  induction d with
  | zero =>
    intro i s hs hd
    obtain rfl : i = n := by omega
    exact h3 s hs
  | succ d ih =>
    intro i s hs hd
    simp only [run]
    cases hst : step i s with
    | inl s' => exact h1 i s s' _ (by omega) hs hst (ih (i + 1) s' (hI i s s' (by omega) hs hst) (by omega))
    | inr r => exact h2 i s r (by omega) hs hst
theorem ev_of {α : Type} {g : Nat → Option α} {r : α} (c : Nat) (h : ∀ k, c < k → g k = some r) : Ev g r := ⟨c + 1, fun k hk => h k (by omega)⟩
theorem ev_now {α : Type} {g : Nat → Option α} {r : α} (h : ∀ k, g k = some r) : Ev g r := ⟨0, fun k _ => h k⟩
theorem ev_step {α : Type} {g f : Nat → Option α} {r : α} (k : Ev f r) (h : ∀ k, g (k + 1) = f k) : Ev g r := Ev.step h k
theorem chk_and (p q : Nat → Bool) : ∀ d i, chk (fun j => p j && q j) d i = (chk p d i && chk q d i)
  | 0, _ => rfl
  | d + 1, i => by
    simp only [chk, chk_and p q d (i + 1)]
    cases p i <;> cases q i <;> cases chk p d (i + 1) <;> simp
theorem chk_lt (c : Nat) : ∀ d, chk (fun j => decide (j < c)) d 0 = decide (d ≤ c) := by
  intro d
  rw [Bool.eq_iff_iff, chk_iff]
  simp only [decide_eq_true_eq]
  constructor
  · intro h
    rcases Nat.eq_zero_or_pos d with h0 | h0
    · omega
    · have := h (d - 1) (by omega) (by omega)
      omega
  · intro h j _ hj
    omega

/-! Ranges of addresses. -/
def sizeB (b : Int) : Int := 2 ^ (32 - b).toNat
theorem shl_pow : ∀ n : Fin 33, shl .i64 1 ((n : Nat) : Int) = 2 ^ (n : Nat) := by decide +kernel
theorem size_eq {b : Int} (h0 : 0 ≤ b) (h1 : b ≤ 32) : shl .i64 1 (wrap64 (32 - b)) = sizeB b := by
  obtain ⟨n, hn⟩ : ∃ n : Nat, 32 - b = (n : Int) := ⟨(32 - b).toNat, by omega⟩
  have hw : wrap64 (32 - b) = (n : Int) := by unfold wrap64; omega
  rw [hw, sizeB, hn, Int.toNat_natCast]
  exact shl_pow ⟨n, by omega⟩
theorem size_pos (b : Int) : 0 < sizeB b := Int.pow_pos (by omega)
theorem size_le {b : Int} (h0 : 0 ≤ b) (h1 : b ≤ 32) : sizeB b ≤ 4294967296 := by
  unfold sizeB
  have h : (32 - b).toNat ≤ 32 := by omega
  have := Nat.pow_le_pow_right (n := 2) (by omega) h
  have e : ((2 ^ (32 - b).toNat : Nat) : Int) = (2 : Int) ^ (32 - b).toNat := by norm_cast
  rw [← e]
  omega
def rangeB (ip b h : Int) : Bool := ipB ip && inB b 0 32 && decide (ip % sizeB b = 0) && houseB h
theorem rangeB_and {ip b h : Int} (hr : rangeB ip b h = true) : 0 ≤ ip ∧ ip ≤ 4294967295 ∧ 0 ≤ b ∧ b ≤ 32 ∧ ip % sizeB b = 0 ∧ 1 ≤ h ∧ h ≤ 4 := by
  simp [rangeB, ipB, houseB, inB] at hr
  omega
def coversB (ip b x : Int) : Bool := decide (ip ≤ x) && decide (x < ip + sizeB b)
theorem bits_or_def (x y : Int) : Go.bits .or .i64 x y = Go.IntKind.i64.wrap ((BitVec.ofInt 64 x ||| BitVec.ofInt 64 y).toNat : Int) := rfl
theorem or_low {x y : Int} (hx : x % 256 = 0) (h0 : 0 ≤ y) (h1 : y < 256) : Go.bits .or .i64 x y = wrap64 (x + y) := by
  rw [bits_or_def]
  have e1 : (BitVec.ofInt 64 x).toNat = (x % 18446744073709551616).toNat := by simp [BitVec.toNat_ofInt]
  have e2 : (BitVec.ofInt 64 y).toNat = y.toNat := by
    rw [BitVec.toNat_ofInt]
    omega
  rw [BitVec.toNat_or, e1, e2]
  obtain ⟨a, ha⟩ : ∃ a : Nat, x % 18446744073709551616 = (a : Int) := ⟨(x % 18446744073709551616).toNat, by omega⟩
  obtain ⟨b, rfl⟩ := Int.eq_ofNat_of_zero_le h0
  rw [ha, Int.toNat_natCast, Int.toNat_natCast]
  have hd : a = 2 ^ 8 * (a / 2 ^ 8) := by omega
  have ho : a ||| b = a + b := by
    rw [hd, ← Nat.two_pow_add_eq_or_of_lt (by omega : b < 2 ^ 8) (a / 2 ^ 8)]
  rw [ho, Go.IntKind.wrap_i64]
  unfold wrap64
  omega
theorem bt_getD (s : ByteArray) (n : Nat) (h : n < s.size) : ((s.data.toList.getD n 0).toNat : Int) = bt s (n : Int) := by
  rw [← bt_at s (n : Int) (by rw [Int.toNat_natCast]; exact h)]
  have hl : n < s.data.toList.length := by rw [Array.length_toList]; exact h
  simp only [Int.toNat_natCast, List.getD_eq_getElem?_getD, List.getElem?_eq_getElem hl, Option.getD_some]
  rfl

/-! Bytes read as a number, the highest first. -/
def valL (n : Int) : List UInt8 → Int
  | [] => n
  | c :: l => valL (n * 256 + c.toNat) l
def getV (s : ByteArray) : Int := valL 0 s.data.toList
theorem valL_snoc : ∀ (l : List UInt8) (n : Int) (c : UInt8), valL n (l ++ [c]) = valL n l * 256 + c.toNat
  | [], _, _ => rfl
  | x :: l, n, c => by simp only [List.cons_append, valL]; exact valL_snoc l _ c
theorem List.reverseRecOn' {α : Type} {motive : List α → Prop} (l : List α) (nil : motive []) (snoc : ∀ l c, motive l → motive (l ++ [c])) : motive l := by
  have h : ∀ n (l : List α), l.length = n → motive l := by
    intro n
    induction n with
    | zero => intro l hl; rw [List.length_eq_zero_iff.1 hl]; exact nil
    | succ n ih =>
      intro l hl
      have hne : l ≠ [] := by intro e; subst e; simp at hl
      rw [← List.dropLast_concat_getLast hne]
      exact snoc _ _ (ih _ (by simp [hl]))
  exact h _ l rfl
theorem valL_bd : ∀ (l : List UInt8), 0 ≤ valL 0 l ∧ valL 0 l < 256 ^ l.length := by
  intro l
  induction l using List.reverseRecOn' with
  | nil => simp [valL]
  | snoc l c ih =>
    rw [valL_snoc, List.length_append, List.length_singleton, Int.pow_succ]
    have := c.toNat_lt
    omega
theorem bigL_valL : ∀ (l : List UInt8), bigL l.length (valL 0 l) = l.map (fun c => (c.toNat : Int)) := by
  intro l
  induction l using List.reverseRecOn' with
  | nil => rfl
  | snoc l c ih =>
    have h := c.toNat_lt
    rw [valL_snoc, List.length_append, List.length_singleton, bigL, List.map_append, List.map_singleton]
    rw [show (valL 0 l * 256 + (c.toNat : Int)) / 256 = valL 0 l from by omega, show (valL 0 l * 256 + (c.toNat : Int)) % 256 = (c.toNat : Int) from by omega, ih]
theorem bigS_getV (s : ByteArray) : bigS s.size (getV s) = s := by
  apply ba_ext
  have e : s.size = s.data.toList.length := by rw [Array.length_toList]; rfl
  rw [bigS, getV, e, bigL_valL]
  simp [strOfNums, Function.comp_def]
theorem ba_extract (s : ByteArray) (a b : Nat) : (s.extract a b).data.toList = (s.data.toList.take b).drop a := by
  simp [ByteArray.data_extract, Array.toList_extract, List.extract_eq_take_drop]
  rw [List.drop_take]
theorem ba_len (s : ByteArray) : s.data.toList.length = s.size := by rw [Array.length_toList]; rfl
theorem extract_size (s : ByteArray) {a b : Nat} (hb : b ≤ s.size) : (s.extract a b).size = b - a := by
  rw [← ba_len, ba_extract]
  have := ba_len s
  simp only [List.length_drop, List.length_take]
  omega
theorem extract_app (s : ByteArray) {a b : Nat} (h : a ≤ b) : s.extract 0 a ++ s.extract a b = s.extract 0 b := by
  apply ba_ext
  rw [ba_append, ba_extract, ba_extract, ba_extract]
  simp only [List.drop_zero]
  have e : s.data.toList.take a = (s.data.toList.take b).take a := by rw [List.take_take, Nat.min_eq_left h]
  rw [e, List.take_append_drop]
theorem extract_all (s : ByteArray) : s.extract 0 s.size = s := by
  apply ba_ext
  rw [ba_extract, List.drop_zero, List.take_of_length_le (by rw [ba_len]; omega)]
theorem toList_data (s : ByteArray) : s.toList = s.data.toList := by
  have key : ∀ (n i : Nat) (r : List UInt8), s.size - i = n → ByteArray.toList.loop s i r = r.reverse ++ s.data.toList.drop i := by
    intro n
    induction n with
    | zero =>
      intro i r h
      rw [ByteArray.toList.loop]
      rw [if_neg (by omega), List.drop_of_length_le (by rw [ba_len]; omega)]
      simp
    | succ n ih =>
      intro i r h
      have hl : i < s.data.toList.length := by rw [ba_len]; omega
      rw [ByteArray.toList.loop]
      rw [if_pos (by omega), ih (i + 1) _ (by omega), List.drop_eq_getElem_cons hl]
      have hl2 : i < s.data.size := by rw [← Array.length_toList]; exact hl
      simp [ByteArray.get!, getElem!_pos s.data i hl2]
  have := key s.size 0 [] (by omega)
  rw [ByteArray.toList, this]
  simp

/-! What a predicate is asked for, that may lay blocks of its own; the first place at which it holds. -/
def PredK {α : Type} (P : Go.Program) (g : Nat) (cb : Array Value) (k : Kd α) (p : α → Bool) (w : World) : Prop :=
  ∀ (W : World) (x : α) (cs : List Value), Below w.heap.size w W → k.K W x cs → Calls P g (#[.agg cs.toArray] ++ cb) W fun e w' => e = .returned (.bool (p x)) ∧ Below w.heap.size w w'
def idxOf {α : Type} (p : α → Bool) : List α → Int → Int
  | [], _ => -1
  | x :: xs, i => if p x = true then i else idxOf p xs (i + 1)
theorem idxOf_drop {α : Type} (z : α) (p : α → Bool) (l : List α) (k : Nat) (hk : k ≤ l.length) (h : ∀ j, j < k → p (nth z l j) = false) : idxOf p l 0 = idxOf p (l.drop k) k := by
  induction k with
  | zero => rfl
  | succ k ih =>
    rw [ih (by omega) (fun j hj => h j (by omega)), drop_nth z (by omega : k < l.length), idxOf, if_neg (by rw [h k (by omega)]; simp)]
    rfl
theorem idxOf_hit {α : Type} (z : α) (p : α → Bool) (l : List α) (k : Nat) (hk : k < l.length) (h : ∀ j, j < k → p (nth z l j) = false) (hp : p (nth z l k) = true) : idxOf p l 0 = k := by
  rw [idxOf_drop z p l k (by omega) h, drop_nth z hk, idxOf, if_pos hp]
theorem idxOf_miss {α : Type} (z : α) (p : α → Bool) (l : List α) (h : ∀ j, j < l.length → p (nth z l j) = false) : idxOf p l 0 = -1 := by
  rw [idxOf_drop z p l l.length (by omega) h, List.drop_length, idxOf]
theorem idxOf_cases {α : Type} (z : α) (p : α → Bool) : ∀ (l : List α) (i : Nat), (idxOf p l i = -1 ∧ l.find? p = none) ∨ ∃ k, k < l.length ∧ idxOf p l i = ((i + k : Nat) : Int) ∧ l.find? p = some (nth z l k)
  | [], i => .inl ⟨rfl, rfl⟩
  | x :: xs, i => by
    by_cases h : p x = true
    · exact .inr ⟨0, by simp, by simp [idxOf, h], by simp [h, nth]⟩
    · have hx : p x = false := by simpa using h
      rcases idxOf_cases z p xs (i + 1) with ⟨h1, h2⟩ | ⟨k, h1, h2, h3⟩
      · exact .inl ⟨by simpa [idxOf, hx] using h1, by simpa [hx] using h2⟩
      · refine .inr ⟨k + 1, by simpa using h1, ?_, ?_⟩
        · have : idxOf p (x :: xs) i = idxOf p xs ((i + 1 : Nat) : Int) := by simp [idxOf, hx]
          rw [this, h2]
          congr 1
          omega
        · simpa [hx, nth] using h3
/-- A loop that counts on and writes its marks into a row. -/
theorem mark_loop {β : Type} (c s : Nat) (L : Nat → List β → Int → Int → Option (Int × List β)) (n : Nat) (f : Int → β) (B : Int)
    (h1 : ∀ k (i : Nat) acc (m : Int), c ≤ k → i < n → acc.length = n → 0 ≤ m → m + s ≤ B → L (k + 1) acc m (i : Int) = L k (acc.set i (f m)) (m + s) ((i + 1 : Nat) : Int))
    (h3 : ∀ k acc (m : Int), c ≤ k → acc.length = n → L (k + 1) acc m (n : Int) = some (m, acc)) :
    ∀ (d i k : Nat) (acc : List β) (m : Int), acc.length = n → i + d = n → d + c < k → 0 ≤ m → m + s * d ≤ B → L k acc m (i : Int) = some (m + s * d, acc.take i ++ (List.range d).map (fun j : Nat => f (m + s * (j : Int)))) := by
  intro d
  induction d with
  | zero =>
    intro i k acc m hl hd hk _ _
    obtain ⟨k, rfl⟩ : ∃ m, k = m + 1 := ⟨k - 1, by omega⟩
    obtain rfl : i = n := by omega
    rw [h3 k acc m (by omega) hl]
    simp [List.take_of_length_le (Nat.le_of_eq hl)]
  | succ d ih =>
    intro i k acc m hl hd hk hm hB
    obtain ⟨k, rfl⟩ : ∃ m, k = m + 1 := ⟨k - 1, by omega⟩
    have e1 : (s : Int) * ((d + 1 : Nat) : Int) = s * d + s := by rw [Int.natCast_add, Int.mul_add]; simp
    have e0 : (0 : Int) ≤ s * d := Int.mul_nonneg (by omega) (by omega)
    rw [h1 k i acc m (by omega) (by omega) hl hm (by omega), ih (i + 1) k _ _ (by simp [hl]) (by omega) (by omega) (by omega) (by omega)]
    rw [e1]
    congr 1
    congr 1
    · omega
    · rw [List.range_succ_eq_map, List.map_cons, List.map_map]
      have e : (acc.set i (f m)).take (i + 1) = acc.take i ++ [f m] := by
        rw [List.take_succ_eq_append_getElem (by simp; omega), List.take_set_of_le (Nat.le_refl _)]
        simp
      rw [e, List.append_assoc]
      congr 1
      simp only [List.singleton_append]
      congr 1
      · simp
      · apply List.map_congr_left
        intro j _
        simp only [Function.comp]
        congr 1
        rw [Nat.succ_eq_add_one, Int.natCast_add, Int.mul_add]
        simp
        omega
/-- The row that such a loop leaves. -/
def marked {β : Type} (s : Nat) (f : Int → β) (m : Int) (n : Nat) : List β := (List.range n).map (fun j : Nat => f (m + s * (j : Int)))
theorem marked_length {β : Type} (s : Nat) (f : Int → β) (m : Int) (n : Nat) : (marked s f m n).length = n := by simp [marked]
theorem marked_nth {β : Type} (z : β) {s : Nat} {f : Int → β} {m : Int} {n i : Nat} (h : i < n) : nth z (marked s f m n) i = f (m + s * i) := by
  rw [nth_lt (by simpa [marked] using h)]
  simp [marked]
theorem mark_all {β : Type} (c s : Nat) (L : Nat → List β → Int → Int → Option (Int × List β)) (xs : List β) (f : Int → β) (B : Int)
    (h1 : ∀ k (i : Nat) acc (m : Int), c ≤ k → i < xs.length → acc.length = xs.length → 0 ≤ m → m + s ≤ B → L (k + 1) acc m (i : Int) = L k (acc.set i (f m)) (m + s) ((i + 1 : Nat) : Int))
    (h3 : ∀ k acc (m : Int), c ≤ k → acc.length = xs.length → L (k + 1) acc m (xs.length : Int) = some (m, acc))
    (k : Nat) (m : Int) (hk : xs.length + c < k) (hm : 0 ≤ m) (hB : m + s * xs.length ≤ B) : L k xs m 0 = some (m + s * xs.length, marked s f m xs.length) := by
  have := mark_loop c s L xs.length f B h1 h3 xs.length 0 k xs m rfl (by omega) hk hm hB
  simpa [marked] using this
/-- A loop that looks for such marks. -/
theorem held_loop {β : Type} (z : β) (c s : Nat) (f : Int → β) (L : Nat → Int → Int → Option Int) (n : Nat) (m : Int) (B : Int)
    (h1 : ∀ k (i : Nat) (q : Int), c ≤ k → i < n → q = m + s * i → 0 ≤ q → q + s ≤ B → L (k + 1) q (i : Int) = L k (q + s) ((i + 1 : Nat) : Int))
    (h3 : ∀ k (q : Int), c ≤ k → L (k + 1) q (n : Int) = some q) (hm : 0 ≤ m) (hB : m + s * n ≤ B) :
    ∀ (d i k : Nat), i + d = n → d + c < k → L k (m + s * i) (i : Int) = some (m + s * n) := by
  intro d
  induction d with
  | zero =>
    intro i k hd hk
    obtain ⟨k, rfl⟩ : ∃ m, k = m + 1 := ⟨k - 1, by omega⟩
    obtain rfl : i = n := by omega
    exact h3 k _ (by omega)
  | succ d ih =>
    intro i k hd hk
    obtain ⟨k, rfl⟩ : ∃ m, k = m + 1 := ⟨k - 1, by omega⟩
    have e1 : (s : Int) * ((i + 1 : Nat) : Int) = s * i + s := by rw [Int.natCast_add, Int.mul_add]; simp
    have e0 : (0 : Int) ≤ s * i := Int.mul_nonneg (by omega) (by omega)
    have e2 : (s : Int) * ((i + 1 : Nat) : Int) ≤ s * n := Int.mul_le_mul_of_nonneg_left (by omega) (by omega)
    rw [h1 k i _ (by omega) (by omega) rfl (by omega) (by omega)]
    have := ih (i + 1) k (by omega) (by omega)
    rw [e1] at this
    rwa [show m + (s : Int) * i + s = m + (s * i + s) from by omega]
/-- A loop that keeps what a predicate says. -/
theorem keep_loop {β : Type} (z : β) (c : Nat) (L : Nat → List β → Int → Option (List β)) (xs : List β) (p : β → Bool)
    (h1 : ∀ k (i : Nat) acc, c ≤ k → i < xs.length → acc.length ≤ i → L (k + 1) acc (i : Int) = if p (nth z xs i) = true then L k (acc ++ [nth z xs i]) ((i + 1 : Nat) : Int) else L k acc ((i + 1 : Nat) : Int))
    (h3 : ∀ k acc, c ≤ k → L (k + 1) acc (xs.length : Int) = some acc) :
    ∀ (d i k : Nat) (acc : List β), i + d = xs.length → d + c < k → acc.length ≤ i → L k acc (i : Int) = some (acc ++ (xs.drop i).filter p) := by
  intro d
  induction d with
  | zero =>
    intro i k acc hd hk _
    obtain ⟨k, rfl⟩ : ∃ m, k = m + 1 := ⟨k - 1, by omega⟩
    obtain rfl : i = xs.length := by omega
    rw [h3 k acc (by omega)]
    simp
  | succ d ih =>
    intro i k acc hd hk ha
    obtain ⟨k, rfl⟩ : ∃ m, k = m + 1 := ⟨k - 1, by omega⟩
    rw [h1 k i acc (by omega) (by omega) ha, drop_nth z (by omega : i < xs.length)]
    by_cases h : p (nth z xs i) = true
    · rw [if_pos h, List.filter_cons_of_pos h, ih (i + 1) k _ (by omega) (by omega) (by simp; omega), List.append_assoc]
      rfl
    · rw [if_neg h, List.filter_cons_of_neg h, ih (i + 1) k _ (by omega) (by omega) (by omega)]

end Go.Proofs.Ytmgmaflfednngaa.Base
