/-
Plain arithmetic of limbs: the value of a row of 32-bit limbs, sums, differences, products, comparison, division of one row by another. No program here.
Walks of the functions of package wide, over rows of limbs in memory: trim.
Walks of the functions of package math/bits that package wide calls: Add32, Sub32, Div32, and of those that package span calls.
Walks of the functions of package wide that make rows of limbs: plus, minus, times.
Walks of the functions of package wide that go over limbs from the highest one: down, compare.
-/
import Derived.Test.YtilaheplclaokaaGreatDoorProg
import Derived.WalkKit
import Derived.WalkSpells
import Derived.WalkLawsBesides
import Derived.BigQuiet
import Derived.BigGuardPart
import Derived.Lib.Hide
import Derived.Deep.QuietTactic
import Derived.RangeFuncNested
import Derived.RangeFuncBound
import Derived.RangeFuncCalls
import Derived.RangeFuncLeaves
import Derived.RangeFuncBox
import Derived.Shelf.Abstract
import Derived.Shelf.RegionOpen
import Derived.OwnWalkIn
import Derived.TacticsInMore
import Derived.LoopNIn
import Derived.LoopIn
set_option linter.unusedVariables false
set_option linter.unusedSimpArgs false
namespace Go.Proofs.YtilaheplclaokaaGreatDoor
namespace Num

/-- The base. -/
def B : Int := 4294967296
theorem B_eq : B = 4294967296 := rfl
theorem B_pos : 0 < B := by decide

/-- Powers of the base. -/
def P (n : Nat) : Int := B ^ n
theorem P_zero : P 0 = 1 := rfl
theorem P_succ (n : Nat) : P (n + 1) = P n * B := Int.pow_succ B n
theorem P_pos (n : Nat) : 0 < P n := Int.pow_pos B_pos
theorem P_add (n m : Nat) : P (n + m) = P n * P m := Int.pow_add B n m
theorem P_one_le (n : Nat) : 1 ≤ P n := by have := P_pos n; omega
theorem P_mono {n m : Nat} (h : n ≤ m) : P n ≤ P m := by
  obtain ⟨d, rfl⟩ := Nat.exists_eq_add_of_le h
  rw [P_add]
  have h1 := P_pos n
  have h2 := P_one_le d
  calc P n = P n * 1 := by omega
    _ ≤ P n * P d := Int.mul_le_mul_of_nonneg_left h2 (by omega)

/-- The value of the first n limbs. -/
def val (g : Nat → Int) : Nat → Int
  | 0 => 0
  | n + 1 => val g n + g n * P n

/-- Limbs are digits. -/
def Dig (g : Nat → Int) (n : Nat) : Prop := ∀ i, i < n → 0 ≤ g i ∧ g i < 4294967296

theorem Dig.mono {g : Nat → Int} {n m : Nat} (h : Dig g n) (hm : m ≤ n) : Dig g m := fun i hi => h i (Nat.lt_of_lt_of_le hi hm)

theorem val_congr {g h : Nat → Int} : ∀ {n : Nat}, (∀ i, i < n → g i = h i) → val g n = val h n
  | 0, _ => rfl
  | n + 1, e => by
    simp only [val]
    rw [val_congr (fun i hi => e i (by omega)), e n (by omega)]

theorem val_nonneg {g : Nat → Int} : ∀ {n : Nat}, Dig g n → 0 ≤ val g n
  | 0, _ => Int.le_refl 0
  | n + 1, h => by
    have h1 := val_nonneg (h.mono (Nat.le_succ n))
    have h2 := (h n (by omega)).1
    have h3 := Int.mul_nonneg h2 (Int.le_of_lt (P_pos n))
    simp only [val]
    omega

theorem val_lt {g : Nat → Int} : ∀ {n : Nat}, Dig g n → val g n < P n
  | 0, _ => by simp [val, P_zero]
  | n + 1, h => by
    have h1 := val_lt (h.mono (Nat.le_succ n))
    have h2 := (h n (by omega)).2
    have h3 := P_pos n
    have h4 : g n * P n ≤ 4294967295 * P n := Int.mul_le_mul_of_nonneg_right (by omega) (by omega)
    simp only [val, P_succ, B_eq]
    omega

theorem val_zero {n : Nat} : val (fun _ => 0) n = 0 := by
  induction n with
  | zero => rfl
  | succ n ih => simp [val, ih]

/-- A row whose highest limb is not 0 is at least the power below. -/
theorem val_ge {g : Nat → Int} {n : Nat} (h : Dig g (n + 1)) (h0 : g n ≠ 0) : P n ≤ val g (n + 1) := by
  have h1 := val_nonneg (h.mono (Nat.le_succ n))
  have h2 := (h n (by omega)).1
  have h3 : 1 * P n ≤ g n * P n := Int.mul_le_mul_of_nonneg_right (by omega) (Int.le_of_lt (P_pos n))
  simp only [val]
  omega

/-- Trimmed: no zero at the end. -/
def Trim (g : Nat → Int) (n : Nat) : Prop := ∀ k, n = k + 1 → g k ≠ 0

theorem Trim.of {g : Nat → Int} {k : Nat} (h : (g k == 0) = false) : Trim g (k + 1) := fun j hj => by
  obtain rfl : k = j := by omega
  intro e
  rw [e] at h
  cases h

theorem val_pos {g : Nat → Int} {n : Nat} (h : Dig g n) (ht : Trim g n) (h0 : 0 < n) : 0 < val g n := by
  obtain ⟨k, rfl⟩ : ∃ k, n = k + 1 := ⟨n - 1, by omega⟩
  have := val_ge h (ht k rfl)
  have := P_pos k
  omega

theorem len_le {g h : Nat → Int} {n m : Nat} (hg : Dig g n) (ht : Trim g n) (hh : Dig h m) (he : val g n ≤ val h m) : n ≤ m := by
  rcases Nat.lt_or_ge m n with hlt | hge
  · obtain ⟨k, rfl⟩ : ∃ k, n = k + 1 := ⟨n - 1, by omega⟩
    have h1 := val_ge hg (ht k rfl)
    have h2 := val_lt hh
    have h3 := P_mono (show m ≤ k by omega)
    omega
  · exact hge

/-- Shorter is less. -/
theorem val_lt_of_len {g h : Nat → Int} {n m : Nat} (hg : Dig g n) (hh : Dig h m) (ht : Trim h m) (hl : n < m) : val g n < val h m := by
  obtain ⟨k, rfl⟩ : ∃ k, m = k + 1 := ⟨m - 1, by omega⟩
  have h1 := val_lt hg
  have h2 := val_ge hh (ht k rfl)
  have h3 := P_mono (show n ≤ k by omega)
  omega

/-- What lies above agrees: the limb decides. -/
theorem val_lt_of_limb {g h : Nat → Int} {n k : Nat} (hg : Dig g n) (hh : Dig h n) (hk : k < n) (hlt : g k < h k) (he : ∀ i, k < i → i < n → g i = h i) : val g n < val h n := by
  obtain ⟨d, rfl⟩ : ∃ d, n = k + 1 + d := ⟨n - (k + 1), by omega⟩
  induction d with
  | zero =>
    simp only [val]
    have h1 := val_lt (hg.mono (show k ≤ k + 1 + 0 by omega))
    have h2 := val_nonneg (hh.mono (show k ≤ k + 1 + 0 by omega))
    have h3 : (g k + 1) * P k ≤ h k * P k := Int.mul_le_mul_of_nonneg_right (by omega) (Int.le_of_lt (P_pos k))
    rw [Int.add_mul] at h3
    omega
  | succ d ih =>
    have h1 := ih (hg.mono (by omega)) (hh.mono (by omega)) (by omega) (fun i h1 h2 => he i h1 (by omega))
    have h2 := he (k + 1 + d) (by omega) (by omega)
    show val g (k + 1 + d) + g (k + 1 + d) * P (k + 1 + d) < val h (k + 1 + d) + h (k + 1 + d) * P (k + 1 + d)
    rw [h2]
    omega

/-- Cutting zeros off leaves the value. -/
theorem val_cut {g : Nat → Int} {m : Nat} : ∀ {n : Nat}, m ≤ n → (∀ i, m ≤ i → i < n → g i = 0) → val g n = val g m
  | 0, h, _ => by
    obtain rfl : m = 0 := by omega
    rfl
  | n + 1, h, h0 => by
    rcases Nat.lt_or_ge n m with hlt | hge
    · obtain rfl : m = n + 1 := by omega
      rfl
    · have := val_cut (g := g) (m := m) (n := n) hge (fun i h1 h2 => h0 i h1 (by omega))
      simp only [val]
      rw [h0 n hge (by omega), this]
      omega

/-- The row from place k on. -/
def from_ (g : Nat → Int) (k : Nat) : Nat → Int := fun i => g (k + i)
theorem val_split (g : Nat → Int) (k : Nat) : ∀ n, val g (k + n) = val g k + val (from_ g k) n * P k
  | 0 => by simp [val]
  | n + 1 => by
    show val g (k + n) + g (k + n) * P (k + n) = val g k + (val (from_ g k) n + from_ g k n * P n) * P k
    rw [val_split g k n, P_add, Int.add_mul]
    simp only [from_]
    rw [Int.mul_assoc (g (k + n)) (P n) (P k), Int.mul_comm (P n) (P k)]
    omega

/-- The sign. -/
def sg (neg : Bool) : Int := if neg then -1 else 1

/-- The length without the zeros at the end. -/
def tl (g : Nat → Int) : Nat → Nat
  | 0 => 0
  | n + 1 => if g n = 0 then tl g n else n + 1
theorem tl_le (g : Nat → Int) : ∀ n, tl g n ≤ n
  | 0 => Nat.le_refl 0
  | n + 1 => by
    unfold tl
    split
    · exact Nat.le_succ_of_le (tl_le g n)
    · exact Nat.le_refl _
theorem tl_trim (g : Nat → Int) : ∀ n, Trim g (tl g n)
  | 0 => fun k hk => absurd hk (by simp [tl])
  | n + 1 => by
    unfold tl
    split
    · exact tl_trim g n
    · rename_i h
      intro k hk
      obtain rfl : n = k := by omega
      exact h
theorem tl_val (g : Nat → Int) : ∀ n, val g n = val g (tl g n)
  | 0 => rfl
  | n + 1 => by
    unfold tl
    split
    · rename_i h
      rw [← tl_val g n]
      simp [val, h]
    · rfl

/-- What does not fit becomes 0. -/
def fits (x : Int) : Bool := decide (-P 4096 < x ∧ x < P 4096)
def fit (x : Int) : Int := if fits x then x else 0
def ferr (x : Int) : Int := if fits x then 0 else 16
theorem sg_abs (neg : Bool) (v : Int) (h : 0 ≤ v) : -v ≤ sg neg * v ∧ sg neg * v ≤ v ∧ (sg neg * v = v ∨ sg neg * v = -v) := by
  cases neg <;> simp only [sg, if_true, Bool.false_eq_true, if_false] <;> omega
theorem fits_small {g : Nat → Int} {m : Nat} (neg : Bool) (hd : Dig g m) (hm : m ≤ 4096) : fits (sg neg * val g m) = true := by
  have h1 := val_lt hd
  have h2 := val_nonneg hd
  have h3 := P_mono hm
  have h4 := sg_abs neg _ h2
  simp only [fits, decide_eq_true_eq]
  omega
theorem fits_large {g : Nat → Int} {m : Nat} (neg : Bool) (hd : Dig g m) (ht : Trim g m) (hm : 4096 < m) : fits (sg neg * val g m) = false := by
  obtain ⟨k, rfl⟩ : ∃ k, m = k + 1 := ⟨m - 1, by omega⟩
  have h1 := val_ge hd (ht k rfl)
  have h2 := P_mono (show 4096 ≤ k by omega)
  have h4 := sg_abs neg _ (val_nonneg hd)
  have h5 := P_pos 4096
  simp only [fits, decide_eq_false_iff_not]
  omega
theorem fit_of {x : Int} (h : fits x = true) : fit x = x := by simp [fit, h]
theorem fit_not {x : Int} (h : fits x = false) : fit x = 0 := by simp [fit, h]
theorem ferr_of {x : Int} (h : fits x = true) : ferr x = 0 := by simp [ferr, h]
theorem ferr_not {x : Int} (h : fits x = false) : ferr x = 16 := by simp [ferr, h]

/-- One limb is set. -/
def upd (g : Nat → Int) (k : Nat) (x : Int) : Nat → Int := fun i => if i = k then x else g i
theorem upd_same (g : Nat → Int) (k : Nat) (x : Int) : upd g k x k = x := by simp [upd]
theorem upd_other {g : Nat → Int} {k i : Nat} {x : Int} (h : i ≠ k) : upd g k x i = g i := by simp [upd, h]
theorem val_upd_ge {g : Nat → Int} {k : Nat} {x : Int} {n : Nat} (h : n ≤ k) : val (upd g k x) n = val g n := val_congr fun i hi => upd_other (by omega)
theorem Dig.upd {g : Nat → Int} {n k : Nat} {x : Int} (h : Dig g n) (h0 : 0 ≤ x) (h1 : x < 4294967296) : Dig (upd g k x) n := fun i hi => by
  unfold Num.upd
  split
  · exact ⟨h0, h1⟩
  · exact h i hi

/-- The row, with zeros behind its end. -/
def ext (h : Nat → Int) (m : Nat) : Nat → Int := fun i => if i < m then h i else 0
theorem ext_lt {h : Nat → Int} {m i : Nat} (hi : i < m) : ext h m i = h i := by simp [ext, hi]
theorem ext_ge {h : Nat → Int} {m i : Nat} (hi : m ≤ i) : ext h m i = 0 := by simp [ext, Nat.not_lt.2 hi]
theorem val_ext {h : Nat → Int} {n m : Nat} (hm : m ≤ n) : val (ext h m) n = val h m := by
  rw [val_cut hm (fun i h1 _ => ext_ge h1)]
  exact val_congr fun i hi => ext_lt hi

theorem Dig.snoc {o : Nat → Int} {k : Nat} {z : Int} (h : Dig o k) (h0 : 0 ≤ z) (h1 : z < 4294967296) : Dig (Num.upd o k z) (k + 1) := fun i hi => by
  unfold Num.upd
  split
  · exact ⟨h0, h1⟩
  · exact h i (by omega)

/-- One round of a sum. -/
theorem plus_step {g h o : Nat → Int} {k : Nat} {c y : Int} (hy : h k = y) (hv : val o k + c * P k = val g k + val h k) :
    val (upd o k ((g k + y + c) % 4294967296)) (k + 1) + (g k + y + c) / 4294967296 * P (k + 1) = val g (k + 1) + val h (k + 1) := by
  subst hy
  have h1 : val (upd o k ((g k + h k + c) % 4294967296)) k = val o k := val_upd_ge (Nat.le_refl k)
  have h2 : (g k + h k + c) % 4294967296 = g k + h k + c - 4294967296 * ((g k + h k + c) / 4294967296) := by omega
  simp only [val, upd_same, P_succ, B_eq, h1]
  rw [h2]
  generalize (g k + h k + c) / 4294967296 = q
  have e1 : (g k + h k + c - 4294967296 * q) * P k = g k * P k + h k * P k + c * P k - q * (P k * 4294967296) := by grind
  rw [e1]
  omega
theorem plus_step0 {g h o : Nat → Int} {k : Nat} {c : Int} (hy : h k = 0) (hv : val o k + c * P k = val g k + val h k) :
    val (upd o k ((g k + c) % 4294967296)) (k + 1) + (g k + c) / 4294967296 * P (k + 1) = val g (k + 1) + val h (k + 1) := by
  have := plus_step hy hv
  simpa only [Int.add_zero] using this
theorem plus_last {g h o : Nat → Int} {n : Nat} {c x : Int} (hv : val o n + c * P n = val g n + val h n) (hx : val h n = x) : val (upd o n c) (n + 1) = val g n + x := by
  subst hx
  rw [← hv]
  simp only [val, upd_same, val_upd_ge (Nat.le_refl n)]
theorem plus_carry {g h c : Int} (h0 : 0 ≤ g) (h1 : g < 4294967296) (h2 : 0 ≤ h) (h3 : h < 4294967296) (h4 : 0 ≤ c) (h5 : c ≤ 1) : 0 ≤ (g + h + c) / 4294967296 ∧ (g + h + c) / 4294967296 ≤ 1 := by omega

/-- The borrow. -/
def bor (x y c : Int) : Int := if x < y + c then 1 else 0
theorem bor_range (x y c : Int) : 0 ≤ bor x y c ∧ bor x y c ≤ 1 := by unfold bor; split <;> omega
theorem bor_eq {x y c : Int} (h0 : 0 ≤ x) (h1 : x < 4294967296) (h2 : 0 ≤ y) (h3 : y < 4294967296) (h4 : 0 ≤ c) (h5 : c ≤ 1) : (x - y - c) % 4294967296 = x - y - c + bor x y c * 4294967296 := by
  unfold bor
  split <;> omega

/-- One round of a difference. -/
theorem minus_step {g h o : Nat → Int} {k : Nat} {c y : Int} (hy : h k = y) (h0 : 0 ≤ g k) (h1 : g k < 4294967296) (h2 : 0 ≤ y) (h3 : y < 4294967296) (h4 : 0 ≤ c) (h5 : c ≤ 1) (hv : val o k - c * P k = val g k - val h k) :
    val (upd o k ((g k - y - c) % 4294967296)) (k + 1) - bor (g k) y c * P (k + 1) = val g (k + 1) - val h (k + 1) := by
  subst hy
  rw [bor_eq h0 h1 h2 h3 h4 h5]
  simp only [val, upd_same, P_succ, B_eq, val_upd_ge (Nat.le_refl k)]
  generalize bor (g k) (h k) c = q
  have e1 : (g k - h k - c + q * 4294967296) * P k = g k * P k - h k * P k - c * P k + q * (P k * 4294967296) := by grind
  rw [e1]
  omega
theorem minus_step0 {g h o : Nat → Int} {k : Nat} {c : Int} (hy : h k = 0) (h0 : 0 ≤ g k) (h1 : g k < 4294967296) (h4 : 0 ≤ c) (h5 : c ≤ 1) (hv : val o k - c * P k = val g k - val h k) :
    val (upd o k ((g k - c) % 4294967296)) (k + 1) - bor (g k) 0 c * P (k + 1) = val g (k + 1) - val h (k + 1) := by
  have := minus_step hy h0 h1 (Int.le_refl 0) (by omega) h4 h5 hv
  simpa only [Int.sub_zero] using this
theorem minus_last {g h o : Nat → Int} {n : Nat} {c x : Int} (hd : Dig o n) (hv : val o n - c * P n = val g n - val h n) (hx : val h n = x) (hc0 : 0 ≤ c) (hc : c ≤ 1) (hle : x ≤ val g n) : val o n = val g n - x := by
  subst hx
  have h1 := val_lt hd
  have h2 : c = 0 ∨ c = 1 := by omega
  rcases h2 with rfl | rfl <;> omega

theorem val_upd {o : Nat → Int} {j : Nat} {z : Int} : ∀ {n : Nat}, j < n → val (upd o j z) n = val o n + (z - o j) * P j
  | 0, h => absurd h (by omega)
  | n + 1, h => by
    rcases Nat.eq_or_lt_of_le (Nat.le_of_lt_succ h) with rfl | hlt
    · simp only [val, upd_same, val_upd_ge (Nat.le_refl j)]
      rw [Int.sub_mul]
      omega
    · simp only [val, val_upd hlt, upd_other (Nat.ne_of_gt hlt)]
      omega

theorem prod_lt {x y : Int} (hx0 : 0 ≤ x) (hx : x < 4294967296) (hy0 : 0 ≤ y) (hy : y < 4294967296) : 0 ≤ x * y ∧ x * y ≤ 18446744065119617025 := by
  refine ⟨Int.mul_nonneg hx0 hy0, ?_⟩
  have := Int.mul_le_mul (show x ≤ 4294967295 by omega) (show y ≤ 4294967295 by omega) hy0 (by omega : (0 : Int) ≤ 4294967295)
  simpa using this

/-- One round of the inner loop of a product. -/
theorem times_step {h o : Nat → Int} {i k m : Nat} {x c S t : Int} (hk : k < m) (ht : t = c + (x * h k + o (i + k))) (hv : val o (i + m) + c * P (i + k) = S + x * val h k * P i) :
    val (upd o (i + k) (t % 4294967296)) (i + m) + t / 4294967296 * P (i + (k + 1)) = S + x * val h (k + 1) * P i := by
  rw [val_upd (by omega), show i + (k + 1) = (i + k) + 1 from rfl, P_succ, B_eq]
  have h2 : t % 4294967296 = t - 4294967296 * (t / 4294967296) := by omega
  rw [h2]
  generalize t / 4294967296 = q
  subst ht
  simp only [val]
  rw [P_add] at hv ⊢
  generalize val o (i + m) = V at *
  generalize P i = p at *
  generalize P k = r at *
  generalize val h k = W at *
  grind
/-- One round of the outer loop. -/
theorem times_round {g o : Nat → Int} {i m : Nat} {c : Int} {V : Int} (hv : val o (i + m) + c * P (i + m) = val g i * V + g i * V * P i) :
    val (upd o (i + m) c) (i + 1 + m) = val g (i + 1) * V := by
  rw [show i + 1 + m = (i + m) + 1 by omega]
  simp only [val, upd_same, val_upd_ge (Nat.le_refl (i + m))]
  rw [hv]
  grind

theorem P_pow2 (a : Nat) : P a = 2 ^ (32 * a) := by
  unfold P
  rw [B_eq, show (4294967296 : Int) = 2 ^ 32 from by decide, ← Int.pow_mul]
theorem pow_shift (k j : Nat) : (2 : Int) ^ (k % 32) * P (k / 32 + j) = 2 ^ k * P j := by
  rw [P_add, P_pow2 (k / 32), ← Int.mul_assoc, ← Int.pow_add]
  congr 2
  omega
theorem pow32 (k : Nat) : 1 ≤ (2 : Int) ^ (k % 32) ∧ (2 : Int) ^ (k % 32) ≤ 2147483648 := by
  have h : k % 32 < 32 := Nat.mod_lt _ (by omega)
  generalize k % 32 = r at h
  have : r = 0 ∨ r = 1 ∨ r = 2 ∨ r = 3 ∨ r = 4 ∨ r = 5 ∨ r = 6 ∨ r = 7 ∨ r = 8 ∨ r = 9 ∨ r = 10 ∨ r = 11 ∨ r = 12 ∨ r = 13 ∨ r = 14 ∨ r = 15 ∨ r = 16 ∨ r = 17 ∨ r = 18 ∨ r = 19 ∨ r = 20 ∨ r = 21 ∨ r = 22 ∨ r = 23 ∨ r = 24 ∨ r = 25 ∨ r = 26 ∨ r = 27 ∨ r = 28 ∨ r = 29 ∨ r = 30 ∨ r = 31 := by omega
  rcases this with rfl | rfl | rfl | rfl | rfl | rfl | rfl | rfl | rfl | rfl | rfl | rfl | rfl | rfl | rfl | rfl | rfl | rfl | rfl | rfl | rfl | rfl | rfl | rfl | rfl | rfl | rfl | rfl | rfl | rfl | rfl | rfl <;> decide

/-- One round of a shift to the left. -/
theorem left_step {g o : Nat → Int} {k j : Nat} {q t : Int} (ht : t = q + g j * 2 ^ (k % 32)) (hv : val o (k / 32 + j) + q * P (k / 32 + j) = val g j * 2 ^ k) :
    val (upd o (k / 32 + j) (t % 4294967296)) (k / 32 + (j + 1)) + t / 4294967296 * P (k / 32 + (j + 1)) = val g (j + 1) * 2 ^ k := by
  rw [show k / 32 + (j + 1) = (k / 32 + j) + 1 from rfl]
  have h2 : t % 4294967296 = t - 4294967296 * (t / 4294967296) := by omega
  have hp := pow_shift k j
  simp only [val, upd_same, val_upd_ge (Nat.le_refl _), P_succ, B_eq]
  rw [h2]
  generalize t / 4294967296 = d
  subst ht
  generalize P (k / 32 + j) = p at *
  generalize P j = r at *
  generalize (2 : Int) ^ (k % 32) = a at *
  generalize (2 : Int) ^ k = b at *
  generalize val o (k / 32 + j) = V at *
  generalize val g j = W at *
  grind
theorem left_range {x q : Int} {k : Nat} (h0 : 0 ≤ x) (h1 : x < 4294967296) (h2 : 0 ≤ q) (h3 : q < 2 ^ (k % 32)) :
    0 ≤ q + x * 2 ^ (k % 32) ∧ q + x * 2 ^ (k % 32) < 9223372036854775808 ∧ 0 ≤ (q + x * 2 ^ (k % 32)) / 4294967296 ∧ (q + x * 2 ^ (k % 32)) / 4294967296 < 2 ^ (k % 32) ∧ 0 ≤ x * 2 ^ (k % 32) ∧ x * 2 ^ (k % 32) < 9223372036854775808 := by
  have hp := pow32 k
  generalize (2 : Int) ^ (k % 32) = a at *
  have e0 : 0 ≤ x * a := Int.mul_nonneg h0 (by omega)
  have e1 : x * a ≤ 4294967295 * a := Int.mul_le_mul_of_nonneg_right (by omega) (by omega)
  refine ⟨by omega, by omega, by omega, ?_, e0, by omega⟩
  apply Int.ediv_lt_of_lt_mul (by omega)
  omega

/-- One round of a shift to the right: what is carried on, and the limbs so far. -/
def rstep (p : Int) (h : Nat → Int) (st : Int × (Nat → Int)) (i : Nat) : Int × (Nat → Int) := ((st.1 * 4294967296 + h i) % p, upd st.2 i ((st.1 * 4294967296 + h i) / p))
def rfold (p : Int) (h : Nat → Int) (l : List Nat) : Int × (Nat → Int) := l.foldl (rstep p h) (0, fun _ => 0)
theorem rfold_snoc (p : Int) (h : Nat → Int) (l : List Nat) (i : Nat) : rfold p h (l ++ [i]) = rstep p h (rfold p h l) i := by simp [rfold]
theorem rfold_range {p : Int} (hp : 0 < p) (h : Nat → Int) (l : List Nat) : 0 ≤ (rfold p h l).1 ∧ (rfold p h l).1 < p := by
  rcases List.eq_nil_or_concat l with rfl | ⟨l', i, rfl⟩
  · exact ⟨Int.le_refl 0, hp⟩
  · rw [List.concat_eq_append, rfold_snoc]
    exact ⟨Int.emod_nonneg _ (by omega), Int.emod_lt_of_pos _ hp⟩
theorem rfold_dig {p : Int} (hp : 0 < p) {h : Nat → Int} {d : Nat} (hd : Dig h d) (l : List Nat) (hl : ∀ i ∈ l, i < d) : Dig (rfold p h l).2 d := by
  suffices H : ∀ n (l : List Nat), l.length = n → (∀ i ∈ l, i < d) → Dig (rfold p h l).2 d from H _ l rfl hl
  intro n
  induction n with
  | zero =>
    intro l hn _
    obtain rfl := List.eq_nil_of_length_eq_zero hn
    exact fun i _ => ⟨Int.le_refl 0, by show (0 : Int) < 4294967296; omega⟩
  | succ n ih =>
    intro l hn hl
    rcases List.eq_nil_or_concat l with rfl | ⟨l', i, rfl⟩
    · simp at hn
    · rw [List.concat_eq_append] at hn hl ⊢
      rw [rfold_snoc]
      have hr := rfold_range hp h l'
      have hi := hd i (hl i (by simp))
      refine Dig.upd (ih l' (by simpa using hn) (fun j hj => hl j (by simp [hj]))) ?_ ?_
      · exact Int.ediv_nonneg (by omega) (by omega)
      · apply Int.ediv_lt_of_lt_mul hp
        have : (rfold p h l').1 * 4294967296 ≤ (p - 1) * 4294967296 := Int.mul_le_mul_of_nonneg_right (by omega) (by omega)
        omega
theorem val_cons (g : Nat → Int) (k n : Nat) : val (from_ g k) (n + 1) = g k + val (from_ g (k + 1)) n * 4294967296 := by
  have h1 := val_split (from_ g k) 1 n
  rw [Nat.add_comm 1 n] at h1
  rw [h1]
  have e : from_ (from_ g k) 1 = from_ g (k + 1) := by funext i; simp only [from_]; congr 1; omega
  rw [e]
  simp [val, P, from_, B_eq]

/-- k indices from e on, the highest one first. -/
def dn (e k : Nat) : List Nat := (List.range k).reverse.map fun i => e + i
theorem dn_succ (e k : Nat) : dn e (k + 1) = dn (e + 1) k ++ [e] := by
  unfold dn
  rw [List.range_succ_eq_map, List.reverse_cons, List.map_append, ← List.map_reverse, List.map_map]
  congr 1
  apply List.map_congr_left
  intro i _
  show e + (i + 1) = e + 1 + i
  omega
theorem rfold_dn {p : Int} (hp : 0 < p) (h : Nat → Int) : ∀ (k e : Nat), (rfold p h (dn e k)).1 = val (from_ h e) k % p ∧ val (from_ (rfold p h (dn e k)).2 e) k = val (from_ h e) k / p
  | 0, e => by simp [dn, rfold, val]
  | k + 1, e => by
    obtain ⟨h1, h2⟩ := rfold_dn hp h k (e + 1)
    rw [dn_succ, rfold_snoc, rstep]
    generalize rfold p h (dn (e + 1) k) = st at *
    rw [val_cons h e k, val_cons _ e k]
    dsimp only
    rw [upd_same]
    have e1 : val (from_ (upd st.2 e ((st.1 * 4294967296 + h e) / p)) (e + 1)) k = val (from_ st.2 (e + 1)) k := val_congr fun i _ => upd_other (by omega)
    rw [e1, h2, h1]
    generalize val (from_ h (e + 1)) k = T
    have e2 : h e + T * 4294967296 = (T % p * 4294967296 + h e) + p * (T / p * 4294967296) := by
      have := Int.emod_add_mul_ediv T p
      grind
    rw [e2, Int.add_mul_emod_self_left, Int.add_mul_ediv_left _ _ (by omega)]
    exact ⟨rfl, rfl⟩
theorem right_value {g : Nat → Int} {c d s k : Nat} (hg : Dig g (c + d)) (hk : k = 32 * c + s) :
    val g (c + d) / 2 ^ k = val (from_ g c) d / 2 ^ s ∧ val g (c + d) % 2 ^ k = val g c + val (from_ g c) d % 2 ^ s * P c := by
  have h1 := val_lt (hg.mono (Nat.le_add_right c d))
  have h2 := val_nonneg (hg.mono (Nat.le_add_right c d))
  rw [val_split, hk, Int.pow_add, ← P_pow2]
  have hP := P_pos c
  have hs : (0 : Int) < 2 ^ s := Int.pow_pos (by omega)
  generalize val (from_ g c) d = T
  generalize val g c = V at *
  generalize (2 : Int) ^ s = p at *
  generalize P c = r at *
  constructor
  · rw [← Int.ediv_ediv_of_nonneg (by omega)] 
    rw [Int.add_mul_ediv_right _ _ (by omega), Int.ediv_eq_zero_of_lt h2 h1, Int.zero_add]
  · have e1 : V + T * r = (V + T % p * r) + r * p * (T / p) := by
      have := Int.emod_add_mul_ediv T p
      grind
    rw [e1, Int.add_mul_emod_self_left]
    have b1 := Int.emod_nonneg T (show p ≠ 0 by omega)
    have b2 := Int.emod_lt_of_pos T hs
    have b3 : 0 ≤ T % p * r := Int.mul_nonneg b1 (by omega)
    have b4 : T % p * r ≤ (p - 1) * r := Int.mul_le_mul_of_nonneg_right (by omega) (by omega)
    have b5 : (p - 1) * r = r * p - r := by grind
    exact Int.emod_eq_of_lt (by omega) (by omega)
theorem val_eq_zero {g : Nat → Int} {n : Nat} (hg : Dig g n) (h : ∀ i, i < n → g i = 0) : val g n = 0 := by
  rw [val_congr h]
  exact val_zero
theorem val_ne_zero {g : Nat → Int} {n i : Nat} (hg : Dig g n) (hi : i < n) (h : 0 < g i) : 0 < val g n := by
  induction n with
  | zero => omega
  | succ n ih =>
    simp only [val]
    have hP := P_pos n
    have h0 := hg n (by omega)
    rcases Nat.eq_or_lt_of_le (Nat.le_of_lt_succ hi) with rfl | hlt
    · have h1 := val_nonneg (hg.mono (Nat.le_succ i))
      have := Int.mul_pos h hP
      omega
    · have h1 := ih (hg.mono (Nat.le_succ n)) hlt
      have := Int.mul_nonneg h0.1 (Int.le_of_lt hP)
      omega

end Num
end Go.Proofs.YtilaheplclaokaaGreatDoor
namespace Go.Proofs.YtilaheplclaokaaGreatDoor
open Go.RowKit

/-- A row of limbs lies at an address. -/
def At (w : World) (A : Option Addr) (g : Nat → Int) (n : Nat) : Prop :=
  0 < n → ∃ b off, A = some ⟨b, off, none⟩ ∧ b < w.heap.size ∧ ∀ i, i < n → w.cell? ⟨b, off + i, none⟩ = some (.int .u32 (g i))
theorem At.zero (w : World) (A : Option Addr) (g : Nat → Int) : At w A g 0 := fun h => absurd h (by omega)
theorem At.mono {w : World} {A : Option Addr} {g : Nat → Int} {n m : Nat} (h : At w A g n) (hm : m ≤ n) : At w A g m := fun h0 => by
  obtain ⟨b, off, e, hb, hc⟩ := h (by omega)
  exact ⟨b, off, e, hb, fun i hi => hc i (by omega)⟩
theorem At.below {w w' : World} {A : Option Addr} {g : Nat → Int} {n : Nat} (h : At w A g n) (hb : Below w.heap.size w w') : At w' A g n := fun h0 => by
  obtain ⟨b, off, e, hlt, hc⟩ := h h0
  exact ⟨b, off, e, Nat.lt_of_lt_of_le hlt hb.size, fun i hi => (hb.cell (p := ⟨b, off + i, none⟩) hlt).trans (hc i hi)⟩
theorem At.congr {w : World} {A : Option Addr} {g h : Nat → Int} {n : Nat} (ha : At w A g n) (e : ∀ i, i < n → g i = h i) : At w A h n := fun h0 => by
  obtain ⟨b, off, ea, hb, hc⟩ := ha h0
  exact ⟨b, off, ea, hb, fun i hi => by rw [← e i hi]; exact hc i hi⟩

def TrimPost (w : World) (A0 : Option Addr) (cap n : Nat) (g : Nat → Int) (e : Ending) (w' : World) : Prop :=
  ∃ A m, e = .returned (.slice A m cap) ∧ m ≤ n ∧ (0 < m → A = A0) ∧ Num.Trim g m ∧ Num.val g n = Num.val g m ∧ w = w'

set_option maxHeartbeats 400000 in
theorem trim_zero (w : World) (A : Option Addr) (cap : Nat) (g : Nat → Int) :
    Calls Tryz.prog 144 #[.slice A 0 cap] w (TrimPost w A cap 0 g) := by
  go_enter Tryz.func144, Tryz.ntmps144
  go_wp2
  go_loop [3] (fun t => t = .int .i64 0) (fun _ => 0)
  case atStart => rfl
  case round =>
    subst hrel
    go_wp2
    go_ret
    exact ⟨_, 0, rfl, Nat.le_refl _, fun h => absurd h (by omega), fun k hk => absurd hk (by omega), rfl, rfl⟩

set_option maxHeartbeats 400000 in
theorem trim_pos (w : World) (b off n cap : Nat) (g : Nat → Int) (hd : Num.Dig g n) (hn : n ≤ cap) (hc : n ≤ 1099511627776) (hb : b < w.heap.size)
    (hcell : ∀ i, i < n → w.cell? ⟨b, off + i, none⟩ = some (.int .u32 (g i))) :
    Calls Tryz.prog 144 #[.slice (some ⟨b, off, none⟩) n cap] w (TrimPost w (some ⟨b, off, none⟩) cap n g) := by
  go_enter Tryz.func144, Tryz.ntmps144
  go_wp2
  go_loop [3] (fun t => ∃ m : Nat, m ≤ n ∧ t = .int .i64 m ∧ ∀ i, m ≤ i → i < n → g i = 0) (fun t => (intOf t).toNat)
  case atStart => exact ⟨n, Nat.le_refl _, rfl, fun i h1 h2 => absurd h2 (by omega)⟩
  case round =>
    obtain ⟨m, hm, rfl, hz⟩ := hrel
    have HZ := Lib.hid hz
    have HC := Lib.hid hcell
    have HB := Lib.hid hb
    clear hz hb
    by_cases h0 : 0 < m
    · obtain ⟨k, rfl⟩ : ∃ k, m = k + 1 := ⟨m - 1, by omega⟩
      have hx := hcell k (by omega)
      clear hcell
      go_wp2
      · have h : (g k == 0) = true := by assumption
        go_round
        case rel => 
          refine ⟨k, by omega, by go_num, fun i h1 h2 => ?_⟩
          rcases Nat.eq_or_lt_of_le h1 with h1 | h1
          · subst h1; exact eq_of_beq h
          · exact HZ.out i h1 h2
        case measure => simp [intOf]
      · have h : (g k == 0) = false := by assumption
        go_ret
        exact ⟨_, k + 1, rfl, hm, fun _ => rfl, Num.Trim.of h, Num.val_cut hm HZ.out, rfl⟩
    · obtain rfl : m = 0 := by omega
      clear hcell h0
      go_wp2
      go_ret
      exact ⟨_, 0, rfl, hm, fun h => absurd h (by omega), fun k hk => absurd hk (by omega), Num.val_cut hm HZ.out, rfl⟩

/-- The call returns a value; the world is as it was. -/
def RetPost (v : Value) (w : World) (e : Ending) (w' : World) : Prop := e = .returned v ∧ w = w'

set_option maxHeartbeats 400000 in
theorem trim_some (w : World) (b off n cap : Nat) (g : Nat → Int) (hn : n ≤ cap) (hc : n ≤ 1099511627776)
    (hcell : ∀ i, i < n → w.cell? ⟨b, off + i, none⟩ = some (.int .u32 (g i))) :
    Calls Tryz.prog 144 #[.slice (some ⟨b, off, none⟩) n cap] w (RetPost (.slice (some ⟨b, off, none⟩) (Num.tl g n) cap) w) := by
  have HC := Lib.hid hcell
  clear hcell
  go_enter Tryz.func144, Tryz.ntmps144
  go_wp2
  go_loop [3] (fun t => ∃ m : Nat, m ≤ n ∧ t = .int .i64 m ∧ Num.tl g m = Num.tl g n) (fun t => (intOf t).toNat)
  case atStart => exact ⟨n, Nat.le_refl _, rfl, rfl⟩
  case round =>
    obtain ⟨m, hm, rfl, hz⟩ := hrel
    have HZ := Lib.hid hz
    clear hz
    by_cases h0 : 0 < m
    · obtain ⟨k, rfl⟩ : ∃ k, m = k + 1 := ⟨m - 1, by omega⟩
      have hx := HC.out k (by omega)
      go_wp2
      · have h : (g k == 0) = true := by assumption
        go_round
        case rel => exact ⟨k, by omega, by go_num, by rw [← HZ.out, Num.tl, if_pos (eq_of_beq h)]⟩
        case measure => simp [intOf]
      · have h : (g k == 0) = false := by assumption
        go_ret
        exact ⟨by rw [← HZ.out, Num.tl, if_neg (fun e => by rw [e] at h; cases h)]; rfl, rfl⟩
    · obtain rfl : m = 0 := by omega
      clear h0
      go_wp2
      go_ret
      exact ⟨by rw [← HZ.out]; rfl, rfl⟩

theorem trim_calls (w : World) (A : Option Addr) (n cap : Nat) (g : Nat → Int) (hd : Num.Dig g n) (hn : n ≤ cap) (hc : n ≤ 1099511627776) (ha : At w A g n) :
    Calls Tryz.prog 144 #[.slice A n cap] w (TrimPost w A cap n g) := by
  rcases Nat.eq_zero_or_pos n with rfl | h0
  · exact trim_zero w A cap g
  · obtain ⟨b, off, rfl, hb, hcell⟩ := ha h0
    exact trim_pos w b off n cap g hd hn hc hb hcell

/-- The parts of a valid number, its limbs in memory. -/
def WD (w : World) (neg : Bool) (A : Option Addr) (n cap : Nat) (x : Int) : Prop :=
  ∃ g : Nat → Int, n ≤ cap ∧ n ≤ 4096 ∧ Num.Dig g n ∧ At w A g n ∧ Num.Trim g n ∧ (n = 0 → neg = false) ∧ x = Num.sg neg * Num.val g n
theorem WD.below {w w' : World} {neg : Bool} {A : Option Addr} {n cap : Nat} {x : Int} (h : WD w neg A n cap x) (hb : Below w.heap.size w w') : WD w' neg A n cap x := by
  obtain ⟨g, h1, h2, h3, h4, h5⟩ := h
  exact ⟨g, h1, h2, h3, h4.below hb, h5⟩
/-- A value is the struct of a valid number. -/
def Wid (w : World) (v : Value) (x : Int) : Prop := ∃ (neg : Bool) (A : Option Addr) (n cap : Nat), v = .agg #[.bool neg, .slice A n cap] ∧ WD w neg A n cap x
theorem Wid.below {w w' : World} {v : Value} {x : Int} (h : Wid w v x) (hb : Below w.heap.size w w') : Wid w' v x := by
  obtain ⟨neg, A, n, cap, e, h⟩ := h
  exact ⟨neg, A, n, cap, e, h.below hb⟩
theorem WD.zero (w : World) : WD w false none 0 0 0 := ⟨fun _ => 0, Nat.le_refl _, by omega, fun i hi => absurd hi (by omega), At.zero _ _ _, fun k hk => absurd hk (by omega), fun _ => rfl, by simp [Num.sg, Num.val]⟩

/-- Element i of a row of numbers is valid. -/
structure El (w : World) (b i : Nat) (neg : Bool) (A : Option Addr) (n cap : Nat) (x : Int) : Prop where
  c0 : w.cell? ⟨b, i * 2, none⟩ = some (.bool neg)
  c1 : w.cell? ⟨b, i * 2 + 1, none⟩ = some (.slice A n cap)
  num : WD w neg A n cap x

def OkPost (v : Value) (w : World) (e : Ending) (w' : World) : Prop := e = .returned v ∧ Below w.heap.size w w'

set_option maxRecDepth 10000 in
set_option maxHeartbeats 400000 in
theorem check_any (w : World) (b m c : Nat) (hm : m ≤ 2) (hb : b < w.heap.size) (neg : Nat → Bool) (A : Nat → Option Addr) (n cap : Nat → Nat) (x : Nat → Int)
    (h : ∀ i, i < m → El w b i (neg i) (A i) (n i) (cap i) (x i)) :
    Calls Tryz.prog 98 #[.slice (some ⟨b, 0, none⟩) m c] w (OkPost (.int .i64 0) w) := by
  go_enter Tryz.func98, Tryz.ntmps98
  go_wp2
  go_loopw [8] (fun i wr => ∃ k : Nat, k ≤ m ∧ i = .int .i64 k ∧ Below w.heap.size w wr) (fun i _ => m - (intOf i).toNat)
  case atStart => exact ⟨0, Nat.zero_le _, rfl, Below.refl _ _⟩
  case round =>
    obtain ⟨k, hk, rfl, hB⟩ := hrel
    by_cases hlt : k < m
    · obtain ⟨c0, c1, g, _, hn, _, hrow, ht, hs, _⟩ := h k hlt
      have HH := Lib.hid h
      clear h
      have c0 : wr.cell? ⟨b, k * 2, none⟩ = some (.bool (neg k)) := (hB.cell (p := ⟨b, k * 2, none⟩) hb).trans c0
      have c1 : wr.cell? ⟨b, k * 2 + 1, none⟩ = some (.slice (A k) (n k) (cap k)) := (hB.cell (p := ⟨b, k * 2 + 1, none⟩) hb).trans c1
      generalize neg k = neg' at *
      generalize A k = A' at *
      generalize n k = n' at *
      generalize cap k = cap' at *
      have HB := Lib.hid hB
      rcases Nat.eq_zero_or_pos n' with rfl | h0
      · obtain rfl := hs rfl
        have HT := Lib.hid ht
        clear hs hrow ht hB
        go_wp2
        go_roundw
        case rel => exact ⟨k + 1, by omega, by go_num, HB.out.alloc HB.out.size _⟩
        case measure => simp [intOf]; omega
      · obtain ⟨ab, ao, rfl, hab, hcell⟩ := hrow h0
        obtain ⟨j, rfl⟩ : ∃ j, n' = j + 1 := ⟨n' - 1, by omega⟩
        have hx : wr.cell? ⟨ab, ao + j, none⟩ = some (.int .u32 (g j)) := (hB.cell (p := ⟨ab, ao + j, none⟩) hab).trans (hcell j (by omega))
        have h1 : (g j == 0) = false := beq_eq_false_iff_ne.2 (ht j rfl)
        have hab' : ab < wr.heap.size := Nat.lt_of_lt_of_le hab hB.size
        clear hs hcell ht hB hrow h0
        go_wp2
        go_roundw
        case rel => exact ⟨k + 1, by omega, by go_num, HB.out.alloc HB.out.size _⟩
        case measure => simp [intOf]; omega
    · obtain rfl : k = m := by omega
      have HH := Lib.hid h
      clear h
      go_wp2
      go_ret
      exact ⟨rfl, hB⟩

/-- One number. -/
theorem check1 (w : World) (b c : Nat) (hb : b < w.heap.size) (neg : Bool) (A : Option Addr) (n cap : Nat) (x : Int) (c0 : w.cell? ⟨b, 0, none⟩ = some (.bool neg)) (c1 : w.cell? ⟨b, 1, none⟩ = some (.slice A n cap)) (h : WD w neg A n cap x) :
    Calls Tryz.prog 98 #[.slice (some ⟨b, 0, none⟩) 1 c] w (OkPost (.int .i64 0) w) :=
  check_any w b 1 c (by omega) hb (fun _ => neg) (fun _ => A) (fun _ => n) (fun _ => cap) (fun _ => x) fun i hi => by
    obtain rfl : i = 0 := by omega
    exact ⟨c0, c1, h⟩
/-- Two numbers. -/
theorem check2 (w : World) (b c : Nat) (hb : b < w.heap.size) (neg neg' : Bool) (A A' : Option Addr) (n n' cap cap' : Nat) (x x' : Int) (c0 : w.cell? ⟨b, 0, none⟩ = some (.bool neg)) (c1 : w.cell? ⟨b, 1, none⟩ = some (.slice A n cap)) (h : WD w neg A n cap x)
    (c2 : w.cell? ⟨b, 2, none⟩ = some (.bool neg')) (c3 : w.cell? ⟨b, 3, none⟩ = some (.slice A' n' cap')) (h' : WD w neg' A' n' cap' x') :
    Calls Tryz.prog 98 #[.slice (some ⟨b, 0, none⟩) 2 c] w (OkPost (.int .i64 0) w) :=
  check_any w b 2 c (by omega) hb (fun i => if i = 0 then neg else neg') (fun i => if i = 0 then A else A') (fun i => if i = 0 then n else n') (fun i => if i = 0 then cap else cap') (fun i => if i = 0 then x else x') fun i hi => by
    rcases Nat.lt_or_ge i 1 with h0 | h0
    · obtain rfl : i = 0 := by omega
      exact ⟨c0, c1, h⟩
    · obtain rfl : i = 1 := by omega
      exact ⟨c2, c3, h'⟩

def NumPost (x : Int) (w : World) (e : Ending) (w' : World) : Prop := ∃ v, e = .returned (.tuple #[v, .int .i64 (Num.ferr x)]) ∧ Wid w' v (Num.fit x) ∧ Below w.heap.size w w'

set_option maxHeartbeats 400000 in
theorem made_calls (w : World) (neg : Bool) (A : Option Addr) (n cap : Nat) (g : Nat → Int) (hd : Num.Dig g n) (hn : n ≤ cap) (hc : n ≤ 1099511627776) (ha : At w A g n) :
    Calls Tryz.prog 99 #[.bool neg, .slice A n cap] w (NumPost (Num.sg neg * Num.val g n) w) := by
  have HA := Lib.hid ha
  clear ha
  go_enter Tryz.func99, Tryz.ntmps99
  go_wp2_with fail
  refine (trim_calls _ A n cap g hd hn hc (HA.out.below ((Below.refl _ _).alloc (Nat.le_refl _) _))).mono ?_
  rintro e w1 ⟨A', m, rfl, hm, ha', ht, hv, rfl⟩
  have HV := Lib.hid hv
  have HA' : Hid (At w A' g m) := by
    rcases Nat.eq_zero_or_pos m with rfl | h0
    · exact Lib.hid (At.zero _ _ _)
    · rw [ha' h0]; exact Lib.hid (HA.out.mono hm)
  have HT := Lib.hid ht
  clear hv ha' ht
  by_cases hbig : 4096 < m
  · have hbi : (4096 : Int) < m := by omega
    go_wp2
    refine bodyPost_ret (v := .tuple #[.agg #[.bool false, .slice none 0 0], .int .i64 16]) (by simp [results, Tryz.results99, go_sem]) rfl ?_
    have hv := HV.out
    have hf := Num.fits_large neg (hd.mono hm) HT.out hbig
    rw [← hv] at hf
    refine ⟨_, by rw [Num.ferr_not hf], ?_, ?_⟩
    · rw [Num.fit_not hf]; exact ⟨_, _, _, _, rfl, WD.zero _⟩
    · exact (Below.refl _ _).alloc (Nat.le_refl _) _
  · have hf : Num.fits (Num.sg neg * Num.val g n) = true := by rw [HV.out]; exact Num.fits_small neg (hd.mono hm) (by omega)
    have HF := Lib.hid hf
    clear hf
    rcases Nat.eq_zero_or_pos m with rfl | h0
    · cases neg
      all_goals
        go_wp2
        refine bodyPost_ret (v := .tuple #[.agg #[.bool false, .slice A' 0 cap], .int .i64 0]) (by simp [results, Tryz.results99, go_sem]) rfl ?_
        refine ⟨_, by rw [Num.ferr_of HF.out], ?_, ?_⟩
        · rw [Num.fit_of HF.out, HV.out]; exact ⟨_, _, _, _, rfl, g, by omega, by omega, hd.mono hm, At.zero _ _ _, HT.out, fun _ => rfl, by simp [Num.val]⟩
        · exact (Below.refl _ _).alloc (Nat.le_refl _) _
    · have h0i : (0 : Int) < m := by omega
      cases neg
      · go_wp2
        refine bodyPost_ret (v := .tuple #[.agg #[.bool false, .slice A' m cap], .int .i64 0]) (by simp [results, Tryz.results99, go_sem]) rfl ?_
        refine ⟨_, by rw [Num.ferr_of HF.out], ?_, ?_⟩
        · rw [Num.fit_of HF.out, HV.out]; exact ⟨_, _, _, _, rfl, g, by omega, by omega, hd.mono hm, HA'.out.below ((Below.refl _ _).alloc (Nat.le_refl _) _), HT.out, fun _ => rfl, rfl⟩
        · exact (Below.refl _ _).alloc (Nat.le_refl _) _
      · go_wp2
        refine bodyPost_ret (v := .tuple #[.agg #[.bool true, .slice A' m cap], .int .i64 0]) (by simp [results, Tryz.results99, go_sem]) rfl ?_
        refine ⟨_, by rw [Num.ferr_of HF.out], ?_, ?_⟩
        · rw [Num.fit_of HF.out, HV.out]; exact ⟨_, _, _, _, rfl, g, by omega, by omega, hd.mono hm, HA'.out.below ((Below.refl _ _).alloc (Nat.le_refl _) _), HT.out, fun h => absurd h (by omega), rfl⟩
        · exact (Below.refl _ _).alloc (Nat.le_refl _) _

end Go.Proofs.YtilaheplclaokaaGreatDoor
namespace Go.Proofs.YtilaheplclaokaaGreatDoor
open Go.RowKit


set_option maxHeartbeats 400000 in
theorem add32_calls (x y c : Int) (hx0 : 0 ≤ x) (hx : x < 4294967296) (hy0 : 0 ≤ y) (hy : y < 4294967296) (hc0 : 0 ≤ c) (hc : c ≤ 1) (w : World) :
    Calls Tryz.prog 152 #[.int .u32 x, .int .u32 y, .int .u32 c] w (RetPost (.tuple #[.int .u32 ((x + y + c) % 4294967296), .int .u32 ((x + y + c) / 4294967296)]) w) := by
  go_enter Tryz.func152, Tryz.ntmps152
  go_wp2
  go_ret2
  exact ⟨rfl, rfl⟩

theorem top_bit (X Y D : Nat) (hX : X < 4294967296) (hY : Y < 4294967296) (hD : D < 4294967296) (c : Nat) (hc : c ≤ 1) (e : (D : Int) = ((X : Int) - Y - c) % 4294967296) :
    ((((((4294967295 ^^^ X) &&& Y) ||| ((4294967295 ^^^ (X ^^^ Y)) &&& D)) / 2147483648 : Nat)) : Int) = Num.bor X Y c := by
  have h : (((4294967295 ^^^ X) &&& Y) ||| ((4294967295 ^^^ (X ^^^ Y)) &&& D)) / 2147483648 = (((1 ^^^ (X / 2147483648)) &&& (Y / 2147483648)) ||| ((1 ^^^ ((X / 2147483648) ^^^ (Y / 2147483648))) &&& (D / 2147483648))) := by
    have e31 : ∀ n : Nat, n / 2147483648 = n >>> 31 := fun n => by rw [Nat.shiftRight_eq_div_pow]
    rw [e31 X, e31 Y, e31 D, e31, Nat.shiftRight_or_distrib, Nat.shiftRight_and_distrib, Nat.shiftRight_and_distrib, Nat.shiftRight_xor_distrib, Nat.shiftRight_xor_distrib, Nat.shiftRight_xor_distrib, show (4294967295 >>> 31 : Nat) = 1 from by decide]
  rw [h]
  generalize hx : X / 2147483648 = x1
  generalize hy : Y / 2147483648 = y1
  generalize hd : D / 2147483648 = d1
  have h1 : x1 = 0 ∨ x1 = 1 := by omega
  have h2 : y1 = 0 ∨ y1 = 1 := by omega
  have h3 : d1 = 0 ∨ d1 = 1 := by omega
  unfold Num.bor
  rcases h1 with rfl | rfl <;> rcases h2 with rfl | rfl <;> rcases h3 with rfl | rfl <;> simp <;> omega

theorem sub_top (x y c : Int) (hx0 : 0 ≤ x) (hx : x < 4294967296) (hy0 : 0 ≤ y) (hy : y < 4294967296) (hc0 : 0 ≤ c) (hc : c ≤ 1) :
    bits BinOp.or IntKind.u32 (bits BinOp.and IntKind.u32 (bits BinOp.xor IntKind.u32 IntKind.u32.max x) y)
                (bits BinOp.and IntKind.u32
                  (bits BinOp.xor IntKind.u32 IntKind.u32.max (bits BinOp.xor IntKind.u32 x y))
                  ((x - y - c) % 4294967296)) / 2147483648 = Num.bor x y c := by
  obtain ⟨X, rfl⟩ := Int.eq_ofNat_of_zero_le hx0
  obtain ⟨Y, rfl⟩ := Int.eq_ofNat_of_zero_le hy0
  obtain ⟨C, rfl⟩ := Int.eq_ofNat_of_zero_le hc0
  have hd0 : 0 ≤ ((X : Int) - Y - C) % 4294967296 := by omega
  obtain ⟨D, hD⟩ := Int.eq_ofNat_of_zero_le hd0
  rw [hD]
  have hX : X < 4294967296 := by omega
  have hY : Y < 4294967296 := by omega
  have hDl : D < 4294967296 := by omega
  have hm : IntKind.u32.max = ((4294967295 : Nat) : Int) := rfl
  rw [hm, u32_xor_nat _ _ (by omega) hX, u32_xor_nat _ _ hX hY]
  have b1 : (4294967295 ^^^ X) < 4294967296 := Nat.xor_lt_two_pow (n := 32) (by omega) hX
  have b2 : (X ^^^ Y) < 4294967296 := Nat.xor_lt_two_pow (n := 32) hX hY
  rw [u32_xor_nat _ _ (by omega) b2]
  have b3 : (4294967295 ^^^ (X ^^^ Y)) < 4294967296 := Nat.xor_lt_two_pow (n := 32) (by omega) b2
  rw [u32_and_nat _ _ b1 hY, u32_and_nat _ _ b3 hDl]
  have b4 : (4294967295 ^^^ X) &&& Y < 4294967296 := Nat.and_lt_two_pow _ (n := 32) hY
  have b5 : (4294967295 ^^^ (X ^^^ Y)) &&& D < 4294967296 := Nat.and_lt_two_pow _ (n := 32) hDl
  rw [u32_or_nat _ _ b4 b5]
  have := top_bit X Y D hX hY hDl C (by omega) hD.symm
  rw [← this, Int.natCast_ediv]
  rfl

set_option maxHeartbeats 400000 in
theorem sub32_calls (x y c : Int) (hx0 : 0 ≤ x) (hx : x < 4294967296) (hy0 : 0 ≤ y) (hy : y < 4294967296) (hc0 : 0 ≤ c) (hc : c ≤ 1) (w : World) :
    Calls Tryz.prog 153 #[.int .u32 x, .int .u32 y, .int .u32 c] w (RetPost (.tuple #[.int .u32 ((x - y - c) % 4294967296), .int .u32 (Num.bor x y c)]) w) := by
  have HT := Lib.hid (sub_top x y c hx0 hx hy0 hy hc0 hc)
  go_enter Tryz.func153, Tryz.ntmps153
  go_wp2
  go_ret2
  refine ⟨?_, rfl⟩
  rw [← HT.out]
  rfl

/-- The call returns a value; some orders have been drawn. -/
def QuietPost (v : Value) (w : World) (e : Ending) (w' : World) : Prop := e = .returned v ∧ ∃ n, w' = w.drewN n

theorem u64_join (x y : Int) (hx0 : 0 ≤ x) (hx : x < 4294967296) (hy0 : 0 ≤ y) (hy : y < 4294967296) : bits BinOp.or IntKind.u64 (x * 4294967296) y = x * 4294967296 + y := by
  rw [u64_or _ _ (by omega) (by omega) hy0 (by omega), nat_join 32 _ _ (by show (x * 4294967296).toNat % 4294967296 = 0; omega) (by show y.toNat < 4294967296; omega)]
  omega

set_option maxHeartbeats 400000 in
theorem div32_calls (x y c : Int) (hx0 : 0 ≤ x) (hx : x < 4294967296) (hy0 : 0 ≤ y) (hy : y < 4294967296) (hc0 : x < c) (hc : c < 4294967296) (w : World) :
    Calls Tryz.prog 194 #[.int .u32 x, .int .u32 y, .int .u32 c] w (QuietPost (.tuple #[.int .u32 ((x * 4294967296 + y) / c), .int .u32 ((x * 4294967296 + y) % c)]) w) := by
  have h0 : (c != 0) = true := by rw [bne_iff_ne]; omega
  have h1 : ¬ c ≤ x := by omega
  have hor := u64_join x y hx0 hx hy0 hy
  have q0 : 0 ≤ (x * 4294967296 + y) / c := Int.ediv_nonneg (by omega) (by omega)
  have q1 : (x * 4294967296 + y) / c < 4294967296 := Int.ediv_lt_of_lt_mul (by omega) (by omega)
  have r0 : 0 ≤ (x * 4294967296 + y) % c := Int.emod_nonneg _ (by omega)
  have r1 : (x * 4294967296 + y) % c < c := Int.emod_lt_of_pos _ (by omega)
  go_enter Tryz.func194, Tryz.ntmps194
  go_wp2
  go_quiet (fail)
  go_wp2
  go_ret2
  refine ⟨?_, _, rfl⟩
  rfl

end Go.Proofs.YtilaheplclaokaaGreatDoor
namespace Go.Proofs.YtilaheplclaokaaGreatDoor
open Go.RowKit

/-- The limbs that a make lays. -/
def zeros (n : Nat) : Array Value := madeCells #[.int .u32 0] n
theorem zeros_get (n i : Nat) (h : i < n) : (zeros n)[i]? = some (.int .u32 0) := by
  unfold zeros
  rw [← Array.getElem?_toList, toList_madeCells_one]
  simp [h]

/-- A block of the call's own holds limbs. -/
structure Buf (w : World) (b n : Nat) (o : Nat → Int) : Prop where
  lt : b < w.heap.size
  cell : ∀ i, i < n → w.cell? ⟨b, i, none⟩ = some (.int .u32 (o i))
  free : ∀ i, i < n → w.frozen? ⟨b, i, none⟩ = false
theorem Buf.new (w : World) (n : Nat) (t : TypeId) : Buf (w.alloc (.cells (zeros n) t)) w.heap.size n (fun _ => 0) where
  lt := by simp
  cell := fun i hi => by rw [World.cell?_alloc_at _ _ _ _ rfl]; exact zeros_get n i hi
  free := fun i hi => by simp
theorem Buf.set {w : World} {b n k : Nat} {o : Nat → Int} (h : Buf w b n o) (x : Int) (hk : k < n) : Buf (w.setCell ⟨b, k, none⟩ (.int .u32 x)) b n (Num.upd o k x) where
  lt := by simpa [World.setCell] using h.lt
  cell := fun i hi => by
    unfold Num.upd
    split
    · rename_i e; subst e; exact World.cell?_setCell_same' _ _ _ (by rw [h.cell i hi]; rfl)
    · rename_i e
      have hne : (⟨b, k, none⟩ : Addr) ≠ ⟨b, i, none⟩ := fun e' => e (by injection e' with _ e'; exact e'.symm)
      rw [World.cell?_setCell_other (h := hne)]
      exact h.cell i hi
  free := fun i hi => by rw [World.frozen?_setCell]; exact h.free i hi
theorem Buf.at {w : World} {b n : Nat} {o : Nat → Int} (h : Buf w b n o) : At w (some ⟨b, 0, none⟩) o n := fun _ => ⟨b, 0, rfl, h.lt, fun i hi => by rw [Nat.zero_add]; exact h.cell i hi⟩
theorem Buf.drewN {w : World} {b n : Nat} {o : Nat → Int} (h : Buf w b n o) (k : Nat) : Buf (w.drewN k) b n o where
  lt := by simpa using h.lt
  cell := fun i hi => by simpa using h.cell i hi
  free := fun i hi => by simpa using h.free i hi
theorem Buf.below {w w' : World} {b n : Nat} {o : Nat → Int} (h : Buf w b n o) (hb : Below w.heap.size w w') : Buf w' b n o where
  lt := Nat.lt_of_lt_of_le h.lt hb.size
  cell := fun i hi => (hb.cell (p := ⟨b, i, none⟩) h.lt).trans (h.cell i hi)
  free := fun i hi => (hb.frozen (p := ⟨b, i, none⟩) h.lt).trans (h.free i hi)

theorem Tryz.infoU32 : (Tryz.prog.info? 175).map (fun i => (i.zero, i.size, i.bytes)) = some (some (.int .u32 0), 1, 4) := by kernel_rfl
theorem make_limbs (n : Nat) (hn : n ≤ 1099511627776) (w : World) :
    (Instr.makeSlice 90 (.int .i64 (n : Int)) (.int .i64 (n : Int))).run Tryz.prog w = .ok (.slice (some ⟨w.heap.size, 0, none⟩) n n) (w.alloc (.cells (zeros n) 175)) := by
  obtain ⟨i, hi, hz, hs, hb⟩ := info_parts Tryz.infoU32
  have h := run_make (P := Tryz.prog) w 90 175 i (.int .u32 0) Tryz.underlying90 hi hz .i64 .i64 n n (by omega) (by omega) (by rw [hb]; omega) (by omega)
  rw [hs] at h
  simp only [Int.toNat_natCast, Nat.mul_one] at h
  exact h

/-- A row of new limbs. -/
def RowPost (n : Nat) (x : Int) (w : World) (e : Ending) (w' : World) : Prop :=
  ∃ b o, e = .returned (.slice (some ⟨b, 0, none⟩) n n) ∧ Buf w' b n o ∧ Num.Dig o n ∧ Num.val o n = x ∧ w.heap.size ≤ b ∧ Below w.heap.size w w'

set_option maxRecDepth 10000 in
set_option maxHeartbeats 1000000 in
theorem plus_ge (w : World) (A A' : Option Addr) (n m cap cap' : Nat) (g h : Nat → Int) (hdg : Num.Dig g n) (hdh : Num.Dig h m) (hn : n ≤ 1099511627775) (hm : m ≤ n) (ha : At w A g n) (hb : At w A' h m) :
    Calls Tryz.prog 103 #[.slice A n cap, .slice A' m cap'] w (RowPost (n + 1) (Num.val g n + Num.val h m) w) := by
  have hdec : decide (n < m) = false := by simpa using hm
  have hmk := make_limbs (n + 1) (by omega)
  simp only [Int.natCast_add, Int.natCast_one] at hmk
  have HA := Lib.hid ha
  have HB := Lib.hid hb
  clear ha hb
  go_enter Tryz.func103, Tryz.ntmps103
  go_wp2
  have hbuf := Buf.new w (n + 1) 175
  have hbel := (Below.refl w.heap.size w).alloc (Nat.le_refl _) (.cells (zeros (n + 1)) 175)
  generalize w.alloc (.cells (zeros (n + 1)) 175) = w1 at *
  go_loopw [6, 23] (fun c i wr => ∃ (k : Nat) (o : Nat → Int) (q : Int), k ≤ n ∧ c = .int .u32 q ∧ 0 ≤ q ∧ q ≤ 1 ∧ i = .int .i64 k ∧ Buf wr w.heap.size (n + 1) o ∧ Below w.heap.size w wr ∧ Num.Dig o k ∧ Num.val o k + q * Num.P k = Num.val g k + Num.val (Num.ext h m) k) (fun _ i _ => n - (intOf i).toNat)
  case atStart => exact ⟨0, _, 0, Nat.zero_le _, rfl, Int.le_refl _, by omega, rfl, hbuf, hbel, fun i hi => absurd hi (by omega), rfl⟩
  case round =>
    clear hbuf hbel hmk hdec
    obtain ⟨k, o, q, hk, rfl, hq0, hq1, rfl, hbuf, hbel, hdo, hv⟩ := hrel
    have HV := Lib.hid hv
    have HD := Lib.hid hdo
    have HG := Lib.hid hdg
    have HH := Lib.hid hdh
    clear hv hdo hdg hdh
    by_cases hlt : k < n
    · obtain ⟨ab, ao, rfl, hab, hcell⟩ := HA.out (by omega)
      have hx : wr.cell? ⟨ab, ao + k, none⟩ = some (.int .u32 (g k)) := (hbel.cell (p := ⟨ab, ao + k, none⟩) hab).trans (hcell k hlt)
      have hgk := HG.out k hlt
      clear hcell
      by_cases hltm : k < m
      · obtain ⟨bb, bo, rfl, hbb, hcellb⟩ := HB.out (by omega)
        have hy : wr.cell? ⟨bb, bo + k, none⟩ = some (.int .u32 (h k)) := (hbel.cell (p := ⟨bb, bo + k, none⟩) hbb).trans (hcellb k hltm)
        have hhk := HH.out k hltm
        clear hcellb
        have hc := hbuf.cell k (by omega)
        have hf := hbuf.free k (by omega)
        have hcar := Num.plus_carry hgk.1 hgk.2 hhk.1 hhk.2 hq0 hq1
        go_wp2_with (go_at_call 152; refine (add32_calls _ _ _ hgk.1 hgk.2 hhk.1 hhk.2 hq0 hq1 _).mono ?_; rintro e w' ⟨rfl, rfl⟩)
        go_roundw
        case rel => exact ⟨k + 1, _, _, by omega, rfl, hcar.1, hcar.2, by go_num, hbuf.set _ (by omega), hbel.setCell (p := ⟨w.heap.size, k, none⟩) (Nat.le_refl _) _, HD.out.snoc (by omega) (by omega), Num.plus_step (Num.ext_lt hltm) HV.out⟩
        case measure => simp [intOf]; omega
      · have hc := hbuf.cell k (by omega)
        have hf := hbuf.free k (by omega)
        have hcar := Num.plus_carry hgk.1 hgk.2 (Int.le_refl 0) (by omega) hq0 hq1
        simp only [Int.add_zero] at hcar
        go_wp2_with (go_at_call 152; refine (add32_calls _ _ _ hgk.1 hgk.2 (Int.le_refl 0) (by omega) hq0 hq1 _).mono ?_; simp only [Int.add_zero]; rintro e w' ⟨rfl, rfl⟩)
        go_roundw
        case rel => exact ⟨k + 1, _, _, by omega, rfl, hcar.1, hcar.2, by go_num, hbuf.set _ (by omega), hbel.setCell (p := ⟨w.heap.size, k, none⟩) (Nat.le_refl _) _, HD.out.snoc (by omega) (by omega), Num.plus_step0 (Num.ext_ge (by omega)) HV.out⟩
        case measure => simp [intOf]; omega
    · obtain rfl : k = n := by omega
      have hc := hbuf.cell k (by omega)
      have hf := hbuf.free k (by omega)
      go_wp2
      go_ret
      exact ⟨w.heap.size, _, rfl, hbuf.set _ (by omega), HD.out.snoc (by omega) (by omega), Num.plus_last HV.out (Num.val_ext hm), Nat.le_refl _, hbel.setCell (p := ⟨w.heap.size, k, none⟩) (Nat.le_refl _) _⟩

set_option maxRecDepth 10000 in
set_option maxHeartbeats 1000000 in
theorem plus_lt (w : World) (A A' : Option Addr) (n m cap cap' : Nat) (g h : Nat → Int) (hdg : Num.Dig g n) (hdh : Num.Dig h m) (hn : n ≤ 1099511627775) (hm : m < n) (ha : At w A g n) (hb : At w A' h m) :
    Calls Tryz.prog 103 #[.slice A' m cap', .slice A n cap] w (RowPost (n + 1) (Num.val g n + Num.val h m) w) := by
  have hdec : decide (m < n) = true := by simpa using hm
  have hmk := make_limbs (n + 1) (by omega)
  simp only [Int.natCast_add, Int.natCast_one] at hmk
  have HA := Lib.hid ha
  have HB := Lib.hid hb
  clear ha hb
  go_enter Tryz.func103, Tryz.ntmps103
  go_wp2
  have hbuf := Buf.new w (n + 1) 175
  have hbel := (Below.refl w.heap.size w).alloc (Nat.le_refl _) (.cells (zeros (n + 1)) 175)
  generalize w.alloc (.cells (zeros (n + 1)) 175) = w1 at *
  go_loopw [6, 23] (fun c i wr => ∃ (k : Nat) (o : Nat → Int) (q : Int), k ≤ n ∧ c = .int .u32 q ∧ 0 ≤ q ∧ q ≤ 1 ∧ i = .int .i64 k ∧ Buf wr w.heap.size (n + 1) o ∧ Below w.heap.size w wr ∧ Num.Dig o k ∧ Num.val o k + q * Num.P k = Num.val g k + Num.val (Num.ext h m) k) (fun _ i _ => n - (intOf i).toNat)
  case atStart => exact ⟨0, _, 0, Nat.zero_le _, rfl, Int.le_refl _, by omega, rfl, hbuf, hbel, fun i hi => absurd hi (by omega), rfl⟩
  case round =>
    clear hbuf hbel hmk hdec
    obtain ⟨k, o, q, hk, rfl, hq0, hq1, rfl, hbuf, hbel, hdo, hv⟩ := hrel
    have HV := Lib.hid hv
    have HD := Lib.hid hdo
    have HG := Lib.hid hdg
    have HH := Lib.hid hdh
    clear hv hdo hdg hdh
    by_cases hlt : k < n
    · obtain ⟨ab, ao, rfl, hab, hcell⟩ := HA.out (by omega)
      have hx : wr.cell? ⟨ab, ao + k, none⟩ = some (.int .u32 (g k)) := (hbel.cell (p := ⟨ab, ao + k, none⟩) hab).trans (hcell k hlt)
      have hgk := HG.out k hlt
      clear hcell
      by_cases hltm : k < m
      · obtain ⟨bb, bo, rfl, hbb, hcellb⟩ := HB.out (by omega)
        have hy : wr.cell? ⟨bb, bo + k, none⟩ = some (.int .u32 (h k)) := (hbel.cell (p := ⟨bb, bo + k, none⟩) hbb).trans (hcellb k hltm)
        have hhk := HH.out k hltm
        clear hcellb
        have hc := hbuf.cell k (by omega)
        have hf := hbuf.free k (by omega)
        have hcar := Num.plus_carry hgk.1 hgk.2 hhk.1 hhk.2 hq0 hq1
        go_wp2_with (go_at_call 152; refine (add32_calls _ _ _ hgk.1 hgk.2 hhk.1 hhk.2 hq0 hq1 _).mono ?_; rintro e w' ⟨rfl, rfl⟩)
        go_roundw
        case rel => exact ⟨k + 1, _, _, by omega, rfl, hcar.1, hcar.2, by go_num, hbuf.set _ (by omega), hbel.setCell (p := ⟨w.heap.size, k, none⟩) (Nat.le_refl _) _, HD.out.snoc (by omega) (by omega), Num.plus_step (Num.ext_lt hltm) HV.out⟩
        case measure => simp [intOf]; omega
      · have hc := hbuf.cell k (by omega)
        have hf := hbuf.free k (by omega)
        have hcar := Num.plus_carry hgk.1 hgk.2 (Int.le_refl 0) (by omega) hq0 hq1
        simp only [Int.add_zero] at hcar
        go_wp2_with (go_at_call 152; refine (add32_calls _ _ _ hgk.1 hgk.2 (Int.le_refl 0) (by omega) hq0 hq1 _).mono ?_; simp only [Int.add_zero]; rintro e w' ⟨rfl, rfl⟩)
        go_roundw
        case rel => exact ⟨k + 1, _, _, by omega, rfl, hcar.1, hcar.2, by go_num, hbuf.set _ (by omega), hbel.setCell (p := ⟨w.heap.size, k, none⟩) (Nat.le_refl _) _, HD.out.snoc (by omega) (by omega), Num.plus_step0 (Num.ext_ge (by omega)) HV.out⟩
        case measure => simp [intOf]; omega
    · obtain rfl : k = n := by omega
      have hc := hbuf.cell k (by omega)
      have hf := hbuf.free k (by omega)
      go_wp2
      go_ret
      exact ⟨w.heap.size, _, rfl, hbuf.set _ (by omega), HD.out.snoc (by omega) (by omega), Num.plus_last HV.out (Num.val_ext (Nat.le_of_lt hm)), Nat.le_refl _, hbel.setCell (p := ⟨w.heap.size, k, none⟩) (Nat.le_refl _) _⟩

theorem plus_calls (w : World) (A A' : Option Addr) (n m cap cap' : Nat) (g h : Nat → Int) (hdg : Num.Dig g n) (hdh : Num.Dig h m) (hn : n ≤ 1099511627775) (hm : m ≤ 1099511627775) (ha : At w A g n) (hb : At w A' h m) :
    Calls Tryz.prog 103 #[.slice A n cap, .slice A' m cap'] w (RowPost (max n m + 1) (Num.val g n + Num.val h m) w) := by
  rcases Nat.lt_or_ge n m with hlt | hge
  · have := plus_lt w A' A m n cap' cap h g hdh hdg hm hlt hb ha
    rw [Int.add_comm, Nat.max_eq_right (Nat.le_of_lt hlt)]
    exact this
  · have := plus_ge w A A' n m cap cap' g h hdg hdh hn hge ha hb
    rw [Nat.max_eq_left hge]
    exact this

set_option maxRecDepth 10000 in
set_option maxHeartbeats 1000000 in
theorem minus_calls (w : World) (A A' : Option Addr) (n m cap cap' : Nat) (g h : Nat → Int) (hdg : Num.Dig g n) (hdh : Num.Dig h m) (hn : n ≤ 1099511627775) (hm : m ≤ n) (hle : Num.val h m ≤ Num.val g n) (ha : At w A g n) (hb : At w A' h m) :
    Calls Tryz.prog 104 #[.slice A n cap, .slice A' m cap'] w (RowPost n (Num.val g n - Num.val h m) w) := by
  have hmk := make_limbs n (by omega)
  have HA := Lib.hid ha
  have HB := Lib.hid hb
  clear ha hb
  go_enter Tryz.func104, Tryz.ntmps104
  go_wp2
  have hbuf := Buf.new w n 175
  have hbel := (Below.refl w.heap.size w).alloc (Nat.le_refl _) (.cells (zeros n) 175)
  generalize w.alloc (.cells (zeros n) 175) = w1 at *
  go_loopw [6, 15] (fun c i wr => ∃ (k : Nat) (o : Nat → Int) (q : Int), k ≤ n ∧ c = .int .u32 q ∧ 0 ≤ q ∧ q ≤ 1 ∧ i = .int .i64 k ∧ Buf wr w.heap.size n o ∧ Below w.heap.size w wr ∧ Num.Dig o k ∧ Num.val o k - q * Num.P k = Num.val g k - Num.val (Num.ext h m) k) (fun _ i _ => n - (intOf i).toNat)
  case atStart => exact ⟨0, _, 0, Nat.zero_le _, rfl, Int.le_refl _, by omega, rfl, hbuf, hbel, fun i hi => absurd hi (by omega), rfl⟩
  case round =>
    clear hbuf hbel hmk
    obtain ⟨k, o, q, hk, rfl, hq0, hq1, rfl, hbuf, hbel, hdo, hv⟩ := hrel
    have HV := Lib.hid hv
    have HD := Lib.hid hdo
    have HG := Lib.hid hdg
    have HH := Lib.hid hdh
    clear hv hdo hdg hdh
    by_cases hlt : k < n
    · obtain ⟨ab, ao, rfl, hab, hcell⟩ := HA.out (by omega)
      have hx : wr.cell? ⟨ab, ao + k, none⟩ = some (.int .u32 (g k)) := (hbel.cell (p := ⟨ab, ao + k, none⟩) hab).trans (hcell k hlt)
      have hgk := HG.out k hlt
      clear hcell
      by_cases hltm : k < m
      · obtain ⟨bb, bo, rfl, hbb, hcellb⟩ := HB.out (by omega)
        have hy : wr.cell? ⟨bb, bo + k, none⟩ = some (.int .u32 (h k)) := (hbel.cell (p := ⟨bb, bo + k, none⟩) hbb).trans (hcellb k hltm)
        have hhk := HH.out k hltm
        clear hcellb
        have hc := hbuf.cell k (by omega)
        have hf := hbuf.free k (by omega)
        have hcar := Num.bor_range (g k) (h k) q
        go_wp2_with (go_at_call 153; refine (sub32_calls _ _ _ hgk.1 hgk.2 hhk.1 hhk.2 hq0 hq1 _).mono ?_; rintro e w' ⟨rfl, rfl⟩)
        go_roundw
        case rel => exact ⟨k + 1, _, _, by omega, rfl, hcar.1, hcar.2, by go_num, hbuf.set _ (by omega), hbel.setCell (p := ⟨w.heap.size, k, none⟩) (Nat.le_refl _) _, HD.out.snoc (by omega) (by omega), Num.minus_step (Num.ext_lt hltm) hgk.1 hgk.2 hhk.1 hhk.2 hq0 hq1 HV.out⟩
        case measure => simp [intOf]; omega
      · have hc := hbuf.cell k (by omega)
        have hf := hbuf.free k (by omega)
        have hcar := Num.bor_range (g k) 0 q
        go_wp2_with (go_at_call 153; refine (sub32_calls _ _ _ hgk.1 hgk.2 (Int.le_refl 0) (by omega) hq0 hq1 _).mono ?_; rintro e w' ⟨rfl, rfl⟩)
        go_roundw
        case rel => exact ⟨k + 1, _, _, by omega, rfl, hcar.1, hcar.2, by go_num, hbuf.set _ (by omega), hbel.setCell (p := ⟨w.heap.size, k, none⟩) (Nat.le_refl _) _, HD.out.snoc (by omega) (by omega), Num.minus_step0 (Num.ext_ge (by omega)) hgk.1 hgk.2 hq0 hq1 HV.out⟩
        case measure => simp [intOf]; omega
    · obtain rfl : k = n := by omega
      go_wp2
      go_ret
      exact ⟨w.heap.size, _, rfl, hbuf, HD.out, Num.minus_last HD.out HV.out (Num.val_ext hm) hq0 hq1 hle, Nat.le_refl _, hbel⟩

set_option maxRecDepth 10000 in
set_option maxHeartbeats 1000000 in
theorem times_calls (w : World) (A A' : Option Addr) (n m cap cap' : Nat) (g h : Nat → Int) (hdg : Num.Dig g n) (hdh : Num.Dig h m) (hn : n ≤ 549755813888) (hm : m ≤ 549755813888) (ha : At w A g n) (hb : At w A' h m) :
    Calls Tryz.prog 100 #[.slice A n cap, .slice A' m cap'] w (RowPost (n + m) (Num.val g n * Num.val h m) w) := by
  have hmk := make_limbs (n + m) (by omega)
  simp only [Int.natCast_add] at hmk
  have HA := Lib.hid ha
  have HB := Lib.hid hb
  clear ha hb
  go_enter Tryz.func100, Tryz.ntmps100
  go_wp2
  have hbuf := Buf.new w (n + m) 175
  have hbel := (Below.refl w.heap.size w).alloc (Nat.le_refl _) (.cells (zeros (n + m)) 175)
  generalize w.alloc (.cells (zeros (n + m)) 175) = w1 at *
  go_loopw [19] (fun i wr => ∃ (k : Nat) (o : Nat → Int), k ≤ n ∧ i = .int .i64 k ∧ Buf wr w.heap.size (n + m) o ∧ Below w.heap.size w wr ∧ Num.Dig o (n + m) ∧ Num.val o (k + m) = Num.val g k * Num.val h m) (fun i _ => n - (intOf i).toNat)
  case atStart => exact ⟨0, _, Nat.zero_le _, rfl, hbuf, hbel, fun i hi => ⟨Int.le_refl 0, by show (0 : Int) < 4294967296; omega⟩, by rw [Num.val_zero]; simp [Num.val]⟩
  case round =>
    clear hbuf hbel hmk
    obtain ⟨wo, rfl⟩ : ∃ wo : World, wo = wr := ⟨_, rfl⟩
    obtain ⟨i, o, hi, rfl, hbuf, hbel, hdo, hv⟩ := hrel
    have HV := Lib.hid hv
    have HD := Lib.hid hdo
    have HG := Lib.hid hdg
    have HH := Lib.hid hdh
    clear hv hdo hdg hdh
    by_cases hlt : i < n
    · obtain ⟨ab, ao, rfl, hab, hcell⟩ := HA.out (by omega)
      have hx : wo.cell? ⟨ab, ao + i, none⟩ = some (.int .u32 (g i)) := (hbel.cell (p := ⟨ab, ao + i, none⟩) hab).trans (hcell i hlt)
      have hgk := HG.out i hlt
      clear hcell
      go_wp2
      go_loopw [8, 26] (fun c j wr => ∃ (k : Nat) (o' : Nat → Int) (q : Int), k ≤ m ∧ c = .int .u64 q ∧ 0 ≤ q ∧ q < 4294967296 ∧ j = .int .i64 k ∧ Buf wr w.heap.size (n + m) o' ∧ Below w.heap.size w wr ∧ Num.Dig o' (n + m) ∧ Num.val o' (i + m) + q * Num.P (i + k) = Num.val g i * Num.val h m + g i * Num.val h k * Num.P i) (fun _ j _ => m - (intOf j).toNat)
      case atStart => exact ⟨0, o, 0, Nat.zero_le _, rfl, Int.le_refl 0, by omega, rfl, hbuf, hbel, HD.out, by rw [HV.out]; simp [Num.val]⟩
      case round =>
        clear hbuf hbel hx
        obtain ⟨k, o', q, hk, rfl, hq0, hq1, rfl, hbuf, hbel, hdo', hv'⟩ := hrel
        have HV' := Lib.hid hv'
        have HD' := Lib.hid hdo'
        clear hv' hdo'
        by_cases hltm : k < m
        · obtain ⟨bb, bo, rfl, hbb, hcellb⟩ := HB.out (by omega)
          have hy : wr.cell? ⟨bb, bo + k, none⟩ = some (.int .u32 (h k)) := (hbel.cell (p := ⟨bb, bo + k, none⟩) hbb).trans (hcellb k hltm)
          have hhk := HH.out k hltm
          clear hcellb
          have hc := hbuf.cell (i + k) (by omega)
          have hf := hbuf.free (i + k) (by omega)
          have hok := HD'.out (i + k) (by omega)
          have hpr := Num.prod_lt hgk.1 hgk.2 hhk.1 hhk.2
          go_wp2
          go_roundw
          case rel => exact ⟨k + 1, _, _, by omega, rfl, by omega, by omega, by go_num, hbuf.set _ (by omega), hbel.setCell (p := ⟨w.heap.size, i + k, none⟩) (Nat.le_refl _) _, HD'.out.upd (by omega) (by omega), Num.times_step hltm rfl HV'.out⟩
          case measure => simp [intOf]; omega
        · obtain rfl : k = m := by omega
          have hc := hbuf.cell (i + k) (by omega)
          have hf := hbuf.free (i + k) (by omega)
          go_wp2
          go_roundw
          case rel => exact ⟨i + 1, _, by omega, by go_num, hbuf.set _ (by omega), hbel.setCell (p := ⟨w.heap.size, i + k, none⟩) (Nat.le_refl _) _, HD'.out.upd hq0 hq1, Num.times_round HV'.out⟩
          case measure => simp [intOf]; omega
    · obtain rfl : i = n := by omega
      go_wp2
      go_ret
      exact ⟨w.heap.size, _, rfl, hbuf, HD.out, HV.out, Nat.le_refl _, hbel⟩

end Go.Proofs.YtilaheplclaokaaGreatDoor
namespace Go.Proofs.YtilaheplclaokaaGreatDoor
open Go.RowKit Go.Shelf

attribute [local go_sem] Oper.semAt_some

/-- The indices from the highest one on. -/
def dl (n : Nat) : List (Fin n) := (List.finRange n).reverse
theorem dl_length (n : Nat) : (dl n).length = n := by simp [dl]
theorem dl_get {n k : Nat} (h : k < (dl n).length) : (dl n)[k] = ⟨n - 1 - k, by simp [dl] at h; omega⟩ := by
  apply Fin.ext
  simp [dl]
theorem dl_take {n k d : Nat} (h : n = k + 1 + d) (hd : d < n) : (dl n).take (k + 1) = (dl n).take k ++ [⟨d, hd⟩] := by
  have hk : k < (dl n).length := by rw [dl_length]; omega
  rw [List.take_succ_eq_append_getElem hk, dl_get hk]
  congr 2
  apply Fin.ext
  show n - 1 - k = d
  omega

theorem dl_mem {n k : Nat} {j : Nat} (hj : j < n) (hk : n - 1 - j < k) : (⟨j, hj⟩ : Fin n) ∈ (dl n).take k := by
  rw [List.mem_take_iff_getElem]
  refine ⟨n - 1 - j, by rw [dl_length]; omega, ?_⟩
  rw [dl_get]
  apply Fin.ext
  show n - 1 - (n - 1 - j) = j
  omega
theorem dl_last {n k : Nat} (hk : k ≤ n) {ini : List (Fin n)} {last : Fin n} (e : (dl n).take k = ini ++ [last]) : ∃ k', k = k' + 1 ∧ ini = (dl n).take k' ∧ n = k' + 1 + last := by
  cases k with
  | zero => simp at e
  | succ k' =>
    obtain ⟨d, hd⟩ : ∃ d, n = k' + 1 + d := ⟨n - (k' + 1), by omega⟩
    rw [dl_take hd (by omega)] at e
    obtain ⟨e1, e2⟩ := List.append_inj' e rfl
    have e3 : (⟨d, by omega⟩ : Fin n) = last := by simpa using e2
    refine ⟨k', rfl, e1.symm, ?_⟩
    rw [← e3]
    exact hd
theorem agree_above {n k : Nat} {g h : Nat → Int} (hk : k ≤ n) {ini : List (Fin n)} {last : Fin n} (e : (dl n).take k = ini ++ [last]) (he : ∀ i : Fin n, i ∈ ini → g i = h i) : ∀ j, (last : Nat) < j → j < n → g j = h j := fun j h1 h2 => by
  obtain ⟨k', rfl, rfl, hn⟩ := dl_last hk e
  exact he ⟨j, h2⟩ (dl_mem h2 (by omega))

/-- What a round of a loop over 'down' keeps: the blocks below a number, and one more. -/
structure Kp2 (n₀ Bs : Nat) (W W' : World) : Prop where
  size : W.heap.size ≤ W'.heap.size
  block : ∀ k, k < n₀ ∨ k = Bs → W'.heap[k]? = W.heap[k]?
theorem Kp2.refl (n₀ Bs : Nat) (W : World) : Kp2 n₀ Bs W W := ⟨Nat.le_refl _, fun _ _ => rfl⟩
theorem Kp2.trans {n₀ Bs : Nat} {A B C : World} (h : Kp2 n₀ Bs A B) (k : Kp2 n₀ Bs B C) : Kp2 n₀ Bs A C := ⟨Nat.le_trans h.size k.size, fun i hi => (k.block i hi).trans (h.block i hi)⟩
theorem Kp2.cell {n₀ Bs : Nat} {W W' : World} (h : Kp2 n₀ Bs W W') {p : Addr} (hp : p.block < n₀ ∨ p.block = Bs) : W'.cell? p = W.cell? p := World.cell?_of_block (w := W) (h.block p.block hp)
theorem Kp2.putObj {n₀ Bs B : Nat} (hn : n₀ ≤ B) (hB : Bs < B) (W : World) (l : Nat) (o o' : Obj) (hl : B ≤ l) (h1 : W.heap[l]? = some o) (h2 : o.isCells = false) (h3 : o.isWalk = false) : Kp2 n₀ Bs W (W.putObj l o') where
  size := by simp [World.putObj]
  block := fun k hk => by
    have hne : l ≠ k := by omega
    simp only [World.putObj, Array.getElem?_setIfInBounds]
    rw [if_neg hne]
theorem Kp2.setCell {n₀ Bs : Nat} {W W' : World} (h : Kp2 n₀ Bs W W') (p : Addr) (v : Value) (h1 : n₀ ≤ p.block) (h2 : p.block ≠ Bs) : Kp2 n₀ Bs W (W'.setCell p v) where
  size := by simpa [World.setCell] using h.size
  block := fun k hk => (Below.heap_setCell _ _ _ _ (by omega)).trans (h.block k hk)
theorem Kp2.drewN {n₀ Bs : Nat} {W W' : World} (h : Kp2 n₀ Bs W W') (n : Nat) : Kp2 n₀ Bs W (W'.drewN n) where
  size := by simpa using h.size
  block := fun k hk => by simpa using h.block k hk

set_option maxRecDepth 100000 in
set_option maxHeartbeats 2000000 in
/-- The closure of 'down', for every loop body that keeps what lay below n₀. -/
theorem down1_in (F : Fence) (n : Nat) (h7 : F.fn 225) (hro : F.round = none) (hn : 1 ≤ n) (l Bs n₀ b off len cap : Nat) (g : Nat → Int) (hreach : len ≤ 1099511627776) (hb : b < n₀) (J Jx : List (Fin len) → World → Prop)
    (hY : ∀ (pre : List (Fin len)) (x : Fin len) W, J pre W → pre.length < len → YieldAt F (n - 1) Tryz.prog l #[.int .i64 ((x : Nat) : Int), .int .u32 (g x)] W fun e W' =>
      (e = .returned (.bool true) ∧ J (pre ++ [x]) W' ∧ Kp2 n₀ Bs W W') ∨ (e = .returned (.bool false) ∧ Jx (pre ++ [x]) W'))
    (W : World) (hBs : W.cell? ⟨Bs, 0, none⟩ = some (.slice (some ⟨b, off, none⟩) len cap)) (hc : ∀ j, j < len → W.cell? ⟨b, off + j, none⟩ = some (.int .u32 (g j))) (h0 : J [] W) :
    CallsIn F n Tryz.prog 225 #[.func (.yield l) #[] #[], .pointer (some ⟨Bs, 0, none⟩)] W fun e W' => (∃ v, e = .returned v) ∧
      ((∃ ys, ys = dl len ∧ J ys W') ∨ (∃ pre, (∃ k, k ≤ len ∧ pre = (dl len).take k) ∧ Jx pre W')) := by
  refine callsIn_of_wp Tryz.func225 rfl h7 ?_ hro
  simp only [Tryz.ntmps225, List.size_toArray, List.length_cons, List.length_nil, Nat.reduceAdd, Nat.reduceSub, Array.replicate_succ, Array.replicate_zero, List.push_toArray, List.append_toArray, List.nil_append, List.cons_append]
  gi_wp2
  gi_loopw [3] (fun i wr => ∃ k : Nat, k ≤ len ∧ i = .int .i64 ((len : Int) - 1 - k) ∧ J ((dl len).take k) wr ∧ Kp2 n₀ Bs W wr)
    (fun i _ => (intOf i + 1).toNat)
  case atStart => exact ⟨0, Nat.zero_le _, by simp, h0, Kp2.refl _ _ _⟩
  case round =>
    obtain ⟨k, hk, rfl, hJs, hnx⟩ := hrel
    by_cases hlt : k < len
    · obtain ⟨d, hd⟩ : ∃ d : Nat, len = k + 1 + d := ⟨len - (k + 1), by omega⟩
      have hi : (len : Int) - 1 - k = (d : Int) := by omega
      have hcx : wr.cell? ⟨b, off + d, none⟩ = some (.int .u32 (g d)) := (hnx.cell (p := ⟨b, off + d, none⟩) (.inl hb)).trans (hc d (by omega))
      have hbx : wr.cell? ⟨Bs, 0, none⟩ = some (.slice (some ⟨b, off, none⟩) len cap) := (hnx.cell (p := ⟨Bs, 0, none⟩) (.inr rfl)).trans hBs
      have HD : d < len := by omega
      obtain ⟨fn, tmps, assign, body, hy, hR⟩ := hY _ ⟨d, HD⟩ wr hJs (by rw [List.length_take, dl_length]; omega)
      dsimp only at hy
      have hnth := dl_take hd HD
      have HN := Lib.hid hnth
      rw [hi]
      have HL := Lib.hid hd
      have HJ := Lib.hid hJs
      clear hnth hd hi hJs
      gi_wp2
      refine hR.mono ?_
      rintro e W3 (⟨rfl, hJ3, hk3⟩ | ⟨rfl, hJx3⟩)
      · have HL' := HL.out
        have hbx3 : W3.cell? ⟨Bs, 0, none⟩ = some (.slice (some ⟨b, off, none⟩) len cap) := (hk3.cell (p := ⟨Bs, 0, none⟩) (.inr rfl)).trans hbx
        clear HL'
        gi_wp2
        go_roundw
        case rel => exact ⟨k + 1, by omega, by have := HL.out; congr 1; omega, by rw [HN.out]; exact hJ3, hnx.trans hk3⟩
        case measure => simp [intOf]
      · gi_wp2
        refine bodyPost_ret (results_none rfl _ _ _) rfl ?_
        exact ⟨⟨_, rfl⟩, .inr ⟨_, ⟨k + 1, by omega, HN.out.symm⟩, hJx3⟩⟩
    · obtain rfl : k = len := by omega
      have hi : (k : Int) - 1 - k = -1 := by omega
      rw [hi]
      clear hi
      gi_wp2
      go_end0
      exact ⟨⟨_, rfl⟩, .inl ⟨_, by rw [List.take_of_length_le (by rw [dl_length]; omega)], hJs⟩⟩

set_option maxRecDepth 100000 in
set_option maxHeartbeats 1000000 in
/-- .. at no limb: no round. -/
theorem down1_nil_in (F : Fence) (n : Nat) (h7 : F.fn 225) (hro : F.round = none) (l Bs : Nat) (A : Option Addr) (cap : Nat) {α : Type} (J : List α → World → Prop) (W : World) (hBs : W.cell? ⟨Bs, 0, none⟩ = some (.slice A 0 cap)) (h0 : J [] W) :
    CallsIn F n Tryz.prog 225 #[.func (.yield l) #[] #[], .pointer (some ⟨Bs, 0, none⟩)] W fun e W' => (∃ v, e = .returned v) ∧ J [] W' := by
  refine callsIn_of_wp Tryz.func225 rfl h7 ?_ hro
  simp only [Tryz.ntmps225, List.size_toArray, List.length_cons, List.length_nil, Nat.reduceAdd, Nat.reduceSub, Array.replicate_succ, Array.replicate_zero, List.push_toArray, List.append_toArray, List.nil_append, List.cons_append]
  gi_wp2
  gi_loopw [3] (fun i wr => i = .int .i64 (-1) ∧ J [] wr) (fun _ _ => 0)
  case atStart => exact ⟨rfl, h0⟩
  case round =>
    obtain ⟨rfl, hJs⟩ := hrel
    gi_wp2
    go_end0
    exact ⟨⟨_, rfl⟩, hJs⟩

set_option maxHeartbeats 1000000 in
/-- down(l): the slice value is boxed; the function value captures the box. -/
theorem down_in (F : Fence) (n : Nat) (h5 : F.fn 193) (hro : F.round = none) (a : Option Addr) (len cap : Nat) (w : World) :
    CallsIn F n Tryz.prog 193 #[.slice a len cap] w fun e w' => e = .returned (.func (.func 225) #[] #[.pointer (some ⟨w.heap.size, 0, none⟩)]) ∧ w' = w.alloc (.cells #[.slice a len cap] 90) := by
  refine callsIn_of_wp Tryz.func193 rfl h5 ?_ hro
  simp only [Tryz.ntmps193, List.size_toArray, List.length_cons, List.length_nil, Nat.reduceAdd, Nat.reduceSub, Array.replicate_succ, Array.replicate_zero, List.push_toArray, List.append_toArray, List.nil_append, List.cons_append]
  gi_wp2
  go_ret
  exact ⟨rfl, rfl⟩

/-- down(l) yields all limbs from the highest one on. -/
theorem down_stops (F : Fence) (n : Nat) (h7 : F.fn 225) (hro : F.round = none) (hn : 1 ≤ n) (Bs n₀ : Nat) (A : Option Addr) (len cap : Nat) (g : Nat → Int) (hreach : len ≤ 1099511627776) (w : World) (hBs : Bs < w.heap.size)
    (hc : w.cell? ⟨Bs, 0, none⟩ = some (.slice A len cap)) (hA : At w A g len) (hAb : ∀ b off, A = some ⟨b, off, none⟩ → 0 < len → b < n₀) :
    SeqStopsK F n Tryz.prog 225 #[.pointer (some ⟨Bs, 0, none⟩)] (fun x : Fin len => #[Value.int .i64 ((x : Nat) : Int), Value.int .u32 (g x)]) (Kp2 n₀ Bs) (fun ys => ys = dl len) (fun pre => ∃ k, k ≤ len ∧ pre = (dl len).take k) len w := fun l J Jx W hW _ _ hY h0 => by
  have hc' := (hW.cell (p := ⟨Bs, 0, none⟩) hBs).trans hc
  rcases Nat.eq_zero_or_pos len with rfl | hl
  · exact (down1_nil_in F n h7 hro l Bs A cap J W hc' h0).mono fun e W' ⟨he, hj⟩ => ⟨he, .inl ⟨_, by simp [dl], hj⟩⟩
  · obtain ⟨b, off, rfl, hb, hcs⟩ := hA hl
    exact down1_in F n h7 hro hn l Bs n₀ b off len cap g hreach (hAb b off rfl hl) J Jx hY W hc' (fun j hj => (hW.cell (p := ⟨b, off + j, none⟩) hb).trans (hcs j hj)) h0

/-- The order of two numbers. -/
def cmpZ (x y : Int) : Int := if x < y then -1 else if y < x then 1 else 0
theorem cmpZ_limb {n : Nat} {g h : Nat → Int} (hg : Num.Dig g n) (hh : Num.Dig h n) (l : Fin n) (hne : g l ≠ h l) (he : ∀ j, (l : Nat) < j → j < n → g j = h j) : cmpZ (Num.val g n) (Num.val h n) = if g l < h l then -1 else 1 := by
  by_cases hlt : g l < h l
  · have := Num.val_lt_of_limb hg hh l.2 hlt he
    rw [if_pos hlt, cmpZ, if_pos this]
  · have := Num.val_lt_of_limb hh hg l.2 (by omega) (fun j h1 h2 => (he j h1 h2).symm)
    rw [if_neg hlt, cmpZ, if_neg (by omega), if_pos this]
theorem cmpZ_same {x y : Int} (h : x = y) : cmpZ x y = 0 := by subst h; simp [cmpZ]
theorem cmpZ_len {n m : Nat} {g h : Nat → Int} (hg : Num.Dig g n) (hh : Num.Dig h m) (tg : Num.Trim g n) (th : Num.Trim h m) (hne : n ≠ m) : cmpZ (Num.val g n) (Num.val h m) = if n < m then -1 else 1 := by
  by_cases hlt : n < m
  · have := Num.val_lt_of_len hg hh th hlt
    rw [if_pos hlt, cmpZ, if_pos this]
  · have := Num.val_lt_of_len hh hg tg (by omega)
    rw [if_neg hlt, cmpZ, if_neg (by omega), if_pos this]

set_option maxRecDepth 100000 in
set_option maxHeartbeats 1000000 in
theorem compare_ne (w : World) (A A' : Option Addr) (n m cap cap' : Nat) (hn : n ≤ 1099511627776) (hm : m ≤ 1099511627776) (hne : n ≠ m) :
    Calls Tryz.prog 145 #[.slice A n cap, .slice A' m cap'] w (OkPost (.int .i64 (if n < m then -1 else 1)) w) := by
  have h1 : ((n : Int) != (m : Int)) = true := by rw [bne_iff_ne]; omega
  have h2 : (n != m) = true := by rw [bne_iff_ne]; exact hne
  clear hne
  by_cases hlt : n < m
  · rw [if_pos hlt]
    go_enter Tryz.func145, Tryz.ntmps145
    go_wp2
    exact bodyPost_ret (v := .int .i64 (-1)) (by simp [results, Tryz.results145, go_sem]) rfl ⟨rfl, ((Below.refl _ _).alloc (Nat.le_refl _) _).alloc (by simp) _⟩
  · rw [if_neg hlt]
    go_enter Tryz.func145, Tryz.ntmps145
    go_wp2
    exact bodyPost_ret (v := .int .i64 1) (by simp [results, Tryz.results145, go_sem]) rfl ⟨rfl, ((Below.refl _ _).alloc (Nat.le_refl _) _).alloc (by simp) _⟩

set_option maxRecDepth 100000 in
set_option maxHeartbeats 2000000 in
theorem compare_eq (w : World) (A A' : Option Addr) (n cap cap' : Nat) (g h : Nat → Int) (hn : n ≤ 1099511627776) (ha : At w A g n) (hb : At w A' h n) (hdg : Num.Dig g n) (hdh : Num.Dig h n) :
    CallsIn Fence.wide 9 Tryz.prog 145 #[.slice A n cap, .slice A' n cap'] w (OkPost (.int .i64 (cmpZ (Num.val g n) (Num.val h n))) w) := by
  have HA := Lib.hid ha
  have HB := Lib.hid hb
  have HG := Lib.hid hdg
  have HH := Lib.hid hdh
  clear ha hb hdg hdh
  refine callsIn_of_wp_marks Tryz.func145 rfl trivial ?_ rfl
  simp only [Tryz.ntmps145, List.size_toArray, List.length_cons, List.length_nil, Nat.reduceAdd, Nat.reduceSub, Array.replicate_succ, Array.replicate_zero, List.push_toArray, List.append_toArray, List.nil_append, List.cons_append]
  gi_wp2_with (refine ⟨trivial, ?_⟩; gi_at_call 193; refine (down_in Fence.wide _ trivial rfl _ _ _ _).mono ?_; rintro e w' ⟨rfl, rfl⟩)
  have bS := Boxed.new w 90 (.slice A' n cap')
  have bR := Boxed.new (w.alloc (.cells #[.slice A' n cap'] 90)) 3 (.int .i64 0)
  have bN := Boxed.new ((w.alloc (.cells #[.slice A' n cap'] 90)).alloc (.cells #[.int .i64 0] 3)) 90 (.slice A n cap)
  rw [World.size_alloc] at bR bN
  rw [World.size_alloc] at bN
  have hB0 : Below w.heap.size w (((w.alloc (.cells #[.slice A' n cap'] 90)).alloc (.cells #[.int .i64 0] 3)).alloc (.cells #[.slice A n cap] 90)) := (((Below.refl _ w).alloc (Nat.le_refl _) _).alloc (by simp) _).alloc (by simp; omega) _
  refine wpIn_rangeFunc_ownG rfl (by omega) (gf := 225) (lb := #[.pointer (some ⟨w.heap.size + 1 + 1, 0, none⟩)]) rfl trivial (enters_of Tryz.func225 (by kernel_rfl) rfl)
    (down_stops Fence.wide _ trivial rfl (by omega) (w.heap.size + 1 + 1) w.heap.size A n cap g hn _ (by simp) bN.cell (HA.out.below hB0) (fun b off e h0 => by obtain ⟨b', off', e', hlt, _⟩ := HA.out h0; rw [e] at e'; cases e'; exact hlt))
    Kp2.trans (fun W l o o' h1 h2 h3 h4 => Kp2.putObj (by simp; omega) (by simp) W l o o' h1 h2 h3 h4) (Below.refl _ _) (fun _ => rfl)
    (fun pre W => (W.cell? ⟨w.heap.size, 0, none⟩ = some (.slice A' n cap') ∧ W.cell? ⟨w.heap.size + 1, 0, none⟩ = some (.int .i64 0) ∧ W.frozen? ⟨w.heap.size + 1, 0, none⟩ = false ∧ ∀ i : Fin n, i ∈ pre → g i = h i) ∧ Below w.heap.size w W)
    (fun c pre W => (c = .ret ∧ ∃ (ini : List (Fin n)) (last : Fin n), pre = ini ++ [last] ∧ (∀ i : Fin n, i ∈ ini → g i = h i) ∧ g last ≠ h last ∧ W.cell? ⟨w.heap.size + 1, 0, none⟩ = some (.int .i64 (if g last < h last then -1 else 1))) ∧ Below w.heap.size w W)
    (OwnFrom.and (Own.from (fun s A B row hs hg hr => ⟨cell_kept hs.1 hg hr, cell_kept hs.2.1 hg hr, (frozen_kept hs.2.1 hg hr).trans hs.2.2.1, hs.2.2.2⟩) _) (ownFrom_below (Nat.le_refl _) (by simp; omega)))
    (fun c => OwnFrom.and (Own.from (fun s A B row hs hg hr => by obtain ⟨hc, ini, last, e1, e2, e3, e4⟩ := hs; exact ⟨hc, ini, last, e1, e2, e3, cell_kept e4 hg hr⟩) _) (ownFrom_below (Nat.le_refl _) (by simp; omega)))
    ⟨⟨((bS.alloc _).alloc _).cell, (bR.alloc _).cell, (bR.alloc _).frozen, fun i hi => absurd hi (by simp)⟩, hB0⟩
    (fun x : Fin n => { tmps := #[.slice A n cap, .slice A' n cap', undef, .pointer (some ⟨w.heap.size, 0, none⟩), .pointer (some ⟨w.heap.size + 1, 0, none⟩), .int .i64 ((x : Nat) : Int), .int .u32 (g x), .slice A n cap, .int .i64 (n : Int), .slice A' n cap', .int .i64 (n : Int), .bool false, undef, undef, undef, undef, undef, .slice A n cap, .func (.func 225) #[] #[.pointer (some ⟨w.heap.size + 1 + 1, 0, none⟩)], .int .i64 ((x : Nat) : Int), .int .u32 (g x), undef, undef, undef, undef, undef, undef, undef, undef, undef, undef, undef, undef], defers := [] }) ?assign ?body ?done ?stop
  case assign =>
    intro l x W K hK
    gi_wp2
    exact hK
  case body =>
    rintro l pre x W ⟨⟨hc3, hc4, hf4, hpre⟩, hB⟩ hlen
    obtain ⟨i, hi⟩ := x
    obtain ⟨bb, bo, rfl, hbb, hcellb⟩ := HB.out (by omega)
    have hy : W.cell? ⟨bb, bo + i, none⟩ = some (.int .u32 (h i)) := (hB.cell (p := ⟨bb, bo + i, none⟩) hbb).trans (hcellb i hi)
    have HP := Lib.hid hpre
    have HBB := Lib.hid hB
    clear hcellb hpre hB
    gi_wp2
    · have hx : g i < h i := by assumption
      exact ⟨(KeepsOthers.setCell _ _ _).from _, ⟨rfl, pre, ⟨i, hi⟩, rfl, HP.out, by show g i ≠ h i; omega, by rw [if_pos hx]; exact World.cell?_setCell_same' _ _ _ (by rw [hc4]; rfl)⟩, HBB.out.setCell (p := ⟨w.heap.size + 1, 0, none⟩) (Nat.le_succ _) _⟩
    · have hx : h i < g i := by assumption
      exact ⟨(KeepsOthers.setCell _ _ _).from _, ⟨rfl, pre, ⟨i, hi⟩, rfl, HP.out, by show g i ≠ h i; omega, by rw [if_neg (by show ¬ g i < h i; omega)]; exact World.cell?_setCell_same' _ _ _ (by rw [hc4]; rfl)⟩, HBB.out.setCell (p := ⟨w.heap.size + 1, 0, none⟩) (Nat.le_succ _) _⟩
    · have hx : h i ≤ g i := by assumption
      have hx' : g i ≤ h i := by assumption
      exact ⟨KeepsFrom.refl _ _, Kp2.refl _ _ _, ⟨hc3, hc4, hf4, fun j hj => (List.mem_append.1 hj).elim (HP.out j) (fun e => by simp at e; subst e; show g i = h i; omega)⟩, HBB.out⟩
  case done =>
    rintro D ys W hD rfl ⟨⟨hc3, hc4, hf4, hpre⟩, hB⟩ hK
    have hz : cmpZ (Num.val g n) (Num.val h n) = 0 := cmpZ_same (Num.val_congr fun i hi => hpre ⟨i, hi⟩ (by simp [dl]))
    have HZ := Lib.hid hz
    clear hpre hz
    gi_wp2
    have hK' := (KeepsOthers.setCell W ⟨w.heap.size + 1, 0, none⟩ (.int .i64 0)).same D _ hK rfl
    refine ⟨by simp, .inl ⟨_, _, rfl, run_takeDeferred hK', ?_⟩⟩
    have hc5 := cell_kept (World.cell?_setCell_same' W ⟨w.heap.size + 1, 0, none⟩ (.int .i64 0) (by rw [hc4]; rfl)) (grownBy_putObj' _ D (.deferred none)) (fun r e => by cases e; exact ⟨_, hK', rfl⟩)
    refine ⟨.int .i64 0, ?_, by rw [HZ.out], (hB.setCell (p := ⟨w.heap.size + 1, 0, none⟩) (Nat.le_succ _) _).trans (belowK_b (w := w) (Nat.le_refl _) _ D _ _ (by simp at hD; omega) hK' rfl rfl)⟩
    simp [results, Tryz.f145, go_sem, hc5]
  case stop =>
    rintro D c pre W hD ⟨k, hk, rfl⟩ ⟨⟨rfl, ini, last, e1, e2, e3, hcr⟩, hB⟩ hK
    have hz := cmpZ_limb HG.out HH.out last e3 (agree_above hk e1 e2)
    have HZ := Lib.hid hz
    clear hz e2
    gi_wp2
    refine ⟨by simp, .inl ⟨_, _, rfl, run_takeDeferred hK, ?_⟩⟩
    have hc5 := cell_kept hcr (grownBy_putObj' _ D (.deferred none)) (fun r e => by cases e; exact ⟨_, hK, rfl⟩)
    refine ⟨.int .i64 (if g last < h last then -1 else 1), ?_, by rw [HZ.out], hB.trans (belowK_b (w := w) (Nat.le_refl _) W D _ _ (by simp at hD; omega) hK rfl rfl)⟩
    simp [results, Tryz.f145, go_sem, hc5]

theorem compare_calls (w : World) (A A' : Option Addr) (n m cap cap' : Nat) (g h : Nat → Int) (hn : n ≤ 1099511627776) (hm : m ≤ 1099511627776) (ha : At w A g n) (hb : At w A' h m) (hdg : Num.Dig g n) (hdh : Num.Dig h m) (tg : Num.Trim g n) (th : Num.Trim h m) :
    Calls Tryz.prog 145 #[.slice A n cap, .slice A' m cap'] w (OkPost (.int .i64 (cmpZ (Num.val g n) (Num.val h m))) w) := by
  by_cases hne : n = m
  · subst hne
    exact callsIn_wide.1 (compare_eq w A A' n cap cap' g h hn ha hb hdg hdh)
  · rw [cmpZ_len hdg hdh tg th hne]
    exact compare_ne w A A' n m cap cap' hn hm hne

end Go.Proofs.YtilaheplclaokaaGreatDoor
