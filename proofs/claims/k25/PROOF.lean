import PyProof.Rows.All
import Wide.All
import OpenK.AllK
import Wide.FinOn
import HandS.WordsExc
import KE.RegKIsAll
import HandS.Deep
import HandS.SetKeys
import KE.SortData
import HandS.Rev
import KE.DataCmp
import HandS.ForMost
import HandS.IsInst
import HandS.Wide
import HandS.WideBits
import HandS.Style
import PyProof.Rows.BitMore
import KE.BitLaws
import PyProof.Rows.All
import Wide.All
import OpenK.AllK
import Wide.FinOn
import HandS.ForMost
import HandS.IsInst
import HandS.Wide
import HandS.WideBits
import HandS.Style
import HandS.More
import HandS.Exc
import HandS.ExcOwn
import HandS.ExcValue
import HandS.ExcIs
import HandS.ExcField
import HandS.ExcInit
import HandS.Text
import KE.KExcIs
import HandS.Finally
import PyProof.Rows.TmSorted
import PyProof.Rows.StrMeet
import HandS.SetKeys
import HandS.WordsDict
import HandS.Rev
import KE.KRevIter
import PyProof.ListNew
import KE.SortData
import HandS.SortKw
import PyProof.WalkInts
import KE.KMinKey
import PyProof.Rows.MinMaxN
import HandS.StrMore
import KE.DataCmp
import PyProof.DictDisplay
import PyProof.DictTable
import PyProof.DictRoadsH
import PySem.Challenge.RW_joinload_k25_ways_that_lead
set_option Elab.async false
set_option linter.all false
set_option maxRecDepth 100000
set_option maxHeartbeats 4000000
set_option maxHeartbeats 4000000
/-! Bits of whole numbers of any size: & and ^ by halves; a field put in. -/
namespace Jl
open PySem PyProof.Rows
theorem nat_and_rec (a b : Nat) : (a &&& b) = 2 * (a / 2 &&& b / 2) + (if a % 2 = 1 ∧ b % 2 = 1 then 1 else 0) := by
  have e : (a &&& b) / 2 = a / 2 &&& b / 2 := Nat.and_div_two
  have o := @Nat.and_mod_two_eq_one a b
  split <;> rename_i h
  · have := o.mpr h; omega
  · have : ¬ (a &&& b) % 2 = 1 := fun z => h (o.mp z)
    omega
theorem nat_or_rec (a b : Nat) : (a ||| b) = 2 * (a / 2 ||| b / 2) + (if a % 2 = 1 ∨ b % 2 = 1 then 1 else 0) := by
  have e : (a ||| b) / 2 = a / 2 ||| b / 2 := Nat.or_div_two
  have o := @Nat.or_mod_two_eq_one a b
  split <;> rename_i h
  · have := o.mpr h; omega
  · have : ¬ (a ||| b) % 2 = 1 := fun z => h (o.mp z)
    omega
theorem toNat_half {x : Int} (h : 0 ≤ x) : x.toNat / 2 = (x / 2).toNat := by omega
theorem not_half (x : Int) : Builtin.bitNot x / 2 = Builtin.bitNot (x / 2) := by unfold Builtin.bitNot; omega
/-- & by halves -/
theorem and_rec (x y : Int) : Builtin.bitAnd x y = 2 * Builtin.bitAnd (x / 2) (y / 2) + (if x % 2 = 1 ∧ y % 2 = 1 then 1 else 0) := by
  by_cases hx : 0 ≤ x
  · have hx' : 0 ≤ x / 2 := by omega
    by_cases hy : 0 ≤ y
    · have hy' : 0 ≤ y / 2 := by omega
      rw [bitAnd_pp hx hy, bitAnd_pp hx' hy', nat_and_rec, toNat_half hx, toNat_half hy]
      split <;> split <;> omega
    · have hy' : ¬ 0 ≤ y / 2 := by omega
      have hn : 0 ≤ Builtin.bitNot y := by unfold Builtin.bitNot; omega
      rw [bitAnd_comm x y, bitAnd_comm (x / 2), bitAnd_np hy hx, bitAnd_np hy' hx', nat_and_rec, toNat_half hx, toNat_half hn, not_half]
      have e1 : x.toNat % 2 = 1 ↔ x % 2 = 1 := by omega
      have e2 : (Builtin.bitNot y).toNat % 2 = 1 ↔ ¬ y % 2 = 1 := by unfold Builtin.bitNot at *; omega
      split <;> split <;> omega
  · have hx' : ¬ 0 ≤ x / 2 := by omega
    have hnx : 0 ≤ Builtin.bitNot x := by unfold Builtin.bitNot; omega
    have e2 : (Builtin.bitNot x).toNat % 2 = 1 ↔ ¬ x % 2 = 1 := by unfold Builtin.bitNot at *; omega
    by_cases hy : 0 ≤ y
    · have hy' : 0 ≤ y / 2 := by omega
      rw [bitAnd_np hx hy, bitAnd_np hx' hy', nat_and_rec, toNat_half hy, toNat_half hnx, not_half]
      have e1 : y.toNat % 2 = 1 ↔ y % 2 = 1 := by omega
      split <;> split <;> omega
    · have hy' : ¬ 0 ≤ y / 2 := by omega
      have hny : 0 ≤ Builtin.bitNot y := by unfold Builtin.bitNot; omega
      have e3 : (Builtin.bitNot y).toNat % 2 = 1 ↔ ¬ y % 2 = 1 := by unfold Builtin.bitNot at *; omega
      rw [bitAnd_nn hx hy, bitAnd_nn hx' hy', nat_or_rec, toNat_half hnx, toNat_half hny, not_half, not_half]
      have u : ∀ z : Int, Builtin.bitNot z = -z - 1 := fun _ => rfl
      rw [u (_ : Nat), u (_ : Nat)]
      split <;> split <;> omega
/-- ^ by halves -/
theorem xor_rec (x y : Int) : Builtin.bitXor x y = 2 * Builtin.bitXor (x / 2) (y / 2) + (x + y) % 2 := by
  rw [bitXor_and, bitXor_and, and_rec]
  split <;> omega
theorem and_two (x y : Int) (c d : Int) (hc : c = 0 ∨ c = 1) (hd : d = 0 ∨ d = 1) : Builtin.bitAnd (2 * x + c) (2 * y + d) = 2 * Builtin.bitAnd x y + c * d := by
  rw [and_rec]
  have e1 : (2 * x + c) / 2 = x := by omega
  have e2 : (2 * y + d) / 2 = y := by omega
  rw [e1, e2]
  rcases hc with rfl | rfl <;> rcases hd with rfl | rfl <;> (split <;> omega)
theorem xor_two (x y : Int) (c d : Int) (hc : c = 0 ∨ c = 1) (hd : d = 0 ∨ d = 1) : Builtin.bitXor (2 * x + c) (2 * y + d) = 2 * Builtin.bitXor x y + (c + d) % 2 := by
  rw [xor_rec]
  have e1 : (2 * x + c) / 2 = x := by omega
  have e2 : (2 * y + d) / 2 = y := by omega
  rw [e1, e2]
  omega
theorem two_pow_pos (k : Nat) : (0 : Int) < 2 ^ k := Int.pow_pos (by decide)
theorem pow_succ2 (k : Nat) : (2 : Int) ^ (k + 1) = 2 * 2 ^ k := by rw [Int.pow_succ]; omega
theorem emod_two_mul (a : Int) {m : Int} (hm : 0 < m) : a % (2 * m) = 2 * (a / 2 % m) + a % 2 := by
  have h1 : a / 2 = m * (a / 2 / m) + a / 2 % m := (Int.mul_ediv_add_emod (a / 2) m).symm
  have h2 := Int.emod_nonneg (a / 2) (show m ≠ 0 by omega)
  have h3 := Int.emod_lt_of_pos (a / 2) hm
  have h4 : a = (2 * (a / 2 % m) + a % 2) + (2 * m) * (a / 2 / m) := by
    have : (2 * m) * (a / 2 / m) = 2 * (m * (a / 2 / m)) := Int.mul_assoc ..
    omega
  have h5 : a % (2 * m) = (2 * (a / 2 % m) + a % 2) % (2 * m) := by
    conv => lhs; rw [h4]
    rw [Int.add_mul_emod_self_left]
  rw [h5, Int.emod_eq_of_lt (by omega) (by omega)]
theorem ediv_two_pow (a : Int) (k : Nat) : a / 2 ^ (k + 1) = a / 2 / 2 ^ k := by
  rw [pow_succ2, Int.ediv_ediv_of_nonneg (by decide)]
/-- x & (2 ** k - 1), x any number -/
theorem and_mask (k : Nat) : ∀ x : Int, Builtin.bitAnd x (2 ^ k - 1) = x % 2 ^ k := by
  induction k with
  | zero => intro x; show Builtin.bitAnd x 0 = x % 1; rw [bitAnd_zero]; omega
  | succ k ih =>
    intro x
    have e : (2 : Int) ^ (k + 1) - 1 = 2 * (2 ^ k - 1) + 1 := by rw [pow_succ2]; omega
    have hx : x = 2 * (x / 2) + x % 2 := by omega
    rw [e]
    conv => lhs; rw [hx]
    rw [and_two _ _ _ _ (by omega) (by omega), ih, pow_succ2, emod_two_mul _ (two_pow_pos k)]
    omega
/-- the field put in: what with_field reckons -/
theorem put_low (many : Nat) : ∀ w n : Int, Builtin.bitXor w (Builtin.bitAnd (Builtin.bitXor w n) (2 ^ many - 1)) = w - w % 2 ^ many + n % 2 ^ many := by
  induction many with
  | zero => intro w n; show Builtin.bitXor w (Builtin.bitAnd (Builtin.bitXor w n) 0) = w - w % 1 + n % 1; rw [bitAnd_zero, bitXor_zero]; omega
  | succ k ih =>
    intro w n
    have e : (2 : Int) ^ (k + 1) - 1 = 2 * (2 ^ k - 1) + 1 := by rw [pow_succ2]; omega
    have hw : w = 2 * (w / 2) + w % 2 := by omega
    have hn : n = 2 * (n / 2) + n % 2 := by omega
    have i := ih (w / 2) (n / 2)
    have q1 := emod_two_mul w (two_pow_pos k)
    have q2 := emod_two_mul n (two_pow_pos k)
    rw [e]
    conv => lhs; rw [hw, hn]
    rw [xor_two _ _ _ _ (by omega) (by omega), and_two _ _ _ _ (by omega) (by omega), xor_two _ _ _ _ (by omega) (by omega), i, pow_succ2, q1, q2]
    omega
theorem put_at (low many : Nat) : ∀ w n : Int, Builtin.bitXor w (Builtin.bitAnd (Builtin.bitXor w (n * 2 ^ low)) ((2 ^ many - 1) * 2 ^ low)) =
    w - (w / 2 ^ low % 2 ^ many) * 2 ^ low + (n % 2 ^ many) * 2 ^ low := by
  induction low with
  | zero => intro w n; simp only [Int.pow_zero, Int.mul_one, Int.ediv_one]; exact put_low many w n
  | succ k ih =>
    intro w n
    have hw : w = 2 * (w / 2) + w % 2 := by omega
    have e1 : n * 2 ^ (k + 1) = 2 * (n * 2 ^ k) + 0 := by rw [pow_succ2, Int.mul_left_comm]; omega
    have e2 : ((2 : Int) ^ many - 1) * 2 ^ (k + 1) = 2 * ((2 ^ many - 1) * 2 ^ k) + 0 := by rw [pow_succ2, Int.mul_left_comm]; omega
    have i := ih (w / 2) n
    rw [e1, e2, ediv_two_pow, pow_succ2]
    conv => lhs; rw [hw]
    rw [xor_two _ _ _ _ (by omega) (by omega), and_two _ _ _ _ (by omega) (by omega), xor_two _ _ _ _ (by omega) (by omega), i]
    rw [Int.mul_left_comm _ 2, Int.mul_left_comm _ 2]
    omega
/-- what with_field(word, low, many, number) reckons -/
def wf (w low many n : Int) : Int := w - (w / 2 ^ low.toNat % 2 ^ many.toNat) * 2 ^ low.toNat + (n % 2 ^ many.toNat) * 2 ^ low.toNat
end Jl
namespace Jl
/-- signed(number, many) -/
def sgn (n : Int) (m : Nat) : Int := (n + 2 ^ (m - 1)) % (2 ^ (m - 1) * 2) - 2 ^ (m - 1)
theorem sgn_facts (n : Int) {m : Nat} (h : 1 ≤ m) : -(2 ^ (m - 1)) ≤ sgn n m ∧ sgn n m < 2 ^ (m - 1) ∧ (n - sgn n m) % 2 ^ m = 0 := by
  obtain ⟨k, rfl⟩ : ∃ k, m = k + 1 := ⟨m - 1, by omega⟩
  have hp := two_pow_pos k
  have e : k + 1 - 1 = k := by omega
  unfold sgn
  rw [e, pow_succ2]
  have h1 := Int.emod_nonneg (n + 2 ^ k) (show (2 : Int) ^ k * 2 ≠ 0 by omega)
  have h2 := Int.emod_lt_of_pos (n + 2 ^ k) (show (0 : Int) < 2 ^ k * 2 by omega)
  refine ⟨by omega, by omega, ?_⟩
  have h3 := Int.mul_ediv_add_emod (n + 2 ^ k) (2 ^ k * 2)
  have h4 : n - ((n + 2 ^ k) % (2 ^ k * 2) - 2 ^ k) = (2 * 2 ^ k) * ((n + 2 ^ k) / (2 ^ k * 2)) := by
    have : (2 * 2 ^ k) * ((n + 2 ^ k) / (2 ^ k * 2)) = 2 ^ k * 2 * ((n + 2 ^ k) / (2 ^ k * 2)) := by rw [Int.mul_comm 2]
    omega
  rw [h4]
  exact Int.mul_emod_right _ _
end Jl
namespace Jl
theorem pow_lt {m : Nat} (h : m ≤ 99) : ((2 : Int) ^ m - 1).natAbs < 2 ^ 100 := by
  have e : ((2 : Int) ^ m) = ((2 ^ m : Nat) : Int) := by simp
  have h2 : (2 : Nat) ^ m ≤ 2 ^ 99 := Nat.pow_le_pow_right (by decide) h
  have h3 : (2 : Nat) ^ 99 < 2 ^ 100 := by decide
  have h4 : 0 < (2 : Nat) ^ m := Nat.two_pow_pos m
  rw [e]
  omega
theorem pow_lt' {m : Nat} (h : m ≤ 99) : ((2 : Int) ^ m).natAbs < 2 ^ 100 := by
  have e : ((2 : Int) ^ m) = ((2 ^ m : Nat) : Int) := by simp
  have h2 : (2 : Nat) ^ m ≤ 2 ^ 99 := Nat.pow_le_pow_right (by decide) h
  have h3 : (2 : Nat) ^ 99 < 2 ^ 100 := by decide
  rw [e, Int.natAbs_natCast]
  omega
/-- what lies within sixty figures (and some more) -/
theorem big_of {n : Int} (h : -(10 ^ 65) ≤ n) (h2 : n ≤ 10 ^ 65) : n.natAbs < 2 ^ 250 := by
  have e : (10 : Nat) ^ 65 < 2 ^ 250 := by decide
  omega
end Jl
namespace Jl
theorem half_pow {m : Nat} (h : 1 ≤ m) : (2 : Int) ^ m / 2 = 2 ^ (m - 1) := by
  obtain ⟨k, rfl⟩ : ∃ k, m = k + 1 := ⟨m - 1, by omega⟩
  rw [pow_succ2, Nat.add_sub_cancel]
  omega
end Jl
namespace Jl
theorem half_more (a : Int) (k : Nat) : a / 2 ^ k / 2 = a / 2 ^ (k + 1) := by
  rw [Int.pow_succ, Int.ediv_ediv_of_nonneg (Int.le_of_lt (two_pow_pos k))]
theorem dbl_more (k : Nat) : (2 : Int) ^ k * 2 = 2 ^ (k + 1) := by rw [Int.pow_succ]
end Jl
namespace Jl
theorem mod_bit (x : Int) : ∀ (j m : Nat), j < m → (x % 2 ^ m) / 2 ^ j % 2 = x / 2 ^ j % 2 := by
  intro j
  induction j generalizing x with
  | zero =>
    intro m h
    obtain ⟨k, rfl⟩ : ∃ k, m = k + 1 := ⟨m - 1, by omega⟩
    rw [pow_succ2, emod_two_mul _ (two_pow_pos k)]
    simp only [Int.pow_zero, Int.ediv_one]
    omega
  | succ j ih =>
    intro m h
    obtain ⟨k, rfl⟩ : ∃ k, m = k + 1 := ⟨m - 1, by omega⟩
    have e : x % 2 ^ (k + 1) / 2 = x / 2 % 2 ^ k := by
      rw [pow_succ2, emod_two_mul _ (two_pow_pos k)]
      omega
    rw [ediv_two_pow, ediv_two_pow, e]
    exact ih (x / 2) k (by omega)
theorem pow_add2 (a b : Nat) : (2 : Int) ^ (a + b) = 2 ^ a * 2 ^ b := Int.pow_add ..
theorem div_more (x : Int) (a b : Nat) : x / 2 ^ (a + b) = x / 2 ^ a / 2 ^ b := by
  rw [pow_add2, Int.ediv_ediv_of_nonneg (Int.le_of_lt (two_pow_pos a))]
def wfN (w : Int) (low many : Nat) (n : Int) : Int := w - (w / 2 ^ low % 2 ^ many) * 2 ^ low + (n % 2 ^ many) * 2 ^ low
theorem wf_parts (w : Int) (low many : Nat) (n : Int) : wfN w low many n / 2 ^ low = 2 ^ many * (w / 2 ^ low / 2 ^ many) + n % 2 ^ many ∧ wfN w low many n % 2 ^ low = w % 2 ^ low := by
  have hp := two_pow_pos low
  have e1 := Int.mul_ediv_add_emod w (2 ^ low)
  have e2 := Int.mul_ediv_add_emod (w / 2 ^ low) (2 ^ many)
  have r1 := Int.emod_nonneg w (show (2 : Int) ^ low ≠ 0 by omega)
  have r2 := Int.emod_lt_of_pos w hp
  have e3 : wfN w low many n = 2 ^ low * (2 ^ many * (w / 2 ^ low / 2 ^ many) + n % 2 ^ many) + w % 2 ^ low := by
    unfold wfN
    generalize w / 2 ^ low % 2 ^ many = f at *
    generalize w % 2 ^ low = r at *
    generalize n % 2 ^ many = g at *
    generalize w / 2 ^ low / 2 ^ many = A at *
    have e4 : 2 ^ low * (w / 2 ^ low) = 2 ^ low * (2 ^ many * A) + f * 2 ^ low := by
      rw [Int.mul_comm f, ← Int.mul_add, e2]
    have e5 : (2 : Int) ^ low * (2 ^ many * A + g) = 2 ^ low * (2 ^ many * A) + g * 2 ^ low := by
      rw [Int.mul_add, Int.mul_comm g]
    omega
  rw [e3]
  constructor
  · rw [Int.add_comm (2 ^ low * _), Int.add_mul_ediv_left _ _ (by omega), Int.ediv_eq_zero_of_lt r1 r2]
    omega
  · rw [Int.add_comm (2 ^ low * _), Int.add_mul_emod_self_left, Int.emod_eq_of_lt r1 r2]
theorem wf_field (w : Int) (low many : Nat) (n : Int) : wfN w low many n / 2 ^ low % 2 ^ many = n % 2 ^ many := by
  rw [(wf_parts w low many n).1, Int.add_comm, Int.add_mul_emod_self_left, Int.emod_emod]
theorem wf_high (w : Int) (low many : Nat) (n : Int) : wfN w low many n / 2 ^ (low + many) = w / 2 ^ (low + many) := by
  have hp := two_pow_pos many
  have r1 := Int.emod_nonneg n (show (2 : Int) ^ many ≠ 0 by omega)
  have r2 := Int.emod_lt_of_pos n hp
  rw [div_more, div_more, (wf_parts w low many n).1, Int.add_comm, Int.add_mul_ediv_left _ _ (by omega), Int.ediv_eq_zero_of_lt r1 r2]
  omega
theorem wf_bit (w : Int) (low many : Nat) (n : Int) (i : Nat) : wfN w low many n / 2 ^ i % 2 = if low ≤ i ∧ i < low + many then n / 2 ^ (i - low) % 2 else w / 2 ^ i % 2 := by
  by_cases h : i < low
  · rw [if_neg (by omega), ← mod_bit _ i low h, (wf_parts w low many n).2, mod_bit _ i low h]
  · by_cases h2 : i < low + many
    · rw [if_pos ⟨by omega, h2⟩]
      obtain ⟨j, rfl⟩ : ∃ j, i = low + j := ⟨i - low, by omega⟩
      rw [div_more, Nat.add_sub_cancel_left, ← mod_bit (wfN w low many n / 2 ^ low) j many (by omega), wf_field, mod_bit _ j many (by omega)]
    · rw [if_neg (by omega)]
      obtain ⟨j, rfl⟩ : ∃ j, i = (low + many) + j := ⟨i - (low + many), by omega⟩
      rw [div_more, wf_high, ← div_more]
/-- two numbers in a word's range, by their parts -/
theorem lt_pow_of_div {x : Int} {a b : Nat} (h0 : 0 ≤ x / 2 ^ a) (h : x / 2 ^ a < 2 ^ b) : 0 ≤ x ∧ x < 2 ^ (a + b) := by
  have hp := two_pow_pos a
  have e1 := Int.mul_ediv_add_emod x (2 ^ a)
  have r1 := Int.emod_nonneg x (show (2 : Int) ^ a ≠ 0 by omega)
  have r2 := Int.emod_lt_of_pos x hp
  have m0 := Int.mul_nonneg (Int.le_of_lt hp) h0
  have m1 : (2 : Int) ^ a * (x / 2 ^ a + 1) ≤ 2 ^ a * 2 ^ b := Int.mul_le_mul_of_nonneg_left (by omega) (Int.le_of_lt hp)
  rw [pow_add2]
  rw [Int.mul_add] at m1
  omega
theorem div_lt_pow {x : Int} {a b : Nat} (h0 : 0 ≤ x) (h : x < 2 ^ (a + b)) : 0 ≤ x / 2 ^ a ∧ x / 2 ^ a < 2 ^ b := by
  have hp := two_pow_pos a
  refine ⟨Int.ediv_nonneg h0 (Int.le_of_lt hp), ?_⟩
  refine Int.ediv_lt_of_lt_mul hp ?_
  rw [Int.mul_comm, ← pow_add2]
  exact h
theorem wf_range (w : Int) (low many k : Nat) (n : Int) (hk : low + many ≤ k) (h0 : 0 ≤ w) (h : w < 2 ^ k) : 0 ≤ wfN w low many n ∧ wfN w low many n < 2 ^ k := by
  obtain ⟨j, rfl⟩ : ∃ j, k = (low + many) + j := ⟨k - (low + many), by omega⟩
  obtain ⟨a, b⟩ := div_lt_pow h0 h
  rw [← wf_high w low many n] at a b
  exact lt_pow_of_div a b
theorem wf_is (w low many n : Int) : wf w low many n = wfN w low.toNat many.toNat n := rfl
end Jl
namespace Jl
/-- the lowest n bits, the lowest one first -/
def bitsOf (w : Int) (n : Nat) : List Int := (List.range n).map fun i => w / 2 ^ i % 2
end Jl
namespace Jl
theorem turn_bits (w : Int) (h0 : 0 ≤ w) (h1 : w < 2 ^ 32) (m : Nat) (hm : m ≤ 32) (i : Nat) (hi : i < 32) :
    ((w / 2 ^ m + w * 2 ^ (32 - m)) % 2 ^ 32) / 2 ^ i % 2 = w / 2 ^ (if i + m < 32 then i + m else i + m - 32) % 2 := by
  rw [mod_bit _ i 32 hi]
  have hp := two_pow_pos (32 - m)
  have ha : 0 ≤ w / 2 ^ m ∧ w / 2 ^ m < 2 ^ (32 - m) := div_lt_pow h0 (by rw [show m + (32 - m) = 32 by omega]; exact h1)
  by_cases h : i + m < 32
  · rw [if_pos h, ← mod_bit _ i (32 - m) (by omega), Int.mul_comm w, Int.add_mul_emod_self_left, Int.emod_eq_of_lt ha.1 ha.2, ← div_more, Nat.add_comm m]
  · rw [if_neg h]
    obtain ⟨j, rfl⟩ : ∃ j, i = (32 - m) + j := ⟨i - (32 - m), by omega⟩
    rw [div_more, Int.mul_comm w, Int.add_mul_ediv_left _ _ (by omega), Int.ediv_eq_zero_of_lt ha.1 ha.2, Int.zero_add, show 32 - m + j + m - 32 = j by omega]
theorem bitsOf_get (w : Int) {n i : Nat} (h : i < n) : (bitsOf w n)[i]? = some (w / 2 ^ i % 2) := by
  unfold bitsOf
  rw [List.getElem?_map, List.getElem?_range h]; rfl
theorem bitsOf_succ (w : Int) (n : Nat) : bitsOf w (n + 1) = bitsOf w n ++ [w / 2 ^ n % 2] := by
  unfold bitsOf
  rw [List.range_succ, List.map_append]; rfl
theorem bitsOf_len (w : Int) (n : Nat) : (bitsOf w n).length = n := by
  unfold bitsOf
  rw [List.length_map, List.length_range]
end Jl
namespace Jl
theorem f0_16 (w : Int) : w / 2 ^ (0 : Int).toNat % 2 ^ (16 : Int).toNat = w % 65536 := by
  show w / 1 % 65536 = _
  rw [Int.ediv_one]
theorem f0_7 (w : Int) : w / 2 ^ (0 : Int).toNat % 2 ^ (7 : Int).toNat = w % 128 := by
  show w / 1 % 128 = _
  rw [Int.ediv_one]
theorem f14_5 (w : Int) : w / 2 ^ (14 : Int).toNat % 2 ^ (5 : Int).toNat = w / 16384 % 32 := rfl
theorem wf_16 (w n : Int) : wf w 0 16 n = w - w % 65536 + n % 65536 := by
  show w - (w / 1 % 65536) * 1 + (n % 65536) * 1 = _
  rw [Int.ediv_one]; omega
theorem wf_19 (w n : Int) : wf w 0 19 n = w - w % 524288 + n % 524288 := by
  show w - (w / 1 % 524288) * 1 + (n % 524288) * 1 = _
  rw [Int.ediv_one]; omega
theorem wf_7 (w n : Int) : wf w 0 7 n = w - w % 128 + n % 128 := by
  show w - (w / 1 % 128) * 1 + (n % 128) * 1 = _
  rw [Int.ediv_one]; omega
theorem wf_14 (w n : Int) : wf w 14 5 n = w - w / 16384 % 32 * 16384 + n % 32 * 16384 := rfl
theorem sgn_16 (w : Int) : sgn w (16 : Int).toNat = (w + 32768) % 65536 - 32768 := rfl
theorem sgn_19 (w : Int) : sgn w (19 : Int).toNat = (w + 262144) % 524288 - 262144 := rfl
theorem sgn_12 (w : Int) : sgn w (12 : Int).toNat = (w + 2048) % 4096 - 2048 := rfl
end Jl
namespace Jl
/-- what the fill of split makes of a word -/
def sf (w y : Int) : Int := 524288 * (w / 524288) + 16384 * (y / 128 % 32) + 128 * (w / 128 % 128) + y % 128
theorem sf_is (w y : Int) : (w - w % 128 + y % 128) - (w - w % 128 + y % 128) / 16384 % 32 * 16384 + y / 128 % 32 * 16384 = sf w y := by
  unfold sf
  have h1 : (w - w % 128 + y % 128) / 16384 = w / 16384 := by omega
  have h2 : w / 16384 = 32 * (w / 524288) + w / 16384 % 32 := by omega
  have h3 : w / 128 = 128 * (w / 16384) + w / 128 % 128 := by omega
  rw [h1]
  omega
theorem sf_parts (w y : Int) : sf w y / 524288 = w / 524288 ∧ sf w y / 128 % 128 = w / 128 % 128 ∧ sf w y % 128 = y % 128 ∧ sf w y / 16384 % 32 = y / 128 % 32 := by
  have a1 := Int.emod_nonneg (y / 128) (show (32 : Int) ≠ 0 by decide)
  have a2 := Int.emod_lt_of_pos (y / 128) (show (0 : Int) < 32 by decide)
  have b1 := Int.emod_nonneg (w / 128) (show (128 : Int) ≠ 0 by decide)
  have b2 := Int.emod_lt_of_pos (w / 128) (show (0 : Int) < 128 by decide)
  have c1 := Int.emod_nonneg y (show (128 : Int) ≠ 0 by decide)
  have c2 := Int.emod_lt_of_pos y (show (0 : Int) < 128 by decide)
  unfold sf
  generalize y / 128 % 32 = a at *
  generalize w / 128 % 128 = b at *
  generalize y % 128 = c at *
  generalize w / 524288 = d at *
  refine ⟨by omega, by omega, by omega, by omega⟩
theorem sf_again (w y z : Int) : sf (sf w y) z = sf w z := by
  have h := sf_parts w y
  unfold sf at *
  omega
theorem low12 (y : Int) : y % 128 + y / 128 % 32 * 128 = y % 4096 := by omega
end Jl

/-! Steps: one lemma for each reading, to be walked from the left. -/
namespace Jl
open PySem L2
section
variable {X : Cx}
/-- a list + a list, each to be read (the script, too) -/
def rCatS (K : PySem.W.Frag) : R2 := fun x y H Q => ∃ l b xs zs, x = .ref l ∧ y = .ref b ∧ SqL K H l xs ∧ SqL K H b zs ∧ xs.length + zs.length ≤ sizeLine ∧ ∀ p, H p = none → Q (.ref p) (upd H p (.lst (xs ++ zs)))
theorem op_catS : OpR X (binaryOp .Add) (rCatS X.K) := by
  intro pins s σ H x y v u Q I rx ry h
  obtain ⟨l, b, xs, zs, rfl, rfl, hH, hB, hz, q⟩ := h
  cases rx
  cases ry
  obtain ⟨its, r, p, _⟩ := I.list hH
  obtain ⟨its2, r2, p2, _⟩ := I.list hB
  have hl := p.isList
  have hb := p2.isList
  have hsz : its.length + its2.length ≤ sizeLine := by rw [← r.length, ← r2.length]; exact hz
  obtain ⟨⟨cls, dd, data, sl⟩, ho, hc, n, hd⟩ := id hl
  obtain ⟨⟨cls2, dd2, data2, sl2⟩, ho2, hc2, n2, hd2⟩ := id hb
  simp only at hc hd hc2 hd2
  subst hc hd hc2 hd2
  have e : its.toArray ++ its2.toArray = (its ++ its2).toArray := by simp
  refine PySem.concat_meets ⟨_, ho, rfl⟩ ⟨_, ho2, rfl⟩ PySem.noFill_list_add PySem.seq_list_add PySem.F.slot_list_add PySem.F.entry_list_add (PySem.F.args_list_add_2 _ _) (PyProof.Rows.list_addW l b its.toArray its2.toArray n n2 dd dd2 sl sl2 (by simpa using hsz)) ⟨ho, ho2, ?_⟩
  rw [e]
  exact ⟨.ref _, _, I.lnew (t' := s.toks) (r.append r2) (by rw [List.length_append]; omega), rfl, q _ I.fresh⟩
end
section
variable {K : PySem.W.Frag} {σ : L2.St} {H : Hp} {Q : VK} {ta tb tc te : TE} {tt t1 t2 : TT} {tr : TA} {i j : Int} {x y v : V} {b c : Bool} {p q A B : Prop} {nx bk ct : L2.St → Hp → Prop} {rt : VK} {ts tu tw : TS} {g : Int → Int → V} {R : List V → Hp → Prop} {T : Bool → Hp → Prop} {E : XK} {sp : Sp}
theorem s_var {k : Nat} (h : σ[k]? = some (some v)) (z : Q v H) : tVar k σ H Q := ⟨v, h, z⟩
theorem s_c (z : Q v H) : tC v σ H Q := z
theorem s_op {r : R2} (z : ta σ H fun x H1 => tb σ H1 fun y H2 => r x y H2 Q) : tOp r ta tb σ H Q := z
theorem s_un {r : V → Hp → VK → Prop} (z : ta σ H fun x H1 => r x H1 Q) : tUn r ta σ H Q := z
theorem s_I0 (z : Q (g i j) H) : rI0 g (.int i) (.int j) H Q := ⟨i, j, rfl, rfl, z⟩
theorem s_I {C : Int → Int → Prop} (hc : C i j) (z : Q (g i j) H) : rI C g (.int i) (.int j) H Q := ⟨i, j, rfl, rfl, hc, z⟩
theorem s_U {f : Int → V} (z : Q (f i) H) : rU f (.int i) H Q := ⟨i, rfl, z⟩
theorem s_eqI (z : Q (.bl (decide (i = j))) H) : rEq (.int i) (.int j) H Q := ⟨rfl, by
  have e : decide (V.int i = V.int j) = decide (i = j) := by rw [Bool.eq_iff_iff]; simp
  rw [e]; exact z⟩
theorem s_neI (z : Q (.bl (!decide (i = j))) H) : rNe (.int i) (.int j) H Q := ⟨rfl, by
  have e : decide (V.int i = V.int j) = decide (i = j) := by rw [Bool.eq_iff_iff]; simp
  rw [e]; exact z⟩
theorem s_eqS {z w : Str} (k : Q (.bl (decide (z = w))) H) : rEq (.str z) (.str w) H Q := ⟨rfl, by
  have e : decide (V.str z = V.str w) = decide (z = w) := by rw [Bool.eq_iff_iff]; simp
  rw [e]; exact k⟩
theorem s_neS {z w : Str} (k : Q (.bl (!decide (z = w))) H) : rNe (.str z) (.str w) H Q := ⟨rfl, by
  have e : decide (V.str z = V.str w) = decide (z = w) := by rw [Bool.eq_iff_iff]; simp
  rw [e]; exact k⟩
theorem s_eqB (k : Q (.bl (decide (b = c))) H) : rEq (.bl b) (.bl c) H Q := ⟨rfl, by
  have e : decide (V.bl b = V.bl c) = decide (b = c) := by rw [Bool.eq_iff_iff]; simp
  rw [e]; exact k⟩
theorem s_neB (k : Q (.bl (!decide (b = c))) H) : rNe (.bl b) (.bl c) H Q := ⟨rfl, by
  have e : decide (V.bl b = V.bl c) = decide (b = c) := by rw [Bool.eq_iff_iff]; simp
  rw [e]; exact k⟩
theorem s_isB (k : Q (.bl (decide (b = c))) H) : rIsB (.bl b) (.bl c) H Q := ⟨b, c, rfl, rfl, k⟩
theorem s_notB (k : Q (.bl (!decide (b = c))) H) : rNotB (.bl b) (.bl c) H Q := ⟨b, c, rfl, rfl, k⟩
theorem s_test {t : TE} (z : t σ H fun x H' => ∃ k, x = .bl k ∧ T k H') : tTest t σ H T := z
theorem s_tB {t : TE} (z : t σ H fun x H' => ∃ k, x = .bl k ∧ T k H') : tB t σ H T := z
theorem s_chain {r r' : R2} (z : ta σ H fun x H1 => tb σ H1 fun y H2 => r x y H2 fun z H3 => ∃ k, z = .bl k ∧ (if k = true then tc σ H3 fun w' H4 => r' y w' H4 Q else Q (.bl false) H3)) : tChain r r' ta tb tc σ H Q := z
theorem s_and (z : t1 σ H fun c H1 => if c = true then t2 σ H1 T else T false H1) : tAnd t1 t2 σ H T := z
theorem s_or (z : t1 σ H fun c H1 => if c = true then T true H1 else t2 σ H1 T) : tOr t1 t2 σ H T := z
theorem s_not (z : t1 σ H fun c H1 => T (!c) H1) : tNot t1 σ H T := z
theorem s_andV (z : ta σ H fun x H1 => ∃ c, x = .bl c ∧ if c = true then tb σ H1 Q else Q (.bl false) H1) : tAndV ta tb σ H Q := z
theorem s_orV (z : ta σ H fun x H1 => ∃ c, x = .bl c ∧ if c = true then Q (.bl true) H1 else tb σ H1 Q) : tOrV ta tb σ H Q := z
theorem s_notV (z : ta σ H fun x H1 => ∃ c, x = .bl c ∧ Q (.bl (!c)) H1) : tNotV ta σ H Q := z
theorem s_ifE (z : tt σ H fun c H1 => if c = true then ta σ H1 Q else tb σ H1 Q) : tIf tt ta tb σ H Q := z
theorem s_exbl {P : Bool → Prop} (z : P b) : ∃ k, V.bl b = V.bl k ∧ P k := ⟨b, rfl, z⟩
theorem s_next (z : nx σ H) : tNext ⟨nx, rt, bk, ct⟩ σ H := z
theorem s_seq (z : ts ⟨tu ⟨nx, rt, bk, ct⟩, rt, bk, ct⟩ σ H) : tSeq ts tu ⟨nx, rt, bk, ct⟩ σ H := z
theorem s_seq_assoc (z : tSeq ts tu ⟨tw ⟨nx, rt, bk, ct⟩, rt, bk, ct⟩ σ H) : tSeq ts (tSeq tu tw) ⟨nx, rt, bk, ct⟩ σ H := z
theorem s_drop (z : te σ H fun _ H1 => nx σ H1) : tDrop te ⟨nx, rt, bk, ct⟩ σ H := z
theorem s_ret (z : te σ H rt) : tRet te ⟨nx, rt, bk, ct⟩ σ H := z
theorem s_break (z : bk σ H) : tBreak ⟨nx, rt, bk, ct⟩ σ H := z
theorem s_cont (z : ct σ H) : tCont ⟨nx, rt, bk, ct⟩ σ H := z
theorem s_ifS (z : tt σ H fun b H1 => if b = true then ts ⟨nx, rt, bk, ct⟩ σ H1 else tu ⟨nx, rt, bk, ct⟩ σ H1) : tIfS tt ts tu ⟨nx, rt, bk, ct⟩ σ H := z
theorem s_asg {gg : TG} (z : te σ H fun x H1 => gg x σ H1 nx) : tAsg te gg ⟨nx, rt, bk, ct⟩ σ H := z
theorem s_name {k : Nat} {W : L2.St → Hp → Prop} (z : W (σ.set k (some v)) H) : gName k v σ H W := z
theorem s_nil (z : R [] H) : tNil σ H R := z
theorem s_cons (z : ta σ H fun x H1 => tr σ H1 fun xs H2 => R (x :: xs) H2) : tCons ta tr σ H R := z
theorem s_call {t : TA} (z : t σ H fun vs H1 => sp vs H1 Q E) : tCall sp [] E t σ H Q := by
  have e : (fun vs H1 => sp vs H1 Q E) = (fun vs H1 => sp (vs ++ []) H1 Q E) := by
    funext vs H1
    rw [List.append_nil]
  unfold tCall
  rw [← e]
  exact z
theorem s_CB {r : List V → Hp → VK → Prop} {t : TA} (z : t σ H fun vs H1 => r vs H1 Q) : tCB r t σ H Q := z
theorem s_iteT (z : A) : if true = true then A else B := by rw [if_pos rfl]; exact z
theorem s_iteF (z : B) : if false = true then A else B := by rw [if_neg Bool.false_ne_true]; exact z
theorem s_iteD [Decidable p] (h1 : p → A) (h2 : ¬ p → B) : if decide p = true then A else B := by
  by_cases h : p
  · rw [if_pos (decide_eq_true h)]; exact h1 h
  · rw [if_neg (by rw [decide_eq_false h]; exact Bool.false_ne_true)]; exact h2 h
theorem s_iteN [Decidable p] (h1 : ¬ p → A) (h2 : p → B) : if (!decide p) = true then A else B := by
  by_cases h : p
  · rw [if_neg (by rw [decide_eq_true h]; exact Bool.false_ne_true)]; exact h2 h
  · rw [if_pos (by rw [decide_eq_false h]; rfl)]; exact h1 h
theorem s_iteNN [Decidable p] (h1 : p → A) (h2 : ¬ p → B) : if (!!decide p) = true then A else B := by rw [Bool.not_not]; exact s_iteD h1 h2
theorem s_iteNT (z : B) : if (!true) = true then A else B := by rw [if_neg (by decide)]; exact z
theorem s_iteNF (z : A) : if (!false) = true then A else B := by rw [if_pos (by decide)]; exact z
theorem s_iteB (h1 : b = true → A) (h2 : b = false → B) : if b = true then A else B := by
  cases b with
  | true => exact s_iteT (h1 rfl)
  | false => exact s_iteF (h2 rfl)
theorem s_iteNB (h1 : b = false → A) (h2 : b = true → B) : if (!b) = true then A else B := by
  cases b with
  | false => exact s_iteNF (h1 rfl)
  | true => exact s_iteNT (h2 rfl)
theorem s_isi {xs : V} {cn : String} {k : Bool} {t : Value} (ty : TyX K H xs t) (hk : PySem.W.kitOne K t (.type cn) = some k) (z : Q (.bl k) H) : rIsi K [xs, .ty cn] H Q := ⟨xs, .ty cn, t, .type cn, k, rfl, .ty cn, ty, hk, z⟩
theorem s_isi_ii (z : Q (.bl true) H) : rIsi K [.int i, .ty "int"] H Q := s_isi (.base (.int i)) (kit_ty (by decide +kernel)) z
theorem s_isi_ib (z : Q (.bl false) H) : rIsi K [.int i, .ty "bool"] H Q := s_isi (.base (.int i)) (kit_ty (by decide +kernel)) z
theorem s_isi_bb (z : Q (.bl true) H) : rIsi K [.bl b, .ty "bool"] H Q := s_isi (.base (.bl b)) (kit_ty (by decide +kernel)) z
theorem s_isi_bi (z : Q (.bl true) H) : rIsi K [.bl b, .ty "int"] H Q := s_isi (.base (.bl b)) (kit_ty (by decide +kernel)) z
theorem s_isi_ss {w : Str} (z : Q (.bl true) H) : rIsi K [.str w, .ty "str"] H Q := s_isi (.base (.str w)) (kit_ty (by decide +kernel)) z
theorem s_isN (z : Q (.bl (decide (x = .non))) H) : (fun x y H Q => y = V.non ∧ Q (.bl (decide (x = .non))) H : R2) x .non H Q := ⟨rfl, z⟩
theorem c_div (h : 0 < j) (h2 : j < 1073741824) : CDiv i j := ⟨h, h2⟩
theorem c_mulR (h : -(2 ^ 64) < j) (h2 : j < 2 ^ 64) : CMul i j := .inr ⟨h, h2⟩
theorem c_mulL (h : -(2 ^ 64) < i) (h2 : i < 2 ^ 64) : CMul i j := .inl ⟨h, h2⟩
theorem c_pow (h : 0 ≤ j) (h1 : j ≤ 1000000) (h2 : i.natAbs < 2 ^ 64) : CPow i j := ⟨h, h1, h2⟩
/-! the ends -/
theorem fin_int (z : Q (.int i) H) (e : i = j) : Q (.int j) H := by rw [← e]; exact z
theorem fin_bl (z : Q (.bl b) H) (e : b = c) : Q (.bl c) H := by rw [← e]; exact z
theorem fin_dec [Decidable p] (z : Q (.bl true) H) (h : p) : Q (.bl (decide p)) H := by rw [decide_eq_true h]; exact z
theorem fin_ndec [Decidable p] (z : Q (.bl true) H) (h : ¬ p) : Q (.bl (!decide p)) H := by rw [decide_eq_false h]; exact z
theorem dec_t (h : p) [Decidable p] : decide p = true := decide_eq_true h
theorem s_iteDt [Decidable p] (h : p) (z : A) : if decide p = true then A else B := s_iteD (fun _ => z) fun n => absurd h n
theorem s_iteDf [Decidable p] (h : ¬ p) (z : B) : if decide p = true then A else B := s_iteD (fun n => absurd n h) fun _ => z
theorem s_iteNt [Decidable p] (h : p) (z : B) : if (!decide p) = true then A else B := s_iteN (fun n => absurd h n) fun _ => z
theorem s_iteNf [Decidable p] (h : ¬ p) (z : A) : if (!decide p) = true then A else B := s_iteN (fun _ => z) fun n => absurd n h
/-- a test by itself: its outcome -/
theorem s_ifS_f (h : ∀ T : Bool → Hp → Prop, T false H → tt σ H T) (z : tu ⟨nx, rt, bk, ct⟩ σ H) : tIfS tt ts tu ⟨nx, rt, bk, ct⟩ σ H := h _ (s_iteF z)
theorem s_ifS_t (h : ∀ T : Bool → Hp → Prop, T true H → tt σ H T) (z : ts ⟨nx, rt, bk, ct⟩ σ H) : tIfS tt ts tu ⟨nx, rt, bk, ct⟩ σ H := h _ (s_iteT z)
theorem s_ifS_d (p : Prop) [Decidable p] (h : ∀ T : Bool → Hp → Prop, T (decide p) H → tt σ H T) (z1 : p → ts ⟨nx, rt, bk, ct⟩ σ H) (z2 : ¬ p → tu ⟨nx, rt, bk, ct⟩ σ H) : tIfS tt ts tu ⟨nx, rt, bk, ct⟩ σ H := h _ (s_iteD z1 z2)
/-- a shift to the left -/
theorem shl_ok (a : Nat) (h : i.natAbs < 2 ^ a) (h0 : 0 ≤ j) (hj : j ≤ 1000000) (ha : a ≤ 1000000) : CShl i j := by
  refine ⟨h0, ?_⟩
  have b : Builtin.Int.intBits i ≤ i.natAbs.log2 + 1 := by
    unfold Builtin.Int.intBits
    split <;> omega
  have h2 : i.natAbs.log2 ≤ a := by
    by_cases z : i.natAbs = 0
    · rw [z]; simp
    · have := (Nat.log2_lt z).mpr h; omega
  have e : (2 : Int) ^ 27 = 134217728 := by decide
  rw [e]
  omega
/-! lists -/
theorem s_tup {t : TA} (z : t σ H fun xs H1 => xs.length ≤ sizeLine ∧ ∀ p, H1 p = none → Q (.ref p) (upd H1 p (.tup xs))) : tTup t σ H Q := z
theorem s_lst {t : TA} (z : t σ H fun xs H1 => xs.length ≤ sizeLine ∧ ∀ p, H1 p = none → Q (.ref p) (upd H1 p (.lst xs))) : tLst t σ H Q := z
theorem s_ixL {l : Addr} {xs : List V} (h : SqL K H l xs) (ha : atI xs i = some v) (z : Q v H) : rIxL K (.ref l) (.int i) H Q := ⟨l, xs, i, v, rfl, rfl, h, ha, z⟩
theorem s_ixT {l : Addr} {xs : List V} (h : SqT K H l xs) (ha : atI xs i = some v) (z : Q v H) : rIxT K (.ref l) (.int i) H Q := ⟨l, xs, i, v, rfl, rfl, h, ha, z⟩
theorem s_len {l : Addr} {xs : List V} (h : SqL K H l xs) (z : Q (.int xs.length) H) : (fun xs H Q => ∃ p ys, xs = [V.ref p] ∧ (SqL K H p ys ∨ SqT K H p ys) ∧ Q (.int ys.length) H : List V → Hp → VK → Prop) [.ref l] H Q := ⟨l, xs, rfl, .inl h, z⟩
theorem sqU {l : Addr} {xs : List V} : SqL K (upd H l (.lst xs)) l xs := .inl (.inl upd_same)
theorem same_upd {l : Addr} {o : HO} (h : H l = none) : Same H (upd H l o) := fun b u e => by
  rw [upd_ne (ne_of_none e h)]
  exact e
/-- range(n): what holds ahead of each turn -/
theorem s_forR1 {k : Nat} {ta : TA} (n : Int) (Pv : Nat → L2.St → Hp → Prop) (ha : ∀ R : List V → Hp → Prop, R [.int n] H → ta σ H R) (hn : -(2 ^ 62) ≤ n ∧ n < 2 ^ 62) (h0 : Pv 0 σ H)
    (hs : ∀ (i : Nat) σ' H', (i : Int) < n → Pv i σ' H' → tu ⟨Pv (i + 1), rt, nx, Pv (i + 1)⟩ (σ'.set k (some (.int (i : Int)))) H') (hd : ∀ σ' H', Pv n.toNat σ' H' → nx σ' H') : tFor (iRng1 ta) (gName k) tu ⟨nx, rt, bk, ct⟩ σ H := by
  refine ha _ ⟨n, rfl, hn.1, hn.2, ?_⟩
  refine for_range (lo := 0) (n := n.toNat) Pv h0 (fun i σ' H' hi h => ?_) hd
  show tu _ (σ'.set k (some (.int ((0 : Int) + (i : Int))))) H'
  rw [Int.zero_add]
  exact hs i σ' H' (by omega) h
/-- a list of known items -/
theorem s_forL {k : Nat} {tl : TE} {a : Addr} {xs : List V} (Pv : Nat → L2.St → Hp → Prop) (H1 : Hp) (ha : ∀ R : VK, R (.ref a) H1 → tl σ H R) (hx : SqL K H1 a xs) (h0 : Pv 0 σ H1)
    (hl : ∀ i σ' H', i ≤ xs.length → Pv i σ' H' → SqL K H' a xs)
    (hs : ∀ (i : Nat) x σ' H', xs[i]? = some x → Pv i σ' H' → tu ⟨Pv (i + 1), rt, nx, Pv (i + 1)⟩ (σ'.set k (some x)) H') (hd : ∀ σ' H', Pv xs.length σ' H' → nx σ' H') : tFor (iList K tl) (gName k) tu ⟨nx, rt, bk, ct⟩ σ H := by
  refine ha _ ⟨a, rfl, ⟨xs, hx⟩, ?_⟩
  exact for_list (xs := xs) Pv h0 hl (fun i x σ' H' hi h => hs i x σ' H' hi h) hd
theorem ints_get {ns : List Int} {k : Nat} {x : V} (h : (ns.map V.int)[k]? = some x) : ∃ z, ns[k]? = some z ∧ x = .int z := by
  rw [List.getElem?_map] at h
  cases e : ns[k]? with
  | none => rw [e] at h; cases h
  | some z => rw [e] at h; exact ⟨z, rfl, (Option.some.inj h).symm⟩
theorem atI_int {ns : List Int} {i : Int} {k : Nat} {z : Int} (h : ns[k]? = some z) (e : i = k) : atI (ns.map V.int) i = some (.int z) := by
  subst e
  refine atI_nat ?_
  rw [List.getElem?_map, h]; rfl
theorem atI_any {ns : List Int} {i : Int} (h1 : -(ns.length : Int) ≤ i) (h2 : i < ns.length) : ∃ z, atI (ns.map V.int) i = some (.int z) := by
  unfold atI ixN
  rw [List.length_map]
  by_cases h : 0 ≤ i
  · rw [if_pos h, if_pos h2]
    obtain ⟨z, hz⟩ : ∃ z, ns[i.toNat]? = some z := ⟨_, List.getElem?_eq_getElem (by omega)⟩
    refine ⟨z, ?_⟩
    show (ns.map V.int)[i.toNat]? = _
    rw [List.getElem?_map, hz]; rfl
  · rw [if_neg h, if_pos h1]
    obtain ⟨z, hz⟩ : ∃ z, ns[(i + ns.length).toNat]? = some z := ⟨_, List.getElem?_eq_getElem (by omega)⟩
    refine ⟨z, ?_⟩
    show (ns.map V.int)[(i + ns.length).toNat]? = _
    rw [List.getElem?_map, hz]; rfl
theorem small63 {n m : Nat} (h : n ≤ 63) (h2 : m ≤ 100) : n + m ≤ sizeLine := Nat.le_trans (by omega : n + m ≤ 200) (by decide)
/-- for cell in [0] + script: .. -/
theorem law0 {a : Addr} {ns : List Int} (hS : SqL K H a (ns.map V.int)) (hn : ns.length ≤ 63)
    (hb : ∀ (c : Int) (N : L2.St → Hp → Prop) H1, Same H H1 → (∀ v H2, Same H1 H2 → N [some (.ref a), v] H2) → tu ⟨N, rt, nx, N⟩ [some (.ref a), some (.int c)] H1)
    (hd : ∀ v H1, Same H H1 → nx [some (.ref a), v] H1) :
    tFor (iList K (tOp (rCatS K) (tLst (tCons (tC (.int 0)) tNil)) (tVar 0))) (gName 1) tu ⟨nx, rt, bk, ct⟩ [some (.ref a), none] H := by
  show _ ∧ ∀ _, _
  refine ⟨by decide, fun p hp => ?_⟩
  refine ⟨_, rfl, p, a, [.int 0], ns.map V.int, rfl, rfl, sqU, (same_upd hp).seq hS, (by rw [List.length_map]; show 1 + ns.length ≤ _; rw [Nat.add_comm]; exact small63 hn (by decide)), fun q hq => ?_⟩
  have s1 : Same H (upd (upd H p (.lst [.int 0])) q (.lst ([.int 0] ++ ns.map V.int))) := (same_upd hp).trans (same_upd hq)
  refine ⟨q, rfl, ⟨_, sqU⟩, ?_⟩
  refine for_list (xs := [.int 0] ++ ns.map V.int) (fun i σ H' => (∃ v, σ = [some (.ref a), v]) ∧ Same (upd (upd H p (.lst [.int 0])) q (.lst ([.int 0] ++ ns.map V.int))) H') ⟨⟨_, rfl⟩, Same.refl _⟩ (fun i σ' H' _ h => h.2.seq sqU) (fun i x σ' H' hi h => ?_) (fun σ' H' h => ?_)
  · obtain ⟨⟨v, rfl⟩, s2⟩ := h
    have e : [V.int 0] ++ ns.map V.int = (0 :: ns).map V.int := rfl
    rw [e] at hi
    obtain ⟨z, _, rfl⟩ := ints_get hi
    exact hb z _ H' (s1.trans s2) fun v H2 s3 => ⟨⟨v, rfl⟩, s2.trans s3⟩
  · obtain ⟨⟨v, rfl⟩, s2⟩ := h
    exact hd v H' (s1.trans s2)
/-- cells = script + [e, ..]; for k in range(len(cells)): .. -/
theorem law1 {a : Addr} {ns ms : List Int} (hS : SqL K H a (ns.map V.int)) (hn : ns.length ≤ 63) (hm : ms.length ≤ 100) {tl : TE}
    (hl : ∀ (R : VK), (∀ p, H p = none → R (.ref p) (upd H p (.lst (ms.map V.int)))) → tl [some (.ref a), none, none] H R) {te : TE}
    (he : ∀ (p : Addr) (H1 : Hp) (R : List V → Hp → Prop), SqL K H1 p ((ns ++ ms).map V.int) → R [.int ((ns ++ ms).length : Int)] H1 → tCons te tNil [some (.ref a), some (.ref p), none] H1 R)
    (hb : ∀ (p : Addr) (c : Int) (N : L2.St → Hp → Prop) H1, Same H H1 → SqL K H1 p ((ns ++ ms).map V.int) → 0 ≤ c → c < ((ns ++ ms).length : Int) → (∀ v H2, Same H1 H2 → N [some (.ref a), some (.ref p), v] H2) → tu ⟨N, rt, nx, N⟩ [some (.ref a), some (.ref p), some (.int c)] H1)
    (hd : ∀ p v H1, Same H H1 → nx [some (.ref a), some (.ref p), v] H1) :
    tSeq (tAsg (tOp (rCatS K) (tVar 0) tl) (gName 1)) (tFor (iRng1 (tCons te tNil)) (gName 2) tu) ⟨nx, rt, bk, ct⟩ [some (.ref a), none, none] H := by
  refine s_seq (s_asg (s_op (s_var rfl (hl _ fun p hp => ?_))))
  refine ⟨a, p, ns.map V.int, ms.map V.int, rfl, rfl, (same_upd hp).seq hS, sqU, (by rw [List.length_map, List.length_map]; exact small63 hn hm), fun q hq => ?_⟩
  rw [← List.map_append]
  have s1 : Same H (upd (upd H p (.lst (ms.map V.int))) q (.lst ((ns ++ ms).map V.int))) := (same_upd hp).trans (same_upd hq)
  have hlen : (ns ++ ms).length ≤ 163 := by rw [List.length_append]; omega
  refine s_forR1 ((ns ++ ms).length : Int) (fun i σ H' => (∃ v, σ = [some (.ref a), some (.ref q), v]) ∧ Same (upd (upd H p (.lst (ms.map V.int))) q (.lst ((ns ++ ms).map V.int))) H') (fun R z => he q _ R sqU z) (by omega) ⟨⟨_, rfl⟩, Same.refl _⟩ (fun i σ' H' hi h => ?_) (fun σ' H' h => ?_)
  · obtain ⟨⟨v, rfl⟩, s2⟩ := h
    exact hb q i _ H' (s1.trans s2) (s2.seq sqU) (by omega) hi fun v H2 s3 => ⟨⟨v, rfl⟩, s2.trans s3⟩
  · obtain ⟨⟨v, rfl⟩, s2⟩ := h
    exact hd q v H' (s1.trans s2)
/-- the same, two names more -/
theorem law1x {a : Addr} {ns ms : List Int} (hS : SqL K H a (ns.map V.int)) (hn : ns.length ≤ 63) (hm : ms.length ≤ 100) {tl : TE}
    (hl : ∀ (R : VK), (∀ p, H p = none → R (.ref p) (upd H p (.lst (ms.map V.int)))) → tl [some (.ref a), none, none, none, none] H R) {te : TE}
    (he : ∀ (p : Addr) (H1 : Hp) (R : List V → Hp → Prop), SqL K H1 p ((ns ++ ms).map V.int) → R [.int ((ns ++ ms).length : Int)] H1 → tCons te tNil [some (.ref a), some (.ref p), none, none, none] H1 R)
    (hb : ∀ (p : Addr) (c : Int) (v1 v2 : Option V) (N : L2.St → Hp → Prop) H1, Same H H1 → SqL K H1 p ((ns ++ ms).map V.int) → 0 ≤ c → c < ((ns ++ ms).length : Int) → (∀ v v1 v2 H2, Same H1 H2 → N [some (.ref a), some (.ref p), v, v1, v2] H2) → tu ⟨N, rt, nx, N⟩ [some (.ref a), some (.ref p), some (.int c), v1, v2] H1)
    (hd : ∀ p v v1 v2 H1, Same H H1 → nx [some (.ref a), some (.ref p), v, v1, v2] H1) :
    tSeq (tAsg (tOp (rCatS K) (tVar 0) tl) (gName 1)) (tFor (iRng1 (tCons te tNil)) (gName 2) tu) ⟨nx, rt, bk, ct⟩ [some (.ref a), none, none, none, none] H := by
  refine s_seq (s_asg (s_op (s_var rfl (hl _ fun p hp => ?_))))
  refine ⟨a, p, ns.map V.int, ms.map V.int, rfl, rfl, (same_upd hp).seq hS, sqU, (by rw [List.length_map, List.length_map]; exact small63 hn hm), fun q hq => ?_⟩
  rw [← List.map_append]
  have s1 : Same H (upd (upd H p (.lst (ms.map V.int))) q (.lst ((ns ++ ms).map V.int))) := (same_upd hp).trans (same_upd hq)
  have hlen : (ns ++ ms).length ≤ 163 := by rw [List.length_append]; omega
  refine s_forR1 ((ns ++ ms).length : Int) (fun i σ H' => (∃ v v1 v2, σ = [some (.ref a), some (.ref q), v, v1, v2]) ∧ Same (upd (upd H p (.lst (ms.map V.int))) q (.lst ((ns ++ ms).map V.int))) H') (fun R z => he q _ R sqU z) (by omega) ⟨⟨_, _, _, rfl⟩, Same.refl _⟩ (fun i σ' H' hi h => ?_) (fun σ' H' h => ?_)
  · obtain ⟨⟨v, v1, v2, rfl⟩, s2⟩ := h
    exact hb q i v1 v2 _ H' (s1.trans s2) (s2.seq sqU) (by omega) hi fun v v1 v2 H2 s3 => ⟨⟨v, v1, v2, rfl⟩, s2.trans s3⟩
  · obtain ⟨⟨v, v1, v2, rfl⟩, s2⟩ := h
    exact hd q v v1 v2 H' (s1.trans s2)
/-- if p: x = e, x being an int: one way -/
theorem s_ifAsgI {k : Nat} (a b : Int) {p : Prop} [Decidable p] (ht : ∀ T : Bool → Hp → Prop, T (decide p) H → tt σ H T) (he : p → ∀ R : VK, R (.int b) H → te σ H R) (hσ : σ[k]? = some (some (.int a)))
    (z : nx (σ.set k (some (.int (if p then b else a)))) H) : tIfS tt (tAsg te (gName k)) tNext ⟨nx, rt, bk, ct⟩ σ H := by
  refine ht _ (s_iteD (fun h => he h _ ?_) (fun h => ?_))
  · rw [if_pos h] at z; exact z
  · rw [if_neg h] at z
    have e : σ.set k (some (.int a)) = σ := by
      obtain ⟨h1, h2⟩ := List.getElem?_eq_some_iff.mp hσ
      rw [← h2]; exact List.set_getElem_self h1
    rw [e] at z
    exact z
theorem s_iteAsgI {k : Nat} (a b : Int) {p : Prop} [Decidable p] (he : p → ∀ R : VK, R (.int b) H → te σ H R) (hσ : σ[k]? = some (some (.int a)))
    (z : nx (σ.set k (some (.int (if p then b else a)))) H) : if decide p = true then tAsg te (gName k) ⟨nx, rt, bk, ct⟩ σ H else tNext ⟨nx, rt, bk, ct⟩ σ H :=
  s_ifAsgI (tt := fun _ H T => T (decide p) H) (bk := bk) (ct := ct) (rt := rt) a b (fun _ h => h) he hσ z
theorem s_iteAsgV {k : Nat} (a b : V) {p : Prop} [Decidable p] (he : p → ∀ R : VK, R b H → te σ H R) (hσ : σ[k]? = some (some a))
    (z : nx (σ.set k (some (if p then b else a))) H) : if decide p = true then tAsg te (gName k) ⟨nx, rt, bk, ct⟩ σ H else tNext ⟨nx, rt, bk, ct⟩ σ H := by
  refine s_iteD (fun h => he h _ ?_) (fun h => ?_)
  · rw [if_pos h] at z; exact z
  · rw [if_neg h] at z
    have e : σ.set k (some a) = σ := by
      obtain ⟨h1, h2⟩ := List.getElem?_eq_some_iff.mp hσ
      rw [← h2]; exact List.set_getElem_self h1
    rw [e] at z
    exact z
theorem ite_str (p : Prop) [Decidable p] (a b : Str) : (if p then V.str a else V.str b) = V.str (if p then a else b) := by split <;> rfl
end
end Jl

/-! Steps over lists: append, comprehensions over a range, equality of lists. -/
namespace Jl
open PySem L2
section
variable {K : PySem.W.Frag} {σ : L2.St} {H H' : Hp} {Q : VK} {ta tb tc te to : TE} {tr : TA} {i j : Int} {x y v : V} {a p : Addr} {xs ys : List V}
theorem sameT (e : Same H H') (h : SqT K H a xs) : SqT K H' a xs := by
  rcases h with (h | ⟨o, h⟩) | h
  · exact .inl (.inl (e _ _ h))
  · exact .inl (.inr ⟨o, e _ _ h⟩)
  · exact .inr h
mutual
theorem dp_same (e : Same H H') : ∀ {v : V} {d : PyData}, Dp K H v d → Dp K H' v d
  | _, _, .non => .non
  | _, _, .bl b => .bl b
  | _, _, .int i => .int i
  | _, _, .str x => .str x
  | _, _, .lst h hs => .lst (e.seq h) (dps_same e hs)
  | _, _, .tup h hs => .tup (sameT e h) (dps_same e hs)
theorem dps_same (e : Same H H') : ∀ {vs : List V} {ds : List PyData}, DpAll K H vs ds → DpAll K H' vs ds
  | _, _, .nil => .nil
  | _, _, .cons h hs => .cons (dp_same e h) (dps_same e hs)
end
theorem dp_ints : ∀ ns : List Int, DpAll K H (ns.map V.int) (ns.map PyData.int)
  | [] => .nil
  | n :: ns => .cons (.int n) (dp_ints ns)
theorem dp_intL {ns : List Int} (h : SqL K H a (ns.map V.int)) : Dp K H (.ref a) (.list (ns.map PyData.int)) := .lst h (dp_ints ns)
theorem lay_ints : ∀ ns : List Int, PyData.canLayAll0 (ns.map PyData.int) = true
  | [] => rfl
  | n :: ns => by show (true && PyData.canLayAll0 (ns.map PyData.int)) = true; rw [lay_ints ns]; rfl
theorem depth_ints : ∀ ns : List Int, PyData.depthAll (ns.map PyData.int) ≤ 1
  | [] => by show (0 : Nat) ≤ 1; decide
  | n :: ns => by
    have h := depth_ints ns
    show max (PyData.depth (.int n)) (PyData.depthAll (ns.map PyData.int)) ≤ 1
    have e : PyData.depth (.int n) = 0 := by unfold PyData.depth; rfl
    omega
theorem shaped_ints (ns : List Int) : SeqAt.shaped (.list (ns.map PyData.int)) = true := by
  have h := depth_ints ns
  refine Bool.and_eq_true_iff.mpr ⟨lay_ints ns, decide_eq_true ?_⟩
  show PyData.depthAll (ns.map PyData.int) + 1 ≤ 64
  omega
theorem eqv_ints : ∀ ns ms : List Int, PyData.eqvAll (ns.map PyData.int) (ms.map PyData.int) = decide (ns = ms)
  | [], [] => rfl
  | [], _ :: _ => rfl
  | _ :: _, [] => rfl
  | n :: ns, m :: ms => by
    show ((n == m) && PyData.eqvAll (ns.map PyData.int) (ms.map PyData.int)) = _
    rw [eqv_ints ns ms, Bool.eq_iff_iff]
    simp
theorem s_eqInts {p q : Addr} {ns ms : List Int} (h1 : SqL K H p (ns.map V.int)) (h2 : SqL K H q (ms.map V.int)) (z : Q (.bl (decide (ns = ms))) H) : rEqD K (.ref p) (.ref q) H Q :=
  ⟨_, _, dp_intL h1, dp_intL h2, shaped_ints ns, shaped_ints ms, by
    show Q (.bl (PyData.eqvAll (ns.map PyData.int) (ms.map PyData.int))) H
    rw [eqv_ints]; exact z⟩
theorem s_BM {T : String} {r : V → List V → Hp → VK → Prop} {t : TA} (z : to σ H fun x H1 => tyV K T x H1 ∧ t σ H1 fun xs H2 => r x xs H2 Q) : tBM K T r to t σ H Q := z
theorem ty_list (h : SqL K H p xs) : tyV K "list" (.ref p) H := .inl ⟨rfl, _, h⟩
theorem s_tyL {B : Prop} (h : H p = some (.lst xs)) (z : B) : tyV K "list" (.ref p) H ∧ B := ⟨ty_list (.inl (.inl h)), z⟩
theorem s_append (h : H p = some (.lst xs)) (z : Q .non (upd H p (.lst (xs ++ [v])))) (hl : xs.length < sizeLine) : rAppend (.ref p) [v] H Q := ⟨p, xs, v, rfl, rfl, h, hl, z⟩
/-- what H0 knew stands, when an object that it did not know is written -/
theorem same_mut {H0 : Hp} {o : HO} (e : Same H0 H) (h : H0 p = none) : Same H0 (upd H p o) := fun b u hb => by
  rw [upd_ne (ne_of_none hb h)]
  exact e b u hb
theorem small5 {n : Nat} (h : n ≤ 100000) : n ≤ sizeLine := Nat.le_trans h (by decide)
theorem small5' {n : Nat} (h : n ≤ 100000) : n < sizeLine := Nat.lt_of_le_of_lt h (by decide)
/-- [e for i in range(n)] -/
theorem s_lcR {t : TA} {k : Nat} {vs : List Nat} (n : Int) (f : Nat → V) (ha : ∀ R : List V → Hp → Prop, R [.int n] H → t σ H R) (hn : 0 ≤ n ∧ n ≤ 100000) (hw : ∀ x, wipe ((wipe σ vs).set k (some x)) vs = wipe σ vs)
    (he : ∀ (i : Nat) H1 (R : VK), Same H H1 → (i : Int) < n → (∀ H2, Same H1 H2 → R (f i) H2) → te ((wipe σ vs).set k (some (.int (i : Int)))) H1 R)
    (z : ∀ p H1, Same H H1 → H p = none → H1 p = some (.lst ((List.range n.toNat).map f)) → Q (.ref p) H1) : tLc (iRng1 t) (gName k) tYes te vs σ H Q := by
  refine ha _ ⟨n, rfl, by omega, by omega, fun D hD => ?_⟩
  refine lc_range (lo := 0) (n := n.toNat) (fun i H' => Same H H' ∧ H' D = some (.lst ((List.range i).map f))) ⟨same_upd hD, upd_same⟩ (fun i H1 hi h => ?_) (fun H1 h => z D H1 h.1 hD h.2)
  obtain ⟨s1, h1⟩ := h
  have e0 : (0 : Int) + (i : Int) = (i : Int) := Int.zero_add _
  show wipe ((wipe σ vs).set k (some (.int ((0 : Int) + (i : Int))))) vs = wipe σ vs ∧ te ((wipe σ vs).set k (some (.int ((0 : Int) + (i : Int))))) H1 _
  rw [e0]
  refine ⟨hw _, he i H1 _ s1 (by omega) fun H2 s2 => ⟨_, s2 D _ h1, small5' (by rw [List.length_map, List.length_range]; omega), same_mut (s1.trans s2) hD, ?_⟩⟩
  rw [upd_same, List.range_succ, List.map_append]
  rfl
theorem bitsOf_atI (w : Int) {i : Int} (h0 : 0 ≤ i) (h : i < 32) : atI ((bitsOf w 32).map V.int) i = some (.int (w / 2 ^ i.toNat % 2)) :=
  atI_int (bitsOf_get w (by omega)) (by omega)
/-! objects -/
theorem s_make {C : Addr} {sp : Sp} {E : XK} {t : TA} (z : t σ H fun vs H1 => ∀ x dx, H1 x = none → H1 dx = none → dx ≠ x → sp (.ref x :: vs) (upd (upd H1 dx (.own x)) x (.ins C dx [])) (fun v H2 => v = .non ∧ Q (.ref x) H2) E) : tMake C sp [] E t σ H Q := by
  have e : (fun vs H1 => ∀ x dx, H1 x = none → H1 dx = none → dx ≠ x → sp (.ref x :: vs) (upd (upd H1 dx (.own x)) x (.ins C dx [])) (fun v H2 => v = .non ∧ Q (.ref x) H2) E) = (fun vs H1 => ∀ x dx, H1 x = none → H1 dx = none → dx ≠ x → sp (.ref x :: (vs ++ [])) (upd (upd H1 dx (.own x)) x (.ins C dx [])) (fun v H2 => v = .non ∧ Q (.ref x) H2) E) := by
    funext vs H1
    rw [List.append_nil]
  unfold tMake
  rw [← e]
  exact z
theorem same_made {x dx C : Addr} {o : HO} (nx : H x = none) (nd : H dx = none) : Same H (upd (upd (upd H dx (.own x)) x (.ins C dx [])) x o) := fun b u e => by
  rw [upd_ne (ne_of_none e nx), upd_ne (ne_of_none e nx), upd_ne (ne_of_none e nd)]
  exact e
/-- an object with a title -/
def RuleAt (H : Hp) (p C : Addr) (t : Str) : Prop := ∃ dx, H p = some (.ins C dx (putF "title" (.str t) []))
theorem RuleAt.same {C : Addr} {t : Str} (e : Same H H') (h : RuleAt H p C t) : RuleAt H' p C t := by
  obtain ⟨dx, h⟩ := h
  exact ⟨dx, e _ _ h⟩
theorem s_meth {C : Addr} {m t : Str} {sp : Sp} {E : XK} (hR : RuleAt H p C t) (hv : ∀ R : VK, R (.ref p) H → ta σ H R) (hm : ¬ m = "title") (z : tr σ H fun vs H2 => sp (.ref p :: vs) H2 Q E) : tMeth C m sp [] E ta tr σ H Q := by
  obtain ⟨dx, h⟩ := hR
  refine hv _ ⟨p, dx, _, rfl, h, (by rw [lookup_putF, if_neg hm]; rfl), ?_⟩
  have e : (fun vs H2 => sp (.ref p :: vs) H2 Q E) = (fun vs H2 => sp (.ref p :: (vs ++ [])) H2 Q E) := by
    funext vs H1
    rw [List.append_nil]
  rw [← e]
  exact z
/-! an if at which the walk stops: its ways joined -/
def tIfK (c : TT) (t u : TS) : TS := tIfS c t u
theorem s_ifKw {k : Nat} {nx bk ct : L2.St → Hp → Prop} {rt : VK} {tt : TT} {P : Prop} (a0 : V) (M : V → Hp → Prop) (hσ : σ[k]? = some (some a0)) (ht : ∀ T : Bool → Hp → Prop, (P → T true H) → (¬ P → T false H) → tt σ H T)
    (h1 : P → ∀ R : VK, (∀ v H', M v H' → R v H') → te σ H R) (h2 : ¬ P → M a0 H) (z : ∀ v H', M v H' → nx (σ.set k (some v)) H') : tIfK tt (tAsg te (gName k)) tNext ⟨nx, rt, bk, ct⟩ σ H := by
  refine ht _ (fun hp => ?_) (fun hp => ?_)
  · exact s_iteT (h1 hp _ fun v H' hm => z v H' hm)
  · refine s_iteF ?_
    have q := z a0 H (h2 hp)
    have e : σ.set k (some a0) = σ := by
      obtain ⟨h1, h2⟩ := List.getElem?_eq_some_iff.mp hσ
      rw [← h2]; exact List.set_getElem_self h1
    rw [e] at q
    exact q
/-- the same, the ways being statements: what holds behind -/
theorem s_ifKs {nx bk ct : L2.St → Hp → Prop} {rt : VK} {tt : TT} {ts tu : TS} {P : Prop} (M : L2.St → Hp → Prop) (ht : ∀ T : Bool → Hp → Prop, (P → T true H) → (¬ P → T false H) → tt σ H T)
    (h1 : P → ∀ N : L2.St → Hp → Prop, (∀ σ' H', M σ' H' → N σ' H') → ts ⟨N, rt, bk, ct⟩ σ H) (h2 : ¬ P → ∀ N : L2.St → Hp → Prop, (∀ σ' H', M σ' H' → N σ' H') → tu ⟨N, rt, bk, ct⟩ σ H) (z : ∀ σ' H', M σ' H' → nx σ' H') : tIfK tt ts tu ⟨nx, rt, bk, ct⟩ σ H := by
  refine ht _ (fun hp => ?_) (fun hp => ?_)
  · exact s_iteT (h1 hp _ z)
  · exact s_iteF (h2 hp _ z)
end
theorem ps_ifK {X : Cx} {c : Expr} {a b : List Stmt} {tc : TT} {t u : TS} {pos : Pos} (hc : PT X c tc) (ha : PSs X a t) (hb : PSs X b u) : PS X (.If c a b pos) (tIfK tc t u) := ps_if hc ha hb
end Jl

/-! Steps over texts. -/
namespace Jl
open PySem L2
def rAddS : R2 := fun x y H Q => ∃ i j, x = .str i ∧ y = .str j ∧ i.length + j.length ≤ sizeLine ∧ Q (.str (i ++ j)) H
def rInS : R2 := fun x y H Q => ∃ (c : Nat) (z : Str), x = .str ⟨#[c]⟩ ∧ y = .str z ∧ Q (.bl (decide (c ∈ z.cps.toList))) H
def rNotInS : R2 := fun x y H Q => ∃ (c : Nat) (z : Str), x = .str ⟨#[c]⟩ ∧ y = .str z ∧ Q (.bl (!decide (c ∈ z.cps.toList))) H
def rIsN : R2 := fun x y H Q => y = .non ∧ Q (.bl (decide (x = .non))) H
def rNotN : R2 := fun x y H Q => y = .non ∧ Q (.bl (!decide (x = .non))) H
def rLenS : List V → Hp → VK → Prop := fun xs H Q => ∃ z, xs = [.str z] ∧ z.length ≤ sizeLine ∧ Q (.int z.length) H
def rLenL (K : PySem.W.Frag) : List V → Hp → VK → Prop := fun xs H Q => ∃ p ys, xs = [.ref p] ∧ (SqL K H p ys ∨ SqT K H p ys) ∧ Q (.int ys.length) H
def rMax2 : List V → Hp → VK → Prop := fun xs H Q => ∃ i j, xs = [.int i, .int j] ∧ Q (.int (if j > i then j else i)) H
def rMin2 : List V → Hp → VK → Prop := fun xs H Q => ∃ i j, xs = [.int i, .int j] ∧ Q (.int (if j < i then j else i)) H
def rInt1 : List V → Hp → VK → Prop := fun xs H Q => (∃ i, xs = [.int i] ∧ Q (.int i) H) ∨ ∃ k, xs = [.bl k] ∧ Q (.int (if k then 1 else 0)) H
def rIntS : List V → Hp → VK → Prop := fun xs H Q => ∃ a n, xs = [.str a] ∧ PySem.intText? a = some n ∧ a.length ≤ 640 ∧ Q (.int n) H
def rStrI : List V → Hp → VK → Prop := fun xs H Q => ∃ i, xs = [.int i] ∧ i.natAbs.log2 < 1920 ∧ Q (.str (toString i)) H
section
variable {X : Cx}
theorem op_addS : OpR X (binaryOp .Add) rAddS := op_add_str
theorem op_inS : OpR X (compareOp .In) rInS := op_in_sign
theorem op_notInS : OpR X (compareOp .NotIn) rNotInS := op_notIn_sign
theorem op_isN1 : OpR X (compareOp .Is) rIsN := op_isN
theorem op_notN1 : OpR X (compareOp .IsNot) rNotN := op_notN
theorem cl_lenS : CallR X (.builtin "len") rLenS := call_len_str
theorem cl_lenL : CallR X (.builtin "len") (rLenL X.K) := call_len_seq
theorem cl_max2 (hc : X.calm = true) : CallR X (.builtin "max") rMax2 := call_max2 hc
theorem cl_min2 (hc : X.calm = true) : CallR X (.builtin "min") rMin2 := call_min2 hc
theorem cl_int1 : CallR X (.type "int") rInt1 := call_int1
theorem cl_intS : CallR X (.type "int") rIntS := call_int_str
theorem cl_strI : CallR X (.type "str") rStrI := call_str_int
end
section
variable {K : PySem.W.Frag} {σ : L2.St} {H H' : Hp} {Q : VK} {ta tb tc te to : TE} {tr : TA} {i j : Int} {x y v : V} {a p : Addr} {xs ys : List V} {z w : Str} {c : Nat} {b : Bool} {nx bk ct : L2.St → Hp → Prop} {rt : VK} {tu : TS} {tl th : TO} {RO : Option Int → Hp → Prop}
theorem s_addS (k : Q (.str (z ++ w)) H) (h : z.length + w.length ≤ 100000) : rAddS (.str z) (.str w) H Q := ⟨z, w, rfl, rfl, small5 h, k⟩
theorem s_inS (k : Q (.bl (decide (c ∈ w.cps.toList))) H) : rInS (.str ⟨#[c]⟩) (.str w) H Q := ⟨c, w, rfl, rfl, k⟩
theorem s_notInS (k : Q (.bl (!decide (c ∈ w.cps.toList))) H) : rNotInS (.str ⟨#[c]⟩) (.str w) H Q := ⟨c, w, rfl, rfl, k⟩
theorem s_isNn (k : Q (.bl true) H) : rIsN .non .non H Q := ⟨rfl, k⟩
theorem s_isNi (k : Q (.bl false) H) : rIsN (.int i) .non H Q := ⟨rfl, k⟩
theorem s_isNs (k : Q (.bl false) H) : rIsN (.str z) .non H Q := ⟨rfl, k⟩
theorem s_isNr (k : Q (.bl false) H) : rIsN (.ref a) .non H Q := ⟨rfl, k⟩
theorem s_notNn (k : Q (.bl false) H) : rNotN .non .non H Q := ⟨rfl, k⟩
theorem s_notNi (k : Q (.bl true) H) : rNotN (.int i) .non H Q := ⟨rfl, k⟩
theorem s_notNs (k : Q (.bl true) H) : rNotN (.str z) .non H Q := ⟨rfl, k⟩
theorem s_notNr (k : Q (.bl true) H) : rNotN (.ref a) .non H Q := ⟨rfl, k⟩
theorem s_lenS (k : Q (.int (z.length : Int)) H) (h : z.length ≤ 100000) : rLenS [.str z] H Q := ⟨z, rfl, small5 h, k⟩
theorem s_lenL (h : SqL K H p xs) (k : Q (.int (xs.length : Int)) H) : rLenL K [.ref p] H Q := ⟨p, xs, rfl, .inl h, k⟩
theorem s_max2 (k : Q (.int (max i j)) H) : rMax2 [.int i, .int j] H Q := ⟨i, j, rfl, by
  have e : (if j > i then j else i) = max i j := by split <;> omega
  rw [e]; exact k⟩
theorem s_min2 (k : Q (.int (min i j)) H) : rMin2 [.int i, .int j] H Q := ⟨i, j, rfl, by
  have e : (if j < i then j else i) = min i j := by split <;> omega
  rw [e]; exact k⟩
theorem s_int1 (k : Q (.int i) H) : rInt1 [.int i] H Q := .inl ⟨i, rfl, k⟩
theorem s_int1b (k : Q (.int (if b = true then 1 else 0)) H) : rInt1 [.bl b] H Q := .inr ⟨b, rfl, k⟩
theorem s_ixS (h : atI z.cps.toList i = some c) (k : Q (.str ⟨#[c]⟩) H) (hz : z.length ≤ 100000) : rIxS (.str z) (.int i) H Q := ⟨z, i, c, rfl, rfl, small5 hz, h, k⟩
theorem s_sl {r : V → Option Int → Option Int → Hp → VK → Prop} (k : te σ H fun x H1 => tl σ H1 fun l H2 => th σ H2 fun u H3 => r x l u H3 Q) : tSl r te tl th σ H Q := k
theorem s_noP (k : RO none H) : tNoPart σ H RO := k
theorem s_part (k : te σ H fun x H1 => ∃ i, x = .int i ∧ RO (some i) H1) : tPart te σ H RO := k
theorem s_exi {R : Int → Prop} (k : R i) : ∃ j, V.int i = V.int j ∧ R j := ⟨i, rfl, k⟩
theorem s_slS {lo hi : Option Int} (k : Q (.str (cutS z lo hi)) H) (h : z.length ≤ 100000) : rSlS (.str z) lo hi H Q := ⟨z, rfl, small5 h, k⟩
/-- for c in z -/
theorem s_forS {n : Nat} (Pv : Nat → L2.St → Hp → Prop) (ha : ∀ R : VK, R (.str z) H → te σ H R) (h0 : Pv 0 σ H)
    (hs : ∀ (i : Nat) (c : Nat) σ' H', z.cps.toList[i]? = some c → Pv i σ' H' → tu ⟨Pv (i + 1), rt, nx, Pv (i + 1)⟩ (σ'.set n (some (.str ⟨#[c]⟩))) H') (hd : ∀ σ' H', Pv z.length σ' H' → nx σ' H') : tFor (iStr te) (gName n) tu ⟨nx, rt, bk, ct⟩ σ H := by
  refine ha _ ⟨z, rfl, ?_⟩
  refine ⟨fun i m σ H => m = z.length - i ∧ i ≤ z.length ∧ Pv i σ H, ⟨z.length, by simp, Nat.zero_le _, h0⟩, ?_⟩
  rintro i m σ' H1 ⟨rfl, hi, q⟩
  by_cases hlt : i < z.length
  · refine .inr ⟨hlt, Pv (i + 1), fun σ2 H2 q' => ⟨z.length - (i + 1), by omega, rfl, hlt, q'⟩, fun x H2 y => ?_⟩
    obtain ⟨e, c, hc, rfl⟩ := y
    subst e
    exact hs i c σ' _ (by rw [Array.getElem?_toList]; exact hc) q
  · have e : i = z.length := by omega
    subst e
    exact .inl ⟨Nat.le_refl _, hd σ' H1 q⟩
theorem len_app (z w : Str) : (z ++ w).length = z.length + w.length := PySem.Str.length_append z w
theorem cps_app (z w : Str) : (z ++ w).cps.toList = z.cps.toList ++ w.cps.toList := by
  have e : (z ++ w).cps = z.cps ++ w.cps := rfl
  rw [e, Array.toList_append]
theorem len_one (c : Nat) : (⟨#[c]⟩ : Str).length = 1 := rfl
theorem len_cut (z : Str) (lo hi : Option Int) : (cutS z lo hi).length ≤ z.length := cutS_length z lo hi
theorem len_list (z : Str) : z.cps.toList.length = z.length := Array.length_toList
theorem str_ext {z w : Str} (h : z.cps.toList = w.cps.toList) : z = w := by
  obtain ⟨a⟩ := z
  obtain ⟨b⟩ := w
  have e : a = b := Array.toList_inj.mp h
  rw [e]
theorem atI_some {α : Type} {l : List α} {i : Int} (h1 : -(l.length : Int) ≤ i) (h2 : i < l.length) : ∃ z, atI l i = some z := by
  unfold atI ixN
  by_cases h : 0 ≤ i
  · rw [if_pos h, if_pos h2]
    exact ⟨_, List.getElem?_eq_getElem (by omega)⟩
  · rw [if_neg h, if_pos h1]
    exact ⟨_, List.getElem?_eq_getElem (by omega)⟩
theorem atI_of0 {α : Type} {l : List α} {x : α} (h : l[0]? = some x) : atI l 0 = some x := atI_nat h
theorem one_eq {c d : Nat} : ((⟨#[c]⟩ : Str) = ⟨#[d]⟩) ↔ c = d := by
  constructor
  · intro h
    have e := congrArg (fun z : Str => z.cps.toList) h
    simpa using e
  · rintro rfl; rfl
theorem all_false {α : Type} {l : List α} {f : α → Bool} {i : Nat} {x : α} (h : l[i]? = some x) (hf : f x = false) : l.all f = false := by
  rw [List.all_eq_false]
  exact ⟨x, List.mem_of_getElem? h, by rw [hf]; decide⟩
theorem all_true {α : Type} {l : List α} {f : α → Bool} (h : ∀ (i : Nat) x, l[i]? = some x → f x = true) : l.all f = true := by
  rw [List.all_eq_true]
  intro x hx
  obtain ⟨i, hi⟩ := List.getElem?_of_mem hx
  exact h i x hi
end
end Jl

/-! The machine over words: what it is, what a step makes of it; steps over objects, tuples, dicts. -/
namespace Jl
open PySem L2
def opI (w : Int) : Int := w / 268435456 % 16
def fA (w : Int) : Int := w / 33554432 % 8
def fB (w : Int) : Int := w / 4194304 % 8
def fC (w : Int) : Int := w / 524288 % 8
def fN (w : Int) : Int := w % 65536
def nearI (w : Int) : Int := (w + 262144) % 524288 - 262144
def splitI (w : Int) : Int := (w % 128 + 128 * (w / 16384 % 32) + 2048) % 4096 - 2048
def s16 (n : Int) : Int := (n + 32768) % 65536 - 32768
def turnI (w b : Int) : Int := (w / 2 ^ (b % 32).toNat + w * 2 ^ (32 - (b % 32).toNat)) % 4294967296
def reckI (op l r n : Int) : Int :=
  if op = 2 then n else if op = 3 then 65536 * n else if op = 4 then (l + s16 n) % 4294967296 else if op = 7 then (l + r) % 4294967296
  else if op = 8 then (l - r) % 4294967296 else if op = 9 then Builtin.bitAnd l r else if op = 10 then Builtin.bitXor l r else turnI l r
def reg (l : List Int) (i : Int) : Int := l.getD i.toNat 0
structure MSt where
  mem : Int → Option Int
  spot : Int
  regs : List Int
  outs : List Int
  fin : Bool
def thereI (s : MSt) (w : Int) : Int := (reg s.regs (fB w) + s16 (fN w)) % 4294967296
def nextI (s : MSt) : Int := (s.spot + 1) % 4294967296
def goneI (s : MSt) (w : Int) : Int :=
  if opI w = 15 then reg s.regs (fA w) else if opI w = 14 then (s.spot + 1 + nearI w) % 4294967296
  else if (opI w = 12 ∧ reg s.regs (fA w) = reg s.regs (fB w)) ∨ (opI w = 13 ∧ reg s.regs (fA w) < reg s.regs (fB w)) then (s.spot + 1 + splitI w) % 4294967296 else nextI s
def memPut (f : Int → Option Int) (a w : Int) : Int → Option Int := fun x => if x = a then some w else f x
def stepI (s : MSt) (w : Int) : MSt :=
  if opI w = 0 then { s with fin := true }
  else if opI w = 1 then { s with outs := s.outs ++ [reg s.regs (fA w)], spot := nextI s }
  else if opI w = 5 then { s with regs := s.regs.set (fA w).toNat ((s.mem (thereI s w)).getD 0), spot := nextI s }
  else if opI w = 6 then { s with mem := memPut s.mem (thereI s w) (reg s.regs (fA w)), spot := nextI s }
  else if opI w > 11 then { s with regs := if opI w = 14 then s.regs.set (fA w).toNat (nextI s) else s.regs, spot := goneI s w }
  else { s with regs := s.regs.set (fA w).toNat (reckI (opI w) (reg s.regs (fB w)) (reg s.regs (fC w)) (fN w)), spot := nextI s }
/-! the fields -/
def mf (m s r o e : V) : List (Str × V) := putF "ended" e (putF "outputs" o (putF "registers" r (putF "spot" s (putF "memory" m []))))
theorem putF_ne {f g : Str} {v x : V} {r : List (Str × V)} (h : ¬ g = f) : putF f v ((g, x) :: r) = (g, x) :: putF f v r := if_neg h
theorem putF_eq {f : Str} {v x : V} {r : List (Str × V)} : putF f v ((f, x) :: r) = (f, v) :: r := if_pos rfl
theorem mf_is (m s r o e : V) : mf m s r o e = ([("memory", m), ("spot", s), ("registers", r), ("outputs", o), ("ended", e)] : List (Str × V)) := by
  have e0 : putF "memory" m [] = ([("memory", m)] : List (Str × V)) := rfl
  have e1 : putF "spot" s ([("memory", m)] : List (Str × V)) = ([("memory", m), ("spot", s)] : List (Str × V)) := putF_ne (by decide +kernel)
  have e2 : putF "registers" r ([("memory", m), ("spot", s)] : List (Str × V)) = ([("memory", m), ("spot", s), ("registers", r)] : List (Str × V)) := by
    rw [putF_ne (by decide +kernel), putF_ne (by decide +kernel)]; rfl
  have e3 : putF "outputs" o ([("memory", m), ("spot", s), ("registers", r)] : List (Str × V)) = ([("memory", m), ("spot", s), ("registers", r), ("outputs", o)] : List (Str × V)) := by
    rw [putF_ne (by decide +kernel), putF_ne (by decide +kernel), putF_ne (by decide +kernel)]; rfl
  unfold mf
  rw [e0, e1, e2, e3, putF_ne (by decide +kernel), putF_ne (by decide +kernel), putF_ne (by decide +kernel), putF_ne (by decide +kernel)]
  rfl
theorem mf_memory (m s r o e : V) : (mf m s r o e).lookup ("memory" : Str) = some m := by
  unfold mf
  rw [lookup_putF, if_neg (by decide +kernel), lookup_putF, if_neg (by decide +kernel), lookup_putF, if_neg (by decide +kernel), lookup_putF, if_neg (by decide +kernel), lookup_putF, if_pos rfl]
theorem mf_spot (m s r o e : V) : (mf m s r o e).lookup ("spot" : Str) = some s := by
  unfold mf
  rw [lookup_putF, if_neg (by decide +kernel), lookup_putF, if_neg (by decide +kernel), lookup_putF, if_neg (by decide +kernel), lookup_putF, if_pos rfl]
theorem mf_registers (m s r o e : V) : (mf m s r o e).lookup ("registers" : Str) = some r := by
  unfold mf
  rw [lookup_putF, if_neg (by decide +kernel), lookup_putF, if_neg (by decide +kernel), lookup_putF, if_pos rfl]
theorem mf_outputs (m s r o e : V) : (mf m s r o e).lookup ("outputs" : Str) = some o := by
  unfold mf
  rw [lookup_putF, if_neg (by decide +kernel), lookup_putF, if_pos rfl]
theorem mf_ended (m s r o e : V) : (mf m s r o e).lookup ("ended" : Str) = some e := by
  unfold mf
  rw [lookup_putF, if_pos rfl]
theorem mf_no (m s r o e : V) {f : Str} (h1 : ¬ f = "ended") (h2 : ¬ f = "outputs") (h3 : ¬ f = "registers") (h4 : ¬ f = "spot") (h5 : ¬ f = "memory") : (mf m s r o e).lookup f = none := by
  unfold mf
  rw [lookup_putF, if_neg h1, lookup_putF, if_neg h2, lookup_putF, if_neg h3, lookup_putF, if_neg h4, lookup_putF, if_neg h5]
  rfl
theorem mf_len (m s r o e : V) : (mf m s r o e).length < 1000 := by rw [mf_is]; show 5 < 1000; decide
theorem mf_putSpot (m s r o e v : V) : putF "spot" v (mf m s r o e) = mf m v r o e := by
  rw [mf_is, mf_is, putF_ne (by decide +kernel), putF_eq]
theorem mf_putEnded (m s r o e v : V) : putF "ended" v (mf m s r o e) = mf m s r o v := by
  rw [mf_is, mf_is, putF_ne (by decide +kernel), putF_ne (by decide +kernel), putF_ne (by decide +kernel), putF_ne (by decide +kernel), putF_eq]
/-! a machine in the heap -/
structure MachAt (C : Addr) (H : Hp) (p dx m r o : Addr) (s : MSt) : Prop where
  ob : H p = some (.ins C dx (mf (.ref m) (.int s.spot) (.ref r) (.ref o) (.bl s.fin)))
  dc : ∃ kvs, H m = some (.dK kvs) ∧ kvs.length ≤ 100000 ∧ ∀ a : Int, valV kvs (Sum.inl a : Key) = (s.mem a).map V.int
  rg : H r = some (.lst (s.regs.map V.int))
  ou : H o = some (.lst (s.outs.map V.int))
  ne : r ≠ o
theorem MachAt.same {C : Addr} {H H' : Hp} {p dx m r o : Addr} {s : MSt} (e : Same H H') (h : MachAt C H p dx m r o s) : MachAt C H' p dx m r o s := by
  obtain ⟨kvs, h1, h2, h3⟩ := h.dc
  exact ⟨e _ _ h.ob, ⟨kvs, e _ _ h1, h2, h3⟩, e _ _ h.rg, e _ _ h.ou, h.ne⟩
/-- all but a machine's own cells stands -/
def Keep (H H' : Hp) (p m r o : Addr) : Prop := ∀ b v, H b = some v → b ≠ p → b ≠ m → b ≠ r → b ≠ o → H' b = some v
theorem Keep.same {B H H' : Hp} {p m r o : Addr} (k : Keep H H' p m r o) (e : Same B H) (h1 : B p = none) (h2 : B m = none) (h3 : B r = none) (h4 : B o = none) : Same B H' := fun b v hb =>
  k b v (e b v hb) (ne_of_none hb h1) (ne_of_none hb h2) (ne_of_none hb h3) (ne_of_none hb h4)
theorem Keep.of {H H' : Hp} {p m r o : Addr} (e : Same H H') : Keep H H' p m r o := fun b v h _ _ _ _ => e b v h
theorem Keep.trans {H H1 H2 : Hp} {p m r o : Addr} (a : Keep H H1 p m r o) (b : Keep H1 H2 p m r o) : Keep H H2 p m r o := fun c v h h1 h2 h3 h4 => b c v (a c v h h1 h2 h3 h4) h1 h2 h3 h4
section
variable {K : PySem.W.Frag} {σ : L2.St} {H H' : Hp} {Q : VK} {ta tb tc te to tv td ty : TE} {tr : TA} {i j : Int} {x y v : V} {a p dx C m r o : Addr} {xs ys : List V} {f : Str} {fs : List (Str × V)} {nx bk ct : L2.St → Hp → Prop} {rt : VK} {W : L2.St → Hp → Prop} {s : MSt}
theorem s_fld (hv : ∀ R : VK, R (.ref p) H → ta σ H R) (h : H p = some (.ins C dx fs)) (c : Cls K C) (n : NoAttr K C f) (l : fs.lookup f = some v) (z : Q v H) : tFld K ta f σ H Q := hv _ ⟨p, C, dx, fs, v, rfl, h, c, n, l, z⟩
theorem s_sFld (z : tv σ H fun y H1 => ta σ H1 fun x H2 => ∃ a C dx fs, x = .ref a ∧ H2 a = some (.ins C dx fs) ∧ Cls K C ∧ NoAttr K C f ∧ fs.length < 1000 ∧ nx σ (upd H2 a (.ins C dx (putF f y fs)))) : sFld K ta tv f ⟨nx, rt, bk, ct⟩ σ H := z
theorem s_setF (h : H p = some (.ins C dx fs)) (c : Cls K C) (n : NoAttr K C f) (hl : fs.length < 1000) (z : nx σ (upd H p (.ins C dx (putF f y fs)))) :
    ∃ a C dx fs, V.ref p = .ref a ∧ H a = some (.ins C dx fs) ∧ Cls K C ∧ NoAttr K C f ∧ fs.length < 1000 ∧ nx σ (upd H a (.ins C dx (putF f y fs))) := ⟨p, C, dx, fs, rfl, h, c, n, hl, z⟩
theorem s_gTup {n : Nat} {t : TGs} (h : SqT K H p xs) (hl : xs.length = n) (z : t xs σ H W) : gTup K n t (.ref p) σ H W := ⟨p, xs, rfl, h, hl, z⟩
theorem s_gTupA {n : Nat} {t : TGs} (h : H p = some (.tup xs)) (hl : xs.length = n) (z : t xs σ H W) : gTup K n t (.ref p) σ H W := ⟨p, xs, rfl, .inl (.inl h), hl, z⟩
theorem s_gCons {t : TG} {u : TGs} (z : t v σ H fun σ' H' => u xs σ' H' W) : gCons t u (v :: xs) σ H W := ⟨v, xs, rfl, z⟩
theorem s_gNil (z : W σ H) : gNil [] σ H W := ⟨rfl, z⟩
theorem s_gSub {t : TSet} (z : to σ H fun o H1 => te σ H1 fun i H2 => t o i v H2 fun H3 => W σ H3) : gSub to te t v σ H W := z
theorem s_setL {Z : Hp → Prop} {k : Nat} (h : H p = some (.lst xs)) (hi : ixN xs.length i = some k) (z : Z (upd H p (.lst (xs.set k v)))) : rSetL (.ref p) (.int i) v H Z := ⟨p, xs, i, k, rfl, rfl, h, hi, z⟩
theorem ixN_ok {n : Nat} (h0 : 0 ≤ i) (h : i < n) : ixN n i = some i.toNat := by
  unfold ixN
  rw [if_pos h0, if_pos h]
theorem atI_reg {l : List Int} {n : Nat} (hl : l.length = n) (h0 : 0 ≤ i) (h : i < n) : atI (l.map V.int) i = some (.int (reg l i)) := by
  have hi : i.toNat < l.length := by omega
  refine atI_int (k := i.toNat) ?_ (by omega)
  unfold reg
  rw [List.getD_eq_getElem?_getD, List.getElem?_eq_getElem hi]; rfl
theorem map_set {l : List Int} {n : Nat} {z : Int} : (l.map V.int).set n (.int z) = (l.set n z).map V.int := by rw [List.map_set]
theorem tup_at {i : Nat} {v : V} (h : H p = some (.tup xs)) (hv : xs[i]? = some v) (z : Q v H) : rIxT K (.ref p) (.int (i : Int)) H Q := s_ixT (.inl (.inl h)) (atI_nat hv) z
theorem s_methO {sp : Sp} {E : XK} (hv : ∀ R : VK, R (.ref p) H → ta σ H R) (h : H p = some (.ins C dx fs)) (hm : fs.lookup f = none) (z : tr σ H fun vs H2 => sp (.ref p :: vs) H2 Q E) : tMeth C f sp [] E ta tr σ H Q := by
  refine hv _ ⟨p, dx, _, rfl, h, hm, ?_⟩
  have e : (fun vs H2 => sp (.ref p :: vs) H2 Q E) = (fun vs H2 => sp (.ref p :: (vs ++ [])) H2 Q E) := by
    funext vs H1
    rw [List.append_nil]
  rw [← e]
  exact z
/-! dicts and copies -/
theorem s_dnotin (z : ty σ H fun y H1 => td σ H1 fun x H2 => ∃ a o, x = .ref a ∧ DGet H2 a y o ∧ Q (.bl (!o.isSome)) H2) : tDNotIn ty td σ H Q := z
theorem s_din (z : ty σ H fun y H1 => td σ H1 fun x H2 => ∃ a o, x = .ref a ∧ DGet H2 a y o ∧ Q (.bl o.isSome) H2) : tDIn ty td σ H Q := z
theorem s_dgetR (z : td σ H fun x H1 => ty σ H1 fun y H2 => ∃ a v, x = .ref a ∧ DGet H2 a y (some v) ∧ Q v H2) : tDGet td ty σ H Q := z
theorem s_dput (z : tv σ H fun v H1 => td σ H1 fun x H2 => ty σ H2 fun y H3 => ∃ a H4, x = .ref a ∧ DPut H3 a y v H4 ∧ nx σ H4) : sDPut td ty tv ⟨nx, rt, bk, ct⟩ σ H := z
theorem s_dget1 (z : td σ H fun x H1 => ∃ a, x = .ref a ∧ IsD H1 a ∧ ty σ H1 fun y H2 => ∃ o, DGet H2 a y o ∧ Q (o.getD .non) H2) : tDGet1 td ty σ H Q := z
end
def rDictD : List V → Hp → VK → Prop := fun xs H Q => ∃ (a : Addr) (kvs : List (Key × V)), xs = [.ref a] ∧ Rd H a (.dK kvs) ∧ ∀ p, H p = none → Q (.ref p) (upd H p (.dK kvs))
def rListO (K : PySem.W.Frag) : List V → Hp → VK → Prop := fun xs H Q => ∃ p ys, xs = [.ref p] ∧ (SqL K H p ys ∨ SqT K H p ys) ∧ ∀ l, H l = none → Q (.ref l) (upd H l (.lst ys))
theorem cl_dictD {X : Cx} : CallR X (.type "dict") rDictD := call_dictD
theorem cl_listO {X : Cx} : CallR X (.type "list") (rListO X.K) := call_list_of
theorem s_dictD {H : Hp} {Q : VK} {a : Addr} {kvs : List (Key × V)} (h : H a = some (.dK kvs)) (z : ∀ p, H p = none → Q (.ref p) (upd H p (.dK kvs))) : rDictD [.ref a] H Q := ⟨a, kvs, rfl, .inl h, z⟩
theorem s_listO {K : PySem.W.Frag} {H : Hp} {Q : VK} {a : Addr} {xs : List V} (h : SqL K H a xs) (z : ∀ p, H p = none → Q (.ref p) (upd H p (.lst xs))) : rListO K [.ref a] H Q := ⟨a, xs, rfl, .inl h, z⟩
/-- the key of an int -/
def kI (a : Int) : Key := Sum.inl a
/-- all but one object stands -/
def But (H H' : Hp) (p : Addr) : Prop := ∀ b v, H b = some v → b ≠ p → H' b = some v
theorem But.refl (H : Hp) (p : Addr) : But H H p := fun _ _ h _ => h
theorem But.at {H H' : Hp} {p : Addr} {o : HO} (e : But H H' p) : But H (upd H' p o) p := fun b v h n => by
  rw [upd_ne n]; exact e b v h n
theorem But.new {H H' : Hp} {p q : Addr} {o : HO} (e : But H H' p) (hq : H q = none) : But H (upd H' q o) p := fun b v h n => by
  rw [upd_ne (ne_of_none h hq)]; exact e b v h n
theorem But.sq {K : PySem.W.Frag} {H H' : Hp} {p dx C a : Addr} {fs : List (Str × V)} {xs : List V} (e : But H H' p) (hp : H p = some (.ins C dx fs)) (h : SqL K H a xs) : SqL K H' a xs := by
  rcases h with (h | ⟨o, h⟩) | h
  · exact .inl (.inl (e _ _ h (ne_of h hp (by intro z; cases z))))
  · exact .inl (.inr ⟨o, e _ _ h (ne_of h hp (by intro z; cases z))⟩)
  · exact .inr h
theorem But.free {H H' : Hp} {p q dx C : Addr} {fs : List (Str × V)} (e : But H H' p) (hp : H p = some (.ins C dx fs)) (h' : ∃ v, H' p = some v) (h : H' q = none) : H q = none := by
  cases z : H q with
  | none => rfl
  | some v =>
    by_cases hq : q = p
    · subst hq
      obtain ⟨v, hv⟩ := h'
      rw [hv] at h; cases h
    · rw [e q v z hq] at h; cases h
theorem lp1 {f : Str} {v : V} {fs : List (Str × V)} {n : Nat} (h : fs.length ≤ n) : (putF f v fs).length ≤ n + 1 := Nat.le_trans (length_putF f v fs) (by omega)
theorem lp {n : Nat} {fs : List (Str × V)} (h : fs.length ≤ n) (hn : n ≤ 100) : fs.length < 1000 := by omega
theorem nil0 : ([] : List (Str × V)).length ≤ 0 := Nat.le_refl 0
section
variable {C p dx m r o : Addr} {H H' : Hp} {s : MSt}
theorem MachAt.pm (M : MachAt C H p dx m r o s) : p ≠ m := by obtain ⟨k, h, _⟩ := M.dc; exact ne_of M.ob h (by intro z; cases z)
theorem MachAt.pr (M : MachAt C H p dx m r o s) : p ≠ r := ne_of M.ob M.rg (by intro z; cases z)
theorem MachAt.po (M : MachAt C H p dx m r o s) : p ≠ o := ne_of M.ob M.ou (by intro z; cases z)
theorem MachAt.rm (M : MachAt C H p dx m r o s) : r ≠ m := by obtain ⟨k, h, _⟩ := M.dc; exact ne_of M.rg h (by intro z; cases z)
theorem MachAt.om (M : MachAt C H p dx m r o s) : o ≠ m := by obtain ⟨k, h, _⟩ := M.dc; exact ne_of M.ou h (by intro z; cases z)
theorem MachAt.setSpot (M : MachAt C H p dx m r o s) (v : Int) : MachAt C (upd H p (.ins C dx (putF "spot" (.int v) (mf (.ref m) (.int s.spot) (.ref r) (.ref o) (.bl s.fin))))) p dx m r o { s with spot := v } := by
  obtain ⟨kvs, h1, h2, h3⟩ := M.dc
  rw [mf_putSpot]
  exact ⟨upd_same, ⟨kvs, by rw [upd_ne M.pm.symm]; exact h1, h2, h3⟩, by rw [upd_ne M.pr.symm]; exact M.rg, by rw [upd_ne M.po.symm]; exact M.ou, M.ne⟩
theorem MachAt.setEnded (M : MachAt C H p dx m r o s) (v : Bool) : MachAt C (upd H p (.ins C dx (putF "ended" (.bl v) (mf (.ref m) (.int s.spot) (.ref r) (.ref o) (.bl s.fin))))) p dx m r o { s with fin := v } := by
  obtain ⟨kvs, h1, h2, h3⟩ := M.dc
  rw [mf_putEnded]
  exact ⟨upd_same, ⟨kvs, by rw [upd_ne M.pm.symm]; exact h1, h2, h3⟩, by rw [upd_ne M.pr.symm]; exact M.rg, by rw [upd_ne M.po.symm]; exact M.ou, M.ne⟩
theorem MachAt.setReg (M : MachAt C H p dx m r o s) (i : Nat) (v : Int) : MachAt C (upd H r (.lst ((s.regs.map V.int).set i (.int v)))) p dx m r o { s with regs := s.regs.set i v } := by
  obtain ⟨kvs, h1, h2, h3⟩ := M.dc
  refine ⟨by rw [upd_ne M.pr]; exact M.ob, ⟨kvs, by rw [upd_ne M.rm.symm]; exact h1, h2, h3⟩, ?_, by rw [upd_ne M.ne.symm]; exact M.ou, M.ne⟩
  rw [map_set]; exact upd_same
theorem MachAt.app (M : MachAt C H p dx m r o s) (v : Int) : MachAt C (upd H o (.lst (s.outs.map V.int ++ [.int v]))) p dx m r o { s with outs := s.outs ++ [v] } := by
  obtain ⟨kvs, h1, h2, h3⟩ := M.dc
  refine ⟨by rw [upd_ne M.po]; exact M.ob, ⟨kvs, by rw [upd_ne M.om.symm]; exact h1, h2, h3⟩, by rw [upd_ne M.ne]; exact M.rg, ?_, M.ne⟩
  have e : (s.outs ++ [v]).map V.int = s.outs.map V.int ++ [.int v] := by rw [List.map_append]; rfl
  rw [e]; exact upd_same
theorem Keep.atP {v : HO} (k : Keep H H' p m r o) : Keep H (upd H' p v) p m r o := fun b u h h1 h2 h3 h4 => by rw [upd_ne h1]; exact k b u h h1 h2 h3 h4
theorem Keep.atR {v : HO} (k : Keep H H' p m r o) : Keep H (upd H' r v) p m r o := fun b u h h1 h2 h3 h4 => by rw [upd_ne h3]; exact k b u h h1 h2 h3 h4
theorem Keep.atO {v : HO} (k : Keep H H' p m r o) : Keep H (upd H' o v) p m r o := fun b u h h1 h2 h3 h4 => by rw [upd_ne h4]; exact k b u h h1 h2 h3 h4
theorem Keep.atM {H2 : Hp} (k : Keep H H' p m r o) (e : ∀ b, b ≠ m → H2 b = H' b) : Keep H H2 p m r o := fun b u h h1 h2 h3 h4 => by rw [e b h2]; exact k b u h h1 h2 h3 h4
theorem Keep.sm {H2 : Hp} (k : Keep H H' p m r o) (e : Same H' H2) : Keep H H2 p m r o := fun b u h h1 h2 h3 h4 => e b u (k b u h h1 h2 h3 h4)
end
/-- what a step asks -/
structure Goes (s : MSt) (w : Int) : Prop where
  run : s.fin = false
  here : s.mem s.spot = some w
  r8 : s.regs.length = 8
  rr : ∀ i, 0 ≤ i → i < 8 → 0 ≤ reg s.regs i ∧ reg s.regs i < 4294967296
  few : s.outs.length ≤ 1000
  has : opI w = 5 ∨ opI w = 6 → ∃ v, s.mem (thereI s w) = some v
def optW : Option Int → V
  | none => .non
  | some n => .int n
section
variable {K : PySem.W.Frag} {σ : L2.St} {H H' : Hp} {Q : VK} {ta tb tc te to tv td ty tl : TE} {tt : TT} {tr : TA} {i j : Int} {x y v : V} {a p q dx C m r o : Addr} {xs ys : List V}
theorem s_isi_tt {cn : String} {k : Bool} (h : H q = some (.tup xs)) (hk : kitB "tuple" cn = some k) (z : Q (.bl k) H) : rIsi K [.ref q, .ty cn] H Q := s_isi (.base (.tup h)) (kit_ty hk) z
/-- a machine's state as data -/
def stD (s : MSt) : PyData := .tuple [.int s.spot, .list (s.regs.map PyData.int), .list (s.outs.map PyData.int), .bool s.fin]
theorem dp_st {s : MSt} (h : H q = some (.tup [.int s.spot, .ref r, .ref o, .bl s.fin])) (hr : SqL K H r (s.regs.map V.int)) (ho : SqL K H o (s.outs.map V.int)) : Dp K H (.ref q) (stD s) :=
  .tup (.inl (.inl h)) (.cons (.int _) (.cons (dp_intL hr) (.cons (dp_intL ho) (.cons (.bl _) .nil))))
theorem shaped_st (s : MSt) : SeqAt.shaped (stD s) = true := by
  have h1 := depth_ints s.regs
  have h2 := depth_ints s.outs
  refine Bool.and_eq_true_iff.mpr ⟨?_, decide_eq_true ?_⟩
  · show (true && (PyData.canLayAll0 (s.regs.map PyData.int) && (PyData.canLayAll0 (s.outs.map PyData.int) && (true && true)))) = true
    rw [lay_ints, lay_ints]; rfl
  · show (max 0 (max (PyData.depthAll (s.regs.map PyData.int) + 1) (max (PyData.depthAll (s.outs.map PyData.int) + 1) (max 0 0)))) + 1 ≤ 64
    omega
theorem s_neSt {s : MSt} (h1 : Dp K H x (stD s)) (h2 : Dp K H y (stD s)) (z : Q (.bl false) H) : rNeD K x y H Q :=
  ⟨_, _, h1, h2, shaped_st s, shaped_st s, by
    rw [SeqAt.eqv_refl _ (SeqAt.canLay_of_shaped (shaped_st s))]; exact z⟩
/-- [e for x in xs if t], t false of each -/
theorem s_lcNo {k : Nat} {vs : List Nat} {xs : List V} (ha : ∀ R : VK, (∀ a H1, Same H H1 → SqL K H1 a xs → R (.ref a) H1) → tl σ H R) (hw : ∀ x, wipe ((wipe σ vs).set k (some x)) vs = wipe σ vs)
    (ht : ∀ (i : Nat) x H1 (T : Bool → Hp → Prop), xs[i]? = some x → Same H H1 → (∀ H2, Same H1 H2 → T false H2) → tt ((wipe σ vs).set k (some x)) H1 T)
    (z : ∀ p H1, Same H H1 → H1 p = some (.lst []) → Q (.ref p) H1) : tLc (iList K tl) (gName k) tt te vs σ H Q := by
  refine ha _ fun a H0 s0 hx => ⟨a, rfl, ⟨xs, hx⟩, fun D hD => ?_⟩
  refine lc_list (xs := xs) (fun i H' => Same H0 H' ∧ H' D = some (.lst [])) ⟨same_upd hD, upd_same⟩ (fun i H' _ h => h.1.seq hx) (fun i x H1 hi h => ?_) (fun H1 h => z D H1 (s0.trans h.1) h.2)
  obtain ⟨s1, h1⟩ := h
  refine ⟨hw _, ht i x H1 _ hi (s0.trans s1) fun H2 s2 => ?_⟩
  rw [if_neg Bool.false_ne_true]
  exact ⟨s1.trans s2, s2 D _ h1⟩
theorem s_eqNil (h1 : H p = some (.lst [])) (h2 : H q = some (.lst [])) (z : Q (.bl true) H) : rEqD K (.ref p) (.ref q) H Q :=
  s_eqInts (ns := []) (ms := []) (.inl (.inl h1)) (.inl (.inl h2)) z
end
theorem s_disp {trs : List (TE × TE)} {σ : L2.St} {H : Hp} {Q : VK} (z : ∀ p, H p = none → tPairs trs σ (upd H p (.dK [])) fun ps H2 => H2 p = some (.dK []) ∧ ∃ kvs : List (Key × V), ps = kvs.map (fun kv => (kV kv.1, kv.2)) ∧ kvs.length ≤ 15 ∧ Q (.ref p) (upd H2 p (.dK (mergeK [] kvs)))) : tDisp trs σ H Q := z
theorem s_tPc {tk tv : TE} {r : List (TE × TE)} {σ : L2.St} {H : Hp} {R : List (V × V) → Hp → Prop} (z : tk σ H fun x H1 => tv σ H1 fun y H2 => tPairs r σ H2 fun ps H3 => R ((x, y) :: ps) H3) : tPairs ((tk, tv) :: r) σ H R := z
theorem s_tPn {σ : L2.St} {H : Hp} {R : List (V × V) → Hp → Prop} (z : R [] H) : tPairs [] σ H R := z
/-- a word put together -/
theorem word_parts {op a b c low : Int} (h1 : 0 ≤ op ∧ op < 16) (h2 : 0 ≤ a ∧ a < 8) (h3 : 0 ≤ b ∧ b < 8) (h4 : 0 ≤ c ∧ c < 8) (h5 : 0 ≤ low ∧ low < 524288) :
    let w := op * 268435456 + a * 33554432 + b * 4194304 + c * 524288 + low
    (0 ≤ w ∧ w < 4294967296) ∧ opI w = op ∧ fA w = a ∧ fB w = b ∧ fC w = c ∧ fN w = low % 65536 ∧ nearI w = nearI low ∧ splitI w = splitI low := by
  intro w
  have hw : w = op * 268435456 + a * 33554432 + b * 4194304 + c * 524288 + low := rfl
  clear_value w
  unfold opI fA fB fC fN nearI splitI
  refine ⟨by omega, by omega, by omega, by omega, by omega, by omega, by omega, ?_⟩
  have e1 : w % 128 = low % 128 := by omega
  have e2 : w / 16384 % 32 = low / 16384 % 32 := by omega
  rw [e1, e2]
theorem near_low {low : Int} (h : 0 ≤ low ∧ low < 524288) : nearI low = if low > 262143 then low - 524288 else low := by
  unfold nearI; split <;> omega
theorem split_low (low : Int) : splitI low = if low % 128 + low / 16384 % 32 * 128 > 2047 then low % 128 + low / 16384 % 32 * 128 - 4096 else low % 128 + low / 16384 % 32 * 128 := by
  unfold splitI; split <;> omega
def onw (op one other beside low : Int) : Int :=
  if op = 15 then one else if op = 14 then (beside + nearI low) % 4294967296 else if (op = 12 ∧ one = other) ∨ (op = 13 ∧ one < other) then (beside + splitI low) % 4294967296 else beside
theorem reg_set {l : List Int} {i j v : Int} (h : i < l.length) (h0 : 0 ≤ i) (j0 : 0 ≤ j) : reg (l.set i.toNat v) j = if j = i then v else reg l j := by
  unfold reg
  rw [List.getD_eq_getElem?_getD, List.getElem?_set, List.getD_eq_getElem?_getD]
  by_cases e : j = i
  · rw [if_pos (by rw [e]), if_pos (by omega), if_pos e]; rfl
  · rw [if_neg (by omega), if_neg e]
/-- an object that is none of a machine's cells is written -/
theorem MachAt.off {C : Addr} {H : Hp} {p dx m r o q : Addr} {s : MSt} {v : HO} (M : MachAt C H p dx m r o s) (h1 : q ≠ p) (h2 : q ≠ m) (h3 : q ≠ r) (h4 : q ≠ o) : MachAt C (upd H q v) p dx m r o s := by
  obtain ⟨kvs, k1, k2, k3⟩ := M.dc
  exact ⟨by rw [upd_ne h1.symm]; exact M.ob, ⟨kvs, by rw [upd_ne h2.symm]; exact k1, k2, k3⟩, by rw [upd_ne h3.symm]; exact M.rg, by rw [upd_ne h4.symm]; exact M.ou, M.ne⟩
end Jl

namespace Jl
open PySem PyProof.Rows L2
theorem and_bit (i : Nat) : ∀ x y : Int, Builtin.bitAnd x y / 2 ^ i % 2 = if x / 2 ^ i % 2 = 1 ∧ y / 2 ^ i % 2 = 1 then 1 else 0 := by
  induction i with
  | zero =>
    intro x y
    rw [and_rec]
    simp only [Int.pow_zero, Int.ediv_one]
    split <;> omega
  | succ i ih =>
    intro x y
    rw [ediv_two_pow, ediv_two_pow, ediv_two_pow]
    have e : Builtin.bitAnd x y / 2 = Builtin.bitAnd (x / 2) (y / 2) := by
      rw [and_rec]; split <;> omega
    rw [e]
    exact ih (x / 2) (y / 2)
theorem xor_bit (i : Nat) : ∀ x y : Int, Builtin.bitXor x y / 2 ^ i % 2 = (x / 2 ^ i % 2 + y / 2 ^ i % 2) % 2 := by
  induction i with
  | zero =>
    intro x y
    rw [xor_rec]
    simp only [Int.pow_zero, Int.ediv_one]
    omega
  | succ i ih =>
    intro x y
    rw [ediv_two_pow, ediv_two_pow, ediv_two_pow]
    have e : Builtin.bitXor x y / 2 = Builtin.bitXor (x / 2) (y / 2) := by
      rw [xor_rec]; omega
    rw [e]
    exact ih (x / 2) (y / 2)
theorem mod_more (x : Int) (i : Nat) : x % 2 ^ (i + 1) = x % 2 ^ i + x / 2 ^ i % 2 * 2 ^ i := by
  have hp := two_pow_pos i
  have h1 := Int.mul_ediv_add_emod x (2 ^ i)
  have h2 := Int.mul_ediv_add_emod (x / 2 ^ i) 2
  have r1 := Int.emod_nonneg x (show (2 : Int) ^ i ≠ 0 by omega)
  have r2 := Int.emod_lt_of_pos x hp
  have r3 : x / 2 ^ i % 2 = 0 ∨ x / 2 ^ i % 2 = 1 := by omega
  have e : x = (x % 2 ^ i + x / 2 ^ i % 2 * 2 ^ i) + 2 ^ (i + 1) * (x / 2 ^ i / 2) := by
    have : (2 : Int) ^ (i + 1) * (x / 2 ^ i / 2) = 2 ^ i * (2 * (x / 2 ^ i / 2)) := by rw [Int.pow_succ, Int.mul_assoc]
    rw [this]
    have e3 : (2 : Int) ^ i * (x / 2 ^ i) = 2 ^ i * (2 * (x / 2 ^ i / 2)) + 2 ^ i * (x / 2 ^ i % 2) := by rw [← Int.mul_add, h2]
    have e4 : (2 : Int) ^ i * (x / 2 ^ i % 2) = x / 2 ^ i % 2 * 2 ^ i := Int.mul_comm ..
    omega
  have hr : 0 ≤ x % 2 ^ i + x / 2 ^ i % 2 * 2 ^ i ∧ x % 2 ^ i + x / 2 ^ i % 2 * 2 ^ i < 2 ^ (i + 1) := by
    rw [pow_succ2]
    rcases r3 with r3 | r3 <;> rw [r3] <;> omega
  conv => lhs; rw [e]
  rw [Int.add_mul_emod_self_left, Int.emod_eq_of_lt hr.1 hr.2]
theorem and_word {x y : Int} (_hx : 0 ≤ x) (hy : 0 ≤ y) (h : y < 2 ^ 32) : Builtin.bitAnd x y % 2 ^ 32 = Builtin.bitAnd x y := by
  have := bitAnd_range x hy
  exact Int.emod_eq_of_lt this.1 (by omega)
theorem xor_word {x y : Int} (hx : 0 ≤ x) (hy : 0 ≤ y) (h1 : x < 2 ^ 32) (h : y < 2 ^ 32) : Builtin.bitXor x y % 2 ^ 32 = Builtin.bitXor x y := by
  have h0 : 0 ≤ Builtin.bitXor x y := _root_.Bits.bitXor_nonneg hx hy
  refine Int.emod_eq_of_lt h0 ?_
  rw [_root_.Bits.bitXor_pp hx hy]
  have := Nat.xor_lt_two_pow (n := 32) (x := x.toNat) (y := y.toNat) (by omega) (by omega)
  omega
def rotI (w : Int) (m : Nat) : Int := w / 2 ^ m + w % 2 ^ m * 2 ^ (32 - m)
theorem rot_is {w : Int} (h0 : 0 ≤ w) (h1 : w < 2 ^ 32) {m : Nat} (hm : m ≤ 32) : (w / 2 ^ m + w * 2 ^ (32 - m)) % 2 ^ 32 = rotI w m ∧ 0 ≤ rotI w m ∧ rotI w m < 2 ^ 32 := by
  have hp := two_pow_pos m
  have hq := two_pow_pos (32 - m)
  have e32 : (2 : Int) ^ m * 2 ^ (32 - m) = 2 ^ 32 := by rw [← pow_add2, show m + (32 - m) = 32 by omega]
  have hA : 0 ≤ w / 2 ^ m ∧ w / 2 ^ m < 2 ^ (32 - m) := div_lt_pow h0 (by rw [show m + (32 - m) = 32 by omega]; exact h1)
  have r1 := Int.emod_nonneg w (show (2 : Int) ^ m ≠ 0 by omega)
  have r2 := Int.emod_lt_of_pos w hp
  have e1 := Int.mul_ediv_add_emod w (2 ^ m)
  have hb : 0 ≤ w % 2 ^ m * 2 ^ (32 - m) ∧ w % 2 ^ m * 2 ^ (32 - m) ≤ 2 ^ 32 - 2 ^ (32 - m) := by
    refine ⟨Int.mul_nonneg r1 (Int.le_of_lt hq), ?_⟩
    have : w % 2 ^ m * 2 ^ (32 - m) ≤ (2 ^ m - 1) * 2 ^ (32 - m) := Int.mul_le_mul_of_nonneg_right (by omega) (Int.le_of_lt hq)
    rw [Int.sub_mul, e32, Int.one_mul] at this
    exact this
  have e2 : w * 2 ^ (32 - m) = 2 ^ 32 * (w / 2 ^ m) + w % 2 ^ m * 2 ^ (32 - m) := by
    conv => lhs; rw [← e1]
    rw [Int.add_mul, Int.mul_right_comm, e32]
  have hr : 0 ≤ rotI w m ∧ rotI w m < 2 ^ 32 := by unfold rotI; omega
  refine ⟨?_, hr⟩
  have e3 : w / 2 ^ m + w * 2 ^ (32 - m) = rotI w m + 2 ^ 32 * (w / 2 ^ m) := by unfold rotI; omega
  rw [e3, Int.add_mul_emod_self_left, Int.emod_eq_of_lt hr.1 hr.2]
theorem rot_more {w : Int} {m : Nat} (hm : m < 32) : rotI w m / 2 + rotI w m % 2 * 2147483648 = rotI w (m + 1) := by
  unfold rotI
  obtain ⟨k, hk⟩ : ∃ k, 32 - m = k + 1 := ⟨31 - m, by omega⟩
  have hk2 : 32 - (m + 1) = k := by omega
  have e31 : (2 : Int) ^ m * 2 ^ k = 2147483648 := by rw [← pow_add2, show m + k = 31 by omega]; rfl
  rw [hk, hk2, ← half_more, mod_more w m, pow_succ2 k, Int.mul_left_comm]
  rw [Int.add_mul, Int.mul_assoc _ (2 ^ m), e31]
  generalize hB : w % 2 ^ m * 2 ^ k = B
  have h2 : w / 2 ^ m % 2 = 0 ∨ w / 2 ^ m % 2 = 1 := by omega
  omega
theorem turn_is {w : Int} (h0 : 0 ≤ w) (h1 : w < 4294967296) (b : Int) : turnI w b = rotI w (b % 32).toNat := by
  have := (rot_is h0 h1 (m := (b % 32).toNat) (by omega)).1
  exact this
theorem rot_zero (w : Int) : rotI w 0 = w := by
  unfold rotI
  rw [Int.pow_zero]; omega
theorem and_more (x y : Int) (i : Nat) : Builtin.bitAnd x y % 2 ^ (i + 1) = if x / 2 ^ i % 2 + y / 2 ^ i % 2 = 2 then Builtin.bitAnd x y % 2 ^ i + 2 ^ i else Builtin.bitAnd x y % 2 ^ i := by
  rw [mod_more, and_bit]
  have a := Int.emod_two_eq (x / 2 ^ i)
  have b := Int.emod_two_eq (y / 2 ^ i)
  by_cases h : x / 2 ^ i % 2 = 1 ∧ y / 2 ^ i % 2 = 1
  · rw [if_pos h, if_pos (by omega), Int.one_mul]
  · rw [if_neg h, if_neg (by omega), Int.zero_mul, Int.add_zero]
theorem xor_more (x y : Int) (i : Nat) : Builtin.bitXor x y % 2 ^ (i + 1) = if x / 2 ^ i % 2 + y / 2 ^ i % 2 = 1 then Builtin.bitXor x y % 2 ^ i + 2 ^ i else Builtin.bitXor x y % 2 ^ i := by
  rw [mod_more, xor_bit]
  have a := Int.emod_two_eq (x / 2 ^ i)
  have b := Int.emod_two_eq (y / 2 ^ i)
  by_cases h : x / 2 ^ i % 2 + y / 2 ^ i % 2 = 1
  · rw [if_pos h, h]; omega
  · rw [if_neg h]
    have e : (x / 2 ^ i % 2 + y / 2 ^ i % 2) % 2 = 0 := by omega
    rw [e]; omega
theorem cut_all {xs : List V} {n : Int} (h0 : 0 ≤ n) (h : (xs.length : Int) ≤ n) : cutV xs none (some n) = xs := by
  unfold cutV
  have e1 : HT.sIx xs.length 0 none = 0 := rfl
  have e2 : HT.sIx xs.length xs.length (some n) = xs.length := by
    show (if n < 0 then _ else min n.toNat xs.length) = _
    rw [if_neg (by omega)]; omega
  rw [e1, e2, List.drop_zero, Nat.sub_zero, List.take_length]
section
variable {K : PySem.W.Frag} {H : Hp} {nx bk ct : L2.St → Hp → Prop} {rt : VK} {tu : TS}
/-- cells = script[:63] + ms; a loop over its places -/
theorem law1S {a : Addr} {ns ms : List Int} (hS : SqL K H a (ns.map V.int)) (hn : ns.length ≤ 63) (hm : ms.length ≤ 100) {tf tl : TE} {te : TE}
    (hf : ∀ (R : VK), (∀ p, H p = none → R (.ref p) (upd H p (.lst (ns.map V.int)))) → tf [some (.ref a), none, none] H R)
    (hl : ∀ (H1 : Hp) (R : VK), (∀ p, H1 p = none → R (.ref p) (upd H1 p (.lst (ms.map V.int)))) → tl [some (.ref a), none, none] H1 R)
    (he : ∀ (p : Addr) (H1 : Hp) (R : List V → Hp → Prop), SqL K H1 p ((ns ++ ms).map V.int) → R [.int ((ns ++ ms).length : Int)] H1 → tCons te tNil [some (.ref a), some (.ref p), none] H1 R)
    (hb : ∀ (p : Addr) (c : Int) (N : L2.St → Hp → Prop) H1, Same H H1 → SqL K H1 p ((ns ++ ms).map V.int) → 0 ≤ c → c < ((ns ++ ms).length : Int) → (∀ v H2, Same H1 H2 → N [some (.ref a), some (.ref p), v] H2) → tu ⟨N, rt, nx, N⟩ [some (.ref a), some (.ref p), some (.int c)] H1)
    (hd : ∀ p v H1, Same H H1 → nx [some (.ref a), some (.ref p), v] H1) :
    tSeq (tAsg (tOp (rCatS K) tf tl) (gName 1)) (tFor (iRng1 (tCons te tNil)) (gName 2) tu) ⟨nx, rt, bk, ct⟩ [some (.ref a), none, none] H := by
  refine s_seq (s_asg (s_op (hf _ fun f hf => hl _ _ fun p hp => ?_)))
  refine ⟨f, p, ns.map V.int, ms.map V.int, rfl, rfl, (same_upd hp).seq sqU, sqU, (by rw [List.length_map, List.length_map]; exact small63 hn hm), fun q hq => ?_⟩
  rw [← List.map_append]
  have s0 : Same H (upd (upd H f (.lst (ns.map V.int))) p (.lst (ms.map V.int))) := (same_upd hf).trans (same_upd hp)
  have s1 := s0.trans (same_upd (o := .lst ((ns ++ ms).map V.int)) hq)
  have hlen : (ns ++ ms).length ≤ 163 := by rw [List.length_append]; omega
  refine s_forR1 ((ns ++ ms).length : Int) (fun i σ H' => (∃ v, σ = [some (.ref a), some (.ref q), v]) ∧ Same (upd (upd (upd H f (.lst (ns.map V.int))) p (.lst (ms.map V.int))) q (.lst ((ns ++ ms).map V.int))) H') (fun R z => he q _ R sqU z) (by omega) ⟨⟨_, rfl⟩, Same.refl _⟩ (fun i σ' H' hi h => ?_) (fun σ' H' h => ?_)
  · obtain ⟨⟨v, rfl⟩, s2⟩ := h
    exact hb q i _ H' (s1.trans s2) (s2.seq sqU) (by omega) hi fun v H2 s3 => ⟨⟨v, rfl⟩, s2.trans s3⟩
  · obtain ⟨⟨v, rfl⟩, s2⟩ := h
    exact hd q v H' (s1.trans s2)
end
theorem atI_in {ns : List Int} {i : Int} (h1 : -(ns.length : Int) ≤ i) (h2 : i < ns.length) : ∃ z ∈ ns, atI (ns.map V.int) i = some (.int z) := by
  by_cases h : 0 ≤ i
  · have hi : i.toNat < ns.length := by omega
    exact ⟨ns[i.toNat], List.getElem_mem hi, atI_int (List.getElem?_eq_getElem hi) (by omega)⟩
  · have hi : (i + ns.length).toNat < ns.length := by omega
    refine ⟨ns[(i + ns.length).toNat], List.getElem_mem hi, ?_⟩
    unfold atI ixN
    rw [List.length_map, if_neg h, if_pos h1]
    show (ns.map V.int)[(i + ns.length).toNat]? = _
    rw [List.getElem?_map, List.getElem?_eq_getElem hi]; rfl
theorem small15 {n : Nat} (h : n ≤ 15) : n ≤ 100000 := by omega
end Jl

/-! Exceptions that were caught and are held as values behind their clause. -/
namespace Jl
open PySem L2 PySem.Spec PyProof.Rows
/-- an exception, of class cls and with the dict d, held as a value -/
def XO (cls : Value) (d : Option Addr) (a : Addr) : HO := .ext fun h => ∃ u fl, h.get? a = some u ∧ Zc cls d u ∧ u.data = .fields fl
theorem xo_ok {P : Program} {w : World} {H : Hp} {h : Heap} {a : Addr} {cls : Value} {d : Option Addr} {u : Obj} {fl : Array Value} (e : h.get? a = some u) (z : Zc cls d u) (f : u.data = .fields fl) : ObjOk P w H h a (XO cls d a) :=
  ⟨⟨u, fl, e, z, f⟩, ⟨u, e⟩, fun _ _ ⟨u, fl, e, r⟩ k => ⟨u, fl, k u e, r⟩⟩
section
variable {X : Cx} {pins : List (Addr × Obj)} {σ : L2.St} {H : Hp} {s : Shared} {a : Addr} {o : HO}
/-- an object that stands, of which nothing was told, is told of -/
theorem track (I : Inv X pins σ H s) (n0 : X.s_0.heap.get? a = none) (hn : H a = none) (nL : a ≠ X.env.locals) (nC : ∀ y z, X.env.cells.lookup y = some z → z ≠ a) (nP : ∀ p ∈ X.pn ++ pins, p.1 ≠ a)
    (new : ObjOk X.prog X.w (upd H a o) s.heap a o) : Inv X pins σ (upd H a o) s := by
  have old : ∀ z u, X.s_0.heap.get? z = some u → z ≠ a := fun z u e q => by rw [q, n0] at e; cases e
  have far : ∀ z {u}, H z = some u → upd H a o z = some u := fun z {u} e => by rw [upd_ne (ne_of_none e hn)]; exact e
  refine { ok := I.ok, os := I.os, bare := I.bare, base := ?_, loc := I.loc, cell := I.cell, free := ?_, freeC := ?_, pin := ?_, hok := I.hok.laidN (fun _ _ z => z) hn new, len := I.len }
  · refine { keep := I.base.keep, slot := I.base.slot, there := I.base.there, free := ?_, tups := ?_, frzs := ?_, tbls := ?_ }
    · intro z u e n q
      rw [upd_ne (old z u e)]
      exact I.base.free z u e n q
    · intro z xs e
      exact far z (I.base.tups z xs e)
    · intro z u xs e
      exact far z (I.base.frzs z u xs e)
    · intro z ps e
      obtain ⟨m, q⟩ := I.base.tbls z ps e
      exact ⟨m, far z q⟩
  · rw [upd_ne nL.symm]; exact I.free
  · intro y z e
    rw [upd_ne (nC y z e)]
    exact I.freeC y z e
  · intro p hp
    obtain ⟨e, n, r⟩ := I.pin p hp
    exact ⟨e, by rw [upd_ne (nP p hp)]; exact n, r⟩
end
/-- the ends behind the clause: its name is gone, the exception is told of -/
def outE (i : Nat) (a : Addr) (cls : Value) (d : Option Addr) (D : Ends) : Ends where
  nx := fun σ H => D.nx (σ.set i none) (upd H a (XO cls d a))
  rt := fun v H => D.rt v (upd H a (XO cls d a))
  bk := fun σ H => D.bk (σ.set i none) (upd H a (XO cls d a))
  ct := fun σ H => D.ct (σ.set i none) (upd H a (XO cls d a))
/-- what the clause 'except x as n' wishes of an exception (n at slot i) that is to be held behind it -/
def wOut (K : PySem.W.Frag) (c : Value) (i : Nat) (ts : Addr → Value → Option Addr → TS) (Wo : WX) (D : Ends) : WX := fun cls d σ H =>
  ∃ yn, PySem.W.exmOne K cls c = some yn ∧ (yn = true → ∀ a, H a = none → ts a cls d (outE i a cls d D) (σ.set i (some (.ref a))) H) ∧ (yn = false → Wo cls d σ H)
/-- the clauses are looked at -/
def looked (X : Cx) (hds : List ExceptHandler) (S : Flow → Shared → Prop) (e : Value) (t : Shared) : Prop :=
  wpAny (model X.prog X.w) X.A (noteFrame e X.env) (fun _ t2 => wpAny (model X.prog X.w) X.A (setFlight e none) (fun _ t3 => wpAny (model X.prog X.w) X.A (handleBy e X.env hds) S X.xe t3) X.xe t2) X.xe t
section
variable {X : Cx} {x n : Str} {c : Value} {i : Nat} {body suite : List Stmt} {st0 : Stmt} {q1 q2 q3 : Pos} {tb : WX → TS} {ts : Addr → Value → Option Addr → TS} {Wo : WX}
theorem ps_caught (stk : X.stack = X.env :: X.outer) (frm : X.env.frame = some X.env.locals) (hex : X.ex = []) (nod : X.N.Nodup) (ix : X.N[i]? = some n) (loc : X.env.kindOf n = some .local) (nm : Names X x c) (tk : Takes X Wo)
    (hb : ∀ (W : WX) (pl : List (Addr × Obj)) (xe : Value → Shared → Prop), Takes (X.tr pl xe) W → PassesOwn (model X.prog X.w) X.A X.env xe → PSs (X.tr pl xe) body (tb W))
    (hu : ∀ (a : Addr) (u : Obj) (cls : Value) (d : Option Addr) (pl : List (Addr × Obj)), Zc cls d u → (∃ fl, u.data = .fields fl) → PSs (X.suite a ((a, u) :: pl)) (st0 :: suite) (ts a cls d)) :
    PS X (.Try body [.ExceptHandler (some (.Name x q1)) (some n) (st0 :: suite) q2] [] [] q3) (fun D σ H => tb (wOut X.K c i ts Wo D) D σ H) := by
  constructor
  intro pins s σ H D I h
  have frames : X.A.frames = some (X.env :: X.outer) := I.ok.frames.trans (congrArg some stk)
  have here : Loc X.env.scope n := Or.inl loc
  have catch_ : Takes (X.tr (X.pn ++ pins) (looked X [.ExceptHandler (some (.Name x q1)) (some n) (st0 :: suite) q2] (SP X pins D))) (wOut X.K c i ts Wo D) := by
    rintro w t ⟨a, B, tI, pl, σ1, H1, cls, d, rfl, J0, nb, up, sky, na, os, ag, yn, exm, yes, no⟩
    have J : Inv X pins σ1 H1 tI := J0.ofTry I.ok
    replace sky : Sky B (X.env :: X.outer) a (Zc cls d) X.env.locals t.heap := stk ▸ sky
    show wpAny (model X.prog X.w) X.A (noteFrame (.ref a) X.env) _ _ _
    refine Sky.land Zc.steady frames frm sky fun h3 F3 up3 => ?_
    have G3 : Inv X pins σ1 H1 { t with heap := h3 } := J.landed nb F3.1 (up.trans up3) os ag
    obtain ⟨u3, fl3, get3, z3, dat3⟩ := F3.there
    have away : a ∉ frs (X.env :: X.outer) := fun hm => by
      obtain ⟨_, u, e, nf⟩ := F3.2.2.1.mem hm
      cases get3.symm.trans e
      exact nf _ dat3
    have noL : a ≠ X.env.locals := fun z => away (List.mem_filterMap.mpr ⟨X.env, List.mem_cons_self, by rw [z]; exact frm⟩)
    have noF : a ∉ X.fs := fun hm => by
      obtain ⟨e, he, q⟩ := List.mem_filterMap.mp hm
      exact away (List.mem_filterMap.mpr ⟨e, List.mem_cons_of_mem _ he, q⟩)
    -- the exception is new to the state without it
    have lone : tI.heap.get? a = none := by
      cases e : tI.heap.get? a with
      | none => rfl
      | some u =>
        have q := nb a u e (by rw [stk]; exact away)
        rw [F3.2.1] at q; cases q
    have n0 : X.s_0.heap.get? a = none := by
      cases e : X.s_0.heap.get? a with
      | none => rfl
      | some u =>
        obtain ⟨u', q⟩ := J.base.there a u e (by rw [hex]; exact fun z => nomatch z)
        rw [lone] at q; cases q
    have apart : ∀ p ∈ X.pn ++ pins, p.1 ≠ a := fun p hp z => by
      have q := (J.pin p hp).1
      rw [z, lone] at q; cases q
    have T3 := G3.suite get3 dat3 na noL noF
    refine wpAny_handleBy_cons (codeAny_handlers_test ?_) (by intro z; cases z)
    have ty : PySem.W.Looks (model X.prog X.w) h3 (typeOf (.ref a)) cls := fun _ _ _ _ k q => wpAny_typeOf_ref (k _ _ get3) (z3.1.symm ▸ q)
    have matches_ := PySem.W.exm_one (M := model X.prog X.w) G3.kIn ty exm
    have asked : ∀ {Q E : Value → Shared → Prop}, Q c { t with heap := h3 } → wpAny (model X.prog X.w) (X.A.mark (some (.ref a))) (eval (.Name x q1) X.env) Q E { t with heap := h3 } := by
      intro Q E q
      rcases nm with ⟨gl, db, mg | ⟨mg, bl, nn⟩⟩
      · exact ld_glob T3 gl mg q db
      · exact ld_blt T3 gl mg bl q nn db
    refine asked (matches_.here ?_)
    cases yn with
    | false =>
      show wpAny _ X.A (handleBy (.ref a) X.env []) _ _ _
      refine wpAny_handleBy_nil ?_
      obtain ⟨_, _, _, _, _, T, _, _, e, _, f, f1, _⟩ := id F3
      unfold PySem.passOn
      refine wpAny_bind (wpAny_field e f f1 ?_)
      rw [if_neg (by simp)]
      have fly : wpAny (model X.prog X.w) X.A (setFlight (.ref a) X.env.frame) (fun _ t4 => wpAny (model X.prog X.w) X.A (throw (.ref a) : Sem Flow) (SP X pins D) X.xe t4) X.xe { t with heap := h3 } := by
        rw [frm]
        exact HandSPX.setFlight_upZ F3 fun h4 F4 up4 => wpAny_throw (tk _ _ ⟨a, B, tI, pins, σ1, H1, cls, d, rfl, J, nb, (up.trans up3).trans up4, .inr (.inr (stk ▸ F4)), na, os, ag, no rfl⟩)
      first
        | exact wpAny_bind (wpAny_pure (wpAny_bind fly))
        | exact wpAny_bind fly
    | true =>
      refine codeAny_handlers_suite_as (HandSPX.lands_againZ F3 fun h4 F4 up4 => ?_)
      have G4 : Inv X pins σ1 H1 { t with heap := h4 } := J.landed nb F4.1 ((up.trans up3).trans up4) os ag
      obtain ⟨u4, fl4, get4, z4, dat4⟩ := F4.there
      have T4 := G4.suite get4 dat4 na noL noF
      refine store_ok (X := X.suite a ((a, u4) :: (X.pn ++ pins))) (v := .ref a) T4 nod ix here rfl (fun t5 T5 => ?_) (Or.inr loc)
      refine wpAny_mono ((hu a u4 cls d (X.pn ++ pins) z4 ⟨_, dat4⟩).run [] t5 _ H1 _ T5 (yes rfl a na)) (fun f t6 r => ?_) (fun _ _ z => z.elim)
      have leave : ∀ {σ6 : L2.St} {H6 : Hp} {Q : Shared → Prop}, Inv (X.suite a ((a, u4) :: (X.pn ++ pins))) [] σ6 H6 t6 → (∀ t7, Inv X pins (σ6.set i none) (upd H6 a (XO cls d a)) t7 → Q t7) →
          wpAny (model X.prog X.w) X.A (do bindName X.env n .none; unbindBehindTheSuite X.env n q2) (fun _ t7 => Q t7) X.xe t6 := by
        intro σ6 H6 Q T6 hq
        obtain ⟨e6, n6, _⟩ := T6.pin (a, u4) (List.mem_append_left _ List.mem_cons_self)
        have cells : ∀ y z, X.env.cells.lookup y = some z → z ≠ a := fun y z e q => by
          obtain ⟨v, ob, e7, dc⟩ := T6.cell y z e
          rw [q] at e7
          cases e6.symm.trans e7
          rw [dat4] at dc; cases dc
        exact gone_ok (track (T6.unsuite I.ok) n0 n6 noL cells apart (xo_ok e6 z4 dat4)) nod ix loc hq
      cases f with
      | next => exact let ⟨σ6, H6, T6, q⟩ := r; leave T6 fun t7 J7 => ⟨_, _, J7, q⟩
      | brk => exact let ⟨σ6, H6, T6, q⟩ := r; leave T6 fun t7 J7 => ⟨_, _, J7, q⟩
      | cont => exact let ⟨σ6, H6, T6, q⟩ := r; leave T6 fun t7 J7 => ⟨_, _, J7, q⟩
      | ret v => exact let ⟨v6, σ6, H6, T6, rv, q⟩ := r; leave T6 fun t7 J7 => ⟨_, _, _, J7, rv, q⟩
  refine wpAny_Try_except (wpAny_mono ((hb (wOut X.K c i ts Wo D) (X.pn ++ pins) _ catch_ PassesOwn.looking).run [] s σ H D (I.toTry _) h) (fun f t r => ?_) fun _ _ z => z)
  cases f with
  | next => exact let ⟨σ6, H6, T6, q⟩ := r; wpAny_execs_nil ⟨σ6, H6, T6.ofTry I.ok, q⟩
  | brk => exact let ⟨σ6, H6, T6, q⟩ := r; ⟨σ6, H6, T6.ofTry I.ok, q⟩
  | cont => exact let ⟨σ6, H6, T6, q⟩ := r; ⟨σ6, H6, T6.ofTry I.ok, q⟩
  | ret v => exact let ⟨v6, σ6, H6, T6, rv, q⟩ := r; ⟨v6, σ6, H6, T6.ofTry I.ok, rv, q⟩
end
/-! isinstance and fields of such -/
/-- the exception's dict, if it has one, is told of -/
def XD (H : Hp) (d : Option Addr) : Prop := ∀ b, d = some b → ∃ fs, H b = some (.xd fs)
theorem xd_none {H : Hp} : XD H none := fun _ z => nomatch z
theorem xd_some {H : Hp} {b : Addr} {fs : List (Str × V)} (h : H b = some (.xd fs)) : XD H (some b) := fun c z => by cases z; exact ⟨fs, h⟩
theorem xo_inst {X : Cx} {pins : List (Addr × Obj)} {σ : L2.St} {H : Hp} {s : Shared} {a D : Addr} {d : Option Addr} (I : Inv X pins σ H s) (h : H a = some (XO (.ref D) d a)) (hd : XD H d) : ∃ u od, PySem.W.InstAt s.heap a u D od := by
  obtain ⟨⟨u, fl, e, z, f⟩, _, _⟩ := I.hok a _ h
  have nc : PySem.W.notCls u = true := by unfold PySem.W.notCls; rw [f]
  cases d with
  | none => exact ⟨u, none, e, z.1, nc, by rw [z.2]; trivial⟩
  | some b =>
    obtain ⟨fs, hb⟩ := hd b rfl
    obtain ⟨m, ns, _⟩ := I.hok b _ hb
    obtain ⟨o, ho, _⟩ := lookIn_ns ns
    exact ⟨u, some o, e, z.1, nc, by rw [z.2]; exact ho⟩
/-- isinstance(x, c), x such an exception -/
def rIsX (K : PySem.W.Frag) : List V → Hp → VK → Prop := fun xs H Q => ∃ (a D : Addr) (d : Option Addr) (c : V) (cv : Value) (yn : Bool), xs = [.ref a, c] ∧ H a = some (XO (.ref D) d a) ∧ XD H d ∧ ExcC K D ∧ ClsV c cv ∧ PySem.W.kitOne K (.ref D) cv = some yn ∧ Q (.bl yn) H
/-- isinstance(x, (c1, c2, ..)), x such an exception -/
def rIsXT (K : PySem.W.Frag) : List V → Hp → VK → Prop := fun xs H Q => ∃ (a D : Addr) (d : Option Addr) (tp : Addr) (cs : List V) (cvs : List Value) (yn : Bool), xs = [.ref a, .ref tp] ∧ H a = some (XO (.ref D) d a) ∧ XD H d ∧ ExcC K D ∧
  H tp = some (.tup cs) ∧ Paired ClsV cs cvs ∧ PySem.W.kitAny K (.ref D) cvs = some yn ∧ Q (.bl yn) H
theorem kit_x {K : PySem.W.Frag} {a D : Addr} {u : Obj} {od : Option Obj} (C : ExcC K D) : PySem.W.KitX K (.ref a) (.ref D) (fun h => PySem.W.InstAt h a u D od) := by
  refine PySem.W.kitx_exc ?_ C.hg C.hk C.hs C.ha C.hn C.ht C.hm
  obtain ⟨cd, e, _⟩ := PySem.W.any_some C.hd
  rw [e]; rfl
section
variable {X : Cx}
theorem cl_isX : CallR X (.builtin "isinstance") (rIsX X.K) := by
  intro pins s σ H xs us Q I r h
  obtain ⟨a, D, d, c, cv, yn, rfl, ha, hd, C, k, e, q⟩ := h
  obtain ⟨w1, w2, rfl, r1, r2⟩ := vals2 r
  cases k.eq r2
  cases (show w1 = Value.ref a from r1)
  obtain ⟨u, od, J⟩ := xo_inst I ha hd
  exact PySem.W.kia_one (kit_x C) I.kIn J e (fun z => nomatch z) fun tk => ⟨.bl yn, H, I.tok tk, rfl, q⟩
theorem cl_isXT : CallR X (.builtin "isinstance") (rIsXT X.K) := by
  intro pins s σ H xs us Q I r h
  obtain ⟨a, D, d, tp, cs, cvs, yn, rfl, ha, hd, C, ht, k, e, q⟩ := h
  obtain ⟨w1, w2, rfl, r1, r2⟩ := vals2 r
  cases (show w1 = Value.ref a from r1)
  cases (show w2 = Value.ref tp from r2)
  obtain ⟨u, od, J⟩ := xo_inst I ha hd
  obtain ⟨_, its, rv, ob, get, c1, n, c2⟩ := I.hok tp _ ht
  cases ClsV.all k rv
  obtain ⟨oc, odd, dt, sl⟩ := ob
  dsimp only at c1 c2
  subst c1 c2
  exact PySem.W.kia_tup (kit_x C) I.kIn J get e (fun z => nomatch z) fun tk => ⟨.bl yn, H, I.tok tk, rfl, q⟩
/-- x.f, x such an exception -/
def tXA (K : PySem.W.Frag) (f : Str) (te : TE) : TE := fun σ H Q => te σ H fun x H1 => ∃ (a D b : Addr) (fs : List (Str × V)) (v : V), x = .ref a ∧ H1 a = some (XO (.ref D) (some b) a) ∧ H1 b = some (.xd fs) ∧ fs.lookup f = some v ∧ XfC K D ∧ PySem.W.findIn K (.ref D) f = some none ∧ Q v H1
theorem pe_xa {e : Expr} {te : TE} {f : Str} {pos : Pos} (he : PE X e te) (hb : attributeBase e f X.env (eval e X.env) = eval e X.env := by rfl) : PE X (.Attribute e f pos) (tXA X.K f te) := by
  constructor
  intro pins s σ H Q I h
  refine attr_of hb (thn (he.run pins s σ H _ I h) fun u s1 z => ?_)
  obtain ⟨x, H1, I1, rx, a, D, b, fs, v, rfl, ha, hb, l, C, no, q⟩ := z
  cases (show u = Value.ref a from rx)
  obtain ⟨⟨u, fl, e, z, f⟩, _, _⟩ := I1.hok a _ ha
  obtain ⟨m, ns, rel⟩ := I1.hok b _ hb
  obtain ⟨o, ho, look⟩ := lookIn_ns ns
  have rl := rel ‹Str›
  rw [l] at rl
  obtain ⟨w, mw, rw_⟩ := RelO.some_of rl
  have J : PySem.W.InstAt s1.heap a u D (some o) := ⟨e, z.1, by unfold PySem.W.notCls; rw [f], by rw [z.2]; exact ho⟩
  exact HandSPX.exc_get I1.kIn J C.ga C.gg C.exC (PySem.W.findObj_own C.hdC no rfl (by rw [look, mw])) (handed_of rw_) ⟨v, H1, I1.tok _, rw_, q⟩
end
/-! calls of methods that may let an exception out, at the slots as they stand -/
def tMethX (C : Addr) (m : Str) (sp : Sp) (E : L2.St → XK) (ta : TE) (t : TA) : TE := fun σ H Q => ta σ H fun x H1 => ∃ a dx fs, x = .ref a ∧ H1 a = some (.ins C dx fs) ∧ fs.lookup m = none ∧ t σ H1 fun vs H2 => sp (.ref a :: vs) H2 Q (E σ)
section
variable {X : Cx} {Y : CXT} {k : Nat} {f C : Addr} {fd : FuncData} {ps : List Str} {sp : Sp} {E : L2.St → XK} {x m : Str} {p pos apos : Pos} {e o : Expr} {es : List Expr} {ta : TE} {t : TA} {pl : Sem Bool}
theorem pe_methX (he : PE X o ta) (c : Cls X.K C) (hm : Meth X.K C m f) (F : FnOk X.prog X.w X.K X.mg X.base Y k f fd ps sp) (hr : Room k X.A) (hb : Binds X.K fd ps []) (hx : ∀ σ, PassesAt Y X σ (E σ)) (ha : PA X (e :: es) t)
    (h1 : starEach (e :: es) X.env = (false, eval e X.env) :: starEach es X.env := by rfl) (h2 : (backTo pos (starEach es X.env)).any (·.1) = false := by rfl)
    (h3 : eval (.Call (.Attribute o m apos) (e :: es) [] pos) X.env = (do let v ← eval o X.env; standAt apos.atName; let (g, u) ← holding [v] (getMethod v m pl); callWith pos g u (backTo pos (starEach (e :: es) X.env)) (backToKw pos (keywordEach [] X.env))) := by rfl) :
    PE X (.Call (.Attribute o m apos) (e :: es) [] pos) (tMethX C m sp E ta t) := by
  constructor
  intro pins s σ H Q I h
  refine PySem.W.methodCall_KW (pl := pl) (thn (he.run pins s σ H _ I h) fun u t1 z => ?_) h3
  obtain ⟨y, H1, I1, ry, a, dx, fs, rfl, at_, no, z⟩ := z
  cases (show u = Value.ref a from ry)
  refine getmeth_ok I1 at_ c hm no (PySem.W.callWith_K (first := [.ref a]) (h₀ := X.base) I.ok.mod.kin hm.kp (thn (ha.run pos pins t1 σ H1 _ I1 z) fun us t2 y => ?_) h1 h2)
  obtain ⟨vs, H2, I2, r, q⟩ := y
  exact ⟨I2.kIn, run_fnS (us := .ref a :: us) (vs := .ref a :: vs) F hr hb (hx σ) I2 (.cons rfl r) q⟩
theorem pe_methX0 (he : PE X o ta) (c : Cls X.K C) (hm : Meth X.K C m f) (F : FnOk X.prog X.w X.K X.mg X.base Y k f fd ps sp) (hr : Room k X.A) (hb : Binds X.K fd ps []) (hx : ∀ σ, PassesAt Y X σ (E σ))
    (h3 : eval (.Call (.Attribute o m apos) [] [] pos) X.env = (do let v ← eval o X.env; standAt apos.atName; let (g, u) ← holding [v] (getMethod v m pl); callWith pos g u (backTo pos (starEach [] X.env)) (backToKw pos (keywordEach [] X.env))) := by rfl) :
    PE X (.Call (.Attribute o m apos) [] [] pos) (tMethX C m sp E ta tNil) := by
  constructor
  intro pins s σ H Q I h
  refine PySem.W.methodCall_KW (pl := pl) (thn (he.run pins s σ H _ I h) fun u t1 z => ?_) h3
  obtain ⟨y, H1, I1, ry, a, dx, fs, rfl, at_, no, z⟩ := z
  cases (show u = Value.ref a from ry)
  exact getmeth_ok I1 at_ c hm no (PySem.W.callWith_K0 (first := [.ref a]) I1.kIn hm.kp (run_fnS (us := [.ref a]) (vs := [.ref a]) F hr hb (hx σ) I1 (.cons rfl .nil) z))
theorem pe_callX0 (F : FnOk X.prog X.w X.K X.mg X.base Y k f fd ps sp) (hr : Room k X.A) (hg : Gl X x) (hm : X.mg x = some (.ref f)) (hk : PySem.W.keepIn X.K (.ref f) = true) (hb : Binds X.K fd ps []) (hx : ∀ σ, PassesAt Y X σ (E σ))
    (hd : (x == ("__debug__" : Str)) = false := by decide) : PE X (.Call (.Name x p) [] [] pos) (tCallS sp E tNil) := by
  constructor
  intro pins s σ H Q I h
  exact wpAny_Call_Name_kw (ld_glob I hg hm (PySem.W.callWith_K0 I.kIn hk (run_fnS (us := []) F hr hb (hx σ) I .nil h)) hd)
end
/-! steps -/
section
variable {K : PySem.W.Frag} {σ : L2.St} {H : Hp} {Q : VK} {ta te : TE} {tr t : TA} {sp : Sp} {E : L2.St → XK} {a b C D dx : Addr} {d : Option Addr} {fs : List (Str × V)} {f m : Str} {v c : V} {cv : Value} {yn : Bool} {cs : List V} {cvs : List Value} {W : WX}
theorem s_callS (z : t σ H fun vs H1 => sp vs H1 Q (E σ)) : tCallS sp E t σ H Q := z
theorem s_methX (hv : ∀ R : VK, R (.ref a) H → ta σ H R) (h : H a = some (.ins C dx fs)) (hm : fs.lookup m = none) (z : tr σ H fun vs H2 => sp (.ref a :: vs) H2 Q (E σ)) : tMethX C m sp E ta tr σ H Q := hv _ ⟨a, dx, fs, rfl, h, hm, z⟩
theorem s_isX (h : H a = some (XO (.ref D) d a)) (hd : XD H d) (C : ExcC K D) (hc : ClsV c cv) (e : PySem.W.kitOne K (.ref D) cv = some yn) (z : Q (.bl yn) H) : rIsX K [.ref a, c] H Q := ⟨a, D, d, c, cv, yn, rfl, h, hd, C, hc, e, z⟩
theorem s_isXT (h : H a = some (XO (.ref D) d a)) (hd : XD H d) (C : ExcC K D) (ht : H b = some (.tup cs)) (hc : Paired ClsV cs cvs) (e : PySem.W.kitAny K (.ref D) cvs = some yn) (z : Q (.bl yn) H) : rIsXT K [.ref a, .ref b] H Q := ⟨a, D, d, b, cs, cvs, yn, rfl, h, hd, C, ht, hc, e, z⟩
theorem s_xa (h : H a = some (XO (.ref D) (some b) a)) (hb : H b = some (.xd fs)) (l : fs.lookup f = some v) (C : XfC K D) (no : PySem.W.findIn K (.ref D) f = some none) (hv : ∀ R : VK, R (.ref a) H → te σ H R) (z : Q v H) : tXA K f te σ H Q :=
  hv _ ⟨a, D, b, fs, v, rfl, h, hb, l, C, no, z⟩
end
/-- a class of which none of some is an ancestor -/
theorem kitNone {K : PySem.W.Frag} {t : Value} : ∀ {cs : List Value}, (∀ c ∈ cs, PySem.W.kitOne K t c = some false) → PySem.W.kitAny K t cs = some false
  | [], _ => rfl
  | c :: cs, h => by
    unfold PySem.W.kitAny
    rw [h c List.mem_cons_self]
    exact kitNone fun z hz => h z (List.mem_cons_of_mem _ hz)
theorem own_all : ∀ l : List Addr, Paired ClsV (l.map V.ref) (l.map Value.ref)
  | [] => .nil
  | a :: l => .cons (.own a) (own_all l)
theorem kit_own {K : PySem.W.Frag} {D C : Addr} {yn : Bool} (hne : yn = false → D ≠ C) (hd : PySem.W.hasDictIn K C = true) (ht : PySem.W.typeIn K (.ref C) = some (.type "type")) (hs : PySem.W.subIn K (.ref D) (.ref C) = some yn) : PySem.W.kitOne K (.ref D) (.ref C) = some yn := by
  unfold PySem.W.kitOne
  by_cases e : D = C
  · rw [if_pos (by rw [e]; simp)]
    cases yn with
    | true => rfl
    | false => exact absurd e (hne rfl)
  · rw [if_neg (by simpa using e)]
    obtain ⟨cd, hc, _⟩ := PySem.W.any_some hd
    show (if _ then PySem.W.subIn K (.ref D) (.ref C) else none) = _
    rw [if_pos (by rw [hc, ht]; rfl)]
    exact hs
/-! one of several readings -/
def tEi (t u : TE) : TE := fun σ H Q => t σ H Q ∨ u σ H Q
theorem pe_ei {X : Cx} {e : Expr} {t u : TE} (h1 : PE X e t) (h2 : PE X e u) : PE X e (tEi t u) := ⟨fun pins s σ H Q I h => h.elim (h1.run pins s σ H Q I) (h2.run pins s σ H Q I)⟩
section
variable {K : PySem.W.Frag} {σ : L2.St} {H : Hp} {Q : VK} {t u te to : TE} {a p C dx : Addr} {fs : List (Str × V)} {cv : Value} {yn : Bool} {z : Str} {xs : List V} {ys : List Str}
theorem s_ei1 (h : t σ H Q) : tEi t u σ H Q := .inl h
theorem s_ei2 (h : u σ H Q) : tEi t u σ H Q := .inr h
theorem s_isiO (h : H p = some (.ins C dx fs)) (c : Cls K C) (ha : PySem.W.findIn K (.ref C) "__class__" = some (some (.builtin "object.__class__"))) (hn : PySem.W.specialIn K (.builtin "object.__class__") "__get__" = some (some (.builtin "getset_descriptor.__get__")))
    (ht : PySem.W.takesIn K (.builtin "object.__class__") = some true) (hm : PySem.W.mroIn K C (.type "object") = some true) {D : Addr} (e : PySem.W.kitOne K (.ref C) (.ref D) = some yn) (k : Q (.bl yn) H) : rIsi K [.ref p, .ref D] H Q :=
  ⟨_, _, _, _, yn, rfl, .own D, .base (.ins h c ha hn ht hm), e, k⟩
end
/-! join -/
def rJoin (K : PySem.W.Frag) : V → List V → Hp → VK → Prop := fun x xs H Q => ∃ a p, ∃ ys : List Str, x = .str a ∧ xs = [.ref p] ∧ (SqL K H p (ys.map V.str) ∨ SqT K H p (ys.map V.str)) ∧ (ys.map (·.length)).sum + ys.length * a.length ≤ 16777216 ∧ Q (.str (Txt.join a ys)) H
theorem mt_joinS {X : Cx} : MtR X "str.join" (rJoin X.K) := mt_join
theorem s_tM1 {σ : L2.St} {H : Hp} {Q : VK} {to te : TE} {r : V → List V → Hp → VK → Prop} {a : Str} (hv : ∀ R : VK, R (.str a) H → to σ H R) (z : te σ H fun y H2 => r (.str a) [y] H2 Q) : tM1 r to te σ H Q := hv _ ⟨⟨a, rfl⟩, z⟩
theorem s_join {K : PySem.W.Frag} {H : Hp} {Q : VK} {a : Str} {p : Addr} {ys : List Str} (h : SqL K H p (ys.map V.str)) (hl : (ys.map (·.length)).sum + ys.length * a.length ≤ 16777216) (z : ∀ w, w = Txt.join a ys → Q (.str w) H) : rJoin K (.str a) [.ref p] H Q := ⟨a, p, ys, rfl, rfl, .inl h, hl, z _ rfl⟩
theorem sum_le {m : Nat} : ∀ l : List Nat, (∀ x ∈ l, x ≤ m) → l.sum ≤ m * l.length
  | [], _ => by simp
  | x :: l, h => by
    have h1 := h x List.mem_cons_self
    have h2 := sum_le l fun y hy => h y (List.mem_cons_of_mem _ hy)
    rw [List.sum_cons, List.length_cons, Nat.mul_succ]
    omega
theorem s_outN {i : Nat} {a : Addr} {cls : Value} {d : Option Addr} {nx bk ct : L2.St → Hp → Prop} {rt : VK} {σ : L2.St} {H : Hp} (z : nx (σ.set i none) (upd H a (XO cls d a))) : (outE i a cls d ⟨nx, rt, bk, ct⟩).nx σ H := z
/-- an if whose test makes objects; the ways are joined -/
theorem s_ifKh {nx bk ct : L2.St → Hp → Prop} {rt : VK} {tt : TT} {ts tu : TS} {P : Prop} {σ : L2.St} {H : Hp} (M : L2.St → Hp → Prop) (ht : ∀ T : Bool → Hp → Prop, (∀ H', Same H H' → P → T true H') → (∀ H', Same H H' → ¬ P → T false H') → tt σ H T)
    (h1 : P → ∀ (H1 : Hp) (N : L2.St → Hp → Prop), Same H H1 → (∀ σ' H', M σ' H' → N σ' H') → ts ⟨N, rt, bk, ct⟩ σ H1) (h2 : ¬ P → ∀ (H1 : Hp) (N : L2.St → Hp → Prop), Same H H1 → (∀ σ' H', M σ' H' → N σ' H') → tu ⟨N, rt, bk, ct⟩ σ H1) (z : ∀ σ' H', M σ' H' → nx σ' H') : tIfK tt ts tu ⟨nx, rt, bk, ct⟩ σ H :=
  ht _ (fun H1 s hp => s_iteT (h1 hp H1 _ s z)) fun H1 s hp => s_iteF (h2 hp H1 _ s z)
/-! an exception with a field of its own is made -/
theorem oex_heap {H : Hp} {a d : Addr} {o1 o2 o3 o4 : HO} (ha : H a = none) (hd : d ≠ a) : upd (del (upd (upd (upd H a o1) d o2) a o3) a) d o4 = upd H d o4 := by
  funext b
  by_cases h : b = d
  · rw [h, upd_same, upd_same]
  · rw [upd_ne h, upd_ne h]
    by_cases g : b = a
    · rw [g, del_same, ha]
    · rw [del_ne g, upd_ne g, upd_ne h, upd_ne g]
/-- C(v), C's __init__ storing v as f -/
theorem s_mkO {C : Addr} {sp : Sp} {σ : L2.St} {H : Hp} {Q : XK} {t : TA} {f : Str} {v : V} (ht : ∀ R : List V → Hp → Prop, R [v] H → t σ H R)
    (hs : ∀ (a : Addr) (H' : Hp) (Q' : VK), H' a = some (exo a C none) → (∀ dx, H' dx = none → dx ≠ a → Q' .non (upd (upd H' dx (exd dx [(f, v)])) a (exo a C (some dx)))) → sp [.ref a, v] H' Q' (fun _ _ _ => False))
    (z : ∀ d, H d = none → Q (.ref C) (some d) (upd H d (.xd [(f, v)]))) : tMkO C sp [] t σ H Q := by
  refine ht _ ⟨by show 1 ≤ 1000; decide, fun a ha => ?_⟩
  refine hs a _ _ upd_same fun dx nd ne => ⟨rfl, dx, [(f, v)], upd_same, ?_, ?_, ?_⟩
  · rw [upd_ne ne, upd_same]
  · rw [upd_ne ne] at nd; exact nd
  · rw [upd_ne ne] at nd
    rw [oex_heap ha ne]
    exact z dx nd
theorem s_ost {K : PySem.W.Frag} {f : Str} {to te : TE} {nx bk ct : L2.St → Hp → Prop} {rt : VK} {σ : L2.St} {H : Hp} {a C : Addr} {v : V} (he : ∀ R : VK, R v H → te σ H R) (ho : ∀ R : VK, R (.ref a) H → to σ H R) (T : OexC K C) (no : PySem.W.findIn K (.ref C) f = some none) (h : H a = some (exo a C none))
    (z : ∀ dx, H dx = none → dx ≠ a → nx σ (upd (upd H dx (exd dx [(f, v)])) a (exo a C (some dx)))) : tOst K f to te ⟨nx, rt, bk, ct⟩ σ H := he _ (ho _ ⟨a, C, rfl, T, no, .inl ⟨h, z⟩⟩)
end Jl

/-! Data at any depth: read by its shape; made in cells that are still written (active) over a part that stands (frozen). -/
namespace Jl
open PySem L2
section
variable {K : PySem.W.Frag} {H H' Hf B : Hp} {x y v : V} {a b p : Addr} {o u : HO} {xs ys : List V} {d e : PyData} {ds es : List PyData} {A : List Addr}
theorem dp_list (h : Dp K H x (.list ds)) : ∃ a xs, x = .ref a ∧ SqL K H a xs ∧ DpAll K H xs ds := by
  cases h with
  | lst h1 h2 => exact ⟨_, _, rfl, h1, h2⟩
theorem dp_tup (h : Dp K H x (.tuple ds)) : ∃ a xs, x = .ref a ∧ SqT K H a xs ∧ DpAll K H xs ds := by
  cases h with
  | tup h1 h2 => exact ⟨_, _, rfl, h1, h2⟩
theorem dp_int {i : Int} (h : Dp K H x (.int i)) : x = .int i := by cases h; rfl
theorem dp_str {z : Str} (h : Dp K H x (.str z)) : x = .str z := by cases h; rfl
theorem dp_bl {c : Bool} (h : Dp K H x (.bool c)) : x = .bl c := by cases h; rfl
theorem dp_non (h : Dp K H x .none) : x = .non := by cases h; rfl
theorem da_nil (h : DpAll K H xs []) : xs = [] := by cases h; rfl
theorem da_cons (h : DpAll K H xs (d :: ds)) : ∃ v vs, xs = v :: vs ∧ Dp K H v d ∧ DpAll K H vs ds := by
  cases h with
  | cons h1 h2 => exact ⟨_, _, rfl, h1, h2⟩
theorem da_int {i : Int} (h : DpAll K H xs (.int i :: ds)) : ∃ vs, xs = .int i :: vs ∧ DpAll K H vs ds := by
  obtain ⟨v, vs, rfl, h1, h2⟩ := da_cons h
  cases dp_int h1
  exact ⟨vs, rfl, h2⟩
theorem da_str {i : Str} (h : DpAll K H xs (.str i :: ds)) : ∃ vs, xs = .str i :: vs ∧ DpAll K H vs ds := by
  obtain ⟨v, vs, rfl, h1, h2⟩ := da_cons h
  cases dp_str h1
  exact ⟨vs, rfl, h2⟩
theorem da_bl {i : Bool} (h : DpAll K H xs (.bool i :: ds)) : ∃ vs, xs = .bl i :: vs ∧ DpAll K H vs ds := by
  obtain ⟨v, vs, rfl, h1, h2⟩ := da_cons h
  cases dp_bl h1
  exact ⟨vs, rfl, h2⟩
theorem da_ref {d : PyData} (h : DpAll K H xs (d :: ds)) (hd : ∀ v, Dp K H v d → ∃ a, v = .ref a) : ∃ a vs, xs = .ref a :: vs ∧ Dp K H (.ref a) d ∧ DpAll K H vs ds := by
  obtain ⟨v, vs, rfl, h1, h2⟩ := da_cons h
  obtain ⟨a, rfl⟩ := hd v h1
  exact ⟨a, vs, rfl, h1, h2⟩
theorem da_len : ∀ {xs : List V} {ds : List PyData}, DpAll K H xs ds → xs.length = ds.length
  | _, [], h => by rw [da_nil h]; rfl
  | _, d :: ds, h => by
    obtain ⟨v, vs, rfl, _, h2⟩ := da_cons h
    rw [List.length_cons, List.length_cons, da_len h2]
theorem da_get : ∀ {xs : List V} {ds : List PyData} {i : Nat} {x : V}, DpAll K H xs ds → xs[i]? = some x → ∃ d, ds[i]? = some d ∧ Dp K H x d
  | _, [], i, x, h, e => by rw [da_nil h] at e; cases e
  | _, d :: ds, i, x, h, e => by
    obtain ⟨v, vs, rfl, h1, h2⟩ := da_cons h
    cases i with
    | zero => cases e; exact ⟨d, rfl, h1⟩
    | succ i => exact da_get (i := i) h2 e
theorem da_at : ∀ {xs : List V} {ds : List PyData} {i : Nat} {d : PyData}, DpAll K H xs ds → ds[i]? = some d → ∃ x, xs[i]? = some x ∧ Dp K H x d
  | _, [], i, d, h, e => by cases e
  | _, d' :: ds, i, d, h, e => by
    obtain ⟨v, vs, rfl, h1, h2⟩ := da_cons h
    cases i with
    | zero => cases e; exact ⟨v, rfl, h1⟩
    | succ i => exact da_at (i := i) h2 e
theorem da_app : ∀ {xs ys : List V} {ds es : List PyData}, DpAll K H xs ds → DpAll K H ys es → DpAll K H (xs ++ ys) (ds ++ es)
  | _, ys, [], es, h, h2 => by rw [da_nil h]; exact h2
  | _, ys, d :: ds, es, h, h2 => by
    obtain ⟨v, vs, rfl, h1, h3⟩ := da_cons h
    exact .cons h1 (da_app h3 h2)
theorem da_one (h : Dp K H x d) : DpAll K H [x] [d] := .cons h .nil
theorem da_split : ∀ {xs : List V} {ds es : List PyData}, DpAll K H xs (ds ++ es) → ∃ ys zs, xs = ys ++ zs ∧ DpAll K H ys ds ∧ DpAll K H zs es
  | xs, [], es, h => ⟨[], xs, rfl, .nil, h⟩
  | xs, d :: ds, es, h => by
    obtain ⟨v, vs, rfl, h1, h3⟩ := da_cons h
    obtain ⟨ys, zs, rfl, h4, h5⟩ := da_split h3
    exact ⟨v :: ys, zs, rfl, .cons h1 h4, h5⟩
theorem da_drop : ∀ {n : Nat} {xs : List V} {ds : List PyData}, DpAll K H xs ds → DpAll K H (xs.drop n) (ds.drop n)
  | 0, _, _, h => h
  | n + 1, xs, [], h => by rw [da_nil h]; exact .nil
  | n + 1, xs, d :: ds, h => by
    obtain ⟨v, vs, rfl, _, h3⟩ := da_cons h
    exact da_drop (n := n) h3
theorem da_take : ∀ {n : Nat} {xs : List V} {ds : List PyData}, DpAll K H xs ds → DpAll K H (xs.take n) (ds.take n)
  | 0, _, _, h => .nil
  | n + 1, xs, [], h => by rw [da_nil h]; exact .nil
  | n + 1, xs, d :: ds, h => by
    obtain ⟨v, vs, rfl, h1, h3⟩ := da_cons h
    exact .cons h1 (da_take (n := n) h3)
theorem da_ints : ∀ {xs : List V} {ns : List Int}, DpAll K H xs (ns.map PyData.int) → xs = ns.map V.int
  | _, [], h => da_nil h
  | _, n :: ns, h => by
    obtain ⟨vs, rfl, h2⟩ := da_int h
    rw [da_ints h2]; rfl
theorem da_strs : ∀ {xs : List V} {ns : List Str}, DpAll K H xs (ns.map PyData.str) → xs = ns.map V.str
  | _, [], h => da_nil h
  | _, n :: ns, h => by
    obtain ⟨vs, rfl, h2⟩ := da_str h
    rw [da_strs h2]; rfl
theorem dp_strs : ∀ ns : List Str, DpAll K H (ns.map V.str) (ns.map PyData.str)
  | [] => .nil
  | n :: ns => .cons (.str n) (dp_strs ns)
theorem dp_intl {ns : List Int} (h : Dp K H x (.list (ns.map PyData.int))) : ∃ a, x = .ref a ∧ SqL K H a (ns.map V.int) := by
  obtain ⟨a, xs, rfl, h1, h2⟩ := dp_list h
  rw [da_ints h2] at h1
  exact ⟨a, rfl, h1⟩
theorem dp_strl {ns : List Str} (h : Dp K H x (.list (ns.map PyData.str))) : ∃ a, x = .ref a ∧ SqL K H a (ns.map V.str) := by
  obtain ⟨a, xs, rfl, h1, h2⟩ := dp_list h
  rw [da_strs h2] at h1
  exact ⟨a, rfl, h1⟩
/-- data that stands in the part of a heap -/
theorem sqT_of (h : H a = some (.tup xs)) : SqT K H a xs := .inl (.inl h)
theorem sqL_of (h : H a = some (.lst xs)) : SqL K H a xs := .inl (.inl h)
/-! the shape of data -/
theorem shaped_of (h1 : d.canLay0 = true) (h2 : d.depth ≤ 64) : SeqAt.shaped d = true := Bool.and_eq_true_iff.mpr ⟨h1, decide_eq_true h2⟩
theorem lay_all {l : List PyData} : (∀ d ∈ l, d.canLay0 = true) → PyData.canLayAll0 l = true := by
  induction l with
  | nil => intro _; rfl
  | cons d l ih =>
    intro h
    show (d.canLay0 && PyData.canLayAll0 l) = true
    rw [h d List.mem_cons_self, ih fun z hz => h z (List.mem_cons_of_mem _ hz)]; rfl
theorem depth_all {n : Nat} {l : List PyData} : (∀ d ∈ l, d.depth ≤ n) → PyData.depthAll l ≤ n := by
  induction l with
  | nil => intro _; exact Nat.zero_le _
  | cons d l ih =>
    intro h
    show max d.depth (PyData.depthAll l) ≤ n
    have h1 := h d List.mem_cons_self
    have h2 := ih fun z hz => h z (List.mem_cons_of_mem _ hz)
    omega
theorem depth_list {n : Nat} {l : List PyData} (h : ∀ d ∈ l, d.depth ≤ n) : (PyData.list l).depth ≤ n + 1 := by
  have := depth_all h
  show PyData.depthAll l + 1 ≤ n + 1
  omega
theorem depth_tuple {n : Nat} {l : List PyData} (h : ∀ d ∈ l, d.depth ≤ n) : (PyData.tuple l).depth ≤ n + 1 := by
  have := depth_all h
  show PyData.depthAll l + 1 ≤ n + 1
  omega
theorem s_eqSame {Q : VK} (h1 : Dp K H x d) (h2 : Dp K H y d) (hs : SeqAt.shaped d = true) (z : Q (.bl true) H) : rEqD K x y H Q :=
  ⟨_, _, h1, h2, hs, hs, by rw [SeqAt.eqv_refl _ (SeqAt.canLay_of_shaped hs)]; exact z⟩
theorem s_neSame {Q : VK} (h1 : Dp K H x d) (h2 : Dp K H y d) (hs : SeqAt.shaped d = true) (z : Q (.bl false) H) : rNeD K x y H Q :=
  ⟨_, _, h1, h2, hs, hs, by rw [SeqAt.eqv_refl _ (SeqAt.canLay_of_shaped hs)]; exact z⟩
theorem eqv_strs : ∀ ns ms : List Str, PyData.eqvAll (ns.map PyData.str) (ms.map PyData.str) = decide (ns = ms)
  | [], [] => rfl
  | [], _ :: _ => rfl
  | _ :: _, [] => rfl
  | n :: ns, m :: ms => by
    show ((n == m) && PyData.eqvAll (ns.map PyData.str) (ms.map PyData.str)) = _
    rw [eqv_strs ns ms, Bool.eq_iff_iff]
    simp
theorem depth_strs : ∀ ns : List Str, PyData.depthAll (ns.map PyData.str) ≤ 0 := fun ns => depth_all fun d hd => by
  obtain ⟨s, _, rfl⟩ := List.mem_map.mp hd
  exact Nat.le_refl _
/-! cells that are still written -/
structure Act (B Hf H : Hp) (A : List Addr) : Prop where
  base : Same B Hf
  ext : Same Hf H
  free : ∀ a ∈ A, Hf a = none ∧ ∃ o, H a = some o
  nd : A.Nodup
theorem Act.start (H : Hp) : Act H H H [] := ⟨Same.refl _, Same.refl _, fun _ h => (by cases h), List.nodup_nil⟩
theorem Act.same (c : Act B Hf H A) : Same B H := c.base.trans c.ext
theorem Act.sm (c : Act B Hf H A) (s : Same H H') : Act B Hf H' A := ⟨c.base, c.ext.trans s, fun a ha => ⟨(c.free a ha).1, by obtain ⟨o, h⟩ := (c.free a ha).2; exact ⟨o, s _ _ h⟩⟩, c.nd⟩
theorem Act.upd (c : Act B Hf H A) (ha : a ∈ A) : Act B Hf (L2.upd H a o) A :=
  ⟨c.base, same_mut c.ext (c.free a ha).1, fun b hb => ⟨(c.free b hb).1, by
    by_cases e : b = a
    · rw [e, upd_same]; exact ⟨_, rfl⟩
    · rw [upd_ne e]; exact (c.free b hb).2⟩, c.nd⟩
theorem Act.out (c : Act B Hf H A) (hp : H p = none) : p ∉ A := fun h => by
  obtain ⟨o, e⟩ := (c.free p h).2
  rw [hp] at e; cases e
theorem Act.new (c : Act B Hf H A) (hp : H p = none) : Act B (L2.upd Hf p o) (L2.upd H p o) A := by
  have hf := c.ext.free hp
  refine ⟨c.base.trans (same_upd hf), fun b u e => ?_, fun b hb => ?_, c.nd⟩
  · by_cases q : b = p
    · rw [q, upd_same] at e ⊢; exact e
    · rw [upd_ne q] at e ⊢; exact c.ext b u e
  · have q : b ≠ p := fun q => c.out hp (q ▸ hb)
    rw [upd_ne q, upd_ne q]; exact c.free b hb
theorem Act.newA (c : Act B Hf H A) (hp : H p = none) : Act B Hf (L2.upd H p o) (p :: A) := by
  refine ⟨c.base, c.ext.trans (same_upd hp), fun b hb => ?_, List.nodup_cons.mpr ⟨c.out hp, c.nd⟩⟩
  rcases List.mem_cons.mp hb with rfl | hb
  · exact ⟨c.ext.free hp, _, upd_same⟩
  · have q : b ≠ p := fun q => c.out hp (q ▸ hb)
    rw [upd_ne q]; exact c.free b hb
theorem Act.fz (c : Act B Hf H (a :: A)) (e : H a = some o) : Act B (L2.upd Hf a o) H A := by
  have n := List.nodup_cons.mp c.nd
  refine ⟨c.base.trans (same_upd (c.free a List.mem_cons_self).1), fun b u h => ?_, fun b hb => ?_, n.2⟩
  · by_cases q : b = a
    · rw [q, upd_same] at h; rw [q, e]; exact h
    · rw [upd_ne q] at h; exact c.ext b u h
  · have q : b ≠ a := fun q => n.1 (q ▸ hb)
    rw [upd_ne q]; exact c.free b (List.mem_cons_of_mem _ hb)
theorem Act.fz_same (c : Act B Hf H (a :: A)) : Same Hf (L2.upd Hf a o) := same_upd (c.free a List.mem_cons_self).1
theorem Act.perm {A' : List Addr} (c : Act B Hf H A) (h : A.Perm A') : Act B Hf H A' := ⟨c.base, c.ext, fun a ha => c.free a (h.mem_iff.mpr ha), h.nodup_iff.mp c.nd⟩
theorem Act.sub {A' : List Addr} (c : Act B Hf H A) (h : A'.Sublist A) : Act B Hf H A' := ⟨c.base, c.ext, fun a ha => c.free a (h.subset ha), h.nodup c.nd⟩
theorem Act.frz (c : Act B Hf H A) (hp : H p = some o) (hA : p ∉ A) : ∃ Hg, Same Hf Hg ∧ Act B Hg H A ∧ Hg p = some o := by
  cases hf : Hf p with
  | some u =>
    have := c.ext _ _ hf
    rw [hp] at this
    cases this
    exact ⟨Hf, Same.refl _, c, hf⟩
  | none =>
    refine ⟨L2.upd Hf p o, same_upd hf, ⟨c.base.trans (same_upd hf), fun b u h => ?_, fun b hb => ?_, c.nd⟩, upd_same⟩
    · by_cases q : b = p
      · rw [q, upd_same] at h; rw [q, hp]; exact h
      · rw [upd_ne q] at h; exact c.ext b u h
    · have q : b ≠ p := fun q => hA (q ▸ hb)
      rw [upd_ne q]; exact c.free b hb
end
end Jl

/-! Dicts from ints to ints. -/
namespace Jl
open PySem L2
def DI (H : Hp) (m : Addr) (f : Int → Option Int) (n : Nat) : Prop := ∃ kvs : List (Key × V), H m = some (.dK kvs) ∧ kvs.length ≤ n ∧ ∀ a : Int, valV kvs (Sum.inl a : Key) = (f a).map V.int
section
variable {H H' : Hp} {m p : Addr} {f : Int → Option Int} {n : Nat}
theorem DI.same (s : Same H H') (D : DI H m f n) : DI H' m f n := by
  obtain ⟨k, h1, h2, h3⟩ := D
  exact ⟨k, s _ _ h1, h2, h3⟩
theorem DI.to (D : DI H m f n) (e : H' m = H m) : DI H' m f n := by
  obtain ⟨k, h1, h2, h3⟩ := D
  exact ⟨k, e.trans h1, h2, h3⟩
theorem DI.off {o : HO} (D : DI H m f n) (e : p ≠ m) : DI (upd H p o) m f n := D.to (upd_ne e.symm)
theorem DI.get (D : DI H m f n) (a : Int) : DGet H m (.int a) ((f a).map V.int) := by
  obtain ⟨k, h1, h2, h3⟩ := D
  rw [← h3 a]
  exact DGet.k (k := kI a) h1
theorem DI.some_ {a w : Int} (D : DI H m f n) (e : f a = some w) : DGet H m (.int a) (some (.int w)) := by
  have := D.get a
  rw [e] at this
  exact this
theorem DI.put (D : DI H m f n) (hn : n ≤ 99999) (a w : Int) : ∃ o, DPut H m (.int a) (.int w) (upd H m o) ∧ DI (upd H m o) m (memPut f a w) (n + 1) := by
  obtain ⟨k, h1, h2, h3⟩ := D
  refine ⟨_, DPut.k (k := kI a) (v := .int w) h1 (small5' (by omega)), _, upd_same, ?_, fun b => ?_⟩
  · have := length_putK k (kI a) (V.int w)
    omega
  · rw [valV_put]
    show _ = (memPut f a w b).map V.int
    unfold memPut
    by_cases q : b = a
    · rw [if_pos (by rw [q]; rfl), if_pos q]; rfl
    · rw [if_neg (show ¬ (Sum.inl b : Key) = kI a from fun y => q (Sum.inl.inj y)), if_neg q]; exact h3 b
theorem DI.new : DI (upd H m (.dK [])) m (fun _ => none) 0 := ⟨[], upd_same, Nat.le_refl _, fun a => rfl⟩
theorem DI.le {k : Nat} (D : DI H m f n) (h : n ≤ k) : DI H m f k := by
  obtain ⟨k', h1, h2, h3⟩ := D
  exact ⟨k', h1, Nat.le_trans h2 h, h3⟩
theorem memPut_eq {a w : Int} : memPut f a w a = some w := if_pos rfl
theorem memPut_ne {a w x : Int} (h : x ≠ a) : memPut f a w x = f x := if_neg h
end
section
variable {K : PySem.W.Frag} {σ : L2.St} {H : Hp} {Q : VK} {to : TE} {p : Addr} {xs : List V} {kvs : List (Key × V)} {T : String} {nx bk ct : L2.St → Hp → Prop} {rt : VK} {tl : TE} {tu : TS}
theorem s_BM0 {r : V → List V → Hp → VK → Prop} (z : to σ H fun x H1 => tyV K T x H1 ∧ r x [] H1 Q) : tBM0 K T r to σ H Q := z
theorem s_clear (h : H p = some (.lst xs)) (z : Q .non (upd H p (.lst []))) : rClear (.ref p) [] H Q := ⟨p, xs, rfl, rfl, h, z⟩
theorem s_dclear (h : H p = some (.dK kvs)) (z : Q .non (upd H p (.dK []))) : tyV K "dict" (.ref p) H ∧ rDClear (.ref p) [] H Q := ⟨.inr (.inr (.inl ⟨rfl, .inl ⟨kvs, h⟩⟩)), p, kvs, rfl, rfl, h, z⟩
/-- a loop over a list made for it -/
theorem s_forN {k : Nat} {xs : List V} (Pv : Addr → Nat → L2.St → Hp → Prop) (ha : ∀ R : VK, (∀ a, H a = none → R (.ref a) (upd H a (.lst xs))) → tl σ H R) (h0 : ∀ a, H a = none → Pv a 0 σ (upd H a (.lst xs)))
    (hl : ∀ a i σ' H', H a = none → i ≤ xs.length → Pv a i σ' H' → SqL K H' a xs)
    (hs : ∀ (a : Addr) (i : Nat) x σ' H', H a = none → xs[i]? = some x → Pv a i σ' H' → tu ⟨Pv a (i + 1), rt, nx, Pv a (i + 1)⟩ (σ'.set k (some x)) H') (hd : ∀ a σ' H', H a = none → Pv a xs.length σ' H' → nx σ' H') : tFor (iList K tl) (gName k) tu ⟨nx, rt, bk, ct⟩ σ H := by
  refine ha _ fun a na => ⟨a, rfl, ⟨xs, sqU⟩, ?_⟩
  exact for_list (xs := xs) (Pv a) (h0 a na) (fun i σ' H' hi z => hl a i σ' H' na hi z) (fun i x σ' H' hi h => hs a i x σ' H' na hi h) (fun σ' H' h => hd a σ' H' na h)
end
section
variable {B Hf H H' : Hp} {A : List Addr} {p : Addr}
theorem Act.call (c : Act B Hf H A) (s : Same H H') (hp : H p = none) {o : HO} (e : H' p = some o) : Act B Hf H' (p :: A) := by
  refine ⟨c.base, c.ext.trans s, fun b hb => ?_, List.nodup_cons.mpr ⟨c.out hp, c.nd⟩⟩
  rcases List.mem_cons.mp hb with rfl | hb
  · exact ⟨c.ext.free hp, _, e⟩
  · obtain ⟨h1, o, h2⟩ := c.free b hb
    exact ⟨h1, o, s _ _ h2⟩
theorem Act.chg {C : List Addr} (c : Act B Hf H A) (k : ∀ b v, H b = some v → b ∉ C → H' b = some v) (hC : ∀ b ∈ C, b ∈ A ∧ ∃ o, H' b = some o) : Act B Hf H' A := by
  refine ⟨c.base, fun b u h => ?_, fun b hb => ⟨(c.free b hb).1, ?_⟩, c.nd⟩
  · refine k b u (c.ext b u h) fun hb => ?_
    have := (c.free b (hC b hb).1).1
    rw [h] at this; cases this
  · by_cases q : b ∈ C
    · exact (hC b q).2
    · obtain ⟨o, h⟩ := (c.free b hb).2
      exact ⟨o, k b o h q⟩
theorem Act.mach {C dx m r o : Addr} {st : MSt} (c : Act B Hf H A) (s : Same H H') (np : H p = none) (nm : H m = none) (nr : H r = none) (no : H o = none) (M : MachAt C H' p dx m r o st) : Act B Hf H' (p :: m :: r :: o :: A) := by
  obtain ⟨kvs, hm, _⟩ := M.dc
  have h1 := M.pm; have h2 := M.pr; have h3 := M.po; have h4 := M.rm; have h5 := M.om; have h6 := M.ne
  refine ⟨c.base, c.ext.trans s, fun b hb => ?_, ?_⟩
  · simp only [List.mem_cons] at hb
    rcases hb with rfl | rfl | rfl | rfl | hb
    · exact ⟨c.ext.free np, _, M.ob⟩
    · exact ⟨c.ext.free nm, _, hm⟩
    · exact ⟨c.ext.free nr, _, M.rg⟩
    · exact ⟨c.ext.free no, _, M.ou⟩
    · obtain ⟨h1, o, h2⟩ := c.free b hb
      exact ⟨h1, o, s _ _ h2⟩
  · simp only [List.nodup_cons, List.mem_cons, not_or]
    exact ⟨⟨h1, h2, h3, c.out np⟩, ⟨h4.symm, h5.symm, c.out nm⟩, ⟨h6, c.out nr⟩, c.out no, c.nd⟩
end
/-- a machine, and what a law holds beside it -/
structure Gp where
  p : Addr
  dx : Addr
  m : Addr
  r : Addr
  o : Addr
  a : Addr
  t : Addr
def Gp.cells (g : Gp) : List Addr := [g.p, g.m, g.r, g.o, g.t, g.a]
structure One (C : Addr) (H : Hp) (g : Gp) (s : MSt) : Prop where
  M : MachAt C H g.p g.dx g.m g.r g.o s
  row : H g.a = some (.lst (s.regs.map V.int))
  told : H g.t = some (.lst (s.outs.map V.int))
  nd : g.cells.Nodup
section
variable {C : Addr} {H H' : Hp} {g g0 g1 : Gp} {s : MSt} {P P' : MSt → Prop} {i : Nat}
theorem One.keep (h : One C H g s) (k : ∀ b v, H b = some v → b ∈ g.cells → H' b = some v) : One C H' g s := by
  obtain ⟨kvs, h1, h2, h3⟩ := h.M.dc
  exact ⟨⟨k _ _ h.M.ob (by simp [Gp.cells]), ⟨kvs, k _ _ h1 (by simp [Gp.cells]), h2, h3⟩, k _ _ h.M.rg (by simp [Gp.cells]), k _ _ h.M.ou (by simp [Gp.cells]), h.M.ne⟩, k _ _ h.row (by simp [Gp.cells]), k _ _ h.told (by simp [Gp.cells]), h.nd⟩
theorem One.same (h : One C H g s) (e : Same H H') : One C H' g s := h.keep fun b v hb _ => e b v hb
theorem One.has (h : One C H g s) : ∀ b ∈ g.cells, ∃ o, H b = some o := by
  obtain ⟨kvs, h1, _⟩ := h.M.dc
  intro b hb
  simp only [Gp.cells, List.mem_cons, List.not_mem_nil, or_false] at hb
  rcases hb with rfl | rfl | rfl | rfl | rfl | rfl
  · exact ⟨_, h.M.ob⟩
  · exact ⟨_, h1⟩
  · exact ⟨_, h.M.rg⟩
  · exact ⟨_, h.M.ou⟩
  · exact ⟨_, h.told⟩
  · exact ⟨_, h.row⟩
/-- two of these, of which the first i have gone on -/
def Both (C : Addr) (g0 g1 : Gp) (P P' : MSt → Prop) (i : Nat) (H : Hp) : Prop := ∃ s0 s1, One C H g0 s0 ∧ One C H g1 s1 ∧ (if 0 < i then P' s0 else P s0) ∧ (if 1 < i then P' s1 else P s1)
theorem Both.same (h : Both C g0 g1 P P' i H) (e : Same H H') : Both C g0 g1 P P' i H' := by
  obtain ⟨s0, s1, a, b, c, d⟩ := h
  exact ⟨s0, s1, a.same e, b.same e, c, d⟩
theorem Both.turn (hd : ∀ b ∈ g0.cells, b ∉ g1.cells) (hi : i < 2) (h : Both C g0 g1 P P' i H) : ∃ g s, ((i = 0 ∧ g = g0) ∨ (i = 1 ∧ g = g1)) ∧ One C H g s ∧ P s ∧
    ∀ H' s', One C H' g s' → P' s' → (∀ b v, H b = some v → b ∉ g.cells → H' b = some v) → Both C g0 g1 P P' (i + 1) H' := by
  obtain ⟨s0, s1, a, b, c, d⟩ := h
  have hi' : i = 0 ∨ i = 1 := by omega
  rcases hi' with rfl | rfl
  · refine ⟨g0, s0, .inl ⟨rfl, rfl⟩, a, c, fun H' s' o p k => ⟨s', s1, o, b.keep fun x v hx hc => k x v hx fun z => hd x z hc, p, d⟩⟩
  · refine ⟨g1, s1, .inr ⟨rfl, rfl⟩, b, d, fun H' s' o p k => ⟨s0, s', a.keep fun x v hx hc => k x v hx (hd x hc), o, c, p⟩⟩
theorem Both.next {P'' : MSt → Prop} (h : Both C g0 g1 P P' 2 H) : Both C g0 g1 P' P'' 0 H := h
/-- a machine steps, the law's own row and list have gone ahead -/
theorem One.stepped {s' : MSt} {H1 H2 : Hp} (h : One C H g s) (hb : ∀ b, b ≠ g.a → b ≠ g.t → H1 b = H b) (hr : H1 g.a = some (.lst (s'.regs.map V.int))) (ht : H1 g.t = some (.lst (s'.outs.map V.int)))
    (k : Keep H1 H2 g.p g.m g.r g.o) (M : MachAt C H2 g.p g.dx g.m g.r g.o s') : One C H2 g s' ∧ ∀ b v, H b = some v → b ∉ g.cells → H2 b = some v := by
  have nd := h.nd
  simp only [Gp.cells, List.nodup_cons, List.mem_cons, List.not_mem_nil, or_false, not_or] at nd
  obtain ⟨⟨n1, n2, n3, n4, n5⟩, ⟨n6, n7, n8, n9⟩, ⟨n10, n11, n12⟩, ⟨n13, n14⟩, n15, -⟩ := nd
  refine ⟨⟨M, k _ _ hr (fun e => n5 e.symm) (fun e => n9 e.symm) (fun e => n12 e.symm) fun e => n14 e.symm, k _ _ ht (fun e => n4 e.symm) (fun e => n8 e.symm) (fun e => n11 e.symm) fun e => n13 e.symm, h.nd⟩, fun b v e hc => ?_⟩
  simp only [Gp.cells, List.mem_cons, List.not_mem_nil, or_false, not_or] at hc
  obtain ⟨c1, c2, c3, c4, c5, c6⟩ := hc
  refine k b v ?_ c1 c2 c3 c4
  rw [hb b c6 c5]; exact e
theorem One.ma {H1 : Hp} (h : One C H g s) (hb : ∀ b, b ≠ g.a → b ≠ g.t → H1 b = H b) : MachAt C H1 g.p g.dx g.m g.r g.o s := by
  have nd := h.nd
  simp only [Gp.cells, List.nodup_cons, List.mem_cons, List.not_mem_nil, or_false, not_or] at nd
  obtain ⟨⟨n1, n2, n3, n4, n5⟩, ⟨n6, n7, n8, n9⟩, ⟨n10, n11, n12⟩, ⟨n13, n14⟩, n15, -⟩ := nd
  obtain ⟨kvs, h1, h2, h3⟩ := h.M.dc
  exact ⟨by rw [hb _ n5 n4]; exact h.M.ob, ⟨kvs, by rw [hb _ n9 n8]; exact h1, h2, h3⟩, by rw [hb _ n12 n11]; exact h.M.rg, by rw [hb _ n14 n13]; exact h.M.ou, h.M.ne⟩
theorem One.at_ (h : One C H g s) : g.a ≠ g.t := by
  have nd := h.nd
  simp only [Gp.cells, List.nodup_cons, List.mem_cons, List.not_mem_nil, or_false, not_or] at nd
  obtain ⟨⟨n1, n2, n3, n4, n5⟩, ⟨n6, n7, n8, n9⟩, ⟨n10, n11, n12⟩, ⟨n13, n14⟩, n15, -⟩ := nd
  exact fun e => n15 e.symm
end
theorem cutV_mid {xs : List V} (i j : Nat) (h : i ≤ j) : cutV xs (some (i : Int)) (some (j : Int)) = (xs.drop i).take (j - i) := by
  unfold cutV
  have e1 : ∀ d k : Nat, HT.sIx xs.length d (some (k : Int)) = min k xs.length := fun d k => HT.sIx_nat _ _ _
  rw [e1, e1]
  rcases Nat.lt_or_ge i xs.length with hi | hi
  · rw [Nat.min_eq_left (Nat.le_of_lt hi)]
    rcases Nat.lt_or_ge j xs.length with hj | hj
    · rw [Nat.min_eq_left (Nat.le_of_lt hj)]
    · rw [Nat.min_eq_right hj, List.take_of_length_le (by rw [List.length_drop]; omega), List.take_of_length_le (by rw [List.length_drop]; omega)]
  · rw [Nat.min_eq_right hi, List.drop_of_length_le hi, List.drop_of_length_le (Nat.le_refl _), List.take_nil, List.take_nil]
theorem nd_ne {A : List Addr} (h : A.Nodup) (i j : Nat) (hij : i < j) {a b : Addr} (ha : A[i]? = some a) (hb : A[j]? = some b) : a ≠ b := by
  obtain ⟨hi, rfl⟩ := List.getElem?_eq_some_iff.mp ha
  obtain ⟨hj, rfl⟩ := List.getElem?_eq_some_iff.mp hb
  exact List.pairwise_iff_getElem.mp h i j hi hj hij
section
variable {K : PySem.W.Frag} {σ : L2.St} {H : Hp} {Q : VK} {p q : Addr} {ns ms : List Int} {ss : List Str} {i : Int} {z : Str} {nx bk ct : L2.St → Hp → Prop} {rt : VK} {tu : TS}
theorem inV_ints : ∀ ns : List Int, inV (.int i) (ns.map V.int) = decide (i ∈ ns)
  | [] => rfl
  | n :: ns => by
    show ((n == i) || inV (.int i) (ns.map V.int)) = _
    rw [inV_ints ns, Bool.eq_iff_iff, Bool.or_eq_true, beq_iff_eq, decide_eq_true_iff, decide_eq_true_iff, List.mem_cons]
    exact ⟨fun h => h.imp Eq.symm id, fun h => h.imp Eq.symm id⟩
theorem inV_strs : ∀ ns : List Str, inV (.str z) (ns.map V.str) = decide (z ∈ ns)
  | [] => rfl
  | n :: ns => by
    show ((n == z) || inV (.str z) (ns.map V.str)) = _
    rw [inV_strs ns, Bool.eq_iff_iff, Bool.or_eq_true, beq_iff_eq, decide_eq_true_iff, decide_eq_true_iff, List.mem_cons]
    exact ⟨fun h => h.imp Eq.symm id, fun h => h.imp Eq.symm id⟩
theorem flat_ints : ∀ ns : List Int, (ns.map V.int).all flatV = true
  | [] => rfl
  | n :: ns => by show (true && (ns.map V.int).all flatV) = true; rw [flat_ints ns]; rfl
theorem flat_strs : ∀ ns : List Str, (ns.map V.str).all flatV = true
  | [] => rfl
  | n :: ns => by show (true && (ns.map V.str).all flatV) = true; rw [flat_strs ns]; rfl
theorem s_inInts (h : SqL K H p (ns.map V.int)) (k : Q (.bl (decide (i ∈ ns))) H) : rIn K false (.int i) (.ref p) H Q := ⟨p, _, rfl, .inl h, rfl, flat_ints ns, by rw [if_neg Bool.false_ne_true, inV_ints]; exact k⟩
theorem s_notInInts (h : SqL K H p (ns.map V.int)) (k : Q (.bl (!decide (i ∈ ns))) H) : rIn K true (.int i) (.ref p) H Q := ⟨p, _, rfl, .inl h, rfl, flat_ints ns, by rw [if_pos rfl, inV_ints]; exact k⟩
theorem s_inStrs (h : SqL K H p (ss.map V.str)) (k : Q (.bl (decide (z ∈ ss))) H) : rIn K false (.str z) (.ref p) H Q := ⟨p, _, rfl, .inl h, rfl, flat_strs ss, by rw [if_neg Bool.false_ne_true, inV_strs]; exact k⟩
theorem s_notInStrs (h : SqL K H p (ss.map V.str)) (k : Q (.bl (!decide (z ∈ ss))) H) : rIn K true (.str z) (.ref p) H Q := ⟨p, _, rfl, .inl h, rfl, flat_strs ss, by rw [if_pos rfl, inV_strs]; exact k⟩
theorem s_neInts (h1 : SqL K H p (ns.map V.int)) (h2 : SqL K H q (ms.map V.int)) (k : Q (.bl (!decide (ns = ms))) H) : rNeD K (.ref p) (.ref q) H Q :=
  ⟨_, _, dp_intL h1, dp_intL h2, shaped_ints ns, shaped_ints ms, by
    show Q (.bl (!PyData.eqvAll (ns.map PyData.int) (ms.map PyData.int))) H
    rw [eqv_ints]; exact k⟩
/-- range(lo, hi) -/
theorem s_forR2 {k : Nat} {ta : TA} (lo hi : Int) (Pv : Nat → L2.St → Hp → Prop) (ha : ∀ R : List V → Hp → Prop, R [.int lo, .int hi] H → ta σ H R) (hb : -(2 ^ 62) ≤ lo ∧ lo < 2 ^ 62 ∧ -(2 ^ 62) ≤ hi ∧ hi < 2 ^ 62) (h0 : Pv 0 σ H)
    (hs : ∀ (i : Nat) σ' H', lo + (i : Int) < hi → Pv i σ' H' → tu ⟨Pv (i + 1), rt, nx, Pv (i + 1)⟩ (σ'.set k (some (.int (lo + (i : Int))))) H') (hd : ∀ σ' H', Pv (hi - lo).toNat σ' H' → nx σ' H') : tFor (iRng2 ta) (gName k) tu ⟨nx, rt, bk, ct⟩ σ H := by
  refine ha _ ⟨lo, hi, rfl, hb, ?_⟩
  refine for_range (lo := lo) (n := (hi - lo).toNat) Pv h0 (fun i σ' H' hi' h => ?_) hd
  exact hs i σ' H' (by omega) h
end
section
variable {K : PySem.W.Frag} {σ : L2.St} {H : Hp} {nx bk ct : L2.St → Hp → Prop} {rt : VK} {tu : TS}
/-- a list of known items, any target -/
theorem s_forLg {g : TG} {tl : TE} {a : Addr} {xs : List V} (Pv : Nat → L2.St → Hp → Prop) (H1 : Hp) (ha : ∀ R : VK, R (.ref a) H1 → tl σ H R) (hx : SqL K H1 a xs) (h0 : Pv 0 σ H1)
    (hl : ∀ i σ' H', i ≤ xs.length → Pv i σ' H' → SqL K H' a xs)
    (hs : ∀ (i : Nat) x σ' H', xs[i]? = some x → Pv i σ' H' → g x σ' H' fun σ2 H2 => tu ⟨Pv (i + 1), rt, nx, Pv (i + 1)⟩ σ2 H2) (hd : ∀ σ' H', Pv xs.length σ' H' → nx σ' H') : tFor (iList K tl) g tu ⟨nx, rt, bk, ct⟩ σ H := by
  refine ha _ ⟨a, rfl, ⟨xs, hx⟩, ?_⟩
  exact for_list (xs := xs) Pv h0 hl (fun i x σ' H' hi h => hs i x σ' H' hi h) hd
end
section
variable {K : PySem.W.Frag} {σ : L2.St} {H : Hp} {nx bk ct : L2.St → Hp → Prop} {rt : VK} {tu : TS}
/-- for (i, x) in enumerate(xs) -/
theorem s_forE {g : TG} {ta : TA} {a : Addr} {xs : List V} (Pv : Nat → L2.St → Hp → Prop) (H1 : Hp) (ha : ∀ R : List V → Hp → Prop, R [.ref a] H1 → ta σ H R) (hx : SqL K H1 a xs) (h0 : Pv 0 σ H1)
    (hl : ∀ i σ' H', i ≤ xs.length → Pv i σ' H' → SqL K H' a xs)
    (hs : ∀ (i : Nat) x σ' H' T, xs[i]? = some x → Pv i σ' H' → H' T = none → g (.ref T) σ' (upd H' T (.tup [.int (i : Int), x])) fun σ2 H2 => tu ⟨Pv (i + 1), rt, nx, Pv (i + 1)⟩ σ2 H2) (hd : ∀ σ' H', Pv xs.length σ' H' → nx σ' H') : tFor (iEnum K ta) g tu ⟨nx, rt, bk, ct⟩ σ H := by
  refine ha _ ⟨a, xs, rfl, hx, ?_⟩
  refine ⟨fun i m σ H => m = xs.length - i ∧ i ≤ xs.length ∧ Pv i σ H, ⟨xs.length, by simp, Nat.zero_le _, h0⟩, ?_⟩
  rintro i m σ' H2 ⟨rfl, hi, q⟩
  have hq := hl i σ' H2 hi q
  by_cases hlt : i < xs.length
  · refine .inr ⟨⟨xs, _, hq, List.getElem?_eq_getElem hlt⟩, Pv (i + 1), fun σ3 H3 q' => ⟨xs.length - (i + 1), by omega, rfl, hlt, q'⟩, fun v H3 y => ?_⟩
    obtain ⟨T, x, rfl, hT, rfl, hx⟩ := y
    exact hs i x σ' H2 T (hx xs hq) q hT
  · have e : i = xs.length := by omega
    subst e
    exact .inl ⟨⟨xs, hq, Nat.le_refl _⟩, hd σ' H2 q⟩
end
section
variable {K : PySem.W.Frag} {σ : L2.St} {H : Hp} {Q : VK}
/-- [e for g in xs if t]: what the items are, as data; D is the list in the making -/
theorem s_lcA {g : TG} {tt : TT} {te tl : TE} {vs : List Nat} {xs : List V} (d : Nat → Option PyData) (hl : xs.length ≤ 100000) (ha : ∀ R : VK, (∀ a H1, Same H H1 → SqL K H1 a xs → R (.ref a) H1) → tl σ H R)
    (hs : ∀ (i : Nat) x D F H1 (Rs : VK) (Rn : Hp → Prop), xs[i]? = some x → Act H F H1 [D] → (∀ v F' H2 dd, Same F F' → Act H F' H2 [D] → Same H1 H2 → d i = some dd → Dp K F' v dd → Rs v H2) → (∀ F' H2, Same F F' → Act H F' H2 [D] → Same H1 H2 → d i = none → Rn H2) →
      g x (wipe σ vs) H1 fun σ2 H2 => wipe σ2 vs = wipe σ vs ∧ tt σ2 H2 fun b H3 => if b = true then te σ2 H3 Rs else Rn H3)
    (z : ∀ p H1 us, Same H H1 → H p = none → H1 p = some (.lst us) → DpAll K H1 us ((List.range xs.length).filterMap d) → Q (.ref p) H1) : tLc (iList K tl) g tt te vs σ H Q := by
  refine ha _ fun a H0 s0 hx => ⟨a, rfl, ⟨xs, hx⟩, fun D hD => ?_⟩
  have c0 : Act H H0 (upd H0 D (.lst [])) [D] := ⟨s0, same_upd hD, fun b hb => by cases List.mem_singleton.mp hb; exact ⟨hD, _, upd_same⟩, List.nodup_cons.mpr ⟨List.not_mem_nil, List.nodup_nil⟩⟩
  refine lc_list (xs := xs) (fun i H' => i ≤ xs.length ∧ ∃ F us, Same H0 F ∧ Act H F H' [D] ∧ H' D = some (.lst us) ∧ us.length ≤ i ∧ DpAll K F us ((List.range i).filterMap d)) ⟨Nat.zero_le _, H0, [], Same.refl _, c0, upd_same, Nat.le_refl _, .nil⟩ (fun i H' _ h => ?_) (fun i x H1 hi h => ?_) (fun H1 h => ?_)
  · obtain ⟨_, F, us, sF, c, _⟩ := h
    exact c.ext.seq (sF.seq hx)
  · obtain ⟨_, F, us, sF, c, hus, hul, hda⟩ := h
    have hi' : i < xs.length := (List.getElem?_eq_some_iff.mp hi).1
    refine hs i x D F H1 _ _ hi c (fun v F' H2 dd sF' c' s12 hd hv => ?_) (fun F' H2 sF' c' s12 hd => ?_)
    · refine ⟨us, s12 _ _ hus, small5' (by omega), hi', F', us ++ [v], sF.trans sF', c'.upd (by simp), upd_same, by rw [List.length_append, List.length_singleton]; omega, ?_⟩
      rw [List.range_succ, List.filterMap_append]
      refine da_app (dps_same sF' hda) ?_
      show DpAll K F' [v] ([i].filterMap d)
      rw [List.filterMap_cons, hd]
      exact da_one hv
    · refine ⟨hi', F', us, sF.trans sF', c', s12 _ _ hus, by omega, ?_⟩
      rw [List.range_succ, List.filterMap_append]
      show DpAll K F' us (_ ++ [i].filterMap d)
      rw [List.filterMap_cons, hd]
      show DpAll K F' us (_ ++ [])
      rw [List.append_nil]
      exact dps_same sF' hda
  · obtain ⟨_, F, us, sF, c, hus, hul, hda⟩ := h
    exact z D H1 us c.same (s0.free hD) hus (dps_same c.ext hda)
/-- [e for g in xs if t]: what the items are, as data; D is the list in the making -/
theorem s_lcF {g : TG} {tt : TT} {te tl : TE} {vs : List Nat} {xs : List V} (d : Nat → Option PyData) (hl : xs.length ≤ 100000) (ha : ∀ R : VK, (∀ a H1, Same H H1 → SqL K H1 a xs → R (.ref a) H1) → tl σ H R)
    (hs : ∀ (i : Nat) x D F H1 (Rs : VK) (Rn : Hp → Prop), xs[i]? = some x → Act H F H1 [D] → (∀ v F' H2 dd, Same F F' → Act H F' H2 [D] → Same H1 H2 → d i = some dd → Dp K F' v dd → Rs v H2) → (∀ F' H2, Same F F' → Act H F' H2 [D] → Same H1 H2 → d i = none → Rn H2) →
      g x (wipe σ vs) H1 fun σ2 H2 => wipe σ2 vs = wipe σ vs ∧ tt σ2 H2 fun b H3 => if b = true then te σ2 H3 Rs else Rn H3)
    (z : ∀ p F H1 us, Act H F H1 [p] → H1 p = some (.lst us) → DpAll K F us ((List.range xs.length).filterMap d) → us.length ≤ xs.length → Q (.ref p) H1) : tLc (iList K tl) g tt te vs σ H Q := by
  refine ha _ fun a H0 s0 hx => ⟨a, rfl, ⟨xs, hx⟩, fun D hD => ?_⟩
  have c0 : Act H H0 (upd H0 D (.lst [])) [D] := ⟨s0, same_upd hD, fun b hb => by cases List.mem_singleton.mp hb; exact ⟨hD, _, upd_same⟩, List.nodup_cons.mpr ⟨List.not_mem_nil, List.nodup_nil⟩⟩
  refine lc_list (xs := xs) (fun i H' => i ≤ xs.length ∧ ∃ F us, Same H0 F ∧ Act H F H' [D] ∧ H' D = some (.lst us) ∧ us.length ≤ i ∧ DpAll K F us ((List.range i).filterMap d)) ⟨Nat.zero_le _, H0, [], Same.refl _, c0, upd_same, Nat.le_refl _, .nil⟩ (fun i H' _ h => ?_) (fun i x H1 hi h => ?_) (fun H1 h => ?_)
  · obtain ⟨_, F, us, sF, c, _⟩ := h
    exact c.ext.seq (sF.seq hx)
  · obtain ⟨_, F, us, sF, c, hus, hul, hda⟩ := h
    have hi' : i < xs.length := (List.getElem?_eq_some_iff.mp hi).1
    refine hs i x D F H1 _ _ hi c (fun v F' H2 dd sF' c' s12 hd hv => ?_) (fun F' H2 sF' c' s12 hd => ?_)
    · refine ⟨us, s12 _ _ hus, small5' (by omega), hi', F', us ++ [v], sF.trans sF', c'.upd (by simp), upd_same, by rw [List.length_append, List.length_singleton]; omega, ?_⟩
      rw [List.range_succ, List.filterMap_append]
      refine da_app (dps_same sF' hda) ?_
      show DpAll K F' [v] ([i].filterMap d)
      rw [List.filterMap_cons, hd]
      exact da_one hv
    · refine ⟨hi', F', us, sF.trans sF', c', s12 _ _ hus, by omega, ?_⟩
      rw [List.range_succ, List.filterMap_append]
      show DpAll K F' us (_ ++ [i].filterMap d)
      rw [List.filterMap_cons, hd]
      show DpAll K F' us (_ ++ [])
      rw [List.append_nil]
      exact dps_same sF' hda
  · obtain ⟨_, F, us, sF, c, hus, hul, hda⟩ := h
    exact z D F H1 us c hus hda hul
theorem range_bind {α β : Type} (xs : List α) (f : α → Option β) : ∀ n, (List.range n).filterMap (fun i => (xs[i]?).bind f) = (xs.take n).filterMap f
  | 0 => rfl
  | n + 1 => by
    rw [List.range_succ, List.filterMap_append, range_bind xs f n, List.take_add_one, List.filterMap_append]
    congr 1
    cases h : xs[n]? with
    | none => simp [h]
    | some x => cases hf : f x <;> simp [h, hf]
theorem range_items {α β : Type} (xs : List α) (f : α → Option β) : (List.range xs.length).filterMap (fun i => (xs[i]?).bind f) = xs.filterMap f := by
  rw [range_bind, List.take_length]
theorem filterMap_some {α β : Type} (xs : List α) (f : α → β) : xs.filterMap (fun x => some (f x)) = xs.map f := by
  induction xs with
  | nil => rfl
  | cons x xs ih => rw [List.filterMap_cons, ih]; rfl
end
section
variable {K : PySem.W.Frag} {σ : L2.St} {H : Hp} {nx bk ct : L2.St → Hp → Prop} {rt : VK} {tu : TS}
/-- a loop over a list that is made for it somehow -/
theorem s_forN2 {k : Nat} {tl : TE} {xs : List V} (Pv : Nat → L2.St → Hp → Prop) (ha : ∀ R : VK, (∀ a H1, Same H H1 → H a = none → H1 a = some (.lst xs) → R (.ref a) H1) → tl σ H R) (h0 : ∀ H1, Same H H1 → Pv 0 σ H1)
    (hs : ∀ (i : Nat) x σ' H', xs[i]? = some x → Pv i σ' H' → tu ⟨fun σ2 H2 => Same H' H2 ∧ Pv (i + 1) σ2 H2, rt, nx, fun σ2 H2 => Same H' H2 ∧ Pv (i + 1) σ2 H2⟩ (σ'.set k (some x)) H') (hd : ∀ σ' H', Pv xs.length σ' H' → nx σ' H') : tFor (iList K tl) (gName k) tu ⟨nx, rt, bk, ct⟩ σ H := by
  refine ha _ fun a H1 s1 na h1 => ⟨a, rfl, ⟨xs, .inl (.inl h1)⟩, ?_⟩
  refine ⟨fun i m σ' H' => m = xs.length - i ∧ i ≤ xs.length ∧ H' a = some (.lst xs) ∧ Pv i σ' H', ⟨xs.length, by simp, Nat.zero_le _, h1, h0 H1 s1⟩, ?_⟩
  rintro i m σ' H2 ⟨rfl, hi, hq, q⟩
  by_cases hlt : i < xs.length
  · refine .inr ⟨⟨xs, xs[i], .inl (.inl hq), by simp [hlt]⟩, fun σ2 H3 => Same H2 H3 ∧ Pv (i + 1) σ2 H3, fun σ3 H3 q' => ⟨xs.length - (i + 1), by omega, rfl, hlt, q'.1 _ _ hq, q'.2⟩, fun x H3 y => ?_⟩
    obtain ⟨rfl, hx⟩ := y
    exact hs i x σ' _ (hx xs (.inl (.inl hq))) q
  · have e : i = xs.length := by omega
    subst e
    exact .inl ⟨⟨xs, .inl (.inl hq), Nat.le_refl _⟩, hd σ' H2 q⟩
end
theorem s_yes {σ : L2.St} {H : Hp} {T : Bool → Hp → Prop} (z : T true H) : tYes σ H T := z
end Jl

/-! Pieces: what they are as data; a piece in the making. -/
namespace Jl
open PySem L2
structure Fill where
  at_ : Int
  rule : Str
  name : Str
  add : Int
  soft : Bool
structure Stre where
  kind : Str
  step : Int
  words : List Int
  fills : List Fill
structure Nam where
  name : Str
  sort : Str
  stre : Int
  off : Int
structure Piece where
  name : Str
  stres : List Stre
  names : List Nam
def fillD (f : Fill) : PyData := .tuple [.int f.at_, .str f.rule, .str f.name, .int f.add, .bool f.soft]
def streD (s : Stre) : PyData := .tuple [.str s.kind, .int s.step, .list (s.words.map PyData.int), .list (s.fills.map fillD)]
def namD (n : Nam) : PyData := .tuple [.str n.name, .str n.sort, .int n.stre, .int n.off]
def pieceD (p : Piece) : PyData := .tuple [.str p.name, .list (p.stres.map streD), .list (p.names.map namD)]
/-! all texts of a piece are of real signs -/
def okS (z : Str) : Prop := (PyData.str z).canLay0 = true
def Fill.ok (f : Fill) : Prop := okS f.rule ∧ okS f.name
def Stre.ok (s : Stre) : Prop := okS s.kind ∧ ∀ f ∈ s.fills, f.ok
def Nam.ok (n : Nam) : Prop := okS n.name ∧ okS n.sort
def Piece.ok (p : Piece) : Prop := okS p.name ∧ (∀ s ∈ p.stres, s.ok) ∧ ∀ n ∈ p.names, n.ok
theorem fillD_ok {f : Fill} (h : f.ok) : (fillD f).canLay0 = true ∧ (fillD f).depth ≤ 1 := by
  refine ⟨?_, ?_⟩
  · show (true && ((PyData.str f.rule).canLay0 && ((PyData.str f.name).canLay0 && (true && (true && true))))) = true
    rw [h.1, h.2]; rfl
  · show max 0 (max 0 (max 0 (max 0 (max 0 0)))) + 1 ≤ 1
    omega
theorem namD_ok {n : Nam} (h : n.ok) : (namD n).canLay0 = true ∧ (namD n).depth ≤ 1 := by
  refine ⟨?_, ?_⟩
  · show ((PyData.str n.name).canLay0 && ((PyData.str n.sort).canLay0 && (true && (true && true)))) = true
    rw [h.1, h.2]; rfl
  · show max 0 (max 0 (max 0 (max 0 0))) + 1 ≤ 1
    omega
theorem lay_map {α : Type} {f : α → PyData} {l : List α} {n : Nat} (h : ∀ x ∈ l, (f x).canLay0 = true ∧ (f x).depth ≤ n) : (PyData.list (l.map f)).canLay0 = true ∧ (PyData.list (l.map f)).depth ≤ n + 1 := by
  refine ⟨lay_all fun d hd => ?_, depth_list fun d hd => ?_⟩
  · obtain ⟨x, hx, rfl⟩ := List.mem_map.mp hd
    exact (h x hx).1
  · obtain ⟨x, hx, rfl⟩ := List.mem_map.mp hd
    exact (h x hx).2
theorem streD_ok {s : Stre} (h : s.ok) : (streD s).canLay0 = true ∧ (streD s).depth ≤ 3 := by
  obtain ⟨a1, a2⟩ := lay_map (f := PyData.int) (l := s.words) (n := 0) fun x _ => ⟨rfl, Nat.le_refl _⟩
  obtain ⟨b1, b2⟩ := lay_map (f := fillD) (l := s.fills) (n := 1) fun x hx => fillD_ok (h.2 x hx)
  refine ⟨?_, depth_tuple fun d hd => ?_⟩
  · show ((PyData.str s.kind).canLay0 && (true && ((PyData.list _).canLay0 && ((PyData.list _).canLay0 && true)))) = true
    rw [h.1, a1, b1]; rfl
  · simp only [List.mem_cons, List.not_mem_nil, or_false] at hd
    rcases hd with rfl | rfl | rfl | rfl
    · exact Nat.zero_le _
    · exact Nat.zero_le _
    · exact Nat.le_trans a2 (by decide)
    · exact b2
theorem pieceD_ok {p : Piece} (h : p.ok) : (pieceD p).canLay0 = true ∧ (pieceD p).depth ≤ 5 := by
  obtain ⟨a1, a2⟩ := lay_map (f := streD) (l := p.stres) (n := 3) fun x hx => streD_ok (h.2.1 x hx)
  obtain ⟨b1, b2⟩ := lay_map (f := namD) (l := p.names) (n := 1) fun x hx => namD_ok (h.2.2 x hx)
  refine ⟨?_, depth_tuple fun d hd => ?_⟩
  · show ((PyData.str p.name).canLay0 && ((PyData.list _).canLay0 && ((PyData.list _).canLay0 && true))) = true
    rw [h.1, a1, b1]; rfl
  · simp only [List.mem_cons, List.not_mem_nil, or_false] at hd
    rcases hd with rfl | rfl | rfl
    · exact Nat.zero_le _
    · exact a2
    · exact Nat.le_trans b2 (by decide)
theorem piece_shaped {p : Piece} (h : p.ok) : SeqAt.shaped (pieceD p) = true := shaped_of (pieceD_ok h).1 (Nat.le_trans (pieceD_ok h).2 (by decide))
theorem pieces_shaped {ps : List Piece} (h : ∀ p ∈ ps, p.ok) : SeqAt.shaped (.list (ps.map pieceD)) = true := by
  obtain ⟨a, b⟩ := lay_map (f := pieceD) (l := ps) (n := 5) fun x hx => pieceD_ok (h x hx)
  exact shaped_of a (Nat.le_trans b (by decide))
section
variable {K : PySem.W.Frag} {H H' B F : Hp} {P L t : Addr} {X : List Addr} {x : V}
theorem dp_fill {f : Fill} (h : Dp K H x (fillD f)) : ∃ t, x = .ref t ∧ SqT K H t [.int f.at_, .str f.rule, .str f.name, .int f.add, .bl f.soft] := by
  obtain ⟨t, u0, e0, h1, g0⟩ := dp_tup h
  obtain ⟨u1, e1, g1⟩ := da_int g0
  obtain ⟨u2, e2, g2⟩ := da_str g1
  obtain ⟨u3, e3, g3⟩ := da_str g2
  obtain ⟨u4, e4, g4⟩ := da_int g3
  obtain ⟨u5, e5, g5⟩ := da_bl g4
  have e6 := da_nil g5
  subst e0 e1 e2 e3 e4 e5 e6
  exact ⟨t, rfl, h1⟩
theorem dp_nam {n : Nam} (h : Dp K H x (namD n)) : ∃ t, x = .ref t ∧ SqT K H t [.str n.name, .str n.sort, .int n.stre, .int n.off] := by
  obtain ⟨t, u0, e0, h1, g0⟩ := dp_tup h
  obtain ⟨u1, e1, g1⟩ := da_str g0
  obtain ⟨u2, e2, g2⟩ := da_str g1
  obtain ⟨u3, e3, g3⟩ := da_int g2
  obtain ⟨u4, e4, g4⟩ := da_int g3
  have e5 := da_nil g4
  subst e0 e1 e2 e3 e4 e5
  exact ⟨t, rfl, h1⟩
theorem dp_stre {s : Stre} (h : Dp K H x (streD s)) : ∃ t W G gs, x = .ref t ∧ SqT K H t [.str s.kind, .int s.step, .ref W, .ref G] ∧ SqL K H W (s.words.map V.int) ∧ SqL K H G gs ∧ DpAll K H gs (s.fills.map fillD) := by
  obtain ⟨t, u0, e0, h1, g0⟩ := dp_tup h
  obtain ⟨u1, e1, g1⟩ := da_str g0
  obtain ⟨u2, e2, g2⟩ := da_int g1
  obtain ⟨v, u3, e3, h3, g3⟩ := da_cons g2
  obtain ⟨W, e4, h4⟩ := dp_intl h3
  obtain ⟨v2, u4, e5, h5, g4⟩ := da_cons g3
  obtain ⟨G, gs, e6, h6, h7⟩ := dp_list h5
  have e7 := da_nil g4
  subst e0 e1 e2 e3 e4 e5 e6 e7
  exact ⟨t, W, G, gs, rfl, h1, h4, h6, h7⟩
theorem dp_piece {p : Piece} (h : Dp K H x (pieceD p)) : ∃ t S N ss ns, x = .ref t ∧ SqT K H t [.str p.name, .ref S, .ref N] ∧ SqL K H S ss ∧ DpAll K H ss (p.stres.map streD) ∧ SqL K H N ns ∧ DpAll K H ns (p.names.map namD) := by
  obtain ⟨t, u0, e0, h1, g0⟩ := dp_tup h
  obtain ⟨u1, e1, g1⟩ := da_str g0
  obtain ⟨v, u2, e2, h3, g2⟩ := da_cons g1
  obtain ⟨S, ss, e3, h4, h5⟩ := dp_list h3
  obtain ⟨v2, u3, e4, h6, g3⟩ := da_cons g2
  obtain ⟨N, ns, e5, h7, h8⟩ := dp_list h6
  have e6 := da_nil g3
  subst e0 e1 e2 e3 e4 e5 e6
  exact ⟨t, S, N, ss, ns, rfl, h1, h4, h5, h7, h8⟩
/-- items of a list of data, one by one -/
theorem da_item {α : Type} {f : α → PyData} {xs : List V} {l : List α} {i : Nat} (h : DpAll K H xs (l.map f)) (hi : xs[i]? = some x) : ∃ q, l[i]? = some q ∧ Dp K H x (f q) := by
  obtain ⟨d, hd, hx⟩ := da_get h hi
  rw [List.getElem?_map] at hd
  cases e : l[i]? with
  | none => rw [e] at hd; cases hd
  | some q =>
    rw [e] at hd
    cases hd
    exact ⟨q, rfl, hx⟩
theorem da_item' {α : Type} {f : α → PyData} {xs : List V} {l : List α} {i : Nat} {q : α} (h : DpAll K H xs (l.map f)) (hi : l[i]? = some q) : ∃ x, xs[i]? = some x ∧ Dp K H x (f q) :=
  da_at h (by rw [List.getElem?_map, hi]; rfl)
theorem da_length {α : Type} {f : α → PyData} {xs : List V} {l : List α} (h : DpAll K H xs (l.map f)) : xs.length = l.length := by
  rw [da_len h, List.length_map]
/-! pieces in the making -/
def LastS (K : PySem.W.Frag) (B F H : Hp) (S : Addr) (X : List Addr) (ss : List Stre) : Prop :=
  (ss = [] ∧ H S = some (.lst []) ∧ Act B F H (S :: X)) ∨
  ∃ ss0 kind step ws fs sv u W G gv, ss = ss0 ++ [⟨kind, step, ws, fs⟩] ∧ H S = some (.lst (sv ++ [.ref u])) ∧ DpAll K F sv (ss0.map streD) ∧ F u = some (.tup [.str kind, .int step, .ref W, .ref G]) ∧ H W = some (.lst (ws.map V.int)) ∧ H G = some (.lst gv) ∧ DpAll K F gv (fs.map fillD) ∧ Act B F H (W :: G :: S :: X)
def BP (K : PySem.W.Frag) (B F H : Hp) (P : Addr) (X : List Addr) (ps : List Piece) : Prop :=
  (ps = [] ∧ H P = some (.lst []) ∧ Act B F H (P :: X)) ∨
  ∃ ps0 nm ss ns xs t S N nv, ps = ps0 ++ [⟨nm, ss, ns⟩] ∧ H P = some (.lst (xs ++ [.ref t])) ∧ DpAll K F xs (ps0.map pieceD) ∧ F t = some (.tup [.str nm, .ref S, .ref N]) ∧ H N = some (.lst nv) ∧ DpAll K F nv (ns.map namD) ∧ LastS K B F H S (N :: P :: X) ss
theorem LastS.act {S : Addr} {ss : List Stre} (h : LastS K B F H S X ss) : ∃ A, Act B F H (A ++ S :: X) := by
  rcases h with ⟨_, _, c⟩ | ⟨_, _, _, _, _, _, _, W, G, _, _, _, _, _, _, _, _, c⟩
  · exact ⟨[], c⟩
  · exact ⟨[W, G], c⟩
theorem LastS.ext {S : Addr} {ss : List Stre} (h : LastS K B F H S X ss) : Same F H := by obtain ⟨A, c⟩ := h.act; exact c.ext
theorem LastS.base {S : Addr} {ss : List Stre} (h : LastS K B F H S X ss) : Same B F := by obtain ⟨A, c⟩ := h.act; exact c.base
theorem LastS.dp {S : Addr} {ss : List Stre} (h : LastS K B F H S X ss) : Dp K H (.ref S) (.list (ss.map streD)) := by
  have e := h.ext
  rcases h with ⟨rfl, h3, c⟩ | ⟨ss0, kind, step, ws, fs, sv, u, W, G, gv, rfl, h1, h2, h3, h4, h5, h6, c⟩
  · exact .lst (.inl (.inl h3)) .nil
  · refine .lst (.inl (.inl h1)) ?_
    rw [List.map_append]
    refine da_app (dps_same e h2) (da_one ?_)
    exact .tup (.inl (.inl (e _ _ h3))) (.cons (.str _) (.cons (.int _) (.cons (dp_intL (.inl (.inl h4))) (.cons (.lst (.inl (.inl h5)) (dps_same e h6)) .nil))))
theorem LastS.same {S : Addr} {ss : List Stre} (h : LastS K B F H S X ss) (e : Same H H') : LastS K B F H' S X ss := by
  rcases h with ⟨rfl, h3, c⟩ | ⟨ss0, kind, step, ws, fs, sv, u, W, G, gv, rfl, h1, h2, h3, h4, h5, h6, c⟩
  · exact .inl ⟨rfl, e _ _ h3, c.sm e⟩
  · exact .inr ⟨ss0, kind, step, ws, fs, sv, u, W, G, gv, rfl, e _ _ h1, h2, h3, e _ _ h4, e _ _ h5, h6, c.sm e⟩
theorem BP.act {ps : List Piece} (h : BP K B F H P X ps) : ∃ A, Act B F H (A ++ P :: X) := by
  rcases h with ⟨_, _, c⟩ | ⟨ps0, nm, ss, ns, xs, t, S, N, nv, _, _, _, _, _, _, l⟩
  · exact ⟨[], c⟩
  · obtain ⟨A, c⟩ := l.act
    exact ⟨A ++ [S, N], by rw [List.append_assoc]; exact c⟩
theorem BP.ext {ps : List Piece} (h : BP K B F H P X ps) : Same F H := by obtain ⟨A, c⟩ := h.act; exact c.ext
theorem BP.base {ps : List Piece} (h : BP K B F H P X ps) : Same B F := by obtain ⟨A, c⟩ := h.act; exact c.base
theorem BP.dp {ps : List Piece} (h : BP K B F H P X ps) : Dp K H (.ref P) (.list (ps.map pieceD)) := by
  have e := h.ext
  rcases h with ⟨rfl, h3, c⟩ | ⟨ps0, nm, ss, ns, xs, t, S, N, nv, rfl, h1, h2, h3, h4, h5, l⟩
  · exact .lst (.inl (.inl h3)) .nil
  · refine .lst (.inl (.inl h1)) ?_
    rw [List.map_append]
    refine da_app (dps_same e h2) (da_one ?_)
    exact .tup (.inl (.inl (e _ _ h3))) (.cons (.str _) (.cons l.dp (.cons (.lst (.inl (.inl h4)) (dps_same e h5)) .nil)))
theorem BP.same {ps : List Piece} (h : BP K B F H P X ps) (e : Same H H') : BP K B F H' P X ps := by
  rcases h with ⟨rfl, h3, c⟩ | ⟨ps0, nm, ss, ns, xs, t, S, N, nv, rfl, h1, h2, h3, h4, h5, l⟩
  · exact .inl ⟨rfl, e _ _ h3, c.sm e⟩
  · exact .inr ⟨ps0, nm, ss, ns, xs, t, S, N, nv, rfl, e _ _ h1, h2, h3, e _ _ h4, h5, l.same e⟩
/-- the cells of the last stretch are written no more -/
theorem LastS.close {S : Addr} {ss : List Stre} (h : LastS K B F H S X ss) : ∃ F' sv, Same F F' ∧ Act B F' H (S :: X) ∧ H S = some (.lst sv) ∧ DpAll K F' sv (ss.map streD) := by
  rcases h with ⟨rfl, h3, c⟩ | ⟨ss0, kind, step, ws, fs, sv, u, W, G, gv, rfl, h1, h2, h3, h4, h5, h6, c⟩
  · exact ⟨F, [], Same.refl _, c, h3, .nil⟩
  · have c1 := c.fz h4
    have f1 := c.fz_same (o := .lst (ws.map V.int))
    have c2 := c1.fz h5
    have f2 := c1.fz_same (o := .lst gv)
    refine ⟨_, sv ++ [.ref u], f1.trans f2, c2, h1, ?_⟩
    rw [List.map_append]
    refine da_app (dps_same (f1.trans f2) h2) (da_one ?_)
    exact .tup (.inl (.inl (f2 _ _ (f1 _ _ h3)))) (.cons (.str _) (.cons (.int _) (.cons (dp_intL (.inl (.inl (f2 _ _ upd_same)))) (.cons (.lst (.inl (.inl upd_same)) (dps_same (f1.trans f2) h6)) .nil))))
/-- the cells of the last piece are written no more -/
theorem BP.close {ps : List Piece} (h : BP K B F H P X ps) : ∃ F' xs, Same F F' ∧ Act B F' H (P :: X) ∧ H P = some (.lst xs) ∧ DpAll K F' xs (ps.map pieceD) := by
  rcases h with ⟨rfl, h3, c⟩ | ⟨ps0, nm, ss, ns, xs, t, S, N, nv, rfl, h1, h2, h3, h4, h5, l⟩
  · exact ⟨F, [], Same.refl _, c, h3, .nil⟩
  · obtain ⟨F1, sv, f1, c1, hS, hsv⟩ := l.close
    have c2 := c1.fz hS
    have f2 := c1.fz_same (o := .lst sv)
    have c3 := c2.fz h4
    have f3 := c2.fz_same (o := .lst nv)
    have f13 := (f1.trans f2).trans f3
    refine ⟨_, xs ++ [.ref t], f13, c3, h1, ?_⟩
    rw [List.map_append]
    refine da_app (dps_same f13 h2) (da_one ?_)
    exact .tup (.inl (.inl (f13 _ _ h3))) (.cons (.str _) (.cons (.lst (.inl (.inl (f3 _ _ upd_same))) (dps_same (f2.trans f3) hsv)) (.cons (.lst (.inl (.inl upd_same)) (dps_same f13 h5)) .nil)))
/-- a piece is put behind -/
theorem BP.piece {ps : List Piece} (h : BP K B F H P X ps) {S N t : Addr} {nm : Str} (hS : H S = none) (hN : upd H S (.lst []) N = none) (ht : upd (upd H S (.lst [])) N (.lst []) t = none) :
    ∃ xs, H P = some (.lst xs) ∧ xs.length = ps.length ∧ (upd (upd (upd H S (.lst [])) N (.lst [])) t (.tup [.str nm, .ref S, .ref N])) P = some (.lst xs) ∧
    ∃ F', Same F F' ∧ BP K B F' (upd (upd (upd (upd H S (.lst [])) N (.lst [])) t (.tup [.str nm, .ref S, .ref N])) P (.lst (xs ++ [.ref t]))) P X (ps ++ [⟨nm, [], []⟩]) := by
  obtain ⟨F1, xs, f1, c1, hP, hxs⟩ := h.close
  have c2 := c1.newA (o := .lst []) hS
  have c3 := c2.newA (o := .lst []) hN
  have c4 := c3.new (o := .tup [.str nm, .ref S, .ref N]) ht
  have f4 := same_upd (o := .tup [.str nm, .ref S, .ref N]) (c3.ext.free ht)
  have s := (same_upd (o := .lst []) hS).trans ((same_upd (o := .lst []) hN).trans (same_upd (o := .tup [.str nm, .ref S, .ref N]) ht))
  have c5 := c4.upd (a := P) (o := .lst (xs ++ [.ref t])) (by simp)
  have nd := c4.nd
  have hP4 := s _ _ hP
  have hN4 : (upd (upd (upd H S (.lst [])) N (.lst [])) t (.tup [.str nm, .ref S, .ref N])) N = some (.lst []) := same_upd ht _ _ upd_same
  have hS4 : (upd (upd (upd H S (.lst [])) N (.lst [])) t (.tup [.str nm, .ref S, .ref N])) S = some (.lst []) := same_upd ht _ _ (same_upd hN _ _ upd_same)
  refine ⟨xs, hP, da_length hxs, hP4, _, f1.trans f4, .inr ⟨ps, nm, [], [], xs, t, S, N, [], rfl, upd_same, dps_same f4 hxs, upd_same, ?_, .nil, .inl ⟨rfl, ?_, c5.perm (List.Perm.swap ..)⟩⟩⟩
  · rw [upd_ne (nd_ne nd 0 2 (by decide) rfl rfl)]; exact hN4
  · rw [upd_ne (nd_ne nd 1 2 (by decide) rfl rfl)]; exact hS4
theorem LastS.list {S : Addr} {ss : List Stre} (h : LastS K B F H S X ss) : ∃ sv, H S = some (.lst sv) ∧ DpAll K H sv (ss.map streD) := by
  have e := h.ext
  rcases h with ⟨rfl, h3, c⟩ | ⟨ss0, kind, step, ws, fs, sv, u, W, G, gv, rfl, h1, h2, h3, h4, h5, h6, c⟩
  · exact ⟨[], h3, .nil⟩
  · refine ⟨_, h1, ?_⟩
    rw [List.map_append]
    refine da_app (dps_same e h2) (da_one ?_)
    exact .tup (.inl (.inl (e _ _ h3))) (.cons (.str _) (.cons (.int _) (.cons (dp_intL (.inl (.inl h4))) (.cons (.lst (.inl (.inl h5)) (dps_same e h6)) .nil))))
theorem BP.open_ {ps0 : List Piece} {nm : Str} {ss : List Stre} {ns : List Nam} (h : BP K B F H P X (ps0 ++ [⟨nm, ss, ns⟩])) : ∃ xs t S N nv, H P = some (.lst (xs ++ [.ref t])) ∧ DpAll K F xs (ps0.map pieceD) ∧ F t = some (.tup [.str nm, .ref S, .ref N]) ∧ H N = some (.lst nv) ∧ DpAll K F nv (ns.map namD) ∧ LastS K B F H S (N :: P :: X) ss := by
  rcases h with ⟨z, _⟩ | ⟨ps1, nm1, ss1, ns1, xs, t, S, N, nv, z, h1, h2, h3, h4, h5, l⟩
  · cases ps0 <;> cases z
  · obtain ⟨rfl, z2⟩ := List.append_inj' z rfl
    cases z2
    exact ⟨xs, t, S, N, nv, h1, h2, h3, h4, h5, l⟩
theorem LastS.open_ {S : Addr} {ss0 : List Stre} {kind : Str} {step : Int} {ws : List Int} {fs : List Fill} (h : LastS K B F H S X (ss0 ++ [⟨kind, step, ws, fs⟩])) : ∃ sv u W G gv, H S = some (.lst (sv ++ [.ref u])) ∧ DpAll K F sv (ss0.map streD) ∧ F u = some (.tup [.str kind, .int step, .ref W, .ref G]) ∧ H W = some (.lst (ws.map V.int)) ∧ H G = some (.lst gv) ∧ DpAll K F gv (fs.map fillD) ∧ Act B F H (W :: G :: S :: X) := by
  rcases h with ⟨z, _⟩ | ⟨ss1, kind1, step1, ws1, fs1, sv, u, W, G, gv, z, h1, h2, h3, h4, h5, h6, c⟩
  · cases ss0 <;> cases z
  · obtain ⟨rfl, z2⟩ := List.append_inj' z rfl
    cases z2
    exact ⟨sv, u, W, G, gv, h1, h2, h3, h4, h5, h6, c⟩
/-- a stretch is put behind -/
theorem BP.stre {ps0 : List Piece} {nm : Str} {ss : List Stre} {ns : List Nam} (h : BP K B F H P X (ps0 ++ [⟨nm, ss, ns⟩])) {W G u : Addr} {kind : Str} {step : Int} (hW : H W = none) (hG : upd H W (.lst []) G = none) (hu : upd (upd H W (.lst [])) G (.lst []) u = none) :
    ∃ xs t S N sv, H P = some (.lst (xs ++ [.ref t])) ∧ H t = some (.tup [.str nm, .ref S, .ref N]) ∧ H S = some (.lst sv) ∧ sv.length = ss.length ∧ (upd (upd (upd H W (.lst [])) G (.lst [])) u (.tup [.str kind, .int step, .ref W, .ref G])) S = some (.lst sv) ∧
    ∃ F', Same F F' ∧ BP K B F' (upd (upd (upd (upd H W (.lst [])) G (.lst [])) u (.tup [.str kind, .int step, .ref W, .ref G])) S (.lst (sv ++ [.ref u]))) P X (ps0 ++ [⟨nm, ss ++ [⟨kind, step, [], []⟩], ns⟩]) := by
  obtain ⟨xs, t, S, N, nv, h1, h2, h3, h4, h5, l⟩ := h.open_
  have ht := h.ext _ _ h3
  obtain ⟨F1, sv, f1, c1, hS, hsv⟩ := l.close
  have c2 := c1.newA (o := .lst []) hW
  have c3 := c2.newA (o := .lst []) hG
  have c4 := c3.new (o := .tup [.str kind, .int step, .ref W, .ref G]) hu
  have f4 := same_upd (o := .tup [.str kind, .int step, .ref W, .ref G]) (c3.ext.free hu)
  have s := (same_upd (o := .lst []) hW).trans ((same_upd (o := .lst []) hG).trans (same_upd (o := .tup [.str kind, .int step, .ref W, .ref G]) hu))
  have c5 := c4.upd (a := S) (o := .lst (sv ++ [.ref u])) (by simp)
  have nd := c4.nd
  have f14 := f1.trans f4
  refine ⟨xs, t, S, N, sv, h1, ht, hS, da_length hsv, s _ _ hS, _, f14, .inr ⟨ps0, nm, _, ns, xs, t, S, N, nv, rfl, ?_, dps_same f14 h2, f14 _ _ h3, ?_, dps_same f14 h5, .inr ⟨ss, kind, step, [], [], sv, u, W, G, [], rfl, upd_same, dps_same f4 hsv, upd_same, ?_, ?_, .nil, c5.perm (List.Perm.swap ..)⟩⟩⟩
  · rw [upd_ne (nd_ne nd 2 4 (by decide) rfl rfl).symm]; exact s _ _ h1
  · rw [upd_ne (nd_ne nd 2 3 (by decide) rfl rfl).symm]; exact s _ _ h4
  · rw [upd_ne (nd_ne nd 1 2 (by decide) rfl rfl)]
    exact same_upd hu _ _ (same_upd hG _ _ upd_same)
  · rw [upd_ne (nd_ne nd 0 2 (by decide) rfl rfl)]
    exact same_upd hu _ _ upd_same
/-- a word is put behind -/
theorem BP.word {ps0 : List Piece} {nm : Str} {ss0 : List Stre} {kind : Str} {step : Int} {ws : List Int} {fs : List Fill} {ns : List Nam} (h : BP K B F H P X (ps0 ++ [⟨nm, ss0 ++ [⟨kind, step, ws, fs⟩], ns⟩])) :
    ∃ xs t S N sv u W G, H P = some (.lst (xs ++ [.ref t])) ∧ H t = some (.tup [.str nm, .ref S, .ref N]) ∧ H S = some (.lst (sv ++ [.ref u])) ∧ H u = some (.tup [.str kind, .int step, .ref W, .ref G]) ∧ H W = some (.lst (ws.map V.int)) ∧
    ∀ w : Int, BP K B F (upd H W (.lst (ws.map V.int ++ [.int w]))) P X (ps0 ++ [⟨nm, ss0 ++ [⟨kind, step, ws ++ [w], fs⟩], ns⟩]) := by
  obtain ⟨xs, t, S, N, nv, h1, h2, h3, h4, h5, l⟩ := h.open_
  obtain ⟨sv, u, W, G, gv, g1, g2, g3, g4, g5, g6, c⟩ := l.open_
  have nd := c.nd
  refine ⟨xs, t, S, N, sv, u, W, G, h1, c.ext _ _ h3, g1, c.ext _ _ g3, g4, fun w => .inr ⟨ps0, nm, _, ns, xs, t, S, N, nv, rfl, ?_, h2, h3, ?_, h5, .inr ⟨ss0, kind, step, ws ++ [w], fs, sv, u, W, G, gv, rfl, ?_, g2, g3, ?_, ?_, g6, c.upd (by simp)⟩⟩⟩
  · rw [upd_ne (nd_ne nd 0 4 (by decide) rfl rfl).symm]; exact h1
  · rw [upd_ne (nd_ne nd 0 3 (by decide) rfl rfl).symm]; exact h4
  · rw [upd_ne (nd_ne nd 0 2 (by decide) rfl rfl).symm]; exact g1
  · rw [upd_same, List.map_append]; rfl
  · rw [upd_ne (nd_ne nd 0 1 (by decide) rfl rfl).symm]; exact g5
/-- a fill is put behind -/
theorem BP.fill {ps0 : List Piece} {nm : Str} {ss0 : List Stre} {kind : Str} {step : Int} {ws : List Int} {fs : List Fill} {ns : List Nam} (h : BP K B F H P X (ps0 ++ [⟨nm, ss0 ++ [⟨kind, step, ws, fs⟩], ns⟩])) {f : Fill} {a : Addr} (ha : F a = some (.tup [.int f.at_, .str f.rule, .str f.name, .int f.add, .bl f.soft])) :
    ∃ xs t S N sv u W G gv, H P = some (.lst (xs ++ [.ref t])) ∧ H t = some (.tup [.str nm, .ref S, .ref N]) ∧ H S = some (.lst (sv ++ [.ref u])) ∧ H u = some (.tup [.str kind, .int step, .ref W, .ref G]) ∧ H W = some (.lst (ws.map V.int)) ∧ H G = some (.lst gv) ∧ gv.length = fs.length ∧
    BP K B F (upd H G (.lst (gv ++ [.ref a]))) P X (ps0 ++ [⟨nm, ss0 ++ [⟨kind, step, ws, fs ++ [f]⟩], ns⟩]) := by
  obtain ⟨xs, t, S, N, nv, h1, h2, h3, h4, h5, l⟩ := h.open_
  obtain ⟨sv, u, W, G, gv, g1, g2, g3, g4, g5, g6, c⟩ := l.open_
  have nd := c.nd
  refine ⟨xs, t, S, N, sv, u, W, G, gv, h1, c.ext _ _ h3, g1, c.ext _ _ g3, g4, g5, da_length g6, .inr ⟨ps0, nm, _, ns, xs, t, S, N, nv, rfl, ?_, h2, h3, ?_, h5, .inr ⟨ss0, kind, step, ws, fs ++ [f], sv, u, W, G, gv ++ [.ref a], rfl, ?_, g2, g3, ?_, upd_same, ?_, c.upd (by simp)⟩⟩⟩
  · rw [upd_ne (nd_ne nd 1 4 (by decide) rfl rfl).symm]; exact h1
  · rw [upd_ne (nd_ne nd 1 3 (by decide) rfl rfl).symm]; exact h4
  · rw [upd_ne (nd_ne nd 1 2 (by decide) rfl rfl).symm]; exact g1
  · rw [upd_ne (nd_ne nd 0 1 (by decide) rfl rfl)]; exact g4
  · rw [List.map_append]
    exact da_app g6 (da_one (.tup (.inl (.inl ha)) (.cons (.int _) (.cons (.str _) (.cons (.str _) (.cons (.int _) (.cons (.bl _) .nil)))))))
/-- a name is put behind -/
theorem BP.nam {ps0 : List Piece} {nm : Str} {ss : List Stre} {ns : List Nam} (h : BP K B F H P X (ps0 ++ [⟨nm, ss, ns⟩])) {n : Nam} {a : Addr} (ha : F a = some (.tup [.str n.name, .str n.sort, .int n.stre, .int n.off])) :
    ∃ xs t S N nv, H P = some (.lst (xs ++ [.ref t])) ∧ H t = some (.tup [.str nm, .ref S, .ref N]) ∧ H N = some (.lst nv) ∧ nv.length = ns.length ∧ BP K B F (upd H N (.lst (nv ++ [.ref a]))) P X (ps0 ++ [⟨nm, ss, ns ++ [n]⟩]) := by
  obtain ⟨xs, t, S, N, nv, h1, h2, h3, h4, h5, l⟩ := h.open_
  have hda : DpAll K F (nv ++ [.ref a]) ((ns ++ [n]).map namD) := by
    rw [List.map_append]
    exact da_app h5 (da_one (.tup (.inl (.inl ha)) (.cons (.str _) (.cons (.str _) (.cons (.int _) (.cons (.int _) .nil))))))
  have ht := h.ext _ _ h3
  rcases l with ⟨rfl, l1, c⟩ | ⟨ss0, kind, step, ws, fs, sv, u, W, G, gv, rfl, g1, g2, g3, g4, g5, g6, c⟩
  · have nd := c.nd
    refine ⟨xs, t, S, N, nv, h1, ht, h4, da_length h5, .inr ⟨ps0, nm, [], _, xs, t, S, N, _, rfl, ?_, h2, h3, upd_same, hda, .inl ⟨rfl, ?_, c.upd (by simp)⟩⟩⟩
    · rw [upd_ne (nd_ne nd 1 2 (by decide) rfl rfl).symm]; exact h1
    · rw [upd_ne (nd_ne nd 0 1 (by decide) rfl rfl)]; exact l1
  · have nd := c.nd
    refine ⟨xs, t, S, N, nv, h1, ht, h4, da_length h5, .inr ⟨ps0, nm, _, _, xs, t, S, N, _, rfl, ?_, h2, h3, upd_same, hda, .inr ⟨ss0, kind, step, ws, fs, sv, u, W, G, gv, rfl, ?_, g2, g3, ?_, ?_, g6, c.upd (by simp)⟩⟩⟩
    · rw [upd_ne (nd_ne nd 3 4 (by decide) rfl rfl).symm]; exact h1
    · rw [upd_ne (nd_ne nd 2 3 (by decide) rfl rfl)]; exact g1
    · rw [upd_ne (nd_ne nd 0 3 (by decide) rfl rfl)]; exact g4
    · rw [upd_ne (nd_ne nd 1 3 (by decide) rfl rfl)]; exact g5
/-- an object beside is new -/
theorem BP.new {ps : List Piece} (h : BP K B F H P X ps) {p : Addr} {o : HO} (hp : H p = none) : BP K B (upd F p o) (upd H p o) P X ps ∧ Same F (upd F p o) := by
  have hF := same_upd (o := o) (h.ext.free hp)
  have s := same_upd (o := o) hp
  refine ⟨?_, hF⟩
  rcases h with ⟨rfl, h3, c⟩ | ⟨ps0, nm, ss, ns, xs, t, S, N, nv, rfl, h1, h2, h3, h4, h5, l⟩
  · exact .inl ⟨rfl, s _ _ h3, c.new hp⟩
  · refine .inr ⟨ps0, nm, ss, ns, xs, t, S, N, nv, rfl, s _ _ h1, dps_same hF h2, hF _ _ h3, s _ _ h4, dps_same hF h5, ?_⟩
    rcases l with ⟨rfl, l1, c⟩ | ⟨ss0, kind, step, ws, fs, sv, u, W, G, gv, rfl, g1, g2, g3, g4, g5, g6, c⟩
    · exact .inl ⟨rfl, s _ _ l1, c.new hp⟩
    · exact .inr ⟨ss0, kind, step, ws, fs, sv, u, W, G, gv, rfl, s _ _ g1, dps_same hF g2, hF _ _ g3, s _ _ g4, s _ _ g5, dps_same hF g6, c.new hp⟩
end
theorem units65 {k : Nat} {A : Around} (r : Room k A) : A.units + 65 < cLine := by have := r.un; omega
/-! names by numbers -/
def sgns : Str := "abcdefghijklmnopqrstuvwxyz0123456789_"
theorem sgns_len : sgns.cps.toList.length = 37 := by decide +kernel
theorem sgns_ok : ∀ c ∈ sgns.cps.toList, c < 128 := by decide +kernel
def nmSize (c k : Int) : Int := if c / 256 % 3 = 0 then 1 + k % 16 else 1 + c % 16
def nmAt (c : Int) : Int := if c / 256 % 3 = 0 then 16 else c / 16 % (1 + c % 16)
def nmIx (c k at_ : Int) (j : Nat) : Int := (c / ((j : Int) + 3) + (j : Int) * (j : Int) + k * (if (j : Int) = at_ then 1 else 0)) % (37 - 11 * (if (j : Int) = 0 then 1 else 0))
def nmL (c k : Int) : List Nat := (List.range (nmSize c k).toNat).map fun j => sgns.cps.toList.getD (nmIx c k (nmAt c) j).toNat 0
def nmT (c k : Int) : Str := ⟨(nmL c k).toArray⟩
theorem nmIx_ok (c k a : Int) (j : Nat) : 0 ≤ nmIx c k a j ∧ nmIx c k a j < 37 := by
  unfold nmIx
  by_cases h : (j : Int) = 0
  · rw [if_pos h]
    have h1 := Int.emod_nonneg (c / ((j : Int) + 3) + (j : Int) * (j : Int) + k * (if (j : Int) = a then 1 else 0)) (show (37 - 11 * 1 : Int) ≠ 0 by decide)
    have h2 := Int.emod_lt_of_pos (c / ((j : Int) + 3) + (j : Int) * (j : Int) + k * (if (j : Int) = a then 1 else 0)) (show (0 : Int) < 37 - 11 * 1 by decide)
    omega
  · rw [if_neg h]
    have h1 := Int.emod_nonneg (c / ((j : Int) + 3) + (j : Int) * (j : Int) + k * (if (j : Int) = a then 1 else 0)) (show (37 - 11 * 0 : Int) ≠ 0 by decide)
    have h2 := Int.emod_lt_of_pos (c / ((j : Int) + 3) + (j : Int) * (j : Int) + k * (if (j : Int) = a then 1 else 0)) (show (0 : Int) < 37 - 11 * 0 by decide)
    omega
theorem nmSize_ok (c k : Int) : 1 ≤ nmSize c k ∧ nmSize c k ≤ 16 := by unfold nmSize; split <;> omega
theorem nmL_len (c k : Int) : (nmL c k).length = (nmSize c k).toNat := by unfold nmL; rw [List.length_map, List.length_range]
theorem nmT_len (c k : Int) : (nmT c k).length ≤ 16 := by
  have h1 : (nmT c k).length = (nmL c k).length := by rw [← len_list]; rfl
  have := nmSize_ok c k
  rw [h1, nmL_len]; omega
theorem nm_sign (c k a : Int) (j : Nat) : sgns.cps.toList.getD (nmIx c k a j).toNat 0 < 128 := by
  have h := nmIx_ok c k a j
  have hi : (nmIx c k a j).toNat < sgns.cps.toList.length := by rw [sgns_len]; omega
  rw [List.getD_eq_getElem?_getD, List.getElem?_eq_getElem hi]
  exact sgns_ok _ (List.getElem_mem hi)
theorem nmT_ok (c k : Int) : okS (nmT c k) := by
  show (nmT c k).cps.all (· < 0x110000) = true
  rw [← Array.all_toList, List.all_eq_true]
  intro x hx
  have hx : x ∈ nmL c k := hx
  obtain ⟨j, _, rfl⟩ := List.mem_map.mp hx
  have := nm_sign c k (nmAt c) j
  exact decide_eq_true (by omega)
/-- p and q as a value, both plain -/
theorem s_andJ {σ : L2.St} {H : Hp} {Q : VK} {tb : TE} {p q : Prop} [Decidable p] [Decidable q] (hb : p → ∀ R : VK, R (.bl (decide q)) H → tb σ H R) (z : Q (.bl (decide (p ∧ q))) H) : if decide p = true then tb σ H Q else Q (.bl false) H := by
  refine s_iteD (fun hp => hb hp _ ?_) (fun hp => ?_)
  · by_cases hq : q
    · rw [decide_eq_true hq]; rw [decide_eq_true ⟨hp, hq⟩] at z; exact z
    · rw [decide_eq_false hq]; rw [decide_eq_false fun h => hq h.2] at z; exact z
  · rw [decide_eq_false fun h => hp h.1] at z; exact z
/-! what a law draws -/
def isRule5 (r : Str) : Prop := r = "whole" ∨ r = "high" ∨ r = "low" ∨ r = "near" ∨ r = "split"
theorem rule5_ok {r : Str} (h : isRule5 r) : okS r := by
  rcases h with rfl | rfl | rfl | rfl | rfl <;> (show PyData.canLay0 _ = true; decide +kernel)
def isSort (z : Str) : Prop := z = "tell" ∨ z = "weak" ∨ z = "own"
theorem sort_ok {r : Str} (h : isSort r) : okS r := by
  rcases h with rfl | rfl | rfl <;> (show PyData.canLay0 _ = true; decide +kernel)
def isKind (z : Str) : Prop := z = "code" ∨ z = "data"
theorem kind_ok {r : Str} (h : isKind r) : okS r := by
  rcases h with rfl | rfl <;> (show PyData.canLay0 _ = true; decide +kernel)
/-- one of the twelve names -/
def nmOf (nb : Int) (z : Str) : Prop := ∃ j : Int, 0 ≤ j ∧ j < 12 ∧ z = nmT nb j
structure GF (nb : Int) (n : Nat) (f : Fill) : Prop where
  at0 : 0 ≤ f.at_
  at1 : f.at_ < n
  rule : isRule5 f.rule
  soft : f.soft = true → f.rule = "whole" ∨ f.rule = "high" ∨ f.rule = "low"
  name : nmOf nb f.name
  add : -2147483648 ≤ f.add ∧ f.add ≤ 2147483647
structure GS (nb : Int) (s : Stre) : Prop where
  kind : isKind s.kind
  step : 0 < s.step ∧ s.step ≤ 65536
  words : ∀ w ∈ s.words, 0 ≤ w ∧ w < 4294967296
  fills : ∀ f ∈ s.fills, GF nb s.words.length f
  rise : (s.fills.map (·.at_)).Pairwise (· < ·)
  few : s.fills.length ≤ s.words.length
structure GN (nb : Int) (ss : List Stre) (m : Nam) : Prop where
  sort : isSort m.sort
  name : nmOf nb m.name
  stre : 0 ≤ m.stre
  at_ : ∃ s, ss[m.stre.toNat]? = some s ∧ 0 ≤ m.off ∧ m.off ≤ s.words.length
def wtS (s : Stre) : Nat := 1 + s.words.length
def wt (p : Piece) : Nat := 1 + p.names.length + (p.stres.map wtS).sum
structure GP (nb tb : Int) (k : Nat) (p : Piece) : Prop where
  name : p.name = nmT tb (k : Int)
  stres : ∀ s ∈ p.stres, GS nb s
  names : ∀ m ∈ p.names, GN nb p.stres m
  once : (p.names.map (·.name)).Nodup
theorem nmOf_ok {nb : Int} {z : Str} (h : nmOf nb z) : okS z := by
  obtain ⟨j, _, _, rfl⟩ := h
  exact nmT_ok _ _
theorem GS.ok {nb : Int} {s : Stre} (h : GS nb s) : s.ok := ⟨kind_ok h.kind, fun f hf => ⟨rule5_ok (h.fills f hf).rule, nmOf_ok (h.fills f hf).name⟩⟩
theorem GP.ok {nb tb : Int} {k : Nat} {p : Piece} (h : GP nb tb k p) : p.ok := ⟨by rw [h.name]; exact nmT_ok _ _, fun s hs => (h.stres s hs).ok, fun m hm => ⟨nmOf_ok (h.names m hm).name, sort_ok (h.names m hm).sort⟩⟩
theorem GS.new {nb : Int} {kind : Str} {step : Int} (h1 : isKind kind) (h2 : 0 < step ∧ step ≤ 65536) : GS nb ⟨kind, step, [], []⟩ := ⟨h1, h2, fun _ h => (nomatch h), fun _ h => (nomatch h), List.Pairwise.nil, Nat.le_refl _⟩
theorem GS.word {nb : Int} {kind : Str} {step w : Int} {ws : List Int} {fs : List Fill} (h : GS nb ⟨kind, step, ws, fs⟩) (hw : 0 ≤ w ∧ w < 4294967296) : GS nb ⟨kind, step, ws ++ [w], fs⟩ := by
  refine ⟨h.kind, h.step, fun x hx => ?_, fun f hf => ?_, h.rise, ?_⟩
  · rcases List.mem_append.mp hx with hx | hx
    · exact h.words x hx
    · cases List.mem_singleton.mp hx; exact hw
  · have := h.fills f hf
    exact ⟨this.at0, by have h1 := this.at1; show f.at_ < ((ws ++ [w]).length : Int); rw [List.length_append, List.length_singleton]; have h1 : f.at_ < (ws.length : Int) := h1; omega, this.rule, this.soft, this.name, this.add⟩
  · have := h.few
    show fs.length ≤ (ws ++ [w]).length
    rw [List.length_append, List.length_singleton]
    have : fs.length ≤ ws.length := this
    omega
theorem GS.fill {nb : Int} {kind : Str} {step w : Int} {ws : List Int} {fs : List Fill} (h : GS nb ⟨kind, step, ws, fs⟩) (hw : 0 ≤ w ∧ w < 4294967296) {f : Fill} (ha : f.at_ = ws.length) (hr : isRule5 f.rule) (hs : f.soft = true → f.rule = "whole" ∨ f.rule = "high" ∨ f.rule = "low") (hn : nmOf nb f.name) (hd : -2147483648 ≤ f.add ∧ f.add ≤ 2147483647) : GS nb ⟨kind, step, ws ++ [w], fs ++ [f]⟩ := by
  have h1 := h.word hw
  refine ⟨h.kind, h.step, h1.words, fun x hx => ?_, ?_, ?_⟩
  · rcases List.mem_append.mp hx with hx | hx
    · exact h1.fills x hx
    · cases List.mem_singleton.mp hx
      exact ⟨by omega, by show f.at_ < ((ws ++ [w]).length : Int); rw [List.length_append, List.length_singleton]; omega, hr, hs, hn, hd⟩
  · show ((fs ++ [f]).map (·.at_)).Pairwise (· < ·)
    rw [List.map_append, List.pairwise_append]
    refine ⟨h.rise, List.pairwise_singleton _ _, fun x hx y hy => ?_⟩
    obtain ⟨g, hg, rfl⟩ := List.mem_map.mp hx
    cases List.mem_singleton.mp hy
    have : g.at_ < (ws.length : Int) := (h.fills g hg).at1
    show g.at_ < f.at_
    omega
  · have : fs.length ≤ ws.length := h.few
    show (fs ++ [f]).length ≤ (ws ++ [w]).length
    rw [List.length_append, List.length_append, List.length_singleton, List.length_singleton]; omega
theorem GN.more {nb : Int} {ss0 : List Stre} {s s' : Stre} {m : Nam} (h : GN nb (ss0 ++ [s]) m) (hl : s.words.length ≤ s'.words.length) : GN nb (ss0 ++ [s']) m := by
  refine ⟨h.sort, h.name, h.stre, ?_⟩
  obtain ⟨q, hq, h1, h2⟩ := h.at_
  rcases Nat.lt_or_ge m.stre.toNat ss0.length with hi | hi
  · rw [List.getElem?_append_left hi] at hq
    exact ⟨q, by rw [List.getElem?_append_left hi]; exact hq, h1, h2⟩
  · rw [List.getElem?_append_right hi] at hq
    have h0 : m.stre.toNat - ss0.length = 0 := by
      rcases Nat.eq_zero_or_pos (m.stre.toNat - ss0.length) with h | h
      · exact h
      · rw [List.getElem?_eq_none (by rw [List.length_singleton]; omega)] at hq; cases hq
    rw [h0] at hq
    cases hq
    exact ⟨s', by rw [List.getElem?_append_right hi, h0]; rfl, h1, by omega⟩
theorem GN.grow {nb : Int} {ss : List Stre} {s : Stre} {m : Nam} (h : GN nb ss m) : GN nb (ss ++ [s]) m := by
  obtain ⟨q, hq, h1, h2⟩ := h.at_
  exact ⟨h.sort, h.name, h.stre, q, by rw [List.getElem?_append_left (List.getElem?_eq_some_iff.mp hq).1]; exact hq, h1, h2⟩
theorem GP.new {nb tb : Int} {k : Nat} : GP nb tb k ⟨nmT tb k, [], []⟩ := ⟨rfl, fun _ h => (nomatch h), fun _ h => (nomatch h), List.nodup_nil⟩
theorem GP.stre {nb tb : Int} {k : Nat} {nm : Str} {ss : List Stre} {ns : List Nam} {s : Stre} (h : GP nb tb k ⟨nm, ss, ns⟩) (hs : GS nb s) : GP nb tb k ⟨nm, ss ++ [s], ns⟩ := by
  refine ⟨h.name, fun x hx => ?_, fun m hm => (h.names m hm).grow, h.once⟩
  rcases List.mem_append.mp hx with hx | hx
  · exact h.stres x hx
  · cases List.mem_singleton.mp hx; exact hs
theorem GP.last {nb tb : Int} {k : Nat} {nm : Str} {ss0 : List Stre} {ns : List Nam} {s s' : Stre} (h : GP nb tb k ⟨nm, ss0 ++ [s], ns⟩) (hs : GS nb s') (hl : s.words.length ≤ s'.words.length) : GP nb tb k ⟨nm, ss0 ++ [s'], ns⟩ := by
  refine ⟨h.name, fun x hx => ?_, fun m hm => (h.names m hm).more hl, h.once⟩
  rcases List.mem_append.mp hx with hx | hx
  · exact h.stres x (List.mem_append_left _ hx)
  · cases List.mem_singleton.mp hx; exact hs
theorem GP.nam {nb tb : Int} {k : Nat} {nm : Str} {ss0 : List Stre} {ns : List Nam} {s : Stre} (h : GP nb tb k ⟨nm, ss0 ++ [s], ns⟩) {name sort : Str} (h1 : nmOf nb name) (h2 : isSort sort) (h3 : name ∉ ns.map (·.name)) : GP nb tb k ⟨nm, ss0 ++ [s], ns ++ [⟨name, sort, (ss0.length : Int), (s.words.length : Int)⟩]⟩ := by
  refine ⟨h.name, h.stres, fun m hm => ?_, ?_⟩
  · rcases List.mem_append.mp hm with hm | hm
    · exact h.names m hm
    · cases List.mem_singleton.mp hm
      refine ⟨h2, h1, by show (0 : Int) ≤ ss0.length; omega, s, ?_, by show (0 : Int) ≤ s.words.length; omega, Int.le_refl _⟩
      show (ss0 ++ [s])[((ss0.length : Nat) : Int).toNat]? = some s
      rw [Int.toNat_natCast, List.getElem?_append_right (Nat.le_refl _), Nat.sub_self]; rfl
  · show (List.map (fun m : Nam => m.name) (ns ++ [_])).Nodup
    rw [List.map_append, List.nodup_append]
    refine ⟨h.once, List.nodup_cons.mpr ⟨List.not_mem_nil, List.nodup_nil⟩, fun a ha b hb e => ?_⟩
    cases List.mem_singleton.mp hb
    have e : a = name := e
    exact h3 (e ▸ ha)
/-- two do not tell one name strongly -/
def NoTwo (p q : Piece) : Prop := ∀ m ∈ p.names, ∀ m' ∈ q.names, m.name = m'.name → ¬ (m.sort = "tell" ∧ m'.sort = "tell")
structure Drawn (nb tb : Int) (strict : Bool) (n : Nat) (ps : List Piece) : Prop where
  each : ∀ (k : Nat) p, ps[k]? = some p → GP nb tb k p
  len : ps.length ≤ 12
  wts : (ps.map wt).sum ≤ n
  two : strict = false → ps.Pairwise NoTwo
theorem Drawn.nil {nb tb : Int} {strict : Bool} : Drawn nb tb strict 0 [] := ⟨fun _ _ h => (nomatch h), by decide, Nat.le_refl _, fun _ => List.Pairwise.nil⟩
theorem Drawn.ok {nb tb : Int} {strict : Bool} {n : Nat} {ps : List Piece} (h : Drawn nb tb strict n ps) : ∀ p ∈ ps, p.ok := fun p hp => by
  obtain ⟨k, hk⟩ := List.getElem?_of_mem hp
  exact (h.each k p hk).ok
theorem Drawn.more {nb tb : Int} {strict : Bool} {n m : Nat} {ps : List Piece} (h : Drawn nb tb strict n ps) (hm : n ≤ m) : Drawn nb tb strict m ps := ⟨h.each, h.len, Nat.le_trans h.wts hm, h.two⟩
theorem Drawn.piece {nb tb : Int} {strict : Bool} {n : Nat} {ps : List Piece} (h : Drawn nb tb strict n ps) (hl : ps.length < 12) : Drawn nb tb strict (n + 1) (ps ++ [⟨nmT tb (ps.length : Int), [], []⟩]) := by
  refine ⟨fun k p hp => ?_, by rw [List.length_append, List.length_singleton]; omega, ?_, fun hs => ?_⟩
  · rcases Nat.lt_or_ge k ps.length with hk | hk
    · rw [List.getElem?_append_left hk] at hp; exact h.each k p hp
    · rw [List.getElem?_append_right hk] at hp
      rcases Nat.eq_zero_or_pos (k - ps.length) with h0 | h0
      · rw [h0] at hp
        cases hp
        have : k = ps.length := by omega
        rw [this]
        exact GP.new
      · rw [List.getElem?_eq_none (by rw [List.length_singleton]; omega)] at hp; cases hp
  · rw [List.map_append, List.sum_append]
    have := h.wts
    show _ + (1 + 0) ≤ _
    omega
  · rw [List.pairwise_append]
    exact ⟨h.two hs, List.pairwise_singleton _ _, fun p _ q hq => by cases List.mem_singleton.mp hq; exact fun m _ m' hm' => (nomatch hm')⟩
/-- the last piece becomes another one -/
theorem Drawn.last {nb tb : Int} {strict : Bool} {n : Nat} {ps0 : List Piece} {p p' : Piece} (h : Drawn nb tb strict n (ps0 ++ [p])) (hg : GP nb tb ps0.length p → GP nb tb ps0.length p') (hw : wt p' ≤ wt p + 1) (h2 : strict = false → (∀ q ∈ ps0, NoTwo q p) → ∀ q ∈ ps0, NoTwo q p') : Drawn nb tb strict (n + 1) (ps0 ++ [p']) := by
  refine ⟨fun k q hq => ?_, by have := h.len; rw [List.length_append] at this ⊢; exact this, ?_, fun hs => ?_⟩
  · rcases Nat.lt_or_ge k ps0.length with hk | hk
    · rw [List.getElem?_append_left hk] at hq
      exact h.each k q (by rw [List.getElem?_append_left hk]; exact hq)
    · rw [List.getElem?_append_right hk] at hq
      rcases Nat.eq_zero_or_pos (k - ps0.length) with h0 | h0
      · rw [h0] at hq
        cases hq
        have e : k = ps0.length := by omega
        rw [e]
        exact hg (h.each ps0.length p (by rw [List.getElem?_append_right (Nat.le_refl _), Nat.sub_self]; rfl))
      · rw [List.getElem?_eq_none (by rw [List.length_singleton]; omega)] at hq; cases hq
  · have := h.wts
    rw [List.map_append, List.sum_append] at this ⊢
    have e1 : ([p].map wt).sum = wt p := by simp
    have e2 : ([p'].map wt).sum = wt p' := by simp
    omega
  · have := List.pairwise_append.mp (h.two hs)
    rw [List.pairwise_append]
    refine ⟨this.1, List.pairwise_singleton _ _, fun q hq x hx => ?_⟩
    cases List.mem_singleton.mp hx
    exact h2 hs (fun q hq => this.2.2 q hq p (List.mem_singleton.mpr rfl)) q hq
section
variable {K : PySem.W.Frag} {H B F : Hp} {P q : Addr} {X : List Addr} {ps : List Piece} {Q : VK} {p : Addr} {ds : List PyData}
theorem s_eqNilP (h1 : Dp K H (.ref p) (.list ds)) (hs : SeqAt.shaped (.list ds) = true) (h2 : H q = some (.lst [])) (z : Q (.bl (decide (ds = []))) H) : rEqD K (.ref p) (.ref q) H Q := by
  refine ⟨_, .list [], h1, .lst (.inl (.inl h2)) .nil, hs, by decide +kernel, ?_⟩
  cases ds with
  | nil => exact z
  | cons d ds => exact z
theorem BP.listP (h : BP K B F H P X ps) : ∃ vs, H P = some (.lst vs) ∧ vs.length = ps.length := by
  obtain ⟨F', xs, _, _, hP, hxs⟩ := h.close
  exact ⟨xs, hP, da_length hxs⟩
theorem last_uniq {xs xs' : List V} {t t' : Addr} (h1 : H P = some (.lst (xs ++ [.ref t]))) (h2 : H P = some (.lst (xs' ++ [.ref t']))) : xs = xs' ∧ t = t' := by
  rw [h1] at h2
  have h2 : xs ++ [V.ref t] = xs' ++ [V.ref t'] := by injection h2 with h2; injection h2
  obtain ⟨e1, e2⟩ := List.append_inj' h2 rfl
  cases e2
  exact ⟨e1, rfl⟩
theorem stres_shaped {ss : List Stre} (h : ∀ s ∈ ss, s.ok) : SeqAt.shaped (.list (ss.map streD)) = true := by
  obtain ⟨a, b⟩ := lay_map (f := streD) (l := ss) (n := 3) fun x hx => streD_ok (h x hx)
  exact shaped_of a (Nat.le_trans b (by decide))
theorem wt_le {ps : List Piece} {p : Piece} (h : p ∈ ps) : wt p ≤ (ps.map wt).sum := by
  induction ps with
  | nil => cases h
  | cons q ps ih =>
    rw [List.map_cons, List.sum_cons]
    rcases List.mem_cons.mp h with rfl | h
    · omega
    · have := ih h; omega
theorem sum_app1 {ss0 : List Stre} {s : Stre} : ((ss0 ++ [s]).map wtS).sum = (ss0.map wtS).sum + wtS s := by
  rw [List.map_append, List.sum_append]; simp
end
end Jl

/-! Sorted texts. -/
namespace Jl
open PySem L2 PySem.Spec PyProof.Rows
theorem putK_new' {κ : Type} [DecidableEq κ] {kvs : List (κ × V)} {k : κ} {v : V} (h : ∀ x ∈ kvs, x.1 ≠ k) : putK kvs k v = kvs ++ [(k, v)] := by
  unfold putK
  rw [if_neg]
  intro z
  obtain ⟨x, hx, e⟩ := List.any_eq_true.mp z
  exact h x hx (of_decide_eq_true e)
/-- not behind -/
def leS (a b : Str) : Prop := ltCps b.cps.toList a.cps.toList = false
theorem leS_iff {a b : Str} : leS a b ↔ ¬ b.cps.toList < a.cps.toList := by
  unfold leS
  rw [ltCps_eq]
  exact decide_eq_false_iff_not
theorem leS_trans {a b c : Str} (h1 : leS a b) (h2 : leS b c) : leS a c := by
  rw [leS_iff] at *
  exact List.le_trans (show a.cps.toList ≤ b.cps.toList from h1) (show b.cps.toList ≤ c.cps.toList from h2)
theorem leS_anti {a b : Str} (h1 : leS a b) (h2 : leS b a) : a = b := by
  rw [leS_iff] at *
  exact str_ext (List.le_antisymm (show a.cps.toList ≤ b.cps.toList from h1) (show b.cps.toList ≤ a.cps.toList from h2))
theorem rising_pw : ∀ (l : List Str) (p : Str), risingS p l = true → (p :: l).Pairwise leS
  | [], p, _ => List.pairwise_singleton _ _
  | x :: r, p, h => by
    have h' : (!ltCps x.cps.toList p.cps.toList && risingS x r) = true := h
    rw [Bool.and_eq_true, Bool.not_eq_true'] at h'
    have ih := rising_pw r x h'.2
    refine List.pairwise_cons.mpr ⟨fun y hy => ?_, ih⟩
    rcases List.mem_cons.mp hy with rfl | hy
    · exact h'.1
    · exact leS_trans h'.1 ((List.pairwise_cons.mp ih).1 y hy)
theorem sorted_pw : ∀ (l : List Str), sortedS l = true → l.Pairwise leS
  | [], _ => List.Pairwise.nil
  | x :: r, h => rising_pw r x h
theorem sorted_uniq {l m : List Str} (hl : sortedS l = true) (hm : sortedS m = true) (p : l.Perm m) : l = m :=
  List.Perm.eq_of_pairwise (le := leS) (fun _ _ _ _ h1 h2 => leS_anti h1 h2) (sorted_pw l hl) (sorted_pw m hm) p
def rSrtS (K : PySem.W.Frag) : List V → Hp → VK → Prop := rSortedS K
theorem cl_sortedS {X : Cx} : CallR X (.builtin "sorted") (rSrtS X.K) := cr_sortedS
theorem s_sortedS {K : PySem.W.Frag} {H : Hp} {Q : VK} {a : Addr} {xs : List Str} (h : SqL K H a (xs.map V.str)) (hl : xs.length < 64) (z : ∀ ys p, ys.Perm xs → sortedS ys = true → H p = none → Q (.ref p) (upd H p (.lst (ys.map V.str)))) : rSrtS K [.ref a] H Q := ⟨a, xs, rfl, h, hl, z⟩
def rSrtD : List V → Hp → VK → Prop := fun xs H Q => ∃ (a : Addr) (kvs : List (Key × V)) (ks : List Str), xs = [.ref a] ∧ Rd H a (.dK kvs) ∧ kvs.map (·.1) = ks.map Sum.inr ∧ ks.length < 64 ∧ ∀ ys p, ys.Perm ks → sortedS ys = true → H p = none → Q (.ref p) (upd H p (.lst (ys.map V.str)))
theorem s_sortedD {H : Hp} {Q : VK} {a : Addr} {kvs : List (Key × V)} {ks : List Str} (h : H a = some (.dK kvs)) (hk : kvs.map (·.1) = ks.map Sum.inr) (hl : ks.length < 64) (z : ∀ ys p, ys.Perm ks → sortedS ys = true → H p = none → Q (.ref p) (upd H p (.lst (ys.map V.str)))) : rSrtD [.ref a] H Q := ⟨a, kvs, ks, rfl, .inl h, hk, hl, z⟩
theorem cl_sortedD {X : Cx} (hc : X.calm = true) : CallR X (.builtin "sorted") rSrtD := call_sortedD hc
/-- the names that a piece tells to itself; to others -/
def owns (p : Piece) : List Nam := p.names.filter fun m => decide (m.sort = ("own" : Str))
def tolds (p : Piece) : List Str := (p.names.filter fun m => !decide (m.sort = ("own" : Str))).map (·.name)
/-- a dict of own names -/
def OwnD (H : Hp) (m : Addr) (nm : Str) (l : List Nam) : Prop := ∃ v : Str → Addr, H m = some (.dK (l.map fun n => ((Sum.inr n.name : Key), V.ref (v n.name)))) ∧ ∀ n ∈ l, H (v n.name) = some (.tup [.str nm, .int n.stre, .int n.off])
theorem OwnD.same {H H' : Hp} {m : Addr} {nm : Str} {l : List Nam} (s : Same H H') (h : OwnD H m nm l) : OwnD H' m nm l := by
  obtain ⟨v, h1, h2⟩ := h
  exact ⟨v, s _ _ h1, fun n hn => s _ _ (h2 n hn)⟩
theorem valV_strs {z : Str} {f : Str → V} : ∀ l : List Str, valV (l.map fun x => ((Sum.inr x : Key), f x)) (Sum.inr z) = if z ∈ l then some (f z) else none
  | [] => rfl
  | x :: l => by
    rw [List.map_cons]
    by_cases e : x = z
    · subst e
      rw [valV_pos rfl, if_pos List.mem_cons_self]
    · rw [valV_neg (show ¬ (Sum.inr x : Key) = Sum.inr z from fun h => e (Sum.inr.inj h)), valV_strs l]
      by_cases h : z ∈ l
      · rw [if_pos h, if_pos (List.mem_cons_of_mem _ h)]
      · rw [if_neg h, if_neg fun h2 => (List.mem_cons.mp h2).elim (fun h3 => e h3.symm) h]
theorem OwnD.get {H : Hp} {m : Addr} {nm : Str} {l : List Nam} (h : OwnD H m nm l) (z : Str) : ∃ o, DGet H m (.str z) o ∧ (o.isSome = decide (z ∈ l.map (·.name))) ∧ ∀ w, o = some w → ∃ t, w = .ref t := by
  obtain ⟨v, h1, h2⟩ := h
  refine ⟨_, DGet.k (k := (Sum.inr z : Key)) h1, ?_, ?_⟩
  · have e : (l.map fun n => ((Sum.inr n.name : Key), V.ref (v n.name))) = (l.map (·.name)).map fun x => ((Sum.inr x : Key), V.ref (v x)) := by rw [List.map_map]; rfl
    rw [e, valV_strs (f := fun x => V.ref (v x))]
    by_cases h : z ∈ l.map (·.name)
    · rw [if_pos h, decide_eq_true h]; rfl
    · rw [if_neg h, decide_eq_false h]; rfl
  · intro w hw
    have e : (l.map fun n => ((Sum.inr n.name : Key), V.ref (v n.name))) = (l.map (·.name)).map fun x => ((Sum.inr x : Key), V.ref (v x)) := by rw [List.map_map]; rfl
    rw [e, valV_strs (f := fun x => V.ref (v x))] at hw
    split at hw
    · cases hw; exact ⟨_, rfl⟩
    · cases hw
theorem OwnD.put {H : Hp} {m t : Addr} {nm : Str} {l : List Nam} {n : Nam} (h : OwnD H m nm l) (ht : H t = some (.tup [.str nm, .int n.stre, .int n.off])) (hn : n.name ∉ l.map (·.name)) (hl : l.length ≤ 99999) : ∃ o, DPut H m (.str n.name) (.ref t) (upd H m o) ∧ OwnD (upd H m o) m nm (l ++ [n]) := by
  obtain ⟨v, h1, h2⟩ := h
  refine ⟨_, DPut.k (k := (Sum.inr n.name : Key)) (v := .ref t) h1 (small5' (by rw [List.length_map]; omega)), fun z => if z = n.name then t else v z, ?_, fun q hq => ?_⟩
  · rw [putK_new']
    · rw [upd_same, List.map_append]
      have e1 : l.map (fun q => ((Sum.inr q.name : Key), V.ref (if q.name = n.name then t else v q.name))) = l.map fun q => ((Sum.inr q.name : Key), V.ref (v q.name)) := List.map_congr_left fun q hq => by
        rw [if_neg fun e => hn (List.mem_map.mpr ⟨q, hq, e⟩)]
      rw [e1]
      show some (HO.dK (_ ++ [_])) = some (HO.dK (_ ++ [((Sum.inr n.name : Key), V.ref (if n.name = n.name then t else v n.name))]))
      rw [if_pos rfl]
    · intro x hx e
      obtain ⟨q, hq, rfl⟩ := List.mem_map.mp hx
      exact hn (List.mem_map.mpr ⟨q, hq, Sum.inr.inj e⟩)
  · rcases List.mem_append.mp hq with hq | hq
    · show upd H m _ (if q.name = n.name then t else v q.name) = _
      rw [if_neg fun e => hn (List.mem_map.mpr ⟨q, hq, e⟩)]
      have h3 := h2 q hq
      rw [upd_ne (ne_of h3 h1 (by intro z; cases z))]
      exact h3
    · cases List.mem_singleton.mp hq
      show upd H m _ (if n.name = n.name then t else v n.name) = _
      rw [if_pos rfl, upd_ne (ne_of ht h1 (by intro z; cases z))]
      exact ht
theorem OwnD.nil {H : Hp} {m : Addr} {nm : Str} (h : H m = some (.dK [])) : OwnD H m nm [] := ⟨fun _ => m, h, fun _ h => nomatch h⟩
theorem nd_mem_take {l : List Nam} {i : Nat} {q : Nam} (h : (l.map (·.name)).Nodup) (hq : l[i]? = some q) (f : Nam → Bool) : q.name ∉ ((l.take i).filter f).map (·.name) := by
  intro z
  obtain ⟨x, hx, e⟩ := List.mem_map.mp z
  have hx := (List.mem_filter.mp hx).1
  obtain ⟨j, hj, e2⟩ := List.getElem_of_mem hx
  have hj2 : j < i ∧ j < l.length := by rw [List.length_take] at hj; omega
  have hil : i < l.length := (List.getElem?_eq_some_iff.mp hq).1
  rw [List.getElem_take] at e2
  have h2 := List.pairwise_iff_getElem.mp h j i (by rw [List.length_map]; exact hj2.2) (by rw [List.length_map]; exact hil) hj2.1
  rw [List.getElem_map, List.getElem_map, e2, (List.getElem?_eq_some_iff.mp hq).2] at h2
  exact h2 e
def addN (ks : List Str) (n : Str) : List Str := if n ∈ ks then ks else ks ++ [n]
def wantS (p : Piece) (ks : List Str) (f : Fill) : List Str := if f.soft = false ∧ f.name ∉ (owns p).map (·.name) then addN ks f.name else ks
/-- the names that fills want, in the order of their first want -/
def wantL (p : Piece) (fs : List Fill) : List Str := fs.foldl (wantS p) []
theorem wantL_snoc (p : Piece) (fs : List Fill) (f : Fill) : wantL p (fs ++ [f]) = wantS p (wantL p fs) f := by
  unfold wantL
  rw [List.foldl_append]; rfl
theorem addN_len (ks : List Str) (n : Str) : (addN ks n).length ≤ ks.length + 1 := by
  unfold addN
  split
  · omega
  · rw [List.length_append]; exact Nat.le_refl _
theorem wantS_len (p : Piece) (ks : List Str) (f : Fill) : (wantS p ks f).length ≤ ks.length + 1 := by
  unfold wantS
  split
  · exact addN_len _ _
  · omega
theorem want_len (p : Piece) : ∀ (fs : List Fill) (ks : List Str), (fs.foldl (wantS p) ks).length ≤ ks.length + fs.length
  | [], ks => Nat.le_refl _
  | f :: fs, ks => by
    rw [List.foldl_cons, List.length_cons]
    have := want_len p fs (wantS p ks f)
    have := wantS_len p ks f
    omega
theorem wantL_len (p : Piece) (fs : List Fill) : (wantL p fs).length ≤ fs.length := by
  have := want_len p fs []
  rw [List.length_nil, Nat.zero_add] at this
  exact this
def allF (p : Piece) : List Fill := p.stres.flatMap (·.fills)
/-- a dict of texts, each with True -/
def TruD (H : Hp) (m : Addr) (ks : List Str) : Prop := H m = some (.dK (ks.map fun x => ((Sum.inr x : Key), V.bl true)))
theorem TruD.nil {H : Hp} {m : Addr} (h : H m = some (.dK [])) : TruD H m [] := h
theorem TruD.same {H H' : Hp} {m : Addr} {ks : List Str} (s : Same H H') (h : TruD H m ks) : TruD H' m ks := s _ _ h
theorem putK_old' {κ : Type} [DecidableEq κ] {kvs : List (κ × V)} {k : κ} {v : V} (h : ∃ x ∈ kvs, x.1 = k) : putK kvs k v = kvs.map fun x => if x.1 = k then (x.1, v) else x := by
  unfold putK
  rw [if_pos]
  obtain ⟨x, hx, e⟩ := h
  exact List.any_eq_true.mpr ⟨x, hx, decide_eq_true e⟩
theorem TruD.put {H : Hp} {m : Addr} {ks : List Str} {n : Str} (h : TruD H m ks) (hl : ks.length ≤ 99999) : ∃ o, DPut H m (.str n) (.bl true) (upd H m o) ∧ TruD (upd H m o) m (addN ks n) := by
  refine ⟨_, DPut.k (k := (Sum.inr n : Key)) (v := .bl true) h (small5' (by rw [List.length_map]; omega)), ?_⟩
  unfold TruD addN
  rw [upd_same]
  by_cases g : n ∈ ks
  · rw [if_pos g, putK_old' ⟨_, List.mem_map.mpr ⟨n, g, rfl⟩, rfl⟩, List.map_map]
    congr 3
    funext x
    show (if (Sum.inr x : Key) = Sum.inr n then ((Sum.inr x : Key), V.bl true) else ((Sum.inr x : Key), V.bl true)) = _
    split <;> rfl
  · rw [if_neg g, putK_new', List.map_append]
    · rfl
    · intro x hx e
      obtain ⟨q, hq, rfl⟩ := List.mem_map.mp hx
      exact g (by rw [← Sum.inr.inj e]; exact hq)
theorem TruD.keys {H : Hp} {m : Addr} {ks : List Str} (h : TruD H m ks) : H m = some (.dK (ks.map fun x => ((Sum.inr x : Key), V.bl true))) ∧ (ks.map fun x => ((Sum.inr x : Key), V.bl true)).map (·.1) = ks.map Sum.inr := ⟨h, by rw [List.map_map]; rfl⟩
theorem tolds_d (p : Piece) : (p.names.filterMap fun n => if n.sort = ("own" : Str) then none else some (PyData.str n.name)) = (tolds p).map PyData.str := by
  unfold tolds
  induction p.names with
  | nil => rfl
  | cons n l ih =>
    rw [List.filterMap_cons, List.filter_cons]
    by_cases g : n.sort = ("own" : Str)
    · rw [if_pos g, decide_eq_true g]; exact ih
    · rw [if_neg g, decide_eq_false g]
      show _ :: _ = _ :: _
      rw [ih]
theorem tolds_len (p : Piece) : (tolds p).length ≤ p.names.length := by
  unfold tolds
  rw [List.length_map]
  exact List.length_filter_le _ _
theorem own_mem {p : Piece} {z : Str} : z ∈ (owns p).map (·.name) ↔ ∃ m ∈ p.names, m.name = z ∧ m.sort = "own" := by
  unfold owns
  rw [List.mem_map]
  constructor
  · rintro ⟨m, hm, e⟩
    have := List.mem_filter.mp hm
    exact ⟨m, this.1, e, of_decide_eq_true this.2⟩
  · rintro ⟨m, hm, e, e2⟩
    exact ⟨m, List.mem_filter.mpr ⟨hm, decide_eq_true e2⟩, e⟩
theorem flat_sub (l : List Stre) (n : Nat) : ((l.take n).flatMap (·.fills)).Sublist (l.flatMap (·.fills)) := by
  have e : l.flatMap (·.fills) = (l.take n).flatMap (·.fills) ++ (l.drop n).flatMap (·.fills) := by
    rw [← List.flatMap_append, List.take_append_drop]
  rw [e]
  exact List.sublist_append_left _ _
/-- a piece that is small and lawful -/
structure Fine (p : Piece) : Prop where
  ok : p.ok
  once : (p.names.map (·.name)).Nodup
  nl : p.names.length < 64
  sl : p.stres.length < 64
  fl : (allF p).length < 64
theorem few_le {nb : Int} : ∀ (ss : List Stre), (∀ s ∈ ss, GS nb s) → (ss.flatMap (·.fills)).length ≤ (ss.map wtS).sum
  | [], _ => Nat.le_refl _
  | s :: ss, h => by
    rw [List.flatMap_cons, List.length_append, List.map_cons, List.sum_cons]
    have h1 := few_le ss fun x hx => h x (List.mem_cons_of_mem _ hx)
    have h2 := (h s List.mem_cons_self).few
    have h3 : wtS s = 1 + s.words.length := rfl
    omega
theorem stl_le : ∀ (ss : List Stre), ss.length ≤ (ss.map wtS).sum
  | [] => Nat.le_refl _
  | s :: ss => by
    rw [List.length_cons, List.map_cons, List.sum_cons]
    have h1 := stl_le ss
    have h3 : wtS s = 1 + s.words.length := rfl
    omega
theorem Drawn.fine {nb tb : Int} {strict : Bool} {n : Nat} {ps : List Piece} (h : Drawn nb tb strict n ps) (hn : n ≤ 63) : ∀ p ∈ ps, Fine p := fun p hp => by
  obtain ⟨k, hk, e⟩ := List.getElem_of_mem hp
  have g := h.each k p (by rw [List.getElem?_eq_getElem hk, e])
  have h1 := wt_le hp
  have h2 := h.wts
  have h3 : wt p = 1 + p.names.length + (p.stres.map wtS).sum := rfl
  have h4 := few_le p.stres g.stres
  have h5 := stl_le p.stres
  exact ⟨g.ok, g.once, by omega, by omega, by show (p.stres.flatMap (·.fills)).length < 64; omega⟩
def padP : Piece := ⟨"pad", [], []⟩
theorem pad_fine : Fine padP := ⟨⟨by unfold okS; decide +kernel, fun _ h => (nomatch h), fun _ h => (nomatch h)⟩, List.nodup_nil, by decide, by decide, by decide⟩
theorem strs_shaped {l : List Str} (h : ∀ z ∈ l, okS z) : SeqAt.shaped (.list (l.map PyData.str)) = true := by
  have := lay_map (f := PyData.str) (l := l) (n := 0) fun z hz => ⟨h z hz, Nat.le_refl _⟩
  exact shaped_of this.1 (Nat.le_trans this.2 (by decide))
theorem da_strL {K : PySem.W.Frag} {H : Hp} : ∀ l : List Str, DpAll K H (l.map V.str) (l.map PyData.str)
  | [] => .nil
  | z :: l => .cons (.str z) (da_strL l)
theorem dp_strL {K : PySem.W.Frag} {H : Hp} {a : Addr} {l : List Str} (h : SqL K H a (l.map V.str)) : Dp K H (.ref a) (.list (l.map PyData.str)) := .lst h (da_strL l)
theorem tolds_ok {p : Piece} (h : p.ok) : ∀ z ∈ tolds p, okS z := fun z hz => by
  obtain ⟨m, hm, rfl⟩ := List.mem_map.mp hz
  exact (h.2.2 m (List.mem_filter.mp hm).1).1
theorem cutV_ints2 (ns : List Int) (lo hi : Option Int) : ∃ ms : List Int, cutV (ns.map V.int) lo hi = ms.map V.int ∧ ms.length ≤ ns.length := by
  refine ⟨(ns.drop (HT.sIx (ns.map V.int).length 0 lo)).take (HT.sIx (ns.map V.int).length (ns.map V.int).length hi - HT.sIx (ns.map V.int).length 0 lo), ?_, ?_⟩
  · rw [List.map_take, List.map_drop]; rfl
  · rw [List.length_take, List.length_drop]; omega
end Jl

/-! Dicts that hold data, their entries in order. -/
namespace Jl
open PySem L2 PySem.Spec PyProof.Rows
section
variable {κ α : Type} [DecidableEq κ] [DecidableEq α] {K : PySem.W.Frag} {F F' H H' : Hp} {m : Addr} {v : V} {d : PyData}
/-- entries are data -/
def KVD (K : PySem.W.Frag) (F : Hp) (kf : α → κ) (kvs : List (κ × V)) (L : List (α × PyData)) : Prop := kvs.map (·.1) = L.map (fun x => kf x.1) ∧ DpAll K F (kvs.map (·.2)) (L.map (·.2))
def lookL (L : List (α × PyData)) (k : α) : Option PyData := (L.find? fun x => decide (x.1 = k)).map (·.2)
def putL (L : List (α × PyData)) (k : α) (d : PyData) : List (α × PyData) := if k ∈ L.map (·.1) then L.map (fun x => if x.1 = k then (x.1, d) else x) else L ++ [(k, d)]
theorem KVD.nil {kf : α → κ} : KVD K F kf [] [] := ⟨rfl, .nil⟩
theorem KVD.same {kf : α → κ} {kvs : List (κ × V)} {L : List (α × PyData)} (h : KVD K F kf kvs L) (s : Same F F') : KVD K F' kf kvs L := ⟨h.1, dps_same s h.2⟩
theorem KVD.len {kf : α → κ} {kvs : List (κ × V)} {L : List (α × PyData)} (h : KVD K F kf kvs L) : kvs.length = L.length := by
  have := congrArg List.length h.1
  rw [List.length_map, List.length_map] at this
  exact this
theorem KVD.uncons {kf : α → κ} {x : α × PyData} {kvs : List (κ × V)} {L : List (α × PyData)} (h : KVD K F kf kvs (x :: L)) : ∃ v r, kvs = (kf x.1, v) :: r ∧ Dp K F v x.2 ∧ KVD K F kf r L := by
  cases kvs with
  | nil => exact absurd h.1 (by intro z; cases z)
  | cons y r =>
    obtain ⟨h1, h2⟩ := h
    rw [List.map_cons, List.map_cons] at h1
    obtain ⟨e1, e2⟩ := List.cons.inj h1
    rw [List.map_cons, List.map_cons] at h2
    obtain ⟨v, vs, e, g1, g2⟩ := da_cons h2
    obtain ⟨e3, e4⟩ := List.cons.inj e
    refine ⟨y.2, r, ?_, ?_, e2, ?_⟩
    · rw [← e1]
    · rw [e3]; exact g1
    · rw [e4]; exact g2
theorem lookL_none {L : List (α × PyData)} {k : α} : lookL L k = none ↔ k ∉ L.map (·.1) := by
  unfold lookL
  rw [Option.map_eq_none_iff, List.find?_eq_none]
  constructor
  · intro h z
    obtain ⟨x, hx, e⟩ := List.mem_map.mp z
    exact h x hx (decide_eq_true e)
  · intro h x hx e
    exact h (List.mem_map.mpr ⟨x, hx, of_decide_eq_true e⟩)
theorem KVD.get {kf : α → κ} (hj : ∀ a b, kf a = kf b → a = b) {k : α} : ∀ {L : List (α × PyData)} {kvs : List (κ × V)}, KVD K F kf kvs L →
    (lookL L k = none ∧ valV kvs (kf k) = none) ∨ ∃ d v, lookL L k = some d ∧ valV kvs (kf k) = some v ∧ Dp K F v d
  | [], kvs, h => by
    have e : kvs = [] := by have := h.len; exact List.eq_nil_of_length_eq_zero this
    subst e
    exact .inl ⟨rfl, rfl⟩
  | x :: L, kvs, h => by
    obtain ⟨v, r, rfl, hv, hr⟩ := h.uncons
    by_cases e : x.1 = k
    · refine .inr ⟨x.2, v, ?_, ?_, hv⟩
      · unfold lookL
        rw [List.find?_cons, decide_eq_true e]; rfl
      · rw [e]; exact valV_pos rfl
    · have e1 : lookL (x :: L) k = lookL L k := by
        unfold lookL
        rw [List.find?_cons, decide_eq_false e]
      rw [e1, valV_neg (show ¬ kf x.1 = kf k from fun z => e (hj _ _ z))]
      exact hr.get hj
theorem KVD.put {kf : α → κ} (hj : ∀ a b, kf a = kf b → a = b) {k : α} {L : List (α × PyData)} {kvs : List (κ × V)} (h : KVD K F kf kvs L) (hv : Dp K F v d) : KVD K F kf (putK kvs (kf k) v) (putL L k d) := by
  by_cases g : k ∈ L.map (·.1)
  · have e1 : putL L k d = L.map (fun x => if x.1 = k then (x.1, d) else x) := if_pos g
    have g2 : ∃ x ∈ kvs, x.1 = kf k := by
      obtain ⟨x, hx, e⟩ := List.mem_map.mp g
      have : kf k ∈ kvs.map (·.1) := by rw [h.1, ← e]; exact List.mem_map.mpr ⟨x, hx, rfl⟩
      obtain ⟨y, hy, e2⟩ := List.mem_map.mp this
      exact ⟨y, hy, e2⟩
    rw [e1, putK_old' g2]
    clear g g2 e1
    induction L generalizing kvs with
    | nil =>
      have e : kvs = [] := List.eq_nil_of_length_eq_zero h.len
      subst e
      exact .nil
    | cons x L ih =>
      obtain ⟨w, r, rfl, hw, hr⟩ := h.uncons
      obtain ⟨i1, i2⟩ := ih hr
      rw [List.map_cons, List.map_cons]
      by_cases e : x.1 = k
      · rw [if_pos e, if_pos (by show kf x.1 = kf k; rw [e])]
        refine ⟨?_, ?_⟩
        · rw [List.map_cons, List.map_cons, i1]
        · rw [List.map_cons, List.map_cons]
          exact .cons hv i2
      · rw [if_neg e, if_neg (fun z => e (hj _ _ z))]
        refine ⟨?_, ?_⟩
        · rw [List.map_cons, List.map_cons, i1]
        · rw [List.map_cons, List.map_cons]
          exact .cons hw i2
  · have e1 : putL L k d = L ++ [(k, d)] := if_neg g
    rw [e1, putK_new']
    · refine ⟨?_, ?_⟩
      · rw [List.map_append, List.map_append, h.1]; rfl
      · rw [List.map_append, List.map_append]
        exact da_app h.2 (da_one hv)
    · intro x hx e
      have : x.1 ∈ kvs.map (·.1) := List.mem_map.mpr ⟨x, hx, rfl⟩
      rw [h.1] at this
      obtain ⟨y, hy, e2⟩ := List.mem_map.mp this
      exact g (List.mem_map.mpr ⟨y, hy, hj _ _ (e2.trans e)⟩)
theorem putL_len {L : List (α × PyData)} {k : α} : (putL L k d).length ≤ L.length + 1 := by
  unfold putL
  split
  · rw [List.length_map]; omega
  · rw [List.length_append]; exact Nat.le_refl _
theorem putL_keys {L : List (α × PyData)} {k : α} : (putL L k d).map (·.1) = if k ∈ L.map (·.1) then L.map (·.1) else L.map (·.1) ++ [k] := by
  unfold putL
  by_cases g : k ∈ L.map (·.1)
  · rw [if_pos g, if_pos g, List.map_map]
    refine List.map_congr_left fun x _ => ?_
    show (if x.1 = k then (x.1, d) else x).1 = x.1
    split <;> rfl
  · rw [if_neg g, if_neg g, List.map_append]; rfl
theorem putL_nodup {L : List (α × PyData)} {k : α} (h : (L.map (·.1)).Nodup) : ((putL L k d).map (·.1)).Nodup := by
  rw [putL_keys]
  split
  · exact h
  · rename_i g
    exact List.nodup_append.mpr ⟨h, List.pairwise_singleton _ _, fun a ha b hb e => by cases List.mem_singleton.mp hb; exact g (e ▸ ha)⟩
theorem lookL_map {L : List (α × PyData)} {k j : α} (h : j ≠ k) : lookL (L.map fun x => if x.1 = k then (x.1, d) else x) j = lookL L j := by
  induction L with
  | nil => rfl
  | cons x L ih =>
    have c : ∀ (y : α × PyData) (M : List (α × PyData)), lookL (y :: M) j = if y.1 = j then some y.2 else lookL M j := fun y M => by
      unfold lookL
      rw [List.find?_cons]
      by_cases e : y.1 = j
      · rw [decide_eq_true e, if_pos e]; rfl
      · rw [decide_eq_false e, if_neg e]
    rw [List.map_cons, c, c, ih]
    by_cases e : x.1 = k
    · rw [if_pos e]
      show (if x.1 = j then some d else _) = _
      rw [if_neg (fun z => h (z.symm.trans e)), if_neg (fun z => h (z.symm.trans e))]
    · rw [if_neg e]
theorem lookL_cons {x : α × PyData} {L : List (α × PyData)} {k : α} : lookL (x :: L) k = if x.1 = k then some x.2 else lookL L k := by
  unfold lookL
  rw [List.find?_cons]
  by_cases e : x.1 = k
  · rw [decide_eq_true e, if_pos e]; rfl
  · rw [decide_eq_false e, if_neg e]
theorem lookL_app {L M : List (α × PyData)} {k : α} : lookL (L ++ M) k = (lookL L k).or (lookL M k) := by
  induction L with
  | nil => rfl
  | cons x L ih =>
    rw [List.cons_append, lookL_cons, lookL_cons, ih]
    split <;> rfl
theorem lookL_put {L : List (α × PyData)} {k j : α} : lookL (putL L k d) j = if j = k then some d else lookL L j := by
  by_cases e : j = k
  · subst e
    rw [if_pos rfl]
    unfold putL
    by_cases g : j ∈ L.map (·.1)
    · rw [if_pos g]
      induction L with
      | nil => cases g
      | cons x L ih =>
        rw [List.map_cons, lookL_cons]
        by_cases e : x.1 = j
        · rw [if_pos e]
          show (if x.1 = j then some d else _) = _
          rw [if_pos e]
        · rw [if_neg e, if_neg e]
          rw [List.map_cons] at g
          exact ih ((List.mem_cons.mp g).resolve_left fun z => e z.symm)
    · rw [if_neg g, lookL_app, lookL_none.mpr g, lookL_cons, if_pos rfl]; rfl
  · rw [if_neg e]
    unfold putL
    split
    · exact lookL_map e
    · rw [lookL_app, lookL_cons, if_neg (fun z => e z.symm)]
      cases lookL L j <;> rfl
end
/-- a dict of texts that holds data -/
def SD (K : PySem.W.Frag) (F H : Hp) (m : Addr) (L : List (Str × PyData)) : Prop := ∃ kvs : List (Key × V), H m = some (.dK kvs) ∧ KVD K F (fun z : Str => (Sum.inr z : Key)) kvs L
theorem inr_inj (a b : Str) (h : (Sum.inr a : Key) = Sum.inr b) : a = b := Sum.inr.inj h
section
variable {K : PySem.W.Frag} {F F' H H' : Hp} {m : Addr} {v : V} {d : PyData} {L : List (Str × PyData)} {z : Str}
theorem SD.nil (h : H m = some (.dK [])) : SD K F H m [] := ⟨[], h, .nil⟩
theorem SD.to (D : SD K F H m L) (s : Same F F') (e : H' m = H m) : SD K F' H' m L := by
  obtain ⟨kvs, h1, h2⟩ := D
  exact ⟨kvs, e.trans h1, h2.same s⟩
theorem SD.ext (D : SD K F H m L) (s : Same F F') (s2 : Same H H') : SD K F' H' m L := by
  obtain ⟨kvs, h1, h2⟩ := D
  exact ⟨kvs, s2 _ _ h1, h2.same s⟩
theorem SD.isD (D : SD K F H m L) : IsD H m := by
  obtain ⟨kvs, h1, -⟩ := D
  exact .inl ⟨kvs, .inl h1⟩
theorem SD.get (D : SD K F H m L) (z : Str) : (lookL L z = none ∧ DGet H m (.str z) none) ∨ ∃ d v, lookL L z = some d ∧ DGet H m (.str z) (some v) ∧ Dp K F v d := by
  obtain ⟨kvs, h1, h2⟩ := D
  have g := DGet.k (k := (Sum.inr z : Key)) h1
  rcases h2.get inr_inj (k := z) with ⟨e1, e2⟩ | ⟨d, v, e1, e2, h3⟩
  · rw [e2] at g; exact .inl ⟨e1, g⟩
  · rw [e2] at g; exact .inr ⟨d, v, e1, g, h3⟩
theorem SD.put (D : SD K F H m L) (hv : Dp K F v d) (hl : L.length ≤ 99999) : ∃ o, DPut H m (.str z) v (upd H m o) ∧ SD K F (upd H m o) m (putL L z d) := by
  obtain ⟨kvs, h1, h2⟩ := D
  exact ⟨_, DPut.k (k := (Sum.inr z : Key)) (v := v) h1 (small5' (by rw [h2.len]; omega)), _, upd_same, h2.put inr_inj hv⟩
theorem SD.len (D : SD K F H m L) : ∃ kvs : List (Key × V), H m = some (.dK kvs) ∧ kvs.length = L.length := by
  obtain ⟨kvs, h1, h2⟩ := D
  exact ⟨kvs, h1, h2.len⟩
end
/-! dicts that hold the same values -/
def refB : V → Bool
  | .ref _ => true
  | v => flatB v
theorem eqAt_ref {A : Around} {s : Shared} {v : V} {u u' : Value} (r : RelV v u) (r' : RelV v u') (f : refB v = true) : SeqAt.EqAt A s u u' true := by
  cases v with
  | ref b => cases (show u = Value.ref b from r); cases (show u' = Value.ref b from r'); exact SeqAt.EqAt.same _
  | non => exact eqAt_same r r' rfl
  | bl b => exact eqAt_same r r' rfl
  | int i => exact eqAt_same r r' rfl
  | str x => exact eqAt_same r r' rfl
  | byt b => exact eqAt_same r r' rfl
  | _ => exact eqAt_same r r' f
section
variable {κ : Type} [DecidableEq κ]
theorem hits_ref {A : Around} {s : Shared} {kvs : List (κ × V)} {vb : List (κ × Value)} (rb : KV kvs vb) {ks : List (κ × V)} {va : List (κ × Value)} (ra : KV ks va) :
    (∀ p ∈ ks, valV kvs p.1 = some p.2 ∧ refB p.2 = true) → PySem.W.KeqHits A s vb va true := by
  unfold KV at ra
  induction ra with
  | nil => intro _; exact .nil
  | @cons p q ps qs h t ih =>
    intro hp
    obtain ⟨h1, h2⟩ := h
    obtain ⟨e, f⟩ := hp p List.mem_cons_self
    have rr : RelO (some p.2) (valueAt vb p.1) := by rw [← e]; exact rb.val p.1
    obtain ⟨y, hy, ry⟩ := rr.some_of
    obtain ⟨k, v⟩ := q
    have h1' : p.1 = k := h1
    rw [h1'] at hy
    show PySem.W.KeqHits A s vb ((k, v) :: qs) (true && true)
    exact .hit hy (eqAt_ref h2 ry f) (ih fun p' hm => hp p' (List.mem_cons_of_mem _ hm))
end
def rEqDS : R2 := fun x y H Q => ∃ a b kvs, x = .ref a ∧ y = .ref b ∧ H a = some (.dK kvs) ∧ H b = some (.dK kvs) ∧ (kvs.map (·.1)).Nodup ∧ (∀ p ∈ kvs, refB p.2 = true) ∧ Q (.bl true) H
theorem op_eqDS {X : Cx} (hu : X.A.units < cLine) : OpR X (compareOp .Eq) rEqDS := by
  intro pins s σ H x y v u Q I rx ry h
  obtain ⟨a, b, kvs, rfl, rfl, ea, eb, nd, fl, q⟩ := h
  obtain rfl : v = Value.ref a := rx
  obtain rfl : u = Value.ref b := ry
  obtain ⟨_, ya, va, ra, da⟩ := (show ObjOk X.prog X.w H s.heap a (.dK kvs) from I.hok a _ ea)
  obtain ⟨_, yb, vb, rb, db⟩ := (show ObjOk X.prog X.w H s.heap b (.dK kvs) from I.hok b _ eb)
  have hl : va.length = vb.length := ra.length.symm.trans rb.length
  exact PySem.W.keq_eq (knd := mixKind X.prog X.w) (r := true) ya yb da db hu (fun _ => hits_ref rb ra fun p hp => ⟨val_nodup nd p hp, fl p hp⟩) (L2.fin_bl I q (by simp [hl]))
theorem KVD.refs {κ α : Type} [DecidableEq κ] [DecidableEq α] {K : PySem.W.Frag} {F : Hp} {kf : α → κ} : ∀ {L : List (α × PyData)} {kvs : List (κ × V)}, KVD K F kf kvs L → ∀ p ∈ kvs, refB p.2 = true
  | [], kvs, h => by
    have e : kvs = [] := List.eq_nil_of_length_eq_zero h.len
    subst e
    exact fun p hp => nomatch hp
  | x :: L, kvs, h => by
    obtain ⟨v, r, rfl, hv, hr⟩ := h.uncons
    intro p hp
    rcases List.mem_cons.mp hp with rfl | hp
    · show refB v = true
      generalize x.2 = d at hv
      cases hv <;> rfl
    · exact hr.refs p hp
/-! list.count of flat items -/
def rCntV (K : PySem.W.Frag) : V → List V → Hp → VK → Prop := fun x xs H Q => ∃ (p : Addr) (ys : List V) (y : V), x = .ref p ∧ xs = [y] ∧ SqL K H p ys ∧ flatV y = true ∧ ys.all flatV = true ∧ Q (.int (ys.countP (fun z => eqV z y) : Nat)) H
theorem cnt_eqU {x : V} : ∀ {xs : List V} {us : List Value}, Vals xs us → xs.all flatV = true → us.countP (eqU x) = xs.countP fun y => eqV y x
  | _, _, .nil, _ => rfl
  | y :: xs, u :: us, .cons r t, f => by
    rw [List.all_cons, Bool.and_eq_true] at f
    rw [List.countP_cons, List.countP_cons, eqU_of r f.1, cnt_eqU t f.2]
theorem mt_countV {X : Cx} : MtR X "list.count" (rCntV X.K) := by
  intro pins s σ H x xs v us Q I rx rxs h
  obtain ⟨p, ys, k, rfl, rfl, hs, fy, fs, q⟩ := h
  cases rx
  obtain ⟨u, rfl, ru⟩ := rxs.one
  obtain ⟨its, rv, ⟨⟨cls, dd, data, sl⟩, n, ho, hc, hdn, hd⟩, hlen⟩ := I.list hs
  simp only at hc hd
  subst hc hd
  refine call_meets PySem.F.slot_list_count ⟨_, ho, rfl⟩ PySem.F.entry_list_count (PySem.F.args_list_count_2 _ _)
    (SeqAt.list_countAt p its.toArray n dd sl u (eqU k)) ⟨ho, fun y hy => mem_eqAt ru fy rv fs y (by simpa using hy), ?_⟩
  have ec : its.toArray.toList.countP (eqU k) = ys.countP fun z => eqV z k := cnt_eqU rv fs
  refine ⟨.int (ys.countP (fun z => eqV z k) : Nat), H, I.tok _, ⟨s.toks, ?_⟩, q⟩
  show Value.int ((its.toArray.toList.countP (eqU k) : Nat) : Int) s.toks = _
  rw [ec]
/-! steps -/
section
variable {K : PySem.W.Frag} {σ : L2.St} {H : Hp} {Q : VK} {td ty tx to : TE} {tr : TA}
theorem s_dget2 (z : td σ H fun x H1 => ∃ a, x = .ref a ∧ IsD H1 a ∧ ty σ H1 fun y H2 => tx σ H2 fun z H3 => ∃ o, DGet H3 a y o ∧ Q (o.getD z) H3) : tDGet2 td ty tx σ H Q := z
theorem s_dsetd (z : td σ H fun x H1 => ∃ a, x = .ref a ∧ IsD H1 a ∧ ty σ H1 fun y H2 => tx σ H2 fun z H3 => ∃ (kvs : List (Key × V)) (k : Key), H3 a = some (.dK kvs) ∧ y = kV k ∧ kvs.length < sizeLine ∧ (∀ v, valV kvs k = some v → Q v H3) ∧ (valV kvs k = none → Q z (upd H3 a (.dK (putK kvs k z))))) : tDSetd td ty tx σ H Q := z
end
/-! an exception with several fields -/
section
variable {K : PySem.W.Frag} {C : Addr} {sp : Sp} {σ : L2.St} {H : Hp} {t : TA} {vs : List V} {fs : List (Str × V)}
theorem s_mkN {Q : XK} (ht : ∀ R : List V → Hp → Prop, R vs H → t σ H R) (hl : vs.length ≤ 1000)
    (hs : ∀ (a : Addr) (H' : Hp) (Q' : VK), H' a = some (exo a C none) → (∀ dx H2, H' dx = none → dx ≠ a → (∀ b, b ≠ a → b ≠ dx → H2 b = H' b) → H2 a = some (exo a C (some dx)) → H2 dx = some (exd dx fs) → Q' .non H2) → sp (.ref a :: vs) H' Q' (fun _ _ _ => False))
    (z : ∀ d, H d = none → Q (.ref C) (some d) (upd H d (.xd fs))) : tMkO C sp [] t σ H Q := by
  refine ht _ ⟨hl, fun a ha => ?_⟩
  rw [List.append_nil]
  refine hs a _ _ upd_same fun dx H2 nd ne hb h1 h2 => ⟨rfl, dx, fs, h1, h2, ?_, ?_⟩
  · rw [upd_ne ne] at nd; exact nd
  · rw [upd_ne ne] at nd
    have e : upd (del H2 a) dx (.xd fs) = upd H dx (.xd fs) := by
      funext b
      by_cases h : b = dx
      · rw [h, upd_same, upd_same]
      · rw [upd_ne h, upd_ne h]
        by_cases g : b = a
        · rw [g, del_same, ha]
        · rw [del_ne g, hb b g h, upd_ne g]
    rw [e]
    exact z dx nd
theorem s_ostM {f : Str} {to te : TE} {nx bk ct : L2.St → Hp → Prop} {rt : VK} {a dx : Addr} {v : V} (he : ∀ R : VK, R v H → te σ H R) (ho : ∀ R : VK, R (.ref a) H → to σ H R) (T : OexC K C) (no : PySem.W.findIn K (.ref C) f = some none) (h : H a = some (exo a C (some dx))) (hd : H dx = some (exd dx fs)) (hl : fs.length ≤ 900)
    (z : nx σ (upd H dx (exd dx ((f, v) :: fs)))) : tOst K f to te ⟨nx, rt, bk, ct⟩ σ H := he _ (ho _ ⟨a, C, rfl, T, no, .inr ⟨dx, fs, h, hd, hl, z⟩⟩)
end
/-! what names stand for -/
def spotD (t : Str) (i j : Int) : PyData := .tuple [.str t, .int i, .int j]
def AllSpot (L : List (Str × PyData)) : Prop := ∀ x ∈ L, ∃ t i j, okS t ∧ x.2 = spotD t i j
theorem AllSpot.nil : AllSpot [] := fun _ h => nomatch h
theorem AllSpot.put {L : List (Str × PyData)} {z t : Str} {i j : Int} (h : AllSpot L) (ht : okS t) : AllSpot (putL L z (spotD t i j)) := by
  intro x hx
  unfold putL at hx
  split at hx
  · obtain ⟨y, hy, rfl⟩ := List.mem_map.mp hx
    by_cases e : y.1 = z
    · rw [if_pos e]; exact ⟨t, i, j, ht, rfl⟩
    · rw [if_neg e]; exact h y hy
  · rcases List.mem_append.mp hx with hx | hx
    · exact h x hx
    · cases List.mem_singleton.mp hx
      exact ⟨t, i, j, ht, rfl⟩
theorem AllSpot.look {L : List (Str × PyData)} {z : Str} {d : PyData} (h : AllSpot L) (e : lookL L z = some d) : ∃ t i j, okS t ∧ d = spotD t i j := by
  unfold lookL at e
  cases g : L.find? (fun x => decide (x.1 = z)) with
  | none => rw [g] at e; cases e
  | some x =>
    rw [g] at e
    cases e
    exact h x (List.mem_of_find?_eq_some g)
theorem dp_spot {K : PySem.W.Frag} {H : Hp} {x : V} {t : Str} {i j : Int} (h : Dp K H x (spotD t i j)) : ∃ p, x = .ref p ∧ SqT K H p [.str t, .int i, .int j] := by
  obtain ⟨p, u0, e0, h1, g0⟩ := dp_tup h
  obtain ⟨u1, e1, g1⟩ := da_str g0
  obtain ⟨u2, e2, g2⟩ := da_int g1
  obtain ⟨u3, e3, g3⟩ := da_int g2
  have e4 := da_nil g3
  subst e0 e1 e2 e3 e4
  exact ⟨p, rfl, h1⟩
theorem spot_dp {K : PySem.W.Frag} {H : Hp} {p : Addr} {t : Str} {i j : Int} (h : H p = some (.tup [.str t, .int i, .int j])) : Dp K H (.ref p) (spotD t i j) := .tup (.inl (.inl h)) (.cons (.str _) (.cons (.int _) (.cons (.int _) .nil)))
theorem spot_shaped {t : Str} {i j : Int} (h : okS t) : SeqAt.shaped (spotD t i j) = true := by
  refine shaped_of ?_ ?_
  · show ((PyData.str t).canLay0 && (true && (true && true))) = true
    rw [h]; rfl
  · show max 0 (max 0 (max 0 0)) + 1 ≤ 64
    omega
/-- the own name of a piece -/
def ownOf (p : Piece) (z : Str) : Option Nam := p.names.find? fun n => decide (n.name = z) && decide (n.sort = ("own" : Str))
theorem owns_find (p : Piece) (z : Str) : (owns p).find? (fun n => decide (n.name = z)) = ownOf p z := by
  unfold owns ownOf
  rw [List.find?_filter]
  congr 1
  funext n
  rw [Bool.eq_iff_iff]
  simp only [Bool.and_eq_true, decide_eq_true_iff]
  exact and_comm
theorem valV_own {v : Str → Addr} {z : Str} : ∀ l : List Nam, valV (l.map fun n => ((Sum.inr n.name : Key), V.ref (v n.name))) (Sum.inr z) = (l.find? fun n => decide (n.name = z)).map fun n => V.ref (v n.name)
  | [] => rfl
  | x :: l => by
    rw [List.map_cons, List.find?_cons]
    by_cases e : x.name = z
    · rw [decide_eq_true e, valV_pos (by rw [e])]; rfl
    · rw [decide_eq_false e, valV_neg (show ¬ (Sum.inr x.name : Key) = Sum.inr z from fun h => e (Sum.inr.inj h)), valV_own l]
theorem OwnD.get2 {H : Hp} {m : Addr} {p : Piece} (h : OwnD H m p.name (owns p)) (z : Str) : (ownOf p z = none ∧ DGet H m (.str z) none) ∨ ∃ n t, ownOf p z = some n ∧ DGet H m (.str z) (some (.ref t)) ∧ H t = some (.tup [.str p.name, .int n.stre, .int n.off]) := by
  obtain ⟨v, h1, h2⟩ := h
  have g := DGet.k (k := (Sum.inr z : Key)) h1
  rw [valV_own, owns_find] at g
  cases e : ownOf p z with
  | none => rw [e] at g; exact .inl ⟨rfl, g⟩
  | some n =>
    rw [e] at g
    refine .inr ⟨n, _, rfl, g, h2 n ?_⟩
    rw [← owns_find] at e
    exact List.mem_of_find?_eq_some e
theorem OwnD.isD {H : Hp} {m : Addr} {nm : Str} {l : List Nam} (h : OwnD H m nm l) : IsD H m := by
  obtain ⟨v, h1, -⟩ := h
  exact .inl ⟨_, .inl h1⟩
/-- what a name stands for in a piece, the others' names being L -/
def spotOf (p : Piece) (L : List (Str × PyData)) (z : Str) : Option PyData := match ownOf p z with
  | some n => some (spotD p.name n.stre n.off)
  | none => lookL L z
theorem spotOf_all {p : Piece} {L : List (Str × PyData)} {z : Str} {d : PyData} (hp : okS p.name) (h : AllSpot L) (e : spotOf p L z = some d) : ∃ t i j, okS t ∧ d = spotD t i j := by
  unfold spotOf at e
  split at e
  · cases e; exact ⟨_, _, _, hp, rfl⟩
  · exact h.look e
theorem aim_get {K : PySem.W.Frag} {F H : Hp} {m mo : Addr} {p : Piece} {L : List (Str × PyData)} (z : Str) (D : SD K F H m L) (sF : Same F H) (hL : AllSpot L) (ho : OwnD H mo p.name (owns p)) (hp : okS p.name) :
    ∃ o1 o2, DGet H m (.str z) o1 ∧ DGet H mo (.str z) o2 ∧ ((spotOf p L z = none ∧ o2.getD (o1.getD .non) = .non) ∨ ∃ t i j q, okS t ∧ spotOf p L z = some (spotD t i j) ∧ o2.getD (o1.getD .non) = .ref q ∧ SqT K H q [.str t, .int i, .int j]) := by
  have key : ∀ o1, DGet H m (.str z) o1 → ((lookL L z = none ∧ o1 = none) ∨ ∃ t i j q, okS t ∧ lookL L z = some (spotD t i j) ∧ o1 = some (.ref q) ∧ SqT K H q [.str t, .int i, .int j]) → ∃ o1 o2, DGet H m (.str z) o1 ∧ DGet H mo (.str z) o2 ∧ ((spotOf p L z = none ∧ o2.getD (o1.getD .non) = .non) ∨ ∃ t i j q, okS t ∧ spotOf p L z = some (spotD t i j) ∧ o2.getD (o1.getD .non) = .ref q ∧ SqT K H q [.str t, .int i, .int j]) := fun o1 g1 h1 => by
    rcases ho.get2 z with ⟨e2, g2⟩ | ⟨n, t, e2, g2, h2⟩
    · have e3 : spotOf p L z = lookL L z := by unfold spotOf; rw [e2]
      refine ⟨o1, none, g1, g2, ?_⟩
      rw [e3]
      rcases h1 with ⟨e, rfl⟩ | ⟨t, i, j, q, ok, e, rfl, h⟩
      · exact .inl ⟨e, rfl⟩
      · exact .inr ⟨t, i, j, q, ok, e, rfl, h⟩
    · have e3 : spotOf p L z = some (spotD p.name n.stre n.off) := by unfold spotOf; rw [e2]
      exact ⟨o1, some (.ref t), g1, g2, .inr ⟨_, _, _, t, hp, e3, rfl, .inl (.inl h2)⟩⟩
  rcases D.get z with ⟨e1, g1⟩ | ⟨d, v, e1, g1, hv⟩
  · exact key _ g1 (.inl ⟨e1, rfl⟩)
  · obtain ⟨t, i, j, ok, rfl⟩ := hL.look e1
    obtain ⟨q, rfl, hq⟩ := dp_spot hv
    exact key _ g1 (.inr ⟨t, i, j, q, ok, e1, rfl, sameT sF hq⟩)
/-- the names that a piece tells to others -/
def toldN (p : Piece) (ns : List Nam) : List (Str × PyData) := (ns.filter fun n => !decide (n.sort = ("own" : Str))).map fun n => (n.name, spotD p.name n.stre n.off)
def toldS (p : Piece) : List (Str × PyData) := toldN p p.names
def putAll (L xs : List (Str × PyData)) : List (Str × PyData) := xs.foldl (fun L x => putL L x.1 x.2) L
theorem putAll_app (L xs ys : List (Str × PyData)) : putAll L (xs ++ ys) = putAll (putAll L xs) ys := List.foldl_append
theorem putAll_len : ∀ (xs L : List (Str × PyData)), (putAll L xs).length ≤ L.length + xs.length
  | [], L => Nat.le_refl _
  | x :: xs, L => by
    have h1 := putAll_len xs (putL L x.1 x.2)
    have h2 := putL_len (L := L) (k := x.1) (d := x.2)
    show (putAll (putL L x.1 x.2) xs).length ≤ _
    rw [List.length_cons]
    omega
theorem putAll_nodup : ∀ (xs L : List (Str × PyData)), (L.map (·.1)).Nodup → ((putAll L xs).map (·.1)).Nodup
  | [], L, h => h
  | x :: xs, L, h => putAll_nodup xs _ (putL_nodup h)
theorem putAll_spot : ∀ (xs L : List (Str × PyData)), AllSpot L → AllSpot xs → AllSpot (putAll L xs)
  | [], L, h, _ => h
  | x :: xs, L, h, hx => by
    obtain ⟨t, i, j, ok, e⟩ := hx x List.mem_cons_self
    refine putAll_spot xs _ ?_ fun y hy => hx y (List.mem_cons_of_mem _ hy)
    show AllSpot (putL L x.1 x.2)
    rw [e]
    exact h.put ok
theorem toldN_spot {p : Piece} (h : okS p.name) (ns : List Nam) : AllSpot (toldN p ns) := fun x hx => by
  obtain ⟨n, _, rfl⟩ := List.mem_map.mp hx
  exact ⟨_, _, _, h, rfl⟩
theorem toldN_snoc (p : Piece) (ns : List Nam) (n : Nam) : toldN p (ns ++ [n]) = if n.sort = ("own" : Str) then toldN p ns else toldN p ns ++ [(n.name, spotD p.name n.stre n.off)] := by
  unfold toldN
  rw [List.filter_append, List.filter_cons]
  by_cases g : n.sort = ("own" : Str)
  · rw [if_pos g, decide_eq_true g]
    show (_ ++ []).map _ = _
    rw [List.append_nil]
  · rw [if_neg g, decide_eq_false g]
    show (_ ++ [n]).map _ = _
    rw [List.map_append]; rfl
theorem toldN_len (p : Piece) (ns : List Nam) : (toldN p ns).length ≤ ns.length := by
  unfold toldN
  rw [List.length_map]
  exact List.length_filter_le _ _
theorem told_flat_len : ∀ (ps : List Piece), (∀ p ∈ ps, p.names.length < 64) → (ps.flatMap toldS).length ≤ 64 * ps.length
  | [], _ => Nat.le_refl _
  | p :: ps, h => by
    rw [List.flatMap_cons, List.length_append, List.length_cons]
    have h1 := told_flat_len ps fun q hq => h q (List.mem_cons_of_mem _ hq)
    have h2 : (toldS p).length ≤ p.names.length := toldN_len p p.names
    have h3 := h p List.mem_cons_self
    omega
/-- the last told -/
def lastL (ps : List Piece) : List (Str × PyData) := putAll [] (ps.flatMap toldS)
theorem lastL_spot {ps : List Piece} (h : ∀ p ∈ ps, okS p.name) : AllSpot (lastL ps) := putAll_spot _ _ AllSpot.nil fun x hx => by
  obtain ⟨p, hp, hx⟩ := List.mem_flatMap.mp hx
  exact toldN_spot (h p hp) _ x hx
theorem own_snoc {ns : List Nam} {q : Nam} {z : Str} (h : ns.find? (fun n => decide (n.name = z) && decide (n.sort = ("own" : Str))) = none) (g : ¬ (q.name = z ∧ q.sort = ("own" : Str))) : (ns ++ [q]).find? (fun n => decide (n.name = z) && decide (n.sort = ("own" : Str))) = none := by
  rw [List.find?_append, h, List.find?_cons]
  have : (decide (q.name = z) && decide (q.sort = ("own" : Str))) = false := by
    rw [Bool.eq_false_iff]
    intro e
    rw [Bool.and_eq_true, decide_eq_true_iff, decide_eq_true_iff] at e
    exact g e
  rw [this]; rfl
theorem own_at {p : Piece} {i : Nat} {q : Nam} {z : Str} (h : (p.names.take i).find? (fun n => decide (n.name = z) && decide (n.sort = ("own" : Str))) = none) (hq : p.names[i]? = some q) (g1 : q.name = z) (g2 : q.sort = ("own" : Str)) : ownOf p z = some q := by
  obtain ⟨hi, e⟩ := List.getElem?_eq_some_iff.mp hq
  have e1 : p.names = p.names.take i ++ q :: p.names.drop (i + 1) := by
    rw [← e, ← List.drop_eq_getElem_cons hi, List.take_append_drop]
  unfold ownOf
  rw [e1, List.find?_append, h, List.find?_cons, decide_eq_true g1, decide_eq_true g2]; rfl
theorem spotD_inj {t t' : Str} {i j i' j' : Int} (h : spotD t i j = spotD t' i' j') : t = t' ∧ i = i' ∧ j = j' := by
  unfold spotD at h
  injection h with h
  injection h with a1 h
  injection h with a2 h
  injection h with a3 h
  injection a1 with a1
  injection a2 with a2
  injection a3 with a3
  exact ⟨a1, a2, a3⟩
theorem s_lenT {K : PySem.W.Frag} {H : Hp} {Q : VK} {p : Addr} {xs : List V} (h : SqT K H p xs) (k : Q (.int (xs.length : Int)) H) : rLenL K [.ref p] H Q := ⟨p, xs, rfl, .inr h, k⟩
end Jl

/-! list(reversed(xs)). -/
namespace Jl
open PySem L2 PySem.Spec PyProof.Rows
theorem rev_nolen : typeLookup (.type "list_reverseiterator") "__len__" = pure none := by
  rw [typeLookup_type, builtinLookup_eq_fast]
  kernel_rfl
theorem rev_hint : typeLookup (.type "list_reverseiterator") "__length_hint__" = pure (some (.builtin "list_reverseiterator.__length_hint__")) := by
  rw [typeLookup_type, builtinLookup_eq_fast]
  kernel_rfl
section
variable {prog : Program} {w : World} {A : Around} {E : Value → Shared → Prop} {s : Shared}
theorem hint_rev {I l : Addr} {i : Int} {Q : Bool → Shared → Prop} (it : s.heap.IsRevIter I l i) (q : Q false s) : wpAny (model prog w) A (Builtin.List.listLengthHint (.ref I)) Q E s := by
  unfold Builtin.List.listLengthHint
  refine wpAny_bind (wpAny_specialOf it.typeIs rev_nolen ?_)
  show wpAny _ A (specialOf (Value.ref I) (Str.ofString "__length_hint__") >>= _) _ _ _
  refine wpAny_bind (wpAny_specialOf it.typeIs rev_hint ?_)
  generalize hname : ("list_reverseiterator.__length_hint__" : String) = nm
  wp_delta
  rw [show splitId nm = some ("list_reverseiterator", "__length_hint__") from by subst hname; decide +kernel]
  subst hname
  refine wpAny_bind (wpAny_isInstance (b := true) it.typeIs (by rw [isSubtype_type]; kernel_rfl) ?_)
  exact wpAny_pure q
/-- the walk of list(an iterator that walks a list backwards) -/
theorem list_rev {I l : Addr} {items : Array Value} {Q : Value → Shared → Prop} (hh : A.handled = none) (hne : l ≠ I) (it : s.heap.IsRevIter I l ((items.size : Int) - 1)) (hl : s.heap.IsList l items) (hn : items.size ≤ sizeLine)
    (q : ∀ h' tk acc c, (∀ b o, b ≠ I → s.heap.get? b = some o → h'.get? b = some o) → h'.get? s.heap.objs.size = some { cls := .type "list", dict := none, data := .seq acc c, slots := #[] } → ItemsOf (fun i v => items[items.size - 1 - i]? = some v) acc items.size → Q (.ref s.heap.objs.size) { s with heap := h', toks := tk }) :
    wpAny (model prog w) A (call (.type "list") [.ref I]) Q E s := by
  obtain ⟨oi, atI_, -⟩ := id it
  obtain ⟨ol, atL, -⟩ := id hl
  have ltI := Heap.lt_size atI_
  have ltL := Heap.lt_size atL
  have W := fun (B : Around) (hB : B.handled = none) => Walks.listRev (prog := prog) (w := w) (A := B) hB I l hne items
  refine callType_codes (Q₁ := fun obj s1 => obj = .ref s.heap.objs.size ∧ s1 = { s with heap := s.heap.push { cls := .type "list", data := .seq #[] } }) F.called_list (F.typeCall_list_1 _) F.entry_list_init (code_list_new _ ⟨rfl, rfl⟩) fun obj s1 made => ?_
  obtain ⟨rfl, rfl⟩ := made
  have new0 : (s.heap.push { cls := .type "list", data := .seq #[] }).get? s.heap.objs.size = some { cls := .type "list", data := .seq #[] } := Heap.get?_push_size _ rfl
  refine ⟨⟨_, new0, rfl⟩, F.args_list_init_2 _ _, ?_⟩
  show wpAny _ _ (do let old ← Builtin.List.listItems (.ref s.heap.objs.size); Builtin.List.listUpdate (.ref s.heap.objs.size) (fun _ => #[]); letGo old.toList.reverse; Builtin.List.listExtendWith (.ref s.heap.objs.size) (.ref I) .none) _ _ _
  refine wpAny_bind ?_
  unfold Builtin.List.listItems
  refine wpAny_bind (wpAny_seqItems new0 rfl (wpAny_pure ?_))
  show wpAny _ _ (updateSeq s.heap.objs.size (fun _ => #[]) >>= fun _ => letGo (#[] : Array Value).toList.reverse >>= fun _ => Builtin.List.listExtendWith (.ref s.heap.objs.size) (.ref I) .none) _ _ _
  refine wpAny_bind (wpAny_updateSeq new0 rfl ?_)
  have new1 := Heap.get?_update_self (Obj.mapSeq (fun _ => (#[] : Array Value))) new0 rfl
  refine wpAny_bind (wpAny_letGo ?_)
  have far : ∀ b o, s.heap.get? b = some o → ((s.heap.push { cls := .type "list", data := .seq #[] }).update s.heap.objs.size (Obj.mapSeq (fun _ => (#[] : Array Value)))).get? b = some o := fun b o e =>
    (Heap.get?_update_other _ _ (Nat.ne_of_gt (Heap.lt_size e))).trans (Heap.get?_push_of_some _ e)
  have nS : s.heap.objs.size ∉ [I, l] := fun m => by
    rcases List.mem_cons.mp m with e | e
    · exact Nat.ne_of_gt ltI e
    · exact Nat.ne_of_gt ltL (List.mem_singleton.mp e)
  have d1 : Builtin.List.listSameRef (.ref s.heap.objs.size) (.ref I) = false := by
    have : s.heap.objs.size ≠ I := Nat.ne_of_gt ltI
    simp [Builtin.List.listSameRef, this]
  generalize (s.heap.push { cls := .type "list", data := .seq #[] }).update s.heap.objs.size (Obj.mapSeq (fun _ => (#[] : Array Value))) = h1 at *
  have it1 : h1.IsRevIter I l ((items.size : Int) - 1) := it.at fun o e => far _ _ e
  have hl1 : h1.IsList l items := hl.at fun o e => far _ _ e
  unfold Builtin.List.listExtendWith
  refine wpAny_bind (wpAny_typeOf (s := { s with heap := h1 }) it1.typeIs ?_)
  rw [if_neg (by rw [d1]; decide)]
  refine wpAny_bind (wpAny_pyIter_revIter (s := { s with heap := h1 }) it1 ?_)
  refine wpAny_bind (wpAny_holding (hint_rev (s := { s with heap := h1 }) it1 ?_))
  rw [if_neg (by decide)]
  refine wpAny_pure ⟨plainId_quiet F.plain_extend_loop _, codeAny_extend_loopS (W A.in1.in1 hh).toS hn _ nS _ items.size 0 _ _ _ rfl (Nat.zero_le _) ⟨Nat.zero_le _, ?_, hl1⟩ new1 (ItemsOf.nil _) fun s' acc c hm at' hacc => ?_⟩
  · have e : (items.size : Int) - 1 - ((0 : Nat) : Int) = (items.size : Int) - 1 := by omega
    rw [e]
    exact it1
  · rw [Moved.eq_with hm] at at' ⊢
    refine ⟨rfl, q s'.heap s'.toks acc c (fun b o hb e => hm.heap b o (fun mem => ?_) (far b o e)) at' hacc⟩
    rcases List.mem_cons.mp mem with e' | mem
    · rw [e'] at e; exact Nat.lt_irrefl _ (Heap.lt_size e)
    · exact hb (List.mem_singleton.mp mem)
end
/-- list(reversed(x)), x a list: a new list -/
def tLstRev (K : PySem.W.Frag) (te : TE) : TE := fun σ H Q => te σ H fun v H1 => ∃ (a : Addr) (xs : List V), v = .ref a ∧ SqL K H1 a xs ∧ ∀ p, H1 p = none → Q (.ref p) (upd H1 p (.lst xs.reverse))
section
variable {X : Cx}
theorem pe_lstRev {e : Expr} {te : TE} {p p2 pos pos2 : Pos} (hc : X.calm = true) (hg : Gl X "list") (hm : X.mg "list" = none) (hg2 : Gl X "reversed") (hm2 : X.mg "reversed" = none) (he : PE X e te)
    (hs : starEach [e] X.env = (false, eval e X.env) :: starEach [] X.env := by rfl)
    (hs2 : starEach [.Call (.Name "reversed" p2) [e] [] pos2] X.env = (false, eval (.Call (.Name "reversed" p2) [e] [] pos2) X.env) :: starEach [] X.env := by rfl) :
    PE X (.Call (.Name "list" p) [.Call (.Name "reversed" p2) [e] [] pos2] [] pos) (tLstRev X.K te) := by
  constructor
  intro pins s σ H Q I h
  refine Call_ (ld_blt (u := .type "list") I hg hm (by decide +kernel) (PyProof.Rows.callWith_type1 (args_cons (Call_ (ld_blt I hg2 hm2 PyProof.Rows.boot_reversed (PyProof.Rows.callWith_type1 (args_cons (thn (he.run pins s σ H _ I h) fun u t1 ⟨v, H1, J, rv0, z⟩ => args_nil ?_) hs) hs rfl))) hs2) hs2 rfl))
  obtain ⟨a, xs, rfl, hq, q⟩ := z
  obtain rfl : u = Value.ref a := rv0
  obtain ⟨its, rv, pl, hz⟩ := J.list hq
  have hl := pl.isList
  refine call_reversed_list hl (args_nil ?_)
  obtain ⟨f0, f1, f2, f3, f4, f5⟩ := J.fpOk (H' := H1) (b := t1.heap.objs.size) (Nat.le_refl _) (J.hok.fresh (Nat.le_refl _))
  have J2 : Inv X pins σ H1 { t1 with heap := t1.heap.push (revObj a ((its.toArray.size : Int) - 1)) } := J.kept (t' := t1.toks) fun b o e => Heap.get?_push_of_some _ e
  obtain ⟨ol, atL, _⟩ := id hl
  have hsz : its.toArray.size ≤ sizeLine := by rw [List.size_toArray, ← rv.length]; exact hz
  refine list_rev (s := { t1 with heap := t1.heap.push (revObj a ((its.toArray.size : Int) - 1)) }) (J.ok.hd hc) (Nat.ne_of_lt (Heap.lt_size atL)) ⟨_, Heap.get?_push_size _ rfl, rfl, rfl⟩ (hl.push _) hsz fun h' tk acc c far at' hacc => ?_
  have J3 : Inv X pins σ H1 { t1 with heap := h', toks := tk } := J2.turned (t' := tk) (fun b o hb e => far b o hb e) f0 f1 f3 f4 f5
  have n0 := J2.hok.fresh (Nat.le_refl _)
  obtain ⟨g0, g1, g2, g3, g4, g5⟩ := J2.fpOk (H' := H1) (Nat.le_refl _) n0
  have z0 := Heap.get?_none_of_le (h := X.s_0.heap) (J2.sz)
  generalize ({ t1 with heap := t1.heap.push (revObj a ((its.toArray.size : Int) - 1)) } : Shared).heap.objs.size = n at *
  refine ⟨.ref n, upd H1 n (.lst xs.reverse), track J3 z0 n0 g1 g4 g5 ⟨by rw [List.length_reverse]; exact hz, acc.toList, c, RT.vals_rev rv hacc, ?_⟩, rfl, q _ n0⟩
  rw [Array.toArray_toList]
  exact at'
end
/-- step -/
theorem s_lstRev {K : PySem.W.Frag} {σ : L2.St} {H : Hp} {Q : VK} {te : TE} (z : te σ H fun v H1 => ∃ (a : Addr) (xs : List V), v = .ref a ∧ SqL K H1 a xs ∧ ∀ p, H1 p = none → Q (.ref p) (upd H1 p (.lst xs.reverse))) : tLstRev K te σ H Q := z
end Jl

/-! Stretches laid out: dicts with tuples as keys; sorted lists of data. -/
namespace Jl
open PySem L2 PySem.Spec PyProof.Rows
/-! sorted(xs), xs data -/
def leV (x y : V × PyData) : Bool := PySem.W.dataLe false (fun b : V × PyData => b.2) x y
def rSortDt (K : PySem.W.Frag) : List V → Hp → VK → Prop := fun vs H Q => ∃ (a : Addr) (bs : List (V × PyData)), vs = [.ref a] ∧ SqL K H a (bs.map (·.1)) ∧ (∀ b ∈ bs, Dp K H b.1 b.2) ∧ PySem.W.AllAlike (bs.map (·.2)) ∧ PySem.W.Sortable (bs.map (·.2)) ∧ (∀ b ∈ bs, b.2.depth ≤ 8) ∧
  ∀ p, H p = none → Q (.ref p) (upd H p (.lst ((bs.mergeSort leV).map (·.1))))
theorem eachV {R : Value → V × PyData → Prop} (hR : ∀ v b, R v b → RelV b.1 v) : ∀ {vs : List Value} {bs : List (V × PyData)}, PySem.W.EachIs R vs bs → Vals (bs.map (·.1)) vs
  | _, _, .nil => .nil
  | _, _, .cons h t => .cons (hR _ _ h) (eachV hR t)
theorem each_of {bs : List (V × PyData)} {R : Value → V × PyData → Prop} (hR : ∀ v b, b ∈ bs → RelV b.1 v → R v b) : ∀ {cs : List (V × PyData)} {vs : List Value}, (∀ b ∈ cs, b ∈ bs) → Vals (cs.map (·.1)) vs → PySem.W.EachIs R vs cs
  | [], _, _, h => by cases h; exact .nil
  | b :: cs, _, hs, h => by
    cases h with
    | cons h1 h2 => exact .cons (hR _ _ (hs b List.mem_cons_self) h1) (each_of hR (fun c hc => hs c (List.mem_cons_of_mem _ hc)) h2)
theorem cr_sortDt {X : Cx} (hu : X.A.units + 64 < cLine) : CallR X (.builtin "sorted") (rSortDt X.K) := by
  intro pins s σ H vs us Q I r h
  obtain ⟨a, bs, rfl, hs, hd, hal, hso, hdp, q⟩ := h
  obtain ⟨its, rv, hl, hz⟩ := I.list hs
  obtain ⟨u, rfl, ru⟩ := vals1 r
  obtain rfl : u = Value.ref a := ru
  rw [List.length_map] at hz
  refine PySem.W.sorted_data (enc := fun b : V × PyData => b.2) (R := fun v b => RelV b.1 v) hl.isList (each_of (fun _ _ _ h => h) (fun _ h => h) rv) (each_of (fun v b hb h => Dp.reads I b.2 b.1 v (hd b hb) h) (fun _ h => h) rv) hal hso hz (fun b hb => by have := hdp b hb; omega) (fun out hlen eo => ?_)
  have ho : Vals ((bs.mergeSort leV).map (·.1)) out := eachV (fun _ _ h => h) eo
  obtain ⟨ep, he⟩ := PyProof.Rows.sortedAll_at s.heap its out.toArray
  refine ⟨.ref _, upd H (s.heap.objs.size + 1) (.lst ((bs.mergeSort leV).map (·.1))), I.laid (t' := s.toks) (fun _ _ => PyProof.Rows.sortedAll_old) (Nat.le_succ _) ⟨?_, out, ep, ho, he⟩, rfl, q _ (I.hok.fresh (Nat.le_succ _))⟩
  rw [List.length_map, List.length_mergeSort]
  exact hz
/-! keys: a text and a whole number -/
abbrev KY := Str × Int
def keyD (k : KY) : PyData := .tuple [.str k.1, .int k.2]
def kfT (k : KY) : List Key := [Sum.inr k.1, Sum.inl k.2]
theorem kfT_inj (a b : KY) (h : kfT a = kfT b) : a = b := by
  unfold kfT at h
  injection h with h1 h2
  injection h2 with h2 _
  exact Prod.ext (Sum.inr.inj h1) (Sum.inl.inj h2)
def leK (x y : KY) : Bool := decide (x.1.cps.toList < y.1.cps.toList ∨ (x.1 = y.1 ∧ x.2 ≤ y.2))
theorem leK_iff {x y : KY} : leK x y = true ↔ x.1.cps.toList < y.1.cps.toList ∨ (x.1 = y.1 ∧ x.2 ≤ y.2) := decide_eq_true_iff
theorem lt_data (x y : KY) : PySem.W.dataLt (keyD x) (keyD y) = decide (x.1.cps.toList < y.1.cps.toList ∨ (x.1 = y.1 ∧ x.2 < y.2)) := by
  unfold keyD
  rw [PySem.W.dataLt_pair (by simp [PySem.W.alike]) (by simp [PySem.W.alike]), PySem.W.dataLt_str, PySem.W.dataLt_int]
  simp only [PyData.eqv, beq_iff_eq]
  by_cases h1 : x.1 = y.1
  · have h0 : ¬ y.1.cps.toList < y.1.cps.toList := List.lt_irrefl _
    by_cases h2 : x.2 = y.2 <;> simp [h1, h2, h0]
  · simp [h1]
theorem leK_data (x y : KY) : (!PySem.W.dataLt (keyD y) (keyD x)) = leK x y := by
  rw [lt_data]
  unfold leK
  rw [Bool.eq_iff_iff, Bool.not_eq_true', decide_eq_false_iff_not, decide_eq_true_iff]
  constructor
  · intro h
    by_cases h1 : x.1.cps.toList < y.1.cps.toList
    · exact .inl h1
    · have h2 : ¬ y.1.cps.toList < x.1.cps.toList := fun g => h (.inl g)
      have e : x.1 = y.1 := str_ext (List.le_antisymm (List.not_lt.mp h2) (List.not_lt.mp h1))
      exact .inr ⟨e, by
        by_cases h3 : y.2 < x.2
        · exact absurd (.inr ⟨e.symm, h3⟩) h
        · omega⟩
  · rintro (h | ⟨h1, h2⟩) (g | ⟨g1, g2⟩)
    · exact List.lt_irrefl _ (List.lt_trans h g)
    · rw [g1] at h; exact List.lt_irrefl _ h
    · rw [h1] at g; exact List.lt_irrefl _ g
    · omega
theorem leK_total (a b : KY) : (leK a b || leK b a) = true := by
  rw [Bool.or_eq_true, leK_iff, leK_iff]
  by_cases h1 : a.1.cps.toList < b.1.cps.toList
  · exact .inl (.inl h1)
  · by_cases h2 : b.1.cps.toList < a.1.cps.toList
    · exact .inr (.inl h2)
    · have e : a.1 = b.1 := str_ext (List.le_antisymm (List.not_lt.mp h2) (List.not_lt.mp h1))
      by_cases h3 : a.2 ≤ b.2
      · exact .inl (.inr ⟨e, h3⟩)
      · exact .inr (.inr ⟨e.symm, by omega⟩)
theorem leK_trans (a b c : KY) (h1 : leK a b = true) (h2 : leK b c = true) : leK a c = true := by
  rw [leK_iff] at *
  rcases h1 with h1 | ⟨h1, h1'⟩
  · rcases h2 with h2 | ⟨h2, h2'⟩
    · exact .inl (List.lt_trans h1 h2)
    · rw [← h2]; exact .inl h1
  · rcases h2 with h2 | ⟨h2, h2'⟩
    · rw [h1]; exact .inl h2
    · exact .inr ⟨h1.trans h2, by omega⟩
def sortK (ks : List KY) : List KY := ks.mergeSort leK
theorem sortK_perm (ks : List KY) : (sortK ks).Perm ks := List.mergeSort_perm ks leK
theorem sortK_pw (ks : List KY) : (sortK ks).Pairwise (fun a b => leK a b = true) := List.pairwise_mergeSort leK_trans leK_total ks
/-- a value that is a key's tuple -/
def KeyAt (G : Hp) (v : V) (k : KY) : Prop := ∃ b, v = .ref b ∧ G b = some (.tup [.str k.1, .int k.2])
theorem KeyAt.same {G G' : Hp} {v : V} {k : KY} (h : KeyAt G v k) (s : Same G G') : KeyAt G' v k := by
  obtain ⟨b, e, h1⟩ := h
  exact ⟨b, e, s _ _ h1⟩
theorem KeyAt.dp {K : PySem.W.Frag} {G : Hp} {v : V} {k : KY} (h : KeyAt G v k) : Dp K G v (keyD k) := by
  obtain ⟨b, rfl, h1⟩ := h
  exact .tup (.inl (.inl h1)) (.cons (.str _) (.cons (.int _) .nil))
theorem keys_alike (ks : List KY) : PySem.W.AllAlike (ks.map keyD) := fun d hd d' hd' => by
  obtain ⟨a, _, rfl⟩ := List.mem_map.mp hd
  obtain ⟨b, _, rfl⟩ := List.mem_map.mp hd'
  simp [keyD, PySem.W.alike, PySem.W.alikeAll]
theorem keys_sortable (ks : List KY) : PySem.W.Sortable (ks.map keyD) := .inl fun d hd => by
  obtain ⟨a, _, rfl⟩ := List.mem_map.mp hd
  exact ⟨_, _, rfl⟩
def sortZ (zs : List (V × KY)) : List (V × KY) := zs.mergeSort fun a b => leK a.2 b.2
theorem sortZ_perm (zs : List (V × KY)) : (sortZ zs).Perm zs := List.mergeSort_perm zs _
theorem sortZ_keys (zs : List (V × KY)) : (sortZ zs).map (·.2) = sortK (zs.map (·.2)) := by
  unfold sortZ sortK
  exact List.map_mergeSort (f := fun x : V × KY => x.2) (r := fun a b => leK a.2 b.2) (s := leK) (l := zs) (fun a _ b _ => rfl)
/-- sorted(keys) -/
theorem s_sortK {K : PySem.W.Frag} {H : Hp} {Q : VK} {a : Addr} {zs : List (V × KY)} (h : SqL K H a (zs.map (·.1))) (hz : ∀ x ∈ zs, KeyAt H x.1 x.2)
    (z : ∀ p : Addr, H p = none → Q (.ref p) (upd H p (.lst ((sortZ zs).map (·.1))))) : rSortDt K [.ref a] H Q := by
  refine ⟨a, zs.map fun x => (x.1, keyD x.2), rfl, by rw [List.map_map]; exact h, fun b hb => ?_, ?_, ?_, fun b hb => ?_, fun p np => ?_⟩
  · obtain ⟨x, hx, rfl⟩ := List.mem_map.mp hb
    exact (hz x hx).dp
  · rw [List.map_map]
    have := keys_alike (zs.map (·.2))
    rw [List.map_map] at this
    exact this
  · rw [List.map_map]
    have := keys_sortable (zs.map (·.2))
    rw [List.map_map] at this
    exact this
  · obtain ⟨x, hx, rfl⟩ := List.mem_map.mp hb
    show max 0 (max 0 0) + 1 ≤ 8
    omega
  · have e1 : (zs.map fun x => (x.1, keyD x.2)).mergeSort leV = (zs.mergeSort fun a b => leK a.2 b.2).map fun x => (x.1, keyD x.2) :=
      (List.map_mergeSort (f := fun x : V × KY => (x.1, keyD x.2)) (r := fun a b => leK a.2 b.2) (s := leV) (l := zs) (fun a _ b _ => (leK_data a.2 b.2).symm)).symm
    rw [e1, List.map_map]
    exact z p np
/-! dicts with such keys -/
def TD (K : PySem.W.Frag) (F H : Hp) (m : Addr) (L : List (KY × PyData)) : Prop := ∃ kvs : List (List Key × V), H m = some (.dT kvs) ∧ KVD K F kfT kvs L
section
variable {K : PySem.W.Frag} {F F' H H' : Hp} {m b : Addr} {v : V} {d : PyData} {L : List (KY × PyData)} {k : KY}
theorem TD.nil (h : H m = some (.dT [])) : TD K F H m [] := ⟨[], h, .nil⟩
theorem TD.ext (D : TD K F H m L) (s : Same F F') (s2 : Same H H') : TD K F' H' m L := by
  obtain ⟨kvs, h1, h2⟩ := D
  exact ⟨kvs, s2 _ _ h1, h2.same s⟩
theorem TD.get (D : TD K F H m L) (hb : H b = some (.tup [.str k.1, .int k.2])) : (lookL L k = none ∧ DGet H m (.ref b) none) ∨ ∃ d v, lookL L k = some d ∧ DGet H m (.ref b) (some v) ∧ Dp K F v d := by
  obtain ⟨kvs, h1, h2⟩ := D
  have g := DGet.t (k := kfT k) h1 (b := b) hb
  rcases h2.get kfT_inj (k := k) with ⟨e1, e2⟩ | ⟨d, v, e1, e2, h3⟩
  · rw [e2] at g; exact .inl ⟨e1, g⟩
  · rw [e2] at g; exact .inr ⟨d, v, e1, g, h3⟩
theorem TD.put (D : TD K F H m L) (hb : H b = some (.tup [.str k.1, .int k.2])) (hv : Dp K F v d) (hl : L.length ≤ 99999) : ∃ o, DPut H m (.ref b) v (upd H m o) ∧ TD K F (upd H m o) m (putL L k d) := by
  obtain ⟨kvs, h1, h2⟩ := D
  exact ⟨_, DPut.t (k := kfT k) (v := v) h1 hb (small5' (by rw [h2.len]; omega)), _, upd_same, h2.put kfT_inj hv⟩
theorem TD.isD (D : TD K F H m L) : IsD H m := by
  obtain ⟨kvs, h1, -⟩ := D
  exact .inr ⟨kvs, .inl h1⟩
end
/-! what is known of stretches -/
def stresL (t : Str) (i : Nat) : List Stre → List (KY × PyData)
  | [] => []
  | s :: ss => ((t, (i : Int)), streD s) :: stresL t (i + 1) ss
theorem stresL_app (t : Str) : ∀ (a b : List Stre) (i : Nat), stresL t i (a ++ b) = stresL t i a ++ stresL t (i + a.length) b
  | [], b, i => rfl
  | s :: a, b, i => by
    show _ :: stresL t (i + 1) (a ++ b) = _ :: _
    rw [stresL_app t a b (i + 1), List.length_cons, show i + 1 + a.length = i + (a.length + 1) by omega]
    rfl
theorem stresL_len (t : Str) : ∀ (a : List Stre) (i : Nat), (stresL t i a).length = a.length
  | [], _ => rfl
  | s :: a, i => by
    show (stresL t (i + 1) a).length + 1 = _
    rw [stresL_len t a, List.length_cons]
def putA {α : Type} [DecidableEq α] (L xs : List (α × PyData)) : List (α × PyData) := xs.foldl (fun L x => putL L x.1 x.2) L
theorem putA_app {α : Type} [DecidableEq α] (L xs ys : List (α × PyData)) : putA L (xs ++ ys) = putA (putA L xs) ys := List.foldl_append
theorem putA_len {α : Type} [DecidableEq α] : ∀ (xs L : List (α × PyData)), (putA L xs).length ≤ L.length + xs.length
  | [], L => Nat.le_refl _
  | x :: xs, L => by
    have h1 := putA_len xs (putL L x.1 x.2)
    have h2 := putL_len (L := L) (k := x.1) (d := x.2)
    show (putA (putL L x.1 x.2) xs).length ≤ _
    rw [List.length_cons]
    omega
def knownF (ps : List Piece) : List (KY × PyData) := ps.flatMap fun p => stresL p.name 0 p.stres
def knownL (ps : List Piece) : List (KY × PyData) := putA [] (knownF ps)
theorem putA_some {α : Type} [DecidableEq α] {k : α} : ∀ (xs L : List (α × PyData)), (lookL L k ≠ none ∨ k ∈ xs.map (·.1)) → lookL (putA L xs) k ≠ none
  | [], L, h => by
    rcases h with h | h
    · exact h
    · cases h
  | x :: xs, L, h => by
    refine putA_some xs (putL L x.1 x.2) ?_
    rw [lookL_put]
    by_cases e : k = x.1
    · rw [if_pos e]; exact .inl (fun z => by cases z)
    · rw [if_neg e]
      rcases h with h | h
      · exact .inl h
      · exact .inr ((List.mem_cons.mp h).resolve_left e)
theorem putA_all {α : Type} [DecidableEq α] {P : PyData → Prop} : ∀ (xs L : List (α × PyData)), (∀ x ∈ L, P x.2) → (∀ x ∈ xs, P x.2) → ∀ x ∈ putA L xs, P x.2
  | [], L, h, _ => h
  | y :: xs, L, h, hx => by
    refine putA_all xs (putL L y.1 y.2) (fun x hx2 => ?_) fun x hx2 => hx x (List.mem_cons_of_mem _ hx2)
    unfold putL at hx2
    split at hx2
    · obtain ⟨z, hz, rfl⟩ := List.mem_map.mp hx2
      by_cases e : z.1 = y.1
      · rw [if_pos e]; exact hx y List.mem_cons_self
      · rw [if_neg e]; exact h z hz
    · rcases List.mem_append.mp hx2 with hx2 | hx2
      · exact h x hx2
      · rw [List.mem_singleton.mp hx2]; exact hx y List.mem_cons_self
theorem look_mem' {α : Type} [DecidableEq α] {L : List (α × PyData)} {z : α} {d : PyData} (h : lookL L z = some d) : (z, d) ∈ L := by
  unfold lookL at h
  cases g : L.find? (fun x => decide (x.1 = z)) with
  | none => rw [g] at h; cases h
  | some x =>
    rw [g] at h
    cases h
    have h1 := List.find?_some g
    have h2 := List.mem_of_find?_eq_some g
    rw [← of_decide_eq_true h1]
    exact h2
theorem knownF_stre {ps : List Piece} {x : KY × PyData} (h : x ∈ knownF ps) : ∃ p ∈ ps, ∃ s ∈ p.stres, x.2 = streD s := by
  obtain ⟨p, hp, hx⟩ := List.mem_flatMap.mp h
  refine ⟨p, hp, ?_⟩
  have key : ∀ (ss : List Stre) (i : Nat), x ∈ stresL p.name i ss → ∃ s ∈ ss, x.2 = streD s := by
    intro ss
    induction ss with
    | nil => intro i h; cases h
    | cons s ss ih =>
      intro i h
      rcases List.mem_cons.mp h with rfl | h
      · exact ⟨s, List.mem_cons_self, rfl⟩
      · obtain ⟨s', h1, h2⟩ := ih _ h
        exact ⟨s', List.mem_cons_of_mem _ h1, h2⟩
  exact key _ _ hx
theorem knownL_stre {ps : List Piece} {P : Stre → Prop} (hP : ∀ p ∈ ps, ∀ s ∈ p.stres, P s) {k : KY} {d : PyData} (h : lookL (knownL ps) k = some d) : ∃ s, P s ∧ d = streD s := by
  have := putA_all (P := fun d => ∃ s, P s ∧ d = streD s) (knownF ps) [] (fun _ h => nomatch h) (fun x hx => by
    obtain ⟨p, hp, s, hs, e⟩ := knownF_stre hx
    exact ⟨s, hP p hp s hs, e⟩) _ (look_mem' h)
  exact this
end Jl

/-! max of a list of whole numbers with a default -/
namespace Jl
open PySem L2 PySem.Spec PyProof.Rows
section
variable {prog : Program} {w : World} {A : Around}
theorem mx_gt {a b : Int} {t u : Tok} {s : Shared} {Q : Value → Shared → Prop} {E : Value → Shared → Prop} (z : Q (.bool (decide (a > b))) s) : wpAny (model prog w) A (richCompare .Gt (.int a t) (.int b u)) Q E s :=
  CmpOf.ints_gt (P := fun i v => v = if i = 0 then Value.int a t else Value.int b u) (fun i => if i = 0 then a else b) (fun i v e => by
    by_cases h : i = 0
    · exact ⟨t, by rw [e, if_pos h, if_pos h]⟩
    · exact ⟨u, by rw [e, if_neg h, if_neg h]⟩) 0 1 _ _ s Q E rfl rfl z
theorem mx_word : (toString "max" ++ toString ".loop" : String) = "max.loop" := by decide
variable {R : Result → Shared → Prop} {it l box : Addr} {kw : List (Str × Value)} {xs : Array (Int × Tok)}
/-- what max keeps from turn to turn: the greatest of the first j -/
def MxTop (xs : Array (Int × Tok)) (j : Nat) (m : Int) : Prop := (∃ i, i < j ∧ numAt xs i = m) ∧ ∀ i, i < j → numAt xs i ≤ m
theorem mx_run (hd : A.handled = none) (ne : l ≠ it) (n1 : box ≠ it) (n2 : box ≠ l) : ∀ (r j : Nat) (s : Shared) (m : Int) (t : Tok) (e : Nat), xs.size - j = r → 0 < j → j ≤ xs.size → MxTop xs j m →
    s.heap.IsListIter it l j → s.heap.IsList l (intItems xs) → s.heap.get? box = some { cls := .type "list", dict := none, data := .seq #[.int m t, .int m t] e, slots := #[] } →
    (∀ g tk M u, MxTop xs xs.size M → (∀ b o, b ≠ it → b ≠ box → s.heap.get? b = some o → g.get? b = some o) → R (.ok (.ret (.int M u))) { s with heap := g, toks := tk }) →
    codeAny (model prog w) A (.builtin "max.loop" ⟨[.ref it, .none, .ref box], kw⟩) R s := by
  intro r
  have W := Walks.list (prog := prog) (w := w) (A := A.in1) hd it l ne (intItems xs)
  have esz : (intItems xs).size = xs.size := by simp [intItems]
  have nw : ∀ {b : Addr}, b ≠ it → b ∉ [it] := fun h g => h (List.mem_singleton.mp g)
  induction r with
  | zero =>
    intro j s m t e h1 h2 h3 tp si sl sb fin
    have ej : j = xs.size := by omega
    refine codeAny_builtin F.entry_max_loop ?_
    rw [Around.under_plainId F.plain_max_loop _]
    show wpAny _ A.in1 (seqItems? (.ref box) >>= _) _ _ _
    refine wpAny_bind (wpAny_seqItems sb rfl ?_)
    show wpAny _ A.in1 (tryCatch (pyNext (.ref it)) _ >>= _) _ _ _
    refine wpAny_bind (wpAny_tryCatch (W.done _ _ _ ⟨by rw [esz, ← ej]; exact si, sl⟩ fun g tk hk => ?_))
    have sb2 := hk box _ (nw n1) sb
    show wpAny _ A.in1 (updateSeq box (fun _ => #[]) >>= _) _ _ _
    refine wpAny_bind ?_
    refine wpAny_updateSeq sb2 rfl (wpAny_bind (wpAny_letGo (wpAny_pure ?_)))
    exact fin _ tk m t (ej ▸ tp) fun b o q1 q2 q3 => (Heap.get?_update_other _ _ q2.symm).trans (hk b o (nw q1) q3)
  | succ r ih =>
    intro j s m t e h1 h2 h3 tp si sl sb fin
    have hj : j < xs.size := by omega
    refine codeAny_builtin F.entry_max_loop ?_
    rw [Around.under_plainId F.plain_max_loop _]
    show wpAny _ A.in1 (seqItems? (.ref box) >>= _) _ _ _
    refine wpAny_bind (wpAny_seqItems sb rfl ?_)
    show wpAny _ A.in1 (tryCatch (pyNext (.ref it)) _ >>= _) _ _ _
    refine wpAny_bind (wpAny_tryCatch (W.item j _ _ _ (by rw [esz]; exact hj) ⟨si, sl⟩ fun v g tk hv st hk => ?_))
    obtain ⟨u, rfl⟩ := intItems_at hv
    have sb2 := hk box _ (nw n1) sb
    show wpAny _ A.in1 (tryCatch (holding [_, _] (richCompare .Gt _ _ >>= _)) _ >>= _) _ _ _
    refine wpAny_bind (wpAny_tryCatch (wpAny_holding (wpAny_bind (mx_gt ?_))))
    refine wpAny_bind (wpAny_holding (wpAny_truthy_bool ?_))
    refine wpAny_bind (wpAny_letGo (wpAny_pure ?_))
    by_cases hc : numAt xs j > m
    · rw [decide_eq_true hc]
      simp only [if_true]
      refine wpAny_bind ?_
      refine wpAny_updateSeq sb2 rfl (wpAny_bind (wpAny_letGo ?_))
      rw [mx_word]
      refine wpAny_pure ⟨plainId_quiet F.plain_max_loop _, ih (j + 1) _ (numAt xs j) u _ (by omega) (Nat.succ_pos _) hj ⟨⟨j, Nat.lt_succ_self _, rfl⟩, fun i hi => ?_⟩ (st.1.at fun o q => (Heap.get?_update_other _ _ n1).trans q) (st.2.at fun o q => (Heap.get?_update_other _ _ n2).trans q) (Heap.get?_update_self _ sb2 rfl) fun g2 tk2 M u2 q1 q2 => ?_⟩
      · rcases Nat.lt_or_ge i j with q | q
        · have := tp.2 i q; omega
        · rw [show i = j by omega]; exact Int.le_refl _
      · exact fin g2 tk2 M u2 q1 fun b o q3 q4 q5 => q2 b o q3 q4 ((Heap.get?_update_other _ _ q4.symm).trans (hk b o (nw q3) q5))
    · rw [decide_eq_false hc]
      simp only [Bool.false_eq_true, if_false]
      refine wpAny_bind (wpAny_letGo ?_)
      rw [mx_word]
      refine wpAny_pure ⟨plainId_quiet F.plain_max_loop _, ih (j + 1) _ m t e (by omega) (Nat.succ_pos _) hj ⟨?_, fun i hi => ?_⟩ st.1 st.2 sb2 fun g2 tk2 M u2 q1 q2 => ?_⟩
      · obtain ⟨i, q1, q2⟩ := tp.1
        exact ⟨i, Nat.lt_succ_of_lt q1, q2⟩
      · rcases Nat.lt_or_ge i j with q | q
        · exact tp.2 i q
        · rw [show i = j by omega]; omega
      · exact fin g2 tk2 M u2 q1 fun b o q3 q4 q5 => q2 b o q3 q4 (hk b o (nw q3) q5)
/-- the first turn: a number, or the default -/
theorem mx_begin (hd : A.handled = none) (ne : l ≠ it) (n1 : box ≠ it) (n2 : box ≠ l) {s : Shared} {e : Nat} {d : Value} {x : Str}
    (si : s.heap.IsListIter it l 0) (sl : s.heap.IsList l (intItems xs)) (sb : s.heap.get? box = some { cls := .type "list", dict := none, data := .seq #[] e, slots := #[] })
    (f0 : xs.size = 0 → ∀ g tk, (∀ b o, b ≠ it → b ≠ box → s.heap.get? b = some o → g.get? b = some o) → R (.ok (.ret d)) { s with heap := g, toks := tk })
    (f1 : ∀ g tk M u, MxTop xs xs.size M → (∀ b o, b ≠ it → b ≠ box → s.heap.get? b = some o → g.get? b = some o) → R (.ok (.ret (.int M u))) { s with heap := g, toks := tk }) :
    codeAny (model prog w) A (.builtin "max.loop" ⟨[.ref it, .none, .ref box], [(x, d)]⟩) R s := by
  have W := Walks.list (prog := prog) (w := w) (A := A.in1) hd it l ne (intItems xs)
  have esz : (intItems xs).size = xs.size := by simp [intItems]
  have nw : ∀ {b : Addr}, b ≠ it → b ∉ [it] := fun h g => h (List.mem_singleton.mp g)
  refine codeAny_builtin F.entry_max_loop ?_
  rw [Around.under_plainId F.plain_max_loop _]
  show wpAny _ A.in1 (seqItems? (.ref box) >>= _) _ _ _
  refine wpAny_bind (wpAny_seqItems sb rfl ?_)
  show wpAny _ A.in1 (tryCatch (pyNext (.ref it)) _ >>= _) _ _ _
  rcases Nat.eq_zero_or_pos xs.size with h0 | h0
  · refine wpAny_bind (wpAny_tryCatch (W.done _ _ _ ⟨by rw [esz, h0]; exact si, sl⟩ fun g tk hk => ?_))
    show wpAny _ A.in1 (rule _ >>= _) _ _ _
    refine wpAny_bind (wpAny_rule ?_)
    exact wpAny_pure (f0 h0 g tk fun b o q1 q2 q3 => hk b o (nw q1) q3)
  · refine wpAny_bind (wpAny_tryCatch (W.item 0 _ _ _ (by rw [esz]; exact h0) ⟨si, sl⟩ fun v g tk hv st hk => ?_))
    obtain ⟨u, rfl⟩ := intItems_at hv
    have sb2 := hk box _ (nw n1) sb
    show wpAny _ A.in1 (updateSeq box (fun _ => #[_, _]) >>= _) _ _ _
    refine wpAny_bind ?_
    refine wpAny_updateSeq sb2 rfl ?_
    rw [mx_word]
    refine wpAny_pure ⟨plainId_quiet F.plain_max_loop _, mx_run hd ne n1 n2 (xs.size - 1) 1 _ (numAt xs 0) u _ rfl (by decide) h0 ⟨⟨0, by decide, rfl⟩, fun i hi => ?_⟩ (st.1.at fun o q => (Heap.get?_update_other _ _ n1).trans q) (st.2.at fun o q => (Heap.get?_update_other _ _ n2).trans q) (Heap.get?_update_self _ sb2 rfl) fun g2 tk2 M u2 q1 q2 => ?_⟩
    · rw [show i = 0 by omega]; exact Int.le_refl _
    · exact f1 g2 tk2 M u2 q1 fun b o q3 q4 q5 => q2 b o q3 q4 ((Heap.get?_update_other _ _ q4.symm).trans (hk b o (nw q3) q5))
theorem mx_args (a v : Value) : argsOk "max" ⟨[a], [(Str.ofString "default", v)]⟩ := by unfold argsOk; kernel_rfl
theorem mx_call {s : Shared} {E : Value → Shared → Prop} {Q : Value → Shared → Prop} {d : Value} (hd : A.handled = none) (sl : s.heap.IsList l (intItems xs))
    (f0 : xs.size = 0 → ∀ g tk, (∀ b o, s.heap.get? b = some o → g.get? b = some o) → Q d { s with heap := g, toks := tk })
    (f1 : ∀ g tk M u, MxTop xs xs.size M → (∀ b o, s.heap.get? b = some o → g.get? b = some o) → Q (.int M u) { s with heap := g, toks := tk }) :
    wpAny (model prog w) A (call (.builtin "max") [.ref l] [(Str.ofString "default", d)]) Q E s := by
  have hlt : l < s.heap.objs.size := by obtain ⟨_, e, _⟩ := sl; exact Heap.lt_size e
  refine kmk_tree F.kind_max F.plain_max F.entry_max (mx_args _ _) ?_
  have eb : Builtin.Builtins.bindParams "max" ["key", "default"] 0 ⟨[], [(Str.ofString "default", d)]⟩ = pure [none, some d] := rfl
  show wpAny _ A.in1 (Builtin.Builtins.bindParams "max" ["key", "default"] 0 ⟨[], _⟩ >>= _) _ _ _
  refine wpAny_bind (wpAny_of_eq eb ?_)
  refine wpAny_bind (wpAny_pure ?_)
  refine wpAny_bind (wpAny_pyIter_list sl ?_)
  refine wpAny_bind (wpAny_newList ?_ (Nat.zero_le _))
  rw [mx_word]
  have hS : (s.heap.push { cls := .type "list_iterator", data := .fields #[.ref l, .int 0 0] }).objs.size = s.heap.objs.size + 1 := Heap.size_push ..
  have n1 : (s.heap.push { cls := .type "list_iterator", data := .fields #[.ref l, .int 0 0] }).objs.size ≠ s.heap.objs.size := by rw [hS]; exact Nat.succ_ne_self _
  have n2 : (s.heap.push { cls := .type "list_iterator", data := .fields #[.ref l, .int 0 0] }).objs.size ≠ l := by rw [hS]; exact (Nat.ne_of_lt (Nat.lt_succ_of_lt hlt)).symm
  have old : ∀ {g : Heap}, (∀ b o, b ≠ s.heap.objs.size → b ≠ (s.heap.push { cls := .type "list_iterator", data := .fields #[.ref l, .int 0 0] }).objs.size → ((s.heap.push { cls := .type "list_iterator", data := .fields #[.ref l, .int 0 0] }).push (seqObj "list" #[] 0)).get? b = some o → g.get? b = some o) → ∀ b o, s.heap.get? b = some o → g.get? b = some o := fun h b o q =>
    h b o (Nat.ne_of_lt (Heap.lt_size q)) (by rw [hS]; exact Nat.ne_of_lt (Nat.lt_succ_of_lt (Heap.lt_size q))) (Heap.get?_push_of_some _ (Heap.get?_push_of_some _ q))
  refine wpAny_pure ⟨plainId_quiet F.plain_max_loop _, ?_⟩
  exact mx_begin hd (Nat.ne_of_lt hlt) n1 n2 ⟨_, Heap.get?_push_of_some _ (Heap.get?_push_size _ rfl), rfl, rfl⟩ ((sl.push _).push _) (Heap.get?_push_size _ rfl) (fun h0 g tk hk => f0 h0 g tk (old hk)) fun g tk M u h1 hk => f1 g tk M u h1 (old hk)
end
/-- max(xs, default=d) -/
def rMaxDf (K : PySem.W.Frag) : List V → List V → Hp → VK → Prop := fun vs zs H Q => ∃ (a : Addr) (ns : List Int) (d : Int), vs = [.ref a] ∧ zs = [.int d] ∧ SqL K H a (ns.map V.int) ∧ ∀ m, (ns = [] ∧ m = d ∨ m ∈ ns ∧ ∀ y ∈ ns, y ≤ m) → Q (.int m) H
theorem cr_maxDf {X : Cx} (hc : X.calm = true) : CallRK X (.builtin "max") [Str.ofString "default"] (rMaxDf X.K) := by
  intro pins s σ H vs zs us ws Q I r rz h
  obtain ⟨a, ns, d, rfl, rfl, hs, q⟩ := h
  obtain ⟨its, rv, hl, _⟩ := I.list hs
  obtain rfl := Vals.ref1 r
  obtain ⟨w1, rfl, e1⟩ := vals1 rz
  obtain ⟨td, rfl⟩ : ∃ t, w1 = Value.int d t := e1
  have hi := rv.ints
  obtain ⟨xs, e⟩ := hi.allInts.items
  have hn : ns = xs.toList.map (·.1) := by rw [← hi.numsOf, ← nums_intItems, ← e]
  have hl2 := hl.isList
  rw [e] at hl2
  refine mx_call (I.ok.hd hc) hl2 (fun h0 g tk hk => ⟨.int _, H, I.kept hk, ⟨_, rfl⟩, q d (.inl ⟨?_, rfl⟩)⟩) (fun g tk M u hM hk => ⟨.int _, H, I.kept hk, ⟨_, rfl⟩, q M (.inr ⟨?_, fun y hy => ?_⟩)⟩)
  · rw [hn, Array.eq_empty_of_size_eq_zero h0]; rfl
  · obtain ⟨⟨i, h1, h2⟩, -⟩ := hM
    rw [← h2, hn, numAt_eq]
    exact PySem.getD_mem (by rw [List.length_map, Array.length_toList]; exact h1)
  · rw [hn] at hy
    obtain ⟨j, hj, rfl⟩ := mem_getD hy
    rw [List.length_map, Array.length_toList] at hj
    rw [← numAt_eq]
    exact hM.2 j hj
end Jl

/-! Pieces drawn for laying out; keys; where stretches lie. -/
namespace Jl
open PySem L2 PySem.Spec PyProof.Rows
section
variable {K : PySem.W.Frag} {H H' B F : Hp} {P a : Addr} {X : List Addr} {o : HO}
/-- a cell beside is written -/
theorem BP.updX {ps : List Piece} (h : BP K B F H P X ps) (ha : a ∈ X) : BP K B F (upd H a o) P X ps := by
  have ne : ∀ {b : Addr} {A1 A2 : List Addr}, (A1 ++ b :: A2).Nodup → X ⊆ A2 → b ≠ a := fun nd hs e => by
    rw [List.nodup_append] at nd
    exact (List.nodup_cons.mp nd.2.1).1 (hs (e ▸ ha))
  rcases h with ⟨rfl, h3, c⟩ | ⟨ps0, nm, ss, ns, xs, t, S, N, nv, rfl, h1, h2, h3, h4, h5, l⟩
  · exact .inl ⟨rfl, by rw [upd_ne (ne (A1 := []) c.nd fun _ h => h)]; exact h3, c.upd (List.mem_cons_of_mem _ ha)⟩
  · obtain ⟨A, cl⟩ := l.act
    have nd := cl.nd
    have nP : P ≠ a := ne (A1 := A ++ [S, N]) (A2 := X) (by rw [List.append_assoc]; exact nd) fun _ h => h
    have nN : N ≠ a := ne (A1 := A ++ [S]) (A2 := P :: X) (by rw [List.append_assoc]; exact nd) fun _ h => List.mem_cons_of_mem _ h
    have nS : S ≠ a := ne (A1 := A) (A2 := N :: P :: X) nd fun _ h => List.mem_cons_of_mem _ (List.mem_cons_of_mem _ h)
    refine .inr ⟨ps0, nm, ss, ns, xs, t, S, N, nv, rfl, by rw [upd_ne nP]; exact h1, h2, h3, by rw [upd_ne nN]; exact h4, h5, ?_⟩
    rcases l with ⟨rfl, l1, c⟩ | ⟨ss0, kind, step, ws, fs, sv, u, W, G, gv, rfl, g1, g2, g3, g4, g5, g6, c⟩
    · exact .inl ⟨rfl, by rw [upd_ne nS]; exact l1, c.upd (List.mem_cons_of_mem _ (List.mem_cons_of_mem _ (List.mem_cons_of_mem _ ha)))⟩
    · have ndc := c.nd
      have nW : W ≠ a := ne (A1 := []) (A2 := G :: S :: N :: P :: X) ndc fun _ h => List.mem_cons_of_mem _ (List.mem_cons_of_mem _ (List.mem_cons_of_mem _ (List.mem_cons_of_mem _ h)))
      have nG : G ≠ a := ne (A1 := [W]) (A2 := S :: N :: P :: X) ndc fun _ h => List.mem_cons_of_mem _ (List.mem_cons_of_mem _ (List.mem_cons_of_mem _ h))
      exact .inr ⟨ss0, kind, step, ws, fs, sv, u, W, G, gv, rfl, by rw [upd_ne nS]; exact g1, g2, g3, by rw [upd_ne nW]; exact g4, by rw [upd_ne nG]; exact g5, g6, c.upd (by simp [ha])⟩
/-- a stretch with its words is put behind -/
theorem BP.streW {ps0 : List Piece} {nm : Str} {ss : List Stre} {ns : List Nam} (h : BP K B F H P X (ps0 ++ [⟨nm, ss, ns⟩])) {W G u : Addr} {kind : Str} {step : Int} {ws : List Int} (hW : H W = none) (hG : upd H W (.lst (ws.map V.int)) G = none) (hu : upd (upd H W (.lst (ws.map V.int))) G (.lst []) u = none) :
    ∃ xs t S N sv, H P = some (.lst (xs ++ [.ref t])) ∧ H t = some (.tup [.str nm, .ref S, .ref N]) ∧ H S = some (.lst sv) ∧ sv.length = ss.length ∧ (upd (upd (upd H W (.lst (ws.map V.int))) G (.lst [])) u (.tup [.str kind, .int step, .ref W, .ref G])) S = some (.lst sv) ∧
    ∃ F', Same F F' ∧ BP K B F' (upd (upd (upd (upd H W (.lst (ws.map V.int))) G (.lst [])) u (.tup [.str kind, .int step, .ref W, .ref G])) S (.lst (sv ++ [.ref u]))) P X (ps0 ++ [⟨nm, ss ++ [⟨kind, step, ws, []⟩], ns⟩]) := by
  obtain ⟨xs, t, S, N, nv, h1, h2, h3, h4, h5, l⟩ := h.open_
  have ht := h.ext _ _ h3
  obtain ⟨F1, sv, f1, c1, hS, hsv⟩ := l.close
  have c2 := c1.newA (o := .lst (ws.map V.int)) hW
  have c3 := c2.newA (o := .lst []) hG
  have c4 := c3.new (o := .tup [.str kind, .int step, .ref W, .ref G]) hu
  have f4 := same_upd (o := .tup [.str kind, .int step, .ref W, .ref G]) (c3.ext.free hu)
  have s := (same_upd (o := .lst (ws.map V.int)) hW).trans ((same_upd (o := .lst []) hG).trans (same_upd (o := .tup [.str kind, .int step, .ref W, .ref G]) hu))
  have c5 := c4.upd (a := S) (o := .lst (sv ++ [.ref u])) (by simp)
  have nd := c4.nd
  have f14 := f1.trans f4
  refine ⟨xs, t, S, N, sv, h1, ht, hS, da_length hsv, s _ _ hS, _, f14, .inr ⟨ps0, nm, _, ns, xs, t, S, N, nv, rfl, ?_, dps_same f14 h2, f14 _ _ h3, ?_, dps_same f14 h5, .inr ⟨ss, kind, step, ws, [], sv, u, W, G, [], rfl, upd_same, dps_same f4 hsv, upd_same, ?_, ?_, .nil, c5.perm (List.Perm.swap ..)⟩⟩⟩
  · rw [upd_ne (nd_ne nd 2 4 (by decide) rfl rfl).symm]; exact s _ _ h1
  · rw [upd_ne (nd_ne nd 2 3 (by decide) rfl rfl).symm]; exact s _ _ h4
  · rw [upd_ne (nd_ne nd 1 2 (by decide) rfl rfl)]
    exact same_upd hu _ _ (same_upd hG _ _ upd_same)
  · rw [upd_ne (nd_ne nd 0 2 (by decide) rfl rfl)]
    exact same_upd hu _ _ upd_same
end
section
variable {K : PySem.W.Frag} {H B F : Hp} {P b t S N : Addr} {X : List Addr} {ps0 ps : List Piece} {nm : Str} {ss : List Stre} {ns : List Nam} {xs : List V}
theorem BP.neP (h : BP K B F H P X ps) (hb : b ∈ X) : b ≠ P := fun e => by
  obtain ⟨A, c⟩ := h.act
  have nd := c.nd
  rw [List.nodup_append] at nd
  exact (List.nodup_cons.mp nd.2.1).1 (e ▸ hb)
theorem BP.neS (h : BP K B F H P X (ps0 ++ [⟨nm, ss, ns⟩])) (h1 : H P = some (.lst (xs ++ [.ref t]))) (h2 : H t = some (.tup [.str nm, .ref S, .ref N])) (hb : b ∈ X) : b ≠ S := fun e => by
  obtain ⟨xs', t', S', N', nv, g1, _, g3, _, _, l⟩ := h.open_
  obtain ⟨-, rfl⟩ := last_uniq h1 g1
  have g3 := h.ext _ _ g3
  rw [h2] at g3
  cases g3
  obtain ⟨A, c⟩ := l.act
  have nd := c.nd
  rw [List.nodup_append] at nd
  exact (List.nodup_cons.mp nd.2.1).1 (List.mem_cons_of_mem _ (List.mem_cons_of_mem _ (e ▸ hb)))
end
section
variable {K : PySem.W.Frag} {σ : L2.St} {H : Hp} {nx bk ct : L2.St → Hp → Prop} {rt : VK} {tu : TS}
/-- a loop over a list that was made for it; cells are written -/
theorem s_forNew {g : TG} {tl : TE} {xs : List V} (M : Addr → Hp → Prop) (Pv : Addr → Nat → L2.St → Hp → Prop) (ha : ∀ R : VK, (∀ a H1, M a H1 → R (.ref a) H1) → tl σ H R) (h0 : ∀ a H1, M a H1 → SqL K H1 a xs ∧ Pv a 0 σ H1)
    (hl : ∀ a i σ' H', i ≤ xs.length → Pv a i σ' H' → SqL K H' a xs)
    (hs : ∀ a (i : Nat) x σ' H', xs[i]? = some x → Pv a i σ' H' → g x σ' H' fun σ2 H2 => tu ⟨Pv a (i + 1), rt, nx, Pv a (i + 1)⟩ σ2 H2) (hd : ∀ a σ' H', Pv a xs.length σ' H' → nx σ' H') : tFor (iList K tl) g tu ⟨nx, rt, bk, ct⟩ σ H := by
  refine ha _ fun a H1 hM => ?_
  obtain ⟨h1, h2⟩ := h0 a H1 hM
  exact ⟨a, rfl, ⟨xs, h1⟩, for_list (xs := xs) (Pv a) h2 (hl a) (fun i x σ' H' hi h => hs a i x σ' H' hi h) (hd a)⟩
/-- the same, the list's items told by what is made -/
theorem s_forAny {g : TG} {tl : TE} (M : Addr → List V → Hp → Prop) (Pv : Addr → List V → Nat → L2.St → Hp → Prop) (ha : ∀ R : VK, (∀ a xs H1, M a xs H1 → R (.ref a) H1) → tl σ H R) (h0 : ∀ a xs H1, M a xs H1 → SqL K H1 a xs ∧ Pv a xs 0 σ H1)
    (hl : ∀ a xs i σ' H', i ≤ xs.length → Pv a xs i σ' H' → SqL K H' a xs)
    (hs : ∀ a xs (i : Nat) x σ' H', xs[i]? = some x → Pv a xs i σ' H' → g x σ' H' fun σ2 H2 => tu ⟨Pv a xs (i + 1), rt, nx, Pv a xs (i + 1)⟩ σ2 H2) (hd : ∀ a xs σ' H', Pv a xs xs.length σ' H' → nx σ' H') : tFor (iList K tl) g tu ⟨nx, rt, bk, ct⟩ σ H := by
  refine ha _ fun a xs H1 hM => ?_
  obtain ⟨h1, h2⟩ := h0 a xs H1 hM
  exact ⟨a, rfl, ⟨xs, h1⟩, for_list (xs := xs) (Pv a xs) h2 (hl a xs) (fun i x σ' H' hi h => hs a xs i x σ' H' hi h) (hd a xs)⟩
end
section
variable {K : PySem.W.Frag} {σ : L2.St} {H B G : Hp} {Q : VK} {A : List Addr}
theorem s_lcH {g : TG} {tt : TT} {te tl : TE} {vs : List Nat} {xs : List V} (c0 : Act B G H A) (d : Nat → Option PyData) (hl : xs.length ≤ 100000) (ha : ∀ R : VK, (∀ a G1 H1, Act B G1 H1 A → Same G G1 → Same H H1 → SqL K G1 a xs → R (.ref a) H1) → tl σ H R)
    (hs : ∀ (i : Nat) x D G1 H1 (Rs : VK) (Rn : Hp → Prop), xs[i]? = some x → Act B G1 H1 (D :: A) → Same G G1 → Same H H1 → (∀ v G2 H2 dd, Same G1 G2 → Act B G2 H2 (D :: A) → Same H1 H2 → d i = some dd → Dp K G2 v dd → Rs v H2) → (∀ G2 H2, Same G1 G2 → Act B G2 H2 (D :: A) → Same H1 H2 → d i = none → Rn H2) →
      g x (wipe σ vs) H1 fun σ2 H2 => wipe σ2 vs = wipe σ vs ∧ tt σ2 H2 fun b H3 => if b = true then te σ2 H3 Rs else Rn H3)
    (z : ∀ p G1 H1 us, Act B G1 H1 (p :: A) → Same G G1 → Same H H1 → H1 p = some (.lst us) → DpAll K G1 us ((List.range xs.length).filterMap d) → us.length ≤ xs.length → Q (.ref p) H1) : tLc (iList K tl) g tt te vs σ H Q := by
  refine ha _ fun a G0 H0 cA sG0 s0 hx => ⟨a, rfl, ⟨xs, cA.ext.seq hx⟩, fun D hD => ?_⟩
  have cD := cA.newA (o := .lst []) hD
  refine lc_list (xs := xs) (fun i H' => i ≤ xs.length ∧ ∃ G1 us, Same G0 G1 ∧ Same H0 H' ∧ Act B G1 H' (D :: A) ∧ H' D = some (.lst us) ∧ us.length ≤ i ∧ DpAll K G1 us ((List.range i).filterMap d)) ⟨Nat.zero_le _, G0, [], Same.refl _, same_upd hD, cD, upd_same, Nat.le_refl _, .nil⟩ (fun i H' _ h => ?_) (fun i x H1 hi h => ?_) (fun H1 h => ?_)
  · obtain ⟨_, G1, us, sG, _, c, _⟩ := h
    exact c.ext.seq (sG.seq hx)
  · obtain ⟨_, G1, us, sG, sH, c, hus, hul, hda⟩ := h
    have hi' : i < xs.length := (List.getElem?_eq_some_iff.mp hi).1
    refine hs i x D G1 H1 _ _ hi c (sG0.trans sG) (s0.trans sH) (fun v G2 H2 dd sG2 c2 s12 hd hv => ?_) (fun G2 H2 sG2 c2 s12 hd => ?_)
    · refine ⟨us, s12 _ _ hus, small5' (by omega), hi', G2, us ++ [v], sG.trans sG2, same_mut (sH.trans s12) hD, c2.upd (by simp), upd_same, by rw [List.length_append, List.length_singleton]; omega, ?_⟩
      rw [List.range_succ, List.filterMap_append]
      refine da_app (dps_same sG2 hda) ?_
      show DpAll K G2 [v] ([i].filterMap d)
      rw [List.filterMap_cons, hd]
      exact da_one hv
    · refine ⟨hi', G2, us, sG.trans sG2, sH.trans s12, c2, s12 _ _ hus, by omega, ?_⟩
      rw [List.range_succ, List.filterMap_append]
      show DpAll K G2 us (_ ++ [i].filterMap d)
      rw [List.filterMap_cons, hd]
      show DpAll K G2 us (_ ++ [])
      rw [List.append_nil]
      exact dps_same sG2 hda
  · obtain ⟨_, G1, us, sG, sH, c, hus, hul, hda⟩ := h
    exact z D G1 H1 us c (sG0.trans sG) (s0.trans sH) hus hda hul
theorem Act.ice {p : Addr} {o : HO} (c : Act B G H (p :: A)) (e : H p = some o) : ∃ G', Act B G' H A ∧ Same G G' ∧ G' p = some o := ⟨_, c.fz e, c.fz_same, upd_same⟩
end
theorem s_ckw {σ : L2.St} {H : Hp} {Q : VK} {r : List V → List V → Hp → VK → Prop} {t tk : TA} (z : t σ H fun vs H1 => tk σ H1 fun zs H2 => r vs zs H2 Q) : tCKw r t tk σ H Q := z
theorem rep_ints (n : Nat) (x : Int) : (List.replicate n [V.int x]).flatten = (List.replicate n x).map V.int := by
  induction n with
  | zero => rfl
  | succ n ih => rw [List.replicate_succ, List.flatten_cons, ih, List.replicate_succ]; rfl
theorem cutV_from (xs : List V) (i : Nat) (h : i ≤ xs.length) : cutV xs (some (i : Int)) none = xs.drop i := by
  unfold cutV
  rw [HT.sIx_nat, HT.sIx_none, Nat.min_eq_left h]
  exact List.take_of_length_le (by rw [List.length_drop]; omega)
theorem cutV_to (xs : List V) (i : Nat) (h : i ≤ xs.length) : cutV xs none (some (i : Int)) = xs.take i := by
  unfold cutV
  rw [HT.sIx_nat, HT.sIx_none, Nat.min_eq_left h, List.drop_zero, Nat.sub_zero]
/-! names by a base with figures in it -/
def nqIx (c : Int) (j : Nat) : Int := (c / ((j : Int) + 3) + (j : Int) * (j : Int)) % (37 - 11 * (if (j : Int) = 0 then 1 else 0))
def nqB (c : Int) : List Nat := (List.range (1 + c % 13).toNat).map fun j => sgns.cps.toList.getD (nqIx c j).toNat 0
def nqF (c k : Int) : Str := if c / 169 % 2 = 1 then Txt.zfill (toString (k % 400)) 3 else toString (k % 400)
def nqAt (c : Int) : Nat := (1 + c / 13 % (1 + c % 13)).toNat
def nqL (c k : Int) : List Nat := (nqB c).take (nqAt c) ++ (nqF c k).cps.toList ++ (nqB c).drop (nqAt c)
def nqT (c k : Int) : Str := ⟨(nqL c k).toArray⟩
theorem nqIx_ok (c : Int) (j : Nat) : 0 ≤ nqIx c j ∧ nqIx c j < 37 := by
  unfold nqIx
  by_cases h : (j : Int) = 0
  · rw [if_pos h]
    have h1 := Int.emod_nonneg (c / ((j : Int) + 3) + (j : Int) * (j : Int)) (show (37 - 11 * 1 : Int) ≠ 0 by decide)
    have h2 := Int.emod_lt_of_pos (c / ((j : Int) + 3) + (j : Int) * (j : Int)) (show (0 : Int) < 37 - 11 * 1 by decide)
    omega
  · rw [if_neg h]
    have h1 := Int.emod_nonneg (c / ((j : Int) + 3) + (j : Int) * (j : Int)) (show (37 - 11 * 0 : Int) ≠ 0 by decide)
    have h2 := Int.emod_lt_of_pos (c / ((j : Int) + 3) + (j : Int) * (j : Int)) (show (0 : Int) < 37 - 11 * 0 by decide)
    omega
theorem nqB_len (c : Int) : (nqB c).length = (1 + c % 13).toNat := by unfold nqB; rw [List.length_map, List.length_range]
theorem fig_ok (b : Bool) : ∀ n : Nat, n < 101 → (if b then Txt.zfill (toString (n : Int)) 3 else toString (n : Int) : Str).cps.toList.all (fun x => decide (x < 128)) = true ∧ (if b then Txt.zfill (toString (n : Int)) 3 else toString (n : Int) : Str).cps.toList.length ≤ 3 := by
  have h : (List.range 101).all (fun n => (if b then Txt.zfill (toString (n : Int)) 3 else toString (n : Int) : Str).cps.toList.all (fun x => decide (x < 128)) && decide ((if b then Txt.zfill (toString (n : Int)) 3 else toString (n : Int) : Str).cps.toList.length ≤ 3)) = true := by cases b <;> decide +kernel
  intro n hn
  have := List.all_eq_true.mp h n (List.mem_range.mpr hn)
  rw [Bool.and_eq_true, decide_eq_true_eq] at this
  exact this
theorem nqF_is {c k : Int} (h0 : 0 ≤ k) (h1 : k < 101) : nqF c k = (if decide (c / 169 % 2 = 1) then Txt.zfill (toString ((k.toNat : Nat) : Int)) 3 else toString ((k.toNat : Nat) : Int) : Str) := by
  unfold nqF
  have e : k % 400 = ((k.toNat : Nat) : Int) := by omega
  rw [e]
  simp only [decide_eq_true_eq]
theorem nqT_ok {c k : Int} (h0 : 0 ≤ k) (h1 : k < 101) : okS (nqT c k) := by
  show (nqT c k).cps.all (· < 0x110000) = true
  rw [← Array.all_toList, List.all_eq_true]
  intro x hx
  have hx : x ∈ nqL c k := hx
  have hB : ∀ x ∈ nqB c, x < 128 := fun x hx => by
    obtain ⟨j, _, rfl⟩ := List.mem_map.mp hx
    have h := nqIx_ok c j
    have hi : (nqIx c j).toNat < sgns.cps.toList.length := by rw [sgns_len]; omega
    rw [List.getD_eq_getElem?_getD, List.getElem?_eq_getElem hi]
    exact sgns_ok _ (List.getElem_mem hi)
  have hlt : x < 128 := by
    rcases List.mem_append.mp hx with hx | hx
    · rcases List.mem_append.mp hx with hx | hx
      · exact hB x (List.mem_of_mem_take hx)
      · rw [nqF_is h0 h1] at hx
        exact of_decide_eq_true (List.all_eq_true.mp (fig_ok _ k.toNat (by omega)).1 x hx)
    · exact hB x (List.mem_of_mem_drop hx)
  exact decide_eq_true (by omega)
def rZf : V → List V → Hp → VK → Prop := fun x xs H Q => ∃ (a : Str) (i : Int), x = .str a ∧ xs = [.int i] ∧ PadOk i = true ∧ Q (.str (Txt.zfill a i)) H
theorem mt_zf {X : Cx} : MtR X "str.zfill" rZf := L2.mt_zfill
theorem s_zf {a : Str} {H : Hp} {Q : VK} (z : Q (.str (Txt.zfill a 3)) H) : rZf (.str a) [.int 3] H Q := ⟨a, 3, rfl, rfl, by decide +kernel, z⟩
theorem cutS_to (z : Str) (i : Nat) (h : i ≤ z.length) : (cutS z none (some (i : Int))).cps.toList = z.cps.toList.take i := by
  show (List.take _ (List.drop 0 z.cps.toList)) = _
  rw [HT.sIx_none, HT.sIx_nat, Nat.min_eq_left h, List.drop_zero, Nat.sub_zero]
theorem cutS_from (z : Str) (i : Nat) (h : i ≤ z.length) : (cutS z (some (i : Int)) none).cps.toList = z.cps.toList.drop i := by
  show (List.take _ (List.drop _ z.cps.toList)) = _
  rw [HT.sIx_none, HT.sIx_nat, Nat.min_eq_left h]
  exact List.take_of_length_le (by rw [List.length_drop, len_list]; omega)
theorem nqAt_ok (c : Int) : 1 ≤ nqAt c ∧ nqAt c ≤ (1 + c % 13).toNat := by
  have h1 := Int.emod_nonneg (c / 13) (show (1 + c % 13) ≠ 0 by omega)
  have h2 := Int.emod_lt_of_pos (c / 13) (show 0 < (1 + c % 13) by omega)
  unfold nqAt
  omega
theorem nqT_cut {n : Str} {c k : Int} (hn : n.cps.toList = nqB c) : (cutS n none (some (nqAt c : Int)) ++ nqF c k) ++ cutS n (some (nqAt c : Int)) none = nqT c k := by
  have hl : n.length = (1 + c % 13).toNat := by rw [← len_list, hn, nqB_len]
  have ha := nqAt_ok c
  refine str_ext ?_
  rw [cps_app, cps_app, cutS_to _ _ (by omega), cutS_from _ _ (by omega), hn]
  rfl
theorem log_small {i : Int} (h0 : 0 ≤ i) (h : i < 2 ^ 64) : i.natAbs.log2 < 1920 := by
  have h1 : i.natAbs < 2 ^ 64 := by omega
  rcases Nat.eq_zero_or_pos i.natAbs with e | e
  · rw [e]; decide
  · have := (Nat.log2_lt (by omega)).mpr h1
    omega
theorem s_strI {i : Int} {H : Hp} {Q : VK} (z : Q (.str (toString i)) H) (h0 : 0 ≤ i) (h : i < 2 ^ 64) : rStrI [.int i] H Q := ⟨i, rfl, log_small h0 h, z⟩
theorem nqT_len {c k : Int} (h0 : 0 ≤ k) (h1 : k < 101) : (nqF c k).cps.toList.length ≤ 3 := by
  rw [nqF_is h0 h1]
  exact (fig_ok _ k.toNat (by omega)).2
/-! what a law draws -/
structure KS (mx : Nat) (s : Stre) : Prop where
  kind : isKind s.kind
  step : ∃ j : Nat, j ≤ 16 ∧ s.step = 2 ^ j
  words : s.words.length ≤ mx
  fills : s.fills = []
def pnm (tb : Int) (k : Nat) : Str := if k = 0 then "none" else nqT tb ((k : Int) * 37 % 101)
structure LD (tb : Int) (mx n : Nat) (ps : List Piece) : Prop where
  name : ∀ (k : Nat) p, ps[k]? = some p → p.name = pnm tb k
  stres : ∀ p ∈ ps, (∀ s ∈ p.stres, KS mx s) ∧ p.names = []
  len : 1 ≤ ps.length ∧ ps.length ≤ 100
  cnt : (knownF ps).length = n
  first : ∀ p, ps[0]? = some p → p.stres = []
theorem pnm_ok (tb : Int) (k : Nat) : okS (pnm tb k) := by
  unfold pnm
  split
  · show PyData.canLay0 _ = true; decide +kernel
  · exact nqT_ok (by omega) (by omega)
theorem KS.ok {mx : Nat} {s : Stre} (h : KS mx s) : s.ok := ⟨kind_ok h.kind, fun f hf => by rw [h.fills] at hf; cases hf⟩
theorem KS.pos {mx : Nat} {s : Stre} (h : KS mx s) : 0 < s.step ∧ s.step ≤ 65536 := by
  obtain ⟨j, hj, e⟩ := h.step
  rw [e]
  have h1 := two_pow_pos j
  have h2 : (2 : Int) ^ j ≤ 2 ^ 16 := by
    have := Nat.pow_le_pow_right (n := 2) (by decide) hj
    have e : ((2 ^ j : Nat) : Int) ≤ ((2 ^ 16 : Nat) : Int) := Int.ofNat_le.mpr this
    simpa using e
  exact ⟨h1, by simpa using h2⟩
theorem LD.ok {tb : Int} {mx n : Nat} {ps : List Piece} (h : LD tb mx n ps) : ∀ p ∈ ps, p.ok := fun p hp => by
  obtain ⟨k, hk⟩ := List.getElem?_of_mem hp
  exact ⟨by rw [h.name k p hk]; exact pnm_ok _ _, fun s hs => ((h.stres p hp).1 s hs).ok, fun m hm => by rw [(h.stres p hp).2] at hm; cases hm⟩
theorem stresL_keys {t : Str} : ∀ {a : List Stre} {i : Nat} {x : KY × PyData}, x ∈ stresL t i a → ∃ j s, a[j]? = some s ∧ x = ((t, ((i + j : Nat) : Int)), streD s)
  | [], _, _, h => by cases h
  | s :: a, i, x, h => by
    rcases List.mem_cons.mp h with rfl | h
    · exact ⟨0, s, rfl, rfl⟩
    · obtain ⟨j, s', h1, h2⟩ := stresL_keys h
      exact ⟨j + 1, s', by simpa using h1, by rw [h2, show i + 1 + j = i + (j + 1) by omega]⟩
theorem knownF_app (a b : List Piece) : knownF (a ++ b) = knownF a ++ knownF b := by unfold knownF; rw [List.flatMap_append]
theorem knownF_one (p : Piece) : knownF [p] = stresL p.name 0 p.stres := by unfold knownF; rw [List.flatMap_cons, List.flatMap_nil, List.append_nil]
theorem knownF_piece (ps : List Piece) (nm : Str) (ns : List Nam) : knownF (ps ++ [⟨nm, [], ns⟩]) = knownF ps := by rw [knownF_app, knownF_one]; exact List.append_nil _
theorem knownF_stre' (ps0 : List Piece) (nm : Str) (ss : List Stre) (s : Stre) (ns : List Nam) : knownF (ps0 ++ [⟨nm, ss ++ [s], ns⟩]) = knownF (ps0 ++ [⟨nm, ss, ns⟩]) ++ [((nm, (ss.length : Int)), streD s)] := by
  rw [knownF_app, knownF_one, knownF_app, knownF_one, List.append_assoc]
  show _ ++ stresL nm 0 (ss ++ [s]) = _ ++ (stresL nm 0 ss ++ _)
  rw [stresL_app, Nat.zero_add]; rfl
theorem LD.start {tb : Int} {mx : Nat} : LD tb mx 0 [⟨"none", [], []⟩] := by
  refine ⟨fun k p h => ?_, fun p hp => ?_, by decide, rfl, fun p h => by cases h; rfl⟩
  · cases k with
    | zero => cases h; rfl
    | succ k => cases h
  · cases List.mem_singleton.mp hp; exact ⟨fun _ h => (nomatch h), rfl⟩
theorem LD.piece {tb : Int} {mx n : Nat} {ps : List Piece} (h : LD tb mx n ps) (hl : ps.length < 100) : LD tb mx n (ps ++ [⟨nqT tb ((ps.length : Int) * 37 % 101), [], []⟩]) := by
  have h0 := h.len
  refine ⟨fun k p hp => ?_, fun p hp => ?_, by rw [List.length_append, List.length_singleton]; omega, by rw [knownF_piece]; exact h.cnt, fun p hp => h.first p (by rw [List.getElem?_append_left (by omega)] at hp; exact hp)⟩
  · rcases Nat.lt_or_ge k ps.length with hk | hk
    · rw [List.getElem?_append_left hk] at hp; exact h.name k p hp
    · rw [List.getElem?_append_right hk] at hp
      rcases Nat.eq_zero_or_pos (k - ps.length) with h1 | h1
      · rw [h1] at hp
        cases hp
        have : k = ps.length := by omega
        rw [this]
        show _ = pnm tb ps.length
        unfold pnm
        rw [if_neg (by omega)]
      · rw [List.getElem?_eq_none (by rw [List.length_singleton]; omega)] at hp; cases hp
  · rcases List.mem_append.mp hp with hp | hp
    · exact h.stres p hp
    · cases List.mem_singleton.mp hp; exact ⟨fun _ h => (nomatch h), rfl⟩
theorem LD.stre {tb : Int} {mx n : Nat} {ps0 : List Piece} {nm : Str} {ss : List Stre} {ns : List Nam} {s : Stre} (h : LD tb mx n (ps0 ++ [⟨nm, ss, ns⟩])) (hs : KS mx s) (h0 : 1 ≤ ps0.length) : LD tb mx (n + 1) (ps0 ++ [⟨nm, ss ++ [s], ns⟩]) := by
  refine ⟨fun k p hp => ?_, fun p hp => ?_, by have := h.len; rw [List.length_append] at this ⊢; exact this, by rw [knownF_stre', List.length_append, h.cnt]; rfl, fun p hp => h.first p (by rw [List.getElem?_append_left (by omega)] at hp ⊢; exact hp)⟩
  · rcases Nat.lt_or_ge k ps0.length with hk | hk
    · rw [List.getElem?_append_left hk] at hp
      exact h.name k p (by rw [List.getElem?_append_left hk]; exact hp)
    · rw [List.getElem?_append_right hk] at hp
      rcases Nat.eq_zero_or_pos (k - ps0.length) with h1 | h1
      · rw [h1] at hp
        cases hp
        exact h.name k ⟨nm, ss, ns⟩ (by rw [List.getElem?_append_right hk, h1]; rfl)
      · rw [List.getElem?_eq_none (by rw [List.length_singleton]; omega)] at hp; cases hp
  · rcases List.mem_append.mp hp with hp | hp
    · exact h.stres p (List.mem_append_left _ hp)
    · cases List.mem_singleton.mp hp
      have h1 := h.stres ⟨nm, ss, ns⟩ (List.mem_append_right _ (List.mem_singleton.mpr rfl))
      refine ⟨fun x hx => ?_, h1.2⟩
      rcases List.mem_append.mp hx with hx | hx
      · exact h1.1 x hx
      · cases List.mem_singleton.mp hx; exact hs
theorem flat_le {α β : Type} (f : α → List β) : ∀ {l : List α} {x : α}, x ∈ l → (f x).length ≤ (l.flatMap f).length
  | y :: l, x, h => by
    rw [List.flatMap_cons, List.length_append]
    rcases List.mem_cons.mp h with rfl | h
    · omega
    · have := flat_le f h; omega
theorem LD.few {tb : Int} {mx n : Nat} {ps : List Piece} (h : LD tb mx n ps) {p : Piece} (hp : p ∈ ps) : p.stres.length ≤ n := by
  have h1 := flat_le (fun p : Piece => stresL p.name 0 p.stres) hp
  rw [stresL_len] at h1
  have h2 : (knownF ps).length = n := h.cnt
  unfold knownF at h2
  omega
/-- a key of these pieces -/
theorem known_of {ps : List Piece} {P : Stre → Prop} (hP : ∀ p ∈ ps, ∀ s ∈ p.stres, P s) {k : KY} (hk : k ∈ (knownF ps).map (·.1)) : ∃ s, lookL (knownL ps) k = some (streD s) ∧ P s := by
  cases e : lookL (knownL ps) k with
  | none => exact absurd e (putA_some (knownF ps) [] (.inr hk))
  | some d =>
    obtain ⟨s, h1, rfl⟩ := knownL_stre hP e
    exact ⟨s, rfl, h1⟩
/-- what a law's keys are -/
structure LK (ps : List Piece) (ks : List KY) : Prop where
  sub : ∃ ks0, ks.Perm ks0 ∧ ks0.Sublist ((knownF ps).map (·.1))
theorem LK.mem {ps : List Piece} {ks : List KY} (h : LK ps ks) {k : KY} (hk : k ∈ ks) : k ∈ (knownF ps).map (·.1) := by
  obtain ⟨ks0, h1, h2⟩ := h.sub
  exact h2.subset (h1.mem_iff.mp hk)
theorem LK.len {ps : List Piece} {ks : List KY} (h : LK ps ks) : ks.length ≤ (knownF ps).length := by
  obtain ⟨ks0, h1, h2⟩ := h.sub
  have := h2.length_le
  rw [List.length_map] at this
  rw [h1.length_eq]; exact this
theorem LK.perm {ps : List Piece} {ks ks' : List KY} (h : LK ps ks) (hp : ks'.Perm ks) : LK ps ks' := by
  obtain ⟨ks0, h1, h2⟩ := h.sub
  exact ⟨ks0, hp.trans h1, h2⟩
theorem sub_perm {α : Type} {l m : List α} (h : l.Perm m) : ∀ {k : List α}, k.Sublist l → ∃ k', k.Perm k' ∧ k'.Sublist m := by
  induction h with
  | nil => exact fun {k} h => ⟨k, .refl _, h⟩
  | cons x _ ih =>
    intro k h
    cases h with
    | cons _ h =>
      obtain ⟨k', h1, h2⟩ := ih h
      exact ⟨k', h1, h2.cons _⟩
    | cons_cons _ h =>
      obtain ⟨k', h1, h2⟩ := ih h
      exact ⟨x :: k', h1.cons x, h2.cons_cons _⟩
  | swap x y l =>
    intro k h
    cases h with
    | cons _ h =>
      cases h with
      | cons _ h => exact ⟨_, .refl _, (h.cons _).cons _⟩
      | cons_cons _ h => exact ⟨_, .refl _, (h.cons _).cons_cons _⟩
    | cons_cons _ h =>
      cases h with
      | cons _ h => exact ⟨_, .refl _, (h.cons_cons _).cons _⟩
      | cons_cons _ h => exact ⟨_, .swap .., (h.cons_cons _).cons_cons _⟩
  | trans _ _ ih1 ih2 =>
    intro k h
    obtain ⟨k1, h1, h2⟩ := ih1 h
    obtain ⟨k2, h3, h4⟩ := ih2 h2
    exact ⟨k2, h1.trans h3, h4⟩
theorem LK.subl {ps : List Piece} {ks ks' : List KY} (h : LK ps ks) (hp : ks'.Sublist ks) : LK ps ks' := by
  obtain ⟨ks0, h1, h2⟩ := h.sub
  obtain ⟨ks1, h3, h4⟩ := sub_perm h1 hp
  exact ⟨ks1, h3, h4.trans h2⟩
/-! where stretches lie -/
def upS (e st : Int) : Int := (e + st - 1) / st * st
def nextE (f : KY → Stre) (e : Int) (k : KY) : Int := upS e (f k).step + ((f k).words.length : Int)
def endK (f : KY → Stre) (e : Int) (ks : List KY) : Int := ks.foldl (nextE f) e
def placesK (f : KY → Stre) : Int → List KY → List (KY × Int)
  | _, [] => []
  | e, k :: ks => (k, upS e (f k).step) :: placesK f (nextE f e k) ks
theorem endK_snoc (f : KY → Stre) (e : Int) (ks : List KY) (k : KY) : endK f e (ks ++ [k]) = nextE f (endK f e ks) k := by unfold endK; rw [List.foldl_append]; rfl
theorem placesK_snoc (f : KY → Stre) : ∀ (ks : List KY) (e : Int) (k : KY), placesK f e (ks ++ [k]) = placesK f e ks ++ [(k, upS (endK f e ks) (f k).step)]
  | [], e, k => rfl
  | k0 :: ks, e, k => by
    show _ :: placesK f _ (ks ++ [k]) = _ :: (_ ++ _)
    rw [placesK_snoc f ks]; rfl
theorem placesK_len (f : KY → Stre) : ∀ (ks : List KY) (e : Int), (placesK f e ks).length = ks.length
  | [], _ => rfl
  | k :: ks, e => by
    show (placesK f _ ks).length + 1 = ks.length + 1
    rw [placesK_len f ks]
theorem placesK_keys (f : KY → Stre) : ∀ (ks : List KY) (e : Int), (placesK f e ks).map (·.1) = ks
  | [], _ => rfl
  | k :: ks, e => by
    show k :: (placesK f _ ks).map (·.1) = _
    rw [placesK_keys f ks]
theorem placesK_get (f : KY → Stre) : ∀ (ks : List KY) (e : Int) (i : Nat) (k : KY), ks[i]? = some k → (placesK f e ks)[i]? = some (k, upS (endK f e (ks.take i)) (f k).step)
  | [], _, _, _, h => by cases h
  | k0 :: ks, e, 0, k, h => by cases h; rfl
  | k0 :: ks, e, i + 1, k, h => by
    show (placesK f _ ks)[i]? = _
    exact placesK_get f ks _ i k h
/-- the stretches of a sort, then those of another -/
def ofSort (f : KY → Stre) (so : Str) (ks : List KY) : List KY := ks.filter fun k => decide ((f k).kind = so)
def ordK (f : KY → Stre) (ks : List KY) : List KY := ofSort f "code" (sortK ks) ++ ofSort f "data" (sortK ks)
def laidL (f : KY → Stre) (ks : List KY) : List (KY × Int) := placesK f 0 (ordK f ks)
theorem ordK_perm {f : KY → Stre} {ks : List KY} (h : ∀ k ∈ ks, isKind (f k).kind) : (ordK f ks).Perm ks := by
  have hs := sortK_perm ks
  have e : ofSort f "data" (sortK ks) = (sortK ks).filter fun k => !decide ((f k).kind = "code") := by
    unfold ofSort
    refine List.filter_congr fun k hk => ?_
    have hk := h k (hs.mem_iff.mp hk)
    rcases hk with e | e
    · rw [e]; decide +kernel
    · rw [e]; decide +kernel
  unfold ordK
  rw [e]
  exact (List.filter_append_perm (fun k => decide ((f k).kind = "code")) (sortK ks)).trans hs
theorem Act.back {B' B G H : Hp} {A : List Addr} (s : Same B' B) (c : Act B G H A) : Act B' G H A := ⟨s.trans c.base, c.ext, c.free, c.nd⟩
theorem ofSort_snoc (f : KY → Stre) (so : Str) (ks : List KY) (k : KY) : ofSort f so (ks ++ [k]) = ofSort f so ks ++ (if (f k).kind = so then [k] else []) := by
  unfold ofSort
  rw [List.filter_append]
  congr 1
  by_cases h : (f k).kind = so
  · rw [if_pos h, List.filter_cons, if_pos (decide_eq_true h)]; rfl
  · rw [if_neg h, List.filter_cons, if_neg (fun z => h (of_decide_eq_true z))]; rfl
def sorts : List Str := ["code", "data"]
def doneK (f : KY → Stre) (ks : List KY) (i : Nat) : List KY := (sorts.take i).flatMap fun so => ofSort f so ks
theorem doneK_snoc {f : KY → Stre} {ks : List KY} {i : Nat} {so : Str} (h : sorts[i]? = some so) : doneK f ks (i + 1) = doneK f ks i ++ ofSort f so ks := by
  unfold doneK
  rw [List.take_add_one, h, List.flatMap_append]
  show _ ++ (_ ++ []) = _
  rw [List.append_nil]
theorem doneK_all (f : KY → Stre) (ks : List KY) : doneK f (sortK ks) 2 = ordK f ks := by
  show ofSort f "code" _ ++ (ofSort f "data" _ ++ []) = _
  rw [List.append_nil]; rfl
/-- a row of laid -/
def RowAt (G : Hp) (v : V) (r : KY × Int) : Prop := ∃ b kv, v = .ref b ∧ G b = some (.tup [kv, .int r.2]) ∧ KeyAt G kv r.1
theorem RowAt.same {G G' : Hp} {v : V} {r : KY × Int} (h : RowAt G v r) (s : Same G G') : RowAt G' v r := by
  obtain ⟨b, kv, h1, h2, h3⟩ := h
  exact ⟨b, kv, h1, s _ _ h2, h3.same s⟩
def rowD (r : KY × Int) : PyData := .tuple [keyD r.1, .int r.2]
theorem RowAt.dp {K : PySem.W.Frag} {G : Hp} {v : V} {r : KY × Int} (h : RowAt G v r) : Dp K G v (rowD r) := by
  obtain ⟨b, kv, rfl, h2, h3⟩ := h
  exact .tup (.inl (.inl h2)) (.cons h3.dp (.cons (.int _) .nil))
theorem keys_dps {K : PySem.W.Frag} {G : Hp} : ∀ {zs : List (V × KY)}, (∀ x ∈ zs, KeyAt G x.1 x.2) → DpAll K G (zs.map (·.1)) ((zs.map (·.2)).map keyD)
  | [], _ => .nil
  | x :: zs, h => .cons (h x List.mem_cons_self).dp (keys_dps fun y hy => h y (List.mem_cons_of_mem _ hy))
theorem rows_dps {K : PySem.W.Frag} {G : Hp} : ∀ {zs : List (V × (KY × Int))}, (∀ x ∈ zs, RowAt G x.1 x.2) → DpAll K G (zs.map (·.1)) ((zs.map (·.2)).map rowD)
  | [], _ => .nil
  | x :: zs, h => .cons (h x List.mem_cons_self).dp (rows_dps fun y hy => h y (List.mem_cons_of_mem _ hy))
theorem keyD_ok {k : KY} (h : okS k.1) : (keyD k).canLay0 = true ∧ (keyD k).depth ≤ 1 := by
  refine ⟨?_, ?_⟩
  · show ((PyData.str k.1).canLay0 && (true && true)) = true
    rw [h]; rfl
  · show max 0 (max 0 0) + 1 ≤ 1
    omega
theorem keys_shaped {ks : List KY} (h : ∀ k ∈ ks, okS k.1) : SeqAt.shaped (.list (ks.map keyD)) = true := by
  obtain ⟨a, b⟩ := lay_map (f := keyD) (l := ks) (n := 1) fun k hk => keyD_ok (h k hk)
  exact shaped_of a (Nat.le_trans b (by decide))
theorem rowD_ok {r : KY × Int} (h : okS r.1.1) : (rowD r).canLay0 = true ∧ (rowD r).depth ≤ 2 := by
  obtain ⟨a, b⟩ := keyD_ok h
  refine ⟨?_, ?_⟩
  · show ((keyD r.1).canLay0 && (true && true)) = true
    rw [a]; rfl
  · show max (keyD r.1).depth (max 0 0) + 1 ≤ 2
    omega
theorem rows_shaped {rs : List (KY × Int)} (h : ∀ r ∈ rs, okS r.1.1) : SeqAt.shaped (.list (rs.map rowD)) = true := by
  obtain ⟨a, b⟩ := lay_map (f := rowD) (l := rs) (n := 2) fun k hk => rowD_ok (h k hk)
  exact shaped_of a (Nat.le_trans b (by decide))
theorem LD.keyok {tb : Int} {mx n : Nat} {ps : List Piece} (h : LD tb mx n ps) {k : KY} (hk : k ∈ (knownF ps).map (·.1)) : okS k.1 := by
  obtain ⟨x, hx, rfl⟩ := List.mem_map.mp hk
  obtain ⟨p, hp, hx⟩ := List.mem_flatMap.mp hx
  obtain ⟨j, s, _, rfl⟩ := stresL_keys hx
  exact (h.ok p hp).1
theorem s_neNilP {K : PySem.W.Frag} {H : Hp} {P q : Addr} {ds : List PyData} {Q : VK} (h1 : Dp K H (.ref P) (.list ds)) (hs : SeqAt.shaped (.list ds) = true) (h2 : H q = some (.lst [])) (z : Q (.bl (!decide (ds = []))) H) : rNeD K (.ref P) (.ref q) H Q := by
  refine ⟨_, .list [], h1, .lst (.inl (.inl h2)) .nil, hs, by decide +kernel, ?_⟩
  cases ds with
  | nil => exact z
  | cons d ds => exact z
/-- what laid and its kin are handed -/
structure Ask (K : PySem.W.Frag) (H : Hp) (P a : Addr) (xs : List V) (ps : List Piece) (zs : List (V × KY)) (f : KY → Stre) : Prop where
  hP : SqL K H P xs
  hx : DpAll K H xs (ps.map pieceD)
  hK : SqL K H a (zs.map (·.1))
  hz : ∀ x ∈ zs, KeyAt H x.1 x.2
  hf : ∀ x ∈ zs, lookL (knownL ps) x.2 = some (streD (f x.2)) ∧ KS 1000 (f x.2)
  hn : (knownF ps).length ≤ 1000
  hz2 : zs.length ≤ 1000
theorem Ask.same {K : PySem.W.Frag} {H H' : Hp} {P a : Addr} {xs : List V} {ps : List Piece} {zs : List (V × KY)} {f : KY → Stre} (h : Ask K H P a xs ps zs f) (s : Same H H') : Ask K H' P a xs ps zs f :=
  ⟨s.seq h.hP, dps_same s h.hx, s.seq h.hK, fun x hx => (h.hz x hx).same s, h.hf, h.hn, h.hz2⟩
theorem Ask.few {K : PySem.W.Frag} {H : Hp} {P a : Addr} {xs : List V} {ps : List Piece} {zs : List (V × KY)} {f : KY → Stre} (h : Ask K H P a xs ps zs f) {p : Piece} (hp : p ∈ ps) : p.stres.length ≤ 1000 := by
  have h1 := flat_le (fun p : Piece => stresL p.name 0 p.stres) hp
  rw [stresL_len] at h1
  exact Nat.le_trans h1 h.hn
theorem KS.more {m n : Nat} {s : Stre} (h : KS m s) (hm : m ≤ n) : KS n s := ⟨h.kind, h.step, Nat.le_trans h.words hm, h.fills⟩
theorem Ask.ord {K : PySem.W.Frag} {H : Hp} {P a : Addr} {xs : List V} {ps : List Piece} {zs : List (V × KY)} {f : KY → Stre} (h : Ask K H P a xs ps zs f) : (ordK f (zs.map (·.2))).Perm (zs.map (·.2)) := ordK_perm fun k hk => by
  obtain ⟨x, hx, rfl⟩ := List.mem_map.mp hk
  exact (h.hf x hx).2.kind
theorem Ask.at_ {K : PySem.W.Frag} {H : Hp} {P a : Addr} {xs : List V} {ps : List Piece} {zs : List (V × KY)} {f : KY → Stre} (h : Ask K H P a xs ps zs f) {k : KY} (hk : k ∈ zs.map (·.2)) : lookL (knownL ps) k = some (streD (f k)) ∧ KS 1000 (f k) := by
  obtain ⟨x, hx, rfl⟩ := List.mem_map.mp hk
  exact h.hf x hx
/-- the last row -/
theorem laid_last {f : KY → Stre} {ks : List KY} {rs0 : List (KY × Int)} {r : KY × Int} (h : laidL f ks = rs0 ++ [r]) : r.1 ∈ ordK f ks ∧ endK f 0 (ordK f ks) = r.2 + ((f r.1).words.length : Int) := by
  have hl := congrArg List.length h
  rw [laidL, placesK_len, List.length_append, List.length_singleton] at hl
  have hlen : (ordK f ks).length - 1 + 1 = (ordK f ks).length := by omega
  rcases List.eq_nil_or_concat (ordK f ks) with e | ⟨l, k, e⟩
  · rw [e] at hl; simp at hl
  · rw [List.concat_eq_append] at e
    unfold laidL at h
    rw [e, placesK_snoc] at h
    obtain ⟨-, h2⟩ := List.append_inj' h rfl
    cases h2
    rw [e, endK_snoc]
    exact ⟨by simp, rfl⟩
theorem ordK_nil (f : KY → Stre) : ordK f [] = [] := by
  unfold ordK ofSort sortK
  rw [List.mergeSort_nil]; rfl
/-- a row of what is laid -/
theorem laid_row {f : KY → Stre} {ks : List KY} {i : Nat} {r : KY × Int} (h : (laidL f ks)[i]? = some r) : (ordK f ks)[i]? = some r.1 ∧ r.2 = upS (endK f 0 ((ordK f ks).take i)) (f r.1).step ∧ endK f 0 ((ordK f ks).take (i + 1)) = r.2 + ((f r.1).words.length : Int) := by
  have hl : i < (ordK f ks).length := by
    have := (List.getElem?_eq_some_iff.mp h).1
    rwa [laidL, placesK_len] at this
  obtain ⟨k, hk⟩ : ∃ k, (ordK f ks)[i]? = some k := ⟨_, List.getElem?_eq_getElem hl⟩
  have h2 := placesK_get f _ 0 i k hk
  rw [show placesK f 0 (ordK f ks) = laidL f ks from rfl, h] at h2
  cases h2
  refine ⟨hk, rfl, ?_⟩
  rw [List.take_add_one, hk]
  show endK f 0 (_ ++ [k]) = _
  rw [endK_snoc]; rfl
/-- the stretches of a law's keys -/
theorem LD.find {tb : Int} {mx n : Nat} {ps : List Piece} {ks : List KY} (h : LD tb mx n ps) (hk : LK ps ks) : ∃ f : KY → Stre, ∀ k ∈ ks, lookL (knownL ps) k = some (streD (f k)) ∧ KS mx (f k) := by
  have h1 : ∀ k : KY, ∃ s : Stre, k ∈ ks → lookL (knownL ps) k = some (streD s) ∧ KS mx s := fun k => by
    by_cases hm : k ∈ ks
    · obtain ⟨s, e1, e2⟩ := known_of (fun p hp s hs => (h.stres p hp).1 s hs) (hk.mem hm)
      exact ⟨s, fun _ => ⟨e1, e2⟩⟩
    · exact ⟨⟨"code", 1, [], []⟩, fun z => absurd z hm⟩
  exact ⟨fun k => Classical.choose (h1 k), fun k hk => Classical.choose_spec (h1 k) hk⟩
/-! a < b < c < d as a test -/
def tChain3 (r r' r2 : R2) (ta tb tc td : TE) : TE := fun σ H Q => ta σ H fun x H1 => tb σ H1 fun y H2 => r x y H2 fun z H3 => ∃ k, z = .bl k ∧
  (if k = true then tc σ H3 fun w' H4 => r' y w' H4 fun z2 H5 => ∃ k2, z2 = .bl k2 ∧ (if k2 = true then td σ H5 fun v' H6 => r2 w' v' H6 Q else Q (.bl false) H5) else Q (.bl false) H3)
section
variable {X : Cx} {a b c d : Expr} {ta tb tc td : TE} {pos : Pos}
theorem pt_chain3 {op op' op2 : CmpOp} {r r' r2 : R2} (ho : OpR X (compareOp op) r) (ho' : OpR X (compareOp op') r') (ho2 : OpR X (compareOp op2) r2) (ha : PE X a ta) (hb : PE X b tb) (hc : PE X c tc) (hd : PE X d td)
    (hm : lastMarks [op, op', op2] [b, c, d] = false := by with_unfolding_all rfl) : PT X (.Compare a [op, op', op2] [b, c, d] pos) (tTest (tChain3 r r' r2 ta tb tc td)) := by
  refine ⟨fun pins s σ H Q I h => ?_⟩
  refine isTrue_chain (thn (ha.run pins s σ H _ I h) fun v s1 ⟨x, H1, I1, k1, q1⟩ => test_link (thn (hb.run pins s1 σ H1 _ I1 q1) fun u s2 ⟨y, H2, I2, k2, q2⟩ =>
    thn (ho pins s2 σ H2 x y v u _ I2 k1 k2 q2) fun g s3 ⟨z, H3, I3, k3, k, e, q3⟩ => ?_)) hm
  subst e
  cases k3
  refine wpAny_truthy_bool ?_
  cases k with
  | false =>
    obtain ⟨k', e', q'⟩ := q3
    cases e'
    exact ite_ff ⟨H3, I3, q'⟩
  | true =>
    refine ite_tt (test_link (thn (hc.run pins s3 σ H3 _ I3 q3) fun w' s4 ⟨z', H4, I4, k4, q4⟩ => thn (ho' pins s4 σ H4 y z' u w' _ I4 k2 k4 q4) fun g' s5 ⟨z2, H5, I5, k5, kk, e2, q5⟩ => ?_))
    subst e2
    cases k5
    refine wpAny_truthy_bool ?_
    cases kk with
    | false =>
      obtain ⟨k', e', q'⟩ := q5
      cases e'
      exact ite_ff ⟨H5, I5, q'⟩
    | true =>
      refine ite_tt (test_last (thn (hd.run pins s5 σ H5 _ I5 q5) fun v' s6 ⟨z6, H6, I6, k6, q6⟩ => thn (ho2 pins s6 σ H6 z' z6 w' v' _ I6 k4 k6 q6) fun g2 s7 ⟨z7, H7, I7, k7, kl, e7, q7⟩ => ?_))
      subst e7
      cases k7
      exact wpAny_truthy_bool ⟨H7, I7, q7⟩
end
theorem s_chain3 {r r' r2 : R2} {ta tb tc td : TE} {σ : L2.St} {H : Hp} {Q : VK} (z : ta σ H fun x H1 => tb σ H1 fun y H2 => r x y H2 fun z H3 => ∃ k, z = .bl k ∧
  (if k = true then tc σ H3 fun w' H4 => r' y w' H4 fun z2 H5 => ∃ k2, z2 = .bl k2 ∧ (if k2 = true then td σ H5 fun v' H6 => r2 w' v' H6 Q else Q (.bl false) H5) else Q (.bl false) H3)) : tChain3 r r' r2 ta tb tc td σ H Q := z
/-! places go up -/
theorem upS_ok {e st : Int} (h : 0 < st) : e ≤ upS e st ∧ upS e st < e + st ∧ st ∣ upS e st := by
  have h1 := Int.ediv_mul_add_emod (e + st - 1) st
  have h2 := Int.emod_nonneg (e + st - 1) (show st ≠ 0 by omega)
  have h3 := Int.emod_lt_of_pos (e + st - 1) h
  refine ⟨?_, ?_, Int.dvd_mul_left _ _⟩ <;> unfold upS <;> omega
theorem endK_app (f : KY → Stre) (e : Int) (a b : List KY) : endK f e (a ++ b) = endK f (endK f e a) b := by unfold endK; rw [List.foldl_append]
theorem endK_mono {f : KY → Stre} : ∀ (ks : List KY) (e : Int), (∀ k ∈ ks, 0 < (f k).step) → e ≤ endK f e ks
  | [], e, _ => Int.le_refl _
  | k :: ks, e, h => by
    have h1 := (upS_ok (e := e) (h k List.mem_cons_self)).1
    have h2 := endK_mono ks (nextE f e k) fun x hx => h x (List.mem_cons_of_mem _ hx)
    have h3 : upS e (f k).step ≤ nextE f e k := by unfold nextE; omega
    show e ≤ endK f (nextE f e k) ks
    omega
theorem endK_take {f : KY → Stre} {ks : List KY} (h : ∀ k ∈ ks, 0 < (f k).step) {i j : Nat} (hij : i ≤ j) : endK f 0 (ks.take i) ≤ endK f 0 (ks.take j) := by
  obtain ⟨d, rfl⟩ := Nat.exists_eq_add_of_le hij
  rw [List.take_add, endK_app]
  exact endK_mono _ _ fun k hk => h k (List.mem_of_mem_drop (List.mem_of_mem_take hk))
theorem kind_ne : ("code" : Str) ≠ "data" := by decide +kernel
theorem ord_sorts {f : KY → Stre} {ks : List KY} {i j : Nat} {a b : KY} (hij : i < j) (ha : (ordK f ks)[i]? = some a) (hb : (ordK f ks)[j]? = some b) (h : (f a).kind = "data") : ¬ (f b).kind = "code" := by
  unfold ordK at ha hb
  have hA : ∀ k ∈ ofSort f "code" (sortK ks), (f k).kind = "code" := fun k hk => of_decide_eq_true (List.mem_filter.mp hk).2
  have hB : ∀ k ∈ ofSort f "data" (sortK ks), (f k).kind = "data" := fun k hk => of_decide_eq_true (List.mem_filter.mp hk).2
  generalize ofSort f "code" (sortK ks) = A at *
  generalize ofSort f "data" (sortK ks) = B at *
  rcases Nat.lt_or_ge i A.length with hi | hi
  · rw [List.getElem?_append_left hi] at ha
    exact absurd ((hA a (List.mem_of_getElem? ha)).symm.trans h) kind_ne
  · rw [List.getElem?_append_right (by omega)] at hb
    rw [hB b (List.mem_of_getElem? hb)]
    exact kind_ne.symm
theorem pow_dvd {i j : Nat} (h : (2 : Int) ^ i ≤ 2 ^ j) : (2 : Int) ^ i ∣ 2 ^ j := by
  have hij : i ≤ j := by
    rcases Nat.le_total i j with g | g
    · exact g
    · have h1 : 2 ^ j ≤ 2 ^ i := Nat.pow_le_pow_right (by decide) g
      have h2 : ((2 ^ i : Nat) : Int) ≤ ((2 ^ j : Nat) : Int) := by simpa using h
      have h3 : 2 ^ i ≤ 2 ^ j := Int.ofNat_le.mp h2
      exact (Nat.pow_le_pow_iff_right (by decide)).mp h3
  obtain ⟨k, rfl⟩ := Nat.exists_eq_add_of_le hij
  rw [Int.pow_add]
  exact Int.dvd_mul_right _ _
theorem step_dvd {m n : Nat} {s t : Stre} (h1 : KS m s) (h2 : KS n t) (h : s.step ≤ t.step) : s.step ∣ t.step := by
  obtain ⟨i, _, e1⟩ := h1.step
  obtain ⟨j, _, e2⟩ := h2.step
  rw [e1, e2] at h ⊢
  exact pow_dvd h
/-- a span and its sort -/
def SpAt (G : Hp) (v : V) (r : Int × Int × Str) : Prop := ∃ t u, v = .ref t ∧ G t = some (.tup [.ref u, .str r.2.2]) ∧ G u = some (.tup [.int r.1, .int r.2.1])
theorem SpAt.same {G G' : Hp} {v : V} {r : Int × Int × Str} (h : SpAt G v r) (s : Same G G') : SpAt G' v r := by
  obtain ⟨t, u, h1, h2, h3⟩ := h
  exact ⟨t, u, h1, s _ _ h2, s _ _ h3⟩
def spanOf (f : KY → Stre) (r : KY × Int) : Int × Int × Str := (r.2, r.2 + ((f r.1).words.length : Int), (f r.1).kind)
/-! all but one cell is written no more -/
theorem Act.only {B H : Hp} {p : Addr} {o : HO} (s : Same B H) (nb : B p = none) (e : H p = some o) : Act B (del H p) H [p] := by
  refine ⟨fun b v q => ?_, fun b v q => ?_, fun b hb => ?_, List.nodup_cons.mpr ⟨List.not_mem_nil, List.nodup_nil⟩⟩
  · rw [del_ne (fun z => by rw [z, nb] at q; cases q)]; exact s b v q
  · by_cases z : b = p
    · rw [z, del_same] at q; cases q
    · rw [del_ne z] at q; exact q
  · cases List.mem_singleton.mp hb
    exact ⟨del_same, _, e⟩
theorem RowAt.but {H : Hp} {p : Addr} {l : List V} {v : V} {r : KY × Int} (h : RowAt H v r) (e : H p = some (.lst l)) : RowAt (del H p) v r := by
  obtain ⟨b, kv, h1, h2, b2, h3, h4⟩ := h
  have n1 : b ≠ p := fun z => by rw [z, e] at h2; cases h2
  have n2 : b2 ≠ p := fun z => by rw [z, e] at h4; cases h4
  exact ⟨b, kv, h1, by rw [del_ne n1]; exact h2, b2, h3, by rw [del_ne n2]; exact h4⟩
end Jl

/-! The order of what is laid. -/
namespace Jl
open PySem L2 PySem.Spec PyProof.Rows
/-- x < y of data -/
def rLtD (K : PySem.W.Frag) : R2 := fun x y H Q => ∃ d e, Dp K H x d ∧ Dp K H y e ∧ PySem.W.alike d e = true ∧ d ≠ .none ∧ d.depth ≤ 64 ∧ Q (.bl (PySem.W.dataLt d e)) H
theorem op_ltD {X : Cx} (hu : X.A.units + 64 < cLine) : OpR X (compareOp .Lt) (rLtD X.K) := by
  intro pins s σ H x y v u Q I rx ry h
  obtain ⟨d, e, hd, he, ha, hn, hdp, q⟩ := h
  obtain ⟨as, r1⟩ := Dp.reads I d x v hd rx
  obtain ⟨bs, r2⟩ := Dp.reads I e y u he ry
  exact PySem.W.lt_data r1 r2 ha hn (by omega) ⟨.bl _, H, I, rfl, q⟩
/-- a sort and a key -/
def kkD (so : Str) (k : KY) : PyData := .tuple [.str so, keyD k]
def ltK (x y : KY) : Prop := x.1.cps.toList < y.1.cps.toList ∨ (x.1 = y.1 ∧ x.2 < y.2)
theorem kk_alike (so so' : Str) (k k' : KY) : PySem.W.alike (kkD so k) (kkD so' k') = true := by simp [kkD, keyD, PySem.W.alike, PySem.W.alikeAll]
theorem kk_depth (so : Str) (k : KY) : (kkD so k).depth ≤ 64 := by
  show max 0 (max (max 0 (max 0 0) + 1) 0) + 1 ≤ 64
  omega
theorem kk_lt {so so' : Str} {k k' : KY} (h : so.cps.toList < so'.cps.toList ∨ (so = so' ∧ ltK k k')) : PySem.W.dataLt (kkD so k) (kkD so' k') = true := by
  unfold kkD
  rw [PySem.W.dataLt_pair (by simp [PySem.W.alike]) (by simp [keyD, PySem.W.alike, PySem.W.alikeAll]), PySem.W.dataLt_str, lt_data]
  simp only [PyData.eqv, beq_iff_eq]
  rcases h with h | ⟨rfl, h⟩
  · have hne : so ≠ so' := fun e => by rw [e] at h; exact List.lt_irrefl _ h
    rw [if_neg hne]; exact decide_eq_true h
  · rw [if_pos rfl]
    have hne : ¬ PyData.eqv (keyD k) (keyD k') = true := fun e => by
      have e : ((k.1 == k'.1) && ((k.2 == k'.2) && true)) = true := e
      rw [Bool.and_true, Bool.and_eq_true, beq_iff_eq, beq_iff_eq] at e
      rcases h with h | ⟨_, h⟩
      · rw [e.1] at h; exact List.lt_irrefl _ h
      · omega
    rw [if_neg hne]
    exact decide_eq_true h
theorem leK_lt {a b : KY} (h : leK a b = true) (hne : a ≠ b) : ltK a b := by
  rcases leK_iff.mp h with h | ⟨h1, h2⟩
  · exact .inl h
  · refine .inr ⟨h1, ?_⟩
    rcases Int.lt_or_eq_of_le h2 with g | g
    · exact g
    · exact absurd (Prod.ext h1 g) hne
theorem leK_anti {a b : KY} (h1 : leK a b = true) (h2 : leK b a = true) : a = b := Classical.byContradiction fun hne => by
  have g1 := leK_lt h1 hne
  have g2 := leK_lt h2 (Ne.symm hne)
  rcases g1 with g1 | ⟨e1, g1⟩
  · rcases g2 with g2 | ⟨e2, g2⟩
    · exact List.lt_irrefl _ (List.lt_trans g1 g2)
    · rw [e2] at g1; exact List.lt_irrefl _ g1
  · rcases g2 with g2 | ⟨e2, g2⟩
    · rw [e1] at g2; exact List.lt_irrefl _ g2
    · omega
theorem sortK_of_perm {l m : List KY} (h : l.Perm m) : sortK l = sortK m :=
  List.Perm.eq_of_pairwise (le := fun a b => leK a b = true) (fun _ _ _ _ h1 h2 => leK_anti h1 h2) (sortK_pw l) (sortK_pw m) ((sortK_perm l).trans (h.trans (sortK_perm m).symm))
theorem sortK_lt {ks : List KY} (h : ks.Nodup) : (sortK ks).Pairwise ltK := by
  have h1 := (sortK_perm ks).nodup_iff.mpr h
  exact (List.pairwise_and_iff.mpr ⟨sortK_pw ks, h1⟩).imp fun ⟨a, b⟩ => leK_lt a b
def before (f : KY → Stre) (a b : KY) : Prop := (f a).kind.cps.toList < (f b).kind.cps.toList ∨ ((f a).kind = (f b).kind ∧ ltK a b)
theorem code_lt : ("code" : Str).cps.toList < ("data" : Str).cps.toList := by decide +kernel
theorem ord_before {f : KY → Stre} {ks : List KY} (h : ks.Nodup) : (ordK f ks).Pairwise (before f) := by
  unfold ordK
  have hA : ∀ k ∈ ofSort f "code" (sortK ks), (f k).kind = "code" := fun k hk => of_decide_eq_true (List.mem_filter.mp hk).2
  have hB : ∀ k ∈ ofSort f "data" (sortK ks), (f k).kind = "data" := fun k hk => of_decide_eq_true (List.mem_filter.mp hk).2
  have same : ∀ so, (∀ k ∈ ofSort f so (sortK ks), (f k).kind = so) → (ofSort f so (sortK ks)).Pairwise (before f) := fun so hs => by
    refine List.Pairwise.imp_of_mem ?_ (List.Pairwise.sublist List.filter_sublist (sortK_lt h))
    exact fun {a b} ha hb hl => .inr ⟨(hs a ha).trans (hs b hb).symm, hl⟩
  rw [List.pairwise_append]
  refine ⟨same _ hA, same _ hB, fun a ha b hb => .inl ?_⟩
  rw [hA a ha, hB b hb]
  exact code_lt
/-! names of pieces are apart -/
theorem fig_inj (b : Bool) : ∀ i j : Nat, i < 101 → j < 101 → (if b then Txt.zfill (toString (i : Int)) 3 else toString (i : Int) : Str).cps.toList = (if b then Txt.zfill (toString (j : Int)) 3 else toString (j : Int) : Str).cps.toList → i = j := by
  have h : ((List.range 101).map fun n : Nat => (if b then Txt.zfill (toString (n : Int)) 3 else toString (n : Int) : Str).cps.toList).Nodup := by cases b <;> decide +kernel
  intro i j hi hj e
  have h2 := List.pairwise_iff_getElem.mp h
  rcases Nat.lt_trichotomy i j with g | g | g
  · have := h2 i j (by simpa using hi) (by simpa using hj) g
    simp only [List.getElem_map, List.getElem_range] at this
    exact absurd e this
  · exact g
  · have := h2 j i (by simpa using hj) (by simpa using hi) g
    simp only [List.getElem_map, List.getElem_range] at this
    exact absurd e.symm this
theorem nqT_inj {c k k' : Int} (h0 : 0 ≤ k) (h1 : k < 101) (h2 : 0 ≤ k') (h3 : k' < 101) (e : nqT c k = nqT c k') : k = k' := by
  have e : nqL c k = nqL c k' := by
    have := congrArg (fun z : Str => z.cps.toList) e
    exact this
  unfold nqL at e
  have e2 := List.append_cancel_left (List.append_cancel_right e)
  rw [nqF_is h0 h1, nqF_is h2 h3] at e2
  have := fig_inj _ _ _ (by omega) (by omega) e2
  omega
theorem stresL_mem {t : Str} {a : List Stre} {i : Nat} {k : KY} (h : k ∈ (stresL t i a).map (·.1)) : k.1 = t ∧ (i : Int) ≤ k.2 := by
  obtain ⟨x, hx, rfl⟩ := List.mem_map.mp h
  obtain ⟨j, s, _, rfl⟩ := stresL_keys hx
  exact ⟨rfl, by show (i : Int) ≤ ((i + j : Nat) : Int); omega⟩
theorem stresL_nodup (t : Str) : ∀ (a : List Stre) (i : Nat), ((stresL t i a).map (·.1)).Nodup
  | [], _ => List.nodup_nil
  | s :: a, i => by
    show ((t, (i : Int)) :: (stresL t (i + 1) a).map (·.1)).Nodup
    refine List.nodup_cons.mpr ⟨fun h => ?_, stresL_nodup t a (i + 1)⟩
    have := (stresL_mem h).2
    have : ((i + 1 : Nat) : Int) ≤ (i : Int) := this
    omega
theorem known_nodup : ∀ (ps : List Piece), ps.Pairwise (fun p q => p.stres = [] ∨ q.stres = [] ∨ p.name ≠ q.name) → ((knownF ps).map (·.1)).Nodup
  | [], _ => List.nodup_nil
  | p :: ps, h => by
    obtain ⟨h1, h2⟩ := List.pairwise_cons.mp h
    show (((stresL p.name 0 p.stres) ++ knownF ps).map (·.1)).Nodup
    rw [List.map_append, List.nodup_append]
    refine ⟨stresL_nodup _ _ _, known_nodup ps h2, fun a ha b hb e => ?_⟩
    have e1 := (stresL_mem ha).1
    obtain ⟨x, hx, rfl⟩ := List.mem_map.mp hb
    obtain ⟨q, hq, hx⟩ := List.mem_flatMap.mp hx
    have e2 := (stresL_mem (List.mem_map_of_mem (f := (·.1)) hx)).1
    rcases h1 q hq with g | g | g
    · rw [g] at ha; cases ha
    · rw [g] at hx; cases hx
    · rw [e] at e1; exact g (e1.symm.trans e2)
theorem LD.apart {tb : Int} {mx n : Nat} {ps : List Piece} (h : LD tb mx n ps) : ((knownF ps).map (·.1)).Nodup := by
  refine known_nodup ps (List.pairwise_iff_getElem.mpr fun i j hi hj hij => ?_)
  have hl := h.len
  rcases Nat.eq_zero_or_pos i with e | e
  · subst e; exact .inl (h.first _ (List.getElem?_eq_getElem hi))
  · refine .inr (.inr fun en => ?_)
    rw [h.name i _ (List.getElem?_eq_getElem hi), h.name j _ (List.getElem?_eq_getElem hj)] at en
    unfold pnm at en
    rw [if_neg (by omega), if_neg (by omega)] at en
    have := nqT_inj (by omega) (by omega) (by omega) (by omega) en
    omega
theorem LK.nodup {ps : List Piece} {ks : List KY} (h : LK ps ks) (hn : ((knownF ps).map (·.1)).Nodup) : ks.Nodup := by
  obtain ⟨ks0, h1, h2⟩ := h.sub
  exact h1.nodup_iff.mpr (h2.nodup hn)
/-! sorted of what is known as data -/
theorem s_sortDp {K : PySem.W.Frag} {H : Hp} {Q : VK} {a : Addr} {us : List V} {ks : List KY} (h : SqL K H a us) (hd : DpAll K H us (ks.map keyD))
    (z : ∀ (p : Addr) (ws : List V), H p = none → DpAll K H ws ((sortK ks).map keyD) → Q (.ref p) (upd H p (.lst ws))) : rSortDt K [.ref a] H Q := by
  have hl := da_length hd
  have hzip : ∀ (us : List V) (ks : List KY), DpAll K H us (ks.map keyD) → ∀ x ∈ us.zip ks, Dp K H x.1 (keyD x.2) := by
    intro us ks
    induction ks generalizing us with
    | nil => intro h x hx; rw [List.zip_nil_right] at hx; cases hx
    | cons k ks ih =>
      intro h x hx
      obtain ⟨v, vs, rfl, h1, h2⟩ := da_cons h
      rcases List.mem_cons.mp hx with rfl | hx
      · exact h1
      · exact ih vs h2 x hx
  have hz := hzip us ks hd
  have e1 : (us.zip ks).map (·.1) = us := by rw [List.map_fst_zip]; omega
  have e2 : (us.zip ks).map (·.2) = ks := by rw [List.map_snd_zip]; omega
  generalize us.zip ks = zs at *
  refine ⟨a, zs.map fun x => (x.1, keyD x.2), rfl, by rw [List.map_map]; show SqL K H a (zs.map (·.1)); rw [e1]; exact h, fun b hb => ?_, ?_, ?_, fun b hb => ?_, fun p np => ?_⟩
  · obtain ⟨x, hx, rfl⟩ := List.mem_map.mp hb
    exact hz x hx
  · rw [List.map_map]
    have := keys_alike (zs.map (·.2))
    rw [List.map_map] at this
    exact this
  · rw [List.map_map]
    have := keys_sortable (zs.map (·.2))
    rw [List.map_map] at this
    exact this
  · obtain ⟨x, hx, rfl⟩ := List.mem_map.mp hb
    show max 0 (max 0 0) + 1 ≤ 8
    omega
  · have e3 : (zs.map fun x => (x.1, keyD x.2)).mergeSort leV = (zs.mergeSort fun a b => leK a.2 b.2).map fun x => (x.1, keyD x.2) :=
      (List.map_mergeSort (f := fun x : V × KY => (x.1, keyD x.2)) (r := fun a b => leK a.2 b.2) (s := leV) (l := zs) (fun a _ b _ => (leK_data a.2 b.2).symm)).symm
    rw [e3, List.map_map]
    refine z p _ np ?_
    have hs : (sortZ zs).map (·.2) = sortK ks := by rw [sortZ_keys, e2]
    rw [← hs]
    have hm : ∀ x ∈ sortZ zs, Dp K H x.1 (keyD x.2) := fun x hx => hz x ((sortZ_perm zs).mem_iff.mp hx)
    show DpAll K H ((sortZ zs).map (·.1)) _
    generalize sortZ zs = ys at *
    clear hs
    induction ys with
    | nil => exact .nil
    | cons y ys ih => exact .cons (hm y List.mem_cons_self) (ih fun x hx => hm x (List.mem_cons_of_mem _ hx))
/-! two cells are written, all else no more -/
theorem Act.two {B H : Hp} {p q : Addr} {o u : HO} (s : Same B H) (np : B p = none) (nq : B q = none) (ep : H p = some o) (eq : H q = some u) (hpq : p ≠ q) : Act B (del (del H p) q) H [p, q] := by
  refine ⟨fun b v e => ?_, fun b v e => ?_, fun b hb => ?_, ?_⟩
  · rw [del_ne (fun z => by rw [z, nq] at e; cases e), del_ne (fun z => by rw [z, np] at e; cases e)]; exact s b v e
  · by_cases z : b = q
    · rw [z, del_same] at e; cases e
    · rw [del_ne z] at e
      by_cases z2 : b = p
      · rw [z2, del_same] at e; cases e
      · rw [del_ne z2] at e; exact e
  · simp only [List.mem_cons, List.not_mem_nil, or_false] at hb
    rcases hb with rfl | rfl
    · exact ⟨by rw [del_ne hpq, del_same], _, ep⟩
    · exact ⟨del_same, _, eq⟩
  · exact List.nodup_cons.mpr ⟨fun h => hpq (List.mem_singleton.mp h), List.nodup_cons.mpr ⟨List.not_mem_nil, List.nodup_nil⟩⟩
theorem cutV_tl (xs : List V) : cutV xs (some 1) none = xs.drop 1 := by
  cases xs with
  | nil => rfl
  | cons x xs => exact cutV_from (x :: xs) 1 (by rw [List.length_cons]; omega)
end Jl

/-! Ways: what is reached. -/
namespace Jl
open PySem L2 PySem.Spec PyProof.Rows
/-- {k: v}, k a tuple -/
def tDispT (tk tv : TE) : TE := fun σ H Q => ∀ p, H p = none → tk σ (upd H p (.dT [])) fun x H1 => tv σ H1 fun y H2 => ∃ (b : Addr) (k : List Key), x = .ref b ∧ H2 b = some (.tup (k.map kV)) ∧ H2 p = some (.dT []) ∧ Q (.ref p) (upd H2 p (.dT [(k, y)]))
section
variable {X : Cx} {a b : Expr} {ta tb : TE} {pos : Pos}
theorem pe_dispT (hu : X.A.units + 1 < cLine) (ha : PE X a ta) (hb : PE X b tb) : PE X (.Dict [some a] [b] pos) (tDispT ta tb) := by
  refine ⟨fun pins s σ H Q I q => ?_⟩
  have hn := I.hok.fresh (Nat.le_refl s.heap.objs.size)
  have I1 := I.laid (a := s.heap.objs.size) (o := .dT []) (h' := s.heap.push { cls := .type "dict", data := .dict #[] }) (t' := s.toks) (fun _ _ q => Heap.get?_push_of_some _ q) (Nat.le_refl _) (dt_empty s.heap I.big)
  rw [arm_eval_Dict, zip_pairTrees [some a] [b] X.env pos rfl rfl, dictDisplay_pairs (pairTrees [some a] [b] X.env pos) (fun z => by cases z) (by show 1 < 17; decide)]
  refine wpAny_bind (wpAny_standAt (wpAny_bind ?_))
  unfold subDict
  refine wpAny_bind (wpAny_alloc ?_)
  refine wpAny_bind (wpAny_holding ?_)
  rw [if_pos (show (pairTrees [some a] [b] X.env pos).length ≤ 15 by show 1 ≤ 15; decide)]
  refine wpAny_bind (pairTrees_cons_walk (thn (ha.run pins _ σ _ _ I1 (q _ hn)) fun u s1 ⟨x, H1, I2, rx, q1⟩ => thn (hb.run pins s1 σ H1 _ I2 q1) fun v s2 ⟨y, H2, I3, ry, q2⟩ => pairTrees_nil_walk ?_))
  obtain ⟨bb, k, rfl, hbb, hp, q3⟩ := q2
  obtain rfl : u = Value.ref bb := rx
  refine wpAny_holding ?_
  refine wpAny_bind ?_
  rw [List.forIn_cons]
  obtain ⟨z, hd, xs, rel, dd⟩ := dt_of I3.hok hp
  have hxs : xs = [] := by
    have := Paired.length rel
    exact List.length_eq_zero_iff.mp this.symm
  subst hxs
  refine wpAny_bind (wpAny_bind (wpAny_dictSet_heap (K := List Key) (knd := tupleKind (mixKind X.prog X.w)) (Nat.lt_of_succ_lt hu) (key_of I3.hok hbb) dd (fun h' dd' hs => wpAny_pure ?_) (by show 0 ≤ _; exact Nat.zero_le _)))
  dsimp only
  rw [List.forIn_nil]
  refine wpAny_pure (wpAny_pure (wpAny_pure (wpAny_pure ?_)))
  obtain ⟨o, es, ep, ho, h2, h3, h4, _, h5⟩ := dd'
  refine ⟨.ref s.heap.objs.size, upd H2 s.heap.objs.size (.dT [(k, y)]), d_write I3 (by rw [hp]; exact True.intro) hs ⟨o, ho⟩ ⟨(by show 1 ≤ sizeLine; decide), hd, _, (rel.put k hbb ry).keeps fun c ys ec => ?_, o, es, ep, ho, h2, h3, h4, h5⟩, rfl, q3⟩
  rw [upd_ne (ne_of ec hp (fun z => nomatch z))]
  exact ec
end
theorem s_dispT {tk tv : TE} {σ : L2.St} {H : Hp} {Q : VK} (z : ∀ p, H p = none → tk σ (upd H p (.dT [])) fun x H1 => tv σ H1 fun y H2 => ∃ (b : Addr) (k : List Key), x = .ref b ∧ H2 b = some (.tup (k.map kV)) ∧ H2 p = some (.dT []) ∧ Q (.ref p) (upd H2 p (.dT [(k, y)]))) : tDispT tk tv σ H Q := z
/-! titles are apart -/
theorem sgns_nodup : sgns.cps.toList.Nodup := by decide +kernel
theorem sgn_inj {i j : Nat} (hi : i < 37) (hj : j < 37) (e : sgns.cps.toList.getD i 0 = sgns.cps.toList.getD j 0) : i = j := by
  have hl := sgns_len
  rw [List.getD_eq_getElem?_getD, List.getD_eq_getElem?_getD, List.getElem?_eq_getElem (by omega), List.getElem?_eq_getElem (by omega)] at e
  have e : sgns.cps.toList[i] = sgns.cps.toList[j] := e
  have h2 := List.pairwise_iff_getElem.mp sgns_nodup
  rcases Nat.lt_trichotomy i j with g | g | g
  · exact absurd e (h2 i j (by omega) (by omega) g)
  · exact g
  · exact absurd e.symm (h2 j i (by omega) (by omega) g)
theorem nmT_inj {c k k' : Int} (h0 : 0 ≤ k) (h1 : k < 16) (h2 : 0 ≤ k') (h3 : k' < 16) (e : nmT c k = nmT c k') : k = k' := by
  have e : nmL c k = nmL c k' := by
    have := congrArg (fun z : Str => z.cps.toList) e
    exact this
  by_cases hc : c / 256 % 3 = 0
  · have hl := congrArg List.length e
    rw [nmL_len, nmL_len] at hl
    unfold nmSize at hl
    rw [if_pos hc, if_pos hc] at hl
    omega
  · have hs : ∀ q, nmSize c q = 1 + c % 16 := fun q => by unfold nmSize; rw [if_neg hc]
    have ha : nmAt c = c / 16 % (1 + c % 16) := by unfold nmAt; rw [if_neg hc]
    have b1 := Int.emod_nonneg (c / 16) (show (1 + c % 16) ≠ 0 by omega)
    have b2 := Int.emod_lt_of_pos (c / 16) (show 0 < (1 + c % 16) by omega)
    have hj : (nmAt c).toNat < (1 + c % 16).toNat := by rw [ha]; omega
    have hjc : ((nmAt c).toNat : Int) = nmAt c := by rw [ha]; omega
    have hat : ∀ q, (nmL c q)[(nmAt c).toNat]? = some (sgns.cps.toList.getD (nmIx c q (nmAt c) (nmAt c).toNat).toNat 0) := fun q => by
      unfold nmL
      rw [List.getElem?_map, List.getElem?_range (by rw [hs]; exact hj)]; rfl
    have h4 := hat k
    rw [e, hat k'] at h4
    have h4 := Option.some.inj h4
    have o1 := nmIx_ok c k (nmAt c) (nmAt c).toNat
    have o2 := nmIx_ok c k' (nmAt c) (nmAt c).toNat
    have h5 := sgn_inj (by omega) (by omega) h4
    have h6 : nmIx c k (nmAt c) (nmAt c).toNat = nmIx c k' (nmAt c) (nmAt c).toNat := by omega
    unfold nmIx at h6
    rw [hjc, if_pos rfl, Int.mul_one, Int.mul_one] at h6
    generalize c / (nmAt c + 3) + nmAt c * nmAt c = B at h6
    by_cases h7 : nmAt c = 0
    · rw [if_pos h7] at h6; omega
    · rw [if_neg h7] at h6; omega
/-! what is aimed at -/
def tgt (p : Piece) (L : List (Str × PyData)) (f : Fill) : Option KY := match spotOf p L f.name with
  | some (.tuple [.str t, .int i, .int _]) => some (t, i)
  | _ => none
theorem tgt_some {p : Piece} {L : List (Str × PyData)} {f : Fill} {t : Str} {i j : Int} (h : spotOf p L f.name = some (spotD t i j)) : tgt p L f = some (t, i) := by
  unfold tgt; rw [h]; rfl
theorem tgt_none {p : Piece} {L : List (Str × PyData)} {f : Fill} (h : spotOf p L f.name = none) : tgt p L f = none := by
  unfold tgt; rw [h]
abbrev RW := KY × Option (KY × Int)
def add1 (key : KY) (rs : List RW) (x : KY × Int) : List RW := if x.1 ∈ rs.map (·.1) then rs else rs ++ [(x.1, some (key, x.2))]
def tgs (p : Piece) (L : List (Str × PyData)) (fs : List Fill) : List (KY × Int) := fs.filterMap fun f => (tgt p L f).map fun k => (k, f.at_)
def addS (key : KY) (rs : List RW) (ts : List (KY × Int)) : List RW := ts.foldl (add1 key) rs
def bfs (T : KY → List (KY × Int)) (root : KY) : Nat → List RW
  | 0 => [(root, none)]
  | n + 1 => match (bfs T root n)[n]? with
    | some r => addS r.1 (bfs T root n) (T r.1)
    | none => bfs T root n
theorem bfs_step {T : KY → List (KY × Int)} {root : KY} {n : Nat} {r : RW} (h : (bfs T root n)[n]? = some r) : bfs T root (n + 1) = addS r.1 (bfs T root n) (T r.1) := by
  show (match (bfs T root n)[n]? with | some r => _ | none => _) = _
  rw [h]
theorem bfs_stay {T : KY → List (KY × Int)} {root : KY} {n : Nat} (h : (bfs T root n).length ≤ n) : ∀ m, bfs T root (n + m) = bfs T root n ∧ (bfs T root (n + m)).length ≤ n + m
  | 0 => ⟨rfl, h⟩
  | m + 1 => by
    obtain ⟨h1, h2⟩ := bfs_stay h m
    have e : bfs T root (n + m + 1) = bfs T root (n + m) := by
      show (match (bfs T root (n + m))[n + m]? with | some r => _ | none => _) = _
      rw [List.getElem?_eq_none h2]
    rw [show n + (m + 1) = n + m + 1 by omega, e]
    exact ⟨h1, by omega⟩
theorem bfs_fin {T : KY → List (KY × Int)} {root : KY} {n m : Nat} (h1 : (bfs T root n).length ≤ n) (h2 : (bfs T root m).length ≤ m) : bfs T root n = bfs T root m := by
  rcases Nat.le_total n m with h | h
  · obtain ⟨d, rfl⟩ := Nat.exists_eq_add_of_le h
    exact (bfs_stay h1 d).1.symm
  · obtain ⟨d, rfl⟩ := Nat.exists_eq_add_of_le h
    exact (bfs_stay h2 d).1
theorem add1_nodup {key : KY} {rs : List RW} {x : KY × Int} (h : (rs.map (·.1)).Nodup) : ((add1 key rs x).map (·.1)).Nodup := by
  unfold add1
  by_cases g : x.1 ∈ rs.map (·.1)
  · rw [if_pos g]; exact h
  · rw [if_neg g, List.map_append, List.nodup_append]
    exact ⟨h, List.nodup_cons.mpr ⟨List.not_mem_nil, List.nodup_nil⟩, fun a ha b hb e => by
      have hb : b = x.1 := List.mem_singleton.mp hb
      exact g (hb ▸ e ▸ ha)⟩
theorem add1_all {P : KY → Prop} {key : KY} {rs : List RW} {x : KY × Int} (h : ∀ r ∈ rs, P r.1) (hx : P x.1) : ∀ r ∈ add1 key rs x, P r.1 := fun r hr => by
  unfold add1 at hr
  by_cases g : x.1 ∈ rs.map (·.1)
  · rw [if_pos g] at hr; exact h r hr
  · rw [if_neg g] at hr
    rcases List.mem_append.mp hr with hr | hr
    · exact h r hr
    · rw [List.mem_singleton.mp hr]; exact hx
theorem addS_nodup {key : KY} : ∀ (ts : List (KY × Int)) (rs : List RW), (rs.map (·.1)).Nodup → ((addS key rs ts).map (·.1)).Nodup
  | [], _, h => h
  | x :: ts, rs, h => addS_nodup ts _ (add1_nodup h)
theorem addS_all {P : KY → Prop} {key : KY} : ∀ (ts : List (KY × Int)) (rs : List RW), (∀ r ∈ rs, P r.1) → (∀ x ∈ ts, P x.1) → ∀ r ∈ addS key rs ts, P r.1
  | [], _, h, _ => h
  | x :: ts, rs, h, hx => addS_all ts _ (add1_all h (hx x List.mem_cons_self)) fun y hy => hx y (List.mem_cons_of_mem _ hy)
theorem addS_snoc (key : KY) (rs : List RW) (ts : List (KY × Int)) (x : KY × Int) : addS key rs (ts ++ [x]) = add1 key (addS key rs ts) x := by unfold addS; rw [List.foldl_append]; rfl
theorem bfs_nodup {T : KY → List (KY × Int)} {root : KY} : ∀ n, ((bfs T root n).map (·.1)).Nodup
  | 0 => List.nodup_cons.mpr ⟨List.not_mem_nil, List.nodup_nil⟩
  | n + 1 => by
    cases h : (bfs T root n)[n]? with
    | some r => rw [bfs_step h]; exact addS_nodup _ _ (bfs_nodup n)
    | none =>
      have e : bfs T root (n + 1) = bfs T root n := by
        show (match (bfs T root n)[n]? with | some r => _ | none => _) = _
        rw [h]
      rw [e]; exact bfs_nodup n
theorem bfs_all {P : KY → Prop} {T : KY → List (KY × Int)} {root : KY} (h0 : P root) (hT : ∀ k, P k → ∀ x ∈ T k, P x.1) : ∀ n, ∀ r ∈ bfs T root n, P r.1
  | 0 => fun r hr => by rw [List.mem_singleton.mp hr]; exact h0
  | n + 1 => by
    cases h : (bfs T root n)[n]? with
    | some r =>
      rw [bfs_step h]
      exact addS_all _ _ (bfs_all h0 hT n) (hT r.1 (bfs_all h0 hT n r (List.mem_of_getElem? h)))
    | none =>
      have e : bfs T root (n + 1) = bfs T root n := by
        show (match (bfs T root n)[n]? with | some r => _ | none => _) = _
        rw [h]
      rw [e]; exact bfs_all h0 hT n
theorem nodup_len {α : Type} [DecidableEq α] : ∀ {l m : List α}, l.Nodup → (∀ x ∈ l, x ∈ m) → l.length ≤ m.length
  | [], m, _, _ => Nat.zero_le _
  | x :: l, m, h, hs => by
    obtain ⟨h1, h2⟩ := List.nodup_cons.mp h
    have hx := hs x List.mem_cons_self
    have h3 := nodup_len (m := m.erase x) h2 fun y hy => (List.mem_erase_of_ne (fun e => h1 (by rw [← e]; exact hy))).mpr (hs y (List.mem_cons_of_mem _ hy))
    have h4 := List.length_erase_of_mem hx
    have h5 := List.length_pos_of_mem hx
    rw [List.length_cons]
    omega
/-! keys of stretches that are there -/
def VK_ (ps : List Piece) (k : KY) : Prop := ∃ p ∈ ps, k.1 = p.name ∧ 0 ≤ k.2 ∧ k.2 < (p.stres.length : Int)
theorem stresL_has {t : Str} : ∀ {a : List Stre} {i j : Nat}, j < a.length → (t, ((i + j : Nat) : Int)) ∈ (stresL t i a).map (·.1)
  | [], _, _, h => by cases h
  | s :: a, i, 0, _ => List.mem_cons_self
  | s :: a, i, j + 1, h => by
    refine List.mem_cons_of_mem _ ?_
    have := stresL_has (t := t) (a := a) (i := i + 1) (j := j) (by rw [List.length_cons] at h; omega)
    rw [show i + 1 + j = i + (j + 1) by omega] at this
    exact this
theorem VK_.known {ps : List Piece} {k : KY} (h : VK_ ps k) : k ∈ (knownF ps).map (·.1) := by
  obtain ⟨p, hp, h1, h2, h3⟩ := h
  have h4 := stresL_has (t := p.name) (a := p.stres) (i := 0) (j := k.2.toNat) (by omega)
  have e : k = (p.name, ((0 + k.2.toNat : Nat) : Int)) := Prod.ext h1 (by show k.2 = _; omega)
  rw [← e] at h4
  obtain ⟨x, hx, ex⟩ := List.mem_map.mp h4
  exact List.mem_map.mpr ⟨x, List.mem_flatMap.mpr ⟨p, hp, hx⟩, ex⟩
def titleL (ps : List Piece) : List (Str × PyData) := putAll [] (ps.map fun p => (p.name, pieceD p))
def pieceAt (ps : List Piece) (t : Str) : Piece := (ps.find? fun p => decide (p.name = t)).getD ⟨t, [], []⟩
theorem pieceAt_mem {ps : List Piece} (nd : (ps.map (·.name)).Nodup) {p : Piece} (hp : p ∈ ps) : pieceAt ps p.name = p := by
  unfold pieceAt
  cases h : ps.find? (fun q => decide (q.name = p.name)) with
  | none => exact absurd (decide_eq_true (rfl : p.name = p.name)) (List.find?_eq_none.mp h p hp)
  | some q =>
    have h1 : q.name = p.name := by simpa using List.find?_some h
    have h2 := List.mem_of_find?_eq_some h
    obtain ⟨i, hi, e1⟩ := List.getElem_of_mem h2
    obtain ⟨j, hj, e2⟩ := List.getElem_of_mem hp
    have h3 := List.pairwise_iff_getElem.mp nd
    rcases Nat.lt_trichotomy i j with g | g | g
    · have := h3 i j (by simpa using hi) (by simpa using hj) g
      simp only [List.getElem_map, e1, e2] at this
      exact absurd h1 this
    · subst g; rw [← e1]; exact e2
    · have := h3 j i (by simpa using hj) (by simpa using hi) g
      simp only [List.getElem_map, e1, e2] at this
      exact absurd h1.symm this
theorem putAll_look {xs : List (Str × PyData)} {z : Str} {d : PyData} : ∀ {L : List (Str × PyData)}, (xs.map (·.1)).Nodup → (z, d) ∈ xs → lookL (putAll L xs) z = some d := by
  have keep : ∀ (xs : List (Str × PyData)) (L : List (Str × PyData)), z ∉ xs.map (·.1) → lookL (putAll L xs) z = lookL L z := by
    intro xs
    induction xs with
    | nil => intro L _; rfl
    | cons x xs ih =>
      intro L h
      have h1 : z ≠ x.1 := fun e => h (by rw [e]; exact List.mem_cons_self)
      show lookL (putAll (putL L x.1 x.2) xs) z = _
      rw [ih _ fun g => h (List.mem_cons_of_mem _ g), lookL_put, if_neg h1]
  induction xs with
  | nil => intro L _ h; cases h
  | cons x xs ih =>
    intro L nd h
    obtain ⟨n1, n2⟩ := List.nodup_cons.mp nd
    show lookL (putAll (putL L x.1 x.2) xs) z = _
    rcases List.mem_cons.mp h with rfl | h
    · rw [keep xs _ n1, lookL_put, if_pos rfl]
    · exact ih n2 h
theorem titleL_look {ps : List Piece} (nd : (ps.map (·.name)).Nodup) {p : Piece} (hp : p ∈ ps) : lookL (titleL ps) p.name = some (pieceD p) :=
  putAll_look (by rw [List.map_map]; exact nd) (List.mem_map.mpr ⟨p, hp, rfl⟩)
/-- the targets of the fills of a stretch -/
def TT_ (ps : List Piece) (L : List (Str × PyData)) (k : KY) : List (KY × Int) :=
  match (pieceAt ps k.1).stres[k.2.toNat]? with
  | some s => tgs (pieceAt ps k.1) L s.fills
  | none => []
theorem TT_at {ps : List Piece} {L : List (Str × PyData)} {k : KY} {s : Stre} (h : (pieceAt ps k.1).stres[k.2.toNat]? = some s) : TT_ ps L k = tgs (pieceAt ps k.1) L s.fills := by unfold TT_; rw [h]
/-- what reached is handed -/
structure Way (ps : List Piece) (L : List (Str × PyData)) : Prop where
  fine : ∀ p ∈ ps, Fine p
  nd : (ps.map (·.name)).Nodup
  own : ∀ p ∈ ps, ∀ m ∈ p.names, 0 ≤ m.stre ∧ m.stre < (p.stres.length : Int)
  all : ∀ x ∈ L, ∃ t i j, okS t ∧ x.2 = spotD t i j ∧ VK_ ps (t, i)
  aims : ∀ p ∈ ps, ∀ s ∈ p.stres, ∀ f ∈ s.fills, f.soft = true ∨ spotOf p L f.name ≠ none
  few : ps.length ≤ 64
theorem Way.spots {ps : List Piece} {L : List (Str × PyData)} (h : Way ps L) : AllSpot L := fun x hx => by
  obtain ⟨t, i, j, h1, h2, -⟩ := h.all x hx
  exact ⟨t, i, j, h1, h2⟩
theorem Way.spot {ps : List Piece} {L : List (Str × PyData)} (h : Way ps L) {p : Piece} (hp : p ∈ ps) {z : Str} {d : PyData} (e : spotOf p L z = some d) : ∃ t i j, okS t ∧ d = spotD t i j ∧ VK_ ps (t, i) := by
  unfold spotOf at e
  cases g : ownOf p z with
  | some m =>
    rw [g] at e
    cases e
    have hm : m ∈ p.names := List.mem_of_find?_eq_some g
    obtain ⟨h1, h2⟩ := h.own p hp m hm
    exact ⟨p.name, m.stre, m.off, (h.fine p hp).ok.1, rfl, p, hp, rfl, h1, h2⟩
  | none =>
    rw [g] at e
    exact h.all _ (look_mem' e)
theorem Way.tgs {ps : List Piece} {L : List (Str × PyData)} (h : Way ps L) {p : Piece} (hp : p ∈ ps) {fs : List Fill} {x : KY × Int} (hx : x ∈ tgs p L fs) : VK_ ps x.1 := by
  obtain ⟨f, hf, e⟩ := List.mem_filterMap.mp hx
  cases g : spotOf p L f.name with
  | none => rw [tgt_none g] at e; cases e
  | some d =>
    obtain ⟨t, i, j, -, rfl, hv⟩ := h.spot hp g
    rw [tgt_some g] at e
    cases e
    exact hv
theorem Way.TT {ps : List Piece} {L : List (Str × PyData)} (h : Way ps L) {k : KY} (hk : VK_ ps k) : ∀ x ∈ TT_ ps L k, VK_ ps x.1 := fun x hx => by
  obtain ⟨p, hp, h1, -⟩ := hk
  unfold TT_ at hx
  rw [h1, pieceAt_mem h.nd hp] at hx
  cases g : p.stres[k.2.toNat]? with
  | none => rw [g] at hx; cases hx
  | some s => rw [g] at hx; exact h.tgs hp hx
theorem Way.size {ps : List Piece} {L : List (Str × PyData)} (h : Way ps L) : (knownF ps).length ≤ 64 * 64 := by
  have key : ∀ qs : List Piece, (∀ p ∈ qs, p.stres.length < 64) → (knownF qs).length ≤ 64 * qs.length := by
    intro qs
    induction qs with
    | nil => intro _; exact Nat.zero_le _
    | cons q qs ih =>
      intro hq
      have h1 := ih fun p hp => hq p (List.mem_cons_of_mem _ hp)
      have h2 := hq q List.mem_cons_self
      show (stresL q.name 0 q.stres ++ knownF qs).length ≤ _
      rw [List.length_append, stresL_len, List.length_cons]
      omega
  have := key ps fun p hp => (h.fine p hp).sl
  have := h.few
  omega
theorem Way.len {ps : List Piece} {L : List (Str × PyData)} (h : Way ps L) {root : KY} (hr : VK_ ps root) (n : Nat) : (bfs (TT_ ps L) root n).length ≤ 64 * 64 := by
  have h1 := nodup_len (bfs_nodup (T := TT_ ps L) (root := root) n) (m := (knownF ps).map (·.1)) fun x hx => by
    obtain ⟨r, hr', rfl⟩ := List.mem_map.mp hx
    exact (bfs_all hr (fun k hk => h.TT hk) n r hr').known
  rw [List.length_map, List.length_map] at h1
  exact Nat.le_trans h1 h.size
theorem Way.lenS {ps : List Piece} {L : List (Str × PyData)} (h : Way ps L) {root : KY} (hr : VK_ ps root) (n : Nat) {p : Piece} (hp : p ∈ ps) (fs : List Fill) (key : KY) : (addS key (bfs (TT_ ps L) root n) (Jl.tgs p L fs)).length ≤ 64 * 64 := by
  have h1 := nodup_len (addS_nodup (key := key) (Jl.tgs p L fs) _ (bfs_nodup (T := TT_ ps L) (root := root) n)) (m := (knownF ps).map (·.1)) fun x hx => by
    obtain ⟨r, hr', rfl⟩ := List.mem_map.mp hx
    exact (addS_all _ _ (bfs_all hr (fun k hk => h.TT hk) n) (fun y hy => h.tgs hp hy) r hr').known
  rw [List.length_map, List.length_map] at h1
  exact Nat.le_trans h1 h.size
/-! rows of what is reached -/
def RwAt (G : Hp) (v : V) (r : RW) : Prop := ∃ b kv x y, v = .ref b ∧ G b = some (.tup [kv, x, y]) ∧ KeyAt G kv r.1 ∧
  ((r.2 = none ∧ x = .non ∧ y = .non) ∨ ∃ k a, r.2 = some (k, a) ∧ KeyAt G x k ∧ y = .int a)
theorem RwAt.same {G G' : Hp} {v : V} {r : RW} (h : RwAt G v r) (s : Same G G') : RwAt G' v r := by
  obtain ⟨b, kv, x, y, h1, h2, h3, h4⟩ := h
  refine ⟨b, kv, x, y, h1, s _ _ h2, h3.same s, ?_⟩
  rcases h4 with h4 | ⟨k, a, e, h5, h6⟩
  · exact .inl h4
  · exact .inr ⟨k, a, e, h5.same s, h6⟩
def seenL (ks : List KY) : List (KY × PyData) := putA [] (ks.map fun k => (k, .bool true))
theorem seenL_snoc (ks : List KY) (k : KY) : seenL (ks ++ [k]) = putL (seenL ks) k (.bool true) := by
  unfold seenL
  rw [List.map_append, putA_app]; rfl
theorem seenL_look (k : KY) : ∀ ks : List KY, lookL (seenL ks) k = none ↔ k ∉ ks := by
  have key : ∀ (ks : List KY) (L : List (KY × PyData)), lookL (putA L (ks.map fun k => (k, .bool true))) k = none ↔ (k ∉ ks ∧ lookL L k = none) := by
    intro ks
    induction ks with
    | nil => intro L; exact ⟨fun h => ⟨List.not_mem_nil, h⟩, fun h => h.2⟩
    | cons x ks ih =>
      intro L
      show lookL (putA (putL L x (.bool true)) (ks.map fun k => (k, .bool true))) k = none ↔ _
      rw [ih, lookL_put]
      by_cases e : k = x
      · rw [if_pos e]
        exact ⟨fun h => (by cases h.2), fun h => absurd (by rw [e]; exact List.mem_cons_self) h.1⟩
      · rw [if_neg e, List.mem_cons, not_or]
        exact ⟨fun h => ⟨⟨e, h.1⟩, h.2⟩, fun h => ⟨h.1.2, h.2⟩⟩
  intro ks
  rw [seenL, key]
  exact ⟨fun h => h.1, fun h => ⟨h, rfl⟩⟩
theorem seenL_len (ks : List KY) : (seenL ks).length ≤ ks.length := by
  have := putA_len (ks.map fun k => (k, PyData.bool true)) ([] : List (KY × PyData))
  rw [List.length_nil, List.length_map] at this
  unfold seenL
  omega
/-! fills that aim somewhere -/
def pfs (ps : List Piece) : List (Piece × Fill) := ps.flatMap fun p => (allF p).map fun f => (p, f)
def Aims (L : List (Str × PyData)) (xs : List (Piece × Fill)) : Prop := ∀ x ∈ xs, x.2.soft = true ∨ spotOf x.1 L x.2.name ≠ none
theorem spotOf_put {p : Piece} {L : List (Str × PyData)} {z w : Str} {d : PyData} (h : spotOf p L z ≠ none) : spotOf p (putL L w d) z ≠ none := by
  unfold spotOf at h ⊢
  cases g : ownOf p z with
  | some m => rw [g] at h; exact h
  | none =>
    rw [g] at h
    show lookL (putL L w d) z ≠ none
    rw [lookL_put]
    split
    · exact fun e => by cases e
    · exact h
theorem spotOf_put_same {p : Piece} {L : List (Str × PyData)} {z : Str} {d : PyData} : spotOf p (putL L z d) z ≠ none := by
  unfold spotOf
  cases g : ownOf p z with
  | some m => exact fun e => by cases e
  | none =>
    show lookL (putL L z d) z ≠ none
    rw [lookL_put, if_pos rfl]
    exact fun e => by cases e
theorem Aims.put {L : List (Str × PyData)} {xs : List (Piece × Fill)} {w : Str} {d : PyData} (h : Aims L xs) : Aims (putL L w d) xs := fun x hx => (h x hx).imp id spotOf_put
def Val0 (ps : List Piece) (L : List (Str × PyData)) : Prop := ∀ x ∈ L, ∃ t i j, okS t ∧ x.2 = spotD t i j ∧ VK_ ps (t, i)
def ValL (ps : List Piece) (L : List (Str × PyData)) : Prop := Val0 ps L ∧ (L.map (·.1)).Nodup
theorem Val0.put {ps : List Piece} {L : List (Str × PyData)} {z t : Str} {i j : Int} (h : Val0 ps L) (ht : okS t) (hv : VK_ ps (t, i)) : Val0 ps (putL L z (spotD t i j)) := by
  intro x hx
  unfold putL at hx
  split at hx
  · obtain ⟨y, hy, rfl⟩ := List.mem_map.mp hx
    by_cases e : y.1 = z
    · rw [if_pos e]; exact ⟨t, i, j, ht, rfl, hv⟩
    · rw [if_neg e]; exact h y hy
  · rcases List.mem_append.mp hx with hx | hx
    · exact h x hx
    · cases List.mem_singleton.mp hx
      exact ⟨t, i, j, ht, rfl, hv⟩
theorem ValL.put {ps : List Piece} {L : List (Str × PyData)} {z t : Str} {i j : Int} (h : ValL ps L) (ht : okS t) (hv : VK_ ps (t, i)) : ValL ps (putL L z (spotD t i j)) := ⟨h.1.put ht hv, putL_nodup h.2⟩
theorem ValL.spots {ps : List Piece} {L : List (Str × PyData)} (h : ValL ps L) : AllSpot L := fun x hx => by
  obtain ⟨t, i, j, h1, h2, -⟩ := h.1 x hx
  exact ⟨t, i, j, h1, h2⟩
/-- pieces whose own places are there -/
structure Pcs (ps : List Piece) : Prop where
  fine : ∀ p ∈ ps, Fine p
  nd : (ps.map (·.name)).Nodup
  own : ∀ p ∈ ps, ∀ m ∈ p.names, 0 ≤ m.stre ∧ m.stre < (p.stres.length : Int)
  few : ps.length ≤ 16
theorem Pcs.way {ps : List Piece} {L : List (Str × PyData)} (h : Pcs ps) (hv : ValL ps L) (ha : Aims L (pfs ps)) : Way ps L :=
  ⟨h.fine, h.nd, h.own, hv.1, fun p hp s hs f hf => ha (p, f) (List.mem_flatMap.mpr ⟨p, hp, List.mem_map.mpr ⟨f, List.mem_flatMap.mpr ⟨s, hs, hf⟩, rfl⟩⟩), by have := h.few; omega⟩
theorem pfs_len {ps : List Piece} (h : ∀ p ∈ ps, Fine p) : (pfs ps).length ≤ 64 * ps.length := by
  induction ps with
  | nil => exact Nat.zero_le _
  | cons p ps ih =>
    have h1 := ih fun q hq => h q (List.mem_cons_of_mem _ hq)
    have h2 := (h p List.mem_cons_self).fl
    show ((allF p).map _ ++ pfs ps).length ≤ _
    rw [List.length_append, List.length_map, List.length_cons]
    omega
theorem KeyAt.put {G : Hp} {D : Addr} {l : List V} {o : HO} {v : V} {k : KY} (h : KeyAt G v k) (e : G D = some (.lst l)) : KeyAt (upd G D o) v k := by
  obtain ⟨b, h1, h2⟩ := h
  exact ⟨b, h1, by rw [upd_ne (fun z => by rw [z, e] at h2; cases h2)]; exact h2⟩
/-- [(t, i) for i in range(n)] -/
theorem s_lcKeys {σ : L2.St} {H : Hp} {Q : VK} {te : TE} {t : TA} {k : Nat} {vs : List Nat} (nm : Str) (n : Int) (ha : ∀ R : List V → Hp → Prop, R [.int n] H → t σ H R) (hn : 0 ≤ n ∧ n ≤ 90000) (hw : ∀ x, wipe ((wipe σ vs).set k (some x)) vs = wipe σ vs)
    (he : ∀ (i : Nat) H1 (R : VK), Same H H1 → (i : Int) < n → (∀ p, H1 p = none → R (.ref p) (upd H1 p (.tup [.str nm, .int (i : Int)]))) → te ((wipe σ vs).set k (some (.int (i : Int)))) H1 R)
    (z : ∀ p H1 (zs : List (V × KY)), Same H H1 → H p = none → H1 p = some (.lst (zs.map (·.1))) → (∀ x ∈ zs, KeyAt H1 x.1 x.2) → zs.map (·.2) = (List.range n.toNat).map (fun i : Nat => (nm, (i : Int))) → Q (.ref p) H1) : tLc (iRng1 t) (gName k) tYes te vs σ H Q := by
  refine ha _ ⟨n, rfl, by omega, by omega, fun D hD => ?_⟩
  refine lc_range (lo := 0) (n := n.toNat) (fun i H' => Same H H' ∧ ∃ zs : List (V × KY), H' D = some (.lst (zs.map (·.1))) ∧ (∀ x ∈ zs, KeyAt H' x.1 x.2) ∧ zs.map (·.2) = (List.range i).map (fun i : Nat => (nm, (i : Int)))) ⟨same_upd hD, [], upd_same, fun _ h => (nomatch h), rfl⟩ (fun i H1 hi h => ?_) (fun H1 h => ?_)
  · obtain ⟨s1, zs, h1, h2, h3⟩ := h
    have hl : zs.length = i := by
      have := congrArg List.length h3
      simpa using this
    have e0 : (0 : Int) + (i : Int) = (i : Int) := Int.zero_add _
    show wipe ((wipe σ vs).set k (some (.int ((0 : Int) + (i : Int))))) vs = wipe σ vs ∧ te ((wipe σ vs).set k (some (.int ((0 : Int) + (i : Int))))) H1 _
    rw [e0]
    refine ⟨hw _, he i H1 _ s1 (by omega) fun p np => ?_⟩
    have s2 := same_upd (o := .tup [.str nm, .int (i : Int)]) np
    refine ⟨zs.map (·.1), s2 _ _ h1, small5' (by rw [List.length_map]; omega), same_mut (s1.trans s2) hD, zs ++ [(.ref p, (nm, (i : Int)))], ?_, fun x hx => ?_, ?_⟩
    · rw [upd_same, List.map_append]; rfl
    · rcases List.mem_append.mp hx with hx | hx
      · exact ((h2 x hx).same s2).put (s2 _ _ h1)
      · rw [List.mem_singleton.mp hx]
        exact KeyAt.put (l := zs.map (·.1)) ⟨p, rfl, upd_same⟩ (s2 _ _ h1)
    · rw [List.map_append, h3, List.range_succ, List.map_append]; rfl
  · obtain ⟨s1, zs, h1, h2, h3⟩ := h
    exact z D H1 zs s1 hD h1 h2 h3
theorem stresL_range (t : Str) : ∀ (a : List Stre) (i : Nat), (stresL t i a).map (·.1) = (List.range a.length).map fun j => (t, ((i + j : Nat) : Int))
  | [], _ => rfl
  | s :: a, i => by
    show (t, (i : Int)) :: (stresL t (i + 1) a).map (·.1) = _
    rw [stresL_range t a (i + 1), List.length_cons, List.range_succ_eq_map, List.map_cons, List.map_map]
    congr 1
    refine List.map_congr_left fun j _ => ?_
    show (t, ((i + 1 + j : Nat) : Int)) = (t, ((i + (j + 1) : Nat) : Int))
    rw [show i + 1 + j = i + (j + 1) by omega]
theorem known_len {ps : List Piece} (h : ∀ p ∈ ps, p.stres.length < 64) : (knownF ps).length ≤ 64 * ps.length := by
  induction ps with
  | nil => exact Nat.zero_le _
  | cons q qs ih =>
    have h1 := ih fun p hp => h p (List.mem_cons_of_mem _ hp)
    have h2 := h q List.mem_cons_self
    show (stresL q.name 0 q.stres ++ knownF qs).length ≤ _
    rw [List.length_append, stresL_len, List.length_cons]
    omega
theorem Act.refresh {B F H H' : Hp} {m : Addr} (c : Act B F H [m]) (s : Same H H') : Act B (del H' m) H' [m] ∧ Same F (del H' m) := by
  obtain ⟨f1, o, f2⟩ := c.free m List.mem_cons_self
  refine ⟨Act.only (c.same.trans s) (c.base.free f1) (s _ _ f2), fun b v e => ?_⟩
  rw [del_ne (fun z => by rw [z, f1] at e; cases e)]
  exact s _ _ (c.ext _ _ e)
theorem KeyAt.del {H : Hp} {m : Addr} {kvs : List (Key × V)} {v : V} {k : KY} (h : KeyAt H v k) (e : H m = some (.dK kvs)) : KeyAt (del H m) v k := by
  obtain ⟨b, h1, h2⟩ := h
  exact ⟨b, h1, by rw [del_ne (fun z => by rw [z, e] at h2; cases h2)]; exact h2⟩
theorem known_VK {ps : List Piece} {k : KY} (h : k ∈ (knownF ps).map (·.1)) : VK_ ps k := by
  obtain ⟨x, hx, rfl⟩ := List.mem_map.mp h
  obtain ⟨p, hp, hx⟩ := List.mem_flatMap.mp hx
  obtain ⟨j, s, h1, rfl⟩ := stresL_keys hx
  have := (List.getElem?_eq_some_iff.mp h1).1
  exact ⟨p, hp, rfl, by show (0 : Int) ≤ ((0 + j : Nat) : Int); omega, by show ((0 + j : Nat) : Int) < _; omega⟩
theorem Pcs.okK {ps : List Piece} (h : Pcs ps) {k : KY} (hk : VK_ ps k) : okS k.1 := by
  obtain ⟨p, hp, h1, -⟩ := hk
  rw [h1]; exact (h.fine p hp).ok.1
theorem putAll_val {ps : List Piece} : ∀ (xs L : List (Str × PyData)), ValL ps L → Val0 ps xs → ValL ps (putAll L xs)
  | [], _, h, _ => h
  | x :: xs, L, h, hx => by
    obtain ⟨t, i, j, h1, h2, h3⟩ := hx x List.mem_cons_self
    refine putAll_val xs (putL L x.1 x.2) ?_ fun y hy => hx y (List.mem_cons_of_mem _ hy)
    rw [h2]; exact h.put h1 h3
theorem Pcs.told {ps : List Piece} (h : Pcs ps) : ValL ps (lastL ps) := by
  refine putAll_val _ _ ⟨fun _ h => (nomatch h), List.nodup_nil⟩ fun x hx => ?_
  obtain ⟨p, hp, hx⟩ := List.mem_flatMap.mp hx
  obtain ⟨n, hn, rfl⟩ := List.mem_map.mp hx
  obtain ⟨h1, h2⟩ := h.own p hp n (List.mem_filter.mp hn).1
  exact ⟨p.name, n.stre, n.off, (h.fine p hp).ok.1, rfl, p, hp, rfl, h1, h2⟩
def flP (p : Piece) (ss : List Stre) : List (Piece × Fill) := (ss.flatMap (·.fills)).map fun f => (p, f)
theorem pfs_snoc {ps : List Piece} {p : Piece} : pfs (ps ++ [p]) = pfs ps ++ flP p p.stres := by
  unfold pfs
  rw [List.flatMap_append]
  show _ ++ (_ ++ []) = _
  rw [List.append_nil]; rfl
theorem flP_snoc {p : Piece} {ss : List Stre} {s : Stre} : flP p (ss ++ [s]) = flP p ss ++ s.fills.map fun f => (p, f) := by
  unfold flP
  rw [List.flatMap_append, List.map_append]
  show _ ++ (List.map _ (_ ++ [])) = _
  rw [List.append_nil]
theorem Aims.snoc {L : List (Str × PyData)} {xs : List (Piece × Fill)} {x : Piece × Fill} (h : Aims L xs) (hx : x.2.soft = true ∨ spotOf x.1 L x.2.name ≠ none) : Aims L (xs ++ [x]) := fun y hy => by
  rcases List.mem_append.mp hy with hy | hy
  · exact h y hy
  · rw [List.mem_singleton.mp hy]; exact hx
theorem pfs_take {ps : List Piece} (h : ∀ p ∈ ps, Fine p) (hf : ps.length ≤ 16) {i j l : Nat} {p : Piece} {s : Stre} (hp : ps[i]? = some p) (hs : p.stres[j]? = some s) (hl : l ≤ s.fills.length) : (pfs (ps.take i) ++ flP p (p.stres.take j) ++ (s.fills.take l).map fun f => (p, f)).length ≤ 64 * 32 := by
  have h1 := pfs_len (ps := ps.take i) fun q hq => h q (List.mem_of_mem_take hq)
  rw [List.length_take] at h1
  have h2 := (h p (List.mem_of_getElem? hp)).fl
  have h3 : allF p = (p.stres.take j).flatMap (·.fills) ++ (p.stres.drop j).flatMap (·.fills) := by
    rw [← List.flatMap_append, List.take_append_drop]; rfl
  have h4 : s ∈ p.stres.drop j := by
    rw [List.mem_iff_getElem?]
    exact ⟨0, by rw [List.getElem?_drop, Nat.add_zero]; exact hs⟩
  have h5 := flat_le (fun s : Stre => s.fills) h4
  rw [h3, List.length_append] at h2
  rw [List.length_append, List.length_append, List.length_map, List.length_take]
  unfold flP
  rw [List.length_map]
  omega
theorem key_eqv (a b : KY) : PyData.eqv (keyD a) (keyD b) = decide (a = b) := by
  show ((a.1 == b.1) && ((a.2 == b.2) && true)) = _
  rw [Bool.and_true, Bool.eq_iff_iff, Bool.and_eq_true, beq_iff_eq, beq_iff_eq, decide_eq_true_iff]
  exact ⟨fun h => Prod.ext h.1 h.2, fun h => by rw [h]; exact ⟨rfl, rfl⟩⟩
theorem keys_any (ks : List KY) (k : KY) : (ks.map keyD).any (fun z => PyData.eqv z (keyD k)) = decide (k ∈ ks) := by
  rw [List.any_map, Bool.eq_iff_iff, List.any_eq_true, decide_eq_true_iff]
  constructor
  · rintro ⟨x, hx, e⟩
    have e : PyData.eqv (keyD x) (keyD k) = true := e
    rw [key_eqv, decide_eq_true_iff] at e
    exact e ▸ hx
  · intro h
    refine ⟨k, h, ?_⟩
    show PyData.eqv (keyD k) (keyD k) = true
    rw [key_eqv]; exact decide_eq_true rfl
theorem key_shaped {k : KY} (h : okS k.1) : SeqAt.shaped (keyD k) = true := shaped_of (keyD_ok h).1 (Nat.le_trans (keyD_ok h).2 (by decide))
theorem add1_keys (key : KY) (rs : List RW) (x : KY × Int) : (add1 key rs x).map (·.1) = if x.1 ∈ rs.map (·.1) then rs.map (·.1) else rs.map (·.1) ++ [x.1] := by
  unfold add1
  by_cases h : x.1 ∈ rs.map (·.1)
  · rw [if_pos h, if_pos h]
  · rw [if_neg h, if_neg h, List.map_append]; rfl
theorem pcs_law {nb tb : Int} {n : Nat} {ps : List Piece} {pz : Piece} (D : Drawn nb tb true n ps) (hn : n ≤ 63) (h1 : pz.name = nmT tb 14) (h2 : pz.names = []) (h3 : Fine pz) : Pcs (ps ++ [pz]) := by
  have hl := D.len
  refine ⟨fun p hp => ?_, ?_, fun p hp m hm => ?_, by rw [List.length_append, List.length_singleton]; omega⟩
  · rcases List.mem_append.mp hp with hp | hp
    · exact D.fine hn p hp
    · rw [List.mem_singleton.mp hp]; exact h3
  · rw [List.map_append, List.nodup_append]
    have key : ∀ i (hi : i < ps.length), ps[i].name = nmT tb (i : Int) := fun i hi => (D.each i _ (List.getElem?_eq_getElem hi)).name
    refine ⟨?_, List.nodup_cons.mpr ⟨List.not_mem_nil, List.nodup_nil⟩, fun a ha b hb e => ?_⟩
    · refine List.pairwise_iff_getElem.mpr fun i j hi hj hij e => ?_
      simp only [List.length_map] at hi hj
      simp only [List.getElem_map] at e
      rw [key i hi, key j hj] at e
      have := nmT_inj (by omega) (by omega) (by omega) (by omega) e
      omega
    · obtain ⟨p, hp, rfl⟩ := List.mem_map.mp ha
      have hb : b = pz.name := List.mem_singleton.mp hb
      obtain ⟨i, hi, rfl⟩ := List.getElem_of_mem hp
      rw [hb, h1, key i hi] at e
      have := nmT_inj (by omega) (by omega) (by omega) (by omega) e
      omega
  · rcases List.mem_append.mp hp with hp | hp
    · obtain ⟨i, hi, rfl⟩ := List.getElem_of_mem hp
      have g := (D.each i _ (List.getElem?_eq_getElem hi)).names m hm
      obtain ⟨s, hs, -⟩ := g.at_
      have := (List.getElem?_eq_some_iff.mp hs).1
      have := g.stre
      exact ⟨this, by omega⟩
    · rw [List.mem_singleton.mp hp, h2] at hm; cases hm
end Jl

/-! Ways that lead: each row but the first has a fill of a stretch ahead. -/
namespace Jl
open PySem L2 PySem.Spec PyProof.Rows
def Led (T : KY → List (KY × Int)) (rs : List RW) : Prop := ∀ (i : Nat) (r : RW), rs[i]? = some r → 0 < i → ∃ k a, r.2 = some (k, a) ∧ (r.1, a) ∈ T k ∧ k ∈ (rs.take i).map (·.1)
theorem Led.add1 {T : KY → List (KY × Int)} {rs : List RW} {key : KY} {x : KY × Int} (h : Led T rs) (hx : x ∈ T key) (hk : key ∈ rs.map (·.1)) : Led T (add1 key rs x) := by
  unfold Jl.add1
  by_cases g : x.1 ∈ rs.map (·.1)
  · rw [if_pos g]; exact h
  · rw [if_neg g]
    intro i r hr hi
    rcases Nat.lt_or_ge i rs.length with hl | hl
    · rw [List.getElem?_append_left hl] at hr
      obtain ⟨k, a, h1, h2, h3⟩ := h i r hr hi
      exact ⟨k, a, h1, h2, by rw [List.take_append_of_le_length (Nat.le_of_lt hl)]; exact h3⟩
    · rw [List.getElem?_append_right hl] at hr
      have e : i = rs.length := by
        have := (List.getElem?_eq_some_iff.mp hr).1
        rw [List.length_singleton] at this
        omega
      subst e
      rw [Nat.sub_self] at hr
      cases hr
      exact ⟨key, x.2, rfl, hx, by rw [List.take_append_of_le_length (Nat.le_refl _), List.take_length]; exact hk⟩
theorem add1_sub {key : KY} {rs : List RW} {x : KY × Int} {k : KY} (h : k ∈ rs.map (·.1)) : k ∈ (add1 key rs x).map (·.1) := by
  rw [add1_keys]
  split
  · exact h
  · exact List.mem_append_left _ h
theorem Led.addS {T : KY → List (KY × Int)} {key : KY} : ∀ (ts : List (KY × Int)) {rs : List RW}, Led T rs → (∀ x ∈ ts, x ∈ T key) → key ∈ rs.map (·.1) → Led T (addS key rs ts)
  | [], _, h, _, _ => h
  | x :: ts, rs, h, hx, hk => Led.addS ts (rs := Jl.add1 key rs x) (h.add1 (hx x List.mem_cons_self) hk) (fun y hy => hx y (List.mem_cons_of_mem _ hy)) (add1_sub hk)
theorem bfs_led {T : KY → List (KY × Int)} {root : KY} : ∀ n, Led T (bfs T root n)
  | 0 => fun i r hr hi => by
    have := (List.getElem?_eq_some_iff.mp hr).1
    have h2 : (bfs T root 0).length = 1 := rfl
    omega
  | n + 1 => by
    cases h : (bfs T root n)[n]? with
    | some r =>
      rw [bfs_step h]
      exact Led.addS _ (bfs_led n) (fun _ hx => hx) (List.mem_map.mpr ⟨r, List.mem_of_getElem? h, rfl⟩)
    | none =>
      have e : bfs T root (n + 1) = bfs T root n := by
        show (match (bfs T root n)[n]? with | some r => _ | none => _) = _
        rw [h]
      rw [e]; exact bfs_led n
theorem add1_first {key : KY} {rs : List RW} {x : KY × Int} {r : RW} (h : rs[0]? = some r) : (add1 key rs x)[0]? = some r := by
  unfold Jl.add1
  split
  · exact h
  · rw [List.getElem?_append_left (List.getElem?_eq_some_iff.mp h).1]; exact h
theorem addS_first {key : KY} {r : RW} : ∀ (ts : List (KY × Int)) {rs : List RW}, rs[0]? = some r → (addS key rs ts)[0]? = some r
  | [], _, h => h
  | x :: ts, rs, h => addS_first ts (rs := add1 key rs x) (add1_first h)
theorem bfs_first {T : KY → List (KY × Int)} {root : KY} : ∀ n, (bfs T root n)[0]? = some (root, none)
  | 0 => rfl
  | n + 1 => by
    cases h : (bfs T root n)[n]? with
    | some r => rw [bfs_step h]; exact addS_first _ (bfs_first n)
    | none =>
      have e : bfs T root (n + 1) = bfs T root n := by
        show (match (bfs T root n)[n]? with | some r => _ | none => _) = _
        rw [h]
      rw [e]; exact bfs_first n
theorem bfs_fresh {T : KY → List (KY × Int)} {root : KY} {n i : Nat} {r : RW} (h : (bfs T root n)[i]? = some r) : r.1 ∉ ((bfs T root n).take i).map (·.1) := by
  have nd := bfs_nodup (T := T) (root := root) n
  generalize bfs T root n = rs at *
  intro z
  have hi := (List.getElem?_eq_some_iff.mp h).1
  have e : rs = rs.take i ++ rs.drop i := (List.take_append_drop i rs).symm
  rw [e, List.map_append, List.nodup_append] at nd
  refine nd.2.2 _ z r.1 (List.mem_map.mpr ⟨r, ?_, rfl⟩) rfl
  rw [List.mem_iff_getElem?]
  exact ⟨0, by rw [List.getElem?_drop, Nat.add_zero]; exact h⟩
/-- the numbers of fills are apart -/
def AtNd (ps : List Piece) : Prop := ∀ p ∈ ps, ∀ s ∈ p.stres, (s.fills.map (·.at_)).Nodup
theorem tgs_mem {p : Piece} {L : List (Str × PyData)} {fs : List Fill} {x : KY × Int} (h : x ∈ tgs p L fs) : ∃ f ∈ fs, tgt p L f = some x.1 ∧ f.at_ = x.2 := by
  obtain ⟨f, hf, e⟩ := List.mem_filterMap.mp h
  cases g : tgt p L f with
  | none => rw [g] at e; cases e
  | some k => rw [g] at e; cases e; exact ⟨f, hf, g, rfl⟩
theorem TT_mem {ps : List Piece} {L : List (Str × PyData)} (W : Way ps L) {k : KY} {x : KY × Int} (hk : VK_ ps k) (h : x ∈ TT_ ps L k) : ∃ p ∈ ps, p.name = k.1 ∧ 0 ≤ k.2 ∧ ∃ s, p.stres[k.2.toNat]? = some s ∧ ∃ f ∈ s.fills, tgt p L f = some x.1 ∧ f.at_ = x.2 := by
  obtain ⟨p, hp, h1, h2, h3⟩ := hk
  unfold TT_ at h
  rw [h1, pieceAt_mem W.nd hp] at h
  cases g : p.stres[k.2.toNat]? with
  | none => rw [g] at h; cases h
  | some s => rw [g] at h; exact ⟨p, hp, h1.symm, h2, s, g, tgs_mem h⟩
theorem tgt_spot {p : Piece} {L : List (Str × PyData)} {f : Fill} {k : KY} (h : tgt p L f = some k) : ∃ j, spotOf p L f.name = some (spotD k.1 k.2 j) := by
  unfold tgt at h
  split at h
  · rename_i t i j e
    cases h
    exact ⟨j, e⟩
  · cases h
theorem at_first {fs : List Fill} (nd : (fs.map (·.at_)).Nodup) {i : Nat} {g f : Fill} (hg : fs[i]? = some g) (hf : f ∈ fs) (e : g.at_ = f.at_) : g = f := by
  obtain ⟨j, hj, rfl⟩ := List.getElem_of_mem hf
  obtain ⟨hi, rfl⟩ := List.getElem?_eq_some_iff.mp hg
  have h := List.pairwise_iff_getElem.mp nd
  rcases Nat.lt_trichotomy i j with q | q | q
  · have := h i j (by simpa using hi) (by simpa using hj) q
    simp only [List.getElem_map] at this
    exact absurd e this
  · subst q; rfl
  · have := h j i (by simpa using hj) (by simpa using hi) q
    simp only [List.getElem_map] at this
    exact absurd e.symm this
/-! rows as data -/
def wayD (r : RW) : PyData := match r.2 with
  | none => .tuple [keyD r.1, .none, .none]
  | some (k, a) => .tuple [keyD r.1, keyD k, .int a]
def RwOk (r : RW) : Prop := okS r.1.1 ∧ ∀ k a, r.2 = some (k, a) → okS k.1
theorem RwAt.dp {K : PySem.W.Frag} {G : Hp} {v : V} {r : RW} (h : RwAt G v r) : Dp K G v (wayD r) := by
  obtain ⟨b, kv, x, y, rfl, h2, h3, h4⟩ := h
  rcases h4 with ⟨e, rfl, rfl⟩ | ⟨k, a, e, h5, rfl⟩
  · unfold wayD; rw [e]
    exact .tup (.inl (.inl h2)) (.cons h3.dp (.cons .non (.cons .non .nil)))
  · unfold wayD; rw [e]
    exact .tup (.inl (.inl h2)) (.cons h3.dp (.cons h5.dp (.cons (.int _) .nil)))
theorem wayD_ok {r : RW} (h : RwOk r) : (wayD r).canLay0 = true ∧ (wayD r).depth ≤ 2 := by
  obtain ⟨h1, h2⟩ := h
  unfold wayD
  cases e : r.2 with
  | none =>
    refine ⟨?_, ?_⟩
    · show ((keyD r.1).canLay0 && (true && (true && true))) = true
      rw [(keyD_ok h1).1]; rfl
    · have := (keyD_ok h1).2
      show max (keyD r.1).depth (max 0 (max 0 0)) + 1 ≤ 2
      omega
  | some x =>
    obtain ⟨k, a⟩ := x
    have h3 := h2 k a e
    refine ⟨?_, ?_⟩
    · show ((keyD r.1).canLay0 && ((keyD k).canLay0 && (true && true))) = true
      rw [(keyD_ok h1).1, (keyD_ok h3).1]; rfl
    · have := (keyD_ok h1).2
      have := (keyD_ok h3).2
      show max (keyD r.1).depth (max (keyD k).depth (max 0 0)) + 1 ≤ 2
      omega
theorem way_shaped {r : RW} (h : RwOk r) : SeqAt.shaped (wayD r) = true := shaped_of (wayD_ok h).1 (Nat.le_trans (wayD_ok h).2 (by decide))
theorem ways_shaped {rs : List RW} (h : ∀ r ∈ rs, RwOk r) : SeqAt.shaped (.list (rs.map wayD)) = true := by
  obtain ⟨a, b⟩ := lay_map (f := wayD) (l := rs) (n := 2) fun x hx => wayD_ok (h x hx)
  exact shaped_of a (Nat.le_trans b (by decide))
theorem ways_dps {K : PySem.W.Frag} {G : Hp} : ∀ {rs : List (V × RW)}, (∀ x ∈ rs, RwAt G x.1 x.2) → DpAll K G (rs.map (·.1)) ((rs.map (·.2)).map wayD)
  | [], _ => .nil
  | x :: rs, h => .cons (h x List.mem_cons_self).dp (ways_dps fun y hy => h y (List.mem_cons_of_mem _ hy))
theorem bfs_ok {ps : List Piece} {L : List (Str × PyData)} (P : Pcs ps) (W : Way ps L) {root : KY} (hr : VK_ ps root) (n : Nat) : ∀ r ∈ bfs (TT_ ps L) root n, RwOk r := fun r h => by
  obtain ⟨i, hi⟩ := List.getElem?_of_mem h
  have hall := bfs_all hr (fun k hk => W.TT hk) n
  refine ⟨P.okK (hall r h), fun k a e => ?_⟩
  rcases Nat.eq_zero_or_pos i with z | z
  · subst z
    rw [bfs_first] at hi
    cases hi
    cases e
  · obtain ⟨k', a', e1, -, h3⟩ := bfs_led n i r hi z
    rw [e] at e1
    cases e1
    obtain ⟨q, hq, rfl⟩ := List.mem_map.mp h3
    exact P.okK (hall q (List.mem_of_mem_take hq))
theorem s_eqNil' {K : PySem.W.Frag} {H : Hp} {Q : VK} {p q : Addr} {ds : List PyData} (h1 : Dp K H (.ref p) (.list ds)) (hs : SeqAt.shaped (.list ds) = true) (h2 : H q = some (.lst [])) (z : Q (.bl (decide (ds = []))) H) : rEqD K (.ref p) (.ref q) H Q := by
  refine ⟨_, .list [], h1, .lst (.inl (.inl h2)) .nil, hs, rfl, ?_⟩
  have e : PyData.eqv (.list ds) (.list []) = decide (ds = []) := by cases ds <;> rfl
  rw [e]; exact z
theorem atnd_law {nb tb : Int} {n : Nat} {ps : List Piece} {pz : Piece} (D : Drawn nb tb true n ps) (h : ∀ s ∈ pz.stres, (s.fills.map (·.at_)).Nodup) : AtNd (ps ++ [pz]) := fun p hp s hs => by
  rcases List.mem_append.mp hp with hp | hp
  · obtain ⟨k, hk⟩ := List.getElem?_of_mem hp
    exact ((D.each k p hk).stres s hs).rise.imp fun h e => by omega
  · rw [List.mem_singleton.mp hp] at hs
    exact h s hs
theorem kvd_nodup {K : PySem.W.Frag} {F : Hp} {kvs : List (Key × V)} {L : List (Str × PyData)} (h : KVD K F (fun z : Str => (Sum.inr z : Key)) kvs L) (nd : (L.map (·.1)).Nodup) : (kvs.map (·.1)).Nodup := by
  rw [h.1]
  have g := List.Pairwise.map (R := (· ≠ ·)) (S := (· ≠ ·)) (fun z : Str => (Sum.inr z : Key)) (fun _ _ hne e => hne (Sum.inr.inj e)) nd
  rw [List.map_map] at g
  exact g
end Jl


local macro_rules | `(tactic| walk_at "c") => `(tactic| first
  | exact Jl.c_div (by decide) (by decide)
  | exact Jl.c_mulR (by decide) (by decide)
  | exact Jl.c_mulL (by decide) (by decide)
  | exact Jl.c_pow (by decide) (by decide) (by decide)
  | decide
  | omega
  | decide +kernel
  | assumption
  | exact Jl.c_div (by omega) (by omega)
  | exact Jl.c_mulR (by omega) (by omega)
  | exact Jl.c_mulL (by omega) (by omega))
local macro_rules | `(tactic| walk_at "len") => `(tactic| first
  | omega
  | decide
  | (simp only [Jl.len_app, Jl.len_one]; omega)
  | (refine Nat.le_trans (Jl.len_cut _ _ _) ?_; omega))
local macro_rules | `(tactic| walk_at "d") => `(tactic| first
  | (focus (with_reducible apply Jl.s_iteDt; (focus (first | assumption | with_reducible rfl | decide | exact decide_eq_true (by omega) | exact decide_eq_false (by omega) | omega))))
  | (focus (with_reducible apply Jl.s_iteDf; (focus (first | assumption | with_reducible rfl | decide | exact decide_eq_true (by omega) | exact decide_eq_false (by omega) | omega))))
  | (focus (with_reducible apply Jl.s_iteNt; (focus (first | assumption | with_reducible rfl | decide | exact decide_eq_true (by omega) | exact decide_eq_false (by omega) | omega))))
  | (focus (with_reducible apply Jl.s_iteNf; (focus (first | assumption | with_reducible rfl | decide | exact decide_eq_true (by omega) | exact decide_eq_false (by omega) | omega)))))
local macro_rules | `(tactic| walk_at "b") => `(tactic| first
  | with_reducible refine Jl.s_iteD (fun _ => ?_) (fun _ => ?_)
  | with_reducible refine Jl.s_iteN (fun _ => ?_) (fun _ => ?_))
local macro_rules | `(tactic| walk_at "s") => `(tactic| first
  | (focus (with_reducible apply Jl.s_var; (focus (with_unfolding_all rfl))))
  | with_reducible refine Jl.s_c ?_
  | with_reducible refine Jl.s_op ?_
  | with_reducible refine Jl.s_cons ?_
  | with_reducible refine Jl.s_nil ?_
  | with_reducible refine Jl.s_I0 ?_
  | (focus (with_reducible refine Jl.s_I ?_ ?_; (focus (walk_at "c"))))
  | with_reducible refine Jl.s_exbl ?_
  | with_reducible refine Jl.s_seq ?_
  | with_reducible refine Jl.s_asg ?_
  | (with_reducible refine Jl.s_name ?_; try simp only [List.set_cons_zero, List.set_cons_succ])
  | with_reducible refine Jl.s_ifS ?_
  | with_reducible refine Jl.s_test ?_
  | with_reducible refine Jl.s_tB ?_
  | with_reducible refine Jl.s_chain ?_
  | with_reducible refine Jl.s_and ?_
  | with_reducible refine Jl.s_or ?_
  | with_reducible refine Jl.s_not ?_
  | with_reducible refine Jl.s_iteT ?_
  | with_reducible refine Jl.s_iteF ?_
  | with_reducible refine Jl.s_iteNT ?_
  | with_reducible refine Jl.s_iteNF ?_
  | with_reducible refine Jl.s_ret ?_
  | with_reducible refine Jl.s_next ?_
  | with_reducible refine Jl.s_call ?_
  | with_reducible refine Jl.s_CB ?_
  | with_reducible refine Jl.s_eqI ?_
  | with_reducible refine Jl.s_neI ?_
  | with_reducible refine Jl.s_eqS ?_
  | with_reducible refine Jl.s_neS ?_
  | with_reducible refine Jl.s_eqB ?_
  | with_reducible refine Jl.s_neB ?_
  | with_reducible refine Jl.s_isB ?_
  | with_reducible refine Jl.s_notB ?_
  | with_reducible refine Jl.s_un ?_
  | with_reducible refine Jl.s_U ?_
  | with_reducible refine Jl.s_andV ?_
  | with_reducible refine Jl.s_orV ?_
  | with_reducible refine Jl.s_notV ?_
  | with_reducible refine Jl.s_ifE ?_
  | with_reducible refine Jl.s_drop ?_
  | with_reducible refine Jl.s_break ?_
  | with_reducible refine Jl.s_cont ?_
  | with_reducible refine Jl.s_isi_ii ?_
  | with_reducible refine Jl.s_isi_ib ?_
  | with_reducible refine Jl.s_isi_bb ?_
  | with_reducible refine Jl.s_isi_bi ?_
  | with_reducible refine Jl.s_isi_ss ?_
  | with_reducible refine Jl.s_BM ?_
  | (focus (with_reducible apply Jl.s_tyL; (focus (with_reducible assumption))))
  | (focus (with_reducible apply Jl.s_append; (focus (with_reducible assumption)); rotate_left; rotate_left))
  | with_reducible refine Jl.s_make ?_
  | (focus (with_reducible apply Jl.s_meth; (focus (first | assumption | exact Jl.RuleAt.same (by assumption) (by assumption))); (focus (exact (fun R z => Jl.s_var (by with_unfolding_all rfl) z))); (focus (decide +kernel))))
  | (focus (with_reducible refine Jl.s_addS ?_ ?_; rotate_left; (focus (walk_at "len"))))
  | with_reducible refine Jl.s_inS ?_
  | with_reducible refine Jl.s_notInS ?_
  | with_reducible refine Jl.s_isNn ?_
  | with_reducible refine Jl.s_isNi ?_
  | with_reducible refine Jl.s_isNs ?_
  | with_reducible refine Jl.s_isNr ?_
  | with_reducible refine Jl.s_notNn ?_
  | with_reducible refine Jl.s_notNi ?_
  | with_reducible refine Jl.s_notNs ?_
  | with_reducible refine Jl.s_notNr ?_
  | (focus (with_reducible refine Jl.s_lenS ?_ ?_; rotate_left; (focus (walk_at "len"))))
  | (focus (with_reducible apply Jl.s_lenL; (focus (with_reducible assumption))))
  | with_reducible refine Jl.s_max2 ?_
  | with_reducible refine Jl.s_min2 ?_
  | with_reducible refine Jl.s_int1 ?_
  | with_reducible refine Jl.s_int1b ?_
  | with_reducible refine Jl.s_sl ?_
  | with_reducible refine Jl.s_noP ?_
  | with_reducible refine Jl.s_part ?_
  | with_reducible refine Jl.s_exi ?_
  | (focus (with_reducible refine Jl.s_slS ?_ ?_; rotate_left; (focus (walk_at "len"))))
  | (focus (with_reducible apply Jl.s_gTupA; (focus (with_reducible assumption)); (focus (with_unfolding_all rfl))))
  | with_reducible refine Jl.s_gCons ?_
  | with_reducible refine Jl.s_gNil ?_
  | with_reducible refine Jl.s_gSub ?_
  | with_reducible refine Jl.s_tPc ?_
  | with_reducible refine Jl.s_tPn ?_
  | with_reducible refine Jl.s_callS ?_
  | with_reducible refine Jl.s_tup ?_
  | with_reducible refine Jl.s_lst ?_
  | with_reducible refine Jl.s_BM0 ?_
  | with_reducible refine Jl.s_yes ?_
  | (focus (with_reducible apply Jl.s_clear; (focus (with_reducible assumption))))
  | (focus (with_reducible apply Jl.s_dclear; (focus (with_reducible assumption)))))
local macro_rules | `(tactic| walk_at "same") => `(tactic| first
  | exact L2.Same.refl _
  | assumption
  | (refine L2.Same.trans ?_ (by assumption); walk_at "same"))
local macro_rules | `(tactic| walk_at "w") => `(tactic| repeat walk_at "s")
local macro_rules | `(tactic| walk_at "wd") => `(tactic| repeat (first | walk_at "s" | walk_at "d"))
local macro_rules | `(tactic| walk_at "all") => `(tactic| repeat' (first | walk_at "s" | walk_at "d" | walk_at "b"))
namespace Jw
open PySem L2
def top (i : Nat) : Stmt := PySem.Challenge.pw_joinload_k25_ways_that_lead.main.body.getD i (.Pass ⟨0, 0, 0, 0⟩)
abbrev s_wrapped : Stmt := top 2
abbrev N_wrapped : List Str := ["number"]
theorem sc_wrapped : FnScope N_wrapped ["number"] (defScope s_wrapped) := ⟨rfl, rfl, rfl, by decide +kernel, rfl, by decide +kernel, by decide +kernel⟩
abbrev s_own_names : Stmt := top 7
abbrev N_own_names : List Str := ["piece", "found", "name", "sort", "stretch", "offset"]
theorem sc_own_names : FnScope N_own_names ["piece"] (defScope s_own_names) := ⟨rfl, rfl, rfl, by decide +kernel, rfl, by decide +kernel, by decide +kernel⟩
abbrev s_aim : Stmt := top 8
abbrev N_aim : List Str := ["piece", "names", "fill", "at", "rule", "name", "add", "soft", "spot"]
theorem sc_aim : FnScope N_aim ["piece", "names", "fill"] (defScope s_aim) := ⟨rfl, rfl, rfl, by decide +kernel, rfl, by decide +kernel, by decide +kernel⟩
abbrev s_reached : Stmt := top 10
abbrev N_reached : List Str := ["pieces", "names", "root", "found", "piece", "rows", "seen", "k", "key", "fill", "spot"]
theorem sc_reached : FnScope N_reached ["pieces", "names", "root"] (defScope s_reached) := ⟨rfl, rfl, rfl, by decide +kernel, rfl, by decide +kernel, by decide +kernel⟩
abbrev s_law_cell_at : Stmt := top 12
abbrev N_law_cell_at : List Str := ["_law_script", "_law_k"]
theorem sc_law_cell_at : FnScope N_law_cell_at ["_law_script", "_law_k"] (defScope s_law_cell_at) := ⟨rfl, rfl, rfl, by decide +kernel, rfl, by decide +kernel, by decide +kernel⟩
abbrev s_law_name_by : Stmt := top 13
abbrev N_law_name_by : List Str := ["_law_cell", "_law_k", "_law_signs", "_law_size", "_law_at", "_law_name", "_law_j", "_law_many", "_law_place"]
theorem sc_law_name_by : FnScope N_law_name_by ["_law_cell", "_law_k"] (defScope s_law_name_by) := ⟨rfl, rfl, rfl, by decide +kernel, rfl, by decide +kernel, by decide +kernel⟩
abbrev s_law_word_row : Stmt := top 14
abbrev N_law_word_row : List Str := ["_law_cell", "_law_names_by", "_law_what", "_law_rest", "_law_soft", "_law_add", "_law_rule"]
theorem sc_law_word_row : FnScope N_law_word_row ["_law_cell", "_law_names_by"] (defScope s_law_word_row) := ⟨rfl, rfl, rfl, by decide +kernel, rfl, by decide +kernel, by decide +kernel⟩
abbrev s_law_told_by : Stmt := top 15
abbrev N_law_told_by : List Str := ["_law_pieces", "_law_cell", "_law_names_by", "_law_strict", "_law_piece", "_law_name", "_law_sort", "_law_other", "_law_row"]
theorem sc_law_told_by : FnScope N_law_told_by ["_law_pieces", "_law_cell", "_law_names_by", "_law_strict"] (defScope s_law_told_by) := ⟨rfl, rfl, rfl, by decide +kernel, rfl, by decide +kernel, by decide +kernel⟩
abbrev s_law_drawn : Stmt := top 16
abbrev N_law_drawn : List Str := ["_law_cells", "_law_names_by", "_law_titles_by", "_law_strict", "_law_pieces", "_law_cell", "_law_what", "_law_step", "_law_stretch", "_law_more"]
theorem sc_law_drawn : FnScope N_law_drawn ["_law_cells", "_law_names_by", "_law_titles_by", "_law_strict"] (defScope s_law_drawn) := ⟨rfl, rfl, rfl, by decide +kernel, rfl, by decide +kernel, by decide +kernel⟩
abbrev s_law_copy : Stmt := top 17
abbrev N_law_copy : List Str := ["_law_piece", "_law_stretches", "_law_row"]
theorem sc_law_copy : FnScope N_law_copy ["_law_piece"] (defScope s_law_copy) := ⟨rfl, rfl, rfl, by decide +kernel, rfl, by decide +kernel, by decide +kernel⟩
abbrev s_law_aim : Stmt := top 18
abbrev N_law_aim : List Str := ["_law_piece", "_law_some", "_law_fill", "_law_name", "_law_sort", "_law_stretch", "_law_offset"]
theorem sc_law_aim : FnScope N_law_aim ["_law_piece", "_law_some", "_law_fill"] (defScope s_law_aim) := ⟨rfl, rfl, rfl, by decide +kernel, rfl, by decide +kernel, by decide +kernel⟩
abbrev s_law_names : Stmt := top 19
abbrev N_law_names : List Str := ["_law_pieces", "_law_by", "_law_some", "_law_keys", "_law_title", "_law_stretches", "_law_told", "_law_name", "_law_sort", "_law_stretch", "_law_offset", "_law_piece", "_law_kind", "_law_step", "_law_words", "_law_fills", "_law_fill", "_law_key_here", "_law_k"]
theorem sc_law_names : FnScope N_law_names ["_law_pieces", "_law_by"] (defScope s_law_names) := ⟨rfl, rfl, rfl, by decide +kernel, rfl, by decide +kernel, by decide +kernel⟩
abbrev s_law_whole : Stmt := top 20
abbrev N_law_whole : List Str := ["_law_found"]
theorem sc_law_whole : FnScope N_law_whole ["_law_found"] (defScope s_law_whole) := ⟨rfl, rfl, rfl, by decide +kernel, rfl, by decide +kernel, by decide +kernel⟩
abbrev s_law_key : Stmt := top 21
abbrev N_law_key : List Str := ["_law_found"]
theorem sc_law_key : FnScope N_law_key ["_law_found"] (defScope s_law_key) := ⟨rfl, rfl, rfl, by decide +kernel, rfl, by decide +kernel, by decide +kernel⟩
abbrev s_law_led : Stmt := top 22
abbrev N_law_led : List Str := ["_law_pieces", "_law_some", "_law_row", "_law_there", "_law_key_here", "_law_by", "_law_at", "_law_piece", "_law_fill"]
theorem sc_law_led : FnScope N_law_led ["_law_pieces", "_law_some", "_law_row", "_law_there"] (defScope s_law_led) := ⟨rfl, rfl, rfl, by decide +kernel, rfl, by decide +kernel, by decide +kernel⟩
abbrev s_law_walked : Stmt := top 23
abbrev N_law_walked : List Str := ["_law_found", "_law_pieces", "_law_some", "_law_root", "_law_there", "_law_row"]
theorem sc_law_walked : FnScope N_law_walked ["_law_found", "_law_pieces", "_law_some", "_law_root"] (defScope s_law_walked) := ⟨rfl, rfl, rfl, by decide +kernel, rfl, by decide +kernel, by decide +kernel⟩
abbrev s_law : Stmt := top 24
abbrev N_law : List Str := ["_law_script", "_law_names_by", "_law_titles_by", "_law_by", "_law_pieces", "_law_fill", "_law_some", "_law_keys", "_law_root", "_law_handed", "_law_names_here", "_law_found", "_law_held", "_law_there", "_law_again", "_law_piece"]
theorem sc_law : FnScope N_law ["_law_script"] (defScope s_law) := ⟨rfl, rfl, rfl, by decide +kernel, rfl, by decide +kernel, by decide +kernel⟩
structure Txt (K : PySem.W.Frag) (mg : Str → Option Value) where
  a_wrapped : Addr
  d_wrapped : FuncData
  F_wrapped : Fun K "wrapped" "wrapped" s_wrapped a_wrapped d_wrapped
  b_wrapped : Binds K d_wrapped ["number"] []
  m_wrapped : mg "wrapped" = some (.ref a_wrapped)
  a_own_names : Addr
  d_own_names : FuncData
  F_own_names : Fun K "own_names" "own_names" s_own_names a_own_names d_own_names
  b_own_names : Binds K d_own_names ["piece"] []
  m_own_names : mg "own_names" = some (.ref a_own_names)
  a_aim : Addr
  d_aim : FuncData
  F_aim : Fun K "aim" "aim" s_aim a_aim d_aim
  b_aim : Binds K d_aim ["piece", "names", "fill"] []
  m_aim : mg "aim" = some (.ref a_aim)
  a_reached : Addr
  d_reached : FuncData
  F_reached : Fun K "reached" "reached" s_reached a_reached d_reached
  b_reached : Binds K d_reached ["pieces", "names", "root"] []
  m_reached : mg "reached" = some (.ref a_reached)
  a_law_cell_at : Addr
  d_law_cell_at : FuncData
  F_law_cell_at : Fun K "_law_cell_at" "_law_cell_at" s_law_cell_at a_law_cell_at d_law_cell_at
  b_law_cell_at : Binds K d_law_cell_at ["_law_script", "_law_k"] []
  m_law_cell_at : mg "_law_cell_at" = some (.ref a_law_cell_at)
  a_law_name_by : Addr
  d_law_name_by : FuncData
  F_law_name_by : Fun K "_law_name_by" "_law_name_by" s_law_name_by a_law_name_by d_law_name_by
  b_law_name_by : Binds K d_law_name_by ["_law_cell", "_law_k"] []
  m_law_name_by : mg "_law_name_by" = some (.ref a_law_name_by)
  a_law_word_row : Addr
  d_law_word_row : FuncData
  F_law_word_row : Fun K "_law_word_row" "_law_word_row" s_law_word_row a_law_word_row d_law_word_row
  b_law_word_row : Binds K d_law_word_row ["_law_cell", "_law_names_by"] []
  m_law_word_row : mg "_law_word_row" = some (.ref a_law_word_row)
  a_law_told_by : Addr
  d_law_told_by : FuncData
  F_law_told_by : Fun K "_law_told_by" "_law_told_by" s_law_told_by a_law_told_by d_law_told_by
  b_law_told_by : Binds K d_law_told_by ["_law_pieces", "_law_cell", "_law_names_by", "_law_strict"] []
  m_law_told_by : mg "_law_told_by" = some (.ref a_law_told_by)
  a_law_drawn : Addr
  d_law_drawn : FuncData
  F_law_drawn : Fun K "_law_drawn" "_law_drawn" s_law_drawn a_law_drawn d_law_drawn
  b_law_drawn : Binds K d_law_drawn ["_law_cells", "_law_names_by", "_law_titles_by", "_law_strict"] []
  m_law_drawn : mg "_law_drawn" = some (.ref a_law_drawn)
  a_law_copy : Addr
  d_law_copy : FuncData
  F_law_copy : Fun K "_law_copy" "_law_copy" s_law_copy a_law_copy d_law_copy
  b_law_copy : Binds K d_law_copy ["_law_piece"] []
  m_law_copy : mg "_law_copy" = some (.ref a_law_copy)
  a_law_aim : Addr
  d_law_aim : FuncData
  F_law_aim : Fun K "_law_aim" "_law_aim" s_law_aim a_law_aim d_law_aim
  b_law_aim : Binds K d_law_aim ["_law_piece", "_law_some", "_law_fill"] []
  m_law_aim : mg "_law_aim" = some (.ref a_law_aim)
  a_law_names : Addr
  d_law_names : FuncData
  F_law_names : Fun K "_law_names" "_law_names" s_law_names a_law_names d_law_names
  b_law_names : Binds K d_law_names ["_law_pieces", "_law_by"] []
  m_law_names : mg "_law_names" = some (.ref a_law_names)
  a_law_whole : Addr
  d_law_whole : FuncData
  F_law_whole : Fun K "_law_whole" "_law_whole" s_law_whole a_law_whole d_law_whole
  b_law_whole : Binds K d_law_whole ["_law_found"] []
  m_law_whole : mg "_law_whole" = some (.ref a_law_whole)
  a_law_key : Addr
  d_law_key : FuncData
  F_law_key : Fun K "_law_key" "_law_key" s_law_key a_law_key d_law_key
  b_law_key : Binds K d_law_key ["_law_found"] []
  m_law_key : mg "_law_key" = some (.ref a_law_key)
  a_law_led : Addr
  d_law_led : FuncData
  F_law_led : Fun K "_law_led" "_law_led" s_law_led a_law_led d_law_led
  b_law_led : Binds K d_law_led ["_law_pieces", "_law_some", "_law_row", "_law_there"] []
  m_law_led : mg "_law_led" = some (.ref a_law_led)
  a_law_walked : Addr
  d_law_walked : FuncData
  F_law_walked : Fun K "_law_walked" "_law_walked" s_law_walked a_law_walked d_law_walked
  b_law_walked : Binds K d_law_walked ["_law_found", "_law_pieces", "_law_some", "_law_root"] []
  m_law_walked : mg "_law_walked" = some (.ref a_law_walked)
  a_law : Addr
  d_law : FuncData
  F_law : Fun K "law" "law" s_law a_law d_law
  b_law : Binds K d_law ["_law_script"] []
  m_law : mg "law" = some (.ref a_law)
  a_Unmet : Addr
  g_Unmet : mg "Unmet" = some (.ref a_Unmet)
  t_MANY : Tok
  g_MANY : mg "MANY" = some (.int 4294967296 t_MANY)
  n_bool : mg "bool" = none
  n_dict : mg "dict" = none
  n_int : mg "int" = none
  n_isinstance : mg "isinstance" = none
  n_len : mg "len" = none
  n_list : mg "list" = none
  n_range : mg "range" = none
  n_str : mg "str" = none
  n_tuple : mg "tuple" = none
section
variable {P : Program} {w : World} {K : PySem.W.Frag} {mg : Str → Option Value} {base : Heap}
/-! ### wrapped -/
def sp_wrapped : Sp := fun vs H Q _ => ∃ n : Int, vs = [.int n] ∧ Q (.int (n % 4294967296)) H
theorem use_wrapped {n : Int} {H : Hp} {Q : VK} {E : XK} (z : Q (.int (n % 4294967296)) H) : sp_wrapped [.int n] H Q E := ⟨n, rfl, z⟩
local macro_rules | `(tactic| walk_at "s") => `(tactic| (with_reducible refine use_wrapped ?_))
theorem ok_wrapped (T : Txt K mg) : FnOk P w K mg base CX0 1 T.a_wrapped T.d_wrapped ["number"] (sp_wrapped) := by
  refine T.F_wrapped.ok sc_wrapped (fun vs H Q E h => ?_) (fun cdv A outer s H vs Q E hr h => ?_)
  · obtain ⟨n, rfl, k⟩ := h
    rfl
  · obtain ⟨n, rfl, k⟩ := h
    have hu := hu_of hr
    refine ⟨_, (pss_one (ps_ret (pe_op op_mod (pv 0) (pe_glob (v := .int 4294967296) rfl T.g_MANY ⟨_, rfl⟩)))), ?_⟩
    show (_ : TS) _ [some (.int n)] H
    walk_at "w"
    exact k
/-! ### own_names -/
def sp_own_names (K : PySem.W.Frag) : Sp := fun vs H Q _ => ∃ (x : V) (p : Jl.Piece), vs = [x] ∧ Dp K H x (Jl.pieceD p) ∧ (p.names.map (·.name)).Nodup ∧ p.names.length ≤ 1000 ∧ ∀ m H', Same H H' → H m = none → Jl.OwnD H' m p.name (Jl.owns p) → Q (.ref m) H'
theorem use_own {K : PySem.W.Frag} {x : V} {p : Jl.Piece} {H : Hp} {Q : VK} {E : XK} (hd : Dp K H x (Jl.pieceD p)) (hnd : (p.names.map (·.name)).Nodup) (hpl : p.names.length ≤ 1000) (z : ∀ m H', Same H H' → H m = none → Jl.OwnD H' m p.name (Jl.owns p) → Q (.ref m) H') : sp_own_names K [x] H Q E := ⟨x, p, rfl, hd, hnd, hpl, z⟩
theorem ok_own_names (T : Txt K mg) : FnOk P w K mg base CX0 1 T.a_own_names T.d_own_names ["piece"] (sp_own_names K) := by
  refine T.F_own_names.ok sc_own_names (fun vs H Q E h => ?_) (fun cdv A outer s H vs Q E hr h => ?_)
  · obtain ⟨x, p, rfl, hd, hnd, hpl, k⟩ := h
    rfl
  · obtain ⟨x, p, rfl, hd, hnd, hpl, k⟩ := h
    have hu := hu_of hr
    refine ⟨_, (pss_cons (ps_set (i := 1) sc_own_names.nd rfl (Or.inl rfl) pe_dnewK)
      (pss_cons (ps_for PassesOwn.never rfl (pi_list (pe_ix (r := rIxT K) ix_tup (pv 0) pe_int (fun _ _ => rfl))) (pg_tup rfl (pgs_cons (pg_name (i := 2) sc_own_names.nd rfl (Or.inl rfl)) (pgs_cons (pg_name (i := 3) sc_own_names.nd rfl (Or.inl rfl)) (pgs_cons (pg_name (i := 4) sc_own_names.nd rfl (Or.inl rfl)) (pgs_cons (pg_name (i := 5) sc_own_names.nd rfl (Or.inl rfl)) pgs_nil))))) (pss_one (ps_if (pt_cmpR op_eq (pv 3) pe_str (nomark _)) (pss_one (ps_dput hu (pv 1) (pv 2) (pe_tup (pa_cons (pe_ix (r := rIxT K) ix_tup (pv 0) pe_int (fun _ _ => rfl)) (pa_cons (pv 4) (pa_cons (pv 5) pa_nil)))) rfl)) pss_nil)))
      (pss_one (ps_ret (pv 1))))), ?_⟩
    show (_ : TS) _ [some (x), none, none, none, none, none] H
    obtain ⟨t, S, N, ss, nv, rfl, ht, -, -, hN, hnv⟩ := Jl.dp_piece hd
    have hnl := Jl.da_length hnv
    walk_at "w"
    refine fun m nm => ?_
    walk_at "w"
    have s1 := Jl.same_upd (o := .dK []) nm
    refine Jl.s_seq (Jl.s_forLg (xs := nv) (fun i σ' H' => Same H H' ∧ Jl.OwnD H' m p.name ((p.names.take i).filter fun n => decide (n.sort = ("own" : Str))) ∧ ∃ v1 v2 v3 v4, σ' = [some (.ref t), some (.ref m), v1, v2, v3, v4]) (upd H m (.dK [])) (fun R z => ?_) (s1.seq hN) ⟨s1, Jl.OwnD.nil upd_same, none, none, none, none, rfl⟩ (fun i σ' H' _ h => h.1.seq hN) (fun i x σ' H' hi h => ?_) (fun σ' H' h => ?_))
    · walk_at "w"
      exact Jl.s_ixT (Jl.sameT s1 ht) (i := 2) rfl z
    · obtain ⟨s2, D, v1, v2, v3, v4, rfl⟩ := h
      obtain ⟨q, hq, hy⟩ := Jl.da_item (Jl.dps_same s2 hnv) hi
      obtain ⟨tq, rfl, htq⟩ := Jl.dp_nam hy
      have hqm := List.mem_of_getElem? hq
      have e3 : p.names.take (i + 1) = p.names.take i ++ [q] := by rw [List.take_add_one, hq]; rfl
      refine Jl.s_gTup htq rfl ?_
      walk_at "w"
      refine Jl.s_iteD (fun g => ?_) (fun g => ?_)
      · refine Jl.s_dput ?_
        walk_at "w"
        refine Jl.s_ixT (Jl.sameT s2 ht) (i := 0) rfl ?_
        walk_at "w"
        refine ⟨(by show 3 ≤ sizeLine; decide), fun tn ntn => ?_⟩
        have s3 := Jl.same_upd (o := .tup [.str p.name, .int q.stre, .int q.off]) ntn
        obtain ⟨o, P, D3⟩ := (D.same s3).put (n := q) upd_same (Jl.nd_mem_take hnd hq _) (by
          have h1 := List.length_filter_le (fun n : Jl.Nam => decide (n.sort = ("own" : Str))) (p.names.take i)
          rw [List.length_take] at h1
          omega)
        walk_at "w"
        refine ⟨m, _, rfl, P, Jl.same_mut (s2.trans s3) nm, ?_, _, _, _, _, rfl⟩
        rw [e3, List.filter_append, List.filter_cons, decide_eq_true g]
        exact D3
      · refine ⟨s2, ?_, _, _, _, _, rfl⟩
        rw [e3, List.filter_append, List.filter_cons, decide_eq_false g]
        show Jl.OwnD _ _ _ (_ ++ [])
        rw [List.append_nil]
        exact D
    obtain ⟨s2, D, v1, v2, v3, v4, rfl⟩ := h
    walk_at "w"
    refine k m _ s2 nm ?_
    rw [hnl, List.take_length] at D
    exact D
/-! ### aim -/
def sp_aim (K : PySem.W.Frag) : Sp := fun vs H Q E => ∃ (x y : V) (p : Jl.Piece) (m : Addr) (L : List (Str × PyData)) (f : Jl.Fill) (F : Hp), vs = [x, .ref m, y] ∧ Dp K H x (Jl.pieceD p) ∧ Jl.Fine p ∧ Jl.SD K F H m L ∧ Same F H ∧ Jl.AllSpot L ∧ Dp K H y (Jl.fillD f) ∧ ((∃ t i j, Jl.okS t ∧ Jl.spotOf p L f.name = some (Jl.spotD t i j) ∧ ∀ H' q, Same H H' → H' q = some (.tup [.str t, .int i, .int (j + f.add)]) → Q (.ref q) H') ∨ (Jl.spotOf p L f.name = none ∧ f.soft = true ∧ ∀ H', Same H H' → Q (.int (f.add % 4294967296)) H'))
theorem use_aim {K : PySem.W.Frag} {x y : V} {p : Jl.Piece} {m : Addr} {L : List (Str × PyData)} {f : Jl.Fill} {F H : Hp} {Q : VK} {E : XK} (hd : Dp K H x (Jl.pieceD p)) (fq : Jl.Fine p) (D : Jl.SD K F H m L) (sF : Same F H) (hL : Jl.AllSpot L) (hy : Dp K H y (Jl.fillD f)) (z : ((∃ t i j, Jl.okS t ∧ Jl.spotOf p L f.name = some (Jl.spotD t i j) ∧ ∀ H' q, Same H H' → H' q = some (.tup [.str t, .int i, .int (j + f.add)]) → Q (.ref q) H') ∨ (Jl.spotOf p L f.name = none ∧ f.soft = true ∧ ∀ H', Same H H' → Q (.int (f.add % 4294967296)) H'))) : sp_aim K [x, .ref m, y] H Q E := ⟨x, y, p, m, L, f, F, rfl, hd, fq, D, sF, hL, hy, z⟩
theorem ok_aim (T : Txt K mg) : FnOk P w K mg base CX0 2 T.a_aim T.d_aim ["piece", "names", "fill"] (sp_aim K) := by
  have G_wrapped := ok_wrapped (P := P) (w := w) (base := base) T
  have G_own_names := ok_own_names (P := P) (w := w) (base := base) T
  refine T.F_aim.ok sc_aim (fun vs H Q E h => ?_) (fun cdv A outer s H vs Q E hr h => ?_)
  · obtain ⟨x, y, p, m, L, f, F, rfl, hd, fq, D, sF, hL, hy, k⟩ := h
    rfl
  · obtain ⟨x, y, p, m, L, f, F, rfl, hd, fq, D, sF, hL, hy, k⟩ := h
    have hu := hu_of hr
    refine ⟨_, (pss_cons (ps_asg (pv 2) (pg_tup rfl (pgs_cons (pg_name (i := 3) sc_aim.nd rfl (Or.inl rfl)) (pgs_cons (pg_name (i := 4) sc_aim.nd rfl (Or.inl rfl)) (pgs_cons (pg_name (i := 5) sc_aim.nd rfl (Or.inl rfl)) (pgs_cons (pg_name (i := 6) sc_aim.nd rfl (Or.inl rfl)) (pgs_cons (pg_name (i := 7) sc_aim.nd rfl (Or.inl rfl)) pgs_nil)))))))
      (pss_cons (ps_set (i := 8) sc_aim.nd rfl (Or.inl rfl) (pe_dget2 hu (pe_call (G_own_names) (hr.mono (by decide)) rfl T.m_own_names T.F_own_names.kp T.b_own_names .nil pass0 (pa_cons (pv 0) pa_nil)) (pv 5) (pe_dget1 hu (pv 1) (pv 5) ⟨rfl, rfl, rfl, rfl⟩) ⟨rfl, rfl, rfl, rfl⟩))
      (pss_cons (ps_if (pt_cmpR Jl.op_notN1 (pv 8) pe_non (nomark _)) (pss_one (ps_ret (pe_tup (pa_cons (pe_ix (r := rIxT K) ix_tup (pv 8) pe_int (fun _ _ => rfl)) (pa_cons (pe_ix (r := rIxT K) ix_tup (pv 8) pe_int (fun _ _ => rfl)) (pa_cons (pe_op op_add (pe_ix (r := rIxT K) ix_tup (pv 8) pe_int (fun _ _ => rfl)) (pv 6)) pa_nil)))))) pss_nil)
      (pss_cons (ps_if (pt_val (pv 7)) (pss_one (ps_ret (pe_call (G_wrapped) (hr.mono (by decide)) rfl T.m_wrapped T.F_wrapped.kp T.b_wrapped .nil pass0 (pa_cons (pv 6) pa_nil)))) pss_nil)
      (pss_one ps_never))))), ?_⟩
    show (_ : TS) _ [some (x), some (.ref m), some (y), none, none, none, none, none, none] H
    obtain ⟨tf, rfl, htf⟩ := Jl.dp_fill hy
    have hd0 := hd
    obtain ⟨tp, S, N, ss, nv, rfl, htp, -⟩ := Jl.dp_piece hd0
    walk_at "w"
    refine Jl.s_gTup htf rfl ?_
    walk_at "w"
    refine Jl.s_dget2 ?_
    walk_at "w"
    refine use_own hd fq.once (by have := fq.nl; omega) (fun mo H1 s1 nmo hmo => ?_)
    have D1 := D.ext (Same.refl _) s1
    refine ⟨mo, rfl, hmo.isD, ?_⟩
    walk_at "w"
    refine Jl.s_dget1 ?_
    walk_at "w"
    refine ⟨m, rfl, D1.isD, ?_⟩
    walk_at "w"
    obtain ⟨o1, o2, g1, g2, hg⟩ := Jl.aim_get f.name D1 (sF.trans s1) hL hmo fq.ok.1
    refine ⟨o1, g1, ?_⟩
    refine ⟨o2, g2, ?_⟩
    rcases hg with ⟨e, ev⟩ | ⟨t, i, j, q, okt, e, ev, hq⟩
    · rw [ev]
      walk_at "w"
      rcases k with ⟨t, i, j, -, e2, -⟩ | ⟨-, hs, k⟩
      · rw [e] at e2; cases e2
      · rw [hs]
        walk_at "w"
        exact k _ s1
    · rw [ev]
      walk_at "w"
      refine Jl.s_ixT hq (i := 0) rfl ?_
      walk_at "w"
      refine Jl.s_ixT hq (i := 1) rfl ?_
      walk_at "w"
      refine Jl.s_ixT hq (i := 2) rfl ?_
      walk_at "w"
      refine ⟨(by show 3 ≤ sizeLine; decide), fun pt npt => ?_⟩
      walk_at "w"
      rcases k with ⟨t', i', j', -, e2, k⟩ | ⟨e2, -⟩
      · rw [e] at e2
        obtain ⟨h1, h2, h3⟩ : t = t' ∧ i = i' ∧ j = j' := by
          have e3 : Jl.spotD t i j = Jl.spotD t' i' j' := Option.some.inj e2
          unfold Jl.spotD at e3
          injection e3 with e3
          injection e3 with a1 e3
          injection e3 with a2 e3
          injection e3 with a3 e3
          injection a1 with a1
          injection a2 with a2
          injection a3 with a3
          exact ⟨a1, a2, a3⟩
        subst h1 h2 h3
        exact k _ pt (s1.trans (Jl.same_upd npt)) upd_same
      · rw [e] at e2; cases e2
/-! ### reached -/
def sp_reached (K : PySem.W.Frag) : Sp := fun vs H Q _ => ∃ (P m : Addr) (rv : V) (xs : List V) (ps : List Jl.Piece) (L : List (Str × PyData)) (F : Hp) (root : Jl.KY), vs = [.ref P, .ref m, rv] ∧ SqL K H P xs ∧ DpAll K H xs (ps.map Jl.pieceD) ∧ Jl.SD K F H m L ∧ Same F H ∧ Jl.Way ps L ∧ Jl.KeyAt H rv root ∧ Jl.VK_ ps root ∧ ∀ (R : Addr) (G H' : Hp) (rs : List (V × Jl.RW)) (n : Nat), Jl.Act H G H' [R] → H' R = some (.lst (rs.map (·.1))) → (∀ x ∈ rs, Jl.RwAt G x.1 x.2) → rs.map (·.2) = Jl.bfs (Jl.TT_ ps L) root n → rs.length ≤ n → Q (.ref R) H'
theorem use_reached {K : PySem.W.Frag} {P m : Addr} {rv : V} {xs : List V} {ps : List Jl.Piece} {L : List (Str × PyData)} {F : Hp} {root : Jl.KY} {H : Hp} {Q : VK} {E : XK} (hP : SqL K H P xs) (hx : DpAll K H xs (ps.map Jl.pieceD)) (D : Jl.SD K F H m L) (sF : Same F H) (W : Jl.Way ps L) (hrv : Jl.KeyAt H rv root) (hroot : Jl.VK_ ps root) (z : ∀ (R : Addr) (G H' : Hp) (rs : List (V × Jl.RW)) (n : Nat), Jl.Act H G H' [R] → H' R = some (.lst (rs.map (·.1))) → (∀ x ∈ rs, Jl.RwAt G x.1 x.2) → rs.map (·.2) = Jl.bfs (Jl.TT_ ps L) root n → rs.length ≤ n → Q (.ref R) H') : sp_reached K [.ref P, .ref m, rv] H Q E := ⟨P, m, rv, xs, ps, L, F, root, rfl, hP, hx, D, sF, W, hrv, hroot, z⟩
theorem ok_reached (T : Txt K mg) : FnOk P w K mg base CX0 3 T.a_reached T.d_reached ["pieces", "names", "root"] (sp_reached K) := by
  have G_aim := ok_aim (P := P) (w := w) (base := base) T
  refine T.F_reached.ok sc_reached (fun vs H Q E h => ?_) (fun cdv A outer s H vs Q E hr h => ?_)
  · obtain ⟨P, m, rv, xs, ps, L, F, root, rfl, hP, hx, D, sF, W, hrv, hroot, k⟩ := h
    rfl
  · obtain ⟨P, m, rv, xs, ps, L, F, root, rfl, hP, hx, D, sF, W, hrv, hroot, k⟩ := h
    have hu := hu_of hr
    refine ⟨_, (pss_cons (ps_set (i := 3) sc_reached.nd rfl (Or.inl rfl) pe_dnewK)
      (pss_cons (ps_for PassesOwn.never rfl (pi_list (pv 0)) (pg_name (i := 4) sc_reached.nd rfl (Or.inl rfl)) (pss_one (ps_dput hu (pv 3) (pe_ix (r := rIxT K) ix_tup (pv 4) pe_int (fun _ _ => rfl)) (pv 4) rfl)))
      (pss_cons (ps_set (i := 5) sc_reached.nd rfl (Or.inl rfl) (pe_lst (pa_cons (pe_tup (pa_cons (pv 2) (pa_cons pe_non (pa_cons pe_non pa_nil)))) pa_nil)))
      (pss_cons (ps_set (i := 6) sc_reached.nd rfl (Or.inl rfl) (Jl.pe_dispT hu (pv 2) pe_bl))
      (pss_cons (ps_set (i := 7) sc_reached.nd rfl (Or.inl rfl) pe_int)
      (pss_cons (ps_while PassesOwn.never (pt_cmpR op_lt (pv 7) (pe_callB (r := Jl.rLenL K) Jl.cl_lenL (by rfl) T.n_len (by decide +kernel) (pa_cons (pv 5) pa_nil)) (nomark _)) (pss_cons (ps_set (i := 8) sc_reached.nd rfl (Or.inl rfl) (pe_ix (r := rIxT K) ix_tup (pe_ix (r := rIxL K) ix_list (pv 5) (pv 7) (fun _ _ => rfl)) pe_int (fun _ _ => rfl)))
      (pss_cons (ps_set (i := 4) sc_reached.nd rfl (Or.inl rfl) (pe_dget hu (pv 3) (pe_ix (r := rIxT K) ix_tup (pv 8) pe_int (fun _ _ => rfl)) (fun _ _ => rfl)))
      (pss_cons (ps_for PassesOwn.never rfl (pi_list (pe_ix (r := rIxT K) ix_tup (pe_ix (r := rIxL K) ix_list (pe_ix (r := rIxT K) ix_tup (pv 4) pe_int (fun _ _ => rfl)) (pe_ix (r := rIxT K) ix_tup (pv 8) pe_int (fun _ _ => rfl)) (fun _ _ => rfl)) pe_int (fun _ _ => rfl))) (pg_name (i := 9) sc_reached.nd rfl (Or.inl rfl)) (pss_cons (ps_set (i := 10) sc_reached.nd rfl (Or.inl rfl) (pe_call (G_aim) (hr.mono (by decide)) rfl T.m_aim T.F_aim.kp T.b_aim .nil pass0 (pa_cons (pv 4) (pa_cons (pv 1) (pa_cons (pv 9) pa_nil)))))
      (pss_one (Jl.ps_ifK (PW.pt (pw_and (pt_val (pe_callB call_isi (by rfl) T.n_isinstance (by decide +kernel) (pa_cons (pv 10) (pa_cons (pe_bltn (v := .ty "tuple") (u := .type "tuple") (by rfl) T.n_tuple (by decide +kernel) rfl) pa_nil)))) (pw_and1 (pt_cmp (pc_dnotin hu (pe_slice (r := rSlT K) sl_tup (pv 10) po_none (po_some pe_int)) (pv 6)))))) (pss_cons (ps_dput hu (pv 6) (pe_slice (r := rSlT K) sl_tup (pv 10) po_none (po_some pe_int)) pe_bl rfl)
      (pss_one (ps_expr (pe_bm PySem.F.plainAttrs_list PySem.F.slot_list_append PySem.F.type_list_append mt_append (pv 5) (pa_cons (pe_tup (pa_cons (pe_slice (r := rSlT K) sl_tup (pv 10) po_none (po_some pe_int)) (pa_cons (pv 8) (pa_cons (pe_ix (r := rIxT K) ix_tup (pv 9) pe_int (fun _ _ => rfl)) pa_nil)))) pa_nil))))) pss_nil))))
      (pss_one (ps_aug (i := 7) sc_reached.nd rfl (Or.inl rfl) pe_int ip_add))))))
      (pss_one (ps_ret (pv 5))))))))), ?_⟩
    show (_ : TS) _ [some (.ref P), some (.ref m), some (rv), none, none, none, none, none, none, none, none] H
    have hxl := Jl.da_length hx
    have hfew := W.few
    walk_at "w"
    refine fun mf nmf => ?_
    have c0 := (Jl.Act.start H).newA (o := .dK []) nmf
    have d0 : (upd H mf (.dK [])) mf = some (.dK []) := upd_same
    generalize upd H mf (.dK []) = H0 at *
    walk_at "w"
    refine Jl.s_seq (Jl.s_forLg (xs := xs) (fun i σ' H' => Jl.Act H H H' [mf] ∧ Jl.SD K H H' mf (Jl.putAll [] ((ps.take i).map fun p => (p.name, Jl.pieceD p))) ∧ ∃ v : Option V, σ' = [some (.ref P), some (.ref m), some rv, some (.ref mf), v, none, none, none, none, none, none]) H0 (fun Rk z => ?_) (c0.same.seq hP) ⟨c0, Jl.SD.nil d0, none, rfl⟩ (fun i σ' H' _ h => h.1.same.seq hP) (fun i x σ' H' hi h => ?_) (fun σ' H' h => ?_))
    · walk_at "w"
      exact z
    · obtain ⟨c, Df, v, rfl⟩ := h
      obtain ⟨p, hp, hy⟩ := Jl.da_item hx hi
      have hil : i < ps.length := (List.getElem?_eq_some_iff.mp hp).1
      have hy0 := hy
      obtain ⟨tp, S0, N0, ss, nv, rfl, htp, -⟩ := Jl.dp_piece hy0
      walk_at "w"
      refine Jl.s_dput ?_
      walk_at "w"
      refine Jl.s_ixT (Jl.sameT c.same htp) (i := 0) rfl ?_
      obtain ⟨o, P3, D4⟩ := Df.put (z := p.name) (v := .ref tp) hy (by
        have h1 := Jl.putAll_len ((ps.take i).map fun p => (p.name, Jl.pieceD p)) []
        rw [List.length_nil, List.length_map, List.length_take] at h1
        omega)
      refine ⟨mf, _, rfl, P3, c.upd (by simp), ?_, _, rfl⟩
      rw [List.take_add_one, hp, List.map_append, Jl.putAll_app]
      exact D4
    obtain ⟨c, Df, v, rfl⟩ := h
    rw [hxl, List.take_length] at Df
    obtain ⟨kvs0, hmf, -⟩ := id Df
    obtain ⟨G0, c1, sG0, hmf0⟩ := c.ice hmf
    have Dg : Jl.SD K H G0 mf (Jl.titleL ps) := Df.to (Same.refl _) (by rw [hmf0, hmf])
    walk_at "w"
    refine ⟨(by show 3 ≤ sizeLine; decide), fun r0 nr0 => ?_⟩
    have hr0 : (upd G0 r0 (.tup [rv, .non, .non])) r0 = some (.tup [rv, .non, .non]) := upd_same
    have c2 := c1.new (o := .tup [rv, .non, .non]) nr0
    have sg1 := Jl.same_upd (o := .tup [rv, .non, .non]) (c1.ext.free nr0)
    have Dg := Dg.ext (Same.refl _) sg1
    generalize upd G0 r0 (.tup [rv, .non, .non]) = G1 at *
    generalize upd H' r0 (.tup [rv, .non, .non]) = H1 at *
    walk_at "w"
    refine ⟨(by show 1 ≤ sizeLine; decide), fun R nR => ?_⟩
    have hR1 : (upd H1 R (.lst [.ref r0])) R = some (.lst [.ref r0]) := upd_same
    have c3 := c2.newA (o := .lst [.ref r0]) nR
    generalize upd H1 R (.lst [.ref r0]) = H2 at *
    walk_at "w"
    refine Jl.s_dispT (fun S nS => ?_)
    have c4 := c3.newA (o := .dT []) nS
    have hR2 := Jl.same_upd (o := .dT []) nS _ _ hR1
    have hS2 : (upd H2 S (.dT [])) S = some (.dT []) := upd_same
    generalize upd H2 S (.dT []) = H3 at *
    walk_at "w"
    obtain ⟨rb, hrb, hrb2⟩ := hrv.same c4.same
    refine ⟨rb, Jl.kfT root, hrb, hrb2, hS2, ?_⟩
    have c5 := c4.upd (a := S) (o := .dT [(Jl.kfT root, .bl true)]) (by simp)
    have nd5 := c5.nd
    have nRS : R ≠ S := fun e => by rw [e] at nd5; simp at nd5
    have hR3 : (upd H3 S (.dT [(Jl.kfT root, .bl true)])) R = some (.lst [.ref r0]) := by rw [upd_ne nRS]; exact hR2
    have T0 : Jl.TD K G1 (upd H3 S (.dT [(Jl.kfT root, .bl true)])) S (Jl.seenL [root]) := ⟨_, upd_same, Jl.KVD.nil.put Jl.kfT_inj (k := root) (.bl true)⟩
    generalize upd H3 S (.dT [(Jl.kfT root, .bl true)]) = H4 at *
    have hrw0 : Jl.RwAt G1 (.ref r0) (root, none) := ⟨r0, rv, .non, .non, rfl, hr0, hrv.same c2.base, .inl ⟨rfl, rfl, rfl⟩⟩
    walk_at "w"
    have hlen := W.len hroot
    refine ⟨fun mm σ' H' => ∃ (kk : Nat) (G : Hp) (rs : List (V × Jl.RW)), mm = 5000 - kk ∧ Jl.Act H G H' [S, R] ∧ H' R = some (.lst (rs.map (·.1))) ∧ (∀ x ∈ rs, Jl.RwAt G x.1 x.2) ∧ Jl.TD K G H' S (Jl.seenL (rs.map fun x : V × Jl.RW => x.2.1)) ∧ Jl.SD K H G mf (Jl.titleL ps) ∧ rs.map (·.2) = Jl.bfs (Jl.TT_ ps L) root kk ∧ ∃ v4 v8 v9 v10 : Option V, σ' = [some (.ref P), some (.ref m), some rv, some (.ref mf), v4, some (.ref R), some (.ref S), some (.int (kk : Int)), v8, v9, v10], ⟨_, 0, G1, [(.ref r0, (root, none))], rfl, c5, hR3, (fun x hx => by rw [List.mem_singleton.mp hx]; exact hrw0), T0, Dg, rfl, _, _, _, _, rfl⟩, fun mm σ' H' h => ?_⟩
    obtain ⟨kk, G, rs, hmm, c, hR, hrs, TS, Dg, hbf, v4, v8, v9, v10, rfl⟩ := h
    have hrl : rs.length ≤ 4096 := by
      have h1 := congrArg List.length hbf
      rw [List.length_map] at h1
      have h2 := hlen kk
      omega
    walk_at "w"
    refine Jl.s_lenL (.inl (.inl hR)) ?_
    rw [List.length_map]
    walk_at "w"
    refine Jl.s_iteD (fun g => ?_) (fun g => ?_)
    rotate_left
    · -- no more rows
      walk_at "w"
      obtain ⟨kvs1, hS1, -⟩ := id TS
      obtain ⟨G2, c6, sG2, -⟩ := c.ice hS1
      exact k R G2 H' rs kk c6 hR (fun x hx => (hrs x hx).same sG2) hbf (by omega)
    refine ⟨fun σ2 H2 => ∃ m', m' < mm ∧ ∃ (kk : Nat) (G : Hp) (rs : List (V × Jl.RW)), m' = 5000 - kk ∧ Jl.Act H G H2 [S, R] ∧ H2 R = some (.lst (rs.map (·.1))) ∧ (∀ x ∈ rs, Jl.RwAt G x.1 x.2) ∧ Jl.TD K G H2 S (Jl.seenL (rs.map fun x : V × Jl.RW => x.2.1)) ∧ Jl.SD K H G mf (Jl.titleL ps) ∧ rs.map (·.2) = Jl.bfs (Jl.TT_ ps L) root kk ∧ ∃ v4 v8 v9 v10 : Option V, σ2 = [some (.ref P), some (.ref m), some rv, some (.ref mf), v4, some (.ref R), some (.ref S), some (.int (kk : Int)), v8, v9, v10], fun _ _ h => h, ?_⟩
    obtain ⟨x1, r1, hx1⟩ : ∃ x r, rs[kk]? = some (x, r) := ⟨_, _, List.getElem?_eq_getElem (by omega)⟩
    obtain ⟨b1, kv, y1, y2, hb1, hb2, ⟨bk, hkv, hbk⟩, -⟩ := hrs _ (List.mem_of_getElem? hx1)
    have hb1 : x1 = .ref b1 := hb1
    subst hb1 hkv
    have hb2 : G b1 = some (.tup [.ref bk, y1, y2]) := hb2
    have hbk : G bk = some (.tup [.str r1.1.1, .int r1.1.2]) := hbk
    have hat : (Jl.bfs (Jl.TT_ ps L) root kk)[kk]? = some r1 := by rw [← hbf, List.getElem?_map, hx1]; rfl
    obtain ⟨p, hp, hk1, hk2, hk3⟩ := Jl.bfs_all hroot (fun k hk => W.TT hk) kk r1 (List.mem_of_getElem? hat)
    have hpa : Jl.pieceAt ps r1.1.1 = p := by rw [hk1]; exact Jl.pieceAt_mem W.nd hp
    obtain ⟨st, hst⟩ : ∃ st, p.stres[r1.1.2.toNat]? = some st := ⟨_, List.getElem?_eq_getElem (by omega)⟩
    have hTT : Jl.TT_ ps L r1.1 = Jl.tgs p L st.fills := by rw [Jl.TT_at (by rw [hpa]; exact hst), hpa]
    have hstep := Jl.bfs_step hat
    rw [hTT] at hstep
    have hlook : Jl.lookL (Jl.titleL ps) r1.1.1 = some (Jl.pieceD p) := by rw [hk1]; exact Jl.titleL_look W.nd hp
    walk_at "w"
    refine Jl.s_ixL (.inl (.inl hR)) (atI_nat (by rw [List.getElem?_map, hx1]; rfl)) ?_
    walk_at "w"
    refine Jl.tup_at (i := 0) (c.ext _ _ hb2) rfl ?_
    walk_at "w"
    refine Jl.s_dgetR ?_
    walk_at "w"
    refine Jl.tup_at (i := 0) (c.ext _ _ hbk) rfl ?_
    rcases (Dg.ext (Same.refl _) c.ext).get r1.1.1 with ⟨e4, -⟩ | ⟨d, v, e4, g4, hv⟩
    · rw [hlook] at e4; cases e4
    rw [hlook] at e4
    cases e4
    refine ⟨mf, _, rfl, g4, ?_⟩
    have hvp := hv
    obtain ⟨tp, S0, N0, ss, nv, rfl, htp, hS0, hss, -, -⟩ := Jl.dp_piece hvp
    obtain ⟨sy, hsy, hsd⟩ := Jl.da_item' hss hst
    obtain ⟨tq, W0, Gq, gs, rfl, htq, hW0, hGq, hgs⟩ := Jl.dp_stre hsd
    have hgl := Jl.da_length hgs
    walk_at "w"
    refine Jl.s_seq (Jl.s_forLg (xs := gs) (fun j σ' H' => ∃ (G : Hp) (rs : List (V × Jl.RW)), Jl.Act H G H' [S, R] ∧ H' R = some (.lst (rs.map (·.1))) ∧ (∀ x ∈ rs, Jl.RwAt G x.1 x.2) ∧ Jl.TD K G H' S (Jl.seenL (rs.map fun x : V × Jl.RW => x.2.1)) ∧ Jl.SD K H G mf (Jl.titleL ps) ∧ rs.map (·.2) = Jl.addS r1.1 (Jl.bfs (Jl.TT_ ps L) root kk) (Jl.tgs p L (st.fills.take j)) ∧ G bk = some (.tup [.str r1.1.1, .int r1.1.2]) ∧ ∃ v9 v10 : Option V, σ' = [some (.ref P), some (.ref m), some rv, some (.ref mf), some (.ref tp), some (.ref R), some (.ref S), some (.int (kk : Int)), some (.ref bk), v9, v10]) H' (fun Rk z => ?_) (c.same.seq hGq) ⟨G, rs, c, hR, hrs, TS, Dg, by rw [List.take_zero]; exact hbf, hbk, _, _, rfl⟩ (fun j σ' H' _ h => ?_) (fun j y σ' H2 hj h => ?_) (fun σ' H2 h => ?_))
    · walk_at "w"
      refine Jl.s_ixT (Jl.sameT c.same htp) (i := 1) rfl ?_
      walk_at "w"
      refine Jl.tup_at (i := 1) (c.ext _ _ hbk) rfl ?_
      walk_at "w"
      refine Jl.s_ixL (c.same.seq hS0) (by rw [show r1.1.2 = ((r1.1.2.toNat : Nat) : Int) by omega]; exact atI_nat hsy) ?_
      walk_at "w"
      refine Jl.s_ixT (Jl.sameT c.same htq) (i := 3) rfl ?_
      exact z
    · obtain ⟨G, rs, c, -⟩ := h
      exact c.same.seq hGq
    rotate_left
    · obtain ⟨G, rs, c, hR, hrs, TS, Dg, hbf2, hbk, v9, v10, rfl⟩ := h
      rw [hgl, List.take_length, ← hstep] at hbf2
      walk_at "w"
      refine ⟨_, rfl, ?_⟩
      walk_at "w"
      refine ⟨_, _, rfl, rfl, ?_⟩
      exact ⟨5000 - (kk + 1), by omega, kk + 1, G, rs, rfl, c, hR, hrs, TS, Dg, hbf2, some (.ref tp), some (.ref bk), v9, v10, rfl⟩
    clear c hR hrs TS Dg hbf hrl g hx1 hb2 hbk
    obtain ⟨G, rs, c, hR, hrs, TS, Dg, hbf2, hbk, v9, v10, rfl⟩ := h
    obtain ⟨f, hf, hfy⟩ := Jl.da_item hgs hj
    have htk : st.fills.take (j + 1) = st.fills.take j ++ [f] := by rw [List.take_add_one, hf]; rfl
    have htg : Jl.tgs p L (st.fills.take (j + 1)) = Jl.tgs p L (st.fills.take j) ++ Jl.tgs p L [f] := by rw [htk]; exact List.filterMap_append
    have hrl : rs.length ≤ 4096 := by
      have h1 := congrArg List.length hbf2
      rw [List.length_map] at h1
      have h2 := W.lenS hroot kk hp (st.fills.take j) r1.1
      omega
    walk_at "w"
    obtain ⟨tf, rfl, htf⟩ := Jl.dp_fill hfy
    refine use_aim (Jl.dp_same c.same hvp) (W.fine p hp) (D.ext (Same.refl _) c.same) (sF.trans c.same) W.spots (Jl.dp_same c.same hfy) ?_
    cases es : Jl.spotOf p L f.name with
    | none =>
      have hsoft : f.soft = true := by
        rcases W.aims p hp st (List.mem_of_getElem? hst) f (List.mem_of_getElem? hf) with h | h
        · exact h
        · exact absurd es h
      have e0 : Jl.tgs p L [f] = [] := by
        unfold Jl.tgs
        rw [List.filterMap_cons, Jl.tgt_none es]; rfl
      rw [e0, List.append_nil] at htg
      refine .inr ⟨rfl, hsoft, fun H3 s3 => ?_⟩
      have c3 := c.sm s3
      walk_at "w"
      refine Jl.s_ifKh (P := False) (fun σ' H' => ∃ (G : Hp) (rs : List (V × Jl.RW)), Jl.Act H G H' [S, R] ∧ H' R = some (.lst (rs.map (·.1))) ∧ (∀ x ∈ rs, Jl.RwAt G x.1 x.2) ∧ Jl.TD K G H' S (Jl.seenL (rs.map fun x : V × Jl.RW => x.2.1)) ∧ Jl.SD K H G mf (Jl.titleL ps) ∧ rs.map (·.2) = Jl.addS r1.1 (Jl.bfs (Jl.TT_ ps L) root kk) (Jl.tgs p L (st.fills.take (j + 1))) ∧ G bk = some (.tup [.str r1.1.1, .int r1.1.2]) ∧ ∃ v9 v10 : Option V, σ' = [some (.ref P), some (.ref m), some rv, some (.ref mf), some (.ref tp), some (.ref R), some (.ref S), some (.int (kk : Int)), some (.ref bk), v9, v10]) (fun TT t1 t2 => ?_) (fun h => h.elim) (fun _ H4 N s4 hN => ?_) (fun σ' H' h => h)
      · walk_at "w"
        refine Jl.s_isi (k := false) (.base (.int _)) (kit_ty (by decide +kernel)) ?_
        walk_at "w"
        exact t2 _ (Same.refl _) (fun h => h)
      · walk_at "w"
        refine hN _ _ ⟨G, rs, c3.sm s4, (s3.trans s4) _ _ hR, hrs, TS.ext (Same.refl _) (s3.trans s4), Dg, ?_, hbk, _, _, rfl⟩
        rw [htg]; exact hbf2
    | some d =>
      obtain ⟨t, i, jj, okt, rfl, hvk⟩ := W.spot hp es
      have e0 : Jl.tgs p L [f] = [((t, i), f.at_)] := by
        unfold Jl.tgs
        rw [List.filterMap_cons, Jl.tgt_some es]; rfl
      rw [e0] at htg
      refine .inl ⟨t, i, jj, okt, rfl, fun H3 q s3 hq => ?_⟩
      have c3 := c.sm s3
      have hR3 := s3 _ _ hR
      have TS3 := TS.ext (Same.refl _) s3
      obtain ⟨kvs1, hS3, -⟩ := id TS3
      have hqA : q ∉ [S, R] := fun h => by
        simp only [List.mem_cons, List.not_mem_nil, or_false] at h
        rcases h with h | h
        · rw [h, hS3] at hq; cases hq
        · rw [h, hR3] at hq; cases hq
      obtain ⟨G3, sG3, c3, hqG⟩ := c3.frz hq hqA
      have TS3 := TS3.ext sG3 (Same.refl _)
      have hrs3 : ∀ x ∈ rs, Jl.RwAt G3 x.1 x.2 := fun x hx => (hrs x hx).same sG3
      have Dg3 := Dg.ext (Same.refl _) sG3
      have hbk3 := sG3 _ _ hbk
      have htf3 := Jl.sameT (c3.same) htf
      clear c hrs TS Dg hbk hR
      have sl2 : ∀ {HH : Hp} {QQ : VK}, HH q = some (.tup [.str t, .int i, .int (jj + f.add)]) → (∀ p, HH p = none → QQ (.ref p) (upd HH p (.tup [.str t, .int i]))) → rSlT K (.ref q) none (some 2) HH QQ := fun {HH QQ} h z => by
        refine ⟨q, _, rfl, .inl (.inl h), (fun h => absurd (show (2 : Nat) = 3 from h.2) (by decide)), fun p np => ?_⟩
        exact z p np
      walk_at "w"
      refine Jl.s_ifKh (P := (t, i) ∉ rs.map fun x : V × Jl.RW => x.2.1) (fun σ' H' => ∃ (G : Hp) (rs : List (V × Jl.RW)), Jl.Act H G H' [S, R] ∧ H' R = some (.lst (rs.map (·.1))) ∧ (∀ x ∈ rs, Jl.RwAt G x.1 x.2) ∧ Jl.TD K G H' S (Jl.seenL (rs.map fun x : V × Jl.RW => x.2.1)) ∧ Jl.SD K H G mf (Jl.titleL ps) ∧ rs.map (·.2) = Jl.addS r1.1 (Jl.bfs (Jl.TT_ ps L) root kk) (Jl.tgs p L (st.fills.take (j + 1))) ∧ G bk = some (.tup [.str r1.1.1, .int r1.1.2]) ∧ ∃ v9 v10 : Option V, σ' = [some (.ref P), some (.ref m), some rv, some (.ref mf), some (.ref tp), some (.ref R), some (.ref S), some (.int (kk : Int)), some (.ref bk), v9, v10]) (fun TT t1 t2 => ?_) (fun hnew H4 N s4 hN => ?_) (fun hold H4 N s4 hN => ?_) (fun σ' H' h => h)
      · walk_at "w"
        refine Jl.s_isi (k := true) (.base (.tup hq)) (kit_ty (by decide +kernel)) ?_
        walk_at "w"
        refine Jl.s_dnotin ?_
        walk_at "w"
        refine sl2 hq (fun p7 np7 => ?_)
        have s7 := Jl.same_upd (o := .tup [.str t, .int i]) np7
        walk_at "w"
        rcases (TS3.ext (Same.refl _) s7).get (k := (t, i)) upd_same with ⟨e1, g1⟩ | ⟨d, v, e1, g1, -⟩
        · exact ⟨S, none, rfl, g1, _, rfl, t1 _ s7 ((Jl.seenL_look _ _).mp e1)⟩
        · refine ⟨S, some v, rfl, g1, _, rfl, t2 _ s7 (fun h => ?_)⟩
          rw [(Jl.seenL_look _ _).mpr h] at e1
          cases e1
      · have c4 := c3.sm s4
        have TS4 := TS3.ext (Same.refl _) s4
        walk_at "w"
        refine Jl.s_dput ?_
        walk_at "w"
        refine sl2 (s4 _ _ hq) (fun p8 np8 => ?_)
        have c5 := c4.new (o := .tup [.str t, .int i]) np8
        have f5 := Jl.same_upd (o := .tup [.str t, .int i]) (c4.ext.free np8)
        have s5 := Jl.same_upd (o := .tup [.str t, .int i]) np8
        obtain ⟨o, P5, TS6⟩ := (TS4.ext f5 s5).put (k := (t, i)) (b := p8) (v := .bl true) (d := .bool true) upd_same (.bl _) (by
          have := Jl.seenL_len (rs.map fun x : V × Jl.RW => x.2.1)
          rw [List.length_map] at this
          omega)
        refine ⟨S, _, rfl, P5, ?_⟩
        have c6 := c5.upd (a := S) (o := o) (by simp)
        have hR6 : (upd (upd H4 p8 (.tup [.str t, .int i])) S o) R = some (.lst (rs.map (·.1))) := by rw [upd_ne nRS]; exact s5 _ _ (s4 _ _ hR3)
        generalize upd (upd H4 p8 (.tup [.str t, .int i])) S o = H6 at *
        have hqG6 := f5 _ _ hqG
        have hbk6 := f5 _ _ hbk3
        have hrs6 : ∀ x ∈ rs, Jl.RwAt (upd G3 p8 (.tup [.str t, .int i])) x.1 x.2 := fun x hx => (hrs3 x hx).same f5
        have Dg6 := Dg3.ext (Same.refl _) f5
        generalize upd G3 p8 (.tup [.str t, .int i]) = G6 at *
        walk_at "w"
        refine sl2 (c6.ext _ _ hqG6) (fun p9 np9 => ?_)
        have c7 := c6.new (o := .tup [.str t, .int i]) np9
        have f7 := Jl.same_upd (o := .tup [.str t, .int i]) (c6.ext.free np9)
        have s7 := Jl.same_upd (o := .tup [.str t, .int i]) np9
        have hp9 : (upd G6 p9 (.tup [.str t, .int i])) p9 = some (.tup [.str t, .int i]) := upd_same
        generalize upd G6 p9 (.tup [.str t, .int i]) = G7 at *
        generalize upd H6 p9 (.tup [.str t, .int i]) = H7 at *
        walk_at "w"
        refine Jl.s_ixT (Jl.sameT c7.same htf) (i := 0) rfl ?_
        walk_at "w"
        refine ⟨(by show 3 ≤ sizeLine; decide), fun p10 np10 => ?_⟩
        have c8 := c7.new (o := .tup [.ref p9, .ref bk, .int f.at_]) np10
        have f8 := Jl.same_upd (o := .tup [.ref p9, .ref bk, .int f.at_]) (c7.ext.free np10)
        have s8 := Jl.same_upd (o := .tup [.ref p9, .ref bk, .int f.at_]) np10
        refine Jl.s_nil ?_
        refine Jl.s_append (s8 _ _ (s7 _ _ hR6)) ?_ (Jl.small5' (by rw [List.length_map]; omega))
        have f68 := f7.trans f8
        have TS8 := (TS6.ext f7 s7).ext f8 s8
        refine hN _ _ ⟨_, rs ++ [(.ref p10, ((t, i), some (r1.1, f.at_)))], c8.upd (by simp), ?_, fun x hx => ?_, ?_, Dg6.ext (Same.refl _) f68, ?_, f68 _ _ hbk6, _, _, rfl⟩
        · rw [upd_same, List.map_append]; rfl
        · rcases List.mem_append.mp hx with hx | hx
          · exact (hrs6 x hx).same f68
          · rw [List.mem_singleton.mp hx]
            exact ⟨p10, .ref p9, .ref bk, .int f.at_, rfl, upd_same, ⟨p9, rfl, f8 _ _ hp9⟩, .inr ⟨r1.1, f.at_, rfl, ⟨bk, rfl, f68 _ _ hbk6⟩, rfl⟩⟩
        · obtain ⟨kvs9, k1, k2⟩ := TS8
          refine ⟨kvs9, by rw [upd_ne nRS.symm]; exact k1, ?_⟩
          rw [List.map_append]
          show Jl.KVD K _ Jl.kfT kvs9 (Jl.seenL (_ ++ [(t, i)]))
          rw [Jl.seenL_snoc]
          exact k2
        · rw [htg, Jl.addS_snoc, ← hbf2]
          unfold Jl.add1
          rw [List.map_map]
          refine (?_ : _ = _).trans (if_neg hnew).symm
          rw [List.map_append]; rfl
      · walk_at "w"
        refine hN _ _ ⟨G3, rs, c3.sm s4, s4 _ _ hR3, hrs3, TS3.ext (Same.refl _) s4, Dg3, ?_, hbk3, _, _, rfl⟩
        rw [htg, Jl.addS_snoc, ← hbf2]
        unfold Jl.add1
        rw [List.map_map, if_pos]
        exact Classical.not_not.mp hold
/-! ### _law_cell_at -/
def sp_law_cell_at (K : PySem.W.Frag) : Sp := fun vs H Q _ => ∃ (a : Addr) (ns : List Int) (i : Int), vs = [.ref a, .int i] ∧ SqL K H a (ns.map V.int) ∧ 0 ≤ i ∧ Q (.int (ns.getD i.toNat 0)) H
theorem use_cell_at {K : PySem.W.Frag} {a : Addr} {ns : List Int} {i : Int} {H : Hp} {Q : VK} {E : XK} (hS : SqL K H a (ns.map V.int)) (h0 : 0 ≤ i) (z : Q (.int (ns.getD i.toNat 0)) H) : sp_law_cell_at K [.ref a, .int i] H Q E := ⟨a, ns, i, rfl, hS, h0, z⟩
theorem ok_law_cell_at (T : Txt K mg) : FnOk P w K mg base CX0 1 T.a_law_cell_at T.d_law_cell_at ["_law_script", "_law_k"] (sp_law_cell_at K) := by
  refine T.F_law_cell_at.ok sc_law_cell_at (fun vs H Q E h => ?_) (fun cdv A outer s H vs Q E hr h => ?_)
  · obtain ⟨a, ns, i, rfl, hS, h0, k⟩ := h
    rfl
  · obtain ⟨a, ns, i, rfl, hS, h0, k⟩ := h
    have hu := hu_of hr
    refine ⟨_, (pss_cons (ps_if (pt_cmpR op_lt (pv 1) (pe_callB (r := Jl.rLenL K) Jl.cl_lenL (by rfl) T.n_len (by decide +kernel) (pa_cons (pv 0) pa_nil)) (nomark _)) (pss_one (ps_ret (pe_ix (r := rIxL K) ix_list (pv 0) (pv 1) (fun _ _ => rfl)))) pss_nil)
      (pss_one (ps_ret pe_int))), ?_⟩
    show (_ : TS) _ [some (.ref a), some (.int i)] H
    walk_at "w"
    rw [List.length_map]
    refine Jl.s_iteD (fun h => ?_) (fun h => ?_)
    · walk_at "w"
      refine Jl.s_ixL hS (Jl.atI_int (k := i.toNat) (List.getElem?_eq_getElem (by omega)) (by omega)) ?_
      rw [List.getD_eq_getElem?_getD, List.getElem?_eq_getElem (by omega)] at k
      exact k
    · walk_at "w"
      rw [List.getD_eq_getElem?_getD, List.getElem?_eq_none (by omega)] at k
      exact k
/-! ### _law_name_by -/
def sp_law_name_by (K : PySem.W.Frag) : Sp := fun vs H Q _ => ∃ c k0 : Int, vs = [.int c, .int k0] ∧ 0 ≤ k0 ∧ k0 ≤ 1000000 ∧ Q (.str (Jl.nmT c k0)) H
theorem use_name_by {K : PySem.W.Frag} {c k0 : Int} {H : Hp} {Q : VK} {E : XK} (h0 : 0 ≤ k0) (h1 : k0 ≤ 1000000) (z : Q (.str (Jl.nmT c k0)) H) : sp_law_name_by K [.int c, .int k0] H Q E := ⟨c, k0, rfl, h0, h1, z⟩
local macro_rules | `(tactic| walk_at "s") => `(tactic| ((focus (with_reducible refine use_name_by ?_ ?_ ?_; (focus (omega)); (focus (omega))))))
theorem ok_law_name_by (T : Txt K mg) : FnOk P w K mg base CX0 1 T.a_law_name_by T.d_law_name_by ["_law_cell", "_law_k"] (sp_law_name_by K) := by
  refine T.F_law_name_by.ok sc_law_name_by (fun vs H Q E h => ?_) (fun cdv A outer s H vs Q E hr h => ?_)
  · obtain ⟨c, k0, rfl, hk0, hk1, k⟩ := h
    rfl
  · obtain ⟨c, k0, rfl, hk0, hk1, k⟩ := h
    have hu := hu_of hr
    refine ⟨_, (pss_cons (ps_set (i := 2) sc_law_name_by.nd rfl (Or.inl rfl) pe_str)
      (pss_cons (ps_set (i := 3) sc_law_name_by.nd rfl (Or.inl rfl) (pe_op op_add pe_int (pe_op op_mod (pv 0) pe_int)))
      (pss_cons (ps_set (i := 4) sc_law_name_by.nd rfl (Or.inl rfl) (pe_op op_mod (pe_op op_fdiv (pv 0) pe_int) (pv 3)))
      (pss_cons (Jl.ps_ifK (pt_cmpR op_eq (pe_op op_mod (pe_op op_fdiv (pv 0) pe_int) pe_int) pe_int (nomark _)) (pss_cons (ps_set (i := 3) sc_law_name_by.nd rfl (Or.inl rfl) (pe_op op_add pe_int (pe_op op_mod (pv 1) pe_int)))
      (pss_one (ps_set (i := 4) sc_law_name_by.nd rfl (Or.inl rfl) pe_int))) pss_nil)
      (pss_cons (ps_set (i := 5) sc_law_name_by.nd rfl (Or.inl rfl) pe_str)
      (pss_cons (ps_for PassesOwn.never rfl (pi_range1 (by rfl) T.n_range (pa_cons (pv 3) pa_nil)) (pg_name (i := 6) sc_law_name_by.nd rfl (Or.inl rfl)) (pss_cons (ps_set (i := 7) sc_law_name_by.nd rfl (Or.inl rfl) (pe_op op_sub pe_int (pe_op op_mul pe_int (pe_callTy Jl.cl_int1 (by rfl) T.n_int (by decide +kernel) (pa_cons (pe_cmpR op_eq (pv 6) pe_int (nomark _)) pa_nil)))))
      (pss_cons (ps_set (i := 8) sc_law_name_by.nd rfl (Or.inl rfl) (pe_op op_add (pe_op op_add (pe_op op_fdiv (pv 0) (pe_op op_add (pv 6) pe_int)) (pe_op op_mul (pv 6) (pv 6))) (pe_op op_mul (pv 1) (pe_callTy Jl.cl_int1 (by rfl) T.n_int (by decide +kernel) (pa_cons (pe_cmpR op_eq (pv 6) (pv 4) (nomark _)) pa_nil)))))
      (pss_one (ps_set (i := 5) sc_law_name_by.nd rfl (Or.inl rfl) (pe_op Jl.op_addS (pv 5) (pe_ix ix_str (pv 2) (pe_op op_mod (pv 8) (pv 7)) (fun _ _ => rfl))))))))
      (pss_one (ps_ret (pv 5))))))))), ?_⟩
    show (_ : TS) _ [some (.int c), some (.int k0), none, none, none, none, none, none, none] H
    have hs := Jl.nmSize_ok c k0
    walk_at "w"
    refine Jl.s_seq (Jl.s_ifKs (P := c / 256 % 3 = 0) (fun σ' H' => H' = H ∧ ∃ z, z = Jl.sgns ∧ σ' = [some (.int c), some (.int k0), some (.str z), some (.int (Jl.nmSize c k0)), some (.int (Jl.nmAt c)), none, none, none, none]) (fun T t1 t2 => ?_) (fun g N hN => ?_) (fun g N hN => ?_) (fun σ' H' hM => ?_))
    · walk_at "w"
      by_cases g : c / 256 % 3 = 0
      · rw [decide_eq_true g]; exact t1 g
      · rw [decide_eq_false g]; exact t2 g
    · walk_at "w"
      refine hN _ _ ⟨rfl, _, rfl, ?_⟩
      rw [show Jl.nmSize c k0 = 1 + k0 % 16 from if_pos g, show Jl.nmAt c = 16 from if_pos g]; rfl
    · walk_at "w"
      refine hN _ _ ⟨rfl, _, rfl, ?_⟩
      rw [show Jl.nmSize c k0 = 1 + c % 16 from if_neg g, show Jl.nmAt c = c / 16 % (1 + c % 16) from if_neg g]; rfl
    obtain ⟨eH, z, hz, rfl⟩ := hM
    subst eH
    walk_at "w"
    refine Jl.s_seq (Jl.s_forR1 (Jl.nmSize c k0) (fun i σ' H2 => H2 = H' ∧ ∃ (n : Str) (v1 v2 v3 : Option V), n.cps.toList = (Jl.nmL c k0).take i ∧ σ' = [some (.int c), some (.int k0), some (.str z), some (.int (Jl.nmSize c k0)), some (.int (Jl.nmAt c)), some (.str n), v1, v2, v3]) (fun R z => ?_) (by omega) ⟨rfl, _, none, none, none, by rw [List.take_zero]; rfl, rfl⟩ (fun i σ' H2 hi h => ?_) (fun σ' H2 h => ?_))
    · walk_at "w"
      exact z
    · obtain ⟨e, n, v1, v2, v3, hn, rfl⟩ := h
      subst e
      simp only [List.set_cons_zero, List.set_cons_succ]
      have hnl : n.length ≤ 16 := by
        rw [← Jl.len_list, hn, List.length_take]; omega
      walk_at "w"
      have e : (c / ((i : Int) + 3) + (i : Int) * (i : Int) + k0 * (if decide ((i : Int) = Jl.nmAt c) = true then 1 else 0)) % (37 - 11 * (if decide ((i : Int) = 0) = true then 1 else 0)) = Jl.nmIx c k0 (Jl.nmAt c) i := by
        unfold Jl.nmIx
        simp only [decide_eq_true_eq]
      rw [e]
      have hx := Jl.nmIx_ok c k0 (Jl.nmAt c) i
      generalize hix : Jl.nmIx c k0 (Jl.nmAt c) i = ix at *
      have hil : ix.toNat < Jl.sgns.cps.toList.length := by rw [Jl.sgns_len]; omega
      subst hz
      refine Jl.s_ixS (c := Jl.sgns.cps.toList.getD ix.toNat 0) ?_ ?_ (by decide +kernel)
      · unfold atI ixN
        rw [if_pos hx.1, if_pos (by rw [Jl.sgns_len]; omega)]
        show Jl.sgns.cps.toList[ix.toNat]? = _
        rw [List.getD_eq_getElem?_getD, List.getElem?_eq_getElem hil]; rfl
      walk_at "w"
      refine ⟨by trivial, _, _, _, _, ?_, rfl⟩
      rw [Jl.cps_app, hn, List.take_add_one]
      congr 1
      have hget : (Jl.nmL c k0)[i]? = some (Jl.sgns.cps.toList.getD ix.toNat 0) := by
        unfold Jl.nmL
        rw [List.getElem?_map, List.getElem?_range (by omega), ← hix]; rfl
      rw [hget]
      rfl
    · obtain ⟨e, n, v1, v2, v3, hn, rfl⟩ := h
      subst e
      walk_at "w"
      rw [← Jl.nmL_len, List.take_length] at hn
      have : n = Jl.nmT c k0 := Jl.str_ext (by rw [hn]; rfl)
      rw [this]
      exact k
/-! ### _law_word_row -/
def sp_law_word_row (K : PySem.W.Frag) : Sp := fun vs H Q _ => ∃ c nb : Int, vs = [.int c, .int nb] ∧ ((c % 9 = 2 ∧ ∀ H', Same H H' → Q .non H') ∨ (¬ c % 9 = 2 ∧ ∀ H' t r (nm : Str) add soft j, Same H H' → H t = none → H' t = some (.tup [.str r, .str nm, .int add, .bl soft]) → Jl.isRule5 r → (soft = true → r = "whole" ∨ r = "high" ∨ r = "low") → 0 ≤ j ∧ j < 12 → nm = Jl.nmT nb j → -2147483648 ≤ add ∧ add ≤ 2147483647 → Q (.ref t) H'))
theorem use_word_row {K : PySem.W.Frag} {c nb : Int} {H : Hp} {Q : VK} {E : XK} (z : ((c % 9 = 2 ∧ ∀ H', Same H H' → Q .non H') ∨ (¬ c % 9 = 2 ∧ ∀ H' t r (nm : Str) add soft j, Same H H' → H t = none → H' t = some (.tup [.str r, .str nm, .int add, .bl soft]) → Jl.isRule5 r → (soft = true → r = "whole" ∨ r = "high" ∨ r = "low") → 0 ≤ j ∧ j < 12 → nm = Jl.nmT nb j → -2147483648 ≤ add ∧ add ≤ 2147483647 → Q (.ref t) H'))) : sp_law_word_row K [.int c, .int nb] H Q E := ⟨c, nb, rfl, z⟩
theorem ok_law_word_row (T : Txt K mg) : FnOk P w K mg base CX0 2 T.a_law_word_row T.d_law_word_row ["_law_cell", "_law_names_by"] (sp_law_word_row K) := by
  have G_law_name_by := ok_law_name_by (P := P) (w := w) (base := base) T
  refine T.F_law_word_row.ok sc_law_word_row (fun vs H Q E h => ?_) (fun cdv A outer s H vs Q E hr h => ?_)
  · obtain ⟨c, nb, rfl, k⟩ := h
    rfl
  · obtain ⟨c, nb, rfl, k⟩ := h
    have hu := hu_of hr
    refine ⟨_, (pss_cons (ps_set (i := 2) sc_law_word_row.nd rfl (Or.inl rfl) (pe_op op_mod (pv 0) pe_int))
      (pss_cons (ps_set (i := 3) sc_law_word_row.nd rfl (Or.inl rfl) (pe_op op_fdiv (pv 0) pe_int))
      (pss_cons (ps_set (i := 4) sc_law_word_row.nd rfl (Or.inl rfl) (pe_and (pe_cmpR op_eq (pe_op op_mod (pe_op op_fdiv (pv 3) pe_int) pe_int) pe_int (nomark _)) (pe_one (pe_cmpR op_lt (pe_op op_mod (pv 3) pe_int) pe_int (nomark _)))))
      (pss_cons (ps_set (i := 5) sc_law_word_row.nd rfl (Or.inl rfl) (pe_op op_sub (pe_op op_mod (pe_op op_fdiv (pv 3) pe_int) pe_int) pe_int))
      (pss_cons (ps_if (pt_cmpR op_eq (pe_op op_mod (pe_op op_fdiv (pv 3) pe_int) pe_int) pe_int (nomark _)) (pss_one (ps_set (i := 5) sc_law_word_row.nd rfl (Or.inl rfl) (pe_op op_sub (pe_op op_mod (pe_op op_mul (pe_op op_fdiv (pv 3) pe_int) pe_int) pe_int) pe_int))) pss_nil)
      (pss_cons (ps_set (i := 6) sc_law_word_row.nd rfl (Or.inl rfl) (pe_ix (r := rIxL K) ix_list (pe_lst (pa_cons pe_str (pa_cons pe_str (pa_cons pe_str (pa_cons pe_str (pa_cons pe_str pa_nil)))))) (pe_op op_mod (pv 3) pe_int) (fun _ _ => rfl)))
      (pss_cons (ps_if (pt_cmpR op_eq (pv 2) pe_int (nomark _)) (pss_one (ps_ret pe_non)) pss_nil)
      (pss_one (ps_ret (pe_tup (pa_cons (pv 6) (pa_cons (pe_call (G_law_name_by) (hr.mono (by decide)) rfl T.m_law_name_by T.F_law_name_by.kp T.b_law_name_by .nil pass0 (pa_cons (pv 1) (pa_cons (pe_op op_mod (pe_op op_fdiv (pv 3) pe_int) pe_int) pa_nil))) (pa_cons (pv 5) (pa_cons (pv 4) pa_nil)))))))))))))), ?_⟩
    show (_ : TS) _ [some (.int c), some (.int nb), none, none, none, none, none] H
    walk_at "w"
    have hrest : ∃ rest, rest = c / 9 := ⟨_, rfl⟩
    generalize c / 9 = rest at *
    have five : ∀ (H1 : Hp) (p : Addr), ∃ r, atI [V.str "whole", V.str "high", V.str "low", V.str "near", V.str "split"] (rest % 5) = some (.str r) ∧ Jl.isRule5 r ∧ (rest % 5 < 3 → r = "whole" ∨ r = "high" ∨ r = "low") := fun _ _ => by
      have h : rest % 5 = 0 ∨ rest % 5 = 1 ∨ rest % 5 = 2 ∨ rest % 5 = 3 ∨ rest % 5 = 4 := by omega
      rcases h with h | h | h | h | h
      · rw [h]; exact ⟨_, rfl, .inl rfl, fun _ => .inl rfl⟩
      · rw [h]; exact ⟨_, rfl, .inr (.inl rfl), fun _ => .inr (.inl rfl)⟩
      · rw [h]; exact ⟨_, rfl, .inr (.inr (.inl rfl)), fun _ => .inr (.inr rfl)⟩
      · rw [h]; exact ⟨_, rfl, .inr (.inr (.inr (.inl rfl))), fun z => by omega⟩
      · rw [h]; exact ⟨_, rfl, .inr (.inr (.inr (.inr rfl))), fun z => by omega⟩
    refine Jl.s_andJ (q := rest % 5 < 3) (fun _ R z => ?_) ?_
    · walk_at "w"; exact z
    have hsoft : decide (rest / 60 % 3 = 0 ∧ rest % 5 < 3) = true → rest % 5 < 3 := fun h => (of_decide_eq_true h).2
    generalize decide (rest / 60 % 3 = 0 ∧ rest % 5 < 3) = soft at *
    walk_at "w"
    refine Jl.s_iteAsgI (rest / 180 % 9 - 4) (rest / 180 * 48271 % 4294967296 - 2147483648) (fun _ R z => ?_) rfl ?_
    · walk_at "w"; exact z
    simp only [List.set_cons_zero, List.set_cons_succ]
    have hadd : -2147483648 ≤ (if rest / 180 % 4 = 3 then rest / 180 * 48271 % 4294967296 - 2147483648 else rest / 180 % 9 - 4) ∧ (if rest / 180 % 4 = 3 then rest / 180 * 48271 % 4294967296 - 2147483648 else rest / 180 % 9 - 4) ≤ 2147483647 := by split <;> omega
    generalize (if rest / 180 % 4 = 3 then rest / 180 * 48271 % 4294967296 - 2147483648 else rest / 180 % 9 - 4) = add at *
    walk_at "w"
    refine ⟨(by show 5 ≤ sizeLine; decide), fun p np => ?_⟩
    walk_at "w"
    obtain ⟨r, hr1, hr2, hr3⟩ := five H p
    refine Jl.s_ixL Jl.sqU hr1 ?_
    have s1 := Jl.same_upd (o := .lst [.str "whole", .str "high", .str "low", .str "near", .str "split"]) np
    walk_at "w"
    refine Jl.s_iteD (fun g => ?_) (fun g => ?_)
    · walk_at "w"
      rcases k with ⟨_, k⟩ | ⟨g2, _⟩
      · exact k _ s1
      · exact absurd g g2
    · walk_at "w"
      refine ⟨(by show 4 ≤ sizeLine; decide), fun t nt => ?_⟩
      rcases k with ⟨g2, _⟩ | ⟨_, k⟩
      · exact absurd g2 g
      · exact k _ t r _ add soft (rest / 5 % 12) (s1.trans (Jl.same_upd nt)) (s1.free nt) upd_same hr2 (fun h => hr3 (hsoft h)) ⟨by omega, by omega⟩ rfl hadd
/-! ### _law_told_by -/
def sp_law_told_by (K : PySem.W.Frag) : Sp := fun vs H Q _ => ∃ (B F : Hp) (P : Addr) (ps0 : List Jl.Piece) (nm : Str) (ss0 : List Jl.Stre) (s : Jl.Stre) (ns : List Jl.Nam) (c nb : Int) (strict : Bool), vs = [.ref P, .int c, .int nb, .bl strict] ∧ Jl.BP K B F H P [] (ps0 ++ [⟨nm, ss0 ++ [s], ns⟩]) ∧ (∀ q ∈ ps0, q.ok) ∧ ns.length ≤ 1000 ∧ ss0.length ≤ 1000 ∧ (∀ q ∈ ps0, q.names.length ≤ 1000) ∧ ∀ H', (Same H H' → Jl.nmT nb (c / 9 % 12) ∈ ns.map (·.name) → Q .non H') ∧ (∀ (F' : Hp) (sort : Str), Same F F' → Jl.BP K B F' H' P [] (ps0 ++ [⟨nm, ss0 ++ [s], ns ++ [⟨Jl.nmT nb (c / 9 % 12), sort, (ss0.length : Int), (s.words.length : Int)⟩]⟩]) → Jl.nmT nb (c / 9 % 12) ∉ ns.map (·.name) → (sort = "tell" ∨ sort = "weak" ∨ sort = "own") → (strict = false → sort = "tell" → ∀ q ∈ ps0, ∀ m ∈ q.names, m.name = Jl.nmT nb (c / 9 % 12) → ¬ m.sort = "tell") → Q .non H')
theorem use_told_by {K : PySem.W.Frag} {B F : Hp} {P : Addr} {ps0 : List Jl.Piece} {nm : Str} {ss0 : List Jl.Stre} {s : Jl.Stre} {ns : List Jl.Nam} {c nb : Int} {strict : Bool} {H : Hp} {Q : VK} {E : XK} (b : Jl.BP K B F H P [] (ps0 ++ [⟨nm, ss0 ++ [s], ns⟩])) (ok : ∀ q ∈ ps0, q.ok) (h1 : ns.length ≤ 1000) (h2 : ss0.length ≤ 1000) (h3 : ∀ q ∈ ps0, q.names.length ≤ 1000) (z : ∀ H', (Same H H' → Jl.nmT nb (c / 9 % 12) ∈ ns.map (·.name) → Q .non H') ∧ (∀ (F' : Hp) (sort : Str), Same F F' → Jl.BP K B F' H' P [] (ps0 ++ [⟨nm, ss0 ++ [s], ns ++ [⟨Jl.nmT nb (c / 9 % 12), sort, (ss0.length : Int), (s.words.length : Int)⟩]⟩]) → Jl.nmT nb (c / 9 % 12) ∉ ns.map (·.name) → (sort = "tell" ∨ sort = "weak" ∨ sort = "own") → (strict = false → sort = "tell" → ∀ q ∈ ps0, ∀ m ∈ q.names, m.name = Jl.nmT nb (c / 9 % 12) → ¬ m.sort = "tell") → Q .non H')) : sp_law_told_by K [.ref P, .int c, .int nb, .bl strict] H Q E := ⟨B, F, P, ps0, nm, ss0, s, ns, c, nb, strict, rfl, b, ok, h1, h2, h3, z⟩
theorem ok_law_told_by (T : Txt K mg) : FnOk P w K mg base CX0 2 T.a_law_told_by T.d_law_told_by ["_law_pieces", "_law_cell", "_law_names_by", "_law_strict"] (sp_law_told_by K) := by
  have G_law_name_by := ok_law_name_by (P := P) (w := w) (base := base) T
  refine T.F_law_told_by.ok sc_law_told_by (fun vs H Q E h => ?_) (fun cdv A outer s H vs Q E hr h => ?_)
  · obtain ⟨B, F, P, ps0, nm, ss0, s, ns, c, nb, strict, rfl, b, ok, h1, h2, h3, k⟩ := h
    rfl
  · obtain ⟨B, F, P, ps0, nm, ss0, s, ns, c, nb, strict, rfl, b, ok, h1, h2, h3, k⟩ := h
    have hu := hu_of hr
    refine ⟨_, (pss_cons (ps_set (i := 4) sc_law_told_by.nd rfl (Or.inl rfl) (pe_ix (r := rIxL K) ix_list (pv 0) (pe_un un_neg pe_int) (fun _ _ => rfl)))
      (pss_cons (ps_set (i := 5) sc_law_told_by.nd rfl (Or.inl rfl) (pe_call (G_law_name_by) (hr.mono (by decide)) rfl T.m_law_name_by T.F_law_name_by.kp T.b_law_name_by .nil pass0 (pa_cons (pv 2) (pa_cons (pe_op op_mod (pe_op op_fdiv (pv 1) pe_int) pe_int) pa_nil))))
      (pss_cons (ps_if (pt_cmpR op_in_seq (pv 5) (pe_lc (own := [("_law_row", 8)]) (g := gName 8) (tt := tYes) rfl sc_law_told_by.nd (pi_list (pe_ix (r := rIxT K) ix_tup (pv 4) pe_int (fun _ _ => rfl))) (blkOk_by (own := [("_law_row", 8)]) (N := N_law_told_by) (sc := defScope s_law_told_by) (by decide +kernel)) (fun _ _ _ _ _ => pg_name (i := 8) sc_law_told_by.nd rfl (Or.inl rfl)) (fun _ _ _ _ _ => pts_nil) (fun _ _ _ _ _ => (pe_ix (r := rIxT K) ix_tup (pv 8) pe_int (fun _ _ => rfl)))) rfl) (pss_one ps_retN) pss_nil)
      (pss_cons (ps_set (i := 6) sc_law_told_by.nd rfl (Or.inl rfl) (pe_ix (r := rIxL K) ix_list (pe_lst (pa_cons pe_str (pa_cons pe_str (pa_cons pe_str pa_nil)))) (pe_op op_mod (pv 1) pe_int) (fun _ _ => rfl)))
      (pss_cons (ps_for PassesOwn.never rfl (pi_list (pe_slice (r := rSlL K) sl_list (pv 0) po_none (po_some (pe_un un_neg pe_int)))) (pg_name (i := 7) sc_law_told_by.nd rfl (Or.inl rfl)) (pss_one (Jl.ps_ifK (PW.pt (pw_and (pt_cmpR op_eq (pv 6) pe_str (nomark _)) (pw_and (pt_not (pt_val (pv 3))) (pw_and1 (pt_cmpR (op_inD (Jl.units65 hr)) (pe_tup (pa_cons (pv 5) (pa_cons pe_str pa_nil))) (pe_lc (own := [("_law_row", 8)]) (g := gName 8) (tt := tYes) rfl sc_law_told_by.nd (pi_list (pe_ix (r := rIxT K) ix_tup (pv 7) pe_int (fun _ _ => rfl))) (blkOk_by (own := [("_law_row", 8)]) (N := N_law_told_by) (sc := defScope s_law_told_by) (by decide +kernel)) (fun _ _ _ _ _ => pg_name (i := 8) sc_law_told_by.nd rfl (Or.inl rfl)) (fun _ _ _ _ _ => pts_nil) (fun _ _ _ _ _ => (pe_slice (r := rSlT K) sl_tup (pv 8) po_none (po_some pe_int)))) rfl))))) (pss_one (ps_set (i := 6) sc_law_told_by.nd rfl (Or.inl rfl) pe_str)) pss_nil)))
      (pss_one (ps_expr (pe_bm PySem.F.plainAttrs_list PySem.F.slot_list_append PySem.F.type_list_append mt_append (pe_ix (r := rIxT K) ix_tup (pv 4) pe_int (fun _ _ => rfl)) (pa_cons (pe_tup (pa_cons (pv 5) (pa_cons (pv 6) (pa_cons (pe_op op_sub (pe_callB (r := Jl.rLenL K) Jl.cl_lenL (by rfl) T.n_len (by decide +kernel) (pa_cons (pe_ix (r := rIxT K) ix_tup (pv 4) pe_int (fun _ _ => rfl)) pa_nil)) pe_int) (pa_cons (pe_callB (r := Jl.rLenL K) Jl.cl_lenL (by rfl) T.n_len (by decide +kernel) (pa_cons (pe_ix (r := rIxT K) ix_tup (pe_ix (r := rIxL K) ix_list (pe_ix (r := rIxT K) ix_tup (pv 4) pe_int (fun _ _ => rfl)) (pe_un un_neg pe_int) (fun _ _ => rfl)) pe_int (fun _ _ => rfl)) pa_nil)) pa_nil))))) pa_nil))))))))), ?_⟩
    show (_ : TS) _ [some (.ref P), some (.int c), some (.int nb), some (.bl strict), none, none, none, none, none] H
    obtain ⟨skind, sstep, sws, sfs⟩ := s
    obtain ⟨xs, t, S, N, nv, hP, hxs, hFt, hN, hnv, l⟩ := b.open_
    obtain ⟨sv, u, W, G, gv, g1, g2, g3, g4, g5, g6, cc⟩ := l.open_
    have bx := b.ext
    have ht := bx _ _ hFt
    have hu2 := bx _ _ g3
    have hnl := Jl.da_length hnv
    walk_at "w"
    refine Jl.s_ixL (.inl (.inl hP)) (atI_last _ _) ?_
    walk_at "w"
    have hnmok := Jl.nmT_ok nb (c / 9 % 12)
    generalize hname : Jl.nmT nb (c / 9 % 12) = name at *
    refine Jl.s_lcA (xs := nv) (fun i => (ns[i]?).bind fun n => some (PyData.str n.name)) (by omega) (fun R z => ?_) (fun i y D F1 H1 Rs Rn hi c1 hRs hRn => ?_) (fun pd H1 us s1 npd hpd hda => ?_)
    · walk_at "w"
      refine Jl.tup_at (i := 2) ht rfl ?_
      exact z _ _ (Same.refl _) (.inl (.inl hN))
    · obtain ⟨q, hq, hy⟩ := Jl.da_item (Jl.dps_same (bx.trans c1.same) hnv) hi
      obtain ⟨tq, rfl, htq⟩ := Jl.dp_nam hy
      show gName _ _ [_, _, _, _, _, _, _, _, _] H1 _
      walk_at "w"
      refine ⟨rfl, ?_⟩
      walk_at "w"
      refine Jl.s_ixT htq (i := 0) rfl ?_
      exact hRs _ F1 _ _ (Same.refl _) c1 (Same.refl _) (by rw [hq]; rfl) (.str _)
    rw [hnl, Jl.range_items, Jl.filterMap_some] at hda
    have hda : DpAll K H1 us ((ns.map (·.name)).map PyData.str) := by rw [List.map_map]; exact hda
    have eus := Jl.da_strs hda
    subst eus
    refine Jl.s_inStrs (.inl (.inl hpd)) ?_
    walk_at "w"
    refine Jl.s_iteD (fun gin => ?_) (fun gout => ?_)
    · walk_at "w"
      exact (k _).1 s1 gin
    walk_at "w"
    have b1 := b.same s1
    refine ⟨(by show 3 ≤ sizeLine; decide), fun p3 np3 => ?_⟩
    walk_at "w"
    obtain ⟨so, hso, hsok⟩ : ∃ so : Str, atI [V.str "tell", V.str "weak", V.str "own"] (c % 3) = some (.str so) ∧ (so = "tell" ∨ so = "weak" ∨ so = "own") := by
      have hc : c % 3 = 0 ∨ c % 3 = 1 ∨ c % 3 = 2 := by omega
      rcases hc with hc | hc | hc
      · rw [hc]; exact ⟨_, rfl, .inl rfl⟩
      · rw [hc]; exact ⟨_, rfl, .inr (.inl rfl)⟩
      · rw [hc]; exact ⟨_, rfl, .inr (.inr rfl)⟩
    refine Jl.s_ixL Jl.sqU hso ?_
    have s2 := s1.trans (Jl.same_upd (o := .lst [.str "tell", .str "weak", .str "own"]) np3)
    generalize upd H1 p3 (.lst [.str "tell", .str "weak", .str "own"]) = H2 at *
    walk_at "w"
    have hP2 := s2 _ _ hP
    refine Jl.s_seq (Jl.s_forN2 (xs := xs) (fun i σ' H' => Same H2 H' ∧ ∃ (so : Str) (v : Option V), (so = "tell" ∨ so = "weak" ∨ so = "own") ∧ (strict = false → so = "tell" → ∀ q ∈ ps0.take i, ∀ m ∈ q.names, m.name = name → ¬ m.sort = "tell") ∧ σ' = [some (.ref P), some (.int c), some (.int nb), some (.bl strict), some (.ref t), some (.str name), some (.str so), v, none]) (fun R z => ?_) (fun H3 s3 => ⟨s3, so, none, hsok, fun _ _ q hq => (by rw [List.take_zero] at hq; cases hq), rfl⟩) (fun i x σ' H3 hx h => ?_) (fun σ' H3 h => ?_))
    · walk_at "w"
      refine ⟨P, _, rfl, .inl (.inl hP2), fun p4 np4 => ?_⟩
      have ecut : cutV (xs ++ [V.ref t]) none (some (-1)) = xs := by
        unfold cutV
        rw [HT.sIx_none]
        have e : HT.sIx (xs ++ [V.ref t]).length (xs ++ [V.ref t]).length (some (-1)) = xs.length := by
          show ((-1 : Int) + ((xs ++ [V.ref t]).length : Int)).toNat = xs.length
          rw [List.length_append, List.length_singleton]; omega
        rw [e, List.drop_zero, Nat.sub_zero, List.take_left]
      rw [ecut]
      exact z p4 _ (Jl.same_upd np4) np4 upd_same
    · obtain ⟨s3, so, v, hsok, hsp, rfl⟩ := h
      simp only [List.set_cons_zero, List.set_cons_succ]
      have s23 := s2.trans s3
      obtain ⟨q, hq, hyq⟩ := Jl.da_item (Jl.dps_same (bx.trans s23) hxs) hx
      obtain ⟨tq, Sq, Nq, sq, nq, rfl, htq, -, -, hNq, hnq⟩ := Jl.dp_piece hyq
      have hqm := List.mem_of_getElem? hq
      have hnql := Jl.da_length hnq
      have hq3 := h3 q hqm
      have hqok := ok q hqm
      have e3 : ps0.take (i + 1) = ps0.take i ++ [q] := by rw [List.take_add_one, hq]; rfl
      refine Jl.s_ifKh (P := so = "tell" ∧ strict = false ∧ ∃ m ∈ q.names, m.name = name ∧ m.sort = "tell") (fun σ' H' => Same H3 H' ∧ ∃ so' : Str, (so' = "tell" ∨ so' = "weak" ∨ so' = "own") ∧ (strict = false → so' = "tell" → ∀ q ∈ ps0.take (i + 1), ∀ m ∈ q.names, m.name = name → ¬ m.sort = "tell") ∧ σ' = [some (.ref P), some (.int c), some (.int nb), some (.bl strict), some (.ref t), some (.str name), some (.str so'), some (.ref tq), none]) (fun TT t1 t2 => ?_) (fun hp H4 N s4 hN => ?_) (fun hp H4 N s4 hN => ?_) (fun σ' H4 hM => ?_)
      · walk_at "w"
        refine Jl.s_iteD (fun q1 => ?_) (fun q1 => ?_)
        rotate_left
        · exact t2 _ (Same.refl _) fun z => q1 z.1
        walk_at "w"
        cases strict with
        | true =>
          walk_at "w"
          exact t2 _ (Same.refl _) fun z => by cases z.2.1
        | false =>
          walk_at "w"
          refine ⟨(by show 2 ≤ sizeLine; decide), fun p5 np5 => ?_⟩
          have s5 := Jl.same_upd (o := .tup [.str name, .str "tell"]) np5
          have hp5 : (upd H3 p5 (.tup [.str name, .str "tell"])) p5 = some (.tup [.str name, .str "tell"]) := upd_same
          generalize upd H3 p5 (.tup [.str name, .str "tell"]) = H5 at *
          walk_at "w"
          refine Jl.s_lcA (xs := nq) (fun i => (q.names[i]?).bind fun n => some (PyData.tuple [.str n.name, .str n.sort])) (by omega) (fun R z => ?_) (fun i y D F1 H6 Rs Rn hi c1 hRs hRn => ?_) (fun pd H6 us s6 npd hpd hda => ?_)
          · walk_at "w"
            refine Jl.s_ixT (Jl.sameT s5 htq) (i := 2) rfl ?_
            exact z _ _ (Same.refl _) (s5.seq hNq)
          · obtain ⟨m, hm, hy⟩ := Jl.da_item (Jl.dps_same (s5.trans c1.same) hnq) hi
            obtain ⟨tm, rfl, htm⟩ := Jl.dp_nam hy
            show gName _ _ [_, _, _, _, _, _, _, _, _] H6 _
            walk_at "w"
            refine ⟨rfl, ?_⟩
            walk_at "w"
            refine ⟨tm, _, rfl, htm, (fun h => absurd (show (2 : Nat) = 4 from h.2) (by decide)), fun p7 np7 => ?_⟩
            have ecut : cutV [.str m.name, .str m.sort, .int m.stre, .int m.off] none (some 2) = [.str m.name, .str m.sort] := rfl
            rw [ecut]
            refine hRs _ _ _ (PyData.tuple [.str m.name, .str m.sort]) (Jl.same_upd (c1.ext.free np7)) (c1.new np7) (Jl.same_upd np7) (by rw [hm]; rfl) ?_
            exact .tup (.inl (.inl upd_same)) (.cons (.str _) (.cons (.str _) .nil))
          · rw [hnql, Jl.range_items, Jl.filterMap_some] at hda
            refine ⟨.tuple [.str name, .str "tell"], _, .tup (.inl (.inl (s6 _ _ hp5))) (.cons (.str _) (.cons (.str _) .nil)), .lst (.inl (.inl hpd)) hda, ?_, ?_, ?_⟩
            · refine Jl.shaped_of ?_ ?_
              · show ((PyData.str name).canLay0 && ((PyData.str "tell").canLay0 && true)) = true
                rw [hnmok]; decide +kernel
              · show max 0 (max 0 0) + 1 ≤ 64
                omega
            · refine Jl.shaped_of (Jl.lay_map (n := 1) fun m hm => ⟨?_, ?_⟩).1 (Nat.le_trans (Jl.lay_map (n := 1) fun m hm => ⟨?_, ?_⟩).2 (by decide))
              · have := hqok.2.2 m hm
                show ((PyData.str m.name).canLay0 && ((PyData.str m.sort).canLay0 && true)) = true
                rw [this.1, this.2]; rfl
              · show max 0 (max 0 0) + 1 ≤ 1
                omega
              · have := hqok.2.2 m hm
                show ((PyData.str m.name).canLay0 && ((PyData.str m.sort).canLay0 && true)) = true
                rw [this.1, this.2]; rfl
              · show max 0 (max 0 0) + 1 ≤ 1
                omega
            · have s56 := s5.trans s6
              have eany : (q.names.map fun n => PyData.tuple [.str n.name, .str n.sort]).any (fun z => PyData.eqv z (.tuple [.str name, .str "tell"])) = decide (∃ m ∈ q.names, m.name = name ∧ m.sort = "tell") := by
                rw [List.any_map, Bool.eq_iff_iff, List.any_eq_true, decide_eq_true_iff]
                constructor
                · rintro ⟨m, hm, e⟩
                  have e : ((m.name == name) && ((m.sort == "tell") && true)) = true := e
                  rw [Bool.and_true, Bool.and_eq_true, beq_iff_eq, beq_iff_eq] at e
                  exact ⟨m, hm, e⟩
                · rintro ⟨m, hm, e⟩
                  refine ⟨m, hm, ?_⟩
                  show ((m.name == name) && ((m.sort == "tell") && true)) = true
                  rw [Bool.and_true, Bool.and_eq_true, beq_iff_eq, beq_iff_eq]
                  exact e
              rw [eany]
              refine ⟨_, rfl, ?_⟩
              by_cases gx : ∃ m ∈ q.names, m.name = name ∧ m.sort = "tell"
              · rw [decide_eq_true gx]; exact t1 _ s56 ⟨q1, rfl, gx⟩
              · rw [decide_eq_false gx]; exact t2 _ s56 fun z => gx z.2.2
      · walk_at "w"
        exact hN _ _ ⟨s4, "weak", .inr (.inl rfl), fun _ z => absurd z (by decide +kernel), rfl⟩
      · walk_at "w"
        refine hN _ _ ⟨s4, so, hsok, fun z1 z2 q' hq' m hm e => ?_, rfl⟩
        rw [e3] at hq'
        rcases List.mem_append.mp hq' with hq' | hq'
        · exact hsp z1 z2 q' hq' m hm e
        · cases List.mem_singleton.mp hq'
          exact fun e2 => hp ⟨z2, z1, m, hm, e, e2⟩
      · obtain ⟨s4, so', ho1, ho2, rfl⟩ := hM
        exact ⟨s4, s3.trans s4, so', _, ho1, ho2, rfl⟩
    obtain ⟨s3, so, v, hsok, hsp, rfl⟩ := h
    have hxl := Jl.da_length hxs
    rw [hxl, List.take_length] at hsp
    have s23 := s2.trans s3
    have b3 := b.same s23
    have ht3 := s23 _ _ ht
    have hN3 := s23 _ _ hN
    have g13 := s23 _ _ g1
    have hu3 := s23 _ _ hu2
    have g43 := s23 _ _ g4
    have hsl := Jl.da_length g2
    walk_at "w"
    refine Jl.tup_at (i := 2) ht3 rfl ?_
    walk_at "w"
    refine Jl.tup_at (i := 1) ht3 rfl ?_
    walk_at "w"
    refine Jl.s_lenL (.inl (.inl g13)) ?_
    rw [List.length_append, List.length_singleton, hsl]
    walk_at "w"
    refine Jl.tup_at (i := 1) ht3 rfl ?_
    walk_at "w"
    refine Jl.s_ixL (.inl (.inl g13)) (atI_last _ _) ?_
    walk_at "w"
    refine Jl.tup_at (i := 2) hu3 rfl ?_
    walk_at "w"
    refine Jl.s_lenL (.inl (.inl g43)) ?_
    rw [List.length_map]
    walk_at "w"
    refine ⟨(by show 4 ≤ sizeLine; decide), fun pn npn => ?_⟩
    rw [show ((ss0.length + 1 : Nat) : Int) - 1 = (ss0.length : Int) by omega]
    obtain ⟨b4, f4⟩ := b3.new (o := .tup [.str name, .str so, .int (ss0.length : Int), .int (sws.length : Int)]) npn
    obtain ⟨xs', t', S', N', nv', hP4, ht4, hN4, hnl4, b5⟩ := b4.nam (n := ⟨name, so, ss0.length, sws.length⟩) upd_same
    have et : t' = t := by
      have h1 := Jl.same_upd (o := .tup [.str name, .str so, .int (ss0.length : Int), .int (sws.length : Int)]) npn _ _ (s23 _ _ hP)
      rw [hP4] at h1
      have h2 : xs' ++ [V.ref t'] = xs ++ [V.ref t] := by injection h1 with h1; injection h1
      obtain ⟨-, h3⟩ := List.append_inj' h2 rfl
      cases h3; rfl
    subst et
    have eN : N' = N := by
      have h1 := Jl.same_upd (o := .tup [.str name, .str so, .int (ss0.length : Int), .int (sws.length : Int)]) npn _ _ ht3
      rw [ht4] at h1
      cases h1; rfl
    subst eN
    refine Jl.s_nil ?_
    refine Jl.s_append hN4 ?_ (Jl.small5' (by omega))
    exact (k _).2 _ so f4 b5 gout hsok hsp
/-! ### _law_drawn -/
theorem len_sum : ∀ ss : List Jl.Stre, ss.length ≤ (ss.map Jl.wtS).sum
  | [] => Nat.le_refl _
  | s :: ss => by
    have := len_sum ss
    rw [List.map_cons, List.sum_cons, List.length_cons]
    have h : 1 ≤ Jl.wtS s := Nat.le_add_right _ _
    omega
def sp_law_drawn (K : PySem.W.Frag) : Sp := fun vs H Q _ => ∃ (a : Addr) (cs : List Int) (nb tb : Int) (strict : Bool), vs = [.ref a, .int nb, .int tb, .bl strict] ∧ SqL K H a (cs.map V.int) ∧ cs.length ≤ 1000 ∧ ∀ (H' F : Hp) (P : Addr) (xs : List V) (ps : List Jl.Piece), Jl.Act H F H' [P] → H' P = some (.lst xs) → DpAll K F xs (ps.map Jl.pieceD) → Jl.Drawn nb tb strict cs.length ps → Q (.ref P) H'
theorem use_drawn {K : PySem.W.Frag} {a : Addr} {cs : List Int} {nb tb : Int} {strict : Bool} {H : Hp} {Q : VK} {E : XK} (hS : SqL K H a (cs.map V.int)) (hcl : cs.length ≤ 1000) (z : ∀ (H' F : Hp) (P : Addr) (xs : List V) (ps : List Jl.Piece), Jl.Act H F H' [P] → H' P = some (.lst xs) → DpAll K F xs (ps.map Jl.pieceD) → Jl.Drawn nb tb strict cs.length ps → Q (.ref P) H') : sp_law_drawn K [.ref a, .int nb, .int tb, .bl strict] H Q E := ⟨a, cs, nb, tb, strict, rfl, hS, hcl, z⟩
theorem ok_law_drawn (T : Txt K mg) : FnOk P w K mg base CX0 3 T.a_law_drawn T.d_law_drawn ["_law_cells", "_law_names_by", "_law_titles_by", "_law_strict"] (sp_law_drawn K) := by
  have G_law_name_by := ok_law_name_by (P := P) (w := w) (base := base) T
  have G_law_word_row := ok_law_word_row (P := P) (w := w) (base := base) T
  have G_law_told_by := ok_law_told_by (P := P) (w := w) (base := base) T
  refine T.F_law_drawn.ok sc_law_drawn (fun vs H Q E h => ?_) (fun cdv A outer s H vs Q E hr h => ?_)
  · obtain ⟨a, cs, nb, tb, strict, rfl, hS, hcl, k⟩ := h
    rfl
  · obtain ⟨a, cs, nb, tb, strict, rfl, hS, hcl, k⟩ := h
    have hu := hu_of hr
    refine ⟨_, (pss_cons (ps_set (i := 4) sc_law_drawn.nd rfl (Or.inl rfl) (pe_lst pa_nil))
      (pss_cons (ps_for PassesOwn.never rfl (pi_list (pv 0)) (pg_name (i := 5) sc_law_drawn.nd rfl (Or.inl rfl)) (pss_cons (ps_set (i := 6) sc_law_drawn.nd rfl (Or.inl rfl) (pe_op op_mod (pv 5) pe_int))
      (pss_one (Jl.ps_ifK (PW.pt (pw_or (PW.pt (pw_and (pt_cmpR op_eq (pv 6) pe_int (nomark _)) (pw_and1 (pt_cmpR op_lt (pe_callB (r := Jl.rLenL K) Jl.cl_lenL (by rfl) T.n_len (by decide +kernel) (pa_cons (pv 4) pa_nil)) pe_int (nomark _))))) (pw_or1 (pt_cmpR (op_eqD hr.units) (pv 4) (pe_lst pa_nil) (nomark _))))) (pss_one (ps_expr (pe_bm PySem.F.plainAttrs_list PySem.F.slot_list_append PySem.F.type_list_append mt_append (pv 4) (pa_cons (pe_tup (pa_cons (pe_call (G_law_name_by) (hr.mono (by decide)) rfl T.m_law_name_by T.F_law_name_by.kp T.b_law_name_by .nil pass0 (pa_cons (pv 2) (pa_cons (pe_callB (r := Jl.rLenL K) Jl.cl_lenL (by rfl) T.n_len (by decide +kernel) (pa_cons (pv 4) pa_nil)) pa_nil))) (pa_cons (pe_lst pa_nil) (pa_cons (pe_lst pa_nil) pa_nil)))) pa_nil)))) (pss_one (Jl.ps_ifK (PW.pt (pw_or (pt_cmpR op_lt (pv 6) pe_int (nomark _)) (pw_or1 (pt_cmpR (op_eqD hr.units) (pe_ix (r := rIxT K) ix_tup (pe_ix (r := rIxL K) ix_list (pv 4) (pe_un un_neg pe_int) (fun _ _ => rfl)) pe_int (fun _ _ => rfl)) (pe_lst pa_nil) (nomark _))))) (pss_cons (ps_set (i := 7) sc_law_drawn.nd rfl (Or.inl rfl) (pe_ix (r := rIxL K) ix_list (pe_lst (pa_cons pe_int (pa_cons pe_int (pa_cons pe_int (pa_cons pe_int (pa_cons pe_int (pa_cons pe_int pa_nil))))))) (pe_op op_mod (pe_op op_fdiv (pv 5) pe_int) pe_int) (fun _ _ => rfl)))
      (pss_one (ps_expr (pe_bm PySem.F.plainAttrs_list PySem.F.slot_list_append PySem.F.type_list_append mt_append (pe_ix (r := rIxT K) ix_tup (pe_ix (r := rIxL K) ix_list (pv 4) (pe_un un_neg pe_int) (fun _ _ => rfl)) pe_int (fun _ _ => rfl)) (pa_cons (pe_tup (pa_cons (pe_ix (r := rIxL K) ix_list (pe_lst (pa_cons pe_str (pa_cons pe_str pa_nil))) (pe_op op_mod (pe_op op_fdiv (pv 5) pe_int) pe_int) (fun _ _ => rfl)) (pa_cons (pv 7) (pa_cons (pe_lst pa_nil) (pa_cons (pe_lst pa_nil) pa_nil))))) pa_nil))))) (pss_one (ps_if (pt_cmpR op_lt (pv 6) pe_int (nomark _)) (pss_cons (ps_set (i := 8) sc_law_drawn.nd rfl (Or.inl rfl) (pe_ix (r := rIxL K) ix_list (pe_ix (r := rIxT K) ix_tup (pe_ix (r := rIxL K) ix_list (pv 4) (pe_un un_neg pe_int) (fun _ _ => rfl)) pe_int (fun _ _ => rfl)) (pe_un un_neg pe_int) (fun _ _ => rfl)))
      (pss_cons (ps_set (i := 9) sc_law_drawn.nd rfl (Or.inl rfl) (pe_call (G_law_word_row) (hr.mono (by decide)) rfl T.m_law_word_row T.F_law_word_row.kp T.b_law_word_row .nil pass0 (pa_cons (pv 5) (pa_cons (pv 1) pa_nil))))
      (pss_cons (ps_if (pt_cmpR Jl.op_notN1 (pv 9) pe_non (nomark _)) (pss_one (ps_expr (pe_bm PySem.F.plainAttrs_list PySem.F.slot_list_append PySem.F.type_list_append mt_append (pe_ix (r := rIxT K) ix_tup (pv 8) pe_int (fun _ _ => rfl)) (pa_cons (pe_op op_catT (pe_tup (pa_cons (pe_callB (r := Jl.rLenL K) Jl.cl_lenL (by rfl) T.n_len (by decide +kernel) (pa_cons (pe_ix (r := rIxT K) ix_tup (pv 8) pe_int (fun _ _ => rfl)) pa_nil)) pa_nil)) (pv 9)) pa_nil)))) pss_nil)
      (pss_one (ps_expr (pe_bm PySem.F.plainAttrs_list PySem.F.slot_list_append PySem.F.type_list_append mt_append (pe_ix (r := rIxT K) ix_tup (pv 8) pe_int (fun _ _ => rfl)) (pa_cons (pe_op op_mod (pe_op op_mul (pv 5) pe_int) pe_int) pa_nil))))))) (pss_one (ps_expr (pe_call (G_law_told_by) (hr.mono (by decide)) rfl T.m_law_told_by T.F_law_told_by.kp T.b_law_told_by .nil pass0 (pa_cons (pv 4) (pa_cons (pv 5) (pa_cons (pv 1) (pa_cons (pv 3) pa_nil)))))))))))))))
      (pss_one (ps_ret (pv 4))))), ?_⟩
    show (_ : TS) _ [some (.ref a), some (.int nb), some (.int tb), some (.bl strict), none, none, none, none, none, none] H
    walk_at "w"
    refine ⟨by decide, fun P nP => ?_⟩
    have c1 := (Jl.Act.start H).newA (o := .lst []) nP
    have b0 : Jl.BP K H H (upd H P (.lst [])) P [] [] := .inl ⟨rfl, upd_same, c1⟩
    generalize upd H P (.lst []) = H1 at *
    walk_at "w"
    refine Jl.s_seq (Jl.s_forL (xs := cs.map V.int) (fun i σ' H' => ∃ F ps, Jl.BP K H F H' P [] ps ∧ Jl.Drawn nb tb strict i ps ∧ ∃ v1 v2 v3 v4 v5, σ' = [some (.ref a), some (.int nb), some (.int tb), some (.bl strict), some (.ref P), v1, v2, v3, v4, v5]) H1 (fun R z => ?_) (b0.base.trans b0.ext |>.seq hS) ⟨H, [], b0, Jl.Drawn.nil, none, none, none, none, none, rfl⟩ (fun i σ' H' _ h => ?_) (fun i x σ' H2 hx h => ?_) (fun σ' H2 h => ?_))
    · walk_at "w"
      exact z
    · obtain ⟨F, ps, b, _⟩ := h
      exact (b.base.trans b.ext).seq hS
    rotate_left
    · obtain ⟨F, ps, b, D, v1, v2, v3, v4, v5, rfl⟩ := h
      rw [List.length_map] at D
      obtain ⟨F', xs, f1, c, hP, hxs⟩ := b.close
      walk_at "w"
      exact k _ F' P xs ps c hP hxs D
    obtain ⟨F, ps, b, D, v1, v2, v3, v4, v5, rfl⟩ := h
    obtain ⟨c, _, rfl⟩ := Jl.ints_get hx
    have hi : i < cs.length := by
      have := (List.getElem?_eq_some_iff.mp hx).1
      rw [List.length_map] at this; exact this
    simp only [List.set_cons_zero, List.set_cons_succ]
    have hsh := Jl.pieces_shaped D.ok
    walk_at "w"
    obtain ⟨vs, hP, hvl⟩ := b.listP
    refine Jl.s_ifKh (P := (c % 9 = 0 ∧ ps.length < 12) ∨ ps = []) (fun σ' H' => ∃ F ps, Jl.BP K H F H' P [] ps ∧ Jl.Drawn nb tb strict (i + 1) ps ∧ ∃ v1 v2 v3 v4 v5, σ' = [some (.ref a), some (.int nb), some (.int tb), some (.bl strict), some (.ref P), v1, v2, v3, v4, v5]) (fun T t1 t2 => ?_) (fun hp H3 N s3 hN => ?_) (fun hp H3 N s3 hN => ?_) (fun σ' H' h => h)
    · have nil_ : ∀ TT : Bool → Hp → Prop, (∀ H', Same H2 H' → ps = [] → TT true H') → (∀ H', Same H2 H' → ¬ ps = [] → TT false H') → ∀ q, H2 q = none → rEqD K (.ref P) (.ref q) (upd H2 q (.lst [])) fun x H1 => ∃ k, x = .bl k ∧ TT k H1 := fun TT z1 z2 q nq => by
        have s1 := Jl.same_upd (o := .lst []) nq
        refine Jl.s_eqNilP (Jl.dp_same s1 b.dp) hsh upd_same ⟨_, rfl, ?_⟩
        by_cases g : ps = []
        · rw [decide_eq_true (show ps.map Jl.pieceD = [] by rw [g]; rfl)]; exact z1 _ s1 g
        · rw [decide_eq_false (fun z => g (List.map_eq_nil_iff.mp z))]; exact z2 _ s1 g
      walk_at "w"
      refine Jl.s_iteD (fun g1 => ?_) (fun g1 => ?_)
      · walk_at "w"
        refine Jl.s_lenL (.inl (.inl hP)) ?_
        rw [hvl]
        walk_at "w"
        refine Jl.s_iteD (fun g2 => ?_) (fun g2 => ?_)
        · exact t1 _ (Same.refl _) (.inl ⟨g1, by omega⟩)
        · walk_at "w"
          refine ⟨by decide, fun q nq => ?_⟩
          exact nil_ T (fun _ s g => t1 _ s (.inr g)) (fun _ s g => t2 _ s fun z => z.elim (fun z => g2 (by omega)) g) q nq
      · walk_at "w"
        refine ⟨by decide, fun q nq => ?_⟩
        exact nil_ T (fun _ s g => t1 _ s (.inr g)) (fun _ s g => t2 _ s fun z => z.elim (fun z => g1 z.1) g) q nq
    · have hl12 : ps.length < 12 := by
        rcases hp with h | h
        · exact h.2
        · rw [h]; decide
      have b3 := b.same s3
      have hP3 := s3 _ _ hP
      walk_at "w"
      refine Jl.s_lenL (.inl (.inl hP3)) ?_
      rw [hvl]
      walk_at "w"
      refine ⟨by decide, fun S nS => ?_⟩
      walk_at "w"
      refine ⟨by decide, fun Nn nN => ?_⟩
      walk_at "w"
      refine ⟨(by show 3 ≤ sizeLine; decide), fun tn ntn => ?_⟩
      obtain ⟨xs, hPx, hxl, hP4, F', f4, b4⟩ := b3.piece (nm := Jl.nmT tb (ps.length : Int)) nS nN ntn
      refine Jl.s_nil ?_
      refine Jl.s_append hP4 ?_ (Jl.small5' (by omega))
      exact hN _ _ ⟨F', _, b4, D.piece hl12, _, _, _, _, _, rfl⟩
    have hne : ps ≠ [] := fun h => hp (.inr h)
    obtain ⟨ps0, p, rfl⟩ : ∃ ps0 p, ps = ps0 ++ [p] := by
      rcases List.eq_nil_or_concat ps with h | ⟨l, x, h⟩
      · exact absurd h hne
      · exact ⟨l, x, by rw [h, List.concat_eq_append]⟩
    obtain ⟨nm, ss, ns'⟩ := p
    have b3 := b.same s3
    clear b hP hvl hp hne hsh
    have hw := D.wts
    rw [List.map_append, List.sum_append] at hw
    have hwp : Jl.wt ⟨nm, ss, ns'⟩ = 1 + ns'.length + (ss.map Jl.wtS).sum := rfl
    have hw1 : ([(⟨nm, ss, ns'⟩ : Jl.Piece)].map Jl.wt).sum = Jl.wt ⟨nm, ss, ns'⟩ := by simp
    have hpok := D.ok ⟨nm, ss, ns'⟩ (List.mem_append_right _ (List.mem_singleton.mpr rfl))
    obtain ⟨xs, t, S, Nn, nv, hP, hxs, hFt, hNn, hnv, l⟩ := b3.open_
    have ht := b3.ext _ _ hFt
    obtain ⟨sv, hS1, hsv⟩ := l.list
    have hSd := l.dp
    refine Jl.s_ifKh (P := c % 9 < 2 ∨ ss = []) (fun σ' H' => ∃ F ps, Jl.BP K H F H' P [] ps ∧ Jl.Drawn nb tb strict (i + 1) ps ∧ ∃ v1 v2 v3 v4 v5, σ' = [some (.ref a), some (.int nb), some (.int tb), some (.bl strict), some (.ref P), v1, v2, v3, v4, v5]) (fun T t1 t2 => ?_) (fun hp H4 N4 s4 hN4 => ?_) (fun hp H4 N4 s4 hN4 => ?_) (fun σ' H' h => hN _ _ h)
    · walk_at "w"
      refine Jl.s_iteD (fun g1 => ?_) (fun g1 => ?_)
      · exact t1 _ (Same.refl _) (.inl g1)
      · walk_at "w"
        refine Jl.s_ixL (.inl (.inl hP)) (atI_last _ _) ?_
        walk_at "w"
        refine Jl.tup_at (i := 1) ht rfl ?_
        walk_at "w"
        refine ⟨by decide, fun q nq => ?_⟩
        have s1 := Jl.same_upd (o := .lst []) nq
        refine Jl.s_eqNilP (Jl.dp_same s1 hSd) (Jl.stres_shaped hpok.2.1) upd_same ⟨_, rfl, ?_⟩
        by_cases g : ss = []
        · rw [decide_eq_true (show ss.map Jl.streD = [] by rw [g]; rfl)]; exact t1 _ s1 (.inr g)
        · rw [decide_eq_false (fun z => g (List.map_eq_nil_iff.mp z))]; exact t2 _ s1 fun z => z.elim g1 g
    · have b4 := b3.same s4
      walk_at "w"
      refine ⟨(by show 6 ≤ sizeLine; decide), fun p5 np5 => ?_⟩
      walk_at "w"
      obtain ⟨st, stm, hst⟩ := Jl.atI_in (ns := [1, 1, 2, 4, 16, 65536]) (i := c / 9 % 6) (by show (-6 : Int) ≤ _; omega) (by show _ < (6 : Int); omega)
      have hst0 : 0 < st ∧ st ≤ 65536 := by
        simp only [List.mem_cons, List.not_mem_nil, or_false] at stm
        omega
      refine Jl.s_ixL (xs := [1, 1, 2, 4, 16, 65536].map V.int) Jl.sqU hst ?_
      have s5 := s4.trans (Jl.same_upd (o := .lst [.int 1, .int 1, .int 2, .int 4, .int 16, .int 65536]) np5)
      generalize upd H4 p5 (.lst [.int 1, .int 1, .int 2, .int 4, .int 16, .int 65536]) = H5 at *
      walk_at "w"
      refine Jl.s_ixL (.inl (.inl (s5 _ _ hP))) (atI_last _ _) ?_
      walk_at "w"
      refine Jl.tup_at (i := 1) (s5 _ _ ht) rfl ?_
      refine Jl.s_tyL (s5 _ _ hS1) ?_
      walk_at "w"
      refine ⟨(by show 2 ≤ sizeLine; decide), fun p6 np6 => ?_⟩
      walk_at "w"
      obtain ⟨kd, hkd, hkok⟩ : ∃ kd : Str, atI [V.str "code", V.str "data"] (c / 54 % 2) = some (.str kd) ∧ Jl.isKind kd := by
        have hc : c / 54 % 2 = 0 ∨ c / 54 % 2 = 1 := by omega
        rcases hc with hc | hc
        · rw [hc]; exact ⟨_, rfl, .inl rfl⟩
        · rw [hc]; exact ⟨_, rfl, .inr rfl⟩
      refine Jl.s_ixL Jl.sqU hkd ?_
      have s6 := s5.trans (Jl.same_upd (o := .lst [.str "code", .str "data"]) np6)
      generalize upd H5 p6 (.lst [.str "code", .str "data"]) = H6 at *
      have b6 := b3.same s6
      walk_at "w"
      refine ⟨by decide, fun W nW => ?_⟩
      walk_at "w"
      refine ⟨by decide, fun G nG => ?_⟩
      walk_at "w"
      refine ⟨(by show 4 ≤ sizeLine; decide), fun u nu => ?_⟩
      obtain ⟨xs', t', S', N', sv', hP', ht', hS', hsl', hS4, F', f4, b7⟩ := b6.stre (kind := kd) (step := st) nW nG nu
      obtain ⟨-, rfl⟩ := Jl.last_uniq (s6 _ _ hP) hP'
      have eS : S' = S := by
        rw [s6 _ _ ht] at ht'
        cases ht'; rfl
      subst eS
      refine Jl.s_nil ?_
      refine Jl.s_append hS4 ?_ (Jl.small5' (by rw [hsl']; have : ss.length ≤ (ss.map Jl.wtS).sum := len_sum ss; omega))
      refine hN4 _ _ ⟨F', _, b7, D.last (fun h => h.stre (Jl.GS.new hkok hst0)) ?_ (fun _ h => h), _, _, _, _, _, rfl⟩
      show 1 + ns'.length + ((ss ++ [_]).map Jl.wtS).sum ≤ 1 + ns'.length + (ss.map Jl.wtS).sum + 1
      rw [Jl.sum_app1]
      exact Nat.le_refl _
    have hne : ss ≠ [] := fun h => hp (.inr h)
    obtain ⟨ss0, s, rfl⟩ : ∃ ss0 s, ss = ss0 ++ [s] := by
      rcases List.eq_nil_or_concat ss with h | ⟨l, x, h⟩
      · exact absurd h hne
      · exact ⟨l, x, by rw [h, List.concat_eq_append]⟩
    obtain ⟨skind, sstep, sws, sfs⟩ := s
    have b4 := b3.same s4
    walk_at "w"
    refine Jl.s_iteD (fun g6 => ?_) (fun g6 => ?_)
    · obtain ⟨sv0, u, W, G, gv, g1, g2, g3, g4, g5, g6', cc⟩ := l.open_
      have hu2 := b3.ext _ _ g3
      have hgl := Jl.da_length g6'
      have hP4 := s4 _ _ hP
      have ht4 := s4 _ _ ht
      have g14 := s4 _ _ g1
      have hw0 : 0 ≤ c * 48271 % 4294967296 ∧ c * 48271 % 4294967296 < 4294967296 := by omega
      have hsw : sws.length ≤ 2000 ∧ sfs.length ≤ 2000 := by
        have h1 := (Jl.sum_app1 (ss0 := ss0) (s := ⟨skind, sstep, sws, sfs⟩))
        have h2 : Jl.wtS ⟨skind, sstep, sws, sfs⟩ = 1 + sws.length := rfl
        have h3 : sfs.length ≤ sws.length := ((D.each ps0.length _ (by rw [List.getElem?_append_right (Nat.le_refl _), Nat.sub_self]; rfl)).stres _ (List.mem_append_right _ (List.mem_singleton.mpr rfl))).few
        omega
      have fin : ∀ (H' F' : Hp) (fs' : List Jl.Fill), (fs' = sfs ∨ ∃ f : Jl.Fill, fs' = sfs ++ [f] ∧ f.at_ = sws.length ∧ Jl.isRule5 f.rule ∧ (f.soft = true → f.rule = "whole" ∨ f.rule = "high" ∨ f.rule = "low") ∧ Jl.nmOf nb f.name ∧ (-2147483648 ≤ f.add ∧ f.add ≤ 2147483647)) → Jl.Drawn nb tb strict (i + 1) (ps0 ++ [⟨nm, ss0 ++ [⟨skind, sstep, sws ++ [c * 48271 % 4294967296], fs'⟩], ns'⟩]) := fun H' F' fs' hf => by
        refine D.last (fun h => h.last ?_ ?_) ?_ (fun _ h => h)
        · have hg := h.stres _ (List.mem_append_right _ (List.mem_singleton.mpr rfl))
          rcases hf with rfl | ⟨f, rfl, e1, e2, e3, e4, e5⟩
          · exact hg.word hw0
          · exact hg.fill hw0 e1 e2 e3 e4 e5
        · show sws.length ≤ (sws ++ [_]).length
          rw [List.length_append]; omega
        · unfold Jl.wt
          simp only [Jl.sum_app1]
          unfold Jl.wtS
          simp only [List.length_append, List.length_singleton]
          omega
      walk_at "w"
      refine Jl.s_ixL (.inl (.inl hP4)) (atI_last _ _) ?_
      walk_at "w"
      refine Jl.tup_at (i := 1) ht4 rfl ?_
      walk_at "w"
      refine Jl.s_ixL (.inl (.inl g14)) (atI_last _ _) ?_
      walk_at "w"
      by_cases h9 : c % 9 = 2
      · refine use_word_row (.inl ⟨h9, fun H5 s5 => ?_⟩)
        have s45 := s4.trans s5
        have b5 := b3.same s45
        have hu5 := s45 _ _ hu2
        have g45 := s45 _ _ g4
        walk_at "w"
        refine Jl.tup_at (i := 2) hu5 rfl ?_
        obtain ⟨xs', t', S', N', sv', u', W', G', hP', ht', hS', hu', hW', bw⟩ := b5.word
        obtain ⟨-, rfl⟩ := Jl.last_uniq (s45 _ _ hP) hP'
        have eS : S' = S := by rw [s45 _ _ ht] at ht'; cases ht'; rfl
        subst eS
        obtain ⟨-, rfl⟩ := Jl.last_uniq (s45 _ _ g1) hS'
        have eW : W' = W := by rw [hu5] at hu'; cases hu'; rfl
        subst eW
        walk_at "w"
        · exact hN4 _ _ ⟨F, _, bw _, fin H F _ (.inl rfl), _, _, _, _, _, rfl⟩
        · rw [List.length_map]; exact Jl.small5' (by omega)
      · refine use_word_row (.inr ⟨h9, fun H5 t5 r nmx add soft j s5 nt5 ht5 hr5 hs5 hj hnm hadd => ?_⟩)
        have s45 := s4.trans s5
        have hu5 := s45 _ _ hu2
        have g45 := s45 _ _ g4
        have g55 := s45 _ _ g5
        walk_at "wd"
        refine Jl.tup_at (i := 3) hu5 rfl ?_
        refine Jl.s_tyL g55 ?_
        walk_at "w"
        refine Jl.tup_at (i := 2) hu5 rfl ?_
        walk_at "w"
        refine Jl.s_lenL (.inl (.inl g45)) ?_
        rw [List.length_map]
        walk_at "w"
        refine ⟨(by show 1 ≤ sizeLine; decide), fun p1 np1 => ?_⟩
        have s6 := Jl.same_upd (o := .tup [.int (sws.length : Int)]) np1
        have hp1 : (upd H5 p1 (.tup [.int (sws.length : Int)])) p1 = some (.tup [.int (sws.length : Int)]) := upd_same
        generalize upd H5 p1 (.tup [.int (sws.length : Int)]) = H6 at *
        have s46 := s45.trans s6
        have b6 := b3.same s46
        walk_at "w"
        refine ⟨p1, t5, _, _, rfl, rfl, .inl (.inl hp1), .inl (.inl (s6 _ _ ht5)), (by intro h; cases h), (by show 1 + 4 ≤ sizeLine; decide), (fun h => by cases h), fun _ p7 np7 => ?_⟩
        obtain ⟨b7, f7⟩ := b6.new (o := .tup ([.int (sws.length : Int)] ++ [.str r, .str nmx, .int add, .bl soft])) np7
        have s7 := Jl.same_upd (o := .tup ([.int (sws.length : Int)] ++ [.str r, .str nmx, .int add, .bl soft])) np7
        have s47 := s46.trans s7
        obtain ⟨xs', t', S', N', sv', u', W', G', gv', hP', ht', hS', hu', hW', hG', hgl', b8⟩ := b7.fill (f := ⟨sws.length, r, nmx, add, soft⟩) (a := p7) upd_same
        obtain ⟨-, rfl⟩ := Jl.last_uniq (s47 _ _ hP) hP'
        have eS : S' = S := by rw [s47 _ _ ht] at ht'; cases ht'; rfl
        subst eS
        obtain ⟨-, rfl⟩ := Jl.last_uniq (s47 _ _ g1) hS'
        have eW : W' = W ∧ G' = G := by rw [s47 _ _ hu2] at hu'; cases hu'; exact ⟨rfl, rfl⟩
        obtain ⟨rfl, rfl⟩ := eW
        refine Jl.s_nil ?_
        refine Jl.s_append hG' ?_ (Jl.small5' (by omega))
        obtain ⟨xs2, t2, S2, N2, sv2, u2, W2, G2, hP2, ht2, hS2, hu2', hW2, bw⟩ := b8.word
        have hGu : u ≠ G' := ne_of (s47 _ _ hu2) hG' (by intro z; cases z)
        have hGt : t ≠ G' := ne_of (s47 _ _ ht) hG' (by intro z; cases z)
        have hu8 : (upd (upd H6 p7 (.tup ([.int (sws.length : Int)] ++ [.str r, .str nmx, .int add, .bl soft]))) G' (.lst (gv' ++ [.ref p7]))) u = some (.tup [.str skind, .int sstep, .ref W', .ref G']) := by rw [upd_ne hGu]; exact s47 _ _ hu2
        have ht8 : (upd (upd H6 p7 (.tup ([.int (sws.length : Int)] ++ [.str r, .str nmx, .int add, .bl soft]))) G' (.lst (gv' ++ [.ref p7]))) t = some (.tup [.str nm, .ref S', .ref Nn]) := by rw [upd_ne hGt]; exact s47 _ _ ht
        have nd := cc.nd
        have hP8 : (upd (upd H6 p7 (.tup ([.int (sws.length : Int)] ++ [.str r, .str nmx, .int add, .bl soft]))) G' (.lst (gv' ++ [.ref p7]))) P = some (.lst (xs ++ [.ref t])) := by rw [upd_ne (Jl.nd_ne nd 1 4 (by decide) rfl rfl).symm]; exact s47 _ _ hP
        have hS8 : (upd (upd H6 p7 (.tup ([.int (sws.length : Int)] ++ [.str r, .str nmx, .int add, .bl soft]))) G' (.lst (gv' ++ [.ref p7]))) S' = some (.lst (sv0 ++ [.ref u])) := by rw [upd_ne (Jl.nd_ne nd 1 2 (by decide) rfl rfl).symm]; exact s47 _ _ g1
        obtain ⟨-, rfl⟩ := Jl.last_uniq hP8 hP2
        have eS : S2 = S' := by rw [ht8] at ht2; cases ht2; rfl
        subst eS
        obtain ⟨-, rfl⟩ := Jl.last_uniq hS8 hS2
        have eW : W2 = W' := by rw [hu8] at hu2'; cases hu2'; rfl
        subst eW
        generalize upd (upd H6 p7 (.tup ([.int (sws.length : Int)] ++ [.str r, .str nmx, .int add, .bl soft]))) G' (.lst (gv' ++ [.ref p7])) = H8 at *
        walk_at "w"
        refine Jl.tup_at (i := 2) hu8 rfl ?_
        walk_at "w"
        · exact hN4 _ _ ⟨_, _, bw _, fin H F _ (.inr ⟨_, rfl, rfl, hr5, hs5, ⟨j, hj.1, hj.2, hnm⟩, hadd⟩), _, _, _, _, _, rfl⟩
        · rw [List.length_map]; exact Jl.small5' (by omega)
    · walk_at "w"
      have hq : ∀ q ∈ ps0, q.names.length ≤ 1000 := fun q hq => by
        have h1 := Jl.wt_le hq
        have h2 : Jl.wt q = 1 + q.names.length + (q.stres.map Jl.wtS).sum := rfl
        omega
      have hs0 : ss0.length ≤ 1000 := by
        have h1 := len_sum (ss0 ++ [⟨skind, sstep, sws, sfs⟩])
        rw [List.length_append] at h1
        omega
      refine use_told_by b4 (fun q hq => D.ok q (List.mem_append_left _ hq)) (by omega) hs0 hq (fun H7 => ⟨fun s7 _ => ?_, fun F7 sort f7 b7 h1 h2 h3 => ?_⟩)
      · walk_at "w"
        exact hN4 _ _ ⟨F, _, b4.same s7, D.more (by omega), _, _, _, _, _, rfl⟩
      · walk_at "w"
        refine hN4 _ _ ⟨F7, _, b7, D.last (fun h => h.nam ⟨c / 9 % 12, by omega, by omega, rfl⟩ h2 h1) ?_ (fun hs h q hq => ?_), _, _, _, _, _, rfl⟩
        · unfold Jl.wt
          simp only [List.length_append, List.length_singleton]
          omega
        · intro m hm m' hm' e hh
          rcases List.mem_append.mp hm' with hm' | hm'
          · exact h q hq m hm m' hm' e hh
          · cases List.mem_singleton.mp hm'
            exact h3 hs hh.2 q hq m hm e hh.1
/-! ### _law_copy -/
def sp_law_copy (K : PySem.W.Frag) : Sp := fun vs H Q _ => ∃ (x : V) (p : Jl.Piece) (B G : Hp) (A : List Addr), vs = [x] ∧ Dp K G x (Jl.pieceD p) ∧ p.stres.length ≤ 1000 ∧ Jl.Act B G H A ∧ ∀ v G' H', Jl.Act B G' H' A → Same G G' → Same H H' → Dp K G' v (Jl.pieceD p) → Q v H'
theorem use_copy {K : PySem.W.Frag} {x : V} {p : Jl.Piece} {B G H : Hp} {A : List Addr} {Q : VK} {E : XK} (hd : Dp K G x (Jl.pieceD p)) (hsl : p.stres.length ≤ 1000) (c : Jl.Act B G H A) (z : ∀ v G' H', Jl.Act B G' H' A → Same G G' → Same H H' → Dp K G' v (Jl.pieceD p) → Q v H') : sp_law_copy K [x] H Q E := ⟨x, p, B, G, A, rfl, hd, hsl, c, z⟩
theorem ok_law_copy (T : Txt K mg) : FnOk P w K mg base CX0 1 T.a_law_copy T.d_law_copy ["_law_piece"] (sp_law_copy K) := by
  refine T.F_law_copy.ok sc_law_copy (fun vs H Q E h => ?_) (fun cdv A outer s H vs Q E hr h => ?_)
  · obtain ⟨x, p, B, G, A, rfl, hd, hsl, c, k⟩ := h
    rfl
  · obtain ⟨x, p, B, G, A, rfl, hd, hsl, c, k⟩ := h
    have hu := hu_of hr
    refine ⟨_, (pss_cons (ps_setLc (i := 1) (own := [("_law_row", 2)]) (g := gName 2) (tt := tYes) (by rfl) sc_law_copy.nd rfl rfl (sw_true rfl rfl rfl (by decide +kernel)) (pi_list (pe_ix (r := rIxT K) ix_tup (pv 0) pe_int (fun _ _ => rfl))) (blkOk_by (own := [("_law_row", 2)]) (N := N_law_copy) (sc := defScope s_law_copy) (by decide +kernel)) (fun _ _ _ _ _ => pg_name (i := 2) sc_law_copy.nd rfl (Or.inl rfl)) (fun _ _ _ _ _ => pts_nil) (fun _ _ _ _ _ => (pe_tup (pa_cons (pe_ix (r := rIxT K) ix_tup (pv 2) pe_int (fun _ _ => rfl)) (pa_cons (pe_ix (r := rIxT K) ix_tup (pv 2) pe_int (fun _ _ => rfl)) (pa_cons (pe_callTy (r := Jl.rListO K) Jl.cl_listO (by rfl) T.n_list (by decide +kernel) (pa_cons (pe_ix (r := rIxT K) ix_tup (pv 2) pe_int (fun _ _ => rfl)) pa_nil)) (pa_cons (pe_callTy (r := Jl.rListO K) Jl.cl_listO (by rfl) T.n_list (by decide +kernel) (pa_cons (pe_ix (r := rIxT K) ix_tup (pv 2) pe_int (fun _ _ => rfl)) pa_nil)) pa_nil)))))))
      (pss_one (ps_ret (pe_tup (pa_cons (pe_ix (r := rIxT K) ix_tup (pv 0) pe_int (fun _ _ => rfl)) (pa_cons (pv 1) (pa_cons (pe_callTy (r := Jl.rListO K) Jl.cl_listO (by rfl) T.n_list (by decide +kernel) (pa_cons (pe_ix (r := rIxT K) ix_tup (pv 0) pe_int (fun _ _ => rfl)) pa_nil)) pa_nil))))))), ?_⟩
    show (_ : TS) _ [some (x), none, none] H
    obtain ⟨t, S, N, sv, nv, rfl, ht, hS, hsv, hN, hnv⟩ := Jl.dp_piece hd
    have hl := Jl.da_length hsv
    walk_at "w"
    refine Jl.s_lcH (xs := sv) c (fun i => (p.stres[i]?).bind fun s => some (Jl.streD s)) (by omega) (fun R z => ?_) (fun i y D G1 H1 Rs Rn hi c1 sG sH hRs hRn => ?_) (fun pd G1 H1 us c1 sG sH hpd hda hul => ?_)
    · walk_at "w"
      exact Jl.s_ixT (Jl.sameT c.ext ht) (i := 1) rfl (z _ _ _ c (Same.refl _) (Same.refl _) hS)
    · obtain ⟨q, hq, hy⟩ := Jl.da_item hsv hi
      obtain ⟨tq, W, L0, gs, rfl, htq, hW, hL0, hgs⟩ := Jl.dp_stre hy
      have s1 := sG.trans c1.ext
      walk_at "w"
      refine ⟨rfl, ?_⟩
      walk_at "w"
      refine Jl.s_ixT (Jl.sameT s1 htq) (i := 0) rfl ?_
      walk_at "w"
      refine Jl.s_ixT (Jl.sameT s1 htq) (i := 1) rfl ?_
      walk_at "w"
      refine Jl.s_ixT (Jl.sameT s1 htq) (i := 2) rfl ?_
      walk_at "w"
      refine Jl.s_listO (s1.seq hW) (fun pW nW => ?_)
      have c2 := c1.new (o := .lst (q.words.map V.int)) nW
      have sA := Jl.same_upd (o := .lst (q.words.map V.int)) nW
      have sA' := Jl.same_upd (o := .lst (q.words.map V.int)) (c1.ext.free nW)
      walk_at "w"
      refine Jl.s_ixT (Jl.sameT (s1.trans sA) htq) (i := 3) rfl ?_
      walk_at "w"
      refine Jl.s_listO ((s1.trans sA).seq hL0) (fun pL nL => ?_)
      have c3 := c2.new (o := .lst gs) nL
      have sB := Jl.same_upd (o := .lst gs) nL
      have sB' := Jl.same_upd (o := .lst gs) (c2.ext.free nL)
      walk_at "w"
      refine ⟨(by show 4 ≤ sizeLine; decide), fun tn ntn => ?_⟩
      have c4 := c3.new (o := .tup [.str q.kind, .int q.step, .ref pW, .ref pL]) ntn
      have sC := Jl.same_upd (o := .tup [.str q.kind, .int q.step, .ref pW, .ref pL]) ntn
      have sC' := Jl.same_upd (o := .tup [.str q.kind, .int q.step, .ref pW, .ref pL]) (c3.ext.free ntn)
      refine hRs _ _ _ (Jl.streD q) (sA'.trans (sB'.trans sC')) c4 (sA.trans (sB.trans sC)) (by rw [hq]; rfl) ?_
      exact .tup (.inl (.inl upd_same)) (.cons (.str _) (.cons (.int _) (.cons (Jl.dp_intL (.inl (.inl (sC' _ _ (sB' _ _ upd_same))))) (.cons (.lst (.inl (.inl (sC' _ _ upd_same))) (Jl.dps_same (sG.trans (sA'.trans (sB'.trans sC'))) hgs)) .nil))))
    rw [hl, Jl.range_items, Jl.filterMap_some] at hda
    obtain ⟨G2, c2, sG2, hpd2⟩ := c1.ice hpd
    have s1 := (sG.trans sG2).trans c2.ext
    walk_at "w"
    refine Jl.s_ixT (Jl.sameT s1 ht) (i := 0) rfl ?_
    walk_at "w"
    refine Jl.s_ixT (Jl.sameT s1 ht) (i := 2) rfl ?_
    walk_at "w"
    refine Jl.s_listO (s1.seq hN) (fun pN nN => ?_)
    have c3 := c2.new (o := .lst nv) nN
    have sA := Jl.same_upd (o := .lst nv) nN
    have sA' := Jl.same_upd (o := .lst nv) (c2.ext.free nN)
    walk_at "w"
    refine ⟨(by show 3 ≤ sizeLine; decide), fun tn ntn => ?_⟩
    have c4 := c3.new (o := .tup [.str p.name, .ref pd, .ref pN]) ntn
    have sB := Jl.same_upd (o := .tup [.str p.name, .ref pd, .ref pN]) ntn
    have sB' := Jl.same_upd (o := .tup [.str p.name, .ref pd, .ref pN]) (c3.ext.free ntn)
    walk_at "w"
    refine k _ _ _ c4 (sG.trans (sG2.trans (sA'.trans sB'))) (sH.trans (sA.trans sB)) ?_
    exact .tup (.inl (.inl upd_same)) (.cons (.str _) (.cons (.lst (.inl (.inl (sB' _ _ (sA' _ _ hpd2)))) (Jl.dps_same (sG2.trans (sA'.trans sB')) hda)) (.cons (.lst (.inl (.inl (sB' _ _ upd_same))) (Jl.dps_same (sG.trans (sG2.trans (sA'.trans sB'))) hnv)) .nil)))
/-! ### _law_aim -/
def sp_law_aim (K : PySem.W.Frag) : Sp := fun vs H Q E => ∃ (x y : V) (p : Jl.Piece) (m : Addr) (L : List (Str × PyData)) (f : Jl.Fill) (F : Hp), vs = [x, .ref m, y] ∧ Dp K H x (Jl.pieceD p) ∧ Jl.Fine p ∧ Jl.SD K F H m L ∧ Same F H ∧ Jl.AllSpot L ∧ Dp K H y (Jl.fillD f) ∧ ((∀ t i j, Jl.okS t → Jl.spotOf p L f.name = some (Jl.spotD t i j) → ∀ H' q, Same H H' → H' q = some (.tup [.str t, .int i]) → Q (.ref q) H') ∧ (Jl.spotOf p L f.name = none → ∀ H', Same H H' → Q .non H'))
theorem use_laim {K : PySem.W.Frag} {x y : V} {p : Jl.Piece} {m : Addr} {L : List (Str × PyData)} {f : Jl.Fill} {F H : Hp} {Q : VK} {E : XK} (hd : Dp K H x (Jl.pieceD p)) (fq : Jl.Fine p) (D : Jl.SD K F H m L) (sF : Same F H) (hL : Jl.AllSpot L) (hy : Dp K H y (Jl.fillD f)) (z : ((∀ t i j, Jl.okS t → Jl.spotOf p L f.name = some (Jl.spotD t i j) → ∀ H' q, Same H H' → H' q = some (.tup [.str t, .int i]) → Q (.ref q) H') ∧ (Jl.spotOf p L f.name = none → ∀ H', Same H H' → Q .non H'))) : sp_law_aim K [x, .ref m, y] H Q E := ⟨x, y, p, m, L, f, F, rfl, hd, fq, D, sF, hL, hy, z⟩
theorem ok_law_aim (T : Txt K mg) : FnOk P w K mg base CX0 1 T.a_law_aim T.d_law_aim ["_law_piece", "_law_some", "_law_fill"] (sp_law_aim K) := by
  refine T.F_law_aim.ok sc_law_aim (fun vs H Q E h => ?_) (fun cdv A outer s H vs Q E hr h => ?_)
  · obtain ⟨x, y, p, m, L, f, F, rfl, hd, fq, D, sF, hL, hy, k⟩ := h
    rfl
  · obtain ⟨x, y, p, m, L, f, F, rfl, hd, fq, D, sF, hL, hy, k⟩ := h
    have hu := hu_of hr
    refine ⟨_, (pss_cons (ps_for PassesOwn.never rfl (pi_list (pe_ix (r := rIxT K) ix_tup (pv 0) pe_int (fun _ _ => rfl))) (pg_tup rfl (pgs_cons (pg_name (i := 3) sc_law_aim.nd rfl (Or.inl rfl)) (pgs_cons (pg_name (i := 4) sc_law_aim.nd rfl (Or.inl rfl)) (pgs_cons (pg_name (i := 5) sc_law_aim.nd rfl (Or.inl rfl)) (pgs_cons (pg_name (i := 6) sc_law_aim.nd rfl (Or.inl rfl)) pgs_nil))))) (pss_one (ps_if (PW.pt (pw_and (pt_cmpR op_eq (pv 3) (pe_ix (r := rIxT K) ix_tup (pv 2) pe_int (fun _ _ => rfl)) (nomark _)) (pw_and1 (pt_cmpR op_eq (pv 4) pe_str (nomark _))))) (pss_one (ps_ret (pe_tup (pa_cons (pe_ix (r := rIxT K) ix_tup (pv 0) pe_int (fun _ _ => rfl)) (pa_cons (pv 5) pa_nil))))) pss_nil)))
      (pss_cons (ps_if (pt_cmp (pc_din hu (pe_ix (r := rIxT K) ix_tup (pv 2) pe_int (fun _ _ => rfl)) (pv 1))) (pss_one (ps_ret (pe_slice (r := rSlT K) sl_tup (pe_dget hu (pv 1) (pe_ix (r := rIxT K) ix_tup (pv 2) pe_int (fun _ _ => rfl)) (fun _ _ => rfl)) po_none (po_some pe_int)))) pss_nil)
      (pss_one (ps_ret pe_non)))), ?_⟩
    show (_ : TS) _ [some (x), some (.ref m), some (y), none, none, none, none] H
    obtain ⟨k1, k2⟩ := k
    obtain ⟨tf, rfl, htf⟩ := Jl.dp_fill hy
    have hd0 := hd
    obtain ⟨tp, S, N, ss, nv, rfl, htp, -, -, hN, hnv⟩ := Jl.dp_piece hd0
    have hnvl := Jl.da_length hnv
    walk_at "w"
    refine Jl.s_seq (Jl.s_forLg (xs := nv) (fun i σ' H' => H' = H ∧ (p.names.take i).find? (fun n => decide (n.name = f.name) && decide (n.sort = ("own" : Str))) = none ∧ ∃ v1 v2 v3 v4, σ' = [some (.ref tp), some (.ref m), some (.ref tf), v1, v2, v3, v4]) H (fun R z => ?_) hN ⟨rfl, by rw [List.take_zero]; rfl, none, none, none, none, rfl⟩ (fun i σ' H' _ h => by rw [h.1]; exact hN) (fun i x σ' H' hi h => ?_) (fun σ' H' h => ?_))
    · walk_at "w"
      exact Jl.s_ixT htp (i := 2) rfl z
    · obtain ⟨rfl, hf, v1, v2, v3, v4, rfl⟩ := h
      obtain ⟨q, hq, hz⟩ := Jl.da_item hnv hi
      obtain ⟨tq, rfl, htq⟩ := Jl.dp_nam hz
      have e4 : p.names.take (i + 1) = p.names.take i ++ [q] := by rw [List.take_add_one, hq]; rfl
      refine Jl.s_gTup htq rfl ?_
      walk_at "w"
      refine Jl.s_ixT htf (i := 2) rfl ?_
      walk_at "w"
      refine Jl.s_iteD (fun g1 => ?_) (fun g1 => ?_)
      · walk_at "w"
        refine Jl.s_iteD (fun g2 => ?_) (fun g2 => ?_)
        · have e : Jl.spotOf p L f.name = some (Jl.spotD p.name q.stre q.off) := by
            unfold Jl.spotOf
            rw [Jl.own_at hf hq g1 g2]
          walk_at "w"
          refine Jl.s_ixT htp (i := 0) rfl ?_
          walk_at "w"
          refine ⟨(by show 2 ≤ sizeLine; decide), fun pt npt => ?_⟩
          exact k1 _ _ _ fq.ok.1 e _ pt (Jl.same_upd npt) upd_same
        · exact ⟨rfl, by rw [e4]; exact Jl.own_snoc hf fun z => g2 z.2, _, _, _, _, rfl⟩
      · walk_at "w"
        exact ⟨rfl, by rw [e4]; exact Jl.own_snoc hf fun z => g1 z.1, _, _, _, _, rfl⟩
    obtain ⟨rfl, hf, v1, v2, v3, v4, rfl⟩ := h
    rw [hnvl, List.take_length] at hf
    have es : Jl.spotOf p L f.name = Jl.lookL L f.name := by
      unfold Jl.spotOf
      rw [show Jl.ownOf p f.name = none from hf]
    walk_at "w"
    refine Jl.s_din ?_
    walk_at "w"
    refine Jl.s_ixT htf (i := 2) rfl ?_
    walk_at "w"
    rcases D.get f.name with ⟨e1, g1⟩ | ⟨d, v, e1, g1, hv⟩
    · refine ⟨m, none, rfl, g1, ?_⟩
      rw [e1] at es
      walk_at "w"
      refine Jl.s_iteF ?_
      walk_at "w"
      exact k2 es _ (Same.refl _)
    · obtain ⟨t, i, j, okt, rfl⟩ := hL.look e1
      obtain ⟨qa, rfl, hqa⟩ := Jl.dp_spot hv
      have hqa := Jl.sameT sF hqa
      rw [e1] at es
      refine ⟨m, _, rfl, g1, ?_⟩
      walk_at "w"
      refine Jl.s_iteT ?_
      walk_at "w"
      refine Jl.s_dgetR ?_
      walk_at "w"
      refine Jl.s_ixT htf (i := 2) rfl ?_
      refine ⟨m, _, rfl, g1, ?_⟩
      walk_at "w"
      refine ⟨qa, _, rfl, hqa, (fun h => absurd (show (2 : Nat) = 3 from h.2) (by decide)), fun p7 np7 => ?_⟩
      exact k1 _ _ _ okt es _ p7 (Jl.same_upd np7) upd_same
/-! ### _law_names -/
def sp_law_names (K : PySem.W.Frag) : Sp := fun vs H Q _ => ∃ (P : Addr) (xs : List V) (ps : List Jl.Piece) (by_ : Int), vs = [.ref P, .int by_] ∧ SqL K H P xs ∧ DpAll K H xs (ps.map Jl.pieceD) ∧ Jl.Pcs ps ∧ Jl.knownF ps ≠ [] ∧ ∀ (H' : Hp) (t m kb : Addr) (L : List (Str × PyData)) (zs : List (V × Jl.KY)), Same H H' → H' t = some (.tup [.ref m, .ref kb]) → Jl.SD K H' H' m L → Jl.ValL ps L → Jl.Aims L (Jl.pfs ps) → H' kb = some (.lst (zs.map (·.1))) → (∀ x ∈ zs, Jl.KeyAt H' x.1 x.2) → zs.map (·.2) = (Jl.knownF ps).map (·.1) → Q (.ref t) H'
theorem use_names {K : PySem.W.Frag} {P : Addr} {xs : List V} {ps : List Jl.Piece} {by_ : Int} {H : Hp} {Q : VK} {E : XK} (hP : SqL K H P xs) (hx : DpAll K H xs (ps.map Jl.pieceD)) (W : Jl.Pcs ps) (hne : Jl.knownF ps ≠ []) (z : ∀ (H' : Hp) (t m kb : Addr) (L : List (Str × PyData)) (zs : List (V × Jl.KY)), Same H H' → H' t = some (.tup [.ref m, .ref kb]) → Jl.SD K H' H' m L → Jl.ValL ps L → Jl.Aims L (Jl.pfs ps) → H' kb = some (.lst (zs.map (·.1))) → (∀ x ∈ zs, Jl.KeyAt H' x.1 x.2) → zs.map (·.2) = (Jl.knownF ps).map (·.1) → Q (.ref t) H') : sp_law_names K [.ref P, .int by_] H Q E := ⟨P, xs, ps, by_, rfl, hP, hx, W, hne, z⟩
theorem ok_law_names (T : Txt K mg) : FnOk P w K mg base CX0 2 T.a_law_names T.d_law_names ["_law_pieces", "_law_by"] (sp_law_names K) := by
  have G_law_aim := ok_law_aim (P := P) (w := w) (base := base) T
  refine T.F_law_names.ok sc_law_names (fun vs H Q E h => ?_) (fun cdv A outer s H vs Q E hr h => ?_)
  · obtain ⟨P, xs, ps, by_, rfl, hP, hx, W, hne, k⟩ := h
    rfl
  · obtain ⟨P, xs, ps, by_, rfl, hP, hx, W, hne, k⟩ := h
    have hu := hu_of hr
    refine ⟨_, (pss_cons (ps_set (i := 2) sc_law_names.nd rfl (Or.inl rfl) pe_dnewK)
      (pss_cons (ps_set (i := 3) sc_law_names.nd rfl (Or.inl rfl) (pe_lst pa_nil))
      (pss_cons (ps_for PassesOwn.never rfl (pi_list (pv 0)) (pg_tup rfl (pgs_cons (pg_name (i := 4) sc_law_names.nd rfl (Or.inr rfl)) (pgs_cons (pg_name (i := 5) sc_law_names.nd rfl (Or.inl rfl)) (pgs_cons (pg_name (i := 6) sc_law_names.nd rfl (Or.inl rfl)) pgs_nil)))) (pss_cons (ps_set (i := 3) sc_law_names.nd rfl (Or.inl rfl) (pe_op (r := Jl.rCatS K) Jl.op_catS (pv 3) (pe_lc (own := [("_law_k", 18)]) (g := gName 18) (tt := tYes) rfl sc_law_names.nd (pi_range1 (by rfl) T.n_range (pa_cons (pe_callB (r := Jl.rLenL K) Jl.cl_lenL (by rfl) T.n_len (by decide +kernel) (pa_cons (pv 5) pa_nil)) pa_nil)) (blkOk_by (own := [("_law_k", 18)]) (N := N_law_names) (sc := defScope s_law_names) (by decide +kernel)) (fun _ _ _ _ _ => pg_name (i := 18) sc_law_names.nd rfl (Or.inl rfl)) (fun _ _ _ _ _ => pts_nil) (fun _ _ _ _ _ => (pe_tup (pa_cons (pv 4) (pa_cons (pv 18) pa_nil)))))))
      (pss_one (ps_for PassesOwn.never rfl (pi_list (pv 6)) (pg_tup rfl (pgs_cons (pg_name (i := 7) sc_law_names.nd rfl (Or.inl rfl)) (pgs_cons (pg_name (i := 8) sc_law_names.nd rfl (Or.inl rfl)) (pgs_cons (pg_name (i := 9) sc_law_names.nd rfl (Or.inl rfl)) (pgs_cons (pg_name (i := 10) sc_law_names.nd rfl (Or.inl rfl)) pgs_nil))))) (pss_one (ps_if (pt_cmpR op_ne (pv 8) pe_str (nomark _)) (pss_one (ps_dput hu (pv 2) (pv 7) (pe_tup (pa_cons (pv 4) (pa_cons (pv 9) (pa_cons (pv 10) pa_nil)))) rfl)) pss_nil))))))
      (pss_cons (ps_for PassesOwn.never rfl (pi_list (pv 0)) (pg_name (i := 11) sc_law_names.nd rfl (Or.inl rfl)) (pss_one (ps_for PassesOwn.never rfl (pi_list (pe_ix (r := rIxT K) ix_tup (pv 11) pe_int (fun _ _ => rfl))) (pg_tup rfl (pgs_cons (pg_name (i := 12) sc_law_names.nd rfl (Or.inl rfl)) (pgs_cons (pg_name (i := 13) sc_law_names.nd rfl (Or.inl rfl)) (pgs_cons (pg_name (i := 14) sc_law_names.nd rfl (Or.inl rfl)) (pgs_cons (pg_name (i := 15) sc_law_names.nd rfl (Or.inl rfl)) pgs_nil))))) (pss_one (ps_for PassesOwn.never rfl (pi_list (pv 15)) (pg_name (i := 16) sc_law_names.nd rfl (Or.inl rfl)) (pss_one (ps_if (PW.pt (pw_and (pt_not (pt_val (pe_ix (r := rIxT K) ix_tup (pv 16) pe_int (fun _ _ => rfl)))) (pw_and1 (pt_cmpR Jl.op_isN1 (pe_call (G_law_aim) (hr.mono (by decide)) rfl T.m_law_aim T.F_law_aim.kp T.b_law_aim .nil pass0 (pa_cons (pv 11) (pa_cons (pv 2) (pa_cons (pv 16) pa_nil)))) pe_non (nomark _))))) (pss_cons (ps_set (i := 17) sc_law_names.nd rfl (Or.inl rfl) (pe_ix (r := rIxL K) ix_list (pv 3) (pe_op op_mod (pe_op op_add (pv 1) (pe_op op_mul (pe_callB call_lenD (by rfl) T.n_len (by decide +kernel) (pa_cons (pv 2) pa_nil)) (pe_callB call_lenD (by rfl) T.n_len (by decide +kernel) (pa_cons (pv 2) pa_nil)))) (pe_callB (r := Jl.rLenL K) Jl.cl_lenL (by rfl) T.n_len (by decide +kernel) (pa_cons (pv 3) pa_nil))) (fun _ _ => rfl)))
      (pss_one (ps_dput hu (pv 2) (pe_ix (r := rIxT K) ix_tup (pv 16) pe_int (fun _ _ => rfl)) (pe_tup (pa_cons (pe_ix (r := rIxT K) ix_tup (pv 17) pe_int (fun _ _ => rfl)) (pa_cons (pe_ix (r := rIxT K) ix_tup (pv 17) pe_int (fun _ _ => rfl)) (pa_cons (pe_op op_mod (pv 1) pe_int) pa_nil)))) rfl))) pss_nil)))))))
      (pss_one (ps_ret (pe_tup (pa_cons (pv 2) (pa_cons (pv 3) pa_nil))))))))), ?_⟩
    show (_ : TS) _ [some (.ref P), some (.int by_), none, none, none, none, none, none, none, none, none, none, none, none, none, none, none, none, none] H
    have hxl := Jl.da_length hx
    have hfew := W.few
    walk_at "w"
    refine fun m nm => ?_
    have c0 := (Jl.Act.start H).newA (o := .dK []) nm
    have d0 : (upd H m (.dK [])) m = some (.dK []) := upd_same
    generalize upd H m (.dK []) = H0 at *
    walk_at "w"
    refine ⟨by decide, fun k0 nk0 => ?_⟩
    have c1 := c0.new (o := .lst []) nk0
    have hk0 : (upd H0 k0 (.lst [])) k0 = some (.lst []) := upd_same
    have d1 := Jl.same_upd (o := .lst []) nk0 _ _ d0
    have hF1 : (upd H k0 (.lst [])) k0 = some (.lst []) := upd_same
    generalize upd H0 k0 (.lst []) = H1 at *
    generalize upd H k0 (.lst []) = F1 at *
    walk_at "w"
    refine Jl.s_seq (Jl.s_forLg (xs := xs) (fun i σ' H' => ∃ (F : Hp) (kb : Addr) (zs : List (V × Jl.KY)), Jl.Act H F H' [m] ∧ Jl.SD K F H' m (Jl.putAll [] ((ps.take i).flatMap Jl.toldS)) ∧ F kb = some (.lst (zs.map (·.1))) ∧ (∀ x ∈ zs, Jl.KeyAt F x.1 x.2) ∧ zs.map (·.2) = (Jl.knownF (ps.take i)).map (·.1) ∧ ∃ v4 v5 v6 v7 v8 v9 v10 v11 v12 v13 v14 v15 v16 v17 v18 : Option V, σ' = [some (.ref P), some (.int by_), some (.ref m), some (.ref kb), v4, v5, v6, v7, v8, v9, v10, v11, v12, v13, v14, v15, v16, v17, v18]) H1 (fun R z => ?_) (c1.same.seq hP) ⟨F1, k0, [], c1, Jl.SD.nil d1, hF1, (fun _ h => nomatch h), rfl, none, none, none, none, none, none, none, none, none, none, none, none, none, none, none, rfl⟩ (fun i σ' H' _ h => ?_) (fun i x σ' H' hi h => ?_) (fun σ' H' h => ?_))
    · walk_at "w"
      exact z
    · obtain ⟨F, kb, zs, c, -⟩ := h
      exact c.same.seq hP
    · obtain ⟨F, kb, zs, c, D, hkb, hzs, ezs, v4, v5, v6, v7, v8, v9, v10, v11, v12, v13, v14, v15, v16, v17, v18, rfl⟩ := h
      obtain ⟨p, hp, hy⟩ := Jl.da_item hx hi
      have hpm := List.mem_of_getElem? hp
      have hfp := W.fine p hpm
      have hnl := hfp.nl
      have hsl := hfp.sl
      obtain ⟨tp, S, N, ss, nv, rfl, htp, hS, hss, hN, hnv⟩ := Jl.dp_piece hy
      have hssl := Jl.da_length hss
      have hnvl := Jl.da_length hnv
      have hil : i < ps.length := (List.getElem?_eq_some_iff.mp hp).1
      have e3 : (ps.take (i + 1)).flatMap Jl.toldS = (ps.take i).flatMap Jl.toldS ++ Jl.toldN p p.names := by
        rw [List.take_add_one, hp, List.flatMap_append]
        show _ ++ (_ ++ []) = _
        rw [List.append_nil]; rfl
      have hl0 : ((ps.take i).flatMap Jl.toldS).length ≤ 64 * 1000 := by
        have h1 := Jl.told_flat_len (ps.take i) fun q hq => (W.fine q (List.mem_of_mem_take hq)).nl
        rw [List.length_take] at h1
        omega
      have hzl : zs.length ≤ 64 * 16 := by
        have h1 := congrArg List.length ezs
        have h2 := Jl.known_len (ps := ps.take i) fun q hq => (W.fine q (List.mem_of_mem_take hq)).sl
        have h3 := List.length_take_le i ps
        rw [List.length_map, List.length_map] at h1
        omega
      refine Jl.s_gTup (Jl.sameT c.same htp) rfl ?_
      walk_at "w"
      refine Jl.s_lcKeys p.name (p.stres.length : Int) (fun R z => ?_) (by omega) (fun x => rfl) (fun i H2 R s2 hi2 hR => ?_) (fun q H2 ws s2 nq hq hws ews => ?_)
      · walk_at "w"
        refine Jl.s_lenL (c.same.seq hS) ?_
        rw [hssl]
        walk_at "w"
        exact z
      · walk_at "w"
        exact ⟨(by show 2 ≤ sizeLine; decide), fun p np => hR p np⟩
      walk_at "w"
      refine ⟨kb, q, _, _, rfl, rfl, .inl (.inl (s2 _ _ (c.ext _ _ hkb))), .inl (.inl hq), ?_, fun p9 np9 => ?_⟩
      · refine Jl.small5 ?_
        have := congrArg List.length ews
        rw [List.length_map, List.length_map, List.length_range] at this
        rw [List.length_map, List.length_map]
        omega
      rw [← List.map_append]
      have s9 := Jl.same_upd (o := .lst ((zs ++ ws).map (·.1))) np9
      obtain ⟨kvs, hm, -⟩ := id D
      obtain ⟨c9, sF9⟩ := c.refresh (s2.trans s9)
      have hm9 := (s2.trans s9) _ _ hm
      have n9 : p9 ≠ m := fun e => by rw [e] at np9; rw [s2 _ _ hm] at np9; cases np9
      have hk9 : (del (upd H2 p9 (.lst ((zs ++ ws).map (·.1)))) m) p9 = some (.lst ((zs ++ ws).map (·.1))) := by rw [del_ne n9]; exact upd_same
      have hz9 : ∀ x ∈ zs ++ ws, Jl.KeyAt (del (upd H2 p9 (.lst ((zs ++ ws).map (·.1)))) m) x.1 x.2 := fun x hx => by
        rcases List.mem_append.mp hx with hx | hx
        · exact (hzs x hx).same sF9
        · exact ((hws x hx).same s9).del hm9
      have ez9 : (zs ++ ws).map (·.2) = (Jl.knownF (ps.take (i + 1))).map (·.1) := by
        rw [List.map_append, ezs, ews, List.take_add_one, hp, Jl.knownF_app, List.map_append, Int.toNat_natCast]
        congr 1
        show _ = (Jl.knownF [p]).map (·.1)
        rw [Jl.knownF_one, Jl.stresL_range]
        refine List.map_congr_left fun j _ => ?_
        rw [Nat.zero_add]
      have D9 := D.ext sF9 (s2.trans s9)
      generalize upd H2 p9 (.lst ((zs ++ ws).map (·.1))) = H9 at *
      generalize del H9 m = F9 at *
      walk_at "w"
      refine Jl.s_forLg (xs := nv) (fun j σ' H2 => ∃ F2, Jl.Act H F2 H2 [m] ∧ Same F9 F2 ∧ Jl.SD K F2 H2 m (Jl.putAll [] ((ps.take i).flatMap Jl.toldS ++ Jl.toldN p (p.names.take j))) ∧ ∃ v7 v8 v9 v10 v11 v12 v13 v14 v15 v16 v17 v18 : Option V, σ' = [some (.ref P), some (.int by_), some (.ref m), some (.ref p9), some (.str p.name), some (.ref S), some (.ref N), v7, v8, v9, v10, v11, v12, v13, v14, v15, v16, v17, v18]) H9 (fun R z => ?_) (c9.same.seq hN) ⟨F9, c9, Same.refl _, by rw [List.take_zero]; show Jl.SD K F9 H9 m (Jl.putAll [] (_ ++ [])); rw [List.append_nil]; exact D9, _, _, _, _, _, _, _, _, _, _, _, _, rfl⟩ (fun j σ' H2 _ h => ?_) (fun j y σ' H2 hj h => ?_) (fun σ' H2 h => ?_)
      · walk_at "w"
        exact z
      · obtain ⟨F2, c2, -⟩ := h
        exact c2.same.seq hN
      · obtain ⟨F2, c2, sF2, D2, v7, v8, v9, v10, v11, v12, v13, v14, v15, v16, v17, v18, rfl⟩ := h
        obtain ⟨q, hq, hz⟩ := Jl.da_item hnv hj
        obtain ⟨tq, rfl, htq⟩ := Jl.dp_nam hz
        have e4 : p.names.take (j + 1) = p.names.take j ++ [q] := by rw [List.take_add_one, hq]; rfl
        refine Jl.s_gTup (Jl.sameT c2.same htq) rfl ?_
        walk_at "w"
        refine Jl.s_iteN (fun g => ?_) (fun g => ?_)
        · refine Jl.s_dput ?_
          walk_at "w"
          refine ⟨(by show 3 ≤ sizeLine; decide), fun tn ntn => ?_⟩
          have c3 := c2.new (o := .tup [.str p.name, .int q.stre, .int q.off]) ntn
          have f3 := Jl.same_upd (o := .tup [.str p.name, .int q.stre, .int q.off]) (c2.ext.free ntn)
          have D3 := D2.ext f3 (Jl.same_upd (o := .tup [.str p.name, .int q.stre, .int q.off]) ntn)
          obtain ⟨o, P3, D4⟩ := D3.put (z := q.name) (Jl.spot_dp (t := p.name) (i := q.stre) (j := q.off) upd_same) (by
            have h1 := Jl.putAll_len ((ps.take i).flatMap Jl.toldS ++ Jl.toldN p (p.names.take j)) []
            have h2 := Jl.toldN_len p (p.names.take j)
            have h3 := List.length_take_le j p.names
            rw [List.length_append, List.length_nil] at h1
            rw [List.length_take] at h2
            omega)
          walk_at "w"
          refine ⟨m, _, rfl, P3, _, c3.upd (by simp), sF2.trans f3, ?_, _, _, _, _, _, _, _, _, _, _, _, _, rfl⟩
          rw [e4, Jl.toldN_snoc, if_neg g, ← List.append_assoc, Jl.putAll_app]
          exact D4
        · refine ⟨F2, c2, sF2, ?_, _, _, _, _, _, _, _, _, _, _, _, _, rfl⟩
          rw [e4, Jl.toldN_snoc, if_pos g]
          exact D2
      · obtain ⟨F2, c2, sF2, D2, v7, v8, v9, v10, v11, v12, v13, v14, v15, v16, v17, v18, rfl⟩ := h
        rw [hnvl, List.take_length] at D2
        refine ⟨F2, p9, zs ++ ws, c2, by rw [e3]; exact D2, sF2 _ _ hk9, fun x hx => (hz9 x hx).same sF2, ez9, _, _, _, _, _, _, _, _, _, _, _, _, _, _, _, rfl⟩
    obtain ⟨F, kb, zs, c, D, hkb, hzs, ezs, v4, v5, v6, v7, v8, v9, v10, v11, v12, v13, v14, v15, v16, v17, v18, rfl⟩ := h
    rw [hxl, List.take_length] at D ezs
    have hL0 : (Jl.lastL ps).length ≤ 2048 := by
      have h1 := Jl.putAll_len (ps.flatMap Jl.toldS) []
      have h2 := Jl.told_flat_len ps fun q hq => (W.fine q hq).nl
      rw [List.length_nil] at h1
      unfold Jl.lastL
      omega
    walk_at "w"
    refine Jl.s_seq (Jl.s_forLg (xs := xs) (fun i σ' H' => ∃ (F2 : Hp) (L : List (Str × PyData)), Same F F2 ∧ Jl.Act H F2 H' [m] ∧ Jl.SD K F2 H' m L ∧ Jl.ValL ps L ∧ Jl.Aims L (Jl.pfs (ps.take i)) ∧ L.length ≤ 2048 + (Jl.pfs (ps.take i)).length ∧ ∃ v11 v12 v13 v14 v15 v16 v17 v18 : Option V, σ' = [some (.ref P), some (.int by_), some (.ref m), some (.ref kb), v4, v5, v6, v7, v8, v9, v10, v11, v12, v13, v14, v15, v16, v17, v18]) H' (fun R z => ?_) (c.same.seq hP) ⟨F, Jl.lastL ps, Same.refl _, c, D, W.told, (fun _ h => nomatch h), Nat.le_trans hL0 (Nat.le_add_right _ _), _, _, _, _, _, _, _, _, rfl⟩ (fun i σ' H' _ h => ?_) (fun i x σ' H' hi h => ?_) (fun σ' H' h => ?_))
    · walk_at "w"
      exact z
    · obtain ⟨F2, L, sF, c, -⟩ := h
      exact c.same.seq hP
    rotate_left
    · obtain ⟨F2, L, sF, c, D, hv, ha, hll, v11, v12, v13, v14, v15, v16, v17, v18, rfl⟩ := h
      rw [hxl, List.take_length] at ha
      walk_at "w"
      refine ⟨(by show 2 ≤ sizeLine; decide), fun t nt => ?_⟩
      have st := Jl.same_upd (o := .tup [.ref m, .ref kb]) nt
      have s9 := sF.trans (c.ext.trans st)
      exact k _ t m kb L zs (c.same.trans st) upd_same (D.ext (c.ext.trans st) st) hv ha (s9 _ _ hkb) (fun x hx => (hzs x hx).same s9) ezs
    obtain ⟨F2, L, sF, c, D, hv, ha, hll, v11, v12, v13, v14, v15, v16, v17, v18, rfl⟩ := h
    obtain ⟨p, hp, hy⟩ := Jl.da_item hx hi
    have hpm := List.mem_of_getElem? hp
    have hfp := W.fine p hpm
    have hyp := hy
    obtain ⟨tp, S, N, ss, nv, rfl, htp, hS, hss, hN, hnv⟩ := Jl.dp_piece hyp
    have hssl := Jl.da_length hss
    have hpt : ps.take (i + 1) = ps.take i ++ [p] := by rw [List.take_add_one, hp]; rfl
    walk_at "w"
    refine Jl.s_forLg (xs := ss) (fun j σ' H' => ∃ (F2 : Hp) (L : List (Str × PyData)), Same F F2 ∧ Jl.Act H F2 H' [m] ∧ Jl.SD K F2 H' m L ∧ Jl.ValL ps L ∧ Jl.Aims L (Jl.pfs (ps.take i) ++ Jl.flP p (p.stres.take j)) ∧ L.length ≤ 2048 + (Jl.pfs (ps.take i) ++ Jl.flP p (p.stres.take j)).length ∧ ∃ v12 v13 v14 v15 v16 v17 v18 : Option V, σ' = [some (.ref P), some (.int by_), some (.ref m), some (.ref kb), v4, v5, v6, v7, v8, v9, v10, some (.ref tp), v12, v13, v14, v15, v16, v17, v18]) H' (fun R z => ?_) (c.same.seq hS) ⟨F2, L, sF, c, D, hv, by rw [List.take_zero]; show Jl.Aims L (_ ++ []); rw [List.append_nil]; exact ha, Nat.le_trans hll (by rw [List.length_append]; omega), _, _, _, _, _, _, _, rfl⟩ (fun j σ' H' _ h => ?_) (fun j y σ' H' hj h => ?_) (fun σ' H' h => ?_)
    · walk_at "w"
      refine Jl.s_ixT (Jl.sameT c.same htp) (i := 1) rfl ?_
      exact z
    · obtain ⟨F2, L, sF, c, -⟩ := h
      exact c.same.seq hS
    rotate_left
    · obtain ⟨F2, L, sF, c, D, hv, ha, hll, v12, v13, v14, v15, v16, v17, v18, rfl⟩ := h
      rw [hssl, List.take_length] at ha hll
      refine ⟨F2, L, sF, c, D, hv, by rw [hpt, Jl.pfs_snoc]; exact ha, by rw [hpt, Jl.pfs_snoc]; exact hll, _, _, _, _, _, _, _, _, rfl⟩
    clear c D hv ha hll
    obtain ⟨F2, L, sF, c, D, hv, ha, hll, v12, v13, v14, v15, v16, v17, v18, rfl⟩ := h
    obtain ⟨s, hs, hsy⟩ := Jl.da_item hss hj
    obtain ⟨tq, W0, Gq, gs, rfl, htq, hW0, hGq, hgs⟩ := Jl.dp_stre hsy
    have hgl := Jl.da_length hgs
    have hst : p.stres.take (j + 1) = p.stres.take j ++ [s] := by rw [List.take_add_one, hs]; rfl
    refine Jl.s_gTup (Jl.sameT c.same htq) rfl ?_
    walk_at "w"
    refine Jl.s_forLg (xs := gs) (fun l σ' H' => ∃ (F2 : Hp) (L : List (Str × PyData)), Same F F2 ∧ Jl.Act H F2 H' [m] ∧ Jl.SD K F2 H' m L ∧ Jl.ValL ps L ∧ Jl.Aims L (Jl.pfs (ps.take i) ++ Jl.flP p (p.stres.take j) ++ (s.fills.take l).map fun f => (p, f)) ∧ L.length ≤ 2048 + (Jl.pfs (ps.take i) ++ Jl.flP p (p.stres.take j) ++ (s.fills.take l).map fun f => (p, f)).length ∧ ∃ v16 v17 v18 : Option V, σ' = [some (.ref P), some (.int by_), some (.ref m), some (.ref kb), v4, v5, v6, v7, v8, v9, v10, some (.ref tp), some (.str s.kind), some (.int s.step), some (.ref W0), some (.ref Gq), v16, v17, v18]) H' (fun R z => ?_) (c.same.seq hGq) ⟨F2, L, sF, c, D, hv, by rw [List.take_zero]; show Jl.Aims L (_ ++ []); rw [List.append_nil]; exact ha, (by rw [List.take_zero]; show _ ≤ _ + (_ ++ []).length; rw [List.append_nil]; exact hll), _, _, _, rfl⟩ (fun l σ' H' _ h => ?_) (fun l y σ' H' hl h => ?_) (fun σ' H' h => ?_)
    · walk_at "w"
      exact z
    · obtain ⟨F2, L, sF, c, -⟩ := h
      exact c.same.seq hGq
    rotate_left
    · obtain ⟨F2, L, sF, c, D, hv, ha, hll, v16, v17, v18, rfl⟩ := h
      rw [hgl, List.take_length] at ha hll
      refine ⟨F2, L, sF, c, D, hv, by rw [hst, Jl.flP_snoc, ← List.append_assoc]; exact ha, by rw [hst, Jl.flP_snoc, ← List.append_assoc]; exact hll, _, _, _, _, _, _, _, rfl⟩
    clear c D hv ha hll
    obtain ⟨F2, L, sF, c, D, hv, ha, hll, v16, v17, v18, rfl⟩ := h
    obtain ⟨f, hf, hfy⟩ := Jl.da_item hgs hl
    have hlt : l < s.fills.length := (List.getElem?_eq_some_iff.mp hf).1
    have htk : (s.fills.take (l + 1)).map (fun f => (p, f)) = (s.fills.take l).map (fun f => (p, f)) ++ [(p, f)] := by rw [List.take_add_one, hf, List.map_append]; rfl
    have hpl := Jl.pfs_take W.fine W.few hp hs (Nat.le_of_lt hlt)
    have hlen1 : (Jl.pfs (ps.take i) ++ Jl.flP p (p.stres.take j) ++ ((s.fills.take l).map (fun f => (p, f)) ++ [(p, f)])).length = (Jl.pfs (ps.take i) ++ Jl.flP p (p.stres.take j) ++ (s.fills.take l).map fun f => (p, f)).length + 1 := by
      rw [← List.append_assoc, List.length_append, List.length_singleton]
    obtain ⟨tf, rfl, htf⟩ := Jl.dp_fill hfy
    have skip : ∀ (H2 : Hp), Same H' H2 → (f.soft = true ∨ Jl.spotOf p L f.name ≠ none) → ∃ (F2 : Hp) (L : List (Str × PyData)), Same F F2 ∧ Jl.Act H F2 H2 [m] ∧ Jl.SD K F2 H2 m L ∧ Jl.ValL ps L ∧ Jl.Aims L (Jl.pfs (ps.take i) ++ Jl.flP p (p.stres.take j) ++ (s.fills.take (l + 1)).map fun f => (p, f)) ∧ L.length ≤ 2048 + (Jl.pfs (ps.take i) ++ Jl.flP p (p.stres.take j) ++ (s.fills.take (l + 1)).map fun f => (p, f)).length := fun H2 s2 hx => by
      rw [htk]
      refine ⟨F2, L, sF, c.sm s2, D.ext (Same.refl _) s2, hv, ?_, by rw [hlen1]; omega⟩
      rw [← List.append_assoc]
      exact ha.snoc hx
    walk_at "w"
    refine Jl.s_ixT (Jl.sameT c.same htf) (i := 4) rfl ?_
    cases hsoft : f.soft with
    | true =>
      walk_at "w"
      obtain ⟨G2, L2, h⟩ := skip H' (Same.refl _) (.inl hsoft)
      obtain ⟨a1, a2, a3, a4, a5, a6⟩ := h
      exact ⟨G2, L2, a1, a2, a3, a4, a5, a6, _, _, _, rfl⟩
    | false =>
      walk_at "w"
      refine use_laim (Jl.dp_same c.same hy) hfp D c.ext hv.spots (Jl.dp_same c.same hfy) ⟨fun t i2 j2 okt es H2 q s2 hq => ?_, fun es H2 s2 => ?_⟩
      · walk_at "w"
        obtain ⟨G2, L2, h⟩ := skip H2 s2 (.inr (fun e => by rw [es] at e; cases e))
        obtain ⟨a1, a2, a3, a4, a5, a6⟩ := h
        exact ⟨G2, L2, a1, a2, a3, a4, a5, a6, _, _, _, rfl⟩
      · have c2 := c.sm s2
        have D2 := D.ext (Same.refl _) s2
        obtain ⟨kvs, hkv, hkvl⟩ := D2.len
        have hkb2 := c2.ext _ _ (sF _ _ hkb)
        have hzn : 0 < zs.length := by
          rcases Nat.eq_zero_or_pos zs.length with e | e
          · have h1 := congrArg List.length ezs
            rw [List.length_map, List.length_map, e] at h1
            exact absurd (List.length_eq_zero_iff.mp h1.symm) hne
          · exact e
        walk_at "w"
        refine ⟨m, kvs, rfl, hkv, ?_⟩
        walk_at "w"
        refine ⟨m, kvs, rfl, hkv, ?_⟩
        walk_at "w"
        try (refine Jl.s_I (Jl.c_mulR (j := (kvs.length : Int)) (by omega) (by omega)) ?_; walk_at "w")
        refine Jl.s_lenL (.inl (.inl hkb2)) ?_
        rw [List.length_map]
        walk_at "w"
        try (refine Jl.s_I (show (0 : Int) < (zs.length : Int) by omega) ?_)
        have b1 := Int.emod_nonneg (by_ + (kvs.length : Int) * (kvs.length : Int)) (show (zs.length : Int) ≠ 0 by omega)
        have b2 := Int.emod_lt_of_pos (by_ + (kvs.length : Int) * (kvs.length : Int)) (show 0 < (zs.length : Int) by omega)
        generalize (by_ + (kvs.length : Int) * (kvs.length : Int)) % (zs.length : Int) = ix at *
        obtain ⟨z, hz⟩ : ∃ z, zs[ix.toNat]? = some z := ⟨_, List.getElem?_eq_getElem (by omega)⟩
        have hzm := List.mem_of_getElem? hz
        have hvk : Jl.VK_ ps z.2 := Jl.known_VK (by rw [← ezs]; exact List.mem_map_of_mem hzm)
        obtain ⟨zb, hzb, hzb2⟩ := ((hzs z hzm).same sF).same c2.ext
        refine Jl.s_ixL (.inl (.inl hkb2)) (v := z.1) (by rw [show ix = ((ix.toNat : Nat) : Int) by omega]; exact atI_nat (by rw [List.getElem?_map, hz]; rfl)) ?_
        rw [hzb]
        walk_at "w"
        refine Jl.s_dput ?_
        walk_at "w"
        refine Jl.tup_at (i := 0) hzb2 rfl ?_
        walk_at "w"
        refine Jl.tup_at (i := 1) hzb2 rfl ?_
        walk_at "w"
        refine ⟨(by show 3 ≤ sizeLine; decide), fun tn ntn => ?_⟩
        have c3 := c2.new (o := .tup [.str z.2.1, .int z.2.2, .int (by_ % 3)]) ntn
        have f3 := Jl.same_upd (o := .tup [.str z.2.1, .int z.2.2, .int (by_ % 3)]) (c2.ext.free ntn)
        have s3 := Jl.same_upd (o := .tup [.str z.2.1, .int z.2.2, .int (by_ % 3)]) ntn
        have D3 := D2.ext f3 s3
        obtain ⟨o, P3, D4⟩ := D3.put (z := f.name) (Jl.spot_dp (t := z.2.1) (i := z.2.2) (j := by_ % 3) upd_same) (by omega)
        walk_at "w"
        refine Jl.s_ixT (Jl.sameT c3.same htf) (i := 2) rfl ?_
        refine ⟨m, _, rfl, P3, _, _, sF.trans f3, c3.upd (by simp), D4, hv.put (W.okK hvk) hvk, ?_, ?_, _, _, _, rfl⟩
        · rw [htk, ← List.append_assoc]
          exact ha.put.snoc (.inr Jl.spotOf_put_same)
        · rw [htk, hlen1]
          have := Jl.putL_len (L := L) (k := f.name) (d := Jl.spotD z.2.1 z.2.2 (by_ % 3))
          omega
/-! ### _law_whole -/
def sp_law_whole : Sp := fun vs H Q _ => ∃ n : Int, vs = [.int n] ∧ Q (.bl true) H
theorem use_whole {n : Int} {H : Hp} {Q : VK} {E : XK} (z : Q (.bl true) H) : sp_law_whole [.int n] H Q E := ⟨n, rfl, z⟩
local macro_rules | `(tactic| walk_at "s") => `(tactic| (with_reducible refine use_whole ?_))
theorem ok_law_whole (T : Txt K mg) : FnOk P w K mg base CX0 1 T.a_law_whole T.d_law_whole ["_law_found"] (sp_law_whole) := by
  refine T.F_law_whole.ok sc_law_whole (fun vs H Q E h => ?_) (fun cdv A outer s H vs Q E hr h => ?_)
  · obtain ⟨n, rfl, k⟩ := h
    rfl
  · obtain ⟨n, rfl, k⟩ := h
    have hu := hu_of hr
    refine ⟨_, (pss_one (ps_ret (pe_and (pe_callB call_isi (by rfl) T.n_isinstance (by decide +kernel) (pa_cons (pv 0) (pa_cons (pe_bltn (v := .ty "int") (u := .type "int") (by rfl) T.n_int (by decide +kernel) rfl) pa_nil))) (pe_one (pe_not (pe_callB call_isi (by rfl) T.n_isinstance (by decide +kernel) (pa_cons (pv 0) (pa_cons (pe_bltn (v := .ty "bool") (u := .type "bool") (by rfl) T.n_bool (by decide +kernel) rfl) pa_nil)))))))), ?_⟩
    show (_ : TS) _ [some (.int n)] H
    walk_at "w"
    exact k
/-! ### _law_key -/
def sp_law_key (K : PySem.W.Frag) : Sp := fun vs H Q _ => ∃ (a : Addr) (q : Jl.KY), vs = [.ref a] ∧ H a = some (.tup [.str q.1, .int q.2]) ∧ Q (.bl true) H
theorem use_key {K : PySem.W.Frag} {a : Addr} {q : Jl.KY} {H : Hp} {Q : VK} {E : XK} (ha : H a = some (.tup [.str q.1, .int q.2])) (z : Q (.bl true) H) : sp_law_key K [.ref a] H Q E := ⟨a, q, rfl, ha, z⟩
theorem ok_law_key (T : Txt K mg) : FnOk P w K mg base CX0 2 T.a_law_key T.d_law_key ["_law_found"] (sp_law_key K) := by
  have G_law_whole := ok_law_whole (P := P) (w := w) (base := base) T
  refine T.F_law_key.ok sc_law_key (fun vs H Q E h => ?_) (fun cdv A outer s H vs Q E hr h => ?_)
  · obtain ⟨a, q, rfl, ha, k⟩ := h
    rfl
  · obtain ⟨a, q, rfl, ha, k⟩ := h
    have hu := hu_of hr
    refine ⟨_, (pss_cons (ps_if (PW.pt (pw_or (pt_not (pt_val (pe_callB call_isi (by rfl) T.n_isinstance (by decide +kernel) (pa_cons (pv 0) (pa_cons (pe_bltn (v := .ty "tuple") (u := .type "tuple") (by rfl) T.n_tuple (by decide +kernel) rfl) pa_nil))))) (pw_or1 (pt_cmpR op_ne (pe_callB (r := Jl.rLenL K) Jl.cl_lenL (by rfl) T.n_len (by decide +kernel) (pa_cons (pv 0) pa_nil)) pe_int (nomark _))))) (pss_one (ps_ret pe_bl)) pss_nil)
      (pss_one (ps_ret (pe_and (pe_callB call_isi (by rfl) T.n_isinstance (by decide +kernel) (pa_cons (pe_ix (r := rIxT K) ix_tup (pv 0) pe_int (fun _ _ => rfl)) (pa_cons (pe_bltn (v := .ty "str") (u := .type "str") (by rfl) T.n_str (by decide +kernel) rfl) pa_nil))) (pe_one (pe_call (G_law_whole) (hr.mono (by decide)) rfl T.m_law_whole T.F_law_whole.kp T.b_law_whole .nil pass0 (pa_cons (pe_ix (r := rIxT K) ix_tup (pv 0) pe_int (fun _ _ => rfl)) pa_nil))))))), ?_⟩
    show (_ : TS) _ [some (.ref a)] H
    walk_at "w"
    refine Jl.s_isi (k := true) (.base (.tup ha)) (kit_ty (by decide +kernel)) ?_
    walk_at "w"
    refine Jl.s_lenT (.inl (.inl ha)) ?_
    walk_at "w"
    refine Jl.s_iteNt (by rfl) ?_
    walk_at "w"
    refine Jl.tup_at (i := 0) ha rfl ?_
    walk_at "w"
    refine Jl.tup_at (i := 1) ha rfl ?_
    walk_at "w"
    exact k
/-! ### _law_led -/
def sp_law_led (K : PySem.W.Frag) : Sp := fun vs H Q _ => ∃ (P m : Addr) (xs : List V) (ps : List Jl.Piece) (L : List (Str × PyData)) (F : Hp) (row th : Addr) (kv xv : V) (at_ : Int) (kk kx : Jl.KY) (zs : List (V × Jl.KY)), vs = [.ref P, .ref m, .ref row, .ref th] ∧ SqL K H P xs ∧ DpAll K H xs (ps.map Jl.pieceD) ∧ Jl.SD K F H m L ∧ Same F H ∧ Jl.Way ps L ∧ Jl.AtNd ps ∧ H row = some (.tup [kv, xv, .int at_]) ∧ Jl.KeyAt H kv kk ∧ Jl.KeyAt H xv kx ∧ H th = some (.lst (zs.map (·.1))) ∧ (∀ x ∈ zs, Jl.KeyAt H x.1 x.2) ∧ (∀ k ∈ zs.map (·.2), Jl.okS k.1) ∧ Jl.okS kk.1 ∧ kk ∉ zs.map (·.2) ∧ kx ∈ zs.map (·.2) ∧ Jl.VK_ ps kx ∧ (kk, at_) ∈ Jl.TT_ ps L kx ∧ ∀ H', Same H H' → Q (.bl true) H'
theorem use_led {K : PySem.W.Frag} {P m : Addr} {xs : List V} {ps : List Jl.Piece} {L : List (Str × PyData)} {F : Hp} {row th : Addr} {kv xv : V} {at_ : Int} {kk kx : Jl.KY} {zs : List (V × Jl.KY)} {H : Hp} {Q : VK} {E : XK} (hP : SqL K H P xs) (hx : DpAll K H xs (ps.map Jl.pieceD)) (D : Jl.SD K F H m L) (sF : Same F H) (W : Jl.Way ps L) (hat : Jl.AtNd ps) (hl : H row = some (.tup [kv, xv, .int at_]) ∧ Jl.KeyAt H kv kk ∧ Jl.KeyAt H xv kx ∧ H th = some (.lst (zs.map (·.1))) ∧ (∀ x ∈ zs, Jl.KeyAt H x.1 x.2) ∧ (∀ k ∈ zs.map (·.2), Jl.okS k.1) ∧ Jl.okS kk.1 ∧ kk ∉ zs.map (·.2) ∧ kx ∈ zs.map (·.2) ∧ Jl.VK_ ps kx ∧ (kk, at_) ∈ Jl.TT_ ps L kx) (z : ∀ H', Same H H' → Q (.bl true) H') : sp_law_led K [.ref P, .ref m, .ref row, .ref th] H Q E := by
  obtain ⟨h1, h2, h3, h4, h5, h6, h7, h8, h9, h10, h11⟩ := hl
  exact ⟨P, m, xs, ps, L, F, row, th, kv, xv, at_, kk, kx, zs, rfl, hP, hx, D, sF, W, hat, h1, h2, h3, h4, h5, h6, h7, h8, h9, h10, h11, z⟩
theorem ok_law_led (T : Txt K mg) : FnOk P w K mg base CX0 3 T.a_law_led T.d_law_led ["_law_pieces", "_law_some", "_law_row", "_law_there"] (sp_law_led K) := by
  have G_law_aim := ok_law_aim (P := P) (w := w) (base := base) T
  have G_law_whole := ok_law_whole (P := P) (w := w) (base := base) T
  have G_law_key := ok_law_key (P := P) (w := w) (base := base) T
  refine T.F_law_led.ok sc_law_led (fun vs H Q E h => ?_) (fun cdv A outer s H vs Q E hr h => ?_)
  · obtain ⟨P, m, xs, ps, L, F, row, th, kv, xv, at_, kk, kx, zs, rfl, hP, hx, D, sF, W, hat, hrow, hkv, hxv, hth, hzs, hzok, hok, hnk, hkx, hvx, htt, k⟩ := h
    rfl
  · obtain ⟨P, m, xs, ps, L, F, row, th, kv, xv, at_, kk, kx, zs, rfl, hP, hx, D, sF, W, hat, hrow, hkv, hxv, hth, hzs, hzok, hok, hnk, hkx, hvx, htt, k⟩ := h
    have hu := hu_of hr
    refine ⟨_, (pss_cons (ps_asg (pv 2) (pg_tup rfl (pgs_cons (pg_name (i := 4) sc_law_led.nd rfl (Or.inl rfl)) (pgs_cons (pg_name (i := 5) sc_law_led.nd rfl (Or.inl rfl)) (pgs_cons (pg_name (i := 6) sc_law_led.nd rfl (Or.inl rfl)) pgs_nil)))))
      (pss_cons (ps_if (PW.pt (pw_or (pt_not (pt_val (pe_call (G_law_key) (hr.mono (by decide)) rfl T.m_law_key T.F_law_key.kp T.b_law_key .nil pass0 (pa_cons (pv 4) pa_nil)))) (pw_or (pt_not (pt_val (pe_call (G_law_key) (hr.mono (by decide)) rfl T.m_law_key T.F_law_key.kp T.b_law_key .nil pass0 (pa_cons (pv 5) pa_nil)))) (pw_or (pt_not (pt_val (pe_call (G_law_whole) (hr.mono (by decide)) rfl T.m_law_whole T.F_law_whole.kp T.b_law_whole .nil pass0 (pa_cons (pv 6) pa_nil)))) (pw_or (pt_cmpR (op_inD (Jl.units65 hr)) (pv 4) (pv 3) rfl) (pw_or1 (pt_cmpR (op_notInD (Jl.units65 hr)) (pv 5) (pv 3) rfl))))))) (pss_one (ps_ret pe_bl)) pss_nil)
      (pss_cons (ps_for PassesOwn.never rfl (pi_list (pv 0)) (pg_name (i := 7) sc_law_led.nd rfl (Or.inl rfl)) (pss_one (ps_if (pt_cmpR op_eq (pe_ix (r := rIxT K) ix_tup (pv 7) pe_int (fun _ _ => rfl)) (pe_ix (r := rIxT K) ix_tup (pv 5) pe_int (fun _ _ => rfl)) (nomark _)) (pss_one (ps_for PassesOwn.never rfl (pi_list (pe_ix (r := rIxT K) ix_tup (pe_ix (r := rIxL K) ix_list (pe_ix (r := rIxT K) ix_tup (pv 7) pe_int (fun _ _ => rfl)) (pe_ix (r := rIxT K) ix_tup (pv 5) pe_int (fun _ _ => rfl)) (fun _ _ => rfl)) pe_int (fun _ _ => rfl))) (pg_name (i := 8) sc_law_led.nd rfl (Or.inl rfl)) (pss_one (ps_if (pt_cmpR op_eq (pe_ix (r := rIxT K) ix_tup (pv 8) pe_int (fun _ _ => rfl)) (pv 6) (nomark _)) (pss_one (ps_ret (pe_cmpR (op_eqD hr.units) (pe_call (G_law_aim) (hr.mono (by decide)) rfl T.m_law_aim T.F_law_aim.kp T.b_law_aim .nil pass0 (pa_cons (pv 7) (pa_cons (pv 1) (pa_cons (pv 8) pa_nil)))) (pv 4) (nomark _)))) pss_nil)))) pss_nil)))
      (pss_one (ps_ret pe_bl))))), ?_⟩
    show (_ : TS) _ [some (.ref P), some (.ref m), some (.ref row), some (.ref th), none, none, none, none, none] H
    obtain ⟨p, hp, hpn, hk0, st, hst, f, hf, htg, hfa⟩ := Jl.TT_mem W hvx htt
    obtain ⟨jj, hsp⟩ := Jl.tgt_spot htg
    obtain ⟨bk, rfl, hbk⟩ := hkv
    obtain ⟨bx, rfl, hbx⟩ := hxv
    have hxl := Jl.da_length hx
    walk_at "w"
    refine use_key hbk ?_
    walk_at "w"
    refine use_key hbx ?_
    walk_at "w"
    refine ⟨Jl.keyD kk, (zs.map (·.2)).map Jl.keyD, Jl.KeyAt.dp ⟨bk, rfl, hbk⟩, .lst (.inl (.inl hth)) (Jl.keys_dps hzs), Jl.key_shaped hok, Jl.keys_shaped hzok, ?_⟩
    rw [Jl.keys_any, decide_eq_false hnk]
    walk_at "w"
    refine ⟨Jl.keyD kx, (zs.map (·.2)).map Jl.keyD, Jl.KeyAt.dp ⟨bx, rfl, hbx⟩, .lst (.inl (.inl hth)) (Jl.keys_dps hzs), Jl.key_shaped (hzok _ hkx), Jl.keys_shaped hzok, ?_⟩
    rw [Jl.keys_any, decide_eq_true hkx]
    walk_at "w"
    refine Jl.s_seq (Jl.s_forLg (xs := xs) (fun i σ' H' => H' = H ∧ (∀ q ∈ ps.take i, q.name ≠ kx.1) ∧ ∃ v7 v8 : Option V, σ' = [some (.ref P), some (.ref m), some (.ref row), some (.ref th), some (.ref bk), some (.ref bx), some (.int at_), v7, v8]) H (fun R z => ?_) hP ⟨rfl, by rw [List.take_zero]; exact (fun _ h => nomatch h), none, none, rfl⟩ (fun i σ' H' _ h => by rw [h.1]; exact hP) (fun i x σ' H' hi h => ?_) (fun σ' H' h => ?_))
    · walk_at "w"
      exact z
    · obtain ⟨rfl, hne, v7, v8, rfl⟩ := h
      obtain ⟨q, hq, hy⟩ := Jl.da_item hx hi
      have hy0 := hy
      have hqm := List.mem_of_getElem? hq
      obtain ⟨tp, S, N, ss, nv, rfl, htp, hS, hss, -, -⟩ := Jl.dp_piece hy0
      have htk : ps.take (i + 1) = ps.take i ++ [q] := by rw [List.take_add_one, hq]; rfl
      walk_at "w"
      refine Jl.s_ixT htp (i := 0) rfl ?_
      walk_at "w"
      refine Jl.tup_at (i := 0) hbx rfl ?_
      walk_at "w"
      refine Jl.s_iteD (fun g => ?_) (fun g => ?_)
      · have e : q = p := by
          have h1 := Jl.pieceAt_mem W.nd hqm
          rw [g, ← hpn, Jl.pieceAt_mem W.nd hp] at h1
          exact h1.symm
        subst e
        obtain ⟨sy, hsy, hsd⟩ := Jl.da_item' hss hst
        obtain ⟨tq, W0, Gq, gs, rfl, htq, hW0, hGq, hgs⟩ := Jl.dp_stre hsd
        have hgl := Jl.da_length hgs
        walk_at "w"
        refine Jl.s_forLg (xs := gs) (fun j σ' H2 => H2 = H' ∧ (∀ f' ∈ st.fills.take j, f'.at_ ≠ at_) ∧ ∃ v8 : Option V, σ' = [some (.ref P), some (.ref m), some (.ref row), some (.ref th), some (.ref bk), some (.ref bx), some (.int at_), some (.ref tp), v8]) H' (fun R z => ?_) hGq ⟨rfl, by rw [List.take_zero]; exact (fun _ h => nomatch h), _, rfl⟩ (fun j σ' H2 _ h => by rw [h.1]; exact hGq) (fun j y σ' H2 hj h => ?_) (fun σ' H2 h => ?_)
        · walk_at "w"
          refine Jl.s_ixT htp (i := 1) rfl ?_
          walk_at "w"
          refine Jl.tup_at (i := 1) hbx rfl ?_
          walk_at "w"
          refine Jl.s_ixL hS (by rw [show kx.2 = ((kx.2.toNat : Nat) : Int) by omega]; exact atI_nat hsy) ?_
          walk_at "w"
          refine Jl.s_ixT htq (i := 3) rfl ?_
          exact z
        · obtain ⟨rfl, hnf, v8, rfl⟩ := h
          obtain ⟨f', hf', hfy⟩ := Jl.da_item hgs hj
          have hfy0 := hfy
          obtain ⟨tf, rfl, htf⟩ := Jl.dp_fill hfy0
          walk_at "w"
          refine Jl.s_ixT htf (i := 0) rfl ?_
          walk_at "w"
          refine Jl.s_iteD (fun g2 => ?_) (fun g2 => ?_)
          · have e := Jl.at_first (hat q hqm st (List.mem_of_getElem? hst)) hf' hf (g2.trans hfa.symm)
            subst e
            walk_at "w"
            refine use_laim hy (W.fine q hqm) D sF W.spots hfy ⟨fun t i' j' okt es H3 q3 s3 hq3 => ?_, fun es H3 s3 => ?_⟩
            · rw [hsp] at es
              obtain ⟨e1, e2, -⟩ := Jl.spotD_inj (Option.some.inj es)
              subst e1 e2
              walk_at "w"
              exact Jl.s_eqSame (Jl.KeyAt.dp ⟨q3, rfl, hq3⟩) (Jl.KeyAt.dp ⟨bk, rfl, s3 _ _ hbk⟩) (Jl.key_shaped hok) (k _ s3)
            · rw [hsp] at es; cases es
          · refine ⟨rfl, fun f2 hf2 => ?_, _, rfl⟩
            rw [List.take_add_one, hf'] at hf2
            rcases List.mem_append.mp hf2 with h | h
            · exact hnf f2 h
            · rw [List.mem_singleton.mp h]; exact g2
        · obtain ⟨rfl, hnf, -⟩ := h
          rw [hgl, List.take_length] at hnf
          exact absurd hfa (hnf f hf)
      · refine ⟨rfl, fun q2 hq2 => ?_, _, _, rfl⟩
        rw [htk] at hq2
        rcases List.mem_append.mp hq2 with h | h
        · exact hne q2 h
        · rw [List.mem_singleton.mp h]; exact g
    obtain ⟨rfl, hne, -⟩ := h
    rw [hxl, List.take_length] at hne
    exact absurd hpn (hne p hp)
/-! ### _law_walked -/
def sp_law_walked (K : PySem.W.Frag) : Sp := fun vs H Q _ => ∃ (R P m : Addr) (rv : V) (xs : List V) (ps : List Jl.Piece) (L : List (Str × PyData)) (F : Hp) (rs : List (V × Jl.RW)) (root : Jl.KY) (n : Nat), vs = [.ref R, .ref P, .ref m, rv] ∧ SqL K H P xs ∧ DpAll K H xs (ps.map Jl.pieceD) ∧ Jl.SD K F H m L ∧ Same F H ∧ Jl.Way ps L ∧ Jl.AtNd ps ∧ H R = some (.lst (rs.map (·.1))) ∧ (∀ x ∈ rs, Jl.RwAt H x.1 x.2) ∧ rs.map (·.2) = Jl.bfs (Jl.TT_ ps L) root n ∧ rs.length ≤ n ∧ Jl.KeyAt H rv root ∧ Jl.VK_ ps root ∧ Jl.Pcs ps ∧ ∀ H', Same H H' → Q (.bl true) H'
theorem use_walked {K : PySem.W.Frag} {P m : Addr} {xs : List V} {ps : List Jl.Piece} {L : List (Str × PyData)} {F : Hp} {R : Addr} {rv : V} {rs : List (V × Jl.RW)} {root : Jl.KY} {n : Nat} {H : Hp} {Q : VK} {E : XK} (hP : SqL K H P xs) (hx : DpAll K H xs (ps.map Jl.pieceD)) (D : Jl.SD K F H m L) (sF : Same F H) (W : Jl.Way ps L) (hat : Jl.AtNd ps) (hR : H R = some (.lst (rs.map (·.1)))) (hrs : ∀ x ∈ rs, Jl.RwAt H x.1 x.2) (hbf : rs.map (·.2) = Jl.bfs (Jl.TT_ ps L) root n) (hn : rs.length ≤ n) (hrv : Jl.KeyAt H rv root) (hroot : Jl.VK_ ps root) (PC : Jl.Pcs ps) (z : ∀ H', Same H H' → Q (.bl true) H') : sp_law_walked K [.ref R, .ref P, .ref m, rv] H Q E := ⟨R, P, m, rv, xs, ps, L, F, rs, root, n, rfl, hP, hx, D, sF, W, hat, hR, hrs, hbf, hn, hrv, hroot, PC, z⟩
theorem ok_law_walked (T : Txt K mg) : FnOk P w K mg base CX0 4 T.a_law_walked T.d_law_walked ["_law_found", "_law_pieces", "_law_some", "_law_root"] (sp_law_walked K) := by
  have G_law_key := ok_law_key (P := P) (w := w) (base := base) T
  have G_law_led := ok_law_led (P := P) (w := w) (base := base) T
  refine T.F_law_walked.ok sc_law_walked (fun vs H Q E h => ?_) (fun cdv A outer s H vs Q E hr h => ?_)
  · obtain ⟨R, P, m, rv, xs, ps, L, F, rs, root, n, rfl, hP, hx, D, sF, W, hat, hR, hrs, hbf, hn, hrv, hroot, PC, k⟩ := h
    rfl
  · obtain ⟨R, P, m, rv, xs, ps, L, F, rs, root, n, rfl, hP, hx, D, sF, W, hat, hR, hrs, hbf, hn, hrv, hroot, PC, k⟩ := h
    have hu := hu_of hr
    refine ⟨_, (pss_cons (ps_if (PW.pt (pw_or (pt_not (pt_val (pe_callB call_isi (by rfl) T.n_isinstance (by decide +kernel) (pa_cons (pv 0) (pa_cons (pe_bltn (v := .ty "list") (u := .type "list") (by rfl) T.n_list (by decide +kernel) rfl) pa_nil))))) (pw_or1 (pt_cmpR (op_eqD hr.units) (pv 0) (pe_lst pa_nil) (nomark _))))) (pss_one (ps_ret pe_bl)) pss_nil)
      (pss_cons (ps_if (PW.pt (pw_or (pt_not (pt_val (pe_callB call_isi (by rfl) T.n_isinstance (by decide +kernel) (pa_cons (pe_ix (r := rIxL K) ix_list (pv 0) pe_int (fun _ _ => rfl)) (pa_cons (pe_bltn (v := .ty "tuple") (u := .type "tuple") (by rfl) T.n_tuple (by decide +kernel) rfl) pa_nil))))) (pw_or (pt_cmpR (op_neD hr.units) (pe_ix (r := rIxL K) ix_list (pv 0) pe_int (fun _ _ => rfl)) (pe_tup (pa_cons (pv 3) (pa_cons pe_non (pa_cons pe_non pa_nil)))) (nomark _)) (pw_or1 (pt_not (pt_val (pe_call (G_law_key) (hr.mono (by decide)) rfl T.m_law_key T.F_law_key.kp T.b_law_key .nil pass0 (pa_cons (pe_ix (r := rIxT K) ix_tup (pe_ix (r := rIxL K) ix_list (pv 0) pe_int (fun _ _ => rfl)) pe_int (fun _ _ => rfl)) pa_nil)))))))) (pss_one (ps_ret pe_bl)) pss_nil)
      (pss_cons (ps_set (i := 4) sc_law_walked.nd rfl (Or.inl rfl) (pe_lst (pa_cons (pv 3) pa_nil)))
      (pss_cons (ps_for PassesOwn.never rfl (pi_list (pe_slice (r := rSlL K) sl_list (pv 0) (po_some pe_int) po_none)) (pg_name (i := 5) sc_law_walked.nd rfl (Or.inl rfl)) (pss_cons (ps_if (PW.pt (pw_or (pt_not (pt_val (pe_callB call_isi (by rfl) T.n_isinstance (by decide +kernel) (pa_cons (pv 5) (pa_cons (pe_bltn (v := .ty "tuple") (u := .type "tuple") (by rfl) T.n_tuple (by decide +kernel) rfl) pa_nil))))) (pw_or (pt_cmpR op_ne (pe_callB (r := Jl.rLenL K) Jl.cl_lenL (by rfl) T.n_len (by decide +kernel) (pa_cons (pv 5) pa_nil)) pe_int (nomark _)) (pw_or1 (pt_not (pt_val (pe_call (G_law_led) (hr.mono (by decide)) rfl T.m_law_led T.F_law_led.kp T.b_law_led .nil pass0 (pa_cons (pv 1) (pa_cons (pv 2) (pa_cons (pv 5) (pa_cons (pv 4) pa_nil))))))))))) (pss_one (ps_ret pe_bl)) pss_nil)
      (pss_one (ps_expr (pe_bm PySem.F.plainAttrs_list PySem.F.slot_list_append PySem.F.type_list_append mt_append (pv 4) (pa_cons (pe_ix (r := rIxT K) ix_tup (pv 5) pe_int (fun _ _ => rfl)) pa_nil))))))
      (pss_one (ps_ret pe_bl)))))), ?_⟩
    show (_ : TS) _ [some (.ref R), some (.ref P), some (.ref m), some (rv), none, none] H
    have hok := Jl.bfs_ok PC W hroot n
    have hall := Jl.bfs_all hroot (fun k hk => W.TT hk) n
    have hled := Jl.bfs_led (T := Jl.TT_ ps L) (root := root) n
    have hlen := W.len hroot n
    have hfirst := Jl.bfs_first (T := Jl.TT_ ps L) (root := root) n
    have hfresh : ∀ i r, (Jl.bfs (Jl.TT_ ps L) root n)[i]? = some r → r.1 ∉ ((Jl.bfs (Jl.TT_ ps L) root n).take i).map (·.1) := fun i r => Jl.bfs_fresh
    have hrl : rs.length = (Jl.bfs (Jl.TT_ ps L) root n).length := by rw [← hbf, List.length_map]
    generalize Jl.bfs (Jl.TT_ ps L) root n = bs at *
    have hnil : ¬ (rs.map (·.2)).map Jl.wayD = [] := fun h => by
      rw [hbf] at h
      rw [List.map_eq_nil_iff.mp h] at hfirst
      cases hfirst
    have hat_ : ∀ (i : Nat) r, bs[i]? = some r → ∃ x, rs[i]? = some (x, r) := fun i r h => by
      rw [← hbf, List.getElem?_map] at h
      cases e : rs[i]? with
      | none => rw [e] at h; cases h
      | some x => rw [e] at h; cases h; exact ⟨x.1, rfl⟩
    have hdp := Jl.ways_dps (K := K) hrs
    have hsh : SeqAt.shaped (.list ((rs.map (·.2)).map Jl.wayD)) = true := Jl.ways_shaped (by rw [hbf]; exact hok)
    obtain ⟨x0, hx0⟩ := hat_ 0 _ hfirst
    have hr0 := hrs _ (List.mem_of_getElem? hx0)
    have hr0d := hr0.dp (K := K)
    obtain ⟨b0, kv0, y1, y2, e0, hb0, hkv0, -⟩ := id hr0
    have e0 : x0 = .ref b0 := e0
    subst e0
    obtain ⟨c0, rfl, hc0⟩ := hkv0
    have hix0 : (rs.map (·.1))[0]? = some (.ref b0) := by rw [List.getElem?_map, hx0]; rfl
    walk_at "w"
    refine Jl.s_isi (k := true) (.base (.lst hR)) (kit_ty (by decide +kernel)) ?_
    walk_at "w"
    refine ⟨by decide, fun p1 n1 => ?_⟩
    have s1 := Jl.same_upd (o := .lst []) n1
    walk_at "w"
    refine Jl.s_eqNil' (.lst (.inl (.inl (s1 _ _ hR))) (Jl.dps_same s1 hdp)) hsh upd_same ?_
    rw [decide_eq_false hnil]
    generalize upd H p1 (.lst []) = H1 at *
    walk_at "w"
    refine Jl.s_ixL (.inl (.inl (s1 _ _ hR))) (atI_nat hix0) ?_
    walk_at "w"
    refine Jl.s_isi (k := true) (.base (.tup (s1 _ _ hb0))) (kit_ty (by decide +kernel)) ?_
    walk_at "w"
    refine Jl.s_ixL (.inl (.inl (s1 _ _ hR))) (atI_nat hix0) ?_
    walk_at "w"
    refine ⟨(by show 3 ≤ sizeLine; decide), fun p2 n2 => ?_⟩
    have s2 := Jl.same_upd (o := .tup [rv, .non, .non]) n2
    have s12 := s1.trans s2
    walk_at "w"
    refine Jl.s_neSame (d := Jl.wayD (root, none)) (Jl.dp_same s12 hr0d) (.tup (.inl (.inl upd_same)) (.cons (hrv.same s12).dp (.cons .non (.cons .non .nil)))) (Jl.way_shaped (hok _ (List.mem_of_getElem? hfirst))) ?_
    clear s1
    generalize upd H1 p2 (.tup [rv, .non, .non]) = H2 at *
    clear s2
    walk_at "w"
    refine Jl.s_ixL (.inl (.inl (s12 _ _ hR))) (atI_nat hix0) ?_
    walk_at "w"
    refine Jl.tup_at (i := 0) (s12 _ _ hb0) rfl ?_
    walk_at "w"
    refine use_key (q := root) (s12 _ _ hc0) ?_
    walk_at "w"
    refine ⟨(by show 1 ≤ sizeLine; decide), fun th nth => ?_⟩
    have c3 : Jl.Act H H2 (upd H2 th (.lst [rv])) [th] := ⟨s12, Jl.same_upd nth, fun b hb => by cases List.mem_singleton.mp hb; exact ⟨nth, _, upd_same⟩, List.nodup_cons.mpr ⟨List.not_mem_nil, List.nodup_nil⟩⟩
    have hth3 : (upd H2 th (.lst [rv])) th = some (.lst [rv]) := upd_same
    have hrv2 := hrv.same s12
    generalize upd H2 th (.lst [rv]) = H3 at *
    walk_at "w"
    refine Jl.s_seq (Jl.s_forN (xs := (rs.map (·.1)).drop 1) (fun pa i σ' H' => ∃ (G : Hp) (zs : List (V × Jl.KY)) (v : Option V), Jl.Act H G H' [th] ∧ G pa = some (.lst ((rs.map (·.1)).drop 1)) ∧ H' th = some (.lst (zs.map (·.1))) ∧ (∀ x ∈ zs, Jl.KeyAt G x.1 x.2) ∧ zs.map (·.2) = (bs.take (i + 1)).map (·.1) ∧ σ' = [some (.ref R), some (.ref P), some (.ref m), some rv, some (.ref th), v]) (fun Rk z => ?_) (fun pa na => ?_) (fun pa i σ' H' na _ h => ?_) (fun pa i x σ' H' na hi h => ?_) (fun pa σ' H' na h => ?_))
    · walk_at "w"
      refine ⟨R, _, rfl, .inl (.inl (c3.same _ _ hR)), fun p np => ?_⟩
      rw [Jl.cutV_tl]
      exact z p np
    · have c4 := c3.new (o := .lst ((rs.map (·.1)).drop 1)) na
      have hne : th ≠ pa := fun e => by rw [← e, hth3] at na; cases na
      refine ⟨_, [(rv, root)], none, c4, upd_same, by rw [upd_ne hne]; exact hth3, fun x hx => ?_, ?_, rfl⟩
      · rw [List.mem_singleton.mp hx]
        exact hrv2.same (Jl.same_upd (c3.ext.free na))
      · cases bs with
        | nil => cases hfirst
        | cons b bs =>
          have e : b = (root, none) := Option.some.inj hfirst
          rw [e]; rfl
    · obtain ⟨G, zs, v, c, hpa, -⟩ := h
      exact .inl (.inl (c.ext _ _ hpa))
    · obtain ⟨G, zs, v, c, hpa, hth, hzs, ezs, rfl⟩ := h
      rw [List.getElem?_drop] at hi
      obtain ⟨r, hr⟩ : ∃ r, rs[1 + i]? = some (x, r) := by
        rw [List.getElem?_map] at hi
        cases e : rs[1 + i]? with
        | none => rw [e] at hi; cases hi
        | some z => rw [e] at hi; cases hi; exact ⟨z.2, rfl⟩
      have hbr : bs[i + 1]? = some r := by
        rw [← hbf, List.getElem?_map, show i + 1 = 1 + i by omega, hr]; rfl
      have hrm := List.mem_of_getElem? hbr
      obtain ⟨kx, at_, er, htt, hkx⟩ := hled _ _ hbr (by omega)
      have hb1 := (hrs _ (List.mem_of_getElem? hr)).same c.same
      obtain ⟨b1, kv, w1, w2, e1, hb1, hkv, h4⟩ := hb1
      have e1 : x = .ref b1 := e1
      subst e1
      rcases h4 with ⟨e, -⟩ | ⟨k', a', e, hkx', e2⟩
      · rw [er] at e; cases e
      rw [er] at e
      cases e
      subst e2
      have hzok : ∀ k ∈ zs.map (·.2), Jl.okS k.1 := fun k hk => by
        rw [ezs] at hk
        obtain ⟨r2, hr2, rfl⟩ := List.mem_map.mp hk
        exact (hok r2 (List.mem_of_mem_take hr2)).1
      have hzl : zs.length ≤ 4096 := by
        have h1 := congrArg List.length ezs
        rw [List.length_map, List.length_map, List.length_take] at h1
        omega
      simp only [List.set_cons_zero, List.set_cons_succ]
      walk_at "w"
      refine Jl.s_isi (k := true) (.base (.tup hb1)) (kit_ty (by decide +kernel)) ?_
      walk_at "w"
      refine Jl.s_lenT (.inl (.inl hb1)) ?_
      walk_at "w"
      refine Jl.s_iteNt (by rfl) ?_
      walk_at "w"
      refine use_led (zs := zs) (c.same.seq hP) (Jl.dps_same c.same hx) (D.ext (Same.refl _) c.same) (sF.trans c.same) W hat ⟨hb1, hkv, hkx', hth, fun x hx => (hzs x hx).same c.ext, hzok, (hok r hrm).1, by rw [ezs]; exact hfresh _ _ hbr, by rw [ezs]; exact hkx, ?_, htt⟩ (fun H5 s5 => ?_)
      · obtain ⟨r2, hr2, e3⟩ := List.mem_map.mp hkx
        rw [← e3]
        exact hall r2 (List.mem_of_mem_take hr2)
      have c5 := c.sm s5
      have hth5 := s5 _ _ hth
      obtain ⟨bv, rfl, hbv⟩ := hkv
      have hbv5 := s5 _ _ hbv
      have hbA : bv ∉ [th] := fun h => by rw [List.mem_singleton.mp h, hth] at hbv; cases hbv
      obtain ⟨G6, sG6, c6, hbG⟩ := c5.frz hbv5 hbA
      walk_at "w"
      refine Jl.tup_at (i := 0) (s5 _ _ hb1) rfl ?_
      refine Jl.s_nil ?_
      refine Jl.s_append hth5 ?_ (Jl.small5' (by rw [List.length_map]; omega))
      refine ⟨G6, zs ++ [(.ref bv, r.1)], _, c6.upd (by simp), sG6 _ _ hpa, ?_, fun x hx => ?_, ?_, rfl⟩
      · rw [upd_same, List.map_append]; rfl
      · rcases List.mem_append.mp hx with hx | hx
        · exact (hzs x hx).same sG6
        · rw [List.mem_singleton.mp hx]; exact ⟨bv, rfl, hbG⟩
      · rw [List.map_append, ezs, List.take_add_one (i := i + 1), hbr, List.map_append]; rfl
    obtain ⟨G, zs, v, c, hpa, hth, hzs, ezs, rfl⟩ := h
    walk_at "w"
    exact k _ c.same
/-! ### law -/
def sp_law (K : PySem.W.Frag) : Sp := fun vs H Q _ => ∃ (a : Addr) (ns : List Int), vs = [.ref a] ∧ SqL K H a (ns.map V.int) ∧ ns.length ≤ 63 ∧ ∀ H', Q (.bl true) H'
theorem ok_law (T : Txt K mg) : FnOk P w K mg base CX0 5 T.a_law T.d_law ["_law_script"] (sp_law K) := by
  have G_reached := ok_reached (P := P) (w := w) (base := base) T
  have G_law_cell_at := ok_law_cell_at (P := P) (w := w) (base := base) T
  have G_law_name_by := ok_law_name_by (P := P) (w := w) (base := base) T
  have G_law_drawn := ok_law_drawn (P := P) (w := w) (base := base) T
  have G_law_copy := ok_law_copy (P := P) (w := w) (base := base) T
  have G_law_names := ok_law_names (P := P) (w := w) (base := base) T
  have G_law_walked := ok_law_walked (P := P) (w := w) (base := base) T
  refine T.F_law.ok sc_law (fun vs H Q E h => ?_) (fun cdv A outer s H vs Q E hr h => ?_)
  · obtain ⟨a, ns, rfl, hS, hlen, k⟩ := h
    rfl
  · obtain ⟨a, ns, rfl, hS, hlen, k⟩ := h
    have hu := hu_of hr
    refine ⟨_, (pss_cons (ps_set (i := 1) sc_law.nd rfl (Or.inl rfl) (pe_call (G_law_cell_at) (hr.mono (by decide)) rfl T.m_law_cell_at T.F_law_cell_at.kp T.b_law_cell_at .nil pass0 (pa_cons (pv 0) (pa_cons pe_int pa_nil))))
      (pss_cons (ps_set (i := 2) sc_law.nd rfl (Or.inl rfl) (pe_call (G_law_cell_at) (hr.mono (by decide)) rfl T.m_law_cell_at T.F_law_cell_at.kp T.b_law_cell_at .nil pass0 (pa_cons (pv 0) (pa_cons pe_int pa_nil))))
      (pss_cons (ps_set (i := 3) sc_law.nd rfl (Or.inl rfl) (pe_call (G_law_cell_at) (hr.mono (by decide)) rfl T.m_law_cell_at T.F_law_cell_at.kp T.b_law_cell_at .nil pass0 (pa_cons (pv 0) (pa_cons pe_int pa_nil))))
      (pss_cons (ps_set (i := 4) sc_law.nd rfl (Or.inl rfl) (pe_call (G_law_drawn) (hr.mono (by decide)) rfl T.m_law_drawn T.F_law_drawn.kp T.b_law_drawn .nil pass0 (pa_cons (pe_slice (r := rSlL K) sl_list (pv 0) (po_some pe_int) (po_some pe_int)) (pa_cons (pv 1) (pa_cons (pv 2) (pa_cons pe_bl pa_nil))))))
      (pss_cons (ps_set (i := 5) sc_law.nd rfl (Or.inl rfl) (pe_tup (pa_cons pe_int (pa_cons pe_str (pa_cons (pe_call (G_law_name_by) (hr.mono (by decide)) rfl T.m_law_name_by T.F_law_name_by.kp T.b_law_name_by .nil pass0 (pa_cons (pv 1) (pa_cons (pe_op op_mod (pe_op op_fdiv (pv 3) pe_int) pe_int) pa_nil))) (pa_cons (pe_op op_mod (pv 3) pe_int) (pa_cons pe_bl pa_nil)))))))
      (pss_cons (ps_expr (pe_bm PySem.F.plainAttrs_list PySem.F.slot_list_append PySem.F.type_list_append mt_append (pv 4) (pa_cons (pe_tup (pa_cons (pe_call (G_law_name_by) (hr.mono (by decide)) rfl T.m_law_name_by T.F_law_name_by.kp T.b_law_name_by .nil pass0 (pa_cons (pv 2) (pa_cons pe_int pa_nil))) (pa_cons (pe_lst (pa_cons (pe_tup (pa_cons pe_str (pa_cons pe_int (pa_cons (pe_lst (pa_cons (pe_op op_mod (pv 3) pe_int) pa_nil)) (pa_cons (pe_lst (pa_cons (pv 5) pa_nil)) pa_nil))))) pa_nil)) (pa_cons (pe_lst pa_nil) pa_nil)))) pa_nil)))
      (pss_cons (ps_asg (pe_call (G_law_names) (hr.mono (by decide)) rfl T.m_law_names T.F_law_names.kp T.b_law_names .nil pass0 (pa_cons (pv 4) (pa_cons (pv 3) pa_nil))) (pg_tup rfl (pgs_cons (pg_name (i := 6) sc_law.nd rfl (Or.inl rfl)) (pgs_cons (pg_name (i := 7) sc_law.nd rfl (Or.inl rfl)) pgs_nil))))
      (pss_cons (ps_set (i := 8) sc_law.nd rfl (Or.inl rfl) (pe_ix (r := rIxL K) ix_list (pv 7) (pe_op op_mod (pe_op op_fdiv (pv 3) pe_int) (pe_callB (r := Jl.rLenL K) Jl.cl_lenL (by rfl) T.n_len (by decide +kernel) (pa_cons (pv 7) pa_nil))) (fun _ _ => rfl)))
      (pss_cons (ps_setLc (i := 9) (own := [("_law_piece", 15)]) (g := gName 15) (tt := tYes) (by rfl) sc_law.nd rfl rfl (sw_true rfl rfl rfl (by decide +kernel)) (pi_list (pv 4)) (blkOk_by (own := [("_law_piece", 15)]) (N := N_law) (sc := defScope s_law) (by decide +kernel)) (fun _ _ _ _ _ => pg_name (i := 15) sc_law.nd rfl (Or.inl rfl)) (fun _ _ _ _ _ => pts_nil) (fun _ _ _ _ _ => (pe_call (G_law_copy) (hr.mono (by decide)) rfl T.m_law_copy T.F_law_copy.kp T.b_law_copy .nil pass0 (pa_cons (pv 15) pa_nil))))
      (pss_cons (ps_set (i := 10) sc_law.nd rfl (Or.inl rfl) (pe_callTy Jl.cl_dictD (by rfl) T.n_dict (by decide +kernel) (pa_cons (pv 6) pa_nil)))
      (pss_cons (ps_set (i := 11) sc_law.nd rfl (Or.inl rfl) (pe_call (G_reached) (hr.mono (by decide)) rfl T.m_reached T.F_reached.kp T.b_reached .nil pass0 (pa_cons (pv 9) (pa_cons (pv 10) (pa_cons (pv 8) pa_nil)))))
      (pss_cons (ps_if (pt_not (pt_val (pe_call (G_law_walked) (hr.mono (by decide)) rfl T.m_law_walked T.F_law_walked.kp T.b_law_walked .nil pass0 (pa_cons (pv 11) (pa_cons (pv 4) (pa_cons (pv 6) (pa_cons (pv 8) pa_nil))))))) (pss_one (ps_ret pe_bl)) pss_nil)
      (pss_cons (ps_set (i := 12) sc_law.nd rfl (Or.inl rfl) (pe_callTy (r := Jl.rListO K) Jl.cl_listO (by rfl) T.n_list (by decide +kernel) (pa_cons (pv 11) pa_nil)))
      (pss_cons (ps_set (i := 8) sc_law.nd rfl (Or.inl rfl) (pe_ix (r := rIxL K) ix_list (pv 7) (pe_op op_mod (pe_op op_fdiv (pv 3) pe_int) (pe_callB (r := Jl.rLenL K) Jl.cl_lenL (by rfl) T.n_len (by decide +kernel) (pa_cons (pv 7) pa_nil))) (fun _ _ => rfl)))
      (pss_cons (ps_set (i := 13) sc_law.nd rfl (Or.inl rfl) (pe_call (G_reached) (hr.mono (by decide)) rfl T.m_reached T.F_reached.kp T.b_reached .nil pass0 (pa_cons (pv 9) (pa_cons (pv 10) (pa_cons (pv 8) pa_nil)))))
      (pss_cons (ps_if (pt_not (pt_val (pe_call (G_law_walked) (hr.mono (by decide)) rfl T.m_law_walked T.F_law_walked.kp T.b_law_walked .nil pass0 (pa_cons (pv 13) (pa_cons (pv 4) (pa_cons (pv 6) (pa_cons (pv 8) pa_nil))))))) (pss_one (ps_ret pe_bl)) pss_nil)
      (pss_cons (ps_expr (pe_bm PySem.F.plainAttrs_list PySem.F.slot_list_append PySem.F.type_list_append mt_append (pv 13) (pa_cons pe_str pa_nil)))
      (pss_cons (ps_set (i := 14) sc_law.nd rfl (Or.inl rfl) (pe_call (G_reached) (hr.mono (by decide)) rfl T.m_reached T.F_reached.kp T.b_reached .nil pass0 (pa_cons (pv 9) (pa_cons (pv 10) (pa_cons (pe_ix (r := rIxT K) ix_tup (pe_ix (r := rIxL K) ix_list (pv 12) pe_int (fun _ _ => rfl)) pe_int (fun _ _ => rfl)) pa_nil)))))
      (pss_cons (ps_if (PW.pt (pw_or (pt_not (pt_val (pe_call (G_law_walked) (hr.mono (by decide)) rfl T.m_law_walked T.F_law_walked.kp T.b_law_walked .nil pass0 (pa_cons (pv 14) (pa_cons (pv 4) (pa_cons (pv 6) (pa_cons (pe_ix (r := rIxT K) ix_tup (pe_ix (r := rIxL K) ix_list (pv 12) pe_int (fun _ _ => rfl)) pe_int (fun _ _ => rfl)) pa_nil))))))) (pw_or1 (pt_cmpR op_ne (pe_callB (r := Jl.rLenL K) Jl.cl_lenL (by rfl) T.n_len (by decide +kernel) (pa_cons (pv 14) pa_nil)) (pe_callB (r := Jl.rLenL K) Jl.cl_lenL (by rfl) T.n_len (by decide +kernel) (pa_cons (pv 12) pa_nil)) (nomark _))))) (pss_one (ps_ret pe_bl)) pss_nil)
      (pss_one (ps_ret (pe_and (pe_cmpR (op_eqD hr.units) (pv 9) (pv 4) (nomark _)) (pe_and (pe_cmpR (Jl.op_eqDS (Nat.lt_of_le_of_lt (Nat.le_add_right _ _) hr.units)) (pv 10) (pv 6) (nomark _)) (pe_one (pe_cmpR (op_eqD hr.units) (pv 11) (pv 12) (nomark _)))))))))))))))))))))))))), ?_⟩
    show (_ : TS) _ [some (.ref a), none, none, none, none, none, none, none, none, none, none, none, none, none, none, none] H
    walk_at "w"
    obtain ⟨ms, ems, eml⟩ := Jl.cutV_ints2 ns (some 3) (some 203)
    refine use_cell_at hS (by decide) ?_
    walk_at "w"
    refine use_cell_at hS (by decide) ?_
    walk_at "w"
    refine use_cell_at hS (by decide) ?_
    walk_at "w"
    refine ⟨a, _, rfl, hS, fun p np => ?_⟩
    rw [ems]
    have s0 := Jl.same_upd (o := .lst (ms.map V.int)) np
    walk_at "w"
    generalize ns.getD (Int.toNat 0) 0 = nb at *
    generalize ns.getD (Int.toNat 1) 0 = tb at *
    generalize ns.getD (Int.toNat 2) 0 = by_ at *
    refine use_drawn (.inl (.inl upd_same)) (by omega) (fun H1 F P xs ps c1 hP hxs D => ?_)
    walk_at "w"
    refine ⟨(by show 5 ≤ sizeLine; decide), fun tf ntf => ?_⟩
    have c2 := c1.new (o := .tup [.int 0, .str "near", .str (Jl.nmT nb (by_ / 7 % 12)), .int (by_ % 5), .bl false]) ntf
    have f2 := Jl.same_upd (o := .tup [.int 0, .str "near", .str (Jl.nmT nb (by_ / 7 % 12)), .int (by_ % 5), .bl false]) (c1.ext.free ntf)
    have hP2 := Jl.same_upd (o := .tup [.int 0, .str "near", .str (Jl.nmT nb (by_ / 7 % 12)), .int (by_ % 5), .bl false]) ntf _ _ hP
    have htf : (upd F tf (.tup [.int 0, .str "near", .str (Jl.nmT nb (by_ / 7 % 12)), .int (by_ % 5), .bl false])) tf = some (.tup [.int 0, .str "near", .str (Jl.nmT nb (by_ / 7 % 12)), .int (by_ % 5), .bl false]) := upd_same
    generalize upd F tf (.tup [.int 0, .str "near", .str (Jl.nmT nb (by_ / 7 % 12)), .int (by_ % 5), .bl false]) = F2 at *
    generalize upd H1 tf (.tup [.int 0, .str "near", .str (Jl.nmT nb (by_ / 7 % 12)), .int (by_ % 5), .bl false]) = H2 at *
    walk_at "w"
    refine ⟨(by show 1 ≤ sizeLine; decide), fun pw npw => ?_⟩
    have c3 := c2.new (o := .lst [.int (by_ % 4294967296)]) npw
    have f3 := Jl.same_upd (o := .lst [.int (by_ % 4294967296)]) (c2.ext.free npw)
    have s3 := Jl.same_upd (o := .lst [.int (by_ % 4294967296)]) npw
    have hpw : (upd F2 pw (.lst [.int (by_ % 4294967296)])) pw = some (.lst [.int (by_ % 4294967296)]) := upd_same
    generalize upd F2 pw (.lst [.int (by_ % 4294967296)]) = F3 at *
    generalize upd H2 pw (.lst [.int (by_ % 4294967296)]) = H3 at *
    walk_at "w"
    refine ⟨(by show 1 ≤ sizeLine; decide), fun pf npf => ?_⟩
    have c4 := c3.new (o := .lst [.ref tf]) npf
    have f4 := Jl.same_upd (o := .lst [.ref tf]) (c3.ext.free npf)
    have s4 := Jl.same_upd (o := .lst [.ref tf]) npf
    have hpf : (upd F3 pf (.lst [.ref tf])) pf = some (.lst [.ref tf]) := upd_same
    generalize upd F3 pf (.lst [.ref tf]) = F4 at *
    generalize upd H3 pf (.lst [.ref tf]) = H4 at *
    walk_at "w"
    refine ⟨(by show 4 ≤ sizeLine; decide), fun pu npu => ?_⟩
    have c5 := c4.new (o := .tup [.str "code", .int 4, .ref pw, .ref pf]) npu
    have f5 := Jl.same_upd (o := .tup [.str "code", .int 4, .ref pw, .ref pf]) (c4.ext.free npu)
    have s5 := Jl.same_upd (o := .tup [.str "code", .int 4, .ref pw, .ref pf]) npu
    have hpu : (upd F4 pu (.tup [.str "code", .int 4, .ref pw, .ref pf])) pu = some (.tup [.str "code", .int 4, .ref pw, .ref pf]) := upd_same
    generalize upd F4 pu (.tup [.str "code", .int 4, .ref pw, .ref pf]) = F5 at *
    generalize upd H4 pu (.tup [.str "code", .int 4, .ref pw, .ref pf]) = H5 at *
    walk_at "w"
    refine ⟨(by show 1 ≤ sizeLine; decide), fun pS npS => ?_⟩
    have c6 := c5.new (o := .lst [.ref pu]) npS
    have f6 := Jl.same_upd (o := .lst [.ref pu]) (c5.ext.free npS)
    have s6 := Jl.same_upd (o := .lst [.ref pu]) npS
    have hpS : (upd F5 pS (.lst [.ref pu])) pS = some (.lst [.ref pu]) := upd_same
    generalize upd F5 pS (.lst [.ref pu]) = F6 at *
    generalize upd H5 pS (.lst [.ref pu]) = H6 at *
    walk_at "w"
    refine ⟨by decide, fun pN npN => ?_⟩
    have c7 := c6.new (o := .lst []) npN
    have f7 := Jl.same_upd (o := .lst []) (c6.ext.free npN)
    have s7 := Jl.same_upd (o := .lst []) npN
    have hpN : (upd F6 pN (.lst [])) pN = some (.lst []) := upd_same
    generalize upd F6 pN (.lst []) = F7 at *
    generalize upd H6 pN (.lst []) = H7 at *
    walk_at "w"
    refine ⟨(by show 3 ≤ sizeLine; decide), fun pz npz => ?_⟩
    have c8 := c7.new (o := .tup [.str (Jl.nmT tb 14), .ref pS, .ref pN]) npz
    have f8 := Jl.same_upd (o := .tup [.str (Jl.nmT tb 14), .ref pS, .ref pN]) (c7.ext.free npz)
    have s8 := Jl.same_upd (o := .tup [.str (Jl.nmT tb 14), .ref pS, .ref pN]) npz
    have hpz : (upd F7 pz (.tup [.str (Jl.nmT tb 14), .ref pS, .ref pN])) pz = some (.tup [.str (Jl.nmT tb 14), .ref pS, .ref pN]) := upd_same
    generalize upd F7 pz (.tup [.str (Jl.nmT tb 14), .ref pS, .ref pN]) = F8 at *
    generalize upd H7 pz (.tup [.str (Jl.nmT tb 14), .ref pS, .ref pN]) = H8 at *
    refine Jl.s_nil ?_
    have hP8 := (s3.trans (s4.trans (s5.trans (s6.trans (s7.trans s8))))) _ _ hP2
    have hxl := Jl.da_length hxs
    have hl12 := D.len
    refine Jl.s_append hP8 ?_ (Jl.small5' (by omega))
    have c9 := c8.upd (a := P) (o := .lst (xs ++ [.ref pz])) (by simp)
    have hP9 : (upd H8 P (.lst (xs ++ [.ref pz]))) P = some (.lst (xs ++ [.ref pz])) := upd_same
    generalize upd H8 P (.lst (xs ++ [.ref pz])) = H9 at *
    generalize hq : (⟨Jl.nmT tb 14, [⟨"code", 4, [by_ % 4294967296], [⟨0, "near", Jl.nmT nb (by_ / 7 % 12), by_ % 5, false⟩]⟩], []⟩ : Jl.Piece) = q
    have hqF : Dp K F8 (.ref pz) (Jl.pieceD q) := by
      rw [← hq]
      have f48 := f5.trans (f6.trans (f7.trans f8))
      have f38 := f4.trans f48
      refine .tup (.inl (.inl hpz)) (.cons (.str _) (.cons (.lst (.inl (.inl ((f7.trans f8) _ _ hpS))) (.cons (.tup (.inl (.inl ((f6.trans (f7.trans f8)) _ _ hpu))) (.cons (.str _) (.cons (.int _) (.cons (Jl.dp_intL (ns := [by_ % 4294967296]) (.inl (.inl (f38 _ _ hpw)))) (.cons (.lst (.inl (.inl (f48 _ _ hpf))) (.cons (.tup (.inl (.inl ((f3.trans f38) _ _ htf))) (.cons (.int _) (.cons (.str _) (.cons (.str _) (.cons (.int _) (.cons (.bl _) .nil)))))) .nil)) .nil))))) .nil)) (.cons (.lst (.inl (.inl (f8 _ _ hpN))) .nil) .nil)))
    have hx9 : DpAll K H9 (xs ++ [.ref pz]) ((ps ++ [q]).map Jl.pieceD) := by
      rw [List.map_append]
      exact Jl.da_app (Jl.dps_same ((f2.trans (f3.trans (f4.trans (f5.trans (f6.trans (f7.trans f8)))))).trans c9.ext) hxs) (Jl.da_one (Jl.dp_same c9.ext hqF))
    have hqf : Jl.Fine q := by
      rw [← hq]
      refine ⟨⟨Jl.nmT_ok _ _, fun s hs => ?_, fun _ h => (nomatch h)⟩, List.nodup_nil, by show 0 < 64; decide, by show 1 < 64; decide, by show 1 < 64; decide⟩
      rw [List.mem_singleton.mp hs]
      refine ⟨Jl.kind_ok (.inl rfl), fun f hf => ?_⟩
      rw [List.mem_singleton.mp hf]
      exact ⟨Jl.rule5_ok (.inr (.inr (.inr (.inl rfl)))), Jl.nmT_ok _ _⟩
    have W : Jl.Pcs (ps ++ [q]) := Jl.pcs_law D (by omega) (by rw [← hq]) (by rw [← hq]) hqf
    have hatnd : Jl.AtNd (ps ++ [q]) := Jl.atnd_law D (by rw [← hq]; intro s hs; rw [List.mem_singleton.mp hs]; exact List.nodup_cons.mpr ⟨List.not_mem_nil, List.nodup_nil⟩)
    have hne : Jl.knownF (ps ++ [q]) ≠ [] := by
      rw [Jl.knownF_app, Jl.knownF_one, ← hq]
      intro h
      exact absurd (List.append_eq_nil_iff.mp h).2 (by intro h; cases h)
    generalize ps ++ [q] = qs at *
    generalize xs ++ [V.ref pz] = ys at *
    walk_at "w"
    refine use_names (.inl (.inl hP9)) hx9 W hne (fun H10 t m kb L zs s10 ht Dm hv ha hkb hzs ezs => ?_)
    refine Jl.s_gTup (.inl (.inl ht)) rfl ?_
    have hAway := W.way hv ha
    have hzn : 0 < zs.length := by
      rcases Nat.eq_zero_or_pos zs.length with e | e
      · have h1 := congrArg List.length ezs
        rw [List.length_map, List.length_map, e] at h1
        exact absurd (List.length_eq_zero_iff.mp h1.symm) hne
      · exact e
    have hzl : zs.length ≤ 64 * 16 := by
      have h1 := congrArg List.length ezs
      have h2 := Jl.known_len (ps := qs) fun q hq => (W.fine q hq).sl
      have h3 := W.few
      rw [List.length_map, List.length_map] at h1
      omega
    have hPa := s10 _ _ hP9
    have hxa := Jl.dps_same s10 hx9
    have hyl := Jl.da_length hxa
    have hatq : Jl.AtNd qs := hatnd
    walk_at "w"
    refine Jl.s_lenL (.inl (.inl hkb)) ?_
    rw [List.length_map]
    walk_at "w"
    try (refine Jl.s_I (show (0 : Int) < (zs.length : Int) by omega) ?_)
    have b1 := Int.emod_nonneg (by_ / 3) (show (zs.length : Int) ≠ 0 by omega)
    have b2 := Int.emod_lt_of_pos (by_ / 3) (show 0 < (zs.length : Int) by omega)
    generalize (by_ / 3) % (zs.length : Int) = ix at *
    obtain ⟨zr1, hzr1⟩ : ∃ z, zs[ix.toNat]? = some z := ⟨_, List.getElem?_eq_getElem (by omega)⟩
    have hmr1 := List.mem_of_getElem? hzr1
    have hvr1 : Jl.VK_ qs zr1.2 := Jl.known_VK (by rw [← ezs]; exact List.mem_map_of_mem hmr1)
    refine Jl.s_ixL (.inl (.inl hkb)) (v := zr1.1) (by rw [show ix = ((ix.toNat : Nat) : Int) by omega]; exact atI_nat (by rw [List.getElem?_map, hzr1]; rfl)) ?_
    clear b1 b2 hzr1
    clear ix
    have hfew := W.few
    walk_at "w"
    refine Jl.s_lcH (xs := ys) (Jl.Act.start H10) (fun i => (qs[i]?).bind fun q => some (Jl.pieceD q)) (by omega) (fun R z => ?_) (fun i y D G1 H11 Rs Rn hi c1 sG sH hRs hRn => ?_) (fun Hd G1 H11 us c1 sG sH hHd hda hul => ?_)
    · walk_at "w"
      exact z _ _ _ (Jl.Act.start H10) (Same.refl _) (Same.refl _) (.inl (.inl hPa))
    · obtain ⟨q, hq, hy⟩ := Jl.da_item hxa hi
      walk_at "w"
      refine ⟨rfl, ?_⟩
      walk_at "w"
      refine use_copy (Jl.dp_same sG hy) (by have := (W.fine q (List.mem_of_getElem? hq)).sl; omega) c1 (fun v G' H12 c2 sG2 sH2 hv => ?_)
      exact hRs v G' H12 _ sG2 c2 sH2 (by rw [hq]; rfl) hv
    rw [hyl, Jl.range_items, Jl.filterMap_some] at hda
    have hus := Jl.dps_same c1.ext hda
    walk_at "w"
    obtain ⟨kvs, hkv, hkvd⟩ := id Dm
    refine Jl.s_dictD (sH _ _ hkv) (fun m2 nm2 => ?_)
    have s12 := Jl.same_upd (o := .dK kvs) nm2
    have D2 : Jl.SD K H10 (upd H11 m2 (.dK kvs)) m2 L := ⟨kvs, upd_same, hkvd⟩
    have hm2 : (upd H11 m2 (.dK kvs)) m2 = some (.dK kvs) := upd_same
    have hHd2 := s12 _ _ hHd
    have hus2 := Jl.dps_same s12 hus
    have sT := sH.trans s12
    generalize upd H11 m2 (.dK kvs) = H12 at *
    clear s12 sH hus hHd c1 sG hda hul
    walk_at "w"
    refine use_reached (.inl (.inl hHd2)) hus2 D2 sT hAway ((hzs zr1 hmr1).same sT) hvr1 (fun R1 G1 H13 rs1 n1 c13 hR1 hrs1 hbf1 hn1 => ?_)
    have sU := sT.trans c13.same
    have hrs13 : ∀ x ∈ rs1, Jl.RwAt H13 x.1 x.2 := fun x hx => (hrs1 x hx).same c13.ext
    have s213 := c13.same
    walk_at "w"
    refine use_walked (.inl (.inl (sU _ _ hPa))) (Jl.dps_same sU hxa) (Dm.ext (Same.refl _) sU) sU hAway hatq hR1 hrs13 hbf1 hn1 ((hzs zr1 hmr1).same sU) hvr1 W (fun H14 s14 => ?_)
    walk_at "w"
    refine Jl.s_listO (.inl (.inl (s14 _ _ hR1))) (fun h5 nh5 => ?_)
    have s15 := s14.trans (Jl.same_upd (o := .lst (rs1.map (·.1))) nh5)
    have hh5 : (upd H14 h5 (.lst (rs1.map (·.1)))) h5 = some (.lst (rs1.map (·.1))) := upd_same
    generalize upd H14 h5 (.lst (rs1.map (·.1))) = H15 at *
    clear s14
    have s10_15 := sU.trans s15
    have s12_15 := s213.trans s15
    clear c13
    have hkb5 := s10_15 _ _ hkb
    walk_at "w"
    refine Jl.s_lenL (.inl (.inl hkb5)) ?_
    rw [List.length_map]
    walk_at "w"
    try (refine Jl.s_I (show (0 : Int) < (zs.length : Int) by omega) ?_)
    have b1 := Int.emod_nonneg (by_ / 11) (show (zs.length : Int) ≠ 0 by omega)
    have b2 := Int.emod_lt_of_pos (by_ / 11) (show 0 < (zs.length : Int) by omega)
    generalize (by_ / 11) % (zs.length : Int) = ix at *
    obtain ⟨zr2, hzr2⟩ : ∃ z, zs[ix.toNat]? = some z := ⟨_, List.getElem?_eq_getElem (by omega)⟩
    have hmr2 := List.mem_of_getElem? hzr2
    have hvr2 : Jl.VK_ qs zr2.2 := Jl.known_VK (by rw [← ezs]; exact List.mem_map_of_mem hmr2)
    refine Jl.s_ixL (.inl (.inl hkb5)) (v := zr2.1) (by rw [show ix = ((ix.toNat : Nat) : Int) by omega]; exact atI_nat (by rw [List.getElem?_map, hzr2]; rfl)) ?_
    clear b1 b2 hzr2
    clear ix
    walk_at "w"
    refine use_reached (.inl (.inl (s12_15 _ _ hHd2))) (Jl.dps_same s12_15 hus2) (D2.ext (Same.refl _) s12_15) (sT.trans s12_15) hAway ((hzs zr2 hmr2).same s10_15) hvr2 (fun R2 G2 H16 rs2 n2 c16 hR2 hrs2 hbf2 hn2 => ?_)
    have sV := s10_15.trans c16.same
    have hrs16 : ∀ x ∈ rs2, Jl.RwAt H16 x.1 x.2 := fun x hx => (hrs2 x hx).same c16.ext
    walk_at "w"
    refine use_walked (.inl (.inl (sV _ _ hPa))) (Jl.dps_same sV hxa) (Dm.ext (Same.refl _) sV) sV hAway hatq hR2 hrs16 hbf2 hn2 ((hzs zr2 hmr2).same sV) hvr2 W (fun H17 s17 => ?_)
    have hlR2 : rs2.length ≤ 4096 := by
      have h1 := congrArg List.length hbf2
      rw [List.length_map] at h1
      have h2 := hAway.len hvr2 n2
      omega
    have c17 := c16.sm s17
    walk_at "w"
    refine Jl.s_tyL (s17 _ _ hR2) ?_
    walk_at "w"
    refine Jl.s_append (s17 _ _ hR2) ?_ (Jl.small5' (by rw [List.length_map]; omega))
    have s15_18 : Same H15 (upd H17 R2 (.lst (rs2.map (·.1) ++ [.str "more"]))) := Jl.same_mut c17.same ((c17.base.free (c17.free R2 (by simp)).1))
    generalize upd H17 R2 (.lst (rs2.map (·.1) ++ [.str "more"])) = H18 at *
    clear c16 c17 s17
    have sW := s10_15.trans s15_18
    have s12_18 := s12_15.trans s15_18
    have hh8 := s15_18 _ _ hh5
    have hat0 : ∃ b0 c0 y1 y2, rs1[0]? = some (V.ref b0, (zr1.2, none)) ∧ H18 b0 = some (.tup [.ref c0, y1, y2]) ∧ H18 c0 = some (.tup [.str zr1.2.1, .int zr1.2.2]) := by
      have hfirst := Jl.bfs_first (T := Jl.TT_ qs L) (root := zr1.2) n1
      rw [← hbf1, List.getElem?_map] at hfirst
      cases e : rs1[0]? with
      | none => rw [e] at hfirst; cases hfirst
      | some x =>
        rw [e] at hfirst
        have e2 : x.2 = (zr1.2, none) := Option.some.inj hfirst
        obtain ⟨x1, x2⟩ := x
        have e2 : x2 = (zr1.2, none) := e2
        subst e2
        obtain ⟨b0, kv0, y1, y2, e0, hb0, hkv0, -⟩ := (hrs13 _ (List.mem_of_getElem? e)).same (s15.trans s15_18)
        have e0 : x1 = .ref b0 := e0
        subst e0
        obtain ⟨c0, rfl, hc0⟩ := hkv0
        exact ⟨b0, c0, y1, y2, rfl, hb0, hc0⟩
    obtain ⟨b0, c0, y1, y2, hx0, hb0, hc0⟩ := hat0
    have hix0 : (rs1.map (·.1))[0]? = some (.ref b0) := by rw [List.getElem?_map, hx0]; rfl
    walk_at "w"
    refine Jl.s_ixL (.inl (.inl hh8)) (atI_nat hix0) ?_
    walk_at "w"
    refine Jl.tup_at (i := 0) hb0 rfl ?_
    walk_at "w"
    have hkc : Jl.KeyAt H18 (.ref c0) zr1.2 := ⟨c0, rfl, hc0⟩
    refine use_reached (.inl (.inl (s12_18 _ _ hHd2))) (Jl.dps_same s12_18 hus2) (D2.ext (Same.refl _) s12_18) (sT.trans s12_18) hAway hkc hvr1 (fun R3 G3 H19 rs3 n3 c19 hR3 hrs3 hbf3 hn3 => ?_)
    have sX := sW.trans c19.same
    have s18_19 := c19.same
    have hrs19 : ∀ x ∈ rs3, Jl.RwAt H19 x.1 x.2 := fun x hx => (hrs3 x hx).same c19.ext
    clear c19
    walk_at "w"
    refine Jl.s_ixL (.inl (.inl (s18_19 _ _ hh8))) (atI_nat hix0) ?_
    walk_at "w"
    refine Jl.tup_at (i := 0) (s18_19 _ _ hb0) rfl ?_
    walk_at "w"
    refine use_walked (.inl (.inl (sX _ _ hPa))) (Jl.dps_same sX hxa) (Dm.ext (Same.refl _) sX) sX hAway hatq hR3 hrs19 hbf3 hn3 (hkc.same s18_19) hvr1 W (fun H20 s20 => ?_)
    have hnf1 : (Jl.bfs (Jl.TT_ qs L) zr1.2 n1).length ≤ n1 := by
      have h1 := congrArg List.length hbf1
      rw [List.length_map] at h1
      omega
    have hnf3 : (Jl.bfs (Jl.TT_ qs L) zr1.2 n3).length ≤ n3 := by
      have h1 := congrArg List.length hbf3
      rw [List.length_map] at h1
      omega
    have el : rs3.length = rs1.length := by
      have h1 := congrArg List.length hbf1
      have h3 := congrArg List.length hbf3
      rw [List.length_map] at h1 h3
      rw [h1, h3, Jl.bfs_fin hnf1 hnf3]
    have s18_20 := s18_19.trans s20
    walk_at "w"
    refine Jl.s_lenL (.inl (.inl (s20 _ _ hR3))) ?_
    walk_at "w"
    refine Jl.s_lenL (.inl (.inl (s18_20 _ _ hh8))) ?_
    rw [List.length_map, List.length_map, el]
    walk_at "w"
    refine Jl.s_iteNt (by rfl) ?_
    have s10_20 := sW.trans s18_20
    have s12_20 := s12_18.trans s18_20
    have s15_20 := s15_18.trans s18_20
    walk_at "w"
    refine Jl.s_eqSame (.lst (.inl (.inl (s12_20 _ _ hHd2))) (Jl.dps_same s12_20 hus2)) (.lst (.inl (.inl (s10_20 _ _ hPa))) (Jl.dps_same s10_20 hxa)) (Jl.pieces_shaped fun p hp => (W.fine p hp).ok) ?_
    walk_at "w"
    refine ⟨m2, m, kvs, rfl, rfl, s12_20 _ _ hm2, s10_20 _ _ hkv, Jl.kvd_nodup hkvd hv.2, hkvd.refs, ?_⟩
    walk_at "w"
    have hd1 := Jl.ways_dps (K := K) fun x hx => (hrs13 x hx).same (s15.trans s15_20)
    exact Jl.s_eqSame (.lst (.inl (.inl ((s15.trans s15_20) _ _ hR1))) hd1) (.lst (.inl (.inl (s18_20 _ _ hh8))) hd1) (Jl.ways_shaped (by rw [hbf1]; exact Jl.bfs_ok W hAway hvr1 n1)) (k _)
end
theorem all_mk {l : PySem.W.OpenLaw} {w : World} {K : PySem.W.Frag} {h : Heap} {mg : Str → Option Value} {fa a_Unmet a_wrapped a_own_names a_aim a_reached a_law_cell_at a_law_name_by a_law_word_row a_law_told_by a_law_drawn a_law_copy a_law_aim a_law_names a_law_whole a_law_key a_law_led a_law_walked a_law : Addr} (X : K.In h) (G : h.Ns mainGlobals mg) (hfa : mg "law" = some (.ref fa))
    {od_wrapped an_wrapped : Option Addr} {sl_wrapped : Array (Option Value)} {oc_wrapped kV_wrapped dc_wrapped pm_wrapped cd_wrapped ct_wrapped : Value}
    {od_own_names an_own_names : Option Addr} {sl_own_names : Array (Option Value)} {oc_own_names kV_own_names dc_own_names pm_own_names cd_own_names ct_own_names : Value}
    {od_aim an_aim : Option Addr} {sl_aim : Array (Option Value)} {oc_aim kV_aim dc_aim pm_aim cd_aim ct_aim : Value}
    {od_reached an_reached : Option Addr} {sl_reached : Array (Option Value)} {oc_reached kV_reached dc_reached pm_reached cd_reached ct_reached : Value}
    {od_law_cell_at an_law_cell_at : Option Addr} {sl_law_cell_at : Array (Option Value)} {oc_law_cell_at kV_law_cell_at dc_law_cell_at pm_law_cell_at cd_law_cell_at ct_law_cell_at : Value}
    {od_law_name_by an_law_name_by : Option Addr} {sl_law_name_by : Array (Option Value)} {oc_law_name_by kV_law_name_by dc_law_name_by pm_law_name_by cd_law_name_by ct_law_name_by : Value}
    {od_law_word_row an_law_word_row : Option Addr} {sl_law_word_row : Array (Option Value)} {oc_law_word_row kV_law_word_row dc_law_word_row pm_law_word_row cd_law_word_row ct_law_word_row : Value}
    {od_law_told_by an_law_told_by : Option Addr} {sl_law_told_by : Array (Option Value)} {oc_law_told_by kV_law_told_by dc_law_told_by pm_law_told_by cd_law_told_by ct_law_told_by : Value}
    {od_law_drawn an_law_drawn : Option Addr} {sl_law_drawn : Array (Option Value)} {oc_law_drawn kV_law_drawn dc_law_drawn pm_law_drawn cd_law_drawn ct_law_drawn : Value}
    {od_law_copy an_law_copy : Option Addr} {sl_law_copy : Array (Option Value)} {oc_law_copy kV_law_copy dc_law_copy pm_law_copy cd_law_copy ct_law_copy : Value}
    {od_law_aim an_law_aim : Option Addr} {sl_law_aim : Array (Option Value)} {oc_law_aim kV_law_aim dc_law_aim pm_law_aim cd_law_aim ct_law_aim : Value}
    {od_law_names an_law_names : Option Addr} {sl_law_names : Array (Option Value)} {oc_law_names kV_law_names dc_law_names pm_law_names cd_law_names ct_law_names : Value}
    {od_law_whole an_law_whole : Option Addr} {sl_law_whole : Array (Option Value)} {oc_law_whole kV_law_whole dc_law_whole pm_law_whole cd_law_whole ct_law_whole : Value}
    {od_law_key an_law_key : Option Addr} {sl_law_key : Array (Option Value)} {oc_law_key kV_law_key dc_law_key pm_law_key cd_law_key ct_law_key : Value}
    {od_law_led an_law_led : Option Addr} {sl_law_led : Array (Option Value)} {oc_law_led kV_law_led dc_law_led pm_law_led cd_law_led ct_law_led : Value}
    {od_law_walked an_law_walked : Option Addr} {sl_law_walked : Array (Option Value)} {oc_law_walked kV_law_walked dc_law_walked pm_law_walked cd_law_walked ct_law_walked : Value}
    {od_law an_law : Option Addr} {sl_law : Array (Option Value)} {oc_law kV_law dc_law pm_law cd_law ct_law : Value}
    {t_MANY : Tok}
    (ns_Unmet : PySem.W.nsIn K mainGlobals "Unmet" = some (some (.ref a_Unmet)))
    (ns_wrapped : PySem.W.nsIn K mainGlobals "wrapped" = some (some (.ref a_wrapped)))
    (ns_own_names : PySem.W.nsIn K mainGlobals "own_names" = some (some (.ref a_own_names)))
    (ns_aim : PySem.W.nsIn K mainGlobals "aim" = some (some (.ref a_aim)))
    (ns_reached : PySem.W.nsIn K mainGlobals "reached" = some (some (.ref a_reached)))
    (ns_law_cell_at : PySem.W.nsIn K mainGlobals "_law_cell_at" = some (some (.ref a_law_cell_at)))
    (ns_law_name_by : PySem.W.nsIn K mainGlobals "_law_name_by" = some (some (.ref a_law_name_by)))
    (ns_law_word_row : PySem.W.nsIn K mainGlobals "_law_word_row" = some (some (.ref a_law_word_row)))
    (ns_law_told_by : PySem.W.nsIn K mainGlobals "_law_told_by" = some (some (.ref a_law_told_by)))
    (ns_law_drawn : PySem.W.nsIn K mainGlobals "_law_drawn" = some (some (.ref a_law_drawn)))
    (ns_law_copy : PySem.W.nsIn K mainGlobals "_law_copy" = some (some (.ref a_law_copy)))
    (ns_law_aim : PySem.W.nsIn K mainGlobals "_law_aim" = some (some (.ref a_law_aim)))
    (ns_law_names : PySem.W.nsIn K mainGlobals "_law_names" = some (some (.ref a_law_names)))
    (ns_law_whole : PySem.W.nsIn K mainGlobals "_law_whole" = some (some (.ref a_law_whole)))
    (ns_law_key : PySem.W.nsIn K mainGlobals "_law_key" = some (some (.ref a_law_key)))
    (ns_law_led : PySem.W.nsIn K mainGlobals "_law_led" = some (some (.ref a_law_led)))
    (ns_law_walked : PySem.W.nsIn K mainGlobals "_law_walked" = some (some (.ref a_law_walked)))
    (ns_law : PySem.W.nsIn K mainGlobals "law" = some (some (.ref a_law)))
    (lk_wrapped : K.lookup a_wrapped = some ⟨oc_wrapped, od_wrapped, .func (PySem.W.fnOf "wrapped" "wrapped" (defArgs s_wrapped) (defBody s_wrapped) (defScope s_wrapped) .none kV_wrapped dc_wrapped pm_wrapped an_wrapped cd_wrapped ct_wrapped), sl_wrapped⟩)
    (cd_is_wrapped : PySem.W.codeIn K cd_wrapped "wrapped" = true)
    (kp_wrapped : PySem.W.keepIn K (.ref a_wrapped) = true)
    (lk_own_names : K.lookup a_own_names = some ⟨oc_own_names, od_own_names, .func (PySem.W.fnOf "own_names" "own_names" (defArgs s_own_names) (defBody s_own_names) (defScope s_own_names) .none kV_own_names dc_own_names pm_own_names an_own_names cd_own_names ct_own_names), sl_own_names⟩)
    (cd_is_own_names : PySem.W.codeIn K cd_own_names "own_names" = true)
    (kp_own_names : PySem.W.keepIn K (.ref a_own_names) = true)
    (lk_aim : K.lookup a_aim = some ⟨oc_aim, od_aim, .func (PySem.W.fnOf "aim" "aim" (defArgs s_aim) (defBody s_aim) (defScope s_aim) .none kV_aim dc_aim pm_aim an_aim cd_aim ct_aim), sl_aim⟩)
    (cd_is_aim : PySem.W.codeIn K cd_aim "aim" = true)
    (kp_aim : PySem.W.keepIn K (.ref a_aim) = true)
    (lk_reached : K.lookup a_reached = some ⟨oc_reached, od_reached, .func (PySem.W.fnOf "reached" "reached" (defArgs s_reached) (defBody s_reached) (defScope s_reached) .none kV_reached dc_reached pm_reached an_reached cd_reached ct_reached), sl_reached⟩)
    (cd_is_reached : PySem.W.codeIn K cd_reached "reached" = true)
    (kp_reached : PySem.W.keepIn K (.ref a_reached) = true)
    (lk_law_cell_at : K.lookup a_law_cell_at = some ⟨oc_law_cell_at, od_law_cell_at, .func (PySem.W.fnOf "_law_cell_at" "_law_cell_at" (defArgs s_law_cell_at) (defBody s_law_cell_at) (defScope s_law_cell_at) .none kV_law_cell_at dc_law_cell_at pm_law_cell_at an_law_cell_at cd_law_cell_at ct_law_cell_at), sl_law_cell_at⟩)
    (cd_is_law_cell_at : PySem.W.codeIn K cd_law_cell_at "_law_cell_at" = true)
    (kp_law_cell_at : PySem.W.keepIn K (.ref a_law_cell_at) = true)
    (lk_law_name_by : K.lookup a_law_name_by = some ⟨oc_law_name_by, od_law_name_by, .func (PySem.W.fnOf "_law_name_by" "_law_name_by" (defArgs s_law_name_by) (defBody s_law_name_by) (defScope s_law_name_by) .none kV_law_name_by dc_law_name_by pm_law_name_by an_law_name_by cd_law_name_by ct_law_name_by), sl_law_name_by⟩)
    (cd_is_law_name_by : PySem.W.codeIn K cd_law_name_by "_law_name_by" = true)
    (kp_law_name_by : PySem.W.keepIn K (.ref a_law_name_by) = true)
    (lk_law_word_row : K.lookup a_law_word_row = some ⟨oc_law_word_row, od_law_word_row, .func (PySem.W.fnOf "_law_word_row" "_law_word_row" (defArgs s_law_word_row) (defBody s_law_word_row) (defScope s_law_word_row) .none kV_law_word_row dc_law_word_row pm_law_word_row an_law_word_row cd_law_word_row ct_law_word_row), sl_law_word_row⟩)
    (cd_is_law_word_row : PySem.W.codeIn K cd_law_word_row "_law_word_row" = true)
    (kp_law_word_row : PySem.W.keepIn K (.ref a_law_word_row) = true)
    (lk_law_told_by : K.lookup a_law_told_by = some ⟨oc_law_told_by, od_law_told_by, .func (PySem.W.fnOf "_law_told_by" "_law_told_by" (defArgs s_law_told_by) (defBody s_law_told_by) (defScope s_law_told_by) .none kV_law_told_by dc_law_told_by pm_law_told_by an_law_told_by cd_law_told_by ct_law_told_by), sl_law_told_by⟩)
    (cd_is_law_told_by : PySem.W.codeIn K cd_law_told_by "_law_told_by" = true)
    (kp_law_told_by : PySem.W.keepIn K (.ref a_law_told_by) = true)
    (lk_law_drawn : K.lookup a_law_drawn = some ⟨oc_law_drawn, od_law_drawn, .func (PySem.W.fnOf "_law_drawn" "_law_drawn" (defArgs s_law_drawn) (defBody s_law_drawn) (defScope s_law_drawn) .none kV_law_drawn dc_law_drawn pm_law_drawn an_law_drawn cd_law_drawn ct_law_drawn), sl_law_drawn⟩)
    (cd_is_law_drawn : PySem.W.codeIn K cd_law_drawn "_law_drawn" = true)
    (kp_law_drawn : PySem.W.keepIn K (.ref a_law_drawn) = true)
    (lk_law_copy : K.lookup a_law_copy = some ⟨oc_law_copy, od_law_copy, .func (PySem.W.fnOf "_law_copy" "_law_copy" (defArgs s_law_copy) (defBody s_law_copy) (defScope s_law_copy) .none kV_law_copy dc_law_copy pm_law_copy an_law_copy cd_law_copy ct_law_copy), sl_law_copy⟩)
    (cd_is_law_copy : PySem.W.codeIn K cd_law_copy "_law_copy" = true)
    (kp_law_copy : PySem.W.keepIn K (.ref a_law_copy) = true)
    (lk_law_aim : K.lookup a_law_aim = some ⟨oc_law_aim, od_law_aim, .func (PySem.W.fnOf "_law_aim" "_law_aim" (defArgs s_law_aim) (defBody s_law_aim) (defScope s_law_aim) .none kV_law_aim dc_law_aim pm_law_aim an_law_aim cd_law_aim ct_law_aim), sl_law_aim⟩)
    (cd_is_law_aim : PySem.W.codeIn K cd_law_aim "_law_aim" = true)
    (kp_law_aim : PySem.W.keepIn K (.ref a_law_aim) = true)
    (lk_law_names : K.lookup a_law_names = some ⟨oc_law_names, od_law_names, .func (PySem.W.fnOf "_law_names" "_law_names" (defArgs s_law_names) (defBody s_law_names) (defScope s_law_names) .none kV_law_names dc_law_names pm_law_names an_law_names cd_law_names ct_law_names), sl_law_names⟩)
    (cd_is_law_names : PySem.W.codeIn K cd_law_names "_law_names" = true)
    (kp_law_names : PySem.W.keepIn K (.ref a_law_names) = true)
    (lk_law_whole : K.lookup a_law_whole = some ⟨oc_law_whole, od_law_whole, .func (PySem.W.fnOf "_law_whole" "_law_whole" (defArgs s_law_whole) (defBody s_law_whole) (defScope s_law_whole) .none kV_law_whole dc_law_whole pm_law_whole an_law_whole cd_law_whole ct_law_whole), sl_law_whole⟩)
    (cd_is_law_whole : PySem.W.codeIn K cd_law_whole "_law_whole" = true)
    (kp_law_whole : PySem.W.keepIn K (.ref a_law_whole) = true)
    (lk_law_key : K.lookup a_law_key = some ⟨oc_law_key, od_law_key, .func (PySem.W.fnOf "_law_key" "_law_key" (defArgs s_law_key) (defBody s_law_key) (defScope s_law_key) .none kV_law_key dc_law_key pm_law_key an_law_key cd_law_key ct_law_key), sl_law_key⟩)
    (cd_is_law_key : PySem.W.codeIn K cd_law_key "_law_key" = true)
    (kp_law_key : PySem.W.keepIn K (.ref a_law_key) = true)
    (lk_law_led : K.lookup a_law_led = some ⟨oc_law_led, od_law_led, .func (PySem.W.fnOf "_law_led" "_law_led" (defArgs s_law_led) (defBody s_law_led) (defScope s_law_led) .none kV_law_led dc_law_led pm_law_led an_law_led cd_law_led ct_law_led), sl_law_led⟩)
    (cd_is_law_led : PySem.W.codeIn K cd_law_led "_law_led" = true)
    (kp_law_led : PySem.W.keepIn K (.ref a_law_led) = true)
    (lk_law_walked : K.lookup a_law_walked = some ⟨oc_law_walked, od_law_walked, .func (PySem.W.fnOf "_law_walked" "_law_walked" (defArgs s_law_walked) (defBody s_law_walked) (defScope s_law_walked) .none kV_law_walked dc_law_walked pm_law_walked an_law_walked cd_law_walked ct_law_walked), sl_law_walked⟩)
    (cd_is_law_walked : PySem.W.codeIn K cd_law_walked "_law_walked" = true)
    (kp_law_walked : PySem.W.keepIn K (.ref a_law_walked) = true)
    (lk_law : K.lookup a_law = some ⟨oc_law, od_law, .func (PySem.W.fnOf "law" "law" (defArgs s_law) (defBody s_law) (defScope s_law) .none kV_law dc_law pm_law an_law cd_law ct_law), sl_law⟩)
    (cd_is_law : PySem.W.codeIn K cd_law "law" = true)
    (kp_law : PySem.W.keepIn K (.ref a_law) = true)
    (ns_MANY : PySem.W.nsIn K mainGlobals "MANY" = some (some (.int 4294967296 t_MANY)))
    (ns_bool : PySem.W.nsIn K mainGlobals "bool" = some none)
    (ns_dict : PySem.W.nsIn K mainGlobals "dict" = some none)
    (ns_int : PySem.W.nsIn K mainGlobals "int" = some none)
    (ns_isinstance : PySem.W.nsIn K mainGlobals "isinstance" = some none)
    (ns_len : PySem.W.nsIn K mainGlobals "len" = some none)
    (ns_list : PySem.W.nsIn K mainGlobals "list" = some none)
    (ns_range : PySem.W.nsIn K mainGlobals "range" = some none)
    (ns_str : PySem.W.nsIn K mainGlobals "str" = some none)
    (ns_tuple : PySem.W.nsIn K mainGlobals "tuple" = some none)
    : ∃ fd : FuncData, (∀ (s : Shared) (v : Value), BindsTo s fd ⟨[v], []⟩ [("_law_script", v)]) ∧ ∀ base : Heap, K.In base → base.Ns mainGlobals mg → FnOk l.prog w K mg base CX0 5 fa fd ["_law_script"] (sp_law K) := by
  have e := hfa.symm.trans (PySem.W.mg_of X G ns_law)
  cases e
  exact ⟨_, fun s v => .of_eq rfl, fun base _ _ => ok_law (P := l.prog) (w := w) (base := base) (T := {
    a_wrapped := _, d_wrapped := _, F_wrapped := fun_mk (st := s_wrapped) lk_wrapped cd_is_wrapped kp_wrapped,
    m_wrapped := PySem.W.mg_of X G ns_wrapped,
    b_wrapped := (fun_mk (st := s_wrapped) lk_wrapped cd_is_wrapped kp_wrapped).binds (ps := ["number"]) fun _ _ _ _ _ _ us hl => match us, hl with | [_], _ => rfl,
    a_own_names := _, d_own_names := _, F_own_names := fun_mk (st := s_own_names) lk_own_names cd_is_own_names kp_own_names,
    m_own_names := PySem.W.mg_of X G ns_own_names,
    b_own_names := (fun_mk (st := s_own_names) lk_own_names cd_is_own_names kp_own_names).binds (ps := ["piece"]) fun _ _ _ _ _ _ us hl => match us, hl with | [_], _ => rfl,
    a_aim := _, d_aim := _, F_aim := fun_mk (st := s_aim) lk_aim cd_is_aim kp_aim,
    m_aim := PySem.W.mg_of X G ns_aim,
    b_aim := (fun_mk (st := s_aim) lk_aim cd_is_aim kp_aim).binds (ps := ["piece", "names", "fill"]) fun _ _ _ _ _ _ us hl => match us, hl with | [_, _, _], _ => rfl,
    a_reached := _, d_reached := _, F_reached := fun_mk (st := s_reached) lk_reached cd_is_reached kp_reached,
    m_reached := PySem.W.mg_of X G ns_reached,
    b_reached := (fun_mk (st := s_reached) lk_reached cd_is_reached kp_reached).binds (ps := ["pieces", "names", "root"]) fun _ _ _ _ _ _ us hl => match us, hl with | [_, _, _], _ => rfl,
    a_law_cell_at := _, d_law_cell_at := _, F_law_cell_at := fun_mk (st := s_law_cell_at) lk_law_cell_at cd_is_law_cell_at kp_law_cell_at,
    m_law_cell_at := PySem.W.mg_of X G ns_law_cell_at,
    b_law_cell_at := (fun_mk (st := s_law_cell_at) lk_law_cell_at cd_is_law_cell_at kp_law_cell_at).binds (ps := ["_law_script", "_law_k"]) fun _ _ _ _ _ _ us hl => match us, hl with | [_, _], _ => rfl,
    a_law_name_by := _, d_law_name_by := _, F_law_name_by := fun_mk (st := s_law_name_by) lk_law_name_by cd_is_law_name_by kp_law_name_by,
    m_law_name_by := PySem.W.mg_of X G ns_law_name_by,
    b_law_name_by := (fun_mk (st := s_law_name_by) lk_law_name_by cd_is_law_name_by kp_law_name_by).binds (ps := ["_law_cell", "_law_k"]) fun _ _ _ _ _ _ us hl => match us, hl with | [_, _], _ => rfl,
    a_law_word_row := _, d_law_word_row := _, F_law_word_row := fun_mk (st := s_law_word_row) lk_law_word_row cd_is_law_word_row kp_law_word_row,
    m_law_word_row := PySem.W.mg_of X G ns_law_word_row,
    b_law_word_row := (fun_mk (st := s_law_word_row) lk_law_word_row cd_is_law_word_row kp_law_word_row).binds (ps := ["_law_cell", "_law_names_by"]) fun _ _ _ _ _ _ us hl => match us, hl with | [_, _], _ => rfl,
    a_law_told_by := _, d_law_told_by := _, F_law_told_by := fun_mk (st := s_law_told_by) lk_law_told_by cd_is_law_told_by kp_law_told_by,
    m_law_told_by := PySem.W.mg_of X G ns_law_told_by,
    b_law_told_by := (fun_mk (st := s_law_told_by) lk_law_told_by cd_is_law_told_by kp_law_told_by).binds (ps := ["_law_pieces", "_law_cell", "_law_names_by", "_law_strict"]) fun _ _ _ _ _ _ us hl => match us, hl with | [_, _, _, _], _ => rfl,
    a_law_drawn := _, d_law_drawn := _, F_law_drawn := fun_mk (st := s_law_drawn) lk_law_drawn cd_is_law_drawn kp_law_drawn,
    m_law_drawn := PySem.W.mg_of X G ns_law_drawn,
    b_law_drawn := (fun_mk (st := s_law_drawn) lk_law_drawn cd_is_law_drawn kp_law_drawn).binds (ps := ["_law_cells", "_law_names_by", "_law_titles_by", "_law_strict"]) fun _ _ _ _ _ _ us hl => match us, hl with | [_, _, _, _], _ => rfl,
    a_law_copy := _, d_law_copy := _, F_law_copy := fun_mk (st := s_law_copy) lk_law_copy cd_is_law_copy kp_law_copy,
    m_law_copy := PySem.W.mg_of X G ns_law_copy,
    b_law_copy := (fun_mk (st := s_law_copy) lk_law_copy cd_is_law_copy kp_law_copy).binds (ps := ["_law_piece"]) fun _ _ _ _ _ _ us hl => match us, hl with | [_], _ => rfl,
    a_law_aim := _, d_law_aim := _, F_law_aim := fun_mk (st := s_law_aim) lk_law_aim cd_is_law_aim kp_law_aim,
    m_law_aim := PySem.W.mg_of X G ns_law_aim,
    b_law_aim := (fun_mk (st := s_law_aim) lk_law_aim cd_is_law_aim kp_law_aim).binds (ps := ["_law_piece", "_law_some", "_law_fill"]) fun _ _ _ _ _ _ us hl => match us, hl with | [_, _, _], _ => rfl,
    a_law_names := _, d_law_names := _, F_law_names := fun_mk (st := s_law_names) lk_law_names cd_is_law_names kp_law_names,
    m_law_names := PySem.W.mg_of X G ns_law_names,
    b_law_names := (fun_mk (st := s_law_names) lk_law_names cd_is_law_names kp_law_names).binds (ps := ["_law_pieces", "_law_by"]) fun _ _ _ _ _ _ us hl => match us, hl with | [_, _], _ => rfl,
    a_law_whole := _, d_law_whole := _, F_law_whole := fun_mk (st := s_law_whole) lk_law_whole cd_is_law_whole kp_law_whole,
    m_law_whole := PySem.W.mg_of X G ns_law_whole,
    b_law_whole := (fun_mk (st := s_law_whole) lk_law_whole cd_is_law_whole kp_law_whole).binds (ps := ["_law_found"]) fun _ _ _ _ _ _ us hl => match us, hl with | [_], _ => rfl,
    a_law_key := _, d_law_key := _, F_law_key := fun_mk (st := s_law_key) lk_law_key cd_is_law_key kp_law_key,
    m_law_key := PySem.W.mg_of X G ns_law_key,
    b_law_key := (fun_mk (st := s_law_key) lk_law_key cd_is_law_key kp_law_key).binds (ps := ["_law_found"]) fun _ _ _ _ _ _ us hl => match us, hl with | [_], _ => rfl,
    a_law_led := _, d_law_led := _, F_law_led := fun_mk (st := s_law_led) lk_law_led cd_is_law_led kp_law_led,
    m_law_led := PySem.W.mg_of X G ns_law_led,
    b_law_led := (fun_mk (st := s_law_led) lk_law_led cd_is_law_led kp_law_led).binds (ps := ["_law_pieces", "_law_some", "_law_row", "_law_there"]) fun _ _ _ _ _ _ us hl => match us, hl with | [_, _, _, _], _ => rfl,
    a_law_walked := _, d_law_walked := _, F_law_walked := fun_mk (st := s_law_walked) lk_law_walked cd_is_law_walked kp_law_walked,
    m_law_walked := PySem.W.mg_of X G ns_law_walked,
    b_law_walked := (fun_mk (st := s_law_walked) lk_law_walked cd_is_law_walked kp_law_walked).binds (ps := ["_law_found", "_law_pieces", "_law_some", "_law_root"]) fun _ _ _ _ _ _ us hl => match us, hl with | [_, _, _, _], _ => rfl,
    a_law := _, d_law := _, F_law := fun_mk (st := s_law) lk_law cd_is_law kp_law,
    m_law := PySem.W.mg_of X G ns_law,
    b_law := (fun_mk (st := s_law) lk_law cd_is_law kp_law).binds (ps := ["_law_script"]) fun _ _ _ _ _ _ us hl => match us, hl with | [_], _ => rfl,
    a_Unmet := _, g_Unmet := PySem.W.mg_of X G ns_Unmet,
    t_MANY := t_MANY, g_MANY := PySem.W.mg_of X G ns_MANY,
    n_bool := PySem.W.mg_none_of X G ns_bool,
    n_dict := PySem.W.mg_none_of X G ns_dict,
    n_int := PySem.W.mg_none_of X G ns_int,
    n_isinstance := PySem.W.mg_none_of X G ns_isinstance,
    n_len := PySem.W.mg_none_of X G ns_len,
    n_list := PySem.W.mg_none_of X G ns_list,
    n_range := PySem.W.mg_none_of X G ns_range,
    n_str := PySem.W.mg_none_of X G ns_str,
    n_tuple := PySem.W.mg_none_of X G ns_tuple })⟩
theorem walk {l : PySem.W.OpenLaw} {q : Program} {loose : List Str} {XP : (Str → Option Value) → Heap → Prop} {YP : World → Heap → Prop} {d : DefRec} {K : Params → PySem.W.Frag} (hn : l.most = some 63) (hdf : d.params.defaults = [])
    (hY : ∀ (w : World) (h : Heap), YP w h → (K w.params).In h)
    (F : ∀ (w : World) (mg : Str → Option Value) (fa : Addr) (h : Heap), (K w.params).In h → h.Ns mainGlobals mg → mg d.name = some (.ref fa) →
      ∃ fd : FuncData, (∀ (s : Shared) (u : Value), BindsTo s fd ⟨[u], []⟩ [("_law_script", u)]) ∧ ∀ base : Heap, (K w.params).In base → base.Ns mainGlobals mg → FnOk l.prog w (K w.params) mg base CX0 5 fa fd ["_law_script"] (sp_law (K w.params))) :
    PySem.W.WalkO q loose XP YP l.row.toRowW d [] (fun f vs => PySem.call f vs) :=
  L2.walk_of (n := 63) (k := 5) (x := "_law_script") (CX := fun _ => CX0) (sp := fun w => sp_law (K w.params)) hn (by decide) hdf ⟨rfl, by decide, by decide⟩ hY F (fun _ _ a ns hl _ hS => ⟨a, ns, rfl, hS, hl, fun _ => rfl⟩) fun _ _ _ _ _ z => z
end Jw
open PySem PySem.W PyProof.Rows
set_option maxRecDepth 100000 in
set_option maxHeartbeats 0 in
theorem PySem.Challenge.cw_joinload_k25_ways_that_lead_holds : PySem.Challenge.rw_joinload_k25_ways_that_lead.Holds := by
  w_on; o_law; k_head; (case hw => w_witness2)
  k_fill
  refine Jw.walk (l := PySem.Challenge.rw_joinload_k25_ways_that_lead) rfl rfl (fun w h Y => PySem.W.kIn_of Y) ?F
  case F =>
    intro w mg fa h KX G hmg
    refine' Jw.all_mk KX G hmg ?ns_Unmet ?ns_wrapped ?ns_own_names ?ns_aim ?ns_reached ?ns_law_cell_at ?ns_law_name_by ?ns_law_word_row ?ns_law_told_by ?ns_law_drawn ?ns_law_copy ?ns_law_aim ?ns_law_names ?ns_law_whole ?ns_law_key ?ns_law_led ?ns_law_walked ?ns_law ?lk_wrapped ?cd_is_wrapped ?kp_wrapped ?lk_own_names ?cd_is_own_names ?kp_own_names ?lk_aim ?cd_is_aim ?kp_aim ?lk_reached ?cd_is_reached ?kp_reached ?lk_law_cell_at ?cd_is_law_cell_at ?kp_law_cell_at ?lk_law_name_by ?cd_is_law_name_by ?kp_law_name_by ?lk_law_word_row ?cd_is_law_word_row ?kp_law_word_row ?lk_law_told_by ?cd_is_law_told_by ?kp_law_told_by ?lk_law_drawn ?cd_is_law_drawn ?kp_law_drawn ?lk_law_copy ?cd_is_law_copy ?kp_law_copy ?lk_law_aim ?cd_is_law_aim ?kp_law_aim ?lk_law_names ?cd_is_law_names ?kp_law_names ?lk_law_whole ?cd_is_law_whole ?kp_law_whole ?lk_law_key ?cd_is_law_key ?kp_law_key ?lk_law_led ?cd_is_law_led ?kp_law_led ?lk_law_walked ?cd_is_law_walked ?kp_law_walked ?lk_law ?cd_is_law ?kp_law ?ns_MANY ?ns_bool ?ns_dict ?ns_int ?ns_isinstance ?ns_len ?ns_list ?ns_range ?ns_str ?ns_tuple
    (case ns_Unmet => first | k_is | k_exc | kit_is)
    (case ns_wrapped => first | k_is | k_exc | kit_is)
    (case ns_own_names => first | k_is | k_exc | kit_is)
    (case ns_aim => first | k_is | k_exc | kit_is)
    (case ns_reached => first | k_is | k_exc | kit_is)
    (case ns_law_cell_at => first | k_is | k_exc | kit_is)
    (case ns_law_name_by => first | k_is | k_exc | kit_is)
    (case ns_law_word_row => first | k_is | k_exc | kit_is)
    (case ns_law_told_by => first | k_is | k_exc | kit_is)
    (case ns_law_drawn => first | k_is | k_exc | kit_is)
    (case ns_law_copy => first | k_is | k_exc | kit_is)
    (case ns_law_aim => first | k_is | k_exc | kit_is)
    (case ns_law_names => first | k_is | k_exc | kit_is)
    (case ns_law_whole => first | k_is | k_exc | kit_is)
    (case ns_law_key => first | k_is | k_exc | kit_is)
    (case ns_law_led => first | k_is | k_exc | kit_is)
    (case ns_law_walked => first | k_is | k_exc | kit_is)
    (case ns_law => first | k_is | k_exc | kit_is)
    (case lk_wrapped => first | k_is | k_exc | kit_is)
    (case cd_is_wrapped => first | k_is | k_exc | kit_is)
    (case kp_wrapped => first | k_is | k_exc | kit_is)
    (case lk_own_names => first | k_is | k_exc | kit_is)
    (case cd_is_own_names => first | k_is | k_exc | kit_is)
    (case kp_own_names => first | k_is | k_exc | kit_is)
    (case lk_aim => first | k_is | k_exc | kit_is)
    (case cd_is_aim => first | k_is | k_exc | kit_is)
    (case kp_aim => first | k_is | k_exc | kit_is)
    (case lk_reached => first | k_is | k_exc | kit_is)
    (case cd_is_reached => first | k_is | k_exc | kit_is)
    (case kp_reached => first | k_is | k_exc | kit_is)
    (case lk_law_cell_at => first | k_is | k_exc | kit_is)
    (case cd_is_law_cell_at => first | k_is | k_exc | kit_is)
    (case kp_law_cell_at => first | k_is | k_exc | kit_is)
    (case lk_law_name_by => first | k_is | k_exc | kit_is)
    (case cd_is_law_name_by => first | k_is | k_exc | kit_is)
    (case kp_law_name_by => first | k_is | k_exc | kit_is)
    (case lk_law_word_row => first | k_is | k_exc | kit_is)
    (case cd_is_law_word_row => first | k_is | k_exc | kit_is)
    (case kp_law_word_row => first | k_is | k_exc | kit_is)
    (case lk_law_told_by => first | k_is | k_exc | kit_is)
    (case cd_is_law_told_by => first | k_is | k_exc | kit_is)
    (case kp_law_told_by => first | k_is | k_exc | kit_is)
    (case lk_law_drawn => first | k_is | k_exc | kit_is)
    (case cd_is_law_drawn => first | k_is | k_exc | kit_is)
    (case kp_law_drawn => first | k_is | k_exc | kit_is)
    (case lk_law_copy => first | k_is | k_exc | kit_is)
    (case cd_is_law_copy => first | k_is | k_exc | kit_is)
    (case kp_law_copy => first | k_is | k_exc | kit_is)
    (case lk_law_aim => first | k_is | k_exc | kit_is)
    (case cd_is_law_aim => first | k_is | k_exc | kit_is)
    (case kp_law_aim => first | k_is | k_exc | kit_is)
    (case lk_law_names => first | k_is | k_exc | kit_is)
    (case cd_is_law_names => first | k_is | k_exc | kit_is)
    (case kp_law_names => first | k_is | k_exc | kit_is)
    (case lk_law_whole => first | k_is | k_exc | kit_is)
    (case cd_is_law_whole => first | k_is | k_exc | kit_is)
    (case kp_law_whole => first | k_is | k_exc | kit_is)
    (case lk_law_key => first | k_is | k_exc | kit_is)
    (case cd_is_law_key => first | k_is | k_exc | kit_is)
    (case kp_law_key => first | k_is | k_exc | kit_is)
    (case lk_law_led => first | k_is | k_exc | kit_is)
    (case cd_is_law_led => first | k_is | k_exc | kit_is)
    (case kp_law_led => first | k_is | k_exc | kit_is)
    (case lk_law_walked => first | k_is | k_exc | kit_is)
    (case cd_is_law_walked => first | k_is | k_exc | kit_is)
    (case kp_law_walked => first | k_is | k_exc | kit_is)
    (case lk_law => first | k_is | k_exc | kit_is)
    (case cd_is_law => first | k_is | k_exc | kit_is)
    (case kp_law => first | k_is | k_exc | kit_is)
    (case ns_MANY => first | k_is | k_exc | kit_is)
    (case ns_bool => first | k_is | k_exc | kit_is)
    (case ns_dict => first | k_is | k_exc | kit_is)
    (case ns_int => first | k_is | k_exc | kit_is)
    (case ns_isinstance => first | k_is | k_exc | kit_is)
    (case ns_len => first | k_is | k_exc | kit_is)
    (case ns_list => first | k_is | k_exc | kit_is)
    (case ns_range => first | k_is | k_exc | kit_is)
    (case ns_str => first | k_is | k_exc | kit_is)
    (case ns_tuple => first | k_is | k_exc | kit_is)
