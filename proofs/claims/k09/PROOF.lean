import PyProof.Rows.All
import Wide.All
import OpenK.AllK
import Wide.FinOn
import HandS.WordsExc
import KE.RegKIsAll
import HandS.ForMost
import HandS.IsInst
import HandS.Wide
import HandS.WideBits
import HandS.Style
import HandS.More
import HandS.Exc
import HandS.ExcOwn
import HandS.ExcValue
import HandS.ExcIs
import HandS.ExcField
import HandS.ExcInit
import HandS.Text
import KE.KExcIs
import HandS.WordsExc
import KE.RegKIsAll
import PySem.Challenge.RW_joinload_k09_rules_by_titles
set_option Elab.async false
set_option linter.all false
set_option maxRecDepth 100000
set_option maxHeartbeats 4000000
set_option maxHeartbeats 4000000
/-! Bits of whole numbers of any size: & and ^ by halves; a field put in. -/
namespace Jl
open PySem PyProof.Rows
theorem nat_and_rec (a b : Nat) : (a &&& b) = 2 * (a / 2 &&& b / 2) + (if a % 2 = 1 ∧ b % 2 = 1 then 1 else 0) := by
  have e : (a &&& b) / 2 = a / 2 &&& b / 2 := Nat.and_div_two
  have o := @Nat.and_mod_two_eq_one a b
  split <;> rename_i h
  · have := o.mpr h; omega
  · have : ¬ (a &&& b) % 2 = 1 := fun z => h (o.mp z)
    omega
theorem nat_or_rec (a b : Nat) : (a ||| b) = 2 * (a / 2 ||| b / 2) + (if a % 2 = 1 ∨ b % 2 = 1 then 1 else 0) := by
  have e : (a ||| b) / 2 = a / 2 ||| b / 2 := Nat.or_div_two
  have o := @Nat.or_mod_two_eq_one a b
  split <;> rename_i h
  · have := o.mpr h; omega
  · have : ¬ (a ||| b) % 2 = 1 := fun z => h (o.mp z)
    omega
theorem toNat_half {x : Int} (h : 0 ≤ x) : x.toNat / 2 = (x / 2).toNat := by omega
theorem not_half (x : Int) : Builtin.bitNot x / 2 = Builtin.bitNot (x / 2) := by unfold Builtin.bitNot; omega
/-- & by halves -/
theorem and_rec (x y : Int) : Builtin.bitAnd x y = 2 * Builtin.bitAnd (x / 2) (y / 2) + (if x % 2 = 1 ∧ y % 2 = 1 then 1 else 0) := by
  by_cases hx : 0 ≤ x
  · have hx' : 0 ≤ x / 2 := by omega
    by_cases hy : 0 ≤ y
    · have hy' : 0 ≤ y / 2 := by omega
      rw [bitAnd_pp hx hy, bitAnd_pp hx' hy', nat_and_rec, toNat_half hx, toNat_half hy]
      split <;> split <;> omega
    · have hy' : ¬ 0 ≤ y / 2 := by omega
      have hn : 0 ≤ Builtin.bitNot y := by unfold Builtin.bitNot; omega
      rw [bitAnd_comm x y, bitAnd_comm (x / 2), bitAnd_np hy hx, bitAnd_np hy' hx', nat_and_rec, toNat_half hx, toNat_half hn, not_half]
      have e1 : x.toNat % 2 = 1 ↔ x % 2 = 1 := by omega
      have e2 : (Builtin.bitNot y).toNat % 2 = 1 ↔ ¬ y % 2 = 1 := by unfold Builtin.bitNot at *; omega
      split <;> split <;> omega
  · have hx' : ¬ 0 ≤ x / 2 := by omega
    have hnx : 0 ≤ Builtin.bitNot x := by unfold Builtin.bitNot; omega
    have e2 : (Builtin.bitNot x).toNat % 2 = 1 ↔ ¬ x % 2 = 1 := by unfold Builtin.bitNot at *; omega
    by_cases hy : 0 ≤ y
    · have hy' : 0 ≤ y / 2 := by omega
      rw [bitAnd_np hx hy, bitAnd_np hx' hy', nat_and_rec, toNat_half hy, toNat_half hnx, not_half]
      have e1 : y.toNat % 2 = 1 ↔ y % 2 = 1 := by omega
      split <;> split <;> omega
    · have hy' : ¬ 0 ≤ y / 2 := by omega
      have hny : 0 ≤ Builtin.bitNot y := by unfold Builtin.bitNot; omega
      have e3 : (Builtin.bitNot y).toNat % 2 = 1 ↔ ¬ y % 2 = 1 := by unfold Builtin.bitNot at *; omega
      rw [bitAnd_nn hx hy, bitAnd_nn hx' hy', nat_or_rec, toNat_half hnx, toNat_half hny, not_half, not_half]
      have u : ∀ z : Int, Builtin.bitNot z = -z - 1 := fun _ => rfl
      rw [u (_ : Nat), u (_ : Nat)]
      split <;> split <;> omega
/-- ^ by halves -/
theorem xor_rec (x y : Int) : Builtin.bitXor x y = 2 * Builtin.bitXor (x / 2) (y / 2) + (x + y) % 2 := by
  rw [bitXor_and, bitXor_and, and_rec]
  split <;> omega
theorem and_two (x y : Int) (c d : Int) (hc : c = 0 ∨ c = 1) (hd : d = 0 ∨ d = 1) : Builtin.bitAnd (2 * x + c) (2 * y + d) = 2 * Builtin.bitAnd x y + c * d := by
  rw [and_rec]
  have e1 : (2 * x + c) / 2 = x := by omega
  have e2 : (2 * y + d) / 2 = y := by omega
  rw [e1, e2]
  rcases hc with rfl | rfl <;> rcases hd with rfl | rfl <;> (split <;> omega)
theorem xor_two (x y : Int) (c d : Int) (hc : c = 0 ∨ c = 1) (hd : d = 0 ∨ d = 1) : Builtin.bitXor (2 * x + c) (2 * y + d) = 2 * Builtin.bitXor x y + (c + d) % 2 := by
  rw [xor_rec]
  have e1 : (2 * x + c) / 2 = x := by omega
  have e2 : (2 * y + d) / 2 = y := by omega
  rw [e1, e2]
  omega
theorem two_pow_pos (k : Nat) : (0 : Int) < 2 ^ k := Int.pow_pos (by decide)
theorem pow_succ2 (k : Nat) : (2 : Int) ^ (k + 1) = 2 * 2 ^ k := by rw [Int.pow_succ]; omega
theorem emod_two_mul (a : Int) {m : Int} (hm : 0 < m) : a % (2 * m) = 2 * (a / 2 % m) + a % 2 := by
  have h1 : a / 2 = m * (a / 2 / m) + a / 2 % m := (Int.mul_ediv_add_emod (a / 2) m).symm
  have h2 := Int.emod_nonneg (a / 2) (show m ≠ 0 by omega)
  have h3 := Int.emod_lt_of_pos (a / 2) hm
  have h4 : a = (2 * (a / 2 % m) + a % 2) + (2 * m) * (a / 2 / m) := by
    have : (2 * m) * (a / 2 / m) = 2 * (m * (a / 2 / m)) := Int.mul_assoc ..
    omega
  have h5 : a % (2 * m) = (2 * (a / 2 % m) + a % 2) % (2 * m) := by
    conv => lhs; rw [h4]
    rw [Int.add_mul_emod_self_left]
  rw [h5, Int.emod_eq_of_lt (by omega) (by omega)]
theorem ediv_two_pow (a : Int) (k : Nat) : a / 2 ^ (k + 1) = a / 2 / 2 ^ k := by
  rw [pow_succ2, Int.ediv_ediv_of_nonneg (by decide)]
/-- x & (2 ** k - 1), x any number -/
theorem and_mask (k : Nat) : ∀ x : Int, Builtin.bitAnd x (2 ^ k - 1) = x % 2 ^ k := by
  induction k with
  | zero => intro x; show Builtin.bitAnd x 0 = x % 1; rw [bitAnd_zero]; omega
  | succ k ih =>
    intro x
    have e : (2 : Int) ^ (k + 1) - 1 = 2 * (2 ^ k - 1) + 1 := by rw [pow_succ2]; omega
    have hx : x = 2 * (x / 2) + x % 2 := by omega
    rw [e]
    conv => lhs; rw [hx]
    rw [and_two _ _ _ _ (by omega) (by omega), ih, pow_succ2, emod_two_mul _ (two_pow_pos k)]
    omega
/-- the field put in: what with_field reckons -/
theorem put_low (many : Nat) : ∀ w n : Int, Builtin.bitXor w (Builtin.bitAnd (Builtin.bitXor w n) (2 ^ many - 1)) = w - w % 2 ^ many + n % 2 ^ many := by
  induction many with
  | zero => intro w n; show Builtin.bitXor w (Builtin.bitAnd (Builtin.bitXor w n) 0) = w - w % 1 + n % 1; rw [bitAnd_zero, bitXor_zero]; omega
  | succ k ih =>
    intro w n
    have e : (2 : Int) ^ (k + 1) - 1 = 2 * (2 ^ k - 1) + 1 := by rw [pow_succ2]; omega
    have hw : w = 2 * (w / 2) + w % 2 := by omega
    have hn : n = 2 * (n / 2) + n % 2 := by omega
    have i := ih (w / 2) (n / 2)
    have q1 := emod_two_mul w (two_pow_pos k)
    have q2 := emod_two_mul n (two_pow_pos k)
    rw [e]
    conv => lhs; rw [hw, hn]
    rw [xor_two _ _ _ _ (by omega) (by omega), and_two _ _ _ _ (by omega) (by omega), xor_two _ _ _ _ (by omega) (by omega), i, pow_succ2, q1, q2]
    omega
theorem put_at (low many : Nat) : ∀ w n : Int, Builtin.bitXor w (Builtin.bitAnd (Builtin.bitXor w (n * 2 ^ low)) ((2 ^ many - 1) * 2 ^ low)) =
    w - (w / 2 ^ low % 2 ^ many) * 2 ^ low + (n % 2 ^ many) * 2 ^ low := by
  induction low with
  | zero => intro w n; simp only [Int.pow_zero, Int.mul_one, Int.ediv_one]; exact put_low many w n
  | succ k ih =>
    intro w n
    have hw : w = 2 * (w / 2) + w % 2 := by omega
    have e1 : n * 2 ^ (k + 1) = 2 * (n * 2 ^ k) + 0 := by rw [pow_succ2, Int.mul_left_comm]; omega
    have e2 : ((2 : Int) ^ many - 1) * 2 ^ (k + 1) = 2 * ((2 ^ many - 1) * 2 ^ k) + 0 := by rw [pow_succ2, Int.mul_left_comm]; omega
    have i := ih (w / 2) n
    rw [e1, e2, ediv_two_pow, pow_succ2]
    conv => lhs; rw [hw]
    rw [xor_two _ _ _ _ (by omega) (by omega), and_two _ _ _ _ (by omega) (by omega), xor_two _ _ _ _ (by omega) (by omega), i]
    rw [Int.mul_left_comm _ 2, Int.mul_left_comm _ 2]
    omega
/-- what with_field(word, low, many, number) reckons -/
def wf (w low many n : Int) : Int := w - (w / 2 ^ low.toNat % 2 ^ many.toNat) * 2 ^ low.toNat + (n % 2 ^ many.toNat) * 2 ^ low.toNat
end Jl
namespace Jl
/-- signed(number, many) -/
def sgn (n : Int) (m : Nat) : Int := (n + 2 ^ (m - 1)) % (2 ^ (m - 1) * 2) - 2 ^ (m - 1)
theorem sgn_facts (n : Int) {m : Nat} (h : 1 ≤ m) : -(2 ^ (m - 1)) ≤ sgn n m ∧ sgn n m < 2 ^ (m - 1) ∧ (n - sgn n m) % 2 ^ m = 0 := by
  obtain ⟨k, rfl⟩ : ∃ k, m = k + 1 := ⟨m - 1, by omega⟩
  have hp := two_pow_pos k
  have e : k + 1 - 1 = k := by omega
  unfold sgn
  rw [e, pow_succ2]
  have h1 := Int.emod_nonneg (n + 2 ^ k) (show (2 : Int) ^ k * 2 ≠ 0 by omega)
  have h2 := Int.emod_lt_of_pos (n + 2 ^ k) (show (0 : Int) < 2 ^ k * 2 by omega)
  refine ⟨by omega, by omega, ?_⟩
  have h3 := Int.mul_ediv_add_emod (n + 2 ^ k) (2 ^ k * 2)
  have h4 : n - ((n + 2 ^ k) % (2 ^ k * 2) - 2 ^ k) = (2 * 2 ^ k) * ((n + 2 ^ k) / (2 ^ k * 2)) := by
    have : (2 * 2 ^ k) * ((n + 2 ^ k) / (2 ^ k * 2)) = 2 ^ k * 2 * ((n + 2 ^ k) / (2 ^ k * 2)) := by rw [Int.mul_comm 2]
    omega
  rw [h4]
  exact Int.mul_emod_right _ _
end Jl
namespace Jl
theorem pow_lt {m : Nat} (h : m ≤ 99) : ((2 : Int) ^ m - 1).natAbs < 2 ^ 100 := by
  have e : ((2 : Int) ^ m) = ((2 ^ m : Nat) : Int) := by simp
  have h2 : (2 : Nat) ^ m ≤ 2 ^ 99 := Nat.pow_le_pow_right (by decide) h
  have h3 : (2 : Nat) ^ 99 < 2 ^ 100 := by decide
  have h4 : 0 < (2 : Nat) ^ m := Nat.two_pow_pos m
  rw [e]
  omega
theorem pow_lt' {m : Nat} (h : m ≤ 99) : ((2 : Int) ^ m).natAbs < 2 ^ 100 := by
  have e : ((2 : Int) ^ m) = ((2 ^ m : Nat) : Int) := by simp
  have h2 : (2 : Nat) ^ m ≤ 2 ^ 99 := Nat.pow_le_pow_right (by decide) h
  have h3 : (2 : Nat) ^ 99 < 2 ^ 100 := by decide
  rw [e, Int.natAbs_natCast]
  omega
/-- what lies within sixty figures (and some more) -/
theorem big_of {n : Int} (h : -(10 ^ 65) ≤ n) (h2 : n ≤ 10 ^ 65) : n.natAbs < 2 ^ 250 := by
  have e : (10 : Nat) ^ 65 < 2 ^ 250 := by decide
  omega
end Jl
namespace Jl
theorem half_pow {m : Nat} (h : 1 ≤ m) : (2 : Int) ^ m / 2 = 2 ^ (m - 1) := by
  obtain ⟨k, rfl⟩ : ∃ k, m = k + 1 := ⟨m - 1, by omega⟩
  rw [pow_succ2, Nat.add_sub_cancel]
  omega
end Jl
namespace Jl
theorem half_more (a : Int) (k : Nat) : a / 2 ^ k / 2 = a / 2 ^ (k + 1) := by
  rw [Int.pow_succ, Int.ediv_ediv_of_nonneg (Int.le_of_lt (two_pow_pos k))]
theorem dbl_more (k : Nat) : (2 : Int) ^ k * 2 = 2 ^ (k + 1) := by rw [Int.pow_succ]
end Jl
namespace Jl
theorem mod_bit (x : Int) : ∀ (j m : Nat), j < m → (x % 2 ^ m) / 2 ^ j % 2 = x / 2 ^ j % 2 := by
  intro j
  induction j generalizing x with
  | zero =>
    intro m h
    obtain ⟨k, rfl⟩ : ∃ k, m = k + 1 := ⟨m - 1, by omega⟩
    rw [pow_succ2, emod_two_mul _ (two_pow_pos k)]
    simp only [Int.pow_zero, Int.ediv_one]
    omega
  | succ j ih =>
    intro m h
    obtain ⟨k, rfl⟩ : ∃ k, m = k + 1 := ⟨m - 1, by omega⟩
    have e : x % 2 ^ (k + 1) / 2 = x / 2 % 2 ^ k := by
      rw [pow_succ2, emod_two_mul _ (two_pow_pos k)]
      omega
    rw [ediv_two_pow, ediv_two_pow, e]
    exact ih (x / 2) k (by omega)
theorem pow_add2 (a b : Nat) : (2 : Int) ^ (a + b) = 2 ^ a * 2 ^ b := Int.pow_add ..
theorem div_more (x : Int) (a b : Nat) : x / 2 ^ (a + b) = x / 2 ^ a / 2 ^ b := by
  rw [pow_add2, Int.ediv_ediv_of_nonneg (Int.le_of_lt (two_pow_pos a))]
def wfN (w : Int) (low many : Nat) (n : Int) : Int := w - (w / 2 ^ low % 2 ^ many) * 2 ^ low + (n % 2 ^ many) * 2 ^ low
theorem wf_parts (w : Int) (low many : Nat) (n : Int) : wfN w low many n / 2 ^ low = 2 ^ many * (w / 2 ^ low / 2 ^ many) + n % 2 ^ many ∧ wfN w low many n % 2 ^ low = w % 2 ^ low := by
  have hp := two_pow_pos low
  have e1 := Int.mul_ediv_add_emod w (2 ^ low)
  have e2 := Int.mul_ediv_add_emod (w / 2 ^ low) (2 ^ many)
  have r1 := Int.emod_nonneg w (show (2 : Int) ^ low ≠ 0 by omega)
  have r2 := Int.emod_lt_of_pos w hp
  have e3 : wfN w low many n = 2 ^ low * (2 ^ many * (w / 2 ^ low / 2 ^ many) + n % 2 ^ many) + w % 2 ^ low := by
    unfold wfN
    generalize w / 2 ^ low % 2 ^ many = f at *
    generalize w % 2 ^ low = r at *
    generalize n % 2 ^ many = g at *
    generalize w / 2 ^ low / 2 ^ many = A at *
    have e4 : 2 ^ low * (w / 2 ^ low) = 2 ^ low * (2 ^ many * A) + f * 2 ^ low := by
      rw [Int.mul_comm f, ← Int.mul_add, e2]
    have e5 : (2 : Int) ^ low * (2 ^ many * A + g) = 2 ^ low * (2 ^ many * A) + g * 2 ^ low := by
      rw [Int.mul_add, Int.mul_comm g]
    omega
  rw [e3]
  constructor
  · rw [Int.add_comm (2 ^ low * _), Int.add_mul_ediv_left _ _ (by omega), Int.ediv_eq_zero_of_lt r1 r2]
    omega
  · rw [Int.add_comm (2 ^ low * _), Int.add_mul_emod_self_left, Int.emod_eq_of_lt r1 r2]
theorem wf_field (w : Int) (low many : Nat) (n : Int) : wfN w low many n / 2 ^ low % 2 ^ many = n % 2 ^ many := by
  rw [(wf_parts w low many n).1, Int.add_comm, Int.add_mul_emod_self_left, Int.emod_emod]
theorem wf_high (w : Int) (low many : Nat) (n : Int) : wfN w low many n / 2 ^ (low + many) = w / 2 ^ (low + many) := by
  have hp := two_pow_pos many
  have r1 := Int.emod_nonneg n (show (2 : Int) ^ many ≠ 0 by omega)
  have r2 := Int.emod_lt_of_pos n hp
  rw [div_more, div_more, (wf_parts w low many n).1, Int.add_comm, Int.add_mul_ediv_left _ _ (by omega), Int.ediv_eq_zero_of_lt r1 r2]
  omega
theorem wf_bit (w : Int) (low many : Nat) (n : Int) (i : Nat) : wfN w low many n / 2 ^ i % 2 = if low ≤ i ∧ i < low + many then n / 2 ^ (i - low) % 2 else w / 2 ^ i % 2 := by
  by_cases h : i < low
  · rw [if_neg (by omega), ← mod_bit _ i low h, (wf_parts w low many n).2, mod_bit _ i low h]
  · by_cases h2 : i < low + many
    · rw [if_pos ⟨by omega, h2⟩]
      obtain ⟨j, rfl⟩ : ∃ j, i = low + j := ⟨i - low, by omega⟩
      rw [div_more, Nat.add_sub_cancel_left, ← mod_bit (wfN w low many n / 2 ^ low) j many (by omega), wf_field, mod_bit _ j many (by omega)]
    · rw [if_neg (by omega)]
      obtain ⟨j, rfl⟩ : ∃ j, i = (low + many) + j := ⟨i - (low + many), by omega⟩
      rw [div_more, wf_high, ← div_more]
/-- two numbers in a word's range, by their parts -/
theorem lt_pow_of_div {x : Int} {a b : Nat} (h0 : 0 ≤ x / 2 ^ a) (h : x / 2 ^ a < 2 ^ b) : 0 ≤ x ∧ x < 2 ^ (a + b) := by
  have hp := two_pow_pos a
  have e1 := Int.mul_ediv_add_emod x (2 ^ a)
  have r1 := Int.emod_nonneg x (show (2 : Int) ^ a ≠ 0 by omega)
  have r2 := Int.emod_lt_of_pos x hp
  have m0 := Int.mul_nonneg (Int.le_of_lt hp) h0
  have m1 : (2 : Int) ^ a * (x / 2 ^ a + 1) ≤ 2 ^ a * 2 ^ b := Int.mul_le_mul_of_nonneg_left (by omega) (Int.le_of_lt hp)
  rw [pow_add2]
  rw [Int.mul_add] at m1
  omega
theorem div_lt_pow {x : Int} {a b : Nat} (h0 : 0 ≤ x) (h : x < 2 ^ (a + b)) : 0 ≤ x / 2 ^ a ∧ x / 2 ^ a < 2 ^ b := by
  have hp := two_pow_pos a
  refine ⟨Int.ediv_nonneg h0 (Int.le_of_lt hp), ?_⟩
  refine Int.ediv_lt_of_lt_mul hp ?_
  rw [Int.mul_comm, ← pow_add2]
  exact h
theorem wf_range (w : Int) (low many k : Nat) (n : Int) (hk : low + many ≤ k) (h0 : 0 ≤ w) (h : w < 2 ^ k) : 0 ≤ wfN w low many n ∧ wfN w low many n < 2 ^ k := by
  obtain ⟨j, rfl⟩ : ∃ j, k = (low + many) + j := ⟨k - (low + many), by omega⟩
  obtain ⟨a, b⟩ := div_lt_pow h0 h
  rw [← wf_high w low many n] at a b
  exact lt_pow_of_div a b
theorem wf_is (w low many n : Int) : wf w low many n = wfN w low.toNat many.toNat n := rfl
end Jl
namespace Jl
/-- the lowest n bits, the lowest one first -/
def bitsOf (w : Int) (n : Nat) : List Int := (List.range n).map fun i => w / 2 ^ i % 2
end Jl
namespace Jl
theorem turn_bits (w : Int) (h0 : 0 ≤ w) (h1 : w < 2 ^ 32) (m : Nat) (hm : m ≤ 32) (i : Nat) (hi : i < 32) :
    ((w / 2 ^ m + w * 2 ^ (32 - m)) % 2 ^ 32) / 2 ^ i % 2 = w / 2 ^ (if i + m < 32 then i + m else i + m - 32) % 2 := by
  rw [mod_bit _ i 32 hi]
  have hp := two_pow_pos (32 - m)
  have ha : 0 ≤ w / 2 ^ m ∧ w / 2 ^ m < 2 ^ (32 - m) := div_lt_pow h0 (by rw [show m + (32 - m) = 32 by omega]; exact h1)
  by_cases h : i + m < 32
  · rw [if_pos h, ← mod_bit _ i (32 - m) (by omega), Int.mul_comm w, Int.add_mul_emod_self_left, Int.emod_eq_of_lt ha.1 ha.2, ← div_more, Nat.add_comm m]
  · rw [if_neg h]
    obtain ⟨j, rfl⟩ : ∃ j, i = (32 - m) + j := ⟨i - (32 - m), by omega⟩
    rw [div_more, Int.mul_comm w, Int.add_mul_ediv_left _ _ (by omega), Int.ediv_eq_zero_of_lt ha.1 ha.2, Int.zero_add, show 32 - m + j + m - 32 = j by omega]
theorem bitsOf_get (w : Int) {n i : Nat} (h : i < n) : (bitsOf w n)[i]? = some (w / 2 ^ i % 2) := by
  unfold bitsOf
  rw [List.getElem?_map, List.getElem?_range h]; rfl
theorem bitsOf_succ (w : Int) (n : Nat) : bitsOf w (n + 1) = bitsOf w n ++ [w / 2 ^ n % 2] := by
  unfold bitsOf
  rw [List.range_succ, List.map_append]; rfl
theorem bitsOf_len (w : Int) (n : Nat) : (bitsOf w n).length = n := by
  unfold bitsOf
  rw [List.length_map, List.length_range]
end Jl
namespace Jl
theorem f0_16 (w : Int) : w / 2 ^ (0 : Int).toNat % 2 ^ (16 : Int).toNat = w % 65536 := by
  show w / 1 % 65536 = _
  rw [Int.ediv_one]
theorem f0_7 (w : Int) : w / 2 ^ (0 : Int).toNat % 2 ^ (7 : Int).toNat = w % 128 := by
  show w / 1 % 128 = _
  rw [Int.ediv_one]
theorem f14_5 (w : Int) : w / 2 ^ (14 : Int).toNat % 2 ^ (5 : Int).toNat = w / 16384 % 32 := rfl
theorem wf_16 (w n : Int) : wf w 0 16 n = w - w % 65536 + n % 65536 := by
  show w - (w / 1 % 65536) * 1 + (n % 65536) * 1 = _
  rw [Int.ediv_one]; omega
theorem wf_19 (w n : Int) : wf w 0 19 n = w - w % 524288 + n % 524288 := by
  show w - (w / 1 % 524288) * 1 + (n % 524288) * 1 = _
  rw [Int.ediv_one]; omega
theorem wf_7 (w n : Int) : wf w 0 7 n = w - w % 128 + n % 128 := by
  show w - (w / 1 % 128) * 1 + (n % 128) * 1 = _
  rw [Int.ediv_one]; omega
theorem wf_14 (w n : Int) : wf w 14 5 n = w - w / 16384 % 32 * 16384 + n % 32 * 16384 := rfl
theorem sgn_16 (w : Int) : sgn w (16 : Int).toNat = (w + 32768) % 65536 - 32768 := rfl
theorem sgn_19 (w : Int) : sgn w (19 : Int).toNat = (w + 262144) % 524288 - 262144 := rfl
theorem sgn_12 (w : Int) : sgn w (12 : Int).toNat = (w + 2048) % 4096 - 2048 := rfl
end Jl
namespace Jl
/-- what the fill of split makes of a word -/
def sf (w y : Int) : Int := 524288 * (w / 524288) + 16384 * (y / 128 % 32) + 128 * (w / 128 % 128) + y % 128
theorem sf_is (w y : Int) : (w - w % 128 + y % 128) - (w - w % 128 + y % 128) / 16384 % 32 * 16384 + y / 128 % 32 * 16384 = sf w y := by
  unfold sf
  have h1 : (w - w % 128 + y % 128) / 16384 = w / 16384 := by omega
  have h2 : w / 16384 = 32 * (w / 524288) + w / 16384 % 32 := by omega
  have h3 : w / 128 = 128 * (w / 16384) + w / 128 % 128 := by omega
  rw [h1]
  omega
theorem sf_parts (w y : Int) : sf w y / 524288 = w / 524288 ∧ sf w y / 128 % 128 = w / 128 % 128 ∧ sf w y % 128 = y % 128 ∧ sf w y / 16384 % 32 = y / 128 % 32 := by
  have a1 := Int.emod_nonneg (y / 128) (show (32 : Int) ≠ 0 by decide)
  have a2 := Int.emod_lt_of_pos (y / 128) (show (0 : Int) < 32 by decide)
  have b1 := Int.emod_nonneg (w / 128) (show (128 : Int) ≠ 0 by decide)
  have b2 := Int.emod_lt_of_pos (w / 128) (show (0 : Int) < 128 by decide)
  have c1 := Int.emod_nonneg y (show (128 : Int) ≠ 0 by decide)
  have c2 := Int.emod_lt_of_pos y (show (0 : Int) < 128 by decide)
  unfold sf
  generalize y / 128 % 32 = a at *
  generalize w / 128 % 128 = b at *
  generalize y % 128 = c at *
  generalize w / 524288 = d at *
  refine ⟨by omega, by omega, by omega, by omega⟩
theorem sf_again (w y z : Int) : sf (sf w y) z = sf w z := by
  have h := sf_parts w y
  unfold sf at *
  omega
theorem low12 (y : Int) : y % 128 + y / 128 % 32 * 128 = y % 4096 := by omega
end Jl

/-! Steps: one lemma for each reading, to be walked from the left. -/
namespace Jl
open PySem L2
section
variable {X : Cx}
/-- a list + a list, each to be read (the script, too) -/
def rCatS (K : PySem.W.Frag) : R2 := fun x y H Q => ∃ l b xs zs, x = .ref l ∧ y = .ref b ∧ SqL K H l xs ∧ SqL K H b zs ∧ xs.length + zs.length ≤ sizeLine ∧ ∀ p, H p = none → Q (.ref p) (upd H p (.lst (xs ++ zs)))
theorem op_catS : OpR X (binaryOp .Add) (rCatS X.K) := by
  intro pins s σ H x y v u Q I rx ry h
  obtain ⟨l, b, xs, zs, rfl, rfl, hH, hB, hz, q⟩ := h
  cases rx
  cases ry
  obtain ⟨its, r, p, _⟩ := I.list hH
  obtain ⟨its2, r2, p2, _⟩ := I.list hB
  have hl := p.isList
  have hb := p2.isList
  have hsz : its.length + its2.length ≤ sizeLine := by rw [← r.length, ← r2.length]; exact hz
  obtain ⟨⟨cls, dd, data, sl⟩, ho, hc, n, hd⟩ := id hl
  obtain ⟨⟨cls2, dd2, data2, sl2⟩, ho2, hc2, n2, hd2⟩ := id hb
  simp only at hc hd hc2 hd2
  subst hc hd hc2 hd2
  have e : its.toArray ++ its2.toArray = (its ++ its2).toArray := by simp
  refine PySem.concat_meets ⟨_, ho, rfl⟩ ⟨_, ho2, rfl⟩ PySem.noFill_list_add PySem.seq_list_add PySem.F.slot_list_add PySem.F.entry_list_add (PySem.F.args_list_add_2 _ _) (PyProof.Rows.list_addW l b its.toArray its2.toArray n n2 dd dd2 sl sl2 (by simpa using hsz)) ⟨ho, ho2, ?_⟩
  rw [e]
  exact ⟨.ref _, _, I.lnew (t' := s.toks) (r.append r2) (by rw [List.length_append]; omega), rfl, q _ I.fresh⟩
end
section
variable {K : PySem.W.Frag} {σ : L2.St} {H : Hp} {Q : VK} {ta tb tc te : TE} {tt t1 t2 : TT} {tr : TA} {i j : Int} {x y v : V} {b c : Bool} {p q A B : Prop} {nx bk ct : L2.St → Hp → Prop} {rt : VK} {ts tu tw : TS} {g : Int → Int → V} {R : List V → Hp → Prop} {T : Bool → Hp → Prop} {E : XK} {sp : Sp}
theorem s_var {k : Nat} (h : σ[k]? = some (some v)) (z : Q v H) : tVar k σ H Q := ⟨v, h, z⟩
theorem s_c (z : Q v H) : tC v σ H Q := z
theorem s_op {r : R2} (z : ta σ H fun x H1 => tb σ H1 fun y H2 => r x y H2 Q) : tOp r ta tb σ H Q := z
theorem s_un {r : V → Hp → VK → Prop} (z : ta σ H fun x H1 => r x H1 Q) : tUn r ta σ H Q := z
theorem s_I0 (z : Q (g i j) H) : rI0 g (.int i) (.int j) H Q := ⟨i, j, rfl, rfl, z⟩
theorem s_I {C : Int → Int → Prop} (hc : C i j) (z : Q (g i j) H) : rI C g (.int i) (.int j) H Q := ⟨i, j, rfl, rfl, hc, z⟩
theorem s_U {f : Int → V} (z : Q (f i) H) : rU f (.int i) H Q := ⟨i, rfl, z⟩
theorem s_eqI (z : Q (.bl (decide (i = j))) H) : rEq (.int i) (.int j) H Q := ⟨rfl, by
  have e : decide (V.int i = V.int j) = decide (i = j) := by rw [Bool.eq_iff_iff]; simp
  rw [e]; exact z⟩
theorem s_neI (z : Q (.bl (!decide (i = j))) H) : rNe (.int i) (.int j) H Q := ⟨rfl, by
  have e : decide (V.int i = V.int j) = decide (i = j) := by rw [Bool.eq_iff_iff]; simp
  rw [e]; exact z⟩
theorem s_eqS {z w : Str} (k : Q (.bl (decide (z = w))) H) : rEq (.str z) (.str w) H Q := ⟨rfl, by
  have e : decide (V.str z = V.str w) = decide (z = w) := by rw [Bool.eq_iff_iff]; simp
  rw [e]; exact k⟩
theorem s_neS {z w : Str} (k : Q (.bl (!decide (z = w))) H) : rNe (.str z) (.str w) H Q := ⟨rfl, by
  have e : decide (V.str z = V.str w) = decide (z = w) := by rw [Bool.eq_iff_iff]; simp
  rw [e]; exact k⟩
theorem s_eqB (k : Q (.bl (decide (b = c))) H) : rEq (.bl b) (.bl c) H Q := ⟨rfl, by
  have e : decide (V.bl b = V.bl c) = decide (b = c) := by rw [Bool.eq_iff_iff]; simp
  rw [e]; exact k⟩
theorem s_neB (k : Q (.bl (!decide (b = c))) H) : rNe (.bl b) (.bl c) H Q := ⟨rfl, by
  have e : decide (V.bl b = V.bl c) = decide (b = c) := by rw [Bool.eq_iff_iff]; simp
  rw [e]; exact k⟩
theorem s_isB (k : Q (.bl (decide (b = c))) H) : rIsB (.bl b) (.bl c) H Q := ⟨b, c, rfl, rfl, k⟩
theorem s_notB (k : Q (.bl (!decide (b = c))) H) : rNotB (.bl b) (.bl c) H Q := ⟨b, c, rfl, rfl, k⟩
theorem s_test {t : TE} (z : t σ H fun x H' => ∃ k, x = .bl k ∧ T k H') : tTest t σ H T := z
theorem s_tB {t : TE} (z : t σ H fun x H' => ∃ k, x = .bl k ∧ T k H') : tB t σ H T := z
theorem s_chain {r r' : R2} (z : ta σ H fun x H1 => tb σ H1 fun y H2 => r x y H2 fun z H3 => ∃ k, z = .bl k ∧ (if k = true then tc σ H3 fun w' H4 => r' y w' H4 Q else Q (.bl false) H3)) : tChain r r' ta tb tc σ H Q := z
theorem s_and (z : t1 σ H fun c H1 => if c = true then t2 σ H1 T else T false H1) : tAnd t1 t2 σ H T := z
theorem s_or (z : t1 σ H fun c H1 => if c = true then T true H1 else t2 σ H1 T) : tOr t1 t2 σ H T := z
theorem s_not (z : t1 σ H fun c H1 => T (!c) H1) : tNot t1 σ H T := z
theorem s_andV (z : ta σ H fun x H1 => ∃ c, x = .bl c ∧ if c = true then tb σ H1 Q else Q (.bl false) H1) : tAndV ta tb σ H Q := z
theorem s_orV (z : ta σ H fun x H1 => ∃ c, x = .bl c ∧ if c = true then Q (.bl true) H1 else tb σ H1 Q) : tOrV ta tb σ H Q := z
theorem s_notV (z : ta σ H fun x H1 => ∃ c, x = .bl c ∧ Q (.bl (!c)) H1) : tNotV ta σ H Q := z
theorem s_ifE (z : tt σ H fun c H1 => if c = true then ta σ H1 Q else tb σ H1 Q) : tIf tt ta tb σ H Q := z
theorem s_exbl {P : Bool → Prop} (z : P b) : ∃ k, V.bl b = V.bl k ∧ P k := ⟨b, rfl, z⟩
theorem s_next (z : nx σ H) : tNext ⟨nx, rt, bk, ct⟩ σ H := z
theorem s_seq (z : ts ⟨tu ⟨nx, rt, bk, ct⟩, rt, bk, ct⟩ σ H) : tSeq ts tu ⟨nx, rt, bk, ct⟩ σ H := z
theorem s_seq_assoc (z : tSeq ts tu ⟨tw ⟨nx, rt, bk, ct⟩, rt, bk, ct⟩ σ H) : tSeq ts (tSeq tu tw) ⟨nx, rt, bk, ct⟩ σ H := z
theorem s_drop (z : te σ H fun _ H1 => nx σ H1) : tDrop te ⟨nx, rt, bk, ct⟩ σ H := z
theorem s_ret (z : te σ H rt) : tRet te ⟨nx, rt, bk, ct⟩ σ H := z
theorem s_break (z : bk σ H) : tBreak ⟨nx, rt, bk, ct⟩ σ H := z
theorem s_cont (z : ct σ H) : tCont ⟨nx, rt, bk, ct⟩ σ H := z
theorem s_ifS (z : tt σ H fun b H1 => if b = true then ts ⟨nx, rt, bk, ct⟩ σ H1 else tu ⟨nx, rt, bk, ct⟩ σ H1) : tIfS tt ts tu ⟨nx, rt, bk, ct⟩ σ H := z
theorem s_asg {gg : TG} (z : te σ H fun x H1 => gg x σ H1 nx) : tAsg te gg ⟨nx, rt, bk, ct⟩ σ H := z
theorem s_name {k : Nat} {W : L2.St → Hp → Prop} (z : W (σ.set k (some v)) H) : gName k v σ H W := z
theorem s_nil (z : R [] H) : tNil σ H R := z
theorem s_cons (z : ta σ H fun x H1 => tr σ H1 fun xs H2 => R (x :: xs) H2) : tCons ta tr σ H R := z
theorem s_call {t : TA} (z : t σ H fun vs H1 => sp vs H1 Q E) : tCall sp [] E t σ H Q := by
  have e : (fun vs H1 => sp vs H1 Q E) = (fun vs H1 => sp (vs ++ []) H1 Q E) := by
    funext vs H1
    rw [List.append_nil]
  unfold tCall
  rw [← e]
  exact z
theorem s_CB {r : List V → Hp → VK → Prop} {t : TA} (z : t σ H fun vs H1 => r vs H1 Q) : tCB r t σ H Q := z
theorem s_iteT (z : A) : if true = true then A else B := by rw [if_pos rfl]; exact z
theorem s_iteF (z : B) : if false = true then A else B := by rw [if_neg Bool.false_ne_true]; exact z
theorem s_iteD [Decidable p] (h1 : p → A) (h2 : ¬ p → B) : if decide p = true then A else B := by
  by_cases h : p
  · rw [if_pos (decide_eq_true h)]; exact h1 h
  · rw [if_neg (by rw [decide_eq_false h]; exact Bool.false_ne_true)]; exact h2 h
theorem s_iteN [Decidable p] (h1 : ¬ p → A) (h2 : p → B) : if (!decide p) = true then A else B := by
  by_cases h : p
  · rw [if_neg (by rw [decide_eq_true h]; exact Bool.false_ne_true)]; exact h2 h
  · rw [if_pos (by rw [decide_eq_false h]; rfl)]; exact h1 h
theorem s_iteNN [Decidable p] (h1 : p → A) (h2 : ¬ p → B) : if (!!decide p) = true then A else B := by rw [Bool.not_not]; exact s_iteD h1 h2
theorem s_iteNT (z : B) : if (!true) = true then A else B := by rw [if_neg (by decide)]; exact z
theorem s_iteNF (z : A) : if (!false) = true then A else B := by rw [if_pos (by decide)]; exact z
theorem s_iteB (h1 : b = true → A) (h2 : b = false → B) : if b = true then A else B := by
  cases b with
  | true => exact s_iteT (h1 rfl)
  | false => exact s_iteF (h2 rfl)
theorem s_iteNB (h1 : b = false → A) (h2 : b = true → B) : if (!b) = true then A else B := by
  cases b with
  | false => exact s_iteNF (h1 rfl)
  | true => exact s_iteNT (h2 rfl)
theorem s_isi {xs : V} {cn : String} {k : Bool} {t : Value} (ty : TyX K H xs t) (hk : PySem.W.kitOne K t (.type cn) = some k) (z : Q (.bl k) H) : rIsi K [xs, .ty cn] H Q := ⟨xs, .ty cn, t, .type cn, k, rfl, .ty cn, ty, hk, z⟩
theorem s_isi_ii (z : Q (.bl true) H) : rIsi K [.int i, .ty "int"] H Q := s_isi (.base (.int i)) (kit_ty (by decide +kernel)) z
theorem s_isi_ib (z : Q (.bl false) H) : rIsi K [.int i, .ty "bool"] H Q := s_isi (.base (.int i)) (kit_ty (by decide +kernel)) z
theorem s_isi_bb (z : Q (.bl true) H) : rIsi K [.bl b, .ty "bool"] H Q := s_isi (.base (.bl b)) (kit_ty (by decide +kernel)) z
theorem s_isi_bi (z : Q (.bl true) H) : rIsi K [.bl b, .ty "int"] H Q := s_isi (.base (.bl b)) (kit_ty (by decide +kernel)) z
theorem s_isi_ss {w : Str} (z : Q (.bl true) H) : rIsi K [.str w, .ty "str"] H Q := s_isi (.base (.str w)) (kit_ty (by decide +kernel)) z
theorem s_isN (z : Q (.bl (decide (x = .non))) H) : (fun x y H Q => y = V.non ∧ Q (.bl (decide (x = .non))) H : R2) x .non H Q := ⟨rfl, z⟩
theorem c_div (h : 0 < j) (h2 : j < 1073741824) : CDiv i j := ⟨h, h2⟩
theorem c_mulR (h : -(2 ^ 64) < j) (h2 : j < 2 ^ 64) : CMul i j := .inr ⟨h, h2⟩
theorem c_mulL (h : -(2 ^ 64) < i) (h2 : i < 2 ^ 64) : CMul i j := .inl ⟨h, h2⟩
theorem c_pow (h : 0 ≤ j) (h1 : j ≤ 1000000) (h2 : i.natAbs < 2 ^ 64) : CPow i j := ⟨h, h1, h2⟩
/-! the ends -/
theorem fin_int (z : Q (.int i) H) (e : i = j) : Q (.int j) H := by rw [← e]; exact z
theorem fin_bl (z : Q (.bl b) H) (e : b = c) : Q (.bl c) H := by rw [← e]; exact z
theorem fin_dec [Decidable p] (z : Q (.bl true) H) (h : p) : Q (.bl (decide p)) H := by rw [decide_eq_true h]; exact z
theorem fin_ndec [Decidable p] (z : Q (.bl true) H) (h : ¬ p) : Q (.bl (!decide p)) H := by rw [decide_eq_false h]; exact z
theorem dec_t (h : p) [Decidable p] : decide p = true := decide_eq_true h
theorem s_iteDt [Decidable p] (h : p) (z : A) : if decide p = true then A else B := s_iteD (fun _ => z) fun n => absurd h n
theorem s_iteDf [Decidable p] (h : ¬ p) (z : B) : if decide p = true then A else B := s_iteD (fun n => absurd n h) fun _ => z
theorem s_iteNt [Decidable p] (h : p) (z : B) : if (!decide p) = true then A else B := s_iteN (fun n => absurd h n) fun _ => z
theorem s_iteNf [Decidable p] (h : ¬ p) (z : A) : if (!decide p) = true then A else B := s_iteN (fun _ => z) fun n => absurd n h
/-- a test by itself: its outcome -/
theorem s_ifS_f (h : ∀ T : Bool → Hp → Prop, T false H → tt σ H T) (z : tu ⟨nx, rt, bk, ct⟩ σ H) : tIfS tt ts tu ⟨nx, rt, bk, ct⟩ σ H := h _ (s_iteF z)
theorem s_ifS_t (h : ∀ T : Bool → Hp → Prop, T true H → tt σ H T) (z : ts ⟨nx, rt, bk, ct⟩ σ H) : tIfS tt ts tu ⟨nx, rt, bk, ct⟩ σ H := h _ (s_iteT z)
theorem s_ifS_d (p : Prop) [Decidable p] (h : ∀ T : Bool → Hp → Prop, T (decide p) H → tt σ H T) (z1 : p → ts ⟨nx, rt, bk, ct⟩ σ H) (z2 : ¬ p → tu ⟨nx, rt, bk, ct⟩ σ H) : tIfS tt ts tu ⟨nx, rt, bk, ct⟩ σ H := h _ (s_iteD z1 z2)
/-- a shift to the left -/
theorem shl_ok (a : Nat) (h : i.natAbs < 2 ^ a) (h0 : 0 ≤ j) (hj : j ≤ 1000000) (ha : a ≤ 1000000) : CShl i j := by
  refine ⟨h0, ?_⟩
  have b : Builtin.Int.intBits i ≤ i.natAbs.log2 + 1 := by
    unfold Builtin.Int.intBits
    split <;> omega
  have h2 : i.natAbs.log2 ≤ a := by
    by_cases z : i.natAbs = 0
    · rw [z]; simp
    · have := (Nat.log2_lt z).mpr h; omega
  have e : (2 : Int) ^ 27 = 134217728 := by decide
  rw [e]
  omega
/-! lists -/
theorem s_tup {t : TA} (z : t σ H fun xs H1 => xs.length ≤ sizeLine ∧ ∀ p, H1 p = none → Q (.ref p) (upd H1 p (.tup xs))) : tTup t σ H Q := z
theorem s_lst {t : TA} (z : t σ H fun xs H1 => xs.length ≤ sizeLine ∧ ∀ p, H1 p = none → Q (.ref p) (upd H1 p (.lst xs))) : tLst t σ H Q := z
theorem s_ixL {l : Addr} {xs : List V} (h : SqL K H l xs) (ha : atI xs i = some v) (z : Q v H) : rIxL K (.ref l) (.int i) H Q := ⟨l, xs, i, v, rfl, rfl, h, ha, z⟩
theorem s_ixT {l : Addr} {xs : List V} (h : SqT K H l xs) (ha : atI xs i = some v) (z : Q v H) : rIxT K (.ref l) (.int i) H Q := ⟨l, xs, i, v, rfl, rfl, h, ha, z⟩
theorem s_len {l : Addr} {xs : List V} (h : SqL K H l xs) (z : Q (.int xs.length) H) : (fun xs H Q => ∃ p ys, xs = [V.ref p] ∧ (SqL K H p ys ∨ SqT K H p ys) ∧ Q (.int ys.length) H : List V → Hp → VK → Prop) [.ref l] H Q := ⟨l, xs, rfl, .inl h, z⟩
theorem sqU {l : Addr} {xs : List V} : SqL K (upd H l (.lst xs)) l xs := .inl (.inl upd_same)
theorem same_upd {l : Addr} {o : HO} (h : H l = none) : Same H (upd H l o) := fun b u e => by
  rw [upd_ne (ne_of_none e h)]
  exact e
/-- range(n): what holds ahead of each turn -/
theorem s_forR1 {k : Nat} {ta : TA} (n : Int) (Pv : Nat → L2.St → Hp → Prop) (ha : ∀ R : List V → Hp → Prop, R [.int n] H → ta σ H R) (hn : -(2 ^ 62) ≤ n ∧ n < 2 ^ 62) (h0 : Pv 0 σ H)
    (hs : ∀ (i : Nat) σ' H', (i : Int) < n → Pv i σ' H' → tu ⟨Pv (i + 1), rt, nx, Pv (i + 1)⟩ (σ'.set k (some (.int (i : Int)))) H') (hd : ∀ σ' H', Pv n.toNat σ' H' → nx σ' H') : tFor (iRng1 ta) (gName k) tu ⟨nx, rt, bk, ct⟩ σ H := by
  refine ha _ ⟨n, rfl, hn.1, hn.2, ?_⟩
  refine for_range (lo := 0) (n := n.toNat) Pv h0 (fun i σ' H' hi h => ?_) hd
  show tu _ (σ'.set k (some (.int ((0 : Int) + (i : Int))))) H'
  rw [Int.zero_add]
  exact hs i σ' H' (by omega) h
/-- a list of known items -/
theorem s_forL {k : Nat} {tl : TE} {a : Addr} {xs : List V} (Pv : Nat → L2.St → Hp → Prop) (H1 : Hp) (ha : ∀ R : VK, R (.ref a) H1 → tl σ H R) (hx : SqL K H1 a xs) (h0 : Pv 0 σ H1)
    (hl : ∀ i σ' H', i ≤ xs.length → Pv i σ' H' → SqL K H' a xs)
    (hs : ∀ (i : Nat) x σ' H', xs[i]? = some x → Pv i σ' H' → tu ⟨Pv (i + 1), rt, nx, Pv (i + 1)⟩ (σ'.set k (some x)) H') (hd : ∀ σ' H', Pv xs.length σ' H' → nx σ' H') : tFor (iList K tl) (gName k) tu ⟨nx, rt, bk, ct⟩ σ H := by
  refine ha _ ⟨a, rfl, ⟨xs, hx⟩, ?_⟩
  exact for_list (xs := xs) Pv h0 hl (fun i x σ' H' hi h => hs i x σ' H' hi h) hd
theorem ints_get {ns : List Int} {k : Nat} {x : V} (h : (ns.map V.int)[k]? = some x) : ∃ z, ns[k]? = some z ∧ x = .int z := by
  rw [List.getElem?_map] at h
  cases e : ns[k]? with
  | none => rw [e] at h; cases h
  | some z => rw [e] at h; exact ⟨z, rfl, (Option.some.inj h).symm⟩
theorem atI_int {ns : List Int} {i : Int} {k : Nat} {z : Int} (h : ns[k]? = some z) (e : i = k) : atI (ns.map V.int) i = some (.int z) := by
  subst e
  refine atI_nat ?_
  rw [List.getElem?_map, h]; rfl
theorem atI_any {ns : List Int} {i : Int} (h1 : -(ns.length : Int) ≤ i) (h2 : i < ns.length) : ∃ z, atI (ns.map V.int) i = some (.int z) := by
  unfold atI ixN
  rw [List.length_map]
  by_cases h : 0 ≤ i
  · rw [if_pos h, if_pos h2]
    obtain ⟨z, hz⟩ : ∃ z, ns[i.toNat]? = some z := ⟨_, List.getElem?_eq_getElem (by omega)⟩
    refine ⟨z, ?_⟩
    show (ns.map V.int)[i.toNat]? = _
    rw [List.getElem?_map, hz]; rfl
  · rw [if_neg h, if_pos h1]
    obtain ⟨z, hz⟩ : ∃ z, ns[(i + ns.length).toNat]? = some z := ⟨_, List.getElem?_eq_getElem (by omega)⟩
    refine ⟨z, ?_⟩
    show (ns.map V.int)[(i + ns.length).toNat]? = _
    rw [List.getElem?_map, hz]; rfl
theorem small63 {n m : Nat} (h : n ≤ 63) (h2 : m ≤ 100) : n + m ≤ sizeLine := Nat.le_trans (by omega : n + m ≤ 200) (by decide)
/-- for cell in [0] + script: .. -/
theorem law0 {a : Addr} {ns : List Int} (hS : SqL K H a (ns.map V.int)) (hn : ns.length ≤ 63)
    (hb : ∀ (c : Int) (N : L2.St → Hp → Prop) H1, Same H H1 → (∀ v H2, Same H1 H2 → N [some (.ref a), v] H2) → tu ⟨N, rt, nx, N⟩ [some (.ref a), some (.int c)] H1)
    (hd : ∀ v H1, Same H H1 → nx [some (.ref a), v] H1) :
    tFor (iList K (tOp (rCatS K) (tLst (tCons (tC (.int 0)) tNil)) (tVar 0))) (gName 1) tu ⟨nx, rt, bk, ct⟩ [some (.ref a), none] H := by
  show _ ∧ ∀ _, _
  refine ⟨by decide, fun p hp => ?_⟩
  refine ⟨_, rfl, p, a, [.int 0], ns.map V.int, rfl, rfl, sqU, (same_upd hp).seq hS, (by rw [List.length_map]; show 1 + ns.length ≤ _; rw [Nat.add_comm]; exact small63 hn (by decide)), fun q hq => ?_⟩
  have s1 : Same H (upd (upd H p (.lst [.int 0])) q (.lst ([.int 0] ++ ns.map V.int))) := (same_upd hp).trans (same_upd hq)
  refine ⟨q, rfl, ⟨_, sqU⟩, ?_⟩
  refine for_list (xs := [.int 0] ++ ns.map V.int) (fun i σ H' => (∃ v, σ = [some (.ref a), v]) ∧ Same (upd (upd H p (.lst [.int 0])) q (.lst ([.int 0] ++ ns.map V.int))) H') ⟨⟨_, rfl⟩, Same.refl _⟩ (fun i σ' H' _ h => h.2.seq sqU) (fun i x σ' H' hi h => ?_) (fun σ' H' h => ?_)
  · obtain ⟨⟨v, rfl⟩, s2⟩ := h
    have e : [V.int 0] ++ ns.map V.int = (0 :: ns).map V.int := rfl
    rw [e] at hi
    obtain ⟨z, _, rfl⟩ := ints_get hi
    exact hb z _ H' (s1.trans s2) fun v H2 s3 => ⟨⟨v, rfl⟩, s2.trans s3⟩
  · obtain ⟨⟨v, rfl⟩, s2⟩ := h
    exact hd v H' (s1.trans s2)
/-- cells = script + [e, ..]; for k in range(len(cells)): .. -/
theorem law1 {a : Addr} {ns ms : List Int} (hS : SqL K H a (ns.map V.int)) (hn : ns.length ≤ 63) (hm : ms.length ≤ 100) {tl : TE}
    (hl : ∀ (R : VK), (∀ p, H p = none → R (.ref p) (upd H p (.lst (ms.map V.int)))) → tl [some (.ref a), none, none] H R) {te : TE}
    (he : ∀ (p : Addr) (H1 : Hp) (R : List V → Hp → Prop), SqL K H1 p ((ns ++ ms).map V.int) → R [.int ((ns ++ ms).length : Int)] H1 → tCons te tNil [some (.ref a), some (.ref p), none] H1 R)
    (hb : ∀ (p : Addr) (c : Int) (N : L2.St → Hp → Prop) H1, Same H H1 → SqL K H1 p ((ns ++ ms).map V.int) → 0 ≤ c → c < ((ns ++ ms).length : Int) → (∀ v H2, Same H1 H2 → N [some (.ref a), some (.ref p), v] H2) → tu ⟨N, rt, nx, N⟩ [some (.ref a), some (.ref p), some (.int c)] H1)
    (hd : ∀ p v H1, Same H H1 → nx [some (.ref a), some (.ref p), v] H1) :
    tSeq (tAsg (tOp (rCatS K) (tVar 0) tl) (gName 1)) (tFor (iRng1 (tCons te tNil)) (gName 2) tu) ⟨nx, rt, bk, ct⟩ [some (.ref a), none, none] H := by
  refine s_seq (s_asg (s_op (s_var rfl (hl _ fun p hp => ?_))))
  refine ⟨a, p, ns.map V.int, ms.map V.int, rfl, rfl, (same_upd hp).seq hS, sqU, (by rw [List.length_map, List.length_map]; exact small63 hn hm), fun q hq => ?_⟩
  rw [← List.map_append]
  have s1 : Same H (upd (upd H p (.lst (ms.map V.int))) q (.lst ((ns ++ ms).map V.int))) := (same_upd hp).trans (same_upd hq)
  have hlen : (ns ++ ms).length ≤ 163 := by rw [List.length_append]; omega
  refine s_forR1 ((ns ++ ms).length : Int) (fun i σ H' => (∃ v, σ = [some (.ref a), some (.ref q), v]) ∧ Same (upd (upd H p (.lst (ms.map V.int))) q (.lst ((ns ++ ms).map V.int))) H') (fun R z => he q _ R sqU z) (by omega) ⟨⟨_, rfl⟩, Same.refl _⟩ (fun i σ' H' hi h => ?_) (fun σ' H' h => ?_)
  · obtain ⟨⟨v, rfl⟩, s2⟩ := h
    exact hb q i _ H' (s1.trans s2) (s2.seq sqU) (by omega) hi fun v H2 s3 => ⟨⟨v, rfl⟩, s2.trans s3⟩
  · obtain ⟨⟨v, rfl⟩, s2⟩ := h
    exact hd q v H' (s1.trans s2)
/-- the same, two names more -/
theorem law1x {a : Addr} {ns ms : List Int} (hS : SqL K H a (ns.map V.int)) (hn : ns.length ≤ 63) (hm : ms.length ≤ 100) {tl : TE}
    (hl : ∀ (R : VK), (∀ p, H p = none → R (.ref p) (upd H p (.lst (ms.map V.int)))) → tl [some (.ref a), none, none, none, none] H R) {te : TE}
    (he : ∀ (p : Addr) (H1 : Hp) (R : List V → Hp → Prop), SqL K H1 p ((ns ++ ms).map V.int) → R [.int ((ns ++ ms).length : Int)] H1 → tCons te tNil [some (.ref a), some (.ref p), none, none, none] H1 R)
    (hb : ∀ (p : Addr) (c : Int) (v1 v2 : Option V) (N : L2.St → Hp → Prop) H1, Same H H1 → SqL K H1 p ((ns ++ ms).map V.int) → 0 ≤ c → c < ((ns ++ ms).length : Int) → (∀ v v1 v2 H2, Same H1 H2 → N [some (.ref a), some (.ref p), v, v1, v2] H2) → tu ⟨N, rt, nx, N⟩ [some (.ref a), some (.ref p), some (.int c), v1, v2] H1)
    (hd : ∀ p v v1 v2 H1, Same H H1 → nx [some (.ref a), some (.ref p), v, v1, v2] H1) :
    tSeq (tAsg (tOp (rCatS K) (tVar 0) tl) (gName 1)) (tFor (iRng1 (tCons te tNil)) (gName 2) tu) ⟨nx, rt, bk, ct⟩ [some (.ref a), none, none, none, none] H := by
  refine s_seq (s_asg (s_op (s_var rfl (hl _ fun p hp => ?_))))
  refine ⟨a, p, ns.map V.int, ms.map V.int, rfl, rfl, (same_upd hp).seq hS, sqU, (by rw [List.length_map, List.length_map]; exact small63 hn hm), fun q hq => ?_⟩
  rw [← List.map_append]
  have s1 : Same H (upd (upd H p (.lst (ms.map V.int))) q (.lst ((ns ++ ms).map V.int))) := (same_upd hp).trans (same_upd hq)
  have hlen : (ns ++ ms).length ≤ 163 := by rw [List.length_append]; omega
  refine s_forR1 ((ns ++ ms).length : Int) (fun i σ H' => (∃ v v1 v2, σ = [some (.ref a), some (.ref q), v, v1, v2]) ∧ Same (upd (upd H p (.lst (ms.map V.int))) q (.lst ((ns ++ ms).map V.int))) H') (fun R z => he q _ R sqU z) (by omega) ⟨⟨_, _, _, rfl⟩, Same.refl _⟩ (fun i σ' H' hi h => ?_) (fun σ' H' h => ?_)
  · obtain ⟨⟨v, v1, v2, rfl⟩, s2⟩ := h
    exact hb q i v1 v2 _ H' (s1.trans s2) (s2.seq sqU) (by omega) hi fun v v1 v2 H2 s3 => ⟨⟨v, v1, v2, rfl⟩, s2.trans s3⟩
  · obtain ⟨⟨v, v1, v2, rfl⟩, s2⟩ := h
    exact hd q v v1 v2 H' (s1.trans s2)
/-- if p: x = e, x being an int: one way -/
theorem s_ifAsgI {k : Nat} (a b : Int) {p : Prop} [Decidable p] (ht : ∀ T : Bool → Hp → Prop, T (decide p) H → tt σ H T) (he : p → ∀ R : VK, R (.int b) H → te σ H R) (hσ : σ[k]? = some (some (.int a)))
    (z : nx (σ.set k (some (.int (if p then b else a)))) H) : tIfS tt (tAsg te (gName k)) tNext ⟨nx, rt, bk, ct⟩ σ H := by
  refine ht _ (s_iteD (fun h => he h _ ?_) (fun h => ?_))
  · rw [if_pos h] at z; exact z
  · rw [if_neg h] at z
    have e : σ.set k (some (.int a)) = σ := by
      obtain ⟨h1, h2⟩ := List.getElem?_eq_some_iff.mp hσ
      rw [← h2]; exact List.set_getElem_self h1
    rw [e] at z
    exact z
theorem s_iteAsgI {k : Nat} (a b : Int) {p : Prop} [Decidable p] (he : p → ∀ R : VK, R (.int b) H → te σ H R) (hσ : σ[k]? = some (some (.int a)))
    (z : nx (σ.set k (some (.int (if p then b else a)))) H) : if decide p = true then tAsg te (gName k) ⟨nx, rt, bk, ct⟩ σ H else tNext ⟨nx, rt, bk, ct⟩ σ H :=
  s_ifAsgI (tt := fun _ H T => T (decide p) H) (bk := bk) (ct := ct) (rt := rt) a b (fun _ h => h) he hσ z
theorem s_iteAsgV {k : Nat} (a b : V) {p : Prop} [Decidable p] (he : p → ∀ R : VK, R b H → te σ H R) (hσ : σ[k]? = some (some a))
    (z : nx (σ.set k (some (if p then b else a))) H) : if decide p = true then tAsg te (gName k) ⟨nx, rt, bk, ct⟩ σ H else tNext ⟨nx, rt, bk, ct⟩ σ H := by
  refine s_iteD (fun h => he h _ ?_) (fun h => ?_)
  · rw [if_pos h] at z; exact z
  · rw [if_neg h] at z
    have e : σ.set k (some a) = σ := by
      obtain ⟨h1, h2⟩ := List.getElem?_eq_some_iff.mp hσ
      rw [← h2]; exact List.set_getElem_self h1
    rw [e] at z
    exact z
theorem ite_str (p : Prop) [Decidable p] (a b : Str) : (if p then V.str a else V.str b) = V.str (if p then a else b) := by split <;> rfl
end
end Jl

/-! Steps over lists: append, comprehensions over a range, equality of lists. -/
namespace Jl
open PySem L2
section
variable {K : PySem.W.Frag} {σ : L2.St} {H H' : Hp} {Q : VK} {ta tb tc te to : TE} {tr : TA} {i j : Int} {x y v : V} {a p : Addr} {xs ys : List V}
theorem sameT (e : Same H H') (h : SqT K H a xs) : SqT K H' a xs := by
  rcases h with (h | ⟨o, h⟩) | h
  · exact .inl (.inl (e _ _ h))
  · exact .inl (.inr ⟨o, e _ _ h⟩)
  · exact .inr h
mutual
theorem dp_same (e : Same H H') : ∀ {v : V} {d : PyData}, Dp K H v d → Dp K H' v d
  | _, _, .non => .non
  | _, _, .bl b => .bl b
  | _, _, .int i => .int i
  | _, _, .str x => .str x
  | _, _, .lst h hs => .lst (e.seq h) (dps_same e hs)
  | _, _, .tup h hs => .tup (sameT e h) (dps_same e hs)
theorem dps_same (e : Same H H') : ∀ {vs : List V} {ds : List PyData}, DpAll K H vs ds → DpAll K H' vs ds
  | _, _, .nil => .nil
  | _, _, .cons h hs => .cons (dp_same e h) (dps_same e hs)
end
theorem dp_ints : ∀ ns : List Int, DpAll K H (ns.map V.int) (ns.map PyData.int)
  | [] => .nil
  | n :: ns => .cons (.int n) (dp_ints ns)
theorem dp_intL {ns : List Int} (h : SqL K H a (ns.map V.int)) : Dp K H (.ref a) (.list (ns.map PyData.int)) := .lst h (dp_ints ns)
theorem lay_ints : ∀ ns : List Int, PyData.canLayAll0 (ns.map PyData.int) = true
  | [] => rfl
  | n :: ns => by show (true && PyData.canLayAll0 (ns.map PyData.int)) = true; rw [lay_ints ns]; rfl
theorem depth_ints : ∀ ns : List Int, PyData.depthAll (ns.map PyData.int) ≤ 1
  | [] => by show (0 : Nat) ≤ 1; decide
  | n :: ns => by
    have h := depth_ints ns
    show max (PyData.depth (.int n)) (PyData.depthAll (ns.map PyData.int)) ≤ 1
    have e : PyData.depth (.int n) = 0 := by unfold PyData.depth; rfl
    omega
theorem shaped_ints (ns : List Int) : SeqAt.shaped (.list (ns.map PyData.int)) = true := by
  have h := depth_ints ns
  refine Bool.and_eq_true_iff.mpr ⟨lay_ints ns, decide_eq_true ?_⟩
  show PyData.depthAll (ns.map PyData.int) + 1 ≤ 64
  omega
theorem eqv_ints : ∀ ns ms : List Int, PyData.eqvAll (ns.map PyData.int) (ms.map PyData.int) = decide (ns = ms)
  | [], [] => rfl
  | [], _ :: _ => rfl
  | _ :: _, [] => rfl
  | n :: ns, m :: ms => by
    show ((n == m) && PyData.eqvAll (ns.map PyData.int) (ms.map PyData.int)) = _
    rw [eqv_ints ns ms, Bool.eq_iff_iff]
    simp
theorem s_eqInts {p q : Addr} {ns ms : List Int} (h1 : SqL K H p (ns.map V.int)) (h2 : SqL K H q (ms.map V.int)) (z : Q (.bl (decide (ns = ms))) H) : rEqD K (.ref p) (.ref q) H Q :=
  ⟨_, _, dp_intL h1, dp_intL h2, shaped_ints ns, shaped_ints ms, by
    show Q (.bl (PyData.eqvAll (ns.map PyData.int) (ms.map PyData.int))) H
    rw [eqv_ints]; exact z⟩
theorem s_BM {T : String} {r : V → List V → Hp → VK → Prop} {t : TA} (z : to σ H fun x H1 => tyV K T x H1 ∧ t σ H1 fun xs H2 => r x xs H2 Q) : tBM K T r to t σ H Q := z
theorem ty_list (h : SqL K H p xs) : tyV K "list" (.ref p) H := .inl ⟨rfl, _, h⟩
theorem s_tyL {B : Prop} (h : H p = some (.lst xs)) (z : B) : tyV K "list" (.ref p) H ∧ B := ⟨ty_list (.inl (.inl h)), z⟩
theorem s_append (h : H p = some (.lst xs)) (z : Q .non (upd H p (.lst (xs ++ [v])))) (hl : xs.length < sizeLine) : rAppend (.ref p) [v] H Q := ⟨p, xs, v, rfl, rfl, h, hl, z⟩
/-- what H0 knew stands, when an object that it did not know is written -/
theorem same_mut {H0 : Hp} {o : HO} (e : Same H0 H) (h : H0 p = none) : Same H0 (upd H p o) := fun b u hb => by
  rw [upd_ne (ne_of_none hb h)]
  exact e b u hb
theorem small5 {n : Nat} (h : n ≤ 100000) : n ≤ sizeLine := Nat.le_trans h (by decide)
theorem small5' {n : Nat} (h : n ≤ 100000) : n < sizeLine := Nat.lt_of_le_of_lt h (by decide)
/-- [e for i in range(n)] -/
theorem s_lcR {t : TA} {k : Nat} {vs : List Nat} (n : Int) (f : Nat → V) (ha : ∀ R : List V → Hp → Prop, R [.int n] H → t σ H R) (hn : 0 ≤ n ∧ n ≤ 100000) (hw : ∀ x, wipe ((wipe σ vs).set k (some x)) vs = wipe σ vs)
    (he : ∀ (i : Nat) H1 (R : VK), Same H H1 → (i : Int) < n → (∀ H2, Same H1 H2 → R (f i) H2) → te ((wipe σ vs).set k (some (.int (i : Int)))) H1 R)
    (z : ∀ p H1, Same H H1 → H p = none → H1 p = some (.lst ((List.range n.toNat).map f)) → Q (.ref p) H1) : tLc (iRng1 t) (gName k) tYes te vs σ H Q := by
  refine ha _ ⟨n, rfl, by omega, by omega, fun D hD => ?_⟩
  refine lc_range (lo := 0) (n := n.toNat) (fun i H' => Same H H' ∧ H' D = some (.lst ((List.range i).map f))) ⟨same_upd hD, upd_same⟩ (fun i H1 hi h => ?_) (fun H1 h => z D H1 h.1 hD h.2)
  obtain ⟨s1, h1⟩ := h
  have e0 : (0 : Int) + (i : Int) = (i : Int) := Int.zero_add _
  show wipe ((wipe σ vs).set k (some (.int ((0 : Int) + (i : Int))))) vs = wipe σ vs ∧ te ((wipe σ vs).set k (some (.int ((0 : Int) + (i : Int))))) H1 _
  rw [e0]
  refine ⟨hw _, he i H1 _ s1 (by omega) fun H2 s2 => ⟨_, s2 D _ h1, small5' (by rw [List.length_map, List.length_range]; omega), same_mut (s1.trans s2) hD, ?_⟩⟩
  rw [upd_same, List.range_succ, List.map_append]
  rfl
theorem bitsOf_atI (w : Int) {i : Int} (h0 : 0 ≤ i) (h : i < 32) : atI ((bitsOf w 32).map V.int) i = some (.int (w / 2 ^ i.toNat % 2)) :=
  atI_int (bitsOf_get w (by omega)) (by omega)
/-! objects -/
theorem s_make {C : Addr} {sp : Sp} {E : XK} {t : TA} (z : t σ H fun vs H1 => ∀ x dx, H1 x = none → H1 dx = none → dx ≠ x → sp (.ref x :: vs) (upd (upd H1 dx (.own x)) x (.ins C dx [])) (fun v H2 => v = .non ∧ Q (.ref x) H2) E) : tMake C sp [] E t σ H Q := by
  have e : (fun vs H1 => ∀ x dx, H1 x = none → H1 dx = none → dx ≠ x → sp (.ref x :: vs) (upd (upd H1 dx (.own x)) x (.ins C dx [])) (fun v H2 => v = .non ∧ Q (.ref x) H2) E) = (fun vs H1 => ∀ x dx, H1 x = none → H1 dx = none → dx ≠ x → sp (.ref x :: (vs ++ [])) (upd (upd H1 dx (.own x)) x (.ins C dx [])) (fun v H2 => v = .non ∧ Q (.ref x) H2) E) := by
    funext vs H1
    rw [List.append_nil]
  unfold tMake
  rw [← e]
  exact z
theorem same_made {x dx C : Addr} {o : HO} (nx : H x = none) (nd : H dx = none) : Same H (upd (upd (upd H dx (.own x)) x (.ins C dx [])) x o) := fun b u e => by
  rw [upd_ne (ne_of_none e nx), upd_ne (ne_of_none e nx), upd_ne (ne_of_none e nd)]
  exact e
/-- an object with a title -/
def RuleAt (H : Hp) (p C : Addr) (t : Str) : Prop := ∃ dx, H p = some (.ins C dx (putF "title" (.str t) []))
theorem RuleAt.same {C : Addr} {t : Str} (e : Same H H') (h : RuleAt H p C t) : RuleAt H' p C t := by
  obtain ⟨dx, h⟩ := h
  exact ⟨dx, e _ _ h⟩
theorem s_meth {C : Addr} {m t : Str} {sp : Sp} {E : XK} (hR : RuleAt H p C t) (hv : ∀ R : VK, R (.ref p) H → ta σ H R) (hm : ¬ m = "title") (z : tr σ H fun vs H2 => sp (.ref p :: vs) H2 Q E) : tMeth C m sp [] E ta tr σ H Q := by
  obtain ⟨dx, h⟩ := hR
  refine hv _ ⟨p, dx, _, rfl, h, (by rw [lookup_putF, if_neg hm]; rfl), ?_⟩
  have e : (fun vs H2 => sp (.ref p :: vs) H2 Q E) = (fun vs H2 => sp (.ref p :: (vs ++ [])) H2 Q E) := by
    funext vs H1
    rw [List.append_nil]
  rw [← e]
  exact z
/-! an if at which the walk stops: its ways joined -/
def tIfK (c : TT) (t u : TS) : TS := tIfS c t u
theorem s_ifKw {k : Nat} {nx bk ct : L2.St → Hp → Prop} {rt : VK} {tt : TT} {P : Prop} (a0 : V) (M : V → Hp → Prop) (hσ : σ[k]? = some (some a0)) (ht : ∀ T : Bool → Hp → Prop, (P → T true H) → (¬ P → T false H) → tt σ H T)
    (h1 : P → ∀ R : VK, (∀ v H', M v H' → R v H') → te σ H R) (h2 : ¬ P → M a0 H) (z : ∀ v H', M v H' → nx (σ.set k (some v)) H') : tIfK tt (tAsg te (gName k)) tNext ⟨nx, rt, bk, ct⟩ σ H := by
  refine ht _ (fun hp => ?_) (fun hp => ?_)
  · exact s_iteT (h1 hp _ fun v H' hm => z v H' hm)
  · refine s_iteF ?_
    have q := z a0 H (h2 hp)
    have e : σ.set k (some a0) = σ := by
      obtain ⟨h1, h2⟩ := List.getElem?_eq_some_iff.mp hσ
      rw [← h2]; exact List.set_getElem_self h1
    rw [e] at q
    exact q
/-- the same, the ways being statements: what holds behind -/
theorem s_ifKs {nx bk ct : L2.St → Hp → Prop} {rt : VK} {tt : TT} {ts tu : TS} {P : Prop} (M : L2.St → Hp → Prop) (ht : ∀ T : Bool → Hp → Prop, (P → T true H) → (¬ P → T false H) → tt σ H T)
    (h1 : P → ∀ N : L2.St → Hp → Prop, (∀ σ' H', M σ' H' → N σ' H') → ts ⟨N, rt, bk, ct⟩ σ H) (h2 : ¬ P → ∀ N : L2.St → Hp → Prop, (∀ σ' H', M σ' H' → N σ' H') → tu ⟨N, rt, bk, ct⟩ σ H) (z : ∀ σ' H', M σ' H' → nx σ' H') : tIfK tt ts tu ⟨nx, rt, bk, ct⟩ σ H := by
  refine ht _ (fun hp => ?_) (fun hp => ?_)
  · exact s_iteT (h1 hp _ z)
  · exact s_iteF (h2 hp _ z)
end
theorem ps_ifK {X : Cx} {c : Expr} {a b : List Stmt} {tc : TT} {t u : TS} {pos : Pos} (hc : PT X c tc) (ha : PSs X a t) (hb : PSs X b u) : PS X (.If c a b pos) (tIfK tc t u) := ps_if hc ha hb
end Jl

/-! Steps over texts. -/
namespace Jl
open PySem L2
def rAddS : R2 := fun x y H Q => ∃ i j, x = .str i ∧ y = .str j ∧ i.length + j.length ≤ sizeLine ∧ Q (.str (i ++ j)) H
def rInS : R2 := fun x y H Q => ∃ (c : Nat) (z : Str), x = .str ⟨#[c]⟩ ∧ y = .str z ∧ Q (.bl (decide (c ∈ z.cps.toList))) H
def rNotInS : R2 := fun x y H Q => ∃ (c : Nat) (z : Str), x = .str ⟨#[c]⟩ ∧ y = .str z ∧ Q (.bl (!decide (c ∈ z.cps.toList))) H
def rIsN : R2 := fun x y H Q => y = .non ∧ Q (.bl (decide (x = .non))) H
def rNotN : R2 := fun x y H Q => y = .non ∧ Q (.bl (!decide (x = .non))) H
def rLenS : List V → Hp → VK → Prop := fun xs H Q => ∃ z, xs = [.str z] ∧ z.length ≤ sizeLine ∧ Q (.int z.length) H
def rLenL (K : PySem.W.Frag) : List V → Hp → VK → Prop := fun xs H Q => ∃ p ys, xs = [.ref p] ∧ (SqL K H p ys ∨ SqT K H p ys) ∧ Q (.int ys.length) H
def rMax2 : List V → Hp → VK → Prop := fun xs H Q => ∃ i j, xs = [.int i, .int j] ∧ Q (.int (if j > i then j else i)) H
def rMin2 : List V → Hp → VK → Prop := fun xs H Q => ∃ i j, xs = [.int i, .int j] ∧ Q (.int (if j < i then j else i)) H
def rInt1 : List V → Hp → VK → Prop := fun xs H Q => (∃ i, xs = [.int i] ∧ Q (.int i) H) ∨ ∃ k, xs = [.bl k] ∧ Q (.int (if k then 1 else 0)) H
def rIntS : List V → Hp → VK → Prop := fun xs H Q => ∃ a n, xs = [.str a] ∧ PySem.intText? a = some n ∧ a.length ≤ 640 ∧ Q (.int n) H
def rStrI : List V → Hp → VK → Prop := fun xs H Q => ∃ i, xs = [.int i] ∧ i.natAbs.log2 < 1920 ∧ Q (.str (toString i)) H
section
variable {X : Cx}
theorem op_addS : OpR X (binaryOp .Add) rAddS := op_add_str
theorem op_inS : OpR X (compareOp .In) rInS := op_in_sign
theorem op_notInS : OpR X (compareOp .NotIn) rNotInS := op_notIn_sign
theorem op_isN1 : OpR X (compareOp .Is) rIsN := op_isN
theorem op_notN1 : OpR X (compareOp .IsNot) rNotN := op_notN
theorem cl_lenS : CallR X (.builtin "len") rLenS := call_len_str
theorem cl_lenL : CallR X (.builtin "len") (rLenL X.K) := call_len_seq
theorem cl_max2 (hc : X.calm = true) : CallR X (.builtin "max") rMax2 := call_max2 hc
theorem cl_min2 (hc : X.calm = true) : CallR X (.builtin "min") rMin2 := call_min2 hc
theorem cl_int1 : CallR X (.type "int") rInt1 := call_int1
theorem cl_intS : CallR X (.type "int") rIntS := call_int_str
theorem cl_strI : CallR X (.type "str") rStrI := call_str_int
end
section
variable {K : PySem.W.Frag} {σ : L2.St} {H H' : Hp} {Q : VK} {ta tb tc te to : TE} {tr : TA} {i j : Int} {x y v : V} {a p : Addr} {xs ys : List V} {z w : Str} {c : Nat} {b : Bool} {nx bk ct : L2.St → Hp → Prop} {rt : VK} {tu : TS} {tl th : TO} {RO : Option Int → Hp → Prop}
theorem s_addS (k : Q (.str (z ++ w)) H) (h : z.length + w.length ≤ 100000) : rAddS (.str z) (.str w) H Q := ⟨z, w, rfl, rfl, small5 h, k⟩
theorem s_inS (k : Q (.bl (decide (c ∈ w.cps.toList))) H) : rInS (.str ⟨#[c]⟩) (.str w) H Q := ⟨c, w, rfl, rfl, k⟩
theorem s_notInS (k : Q (.bl (!decide (c ∈ w.cps.toList))) H) : rNotInS (.str ⟨#[c]⟩) (.str w) H Q := ⟨c, w, rfl, rfl, k⟩
theorem s_isNn (k : Q (.bl true) H) : rIsN .non .non H Q := ⟨rfl, k⟩
theorem s_isNi (k : Q (.bl false) H) : rIsN (.int i) .non H Q := ⟨rfl, k⟩
theorem s_isNs (k : Q (.bl false) H) : rIsN (.str z) .non H Q := ⟨rfl, k⟩
theorem s_isNr (k : Q (.bl false) H) : rIsN (.ref a) .non H Q := ⟨rfl, k⟩
theorem s_notNn (k : Q (.bl false) H) : rNotN .non .non H Q := ⟨rfl, k⟩
theorem s_notNi (k : Q (.bl true) H) : rNotN (.int i) .non H Q := ⟨rfl, k⟩
theorem s_notNs (k : Q (.bl true) H) : rNotN (.str z) .non H Q := ⟨rfl, k⟩
theorem s_notNr (k : Q (.bl true) H) : rNotN (.ref a) .non H Q := ⟨rfl, k⟩
theorem s_lenS (k : Q (.int (z.length : Int)) H) (h : z.length ≤ 100000) : rLenS [.str z] H Q := ⟨z, rfl, small5 h, k⟩
theorem s_lenL (h : SqL K H p xs) (k : Q (.int (xs.length : Int)) H) : rLenL K [.ref p] H Q := ⟨p, xs, rfl, .inl h, k⟩
theorem s_max2 (k : Q (.int (max i j)) H) : rMax2 [.int i, .int j] H Q := ⟨i, j, rfl, by
  have e : (if j > i then j else i) = max i j := by split <;> omega
  rw [e]; exact k⟩
theorem s_min2 (k : Q (.int (min i j)) H) : rMin2 [.int i, .int j] H Q := ⟨i, j, rfl, by
  have e : (if j < i then j else i) = min i j := by split <;> omega
  rw [e]; exact k⟩
theorem s_int1 (k : Q (.int i) H) : rInt1 [.int i] H Q := .inl ⟨i, rfl, k⟩
theorem s_int1b (k : Q (.int (if b = true then 1 else 0)) H) : rInt1 [.bl b] H Q := .inr ⟨b, rfl, k⟩
theorem s_ixS (h : atI z.cps.toList i = some c) (k : Q (.str ⟨#[c]⟩) H) (hz : z.length ≤ 100000) : rIxS (.str z) (.int i) H Q := ⟨z, i, c, rfl, rfl, small5 hz, h, k⟩
theorem s_sl {r : V → Option Int → Option Int → Hp → VK → Prop} (k : te σ H fun x H1 => tl σ H1 fun l H2 => th σ H2 fun u H3 => r x l u H3 Q) : tSl r te tl th σ H Q := k
theorem s_noP (k : RO none H) : tNoPart σ H RO := k
theorem s_part (k : te σ H fun x H1 => ∃ i, x = .int i ∧ RO (some i) H1) : tPart te σ H RO := k
theorem s_exi {R : Int → Prop} (k : R i) : ∃ j, V.int i = V.int j ∧ R j := ⟨i, rfl, k⟩
theorem s_slS {lo hi : Option Int} (k : Q (.str (cutS z lo hi)) H) (h : z.length ≤ 100000) : rSlS (.str z) lo hi H Q := ⟨z, rfl, small5 h, k⟩
/-- for c in z -/
theorem s_forS {n : Nat} (Pv : Nat → L2.St → Hp → Prop) (ha : ∀ R : VK, R (.str z) H → te σ H R) (h0 : Pv 0 σ H)
    (hs : ∀ (i : Nat) (c : Nat) σ' H', z.cps.toList[i]? = some c → Pv i σ' H' → tu ⟨Pv (i + 1), rt, nx, Pv (i + 1)⟩ (σ'.set n (some (.str ⟨#[c]⟩))) H') (hd : ∀ σ' H', Pv z.length σ' H' → nx σ' H') : tFor (iStr te) (gName n) tu ⟨nx, rt, bk, ct⟩ σ H := by
  refine ha _ ⟨z, rfl, ?_⟩
  refine ⟨fun i m σ H => m = z.length - i ∧ i ≤ z.length ∧ Pv i σ H, ⟨z.length, by simp, Nat.zero_le _, h0⟩, ?_⟩
  rintro i m σ' H1 ⟨rfl, hi, q⟩
  by_cases hlt : i < z.length
  · refine .inr ⟨hlt, Pv (i + 1), fun σ2 H2 q' => ⟨z.length - (i + 1), by omega, rfl, hlt, q'⟩, fun x H2 y => ?_⟩
    obtain ⟨e, c, hc, rfl⟩ := y
    subst e
    exact hs i c σ' _ (by rw [Array.getElem?_toList]; exact hc) q
  · have e : i = z.length := by omega
    subst e
    exact .inl ⟨Nat.le_refl _, hd σ' H1 q⟩
theorem len_app (z w : Str) : (z ++ w).length = z.length + w.length := PySem.Str.length_append z w
theorem cps_app (z w : Str) : (z ++ w).cps.toList = z.cps.toList ++ w.cps.toList := by
  have e : (z ++ w).cps = z.cps ++ w.cps := rfl
  rw [e, Array.toList_append]
theorem len_one (c : Nat) : (⟨#[c]⟩ : Str).length = 1 := rfl
theorem len_cut (z : Str) (lo hi : Option Int) : (cutS z lo hi).length ≤ z.length := cutS_length z lo hi
theorem len_list (z : Str) : z.cps.toList.length = z.length := Array.length_toList
theorem str_ext {z w : Str} (h : z.cps.toList = w.cps.toList) : z = w := by
  obtain ⟨a⟩ := z
  obtain ⟨b⟩ := w
  have e : a = b := Array.toList_inj.mp h
  rw [e]
theorem atI_some {α : Type} {l : List α} {i : Int} (h1 : -(l.length : Int) ≤ i) (h2 : i < l.length) : ∃ z, atI l i = some z := by
  unfold atI ixN
  by_cases h : 0 ≤ i
  · rw [if_pos h, if_pos h2]
    exact ⟨_, List.getElem?_eq_getElem (by omega)⟩
  · rw [if_neg h, if_pos h1]
    exact ⟨_, List.getElem?_eq_getElem (by omega)⟩
theorem atI_of0 {α : Type} {l : List α} {x : α} (h : l[0]? = some x) : atI l 0 = some x := atI_nat h
theorem one_eq {c d : Nat} : ((⟨#[c]⟩ : Str) = ⟨#[d]⟩) ↔ c = d := by
  constructor
  · intro h
    have e := congrArg (fun z : Str => z.cps.toList) h
    simpa using e
  · rintro rfl; rfl
theorem all_false {α : Type} {l : List α} {f : α → Bool} {i : Nat} {x : α} (h : l[i]? = some x) (hf : f x = false) : l.all f = false := by
  rw [List.all_eq_false]
  exact ⟨x, List.mem_of_getElem? h, by rw [hf]; decide⟩
theorem all_true {α : Type} {l : List α} {f : α → Bool} (h : ∀ (i : Nat) x, l[i]? = some x → f x = true) : l.all f = true := by
  rw [List.all_eq_true]
  intro x hx
  obtain ⟨i, hi⟩ := List.getElem?_of_mem hx
  exact h i x hi
end
end Jl

/-! The machine over words: what it is, what a step makes of it; steps over objects, tuples, dicts. -/
namespace Jl
open PySem L2
def opI (w : Int) : Int := w / 268435456 % 16
def fA (w : Int) : Int := w / 33554432 % 8
def fB (w : Int) : Int := w / 4194304 % 8
def fC (w : Int) : Int := w / 524288 % 8
def fN (w : Int) : Int := w % 65536
def nearI (w : Int) : Int := (w + 262144) % 524288 - 262144
def splitI (w : Int) : Int := (w % 128 + 128 * (w / 16384 % 32) + 2048) % 4096 - 2048
def s16 (n : Int) : Int := (n + 32768) % 65536 - 32768
def turnI (w b : Int) : Int := (w / 2 ^ (b % 32).toNat + w * 2 ^ (32 - (b % 32).toNat)) % 4294967296
def reckI (op l r n : Int) : Int :=
  if op = 2 then n else if op = 3 then 65536 * n else if op = 4 then (l + s16 n) % 4294967296 else if op = 7 then (l + r) % 4294967296
  else if op = 8 then (l - r) % 4294967296 else if op = 9 then Builtin.bitAnd l r else if op = 10 then Builtin.bitXor l r else turnI l r
def reg (l : List Int) (i : Int) : Int := l.getD i.toNat 0
structure MSt where
  mem : Int → Option Int
  spot : Int
  regs : List Int
  outs : List Int
  fin : Bool
def thereI (s : MSt) (w : Int) : Int := (reg s.regs (fB w) + s16 (fN w)) % 4294967296
def nextI (s : MSt) : Int := (s.spot + 1) % 4294967296
def goneI (s : MSt) (w : Int) : Int :=
  if opI w = 15 then reg s.regs (fA w) else if opI w = 14 then (s.spot + 1 + nearI w) % 4294967296
  else if (opI w = 12 ∧ reg s.regs (fA w) = reg s.regs (fB w)) ∨ (opI w = 13 ∧ reg s.regs (fA w) < reg s.regs (fB w)) then (s.spot + 1 + splitI w) % 4294967296 else nextI s
def memPut (f : Int → Option Int) (a w : Int) : Int → Option Int := fun x => if x = a then some w else f x
def stepI (s : MSt) (w : Int) : MSt :=
  if opI w = 0 then { s with fin := true }
  else if opI w = 1 then { s with outs := s.outs ++ [reg s.regs (fA w)], spot := nextI s }
  else if opI w = 5 then { s with regs := s.regs.set (fA w).toNat ((s.mem (thereI s w)).getD 0), spot := nextI s }
  else if opI w = 6 then { s with mem := memPut s.mem (thereI s w) (reg s.regs (fA w)), spot := nextI s }
  else if opI w > 11 then { s with regs := if opI w = 14 then s.regs.set (fA w).toNat (nextI s) else s.regs, spot := goneI s w }
  else { s with regs := s.regs.set (fA w).toNat (reckI (opI w) (reg s.regs (fB w)) (reg s.regs (fC w)) (fN w)), spot := nextI s }
/-! the fields -/
def mf (m s r o e : V) : List (Str × V) := putF "ended" e (putF "outputs" o (putF "registers" r (putF "spot" s (putF "memory" m []))))
theorem putF_ne {f g : Str} {v x : V} {r : List (Str × V)} (h : ¬ g = f) : putF f v ((g, x) :: r) = (g, x) :: putF f v r := if_neg h
theorem putF_eq {f : Str} {v x : V} {r : List (Str × V)} : putF f v ((f, x) :: r) = (f, v) :: r := if_pos rfl
theorem mf_is (m s r o e : V) : mf m s r o e = ([("memory", m), ("spot", s), ("registers", r), ("outputs", o), ("ended", e)] : List (Str × V)) := by
  have e0 : putF "memory" m [] = ([("memory", m)] : List (Str × V)) := rfl
  have e1 : putF "spot" s ([("memory", m)] : List (Str × V)) = ([("memory", m), ("spot", s)] : List (Str × V)) := putF_ne (by decide +kernel)
  have e2 : putF "registers" r ([("memory", m), ("spot", s)] : List (Str × V)) = ([("memory", m), ("spot", s), ("registers", r)] : List (Str × V)) := by
    rw [putF_ne (by decide +kernel), putF_ne (by decide +kernel)]; rfl
  have e3 : putF "outputs" o ([("memory", m), ("spot", s), ("registers", r)] : List (Str × V)) = ([("memory", m), ("spot", s), ("registers", r), ("outputs", o)] : List (Str × V)) := by
    rw [putF_ne (by decide +kernel), putF_ne (by decide +kernel), putF_ne (by decide +kernel)]; rfl
  unfold mf
  rw [e0, e1, e2, e3, putF_ne (by decide +kernel), putF_ne (by decide +kernel), putF_ne (by decide +kernel), putF_ne (by decide +kernel)]
  rfl
theorem mf_memory (m s r o e : V) : (mf m s r o e).lookup ("memory" : Str) = some m := by
  unfold mf
  rw [lookup_putF, if_neg (by decide +kernel), lookup_putF, if_neg (by decide +kernel), lookup_putF, if_neg (by decide +kernel), lookup_putF, if_neg (by decide +kernel), lookup_putF, if_pos rfl]
theorem mf_spot (m s r o e : V) : (mf m s r o e).lookup ("spot" : Str) = some s := by
  unfold mf
  rw [lookup_putF, if_neg (by decide +kernel), lookup_putF, if_neg (by decide +kernel), lookup_putF, if_neg (by decide +kernel), lookup_putF, if_pos rfl]
theorem mf_registers (m s r o e : V) : (mf m s r o e).lookup ("registers" : Str) = some r := by
  unfold mf
  rw [lookup_putF, if_neg (by decide +kernel), lookup_putF, if_neg (by decide +kernel), lookup_putF, if_pos rfl]
theorem mf_outputs (m s r o e : V) : (mf m s r o e).lookup ("outputs" : Str) = some o := by
  unfold mf
  rw [lookup_putF, if_neg (by decide +kernel), lookup_putF, if_pos rfl]
theorem mf_ended (m s r o e : V) : (mf m s r o e).lookup ("ended" : Str) = some e := by
  unfold mf
  rw [lookup_putF, if_pos rfl]
theorem mf_no (m s r o e : V) {f : Str} (h1 : ¬ f = "ended") (h2 : ¬ f = "outputs") (h3 : ¬ f = "registers") (h4 : ¬ f = "spot") (h5 : ¬ f = "memory") : (mf m s r o e).lookup f = none := by
  unfold mf
  rw [lookup_putF, if_neg h1, lookup_putF, if_neg h2, lookup_putF, if_neg h3, lookup_putF, if_neg h4, lookup_putF, if_neg h5]
  rfl
theorem mf_len (m s r o e : V) : (mf m s r o e).length < 1000 := by rw [mf_is]; show 5 < 1000; decide
theorem mf_putSpot (m s r o e v : V) : putF "spot" v (mf m s r o e) = mf m v r o e := by
  rw [mf_is, mf_is, putF_ne (by decide +kernel), putF_eq]
theorem mf_putEnded (m s r o e v : V) : putF "ended" v (mf m s r o e) = mf m s r o v := by
  rw [mf_is, mf_is, putF_ne (by decide +kernel), putF_ne (by decide +kernel), putF_ne (by decide +kernel), putF_ne (by decide +kernel), putF_eq]
/-! a machine in the heap -/
structure MachAt (C : Addr) (H : Hp) (p dx m r o : Addr) (s : MSt) : Prop where
  ob : H p = some (.ins C dx (mf (.ref m) (.int s.spot) (.ref r) (.ref o) (.bl s.fin)))
  dc : ∃ kvs, H m = some (.dK kvs) ∧ kvs.length ≤ 100000 ∧ ∀ a : Int, valV kvs (Sum.inl a : Key) = (s.mem a).map V.int
  rg : H r = some (.lst (s.regs.map V.int))
  ou : H o = some (.lst (s.outs.map V.int))
  ne : r ≠ o
theorem MachAt.same {C : Addr} {H H' : Hp} {p dx m r o : Addr} {s : MSt} (e : Same H H') (h : MachAt C H p dx m r o s) : MachAt C H' p dx m r o s := by
  obtain ⟨kvs, h1, h2, h3⟩ := h.dc
  exact ⟨e _ _ h.ob, ⟨kvs, e _ _ h1, h2, h3⟩, e _ _ h.rg, e _ _ h.ou, h.ne⟩
/-- all but a machine's own cells stands -/
def Keep (H H' : Hp) (p m r o : Addr) : Prop := ∀ b v, H b = some v → b ≠ p → b ≠ m → b ≠ r → b ≠ o → H' b = some v
theorem Keep.same {B H H' : Hp} {p m r o : Addr} (k : Keep H H' p m r o) (e : Same B H) (h1 : B p = none) (h2 : B m = none) (h3 : B r = none) (h4 : B o = none) : Same B H' := fun b v hb =>
  k b v (e b v hb) (ne_of_none hb h1) (ne_of_none hb h2) (ne_of_none hb h3) (ne_of_none hb h4)
theorem Keep.of {H H' : Hp} {p m r o : Addr} (e : Same H H') : Keep H H' p m r o := fun b v h _ _ _ _ => e b v h
theorem Keep.trans {H H1 H2 : Hp} {p m r o : Addr} (a : Keep H H1 p m r o) (b : Keep H1 H2 p m r o) : Keep H H2 p m r o := fun c v h h1 h2 h3 h4 => b c v (a c v h h1 h2 h3 h4) h1 h2 h3 h4
section
variable {K : PySem.W.Frag} {σ : L2.St} {H H' : Hp} {Q : VK} {ta tb tc te to tv td ty : TE} {tr : TA} {i j : Int} {x y v : V} {a p dx C m r o : Addr} {xs ys : List V} {f : Str} {fs : List (Str × V)} {nx bk ct : L2.St → Hp → Prop} {rt : VK} {W : L2.St → Hp → Prop} {s : MSt}
theorem s_fld (hv : ∀ R : VK, R (.ref p) H → ta σ H R) (h : H p = some (.ins C dx fs)) (c : Cls K C) (n : NoAttr K C f) (l : fs.lookup f = some v) (z : Q v H) : tFld K ta f σ H Q := hv _ ⟨p, C, dx, fs, v, rfl, h, c, n, l, z⟩
theorem s_sFld (z : tv σ H fun y H1 => ta σ H1 fun x H2 => ∃ a C dx fs, x = .ref a ∧ H2 a = some (.ins C dx fs) ∧ Cls K C ∧ NoAttr K C f ∧ fs.length < 1000 ∧ nx σ (upd H2 a (.ins C dx (putF f y fs)))) : sFld K ta tv f ⟨nx, rt, bk, ct⟩ σ H := z
theorem s_setF (h : H p = some (.ins C dx fs)) (c : Cls K C) (n : NoAttr K C f) (hl : fs.length < 1000) (z : nx σ (upd H p (.ins C dx (putF f y fs)))) :
    ∃ a C dx fs, V.ref p = .ref a ∧ H a = some (.ins C dx fs) ∧ Cls K C ∧ NoAttr K C f ∧ fs.length < 1000 ∧ nx σ (upd H a (.ins C dx (putF f y fs))) := ⟨p, C, dx, fs, rfl, h, c, n, hl, z⟩
theorem s_gTup {n : Nat} {t : TGs} (h : SqT K H p xs) (hl : xs.length = n) (z : t xs σ H W) : gTup K n t (.ref p) σ H W := ⟨p, xs, rfl, h, hl, z⟩
theorem s_gTupA {n : Nat} {t : TGs} (h : H p = some (.tup xs)) (hl : xs.length = n) (z : t xs σ H W) : gTup K n t (.ref p) σ H W := ⟨p, xs, rfl, .inl (.inl h), hl, z⟩
theorem s_gCons {t : TG} {u : TGs} (z : t v σ H fun σ' H' => u xs σ' H' W) : gCons t u (v :: xs) σ H W := ⟨v, xs, rfl, z⟩
theorem s_gNil (z : W σ H) : gNil [] σ H W := ⟨rfl, z⟩
theorem s_gSub {t : TSet} (z : to σ H fun o H1 => te σ H1 fun i H2 => t o i v H2 fun H3 => W σ H3) : gSub to te t v σ H W := z
theorem s_setL {Z : Hp → Prop} {k : Nat} (h : H p = some (.lst xs)) (hi : ixN xs.length i = some k) (z : Z (upd H p (.lst (xs.set k v)))) : rSetL (.ref p) (.int i) v H Z := ⟨p, xs, i, k, rfl, rfl, h, hi, z⟩
theorem ixN_ok {n : Nat} (h0 : 0 ≤ i) (h : i < n) : ixN n i = some i.toNat := by
  unfold ixN
  rw [if_pos h0, if_pos h]
theorem atI_reg {l : List Int} {n : Nat} (hl : l.length = n) (h0 : 0 ≤ i) (h : i < n) : atI (l.map V.int) i = some (.int (reg l i)) := by
  have hi : i.toNat < l.length := by omega
  refine atI_int (k := i.toNat) ?_ (by omega)
  unfold reg
  rw [List.getD_eq_getElem?_getD, List.getElem?_eq_getElem hi]; rfl
theorem map_set {l : List Int} {n : Nat} {z : Int} : (l.map V.int).set n (.int z) = (l.set n z).map V.int := by rw [List.map_set]
theorem tup_at {i : Nat} {v : V} (h : H p = some (.tup xs)) (hv : xs[i]? = some v) (z : Q v H) : rIxT K (.ref p) (.int (i : Int)) H Q := s_ixT (.inl (.inl h)) (atI_nat hv) z
theorem s_methO {sp : Sp} {E : XK} (hv : ∀ R : VK, R (.ref p) H → ta σ H R) (h : H p = some (.ins C dx fs)) (hm : fs.lookup f = none) (z : tr σ H fun vs H2 => sp (.ref p :: vs) H2 Q E) : tMeth C f sp [] E ta tr σ H Q := by
  refine hv _ ⟨p, dx, _, rfl, h, hm, ?_⟩
  have e : (fun vs H2 => sp (.ref p :: vs) H2 Q E) = (fun vs H2 => sp (.ref p :: (vs ++ [])) H2 Q E) := by
    funext vs H1
    rw [List.append_nil]
  rw [← e]
  exact z
/-! dicts and copies -/
theorem s_dnotin (z : ty σ H fun y H1 => td σ H1 fun x H2 => ∃ a o, x = .ref a ∧ DGet H2 a y o ∧ Q (.bl (!o.isSome)) H2) : tDNotIn ty td σ H Q := z
theorem s_din (z : ty σ H fun y H1 => td σ H1 fun x H2 => ∃ a o, x = .ref a ∧ DGet H2 a y o ∧ Q (.bl o.isSome) H2) : tDIn ty td σ H Q := z
theorem s_dgetR (z : td σ H fun x H1 => ty σ H1 fun y H2 => ∃ a v, x = .ref a ∧ DGet H2 a y (some v) ∧ Q v H2) : tDGet td ty σ H Q := z
theorem s_dput (z : tv σ H fun v H1 => td σ H1 fun x H2 => ty σ H2 fun y H3 => ∃ a H4, x = .ref a ∧ DPut H3 a y v H4 ∧ nx σ H4) : sDPut td ty tv ⟨nx, rt, bk, ct⟩ σ H := z
theorem s_dget1 (z : td σ H fun x H1 => ∃ a, x = .ref a ∧ IsD H1 a ∧ ty σ H1 fun y H2 => ∃ o, DGet H2 a y o ∧ Q (o.getD .non) H2) : tDGet1 td ty σ H Q := z
end
def rDictD : List V → Hp → VK → Prop := fun xs H Q => ∃ (a : Addr) (kvs : List (Key × V)), xs = [.ref a] ∧ Rd H a (.dK kvs) ∧ ∀ p, H p = none → Q (.ref p) (upd H p (.dK kvs))
def rListO (K : PySem.W.Frag) : List V → Hp → VK → Prop := fun xs H Q => ∃ p ys, xs = [.ref p] ∧ (SqL K H p ys ∨ SqT K H p ys) ∧ ∀ l, H l = none → Q (.ref l) (upd H l (.lst ys))
theorem cl_dictD {X : Cx} : CallR X (.type "dict") rDictD := call_dictD
theorem cl_listO {X : Cx} : CallR X (.type "list") (rListO X.K) := call_list_of
theorem s_dictD {H : Hp} {Q : VK} {a : Addr} {kvs : List (Key × V)} (h : H a = some (.dK kvs)) (z : ∀ p, H p = none → Q (.ref p) (upd H p (.dK kvs))) : rDictD [.ref a] H Q := ⟨a, kvs, rfl, .inl h, z⟩
theorem s_listO {K : PySem.W.Frag} {H : Hp} {Q : VK} {a : Addr} {xs : List V} (h : SqL K H a xs) (z : ∀ p, H p = none → Q (.ref p) (upd H p (.lst xs))) : rListO K [.ref a] H Q := ⟨a, xs, rfl, .inl h, z⟩
/-- the key of an int -/
def kI (a : Int) : Key := Sum.inl a
/-- all but one object stands -/
def But (H H' : Hp) (p : Addr) : Prop := ∀ b v, H b = some v → b ≠ p → H' b = some v
theorem But.refl (H : Hp) (p : Addr) : But H H p := fun _ _ h _ => h
theorem But.at {H H' : Hp} {p : Addr} {o : HO} (e : But H H' p) : But H (upd H' p o) p := fun b v h n => by
  rw [upd_ne n]; exact e b v h n
theorem But.new {H H' : Hp} {p q : Addr} {o : HO} (e : But H H' p) (hq : H q = none) : But H (upd H' q o) p := fun b v h n => by
  rw [upd_ne (ne_of_none h hq)]; exact e b v h n
theorem But.sq {K : PySem.W.Frag} {H H' : Hp} {p dx C a : Addr} {fs : List (Str × V)} {xs : List V} (e : But H H' p) (hp : H p = some (.ins C dx fs)) (h : SqL K H a xs) : SqL K H' a xs := by
  rcases h with (h | ⟨o, h⟩) | h
  · exact .inl (.inl (e _ _ h (ne_of h hp (by intro z; cases z))))
  · exact .inl (.inr ⟨o, e _ _ h (ne_of h hp (by intro z; cases z))⟩)
  · exact .inr h
theorem But.free {H H' : Hp} {p q dx C : Addr} {fs : List (Str × V)} (e : But H H' p) (hp : H p = some (.ins C dx fs)) (h' : ∃ v, H' p = some v) (h : H' q = none) : H q = none := by
  cases z : H q with
  | none => rfl
  | some v =>
    by_cases hq : q = p
    · subst hq
      obtain ⟨v, hv⟩ := h'
      rw [hv] at h; cases h
    · rw [e q v z hq] at h; cases h
theorem lp1 {f : Str} {v : V} {fs : List (Str × V)} {n : Nat} (h : fs.length ≤ n) : (putF f v fs).length ≤ n + 1 := Nat.le_trans (length_putF f v fs) (by omega)
theorem lp {n : Nat} {fs : List (Str × V)} (h : fs.length ≤ n) (hn : n ≤ 100) : fs.length < 1000 := by omega
theorem nil0 : ([] : List (Str × V)).length ≤ 0 := Nat.le_refl 0
section
variable {C p dx m r o : Addr} {H H' : Hp} {s : MSt}
theorem MachAt.pm (M : MachAt C H p dx m r o s) : p ≠ m := by obtain ⟨k, h, _⟩ := M.dc; exact ne_of M.ob h (by intro z; cases z)
theorem MachAt.pr (M : MachAt C H p dx m r o s) : p ≠ r := ne_of M.ob M.rg (by intro z; cases z)
theorem MachAt.po (M : MachAt C H p dx m r o s) : p ≠ o := ne_of M.ob M.ou (by intro z; cases z)
theorem MachAt.rm (M : MachAt C H p dx m r o s) : r ≠ m := by obtain ⟨k, h, _⟩ := M.dc; exact ne_of M.rg h (by intro z; cases z)
theorem MachAt.om (M : MachAt C H p dx m r o s) : o ≠ m := by obtain ⟨k, h, _⟩ := M.dc; exact ne_of M.ou h (by intro z; cases z)
theorem MachAt.setSpot (M : MachAt C H p dx m r o s) (v : Int) : MachAt C (upd H p (.ins C dx (putF "spot" (.int v) (mf (.ref m) (.int s.spot) (.ref r) (.ref o) (.bl s.fin))))) p dx m r o { s with spot := v } := by
  obtain ⟨kvs, h1, h2, h3⟩ := M.dc
  rw [mf_putSpot]
  exact ⟨upd_same, ⟨kvs, by rw [upd_ne M.pm.symm]; exact h1, h2, h3⟩, by rw [upd_ne M.pr.symm]; exact M.rg, by rw [upd_ne M.po.symm]; exact M.ou, M.ne⟩
theorem MachAt.setEnded (M : MachAt C H p dx m r o s) (v : Bool) : MachAt C (upd H p (.ins C dx (putF "ended" (.bl v) (mf (.ref m) (.int s.spot) (.ref r) (.ref o) (.bl s.fin))))) p dx m r o { s with fin := v } := by
  obtain ⟨kvs, h1, h2, h3⟩ := M.dc
  rw [mf_putEnded]
  exact ⟨upd_same, ⟨kvs, by rw [upd_ne M.pm.symm]; exact h1, h2, h3⟩, by rw [upd_ne M.pr.symm]; exact M.rg, by rw [upd_ne M.po.symm]; exact M.ou, M.ne⟩
theorem MachAt.setReg (M : MachAt C H p dx m r o s) (i : Nat) (v : Int) : MachAt C (upd H r (.lst ((s.regs.map V.int).set i (.int v)))) p dx m r o { s with regs := s.regs.set i v } := by
  obtain ⟨kvs, h1, h2, h3⟩ := M.dc
  refine ⟨by rw [upd_ne M.pr]; exact M.ob, ⟨kvs, by rw [upd_ne M.rm.symm]; exact h1, h2, h3⟩, ?_, by rw [upd_ne M.ne.symm]; exact M.ou, M.ne⟩
  rw [map_set]; exact upd_same
theorem MachAt.app (M : MachAt C H p dx m r o s) (v : Int) : MachAt C (upd H o (.lst (s.outs.map V.int ++ [.int v]))) p dx m r o { s with outs := s.outs ++ [v] } := by
  obtain ⟨kvs, h1, h2, h3⟩ := M.dc
  refine ⟨by rw [upd_ne M.po]; exact M.ob, ⟨kvs, by rw [upd_ne M.om.symm]; exact h1, h2, h3⟩, by rw [upd_ne M.ne]; exact M.rg, ?_, M.ne⟩
  have e : (s.outs ++ [v]).map V.int = s.outs.map V.int ++ [.int v] := by rw [List.map_append]; rfl
  rw [e]; exact upd_same
theorem Keep.atP {v : HO} (k : Keep H H' p m r o) : Keep H (upd H' p v) p m r o := fun b u h h1 h2 h3 h4 => by rw [upd_ne h1]; exact k b u h h1 h2 h3 h4
theorem Keep.atR {v : HO} (k : Keep H H' p m r o) : Keep H (upd H' r v) p m r o := fun b u h h1 h2 h3 h4 => by rw [upd_ne h3]; exact k b u h h1 h2 h3 h4
theorem Keep.atO {v : HO} (k : Keep H H' p m r o) : Keep H (upd H' o v) p m r o := fun b u h h1 h2 h3 h4 => by rw [upd_ne h4]; exact k b u h h1 h2 h3 h4
theorem Keep.atM {H2 : Hp} (k : Keep H H' p m r o) (e : ∀ b, b ≠ m → H2 b = H' b) : Keep H H2 p m r o := fun b u h h1 h2 h3 h4 => by rw [e b h2]; exact k b u h h1 h2 h3 h4
theorem Keep.sm {H2 : Hp} (k : Keep H H' p m r o) (e : Same H' H2) : Keep H H2 p m r o := fun b u h h1 h2 h3 h4 => e b u (k b u h h1 h2 h3 h4)
end
/-- what a step asks -/
structure Goes (s : MSt) (w : Int) : Prop where
  run : s.fin = false
  here : s.mem s.spot = some w
  r8 : s.regs.length = 8
  rr : ∀ i, 0 ≤ i → i < 8 → 0 ≤ reg s.regs i ∧ reg s.regs i < 4294967296
  few : s.outs.length ≤ 1000
  has : opI w = 5 ∨ opI w = 6 → ∃ v, s.mem (thereI s w) = some v
def optW : Option Int → V
  | none => .non
  | some n => .int n
section
variable {K : PySem.W.Frag} {σ : L2.St} {H H' : Hp} {Q : VK} {ta tb tc te to tv td ty tl : TE} {tt : TT} {tr : TA} {i j : Int} {x y v : V} {a p q dx C m r o : Addr} {xs ys : List V}
theorem s_isi_tt {cn : String} {k : Bool} (h : H q = some (.tup xs)) (hk : kitB "tuple" cn = some k) (z : Q (.bl k) H) : rIsi K [.ref q, .ty cn] H Q := s_isi (.base (.tup h)) (kit_ty hk) z
/-- a machine's state as data -/
def stD (s : MSt) : PyData := .tuple [.int s.spot, .list (s.regs.map PyData.int), .list (s.outs.map PyData.int), .bool s.fin]
theorem dp_st {s : MSt} (h : H q = some (.tup [.int s.spot, .ref r, .ref o, .bl s.fin])) (hr : SqL K H r (s.regs.map V.int)) (ho : SqL K H o (s.outs.map V.int)) : Dp K H (.ref q) (stD s) :=
  .tup (.inl (.inl h)) (.cons (.int _) (.cons (dp_intL hr) (.cons (dp_intL ho) (.cons (.bl _) .nil))))
theorem shaped_st (s : MSt) : SeqAt.shaped (stD s) = true := by
  have h1 := depth_ints s.regs
  have h2 := depth_ints s.outs
  refine Bool.and_eq_true_iff.mpr ⟨?_, decide_eq_true ?_⟩
  · show (true && (PyData.canLayAll0 (s.regs.map PyData.int) && (PyData.canLayAll0 (s.outs.map PyData.int) && (true && true)))) = true
    rw [lay_ints, lay_ints]; rfl
  · show (max 0 (max (PyData.depthAll (s.regs.map PyData.int) + 1) (max (PyData.depthAll (s.outs.map PyData.int) + 1) (max 0 0)))) + 1 ≤ 64
    omega
theorem s_neSt {s : MSt} (h1 : Dp K H x (stD s)) (h2 : Dp K H y (stD s)) (z : Q (.bl false) H) : rNeD K x y H Q :=
  ⟨_, _, h1, h2, shaped_st s, shaped_st s, by
    rw [SeqAt.eqv_refl _ (SeqAt.canLay_of_shaped (shaped_st s))]; exact z⟩
/-- [e for x in xs if t], t false of each -/
theorem s_lcNo {k : Nat} {vs : List Nat} {xs : List V} (ha : ∀ R : VK, (∀ a H1, Same H H1 → SqL K H1 a xs → R (.ref a) H1) → tl σ H R) (hw : ∀ x, wipe ((wipe σ vs).set k (some x)) vs = wipe σ vs)
    (ht : ∀ (i : Nat) x H1 (T : Bool → Hp → Prop), xs[i]? = some x → Same H H1 → (∀ H2, Same H1 H2 → T false H2) → tt ((wipe σ vs).set k (some x)) H1 T)
    (z : ∀ p H1, Same H H1 → H1 p = some (.lst []) → Q (.ref p) H1) : tLc (iList K tl) (gName k) tt te vs σ H Q := by
  refine ha _ fun a H0 s0 hx => ⟨a, rfl, ⟨xs, hx⟩, fun D hD => ?_⟩
  refine lc_list (xs := xs) (fun i H' => Same H0 H' ∧ H' D = some (.lst [])) ⟨same_upd hD, upd_same⟩ (fun i H' _ h => h.1.seq hx) (fun i x H1 hi h => ?_) (fun H1 h => z D H1 (s0.trans h.1) h.2)
  obtain ⟨s1, h1⟩ := h
  refine ⟨hw _, ht i x H1 _ hi (s0.trans s1) fun H2 s2 => ?_⟩
  rw [if_neg Bool.false_ne_true]
  exact ⟨s1.trans s2, s2 D _ h1⟩
theorem s_eqNil (h1 : H p = some (.lst [])) (h2 : H q = some (.lst [])) (z : Q (.bl true) H) : rEqD K (.ref p) (.ref q) H Q :=
  s_eqInts (ns := []) (ms := []) (.inl (.inl h1)) (.inl (.inl h2)) z
end
theorem s_disp {trs : List (TE × TE)} {σ : L2.St} {H : Hp} {Q : VK} (z : ∀ p, H p = none → tPairs trs σ (upd H p (.dK [])) fun ps H2 => H2 p = some (.dK []) ∧ ∃ kvs : List (Key × V), ps = kvs.map (fun kv => (kV kv.1, kv.2)) ∧ kvs.length ≤ 15 ∧ Q (.ref p) (upd H2 p (.dK (mergeK [] kvs)))) : tDisp trs σ H Q := z
theorem s_tPc {tk tv : TE} {r : List (TE × TE)} {σ : L2.St} {H : Hp} {R : List (V × V) → Hp → Prop} (z : tk σ H fun x H1 => tv σ H1 fun y H2 => tPairs r σ H2 fun ps H3 => R ((x, y) :: ps) H3) : tPairs ((tk, tv) :: r) σ H R := z
theorem s_tPn {σ : L2.St} {H : Hp} {R : List (V × V) → Hp → Prop} (z : R [] H) : tPairs [] σ H R := z
/-- a word put together -/
theorem word_parts {op a b c low : Int} (h1 : 0 ≤ op ∧ op < 16) (h2 : 0 ≤ a ∧ a < 8) (h3 : 0 ≤ b ∧ b < 8) (h4 : 0 ≤ c ∧ c < 8) (h5 : 0 ≤ low ∧ low < 524288) :
    let w := op * 268435456 + a * 33554432 + b * 4194304 + c * 524288 + low
    (0 ≤ w ∧ w < 4294967296) ∧ opI w = op ∧ fA w = a ∧ fB w = b ∧ fC w = c ∧ fN w = low % 65536 ∧ nearI w = nearI low ∧ splitI w = splitI low := by
  intro w
  have hw : w = op * 268435456 + a * 33554432 + b * 4194304 + c * 524288 + low := rfl
  clear_value w
  unfold opI fA fB fC fN nearI splitI
  refine ⟨by omega, by omega, by omega, by omega, by omega, by omega, by omega, ?_⟩
  have e1 : w % 128 = low % 128 := by omega
  have e2 : w / 16384 % 32 = low / 16384 % 32 := by omega
  rw [e1, e2]
theorem near_low {low : Int} (h : 0 ≤ low ∧ low < 524288) : nearI low = if low > 262143 then low - 524288 else low := by
  unfold nearI; split <;> omega
theorem split_low (low : Int) : splitI low = if low % 128 + low / 16384 % 32 * 128 > 2047 then low % 128 + low / 16384 % 32 * 128 - 4096 else low % 128 + low / 16384 % 32 * 128 := by
  unfold splitI; split <;> omega
def onw (op one other beside low : Int) : Int :=
  if op = 15 then one else if op = 14 then (beside + nearI low) % 4294967296 else if (op = 12 ∧ one = other) ∨ (op = 13 ∧ one < other) then (beside + splitI low) % 4294967296 else beside
theorem reg_set {l : List Int} {i j v : Int} (h : i < l.length) (h0 : 0 ≤ i) (j0 : 0 ≤ j) : reg (l.set i.toNat v) j = if j = i then v else reg l j := by
  unfold reg
  rw [List.getD_eq_getElem?_getD, List.getElem?_set, List.getD_eq_getElem?_getD]
  by_cases e : j = i
  · rw [if_pos (by rw [e]), if_pos (by omega), if_pos e]; rfl
  · rw [if_neg (by omega), if_neg e]
/-- an object that is none of a machine's cells is written -/
theorem MachAt.off {C : Addr} {H : Hp} {p dx m r o q : Addr} {s : MSt} {v : HO} (M : MachAt C H p dx m r o s) (h1 : q ≠ p) (h2 : q ≠ m) (h3 : q ≠ r) (h4 : q ≠ o) : MachAt C (upd H q v) p dx m r o s := by
  obtain ⟨kvs, k1, k2, k3⟩ := M.dc
  exact ⟨by rw [upd_ne h1.symm]; exact M.ob, ⟨kvs, by rw [upd_ne h2.symm]; exact k1, k2, k3⟩, by rw [upd_ne h3.symm]; exact M.rg, by rw [upd_ne h4.symm]; exact M.ou, M.ne⟩
end Jl

/-! Exceptions that were caught and are held as values behind their clause. -/
namespace Jl
open PySem L2 PySem.Spec PyProof.Rows
/-- an exception, of class cls and with the dict d, held as a value -/
def XO (cls : Value) (d : Option Addr) (a : Addr) : HO := .ext fun h => ∃ u fl, h.get? a = some u ∧ Zc cls d u ∧ u.data = .fields fl
theorem xo_ok {P : Program} {w : World} {H : Hp} {h : Heap} {a : Addr} {cls : Value} {d : Option Addr} {u : Obj} {fl : Array Value} (e : h.get? a = some u) (z : Zc cls d u) (f : u.data = .fields fl) : ObjOk P w H h a (XO cls d a) :=
  ⟨⟨u, fl, e, z, f⟩, ⟨u, e⟩, fun _ _ ⟨u, fl, e, r⟩ k => ⟨u, fl, k u e, r⟩⟩
section
variable {X : Cx} {pins : List (Addr × Obj)} {σ : L2.St} {H : Hp} {s : Shared} {a : Addr} {o : HO}
/-- an object that stands, of which nothing was told, is told of -/
theorem track (I : Inv X pins σ H s) (n0 : X.s_0.heap.get? a = none) (hn : H a = none) (nL : a ≠ X.env.locals) (nC : ∀ y z, X.env.cells.lookup y = some z → z ≠ a) (nP : ∀ p ∈ X.pn ++ pins, p.1 ≠ a)
    (new : ObjOk X.prog X.w (upd H a o) s.heap a o) : Inv X pins σ (upd H a o) s := by
  have old : ∀ z u, X.s_0.heap.get? z = some u → z ≠ a := fun z u e q => by rw [q, n0] at e; cases e
  have far : ∀ z {u}, H z = some u → upd H a o z = some u := fun z {u} e => by rw [upd_ne (ne_of_none e hn)]; exact e
  refine { ok := I.ok, os := I.os, bare := I.bare, base := ?_, loc := I.loc, cell := I.cell, free := ?_, freeC := ?_, pin := ?_, hok := I.hok.laidN (fun _ _ z => z) hn new, len := I.len }
  · refine { keep := I.base.keep, slot := I.base.slot, there := I.base.there, free := ?_, tups := ?_, frzs := ?_, tbls := ?_ }
    · intro z u e n q
      rw [upd_ne (old z u e)]
      exact I.base.free z u e n q
    · intro z xs e
      exact far z (I.base.tups z xs e)
    · intro z u xs e
      exact far z (I.base.frzs z u xs e)
    · intro z ps e
      obtain ⟨m, q⟩ := I.base.tbls z ps e
      exact ⟨m, far z q⟩
  · rw [upd_ne nL.symm]; exact I.free
  · intro y z e
    rw [upd_ne (nC y z e)]
    exact I.freeC y z e
  · intro p hp
    obtain ⟨e, n, r⟩ := I.pin p hp
    exact ⟨e, by rw [upd_ne (nP p hp)]; exact n, r⟩
end
/-- the ends behind the clause: its name is gone, the exception is told of -/
def outE (i : Nat) (a : Addr) (cls : Value) (d : Option Addr) (D : Ends) : Ends where
  nx := fun σ H => D.nx (σ.set i none) (upd H a (XO cls d a))
  rt := fun v H => D.rt v (upd H a (XO cls d a))
  bk := fun σ H => D.bk (σ.set i none) (upd H a (XO cls d a))
  ct := fun σ H => D.ct (σ.set i none) (upd H a (XO cls d a))
/-- what the clause 'except x as n' wishes of an exception (n at slot i) that is to be held behind it -/
def wOut (K : PySem.W.Frag) (c : Value) (i : Nat) (ts : Addr → Value → Option Addr → TS) (Wo : WX) (D : Ends) : WX := fun cls d σ H =>
  ∃ yn, PySem.W.exmOne K cls c = some yn ∧ (yn = true → ∀ a, H a = none → ts a cls d (outE i a cls d D) (σ.set i (some (.ref a))) H) ∧ (yn = false → Wo cls d σ H)
/-- the clauses are looked at -/
def looked (X : Cx) (hds : List ExceptHandler) (S : Flow → Shared → Prop) (e : Value) (t : Shared) : Prop :=
  wpAny (model X.prog X.w) X.A (noteFrame e X.env) (fun _ t2 => wpAny (model X.prog X.w) X.A (setFlight e none) (fun _ t3 => wpAny (model X.prog X.w) X.A (handleBy e X.env hds) S X.xe t3) X.xe t2) X.xe t
section
variable {X : Cx} {x n : Str} {c : Value} {i : Nat} {body suite : List Stmt} {st0 : Stmt} {q1 q2 q3 : Pos} {tb : WX → TS} {ts : Addr → Value → Option Addr → TS} {Wo : WX}
theorem ps_caught (stk : X.stack = X.env :: X.outer) (frm : X.env.frame = some X.env.locals) (hex : X.ex = []) (nod : X.N.Nodup) (ix : X.N[i]? = some n) (loc : X.env.kindOf n = some .local) (nm : Names X x c) (tk : Takes X Wo)
    (hb : ∀ (W : WX) (pl : List (Addr × Obj)) (xe : Value → Shared → Prop), Takes (X.tr pl xe) W → PassesOwn (model X.prog X.w) X.A X.env xe → PSs (X.tr pl xe) body (tb W))
    (hu : ∀ (a : Addr) (u : Obj) (cls : Value) (d : Option Addr) (pl : List (Addr × Obj)), Zc cls d u → (∃ fl, u.data = .fields fl) → PSs (X.suite a ((a, u) :: pl)) (st0 :: suite) (ts a cls d)) :
    PS X (.Try body [.ExceptHandler (some (.Name x q1)) (some n) (st0 :: suite) q2] [] [] q3) (fun D σ H => tb (wOut X.K c i ts Wo D) D σ H) := by
  constructor
  intro pins s σ H D I h
  have frames : X.A.frames = some (X.env :: X.outer) := I.ok.frames.trans (congrArg some stk)
  have here : Loc X.env.scope n := Or.inl loc
  have catch_ : Takes (X.tr (X.pn ++ pins) (looked X [.ExceptHandler (some (.Name x q1)) (some n) (st0 :: suite) q2] (SP X pins D))) (wOut X.K c i ts Wo D) := by
    rintro w t ⟨a, B, tI, pl, σ1, H1, cls, d, rfl, J0, nb, up, sky, na, os, ag, yn, exm, yes, no⟩
    have J : Inv X pins σ1 H1 tI := J0.ofTry I.ok
    replace sky : Sky B (X.env :: X.outer) a (Zc cls d) X.env.locals t.heap := stk ▸ sky
    show wpAny (model X.prog X.w) X.A (noteFrame (.ref a) X.env) _ _ _
    refine Sky.land Zc.steady frames frm sky fun h3 F3 up3 => ?_
    have G3 : Inv X pins σ1 H1 { t with heap := h3 } := J.landed nb F3.1 (up.trans up3) os ag
    obtain ⟨u3, fl3, get3, z3, dat3⟩ := F3.there
    have away : a ∉ frs (X.env :: X.outer) := fun hm => by
      obtain ⟨_, u, e, nf⟩ := F3.2.2.1.mem hm
      cases get3.symm.trans e
      exact nf _ dat3
    have noL : a ≠ X.env.locals := fun z => away (List.mem_filterMap.mpr ⟨X.env, List.mem_cons_self, by rw [z]; exact frm⟩)
    have noF : a ∉ X.fs := fun hm => by
      obtain ⟨e, he, q⟩ := List.mem_filterMap.mp hm
      exact away (List.mem_filterMap.mpr ⟨e, List.mem_cons_of_mem _ he, q⟩)
    -- the exception is new to the state without it
    have lone : tI.heap.get? a = none := by
      cases e : tI.heap.get? a with
      | none => rfl
      | some u =>
        have q := nb a u e (by rw [stk]; exact away)
        rw [F3.2.1] at q; cases q
    have n0 : X.s_0.heap.get? a = none := by
      cases e : X.s_0.heap.get? a with
      | none => rfl
      | some u =>
        obtain ⟨u', q⟩ := J.base.there a u e (by rw [hex]; exact fun z => nomatch z)
        rw [lone] at q; cases q
    have apart : ∀ p ∈ X.pn ++ pins, p.1 ≠ a := fun p hp z => by
      have q := (J.pin p hp).1
      rw [z, lone] at q; cases q
    have T3 := G3.suite get3 dat3 na noL noF
    refine wpAny_handleBy_cons (codeAny_handlers_test ?_) (by intro z; cases z)
    have ty : PySem.W.Looks (model X.prog X.w) h3 (typeOf (.ref a)) cls := fun _ _ _ _ k q => wpAny_typeOf_ref (k _ _ get3) (z3.1.symm ▸ q)
    have matches_ := PySem.W.exm_one (M := model X.prog X.w) G3.kIn ty exm
    have asked : ∀ {Q E : Value → Shared → Prop}, Q c { t with heap := h3 } → wpAny (model X.prog X.w) (X.A.mark (some (.ref a))) (eval (.Name x q1) X.env) Q E { t with heap := h3 } := by
      intro Q E q
      rcases nm with ⟨gl, db, mg | ⟨mg, bl, nn⟩⟩
      · exact ld_glob T3 gl mg q db
      · exact ld_blt T3 gl mg bl q nn db
    refine asked (matches_.here ?_)
    cases yn with
    | false =>
      show wpAny _ X.A (handleBy (.ref a) X.env []) _ _ _
      refine wpAny_handleBy_nil ?_
      obtain ⟨_, _, _, _, _, T, _, _, e, _, f, f1, _⟩ := id F3
      unfold PySem.passOn
      refine wpAny_bind (wpAny_field e f f1 ?_)
      rw [if_neg (by simp)]
      have fly : wpAny (model X.prog X.w) X.A (setFlight (.ref a) X.env.frame) (fun _ t4 => wpAny (model X.prog X.w) X.A (throw (.ref a) : Sem Flow) (SP X pins D) X.xe t4) X.xe { t with heap := h3 } := by
        rw [frm]
        exact HandSPX.setFlight_upZ F3 fun h4 F4 up4 => wpAny_throw (tk _ _ ⟨a, B, tI, pins, σ1, H1, cls, d, rfl, J, nb, (up.trans up3).trans up4, .inr (.inr (stk ▸ F4)), na, os, ag, no rfl⟩)
      first
        | exact wpAny_bind (wpAny_pure (wpAny_bind fly))
        | exact wpAny_bind fly
    | true =>
      refine codeAny_handlers_suite_as (HandSPX.lands_againZ F3 fun h4 F4 up4 => ?_)
      have G4 : Inv X pins σ1 H1 { t with heap := h4 } := J.landed nb F4.1 ((up.trans up3).trans up4) os ag
      obtain ⟨u4, fl4, get4, z4, dat4⟩ := F4.there
      have T4 := G4.suite get4 dat4 na noL noF
      refine store_ok (X := X.suite a ((a, u4) :: (X.pn ++ pins))) (v := .ref a) T4 nod ix here rfl (fun t5 T5 => ?_) (Or.inr loc)
      refine wpAny_mono ((hu a u4 cls d (X.pn ++ pins) z4 ⟨_, dat4⟩).run [] t5 _ H1 _ T5 (yes rfl a na)) (fun f t6 r => ?_) (fun _ _ z => z.elim)
      have leave : ∀ {σ6 : L2.St} {H6 : Hp} {Q : Shared → Prop}, Inv (X.suite a ((a, u4) :: (X.pn ++ pins))) [] σ6 H6 t6 → (∀ t7, Inv X pins (σ6.set i none) (upd H6 a (XO cls d a)) t7 → Q t7) →
          wpAny (model X.prog X.w) X.A (do bindName X.env n .none; unbindBehindTheSuite X.env n q2) (fun _ t7 => Q t7) X.xe t6 := by
        intro σ6 H6 Q T6 hq
        obtain ⟨e6, n6, _⟩ := T6.pin (a, u4) (List.mem_append_left _ List.mem_cons_self)
        have cells : ∀ y z, X.env.cells.lookup y = some z → z ≠ a := fun y z e q => by
          obtain ⟨v, ob, e7, dc⟩ := T6.cell y z e
          rw [q] at e7
          cases e6.symm.trans e7
          rw [dat4] at dc; cases dc
        exact gone_ok (track (T6.unsuite I.ok) n0 n6 noL cells apart (xo_ok e6 z4 dat4)) nod ix loc hq
      cases f with
      | next => exact let ⟨σ6, H6, T6, q⟩ := r; leave T6 fun t7 J7 => ⟨_, _, J7, q⟩
      | brk => exact let ⟨σ6, H6, T6, q⟩ := r; leave T6 fun t7 J7 => ⟨_, _, J7, q⟩
      | cont => exact let ⟨σ6, H6, T6, q⟩ := r; leave T6 fun t7 J7 => ⟨_, _, J7, q⟩
      | ret v => exact let ⟨v6, σ6, H6, T6, rv, q⟩ := r; leave T6 fun t7 J7 => ⟨_, _, _, J7, rv, q⟩
  refine wpAny_Try_except (wpAny_mono ((hb (wOut X.K c i ts Wo D) (X.pn ++ pins) _ catch_ PassesOwn.looking).run [] s σ H D (I.toTry _) h) (fun f t r => ?_) fun _ _ z => z)
  cases f with
  | next => exact let ⟨σ6, H6, T6, q⟩ := r; wpAny_execs_nil ⟨σ6, H6, T6.ofTry I.ok, q⟩
  | brk => exact let ⟨σ6, H6, T6, q⟩ := r; ⟨σ6, H6, T6.ofTry I.ok, q⟩
  | cont => exact let ⟨σ6, H6, T6, q⟩ := r; ⟨σ6, H6, T6.ofTry I.ok, q⟩
  | ret v => exact let ⟨v6, σ6, H6, T6, rv, q⟩ := r; ⟨v6, σ6, H6, T6.ofTry I.ok, rv, q⟩
end
/-! isinstance and fields of such -/
/-- the exception's dict, if it has one, is told of -/
def XD (H : Hp) (d : Option Addr) : Prop := ∀ b, d = some b → ∃ fs, H b = some (.xd fs)
theorem xd_none {H : Hp} : XD H none := fun _ z => nomatch z
theorem xd_some {H : Hp} {b : Addr} {fs : List (Str × V)} (h : H b = some (.xd fs)) : XD H (some b) := fun c z => by cases z; exact ⟨fs, h⟩
theorem xo_inst {X : Cx} {pins : List (Addr × Obj)} {σ : L2.St} {H : Hp} {s : Shared} {a D : Addr} {d : Option Addr} (I : Inv X pins σ H s) (h : H a = some (XO (.ref D) d a)) (hd : XD H d) : ∃ u od, PySem.W.InstAt s.heap a u D od := by
  obtain ⟨⟨u, fl, e, z, f⟩, _, _⟩ := I.hok a _ h
  have nc : PySem.W.notCls u = true := by unfold PySem.W.notCls; rw [f]
  cases d with
  | none => exact ⟨u, none, e, z.1, nc, by rw [z.2]; trivial⟩
  | some b =>
    obtain ⟨fs, hb⟩ := hd b rfl
    obtain ⟨m, ns, _⟩ := I.hok b _ hb
    obtain ⟨o, ho, _⟩ := lookIn_ns ns
    exact ⟨u, some o, e, z.1, nc, by rw [z.2]; exact ho⟩
/-- isinstance(x, c), x such an exception -/
def rIsX (K : PySem.W.Frag) : List V → Hp → VK → Prop := fun xs H Q => ∃ (a D : Addr) (d : Option Addr) (c : V) (cv : Value) (yn : Bool), xs = [.ref a, c] ∧ H a = some (XO (.ref D) d a) ∧ XD H d ∧ ExcC K D ∧ ClsV c cv ∧ PySem.W.kitOne K (.ref D) cv = some yn ∧ Q (.bl yn) H
/-- isinstance(x, (c1, c2, ..)), x such an exception -/
def rIsXT (K : PySem.W.Frag) : List V → Hp → VK → Prop := fun xs H Q => ∃ (a D : Addr) (d : Option Addr) (tp : Addr) (cs : List V) (cvs : List Value) (yn : Bool), xs = [.ref a, .ref tp] ∧ H a = some (XO (.ref D) d a) ∧ XD H d ∧ ExcC K D ∧
  H tp = some (.tup cs) ∧ Paired ClsV cs cvs ∧ PySem.W.kitAny K (.ref D) cvs = some yn ∧ Q (.bl yn) H
theorem kit_x {K : PySem.W.Frag} {a D : Addr} {u : Obj} {od : Option Obj} (C : ExcC K D) : PySem.W.KitX K (.ref a) (.ref D) (fun h => PySem.W.InstAt h a u D od) := by
  refine PySem.W.kitx_exc ?_ C.hg C.hk C.hs C.ha C.hn C.ht C.hm
  obtain ⟨cd, e, _⟩ := PySem.W.any_some C.hd
  rw [e]; rfl
section
variable {X : Cx}
theorem cl_isX : CallR X (.builtin "isinstance") (rIsX X.K) := by
  intro pins s σ H xs us Q I r h
  obtain ⟨a, D, d, c, cv, yn, rfl, ha, hd, C, k, e, q⟩ := h
  obtain ⟨w1, w2, rfl, r1, r2⟩ := vals2 r
  cases k.eq r2
  cases (show w1 = Value.ref a from r1)
  obtain ⟨u, od, J⟩ := xo_inst I ha hd
  exact PySem.W.kia_one (kit_x C) I.kIn J e (fun z => nomatch z) fun tk => ⟨.bl yn, H, I.tok tk, rfl, q⟩
theorem cl_isXT : CallR X (.builtin "isinstance") (rIsXT X.K) := by
  intro pins s σ H xs us Q I r h
  obtain ⟨a, D, d, tp, cs, cvs, yn, rfl, ha, hd, C, ht, k, e, q⟩ := h
  obtain ⟨w1, w2, rfl, r1, r2⟩ := vals2 r
  cases (show w1 = Value.ref a from r1)
  cases (show w2 = Value.ref tp from r2)
  obtain ⟨u, od, J⟩ := xo_inst I ha hd
  obtain ⟨_, its, rv, ob, get, c1, n, c2⟩ := I.hok tp _ ht
  cases ClsV.all k rv
  obtain ⟨oc, odd, dt, sl⟩ := ob
  dsimp only at c1 c2
  subst c1 c2
  exact PySem.W.kia_tup (kit_x C) I.kIn J get e (fun z => nomatch z) fun tk => ⟨.bl yn, H, I.tok tk, rfl, q⟩
/-- x.f, x such an exception -/
def tXA (K : PySem.W.Frag) (f : Str) (te : TE) : TE := fun σ H Q => te σ H fun x H1 => ∃ (a D b : Addr) (fs : List (Str × V)) (v : V), x = .ref a ∧ H1 a = some (XO (.ref D) (some b) a) ∧ H1 b = some (.xd fs) ∧ fs.lookup f = some v ∧ XfC K D ∧ PySem.W.findIn K (.ref D) f = some none ∧ Q v H1
theorem pe_xa {e : Expr} {te : TE} {f : Str} {pos : Pos} (he : PE X e te) (hb : attributeBase e f X.env (eval e X.env) = eval e X.env := by rfl) : PE X (.Attribute e f pos) (tXA X.K f te) := by
  constructor
  intro pins s σ H Q I h
  refine attr_of hb (thn (he.run pins s σ H _ I h) fun u s1 z => ?_)
  obtain ⟨x, H1, I1, rx, a, D, b, fs, v, rfl, ha, hb, l, C, no, q⟩ := z
  cases (show u = Value.ref a from rx)
  obtain ⟨⟨u, fl, e, z, f⟩, _, _⟩ := I1.hok a _ ha
  obtain ⟨m, ns, rel⟩ := I1.hok b _ hb
  obtain ⟨o, ho, look⟩ := lookIn_ns ns
  have rl := rel ‹Str›
  rw [l] at rl
  obtain ⟨w, mw, rw_⟩ := RelO.some_of rl
  have J : PySem.W.InstAt s1.heap a u D (some o) := ⟨e, z.1, by unfold PySem.W.notCls; rw [f], by rw [z.2]; exact ho⟩
  exact HandSPX.exc_get I1.kIn J C.ga C.gg C.exC (PySem.W.findObj_own C.hdC no rfl (by rw [look, mw])) (handed_of rw_) ⟨v, H1, I1.tok _, rw_, q⟩
end
/-! calls of methods that may let an exception out, at the slots as they stand -/
def tMethX (C : Addr) (m : Str) (sp : Sp) (E : L2.St → XK) (ta : TE) (t : TA) : TE := fun σ H Q => ta σ H fun x H1 => ∃ a dx fs, x = .ref a ∧ H1 a = some (.ins C dx fs) ∧ fs.lookup m = none ∧ t σ H1 fun vs H2 => sp (.ref a :: vs) H2 Q (E σ)
section
variable {X : Cx} {Y : CXT} {k : Nat} {f C : Addr} {fd : FuncData} {ps : List Str} {sp : Sp} {E : L2.St → XK} {x m : Str} {p pos apos : Pos} {e o : Expr} {es : List Expr} {ta : TE} {t : TA} {pl : Sem Bool}
theorem pe_methX (he : PE X o ta) (c : Cls X.K C) (hm : Meth X.K C m f) (F : FnOk X.prog X.w X.K X.mg X.base Y k f fd ps sp) (hr : Room k X.A) (hb : Binds X.K fd ps []) (hx : ∀ σ, PassesAt Y X σ (E σ)) (ha : PA X (e :: es) t)
    (h1 : starEach (e :: es) X.env = (false, eval e X.env) :: starEach es X.env := by rfl) (h2 : (backTo pos (starEach es X.env)).any (·.1) = false := by rfl)
    (h3 : eval (.Call (.Attribute o m apos) (e :: es) [] pos) X.env = (do let v ← eval o X.env; standAt apos.atName; let (g, u) ← holding [v] (getMethod v m pl); callWith pos g u (backTo pos (starEach (e :: es) X.env)) (backToKw pos (keywordEach [] X.env))) := by rfl) :
    PE X (.Call (.Attribute o m apos) (e :: es) [] pos) (tMethX C m sp E ta t) := by
  constructor
  intro pins s σ H Q I h
  refine PySem.W.methodCall_KW (pl := pl) (thn (he.run pins s σ H _ I h) fun u t1 z => ?_) h3
  obtain ⟨y, H1, I1, ry, a, dx, fs, rfl, at_, no, z⟩ := z
  cases (show u = Value.ref a from ry)
  refine getmeth_ok I1 at_ c hm no (PySem.W.callWith_K (first := [.ref a]) (h₀ := X.base) I.ok.mod.kin hm.kp (thn (ha.run pos pins t1 σ H1 _ I1 z) fun us t2 y => ?_) h1 h2)
  obtain ⟨vs, H2, I2, r, q⟩ := y
  exact ⟨I2.kIn, run_fnS (us := .ref a :: us) (vs := .ref a :: vs) F hr hb (hx σ) I2 (.cons rfl r) q⟩
theorem pe_methX0 (he : PE X o ta) (c : Cls X.K C) (hm : Meth X.K C m f) (F : FnOk X.prog X.w X.K X.mg X.base Y k f fd ps sp) (hr : Room k X.A) (hb : Binds X.K fd ps []) (hx : ∀ σ, PassesAt Y X σ (E σ))
    (h3 : eval (.Call (.Attribute o m apos) [] [] pos) X.env = (do let v ← eval o X.env; standAt apos.atName; let (g, u) ← holding [v] (getMethod v m pl); callWith pos g u (backTo pos (starEach [] X.env)) (backToKw pos (keywordEach [] X.env))) := by rfl) :
    PE X (.Call (.Attribute o m apos) [] [] pos) (tMethX C m sp E ta tNil) := by
  constructor
  intro pins s σ H Q I h
  refine PySem.W.methodCall_KW (pl := pl) (thn (he.run pins s σ H _ I h) fun u t1 z => ?_) h3
  obtain ⟨y, H1, I1, ry, a, dx, fs, rfl, at_, no, z⟩ := z
  cases (show u = Value.ref a from ry)
  exact getmeth_ok I1 at_ c hm no (PySem.W.callWith_K0 (first := [.ref a]) I1.kIn hm.kp (run_fnS (us := [.ref a]) (vs := [.ref a]) F hr hb (hx σ) I1 (.cons rfl .nil) z))
theorem pe_callX0 (F : FnOk X.prog X.w X.K X.mg X.base Y k f fd ps sp) (hr : Room k X.A) (hg : Gl X x) (hm : X.mg x = some (.ref f)) (hk : PySem.W.keepIn X.K (.ref f) = true) (hb : Binds X.K fd ps []) (hx : ∀ σ, PassesAt Y X σ (E σ))
    (hd : (x == ("__debug__" : Str)) = false := by decide) : PE X (.Call (.Name x p) [] [] pos) (tCallS sp E tNil) := by
  constructor
  intro pins s σ H Q I h
  exact wpAny_Call_Name_kw (ld_glob I hg hm (PySem.W.callWith_K0 I.kIn hk (run_fnS (us := []) F hr hb (hx σ) I .nil h)) hd)
end
/-! steps -/
section
variable {K : PySem.W.Frag} {σ : L2.St} {H : Hp} {Q : VK} {ta te : TE} {tr t : TA} {sp : Sp} {E : L2.St → XK} {a b C D dx : Addr} {d : Option Addr} {fs : List (Str × V)} {f m : Str} {v c : V} {cv : Value} {yn : Bool} {cs : List V} {cvs : List Value} {W : WX}
theorem s_callS (z : t σ H fun vs H1 => sp vs H1 Q (E σ)) : tCallS sp E t σ H Q := z
theorem s_methX (hv : ∀ R : VK, R (.ref a) H → ta σ H R) (h : H a = some (.ins C dx fs)) (hm : fs.lookup m = none) (z : tr σ H fun vs H2 => sp (.ref a :: vs) H2 Q (E σ)) : tMethX C m sp E ta tr σ H Q := hv _ ⟨a, dx, fs, rfl, h, hm, z⟩
theorem s_isX (h : H a = some (XO (.ref D) d a)) (hd : XD H d) (C : ExcC K D) (hc : ClsV c cv) (e : PySem.W.kitOne K (.ref D) cv = some yn) (z : Q (.bl yn) H) : rIsX K [.ref a, c] H Q := ⟨a, D, d, c, cv, yn, rfl, h, hd, C, hc, e, z⟩
theorem s_isXT (h : H a = some (XO (.ref D) d a)) (hd : XD H d) (C : ExcC K D) (ht : H b = some (.tup cs)) (hc : Paired ClsV cs cvs) (e : PySem.W.kitAny K (.ref D) cvs = some yn) (z : Q (.bl yn) H) : rIsXT K [.ref a, .ref b] H Q := ⟨a, D, d, b, cs, cvs, yn, rfl, h, hd, C, ht, hc, e, z⟩
theorem s_xa (h : H a = some (XO (.ref D) (some b) a)) (hb : H b = some (.xd fs)) (l : fs.lookup f = some v) (C : XfC K D) (no : PySem.W.findIn K (.ref D) f = some none) (hv : ∀ R : VK, R (.ref a) H → te σ H R) (z : Q v H) : tXA K f te σ H Q :=
  hv _ ⟨a, D, b, fs, v, rfl, h, hb, l, C, no, z⟩
end
/-- a class of which none of some is an ancestor -/
theorem kitNone {K : PySem.W.Frag} {t : Value} : ∀ {cs : List Value}, (∀ c ∈ cs, PySem.W.kitOne K t c = some false) → PySem.W.kitAny K t cs = some false
  | [], _ => rfl
  | c :: cs, h => by
    unfold PySem.W.kitAny
    rw [h c List.mem_cons_self]
    exact kitNone fun z hz => h z (List.mem_cons_of_mem _ hz)
theorem own_all : ∀ l : List Addr, Paired ClsV (l.map V.ref) (l.map Value.ref)
  | [] => .nil
  | a :: l => .cons (.own a) (own_all l)
theorem kit_own {K : PySem.W.Frag} {D C : Addr} {yn : Bool} (hne : yn = false → D ≠ C) (hd : PySem.W.hasDictIn K C = true) (ht : PySem.W.typeIn K (.ref C) = some (.type "type")) (hs : PySem.W.subIn K (.ref D) (.ref C) = some yn) : PySem.W.kitOne K (.ref D) (.ref C) = some yn := by
  unfold PySem.W.kitOne
  by_cases e : D = C
  · rw [if_pos (by rw [e]; simp)]
    cases yn with
    | true => rfl
    | false => exact absurd e (hne rfl)
  · rw [if_neg (by simpa using e)]
    obtain ⟨cd, hc, _⟩ := PySem.W.any_some hd
    show (if _ then PySem.W.subIn K (.ref D) (.ref C) else none) = _
    rw [if_pos (by rw [hc, ht]; rfl)]
    exact hs
/-! one of several readings -/
def tEi (t u : TE) : TE := fun σ H Q => t σ H Q ∨ u σ H Q
theorem pe_ei {X : Cx} {e : Expr} {t u : TE} (h1 : PE X e t) (h2 : PE X e u) : PE X e (tEi t u) := ⟨fun pins s σ H Q I h => h.elim (h1.run pins s σ H Q I) (h2.run pins s σ H Q I)⟩
section
variable {K : PySem.W.Frag} {σ : L2.St} {H : Hp} {Q : VK} {t u te to : TE} {a p C dx : Addr} {fs : List (Str × V)} {cv : Value} {yn : Bool} {z : Str} {xs : List V} {ys : List Str}
theorem s_ei1 (h : t σ H Q) : tEi t u σ H Q := .inl h
theorem s_ei2 (h : u σ H Q) : tEi t u σ H Q := .inr h
theorem s_isiO (h : H p = some (.ins C dx fs)) (c : Cls K C) (ha : PySem.W.findIn K (.ref C) "__class__" = some (some (.builtin "object.__class__"))) (hn : PySem.W.specialIn K (.builtin "object.__class__") "__get__" = some (some (.builtin "getset_descriptor.__get__")))
    (ht : PySem.W.takesIn K (.builtin "object.__class__") = some true) (hm : PySem.W.mroIn K C (.type "object") = some true) {D : Addr} (e : PySem.W.kitOne K (.ref C) (.ref D) = some yn) (k : Q (.bl yn) H) : rIsi K [.ref p, .ref D] H Q :=
  ⟨_, _, _, _, yn, rfl, .own D, .base (.ins h c ha hn ht hm), e, k⟩
end
/-! join -/
def rJoin (K : PySem.W.Frag) : V → List V → Hp → VK → Prop := fun x xs H Q => ∃ a p, ∃ ys : List Str, x = .str a ∧ xs = [.ref p] ∧ (SqL K H p (ys.map V.str) ∨ SqT K H p (ys.map V.str)) ∧ (ys.map (·.length)).sum + ys.length * a.length ≤ 16777216 ∧ Q (.str (Txt.join a ys)) H
theorem mt_joinS {X : Cx} : MtR X "str.join" (rJoin X.K) := mt_join
theorem s_tM1 {σ : L2.St} {H : Hp} {Q : VK} {to te : TE} {r : V → List V → Hp → VK → Prop} {a : Str} (hv : ∀ R : VK, R (.str a) H → to σ H R) (z : te σ H fun y H2 => r (.str a) [y] H2 Q) : tM1 r to te σ H Q := hv _ ⟨⟨a, rfl⟩, z⟩
theorem s_join {K : PySem.W.Frag} {H : Hp} {Q : VK} {a : Str} {p : Addr} {ys : List Str} (h : SqL K H p (ys.map V.str)) (hl : (ys.map (·.length)).sum + ys.length * a.length ≤ 16777216) (z : ∀ w, w = Txt.join a ys → Q (.str w) H) : rJoin K (.str a) [.ref p] H Q := ⟨a, p, ys, rfl, rfl, .inl h, hl, z _ rfl⟩
theorem sum_le {m : Nat} : ∀ l : List Nat, (∀ x ∈ l, x ≤ m) → l.sum ≤ m * l.length
  | [], _ => by simp
  | x :: l, h => by
    have h1 := h x List.mem_cons_self
    have h2 := sum_le l fun y hy => h y (List.mem_cons_of_mem _ hy)
    rw [List.sum_cons, List.length_cons, Nat.mul_succ]
    omega
theorem s_outN {i : Nat} {a : Addr} {cls : Value} {d : Option Addr} {nx bk ct : L2.St → Hp → Prop} {rt : VK} {σ : L2.St} {H : Hp} (z : nx (σ.set i none) (upd H a (XO cls d a))) : (outE i a cls d ⟨nx, rt, bk, ct⟩).nx σ H := z
/-- an if whose test makes objects; the ways are joined -/
theorem s_ifKh {nx bk ct : L2.St → Hp → Prop} {rt : VK} {tt : TT} {ts tu : TS} {P : Prop} {σ : L2.St} {H : Hp} (M : L2.St → Hp → Prop) (ht : ∀ T : Bool → Hp → Prop, (∀ H', Same H H' → P → T true H') → (∀ H', Same H H' → ¬ P → T false H') → tt σ H T)
    (h1 : P → ∀ (H1 : Hp) (N : L2.St → Hp → Prop), Same H H1 → (∀ σ' H', M σ' H' → N σ' H') → ts ⟨N, rt, bk, ct⟩ σ H1) (h2 : ¬ P → ∀ (H1 : Hp) (N : L2.St → Hp → Prop), Same H H1 → (∀ σ' H', M σ' H' → N σ' H') → tu ⟨N, rt, bk, ct⟩ σ H1) (z : ∀ σ' H', M σ' H' → nx σ' H') : tIfK tt ts tu ⟨nx, rt, bk, ct⟩ σ H :=
  ht _ (fun H1 s hp => s_iteT (h1 hp H1 _ s z)) fun H1 s hp => s_iteF (h2 hp H1 _ s z)
/-! an exception with a field of its own is made -/
theorem oex_heap {H : Hp} {a d : Addr} {o1 o2 o3 o4 : HO} (ha : H a = none) (hd : d ≠ a) : upd (del (upd (upd (upd H a o1) d o2) a o3) a) d o4 = upd H d o4 := by
  funext b
  by_cases h : b = d
  · rw [h, upd_same, upd_same]
  · rw [upd_ne h, upd_ne h]
    by_cases g : b = a
    · rw [g, del_same, ha]
    · rw [del_ne g, upd_ne g, upd_ne h, upd_ne g]
/-- C(v), C's __init__ storing v as f -/
theorem s_mkO {C : Addr} {sp : Sp} {σ : L2.St} {H : Hp} {Q : XK} {t : TA} {f : Str} {v : V} (ht : ∀ R : List V → Hp → Prop, R [v] H → t σ H R)
    (hs : ∀ (a : Addr) (H' : Hp) (Q' : VK), H' a = some (exo a C none) → (∀ dx, H' dx = none → dx ≠ a → Q' .non (upd (upd H' dx (exd dx [(f, v)])) a (exo a C (some dx)))) → sp [.ref a, v] H' Q' (fun _ _ _ => False))
    (z : ∀ d, H d = none → Q (.ref C) (some d) (upd H d (.xd [(f, v)]))) : tMkO C sp [] t σ H Q := by
  refine ht _ ⟨by show 1 ≤ 1000; decide, fun a ha => ?_⟩
  refine hs a _ _ upd_same fun dx nd ne => ⟨rfl, dx, [(f, v)], upd_same, ?_, ?_, ?_⟩
  · rw [upd_ne ne, upd_same]
  · rw [upd_ne ne] at nd; exact nd
  · rw [upd_ne ne] at nd
    rw [oex_heap ha ne]
    exact z dx nd
theorem s_ost {K : PySem.W.Frag} {f : Str} {to te : TE} {nx bk ct : L2.St → Hp → Prop} {rt : VK} {σ : L2.St} {H : Hp} {a C : Addr} {v : V} (he : ∀ R : VK, R v H → te σ H R) (ho : ∀ R : VK, R (.ref a) H → to σ H R) (T : OexC K C) (no : PySem.W.findIn K (.ref C) f = some none) (h : H a = some (exo a C none))
    (z : ∀ dx, H dx = none → dx ≠ a → nx σ (upd (upd H dx (exd dx [(f, v)])) a (exo a C (some dx)))) : tOst K f to te ⟨nx, rt, bk, ct⟩ σ H := he _ (ho _ ⟨a, C, rfl, T, no, .inl ⟨h, z⟩⟩)
end Jl


local macro_rules | `(tactic| walk_at "c") => `(tactic| first
  | exact Jl.c_div (by decide) (by decide)
  | exact Jl.c_mulR (by decide) (by decide)
  | exact Jl.c_mulL (by decide) (by decide)
  | exact Jl.c_pow (by decide) (by decide) (by decide)
  | decide
  | omega
  | decide +kernel
  | assumption
  | exact Jl.c_div (by omega) (by omega)
  | exact Jl.c_mulR (by omega) (by omega)
  | exact Jl.c_mulL (by omega) (by omega))
local macro_rules | `(tactic| walk_at "len") => `(tactic| first
  | omega
  | decide
  | (simp only [Jl.len_app, Jl.len_one]; omega)
  | (refine Nat.le_trans (Jl.len_cut _ _ _) ?_; omega))
local macro_rules | `(tactic| walk_at "d") => `(tactic| first
  | with_reducible refine Jl.s_iteDt (by first | assumption | decide | exact decide_eq_true (by omega) | exact decide_eq_false (by omega) | omega) ?_
  | with_reducible refine Jl.s_iteDf (by first | assumption | decide | exact decide_eq_true (by omega) | exact decide_eq_false (by omega) | omega) ?_
  | with_reducible refine Jl.s_iteNt (by first | assumption | decide | exact decide_eq_true (by omega) | exact decide_eq_false (by omega) | omega) ?_
  | with_reducible refine Jl.s_iteNf (by first | assumption | decide | exact decide_eq_true (by omega) | exact decide_eq_false (by omega) | omega) ?_)
local macro_rules | `(tactic| walk_at "b") => `(tactic| first
  | with_reducible refine Jl.s_iteD (fun _ => ?_) (fun _ => ?_)
  | with_reducible refine Jl.s_iteN (fun _ => ?_) (fun _ => ?_))
local macro_rules | `(tactic| walk_at "s") => `(tactic| first
  | with_reducible refine Jl.s_var (by with_unfolding_all rfl) ?_
  | with_reducible refine Jl.s_c ?_
  | with_reducible refine Jl.s_op ?_
  | with_reducible refine Jl.s_cons ?_
  | with_reducible refine Jl.s_nil ?_
  | with_reducible refine Jl.s_I0 ?_
  | with_reducible refine Jl.s_I (by walk_at "c") ?_
  | with_reducible refine Jl.s_exbl ?_
  | with_reducible refine Jl.s_seq ?_
  | with_reducible refine Jl.s_asg ?_
  | (with_reducible refine Jl.s_name ?_; try simp only [List.set_cons_zero, List.set_cons_succ])
  | with_reducible refine Jl.s_ifS ?_
  | with_reducible refine Jl.s_test ?_
  | with_reducible refine Jl.s_tB ?_
  | with_reducible refine Jl.s_chain ?_
  | with_reducible refine Jl.s_and ?_
  | with_reducible refine Jl.s_or ?_
  | with_reducible refine Jl.s_not ?_
  | with_reducible refine Jl.s_iteT ?_
  | with_reducible refine Jl.s_iteF ?_
  | with_reducible refine Jl.s_iteNT ?_
  | with_reducible refine Jl.s_iteNF ?_
  | with_reducible refine Jl.s_ret ?_
  | with_reducible refine Jl.s_next ?_
  | with_reducible refine Jl.s_call ?_
  | with_reducible refine Jl.s_CB ?_
  | with_reducible refine Jl.s_eqI ?_
  | with_reducible refine Jl.s_neI ?_
  | with_reducible refine Jl.s_eqS ?_
  | with_reducible refine Jl.s_neS ?_
  | with_reducible refine Jl.s_eqB ?_
  | with_reducible refine Jl.s_neB ?_
  | with_reducible refine Jl.s_isB ?_
  | with_reducible refine Jl.s_notB ?_
  | with_reducible refine Jl.s_un ?_
  | with_reducible refine Jl.s_U ?_
  | with_reducible refine Jl.s_andV ?_
  | with_reducible refine Jl.s_orV ?_
  | with_reducible refine Jl.s_notV ?_
  | with_reducible refine Jl.s_ifE ?_
  | with_reducible refine Jl.s_drop ?_
  | with_reducible refine Jl.s_break ?_
  | with_reducible refine Jl.s_cont ?_
  | with_reducible refine Jl.s_isi_ii ?_
  | with_reducible refine Jl.s_isi_ib ?_
  | with_reducible refine Jl.s_isi_bb ?_
  | with_reducible refine Jl.s_isi_bi ?_
  | with_reducible refine Jl.s_isi_ss ?_
  | with_reducible refine Jl.s_BM ?_
  | with_reducible refine Jl.s_tyL (by assumption) ?_
  | with_reducible refine Jl.s_append (by assumption) ?_ ?_
  | with_reducible refine Jl.s_make ?_
  | with_reducible refine Jl.s_meth (by first | assumption | exact Jl.RuleAt.same (by assumption) (by assumption)) (fun R z => Jl.s_var (by with_unfolding_all rfl) z) (by decide +kernel) ?_
  | with_reducible refine Jl.s_addS ?_ (by walk_at "len")
  | with_reducible refine Jl.s_inS ?_
  | with_reducible refine Jl.s_notInS ?_
  | with_reducible refine Jl.s_isNn ?_
  | with_reducible refine Jl.s_isNi ?_
  | with_reducible refine Jl.s_isNs ?_
  | with_reducible refine Jl.s_isNr ?_
  | with_reducible refine Jl.s_notNn ?_
  | with_reducible refine Jl.s_notNi ?_
  | with_reducible refine Jl.s_notNs ?_
  | with_reducible refine Jl.s_notNr ?_
  | with_reducible refine Jl.s_lenS ?_ (by walk_at "len")
  | with_reducible refine Jl.s_lenL (by assumption) ?_
  | with_reducible refine Jl.s_max2 ?_
  | with_reducible refine Jl.s_min2 ?_
  | with_reducible refine Jl.s_int1 ?_
  | with_reducible refine Jl.s_int1b ?_
  | with_reducible refine Jl.s_sl ?_
  | with_reducible refine Jl.s_noP ?_
  | with_reducible refine Jl.s_part ?_
  | with_reducible refine Jl.s_exi ?_
  | with_reducible refine Jl.s_slS ?_ (by walk_at "len")
  | with_reducible refine Jl.s_gTupA (by assumption) (by with_unfolding_all rfl) ?_
  | with_reducible refine Jl.s_gCons ?_
  | with_reducible refine Jl.s_gNil ?_
  | with_reducible refine Jl.s_gSub ?_
  | with_reducible refine Jl.s_tPc ?_
  | with_reducible refine Jl.s_tPn ?_
  | with_reducible refine Jl.s_callS ?_
  | with_reducible refine Jl.s_tup ?_
  | with_reducible refine Jl.s_lst ?_)
local macro_rules | `(tactic| walk_at "same") => `(tactic| first
  | exact L2.Same.refl _
  | assumption
  | (refine L2.Same.trans ?_ (by assumption); walk_at "same"))
local macro_rules | `(tactic| walk_at "w") => `(tactic| repeat walk_at "s")
local macro_rules | `(tactic| walk_at "wd") => `(tactic| repeat (first | walk_at "s" | walk_at "d"))
local macro_rules | `(tactic| walk_at "all") => `(tactic| repeat' (first | walk_at "s" | walk_at "d" | walk_at "b"))
namespace Jw
open PySem L2
def top (i : Nat) : Stmt := PySem.Challenge.pw_joinload_k09_rules_by_titles.main.body.getD i (.Pass ⟨0, 0, 0, 0⟩)
abbrev s_Rule___init__ : Stmt := inClass (top 18) 0
abbrev N_Rule___init__ : List Str := ["self", "title"]
theorem sc_Rule___init__ : FnScope N_Rule___init__ ["self", "title"] (defScope s_Rule___init__) := ⟨rfl, rfl, rfl, by decide +kernel, rfl, by decide +kernel, by decide +kernel⟩
abbrev s_Rule_leans : Stmt := inClass (top 18) 4
abbrev N_Rule_leans : List Str := ["self"]
theorem sc_Rule_leans : FnScope N_Rule_leans ["self"] (defScope s_Rule_leans) := ⟨rfl, rfl, rfl, by decide +kernel, rfl, by decide +kernel, by decide +kernel⟩
abbrev s_NearRule_leans : Stmt := inClass (top 21) 3
abbrev N_NearRule_leans : List Str := ["self"]
theorem sc_NearRule_leans : FnScope N_NearRule_leans ["self"] (defScope s_NearRule_leans) := ⟨rfl, rfl, rfl, by decide +kernel, rfl, by decide +kernel, by decide +kernel⟩
abbrev s_SplitRule_leans : Stmt := inClass (top 22) 3
abbrev N_SplitRule_leans : List Str := ["self"]
theorem sc_SplitRule_leans : FnScope N_SplitRule_leans ["self"] (defScope s_SplitRule_leans) := ⟨rfl, rfl, rfl, by decide +kernel, rfl, by decide +kernel, by decide +kernel⟩
abbrev s_rule_of : Stmt := top 23
abbrev N_rule_of : List Str := ["title"]
theorem sc_rule_of : FnScope N_rule_of ["title"] (defScope s_rule_of) := ⟨rfl, rfl, rfl, by decide +kernel, rfl, by decide +kernel, by decide +kernel⟩
abbrev s_law_sign_by : Stmt := top 25
abbrev N_law_sign_by : List Str := ["_law_cell", "_law_some"]
theorem sc_law_sign_by : FnScope N_law_sign_by ["_law_cell"] (defScope s_law_sign_by) := ⟨rfl, rfl, rfl, by decide +kernel, rfl, by decide +kernel, by decide +kernel⟩
abbrev s_law_title : Stmt := top 26
abbrev N_law_title : List Str := ["_law_cell"]
theorem sc_law_title : FnScope N_law_title ["_law_cell"] (defScope s_law_title) := ⟨rfl, rfl, rfl, by decide +kernel, rfl, by decide +kernel, by decide +kernel⟩
abbrev s_law_text_by : Stmt := top 27
abbrev N_law_text_by : List Str := ["_law_cell", "_law_other", "_law_text", "_law_way", "_law_at", "_law_sign", "_law_k"]
theorem sc_law_text_by : FnScope N_law_text_by ["_law_cell", "_law_other"] (defScope s_law_text_by) := ⟨rfl, rfl, rfl, by decide +kernel, rfl, by decide +kernel, by decide +kernel⟩
abbrev s_law_told_of : Stmt := top 28
abbrev N_law_told_of : List Str := ["_law_text", "_law_told", "e"]
theorem sc_law_told_of : FnScope N_law_told_of ["_law_text"] (defScope s_law_told_of) := ⟨rfl, rfl, rfl, by decide +kernel, rfl, by decide +kernel, by decide +kernel⟩
abbrev s_law_refused : Stmt := top 29
abbrev N_law_refused : List Str := ["_law_told"]
theorem sc_law_refused : FnScope N_law_refused ["_law_told"] (defScope s_law_refused) := ⟨rfl, rfl, rfl, by decide +kernel, rfl, by decide +kernel, by decide +kernel⟩
abbrev s_law_holds : Stmt := top 30
abbrev N_law_holds : List Str := ["_law_cell", "_law_other", "_law_text", "_law_rule"]
theorem sc_law_holds : FnScope N_law_holds ["_law_cell", "_law_other"] (defScope s_law_holds) := ⟨rfl, rfl, rfl, by decide +kernel, rfl, by decide +kernel, by decide +kernel⟩
abbrev s_law : Stmt := top 31
abbrev N_law : List Str := ["_law_script", "_law_cells", "_law_k"]
theorem sc_law : FnScope N_law ["_law_script"] (defScope s_law) := ⟨rfl, rfl, rfl, by decide +kernel, rfl, by decide +kernel, by decide +kernel⟩
structure Txt (K : PySem.W.Frag) (mg : Str → Option Value) where
  a_Rule___init__ : Addr
  d_Rule___init__ : FuncData
  F_Rule___init__ : Fun K "__init__" "Rule.__init__" s_Rule___init__ a_Rule___init__ d_Rule___init__
  b_Rule___init__ : Binds K d_Rule___init__ ["self", "title"] []
  a_Rule_leans : Addr
  d_Rule_leans : FuncData
  F_Rule_leans : Fun K "leans" "Rule.leans" s_Rule_leans a_Rule_leans d_Rule_leans
  b_Rule_leans : Binds K d_Rule_leans ["self"] []
  a_NearRule_leans : Addr
  d_NearRule_leans : FuncData
  F_NearRule_leans : Fun K "leans" "NearRule.leans" s_NearRule_leans a_NearRule_leans d_NearRule_leans
  b_NearRule_leans : Binds K d_NearRule_leans ["self"] []
  a_SplitRule_leans : Addr
  d_SplitRule_leans : FuncData
  F_SplitRule_leans : Fun K "leans" "SplitRule.leans" s_SplitRule_leans a_SplitRule_leans d_SplitRule_leans
  b_SplitRule_leans : Binds K d_SplitRule_leans ["self"] []
  a_rule_of : Addr
  d_rule_of : FuncData
  F_rule_of : Fun K "rule_of" "rule_of" s_rule_of a_rule_of d_rule_of
  b_rule_of : Binds K d_rule_of ["title"] []
  m_rule_of : mg "rule_of" = some (.ref a_rule_of)
  a_law_sign_by : Addr
  d_law_sign_by : FuncData
  F_law_sign_by : Fun K "_law_sign_by" "_law_sign_by" s_law_sign_by a_law_sign_by d_law_sign_by
  b_law_sign_by : Binds K d_law_sign_by ["_law_cell"] []
  m_law_sign_by : mg "_law_sign_by" = some (.ref a_law_sign_by)
  a_law_title : Addr
  d_law_title : FuncData
  F_law_title : Fun K "_law_title" "_law_title" s_law_title a_law_title d_law_title
  b_law_title : Binds K d_law_title ["_law_cell"] []
  m_law_title : mg "_law_title" = some (.ref a_law_title)
  a_law_text_by : Addr
  d_law_text_by : FuncData
  F_law_text_by : Fun K "_law_text_by" "_law_text_by" s_law_text_by a_law_text_by d_law_text_by
  b_law_text_by : Binds K d_law_text_by ["_law_cell", "_law_other"] []
  m_law_text_by : mg "_law_text_by" = some (.ref a_law_text_by)
  a_law_told_of : Addr
  d_law_told_of : FuncData
  F_law_told_of : Fun K "_law_told_of" "_law_told_of" s_law_told_of a_law_told_of d_law_told_of
  b_law_told_of : Binds K d_law_told_of ["_law_text"] []
  m_law_told_of : mg "_law_told_of" = some (.ref a_law_told_of)
  a_law_refused : Addr
  d_law_refused : FuncData
  F_law_refused : Fun K "_law_refused" "_law_refused" s_law_refused a_law_refused d_law_refused
  b_law_refused : Binds K d_law_refused ["_law_told"] []
  m_law_refused : mg "_law_refused" = some (.ref a_law_refused)
  a_law_holds : Addr
  d_law_holds : FuncData
  F_law_holds : Fun K "_law_holds" "_law_holds" s_law_holds a_law_holds d_law_holds
  b_law_holds : Binds K d_law_holds ["_law_cell", "_law_other"] []
  m_law_holds : mg "_law_holds" = some (.ref a_law_holds)
  a_law : Addr
  d_law : FuncData
  F_law : Fun K "law" "law" s_law a_law d_law
  b_law : Binds K d_law ["_law_script"] []
  m_law : mg "law" = some (.ref a_law)
  a_Rule : Addr
  c_Rule : Cls K a_Rule
  g_Rule : mg "Rule" = some (.ref a_Rule)
  k_Rule : Mk K a_Rule a_Rule___init__
  na_Rule_title : NoAttr K a_Rule "title"
  me_Rule_leans : Meth K a_Rule "leans" a_Rule_leans
  a_HighRule : Addr
  c_HighRule : Cls K a_HighRule
  g_HighRule : mg "HighRule" = some (.ref a_HighRule)
  k_HighRule : Mk K a_HighRule a_Rule___init__
  na_HighRule_title : NoAttr K a_HighRule "title"
  me_HighRule_leans : Meth K a_HighRule "leans" a_Rule_leans
  a_LowRule : Addr
  c_LowRule : Cls K a_LowRule
  g_LowRule : mg "LowRule" = some (.ref a_LowRule)
  k_LowRule : Mk K a_LowRule a_Rule___init__
  na_LowRule_title : NoAttr K a_LowRule "title"
  me_LowRule_leans : Meth K a_LowRule "leans" a_Rule_leans
  a_NearRule : Addr
  c_NearRule : Cls K a_NearRule
  g_NearRule : mg "NearRule" = some (.ref a_NearRule)
  k_NearRule : Mk K a_NearRule a_Rule___init__
  na_NearRule_title : NoAttr K a_NearRule "title"
  me_NearRule_leans : Meth K a_NearRule "leans" a_NearRule_leans
  a_SplitRule : Addr
  c_SplitRule : Cls K a_SplitRule
  g_SplitRule : mg "SplitRule" = some (.ref a_SplitRule)
  k_SplitRule : Mk K a_SplitRule a_Rule___init__
  na_SplitRule_title : NoAttr K a_SplitRule "title"
  me_SplitRule_leans : Meth K a_SplitRule "leans" a_SplitRule_leans
  a_JoinError : Addr
  g_JoinError : mg "JoinError" = some (.ref a_JoinError)
  a_NoRule : Addr
  g_NoRule : mg "NoRule" = some (.ref a_NoRule)
  a_NoPiece : Addr
  g_NoPiece : mg "NoPiece" = some (.ref a_NoPiece)
  a_Twice : Addr
  g_Twice : mg "Twice" = some (.ref a_Twice)
  a_SameName : Addr
  g_SameName : mg "SameName" = some (.ref a_SameName)
  a_Unmet : Addr
  g_Unmet : mg "Unmet" = some (.ref a_Unmet)
  a_TooFar : Addr
  g_TooFar : mg "TooFar" = some (.ref a_TooFar)
  a_NoWhole : Addr
  g_NoWhole : mg "NoWhole" = some (.ref a_NoWhole)
  a_NoBase : Addr
  g_NoBase : mg "NoBase" = some (.ref a_NoBase)
  a_Lost : Addr
  g_Lost : mg "Lost" = some (.ref a_Lost)
  a_NoSense : Addr
  g_NoSense : mg "NoSense" = some (.ref a_NoSense)
  en : PySem.W.specialIn K (.builtin "object.__class__") "__get__" = some (some (.builtin "getset_descriptor.__get__"))
  et : PySem.W.takesIn K (.builtin "object.__class__") = some true
  ea_Rule : PySem.W.findIn K (.ref a_Rule) "__class__" = some (some (.builtin "object.__class__"))
  em_Rule : PySem.W.mroIn K a_Rule (.type "object") = some true
  kit_Rule_Rule : PySem.W.kitOne K (.ref a_Rule) (.ref a_Rule) = some true
  ea_HighRule : PySem.W.findIn K (.ref a_HighRule) "__class__" = some (some (.builtin "object.__class__"))
  em_HighRule : PySem.W.mroIn K a_HighRule (.type "object") = some true
  kit_HighRule_Rule : PySem.W.kitOne K (.ref a_HighRule) (.ref a_Rule) = some true
  ea_LowRule : PySem.W.findIn K (.ref a_LowRule) "__class__" = some (some (.builtin "object.__class__"))
  em_LowRule : PySem.W.mroIn K a_LowRule (.type "object") = some true
  kit_LowRule_Rule : PySem.W.kitOne K (.ref a_LowRule) (.ref a_Rule) = some true
  ea_NearRule : PySem.W.findIn K (.ref a_NearRule) "__class__" = some (some (.builtin "object.__class__"))
  em_NearRule : PySem.W.mroIn K a_NearRule (.type "object") = some true
  kit_NearRule_Rule : PySem.W.kitOne K (.ref a_NearRule) (.ref a_Rule) = some true
  ea_SplitRule : PySem.W.findIn K (.ref a_SplitRule) "__class__" = some (some (.builtin "object.__class__"))
  em_SplitRule : PySem.W.mroIn K a_SplitRule (.type "object") = some true
  kit_SplitRule_Rule : PySem.W.kitOne K (.ref a_SplitRule) (.ref a_Rule) = some true
  be_NoRule : PySem.W.subIn K (.ref a_NoRule) (.type "BaseException") = some true
  ty_NoRule : PySem.W.typeIn K (.ref a_NoRule) = some (.type "type")
  kc_NoRule : PySem.W.keepIn K (.ref a_NoRule) = true
  ec_NoRule : L2.ExcC K a_NoRule
  ve_NoRule : PySem.W.kitOne K (.ref a_NoRule) (.type "ValueError") = some true
  x_NoRule : PySem.W.excIn K a_NoRule [.type "ValueError", .type "Exception", .type "BaseException", .type "object"] "ValueError.__new__" = true
  kit_NoRule_JoinError : PySem.W.kitOne K (.ref a_NoRule) (.ref a_JoinError) = some true
  kit_NoRule_NoRule : PySem.W.kitOne K (.ref a_NoRule) (.ref a_NoRule) = some true
  kit_NoRule_NoPiece : PySem.W.kitOne K (.ref a_NoRule) (.ref a_NoPiece) = some false
  kit_NoRule_Twice : PySem.W.kitOne K (.ref a_NoRule) (.ref a_Twice) = some false
  kit_NoRule_SameName : PySem.W.kitOne K (.ref a_NoRule) (.ref a_SameName) = some false
  kit_NoRule_Unmet : PySem.W.kitOne K (.ref a_NoRule) (.ref a_Unmet) = some false
  kit_NoRule_TooFar : PySem.W.kitOne K (.ref a_NoRule) (.ref a_TooFar) = some false
  kit_NoRule_NoWhole : PySem.W.kitOne K (.ref a_NoRule) (.ref a_NoWhole) = some false
  kit_NoRule_NoBase : PySem.W.kitOne K (.ref a_NoRule) (.ref a_NoBase) = some false
  kit_NoRule_Lost : PySem.W.kitOne K (.ref a_NoRule) (.ref a_Lost) = some false
  kit_NoRule_NoSense : PySem.W.kitOne K (.ref a_NoRule) (.ref a_NoSense) = some false
  exm_NoRule : PySem.W.exmOne K (.ref a_NoRule) (.ref a_JoinError) = some true
  n_ValueError : mg "ValueError" = none
  n_isinstance : mg "isinstance" = none
  n_len : mg "len" = none
  n_range : mg "range" = none
  n_str : mg "str" = none
section
variable {P : Program} {w : World} {K : PySem.W.Frag} {mg : Str → Option Value} {base : Heap}
/-! ### Rule.__init__ -/
def sp_Rule___init__ (K : PySem.W.Frag) : Sp := fun vs H Q _ => ∃ (p C dx : Addr) (t : Str), vs = [.ref p, .str t] ∧ H p = some (.ins C dx []) ∧ Cls K C ∧ NoAttr K C "title" ∧ Q .non (upd H p (.ins C dx (putF "title" (.str t) [])))
theorem ok_Rule___init__ (T : Txt K mg) : FnOk P w K mg base CX0 1 T.a_Rule___init__ T.d_Rule___init__ ["self", "title"] (sp_Rule___init__ K) := by
  refine T.F_Rule___init__.ok sc_Rule___init__ (fun vs H Q E h => ?_) (fun cdv A outer s H vs Q E hr h => ?_)
  · obtain ⟨p, C, dx, t, rfl, hp, hc, hn, k⟩ := h
    rfl
  · obtain ⟨p, C, dx, t, rfl, hp, hc, hn, k⟩ := h
    have hu := hu_of hr
    refine ⟨_, (pss_one (ps_fld (pv 0) (pv 1) rfl)), ?_⟩
    show (_ : TS) _ [some (.ref p), some (.str t)] H
    refine ⟨_, rfl, _, rfl, p, C, dx, [], rfl, hp, hc, hn, (by decide), ?_⟩
    exact k
/-! ### Rule.leans -/
def sp_Rule_leans : Sp := fun vs H Q _ => ∃ x0 : V, vs = [x0] ∧ Q (.bl true) H
theorem use_Rule_leans {x0 : V} {H : Hp} {Q : VK} {E : XK} (z : Q (.bl true) H) : sp_Rule_leans [x0] H Q E := ⟨x0, rfl, z⟩
local macro_rules | `(tactic| walk_at "s") => `(tactic| (with_reducible refine use_Rule_leans ?_))
theorem ok_Rule_leans (T : Txt K mg) : FnOk P w K mg base CX0 1 T.a_Rule_leans T.d_Rule_leans ["self"] (sp_Rule_leans) := by
  refine T.F_Rule_leans.ok sc_Rule_leans (fun vs H Q E h => ?_) (fun cdv A outer s H vs Q E hr h => ?_)
  · obtain ⟨x0, rfl, k⟩ := h
    rfl
  · obtain ⟨x0, rfl, k⟩ := h
    have hu := hu_of hr
    refine ⟨_, (pss_one (ps_ret pe_bl)), ?_⟩
    show (_ : TS) _ [some (x0)] H
    walk_at "w"
    exact k
/-! ### NearRule.leans -/
def sp_NearRule_leans : Sp := fun vs H Q _ => ∃ x0 : V, vs = [x0] ∧ Q (.bl false) H
theorem use_NearRule_leans {x0 : V} {H : Hp} {Q : VK} {E : XK} (z : Q (.bl false) H) : sp_NearRule_leans [x0] H Q E := ⟨x0, rfl, z⟩
local macro_rules | `(tactic| walk_at "s") => `(tactic| (with_reducible refine use_NearRule_leans ?_))
theorem ok_NearRule_leans (T : Txt K mg) : FnOk P w K mg base CX0 1 T.a_NearRule_leans T.d_NearRule_leans ["self"] (sp_NearRule_leans) := by
  refine T.F_NearRule_leans.ok sc_NearRule_leans (fun vs H Q E h => ?_) (fun cdv A outer s H vs Q E hr h => ?_)
  · obtain ⟨x0, rfl, k⟩ := h
    rfl
  · obtain ⟨x0, rfl, k⟩ := h
    have hu := hu_of hr
    refine ⟨_, (pss_one (ps_ret pe_bl)), ?_⟩
    show (_ : TS) _ [some (x0)] H
    walk_at "w"
    exact k
/-! ### SplitRule.leans -/
def sp_SplitRule_leans : Sp := fun vs H Q _ => ∃ x0 : V, vs = [x0] ∧ Q (.bl false) H
theorem use_SplitRule_leans {x0 : V} {H : Hp} {Q : VK} {E : XK} (z : Q (.bl false) H) : sp_SplitRule_leans [x0] H Q E := ⟨x0, rfl, z⟩
local macro_rules | `(tactic| walk_at "s") => `(tactic| (with_reducible refine use_SplitRule_leans ?_))
theorem ok_SplitRule_leans (T : Txt K mg) : FnOk P w K mg base CX0 1 T.a_SplitRule_leans T.d_SplitRule_leans ["self"] (sp_SplitRule_leans) := by
  refine T.F_SplitRule_leans.ok sc_SplitRule_leans (fun vs H Q E h => ?_) (fun cdv A outer s H vs Q E hr h => ?_)
  · obtain ⟨x0, rfl, k⟩ := h
    rfl
  · obtain ⟨x0, rfl, k⟩ := h
    have hu := hu_of hr
    refine ⟨_, (pss_one (ps_ret pe_bl)), ?_⟩
    show (_ : TS) _ [some (x0)] H
    walk_at "w"
    exact k
/-! ### rule_of -/
def sp_rule_of (T : Txt K mg) : Sp := fun vs H Q E => ∃ (t : Str), vs = [.str t] ∧ ((∃ C : Addr, ((t = "whole" ∧ C = T.a_Rule) ∨ (t = "high" ∧ C = T.a_HighRule) ∨ (t = "low" ∧ C = T.a_LowRule) ∨ (t = "near" ∧ C = T.a_NearRule) ∨ (t = "split" ∧ C = T.a_SplitRule)) ∧ ∀ p H', Same H H' → H p = none → Jl.RuleAt H' p C t → Q (.ref p) H') ∨ ((¬ t = "whole" ∧ ¬ t = "high" ∧ ¬ t = "low" ∧ ¬ t = "near" ∧ ¬ t = "split") ∧ E (.ref T.a_NoRule) none H))
theorem use_rule_no {T : Txt K mg} {t : Str} {H : Hp} {Q : VK} {E : XK} (h : (¬ t = "whole" ∧ ¬ t = "high" ∧ ¬ t = "low" ∧ ¬ t = "near" ∧ ¬ t = "split")) (z : E (.ref T.a_NoRule) none H) : sp_rule_of T [.str t] H Q E := ⟨t, rfl, .inr ⟨h, z⟩⟩
theorem use_rule {T : Txt K mg} {t : Str} {C : Addr} {H : Hp} {Q : VK} {E : XK} (h : ((t = "whole" ∧ C = T.a_Rule) ∨ (t = "high" ∧ C = T.a_HighRule) ∨ (t = "low" ∧ C = T.a_LowRule) ∨ (t = "near" ∧ C = T.a_NearRule) ∨ (t = "split" ∧ C = T.a_SplitRule))) (z : ∀ p H', Same H H' → H p = none → Jl.RuleAt H' p C t → Q (.ref p) H') : sp_rule_of T [.str t] H Q E := ⟨t, rfl, .inl ⟨C, h, z⟩⟩
theorem ok_rule_of (T : Txt K mg) : FnOk P w K mg base (L2.CX P w) 3 T.a_rule_of T.d_rule_of ["title"] (sp_rule_of T) := by
  have G_Rule___init__ := ok_Rule___init__ (P := P) (w := w) (base := base) T
  refine T.F_rule_of.okX sc_rule_of (fun vs H Q E h => ?_) (fun cdv A outer s H vs Q E hr h => ?_)
  · obtain ⟨t, rfl, k⟩ := h
    rfl
  · obtain ⟨t, rfl, k⟩ := h
    have hu := hu_of hr
    refine ⟨_, (pss_cons (ps_if (pt_cmpR op_eq (pv 0) pe_str (nomark _)) (pss_one (ps_ret (pe_make T.k_Rule (G_Rule___init__) (hr.mono (by decide)) rfl T.g_Rule T.b_Rule___init__ .nil pass0 (pa_cons (pv 0) pa_nil)))) pss_nil)
      (pss_cons (ps_if (pt_cmpR op_eq (pv 0) pe_str (nomark _)) (pss_one (ps_ret (pe_make T.k_HighRule (G_Rule___init__) (hr.mono (by decide)) rfl T.g_HighRule T.b_Rule___init__ .nil pass0 (pa_cons (pv 0) pa_nil)))) pss_nil)
      (pss_cons (ps_if (pt_cmpR op_eq (pv 0) pe_str (nomark _)) (pss_one (ps_ret (pe_make T.k_LowRule (G_Rule___init__) (hr.mono (by decide)) rfl T.g_LowRule T.b_Rule___init__ .nil pass0 (pa_cons (pv 0) pa_nil)))) pss_nil)
      (pss_cons (ps_if (pt_cmpR op_eq (pv 0) pe_str (nomark _)) (pss_one (ps_ret (pe_make T.k_NearRule (G_Rule___init__) (hr.mono (by decide)) rfl T.g_NearRule T.b_Rule___init__ .nil pass0 (pa_cons (pv 0) pa_nil)))) pss_nil)
      (pss_cons (ps_if (pt_cmpR op_eq (pv 0) pe_str (nomark _)) (pss_one (ps_ret (pe_make T.k_SplitRule (G_Rule___init__) (hr.mono (by decide)) rfl T.g_SplitRule T.b_Rule___init__ .nil pass0 (pa_cons (pv 0) pa_nil)))) pss_nil)
      (pss_one (ps_raise rfl (takes_of rfl rfl rfl rfl) (pmk_own PySem.F.excBase_ValueError T.x_NoRule T.g_NoRule T.kc_NoRule (raises_own T.be_NoRule T.ty_NoRule) (by exact rfl))))))))), ?_⟩
    show (_ : TS) _ [some (.str t)] H
    rcases k with ⟨C, ht, k⟩ | ⟨⟨n1, n2, n3, n4, n5⟩, k⟩
    · rcases ht with ⟨rfl, rfl⟩ | ⟨rfl, rfl⟩ | ⟨rfl, rfl⟩ | ⟨rfl, rfl⟩ | ⟨rfl, rfl⟩
      all_goals
        repeat (first | walk_at "s" | with_reducible refine Jl.s_iteDt (by decide +kernel) ?_ | with_reducible refine Jl.s_iteDf (by decide +kernel) ?_)
      · intro x dx nx ndx ne
        exact ⟨x, T.a_Rule, dx, _, rfl, upd_same, T.c_Rule, T.na_Rule_title, rfl, k x _ (Jl.same_made nx ndx) nx ⟨dx, upd_same⟩⟩
      · intro x dx nx ndx ne
        exact ⟨x, T.a_HighRule, dx, _, rfl, upd_same, T.c_HighRule, T.na_HighRule_title, rfl, k x _ (Jl.same_made nx ndx) nx ⟨dx, upd_same⟩⟩
      · intro x dx nx ndx ne
        exact ⟨x, T.a_LowRule, dx, _, rfl, upd_same, T.c_LowRule, T.na_LowRule_title, rfl, k x _ (Jl.same_made nx ndx) nx ⟨dx, upd_same⟩⟩
      · intro x dx nx ndx ne
        exact ⟨x, T.a_NearRule, dx, _, rfl, upd_same, T.c_NearRule, T.na_NearRule_title, rfl, k x _ (Jl.same_made nx ndx) nx ⟨dx, upd_same⟩⟩
      · intro x dx nx ndx ne
        exact ⟨x, T.a_SplitRule, dx, _, rfl, upd_same, T.c_SplitRule, T.na_SplitRule_title, rfl, k x _ (Jl.same_made nx ndx) nx ⟨dx, upd_same⟩⟩
    · walk_at "wd"
      exact k
/-! ### _law_sign_by -/
def signs : Str := (" !\"#$&'()*+,-./0123456789:;<=>?@ABCDEFGHIJKLMNOPQRSTUVWXYZ[\\]^_`" : Str) ++ ("abcdefghijklmnopqrstuvwxyz{|}~\n" : Str)
theorem signs_len : signs.cps.toList.length = 95 := by decide +kernel
def sgnT (c : Int) : Str := ⟨#[signs.cps.toList.getD (c % 95).toNat 0]⟩
def sp_law_sign_by : Sp := fun vs H Q _ => ∃ c : Int, vs = [.int c] ∧ Q (.str (sgnT c)) H
theorem use_sign_by {c : Int} {H : Hp} {Q : VK} {E : XK} (z : Q (.str (sgnT c)) H) : sp_law_sign_by [.int c] H Q E := ⟨c, rfl, z⟩
local macro_rules | `(tactic| walk_at "s") => `(tactic| (with_reducible refine use_sign_by ?_))
theorem ok_law_sign_by (T : Txt K mg) : FnOk P w K mg base CX0 1 T.a_law_sign_by T.d_law_sign_by ["_law_cell"] (sp_law_sign_by) := by
  refine T.F_law_sign_by.ok sc_law_sign_by (fun vs H Q E h => ?_) (fun cdv A outer s H vs Q E hr h => ?_)
  · obtain ⟨c, rfl, k⟩ := h
    rfl
  · obtain ⟨c, rfl, k⟩ := h
    have hu := hu_of hr
    refine ⟨_, (pss_cons (ps_set (i := 1) sc_law_sign_by.nd rfl (Or.inl rfl) pe_str)
      (pss_cons (ps_set (i := 1) sc_law_sign_by.nd rfl (Or.inl rfl) (pe_op Jl.op_addS (pv 1) pe_str))
      (pss_one (ps_ret (pe_ix ix_str (pv 1) (pe_op op_mod (pv 0) pe_int) (fun _ _ => rfl)))))), ?_⟩
    show (_ : TS) _ [some (.int c), none] H
    walk_at "w"
    show rIxS (.str signs) _ _ _
    have hc : 0 ≤ c % 95 ∧ c % 95 < 95 := by omega
    refine Jl.s_ixS (c := signs.cps.toList.getD (c % 95).toNat 0) ?_ k (by decide +kernel)
    have hi : (c % 95).toNat < signs.cps.toList.length := by rw [signs_len]; omega
    unfold atI ixN
    rw [if_pos hc.1, if_pos (by rw [signs_len]; omega)]
    show signs.cps.toList[(c % 95).toNat]? = _
    rw [List.getD_eq_getElem?_getD, List.getElem?_eq_getElem hi]; rfl
/-! ### _law_title -/
def ttl (c : Int) : Str := if c % 5 = 0 then "whole" else if c % 5 = 1 then "high" else if c % 5 = 2 then "low" else if c % 5 = 3 then "near" else "split"
def sp_law_title (K : PySem.W.Frag) : Sp := fun vs H Q _ => ∃ c : Int, vs = [.int c] ∧ ∀ H', Same H H' → Q (.str (ttl c)) H'
theorem use_title {K : PySem.W.Frag} {c : Int} {H : Hp} {Q : VK} {E : XK} (z : ∀ H', Same H H' → Q (.str (ttl c)) H') : sp_law_title K [.int c] H Q E := ⟨c, rfl, z⟩
local macro_rules | `(tactic| walk_at "s") => `(tactic| (with_reducible refine use_title (fun H' s1 => ?_)))
theorem ok_law_title (T : Txt K mg) : FnOk P w K mg base CX0 1 T.a_law_title T.d_law_title ["_law_cell"] (sp_law_title K) := by
  refine T.F_law_title.ok sc_law_title (fun vs H Q E h => ?_) (fun cdv A outer s H vs Q E hr h => ?_)
  · obtain ⟨c, rfl, k⟩ := h
    rfl
  · obtain ⟨c, rfl, k⟩ := h
    have hu := hu_of hr
    refine ⟨_, (pss_one (ps_ret (pe_ix (r := rIxL K) ix_list (pe_lst (pa_cons pe_str (pa_cons pe_str (pa_cons pe_str (pa_cons pe_str (pa_cons pe_str pa_nil)))))) (pe_op op_mod (pv 0) pe_int) (fun _ _ => rfl)))), ?_⟩
    show (_ : TS) _ [some (.int c)] H
    walk_at "w"
    refine ⟨(by show 5 ≤ sizeLine; decide), fun p np => ?_⟩
    walk_at "w"
    have kk := k _ (Jl.same_upd (o := .lst [.str "whole", .str "high", .str "low", .str "near", .str "split"]) np)
    unfold ttl at kk
    have hc : c % 5 = 0 ∨ c % 5 = 1 ∨ c % 5 = 2 ∨ c % 5 = 3 ∨ c % 5 = 4 := by omega
    rcases hc with e | e | e | e | e
    all_goals
      rw [e] at kk ⊢
      refine Jl.s_ixL Jl.sqU rfl ?_
      exact kk
/-! ### _law_text_by -/
theorem ttl_len (c : Int) : (ttl c).length ≤ 5 := by
  unfold ttl
  split
  · decide +kernel
  split
  · decide +kernel
  split
  · decide +kernel
  split
  · decide +kernel
  · decide +kernel
theorem sgn_len (c : Int) : (sgnT c).length = 1 := rfl
theorem join_ok (g : Nat → Str) (n m : Nat) (hn : n ≤ 100) (hm : m ≤ 100) (h : ∀ i, (g i).length ≤ m) : (((List.range n).map g).map (·.length)).sum + ((List.range n).map g).length * ("" : Str).length ≤ 16777216 := by
  have h1 := Jl.sum_le (m := m) (((List.range n).map g).map (·.length)) (fun x hx => by
    obtain ⟨y, hy, rfl⟩ := List.mem_map.mp hx
    obtain ⟨i, _, rfl⟩ := List.mem_map.mp hy
    exact h i)
  rw [List.length_map, List.length_map, List.length_range] at h1
  have h2 : ("" : Str).length = 0 := by decide +kernel
  rw [h2, Nat.mul_zero, Nat.add_zero]
  have h3 : m * n ≤ 100 * 100 := Nat.mul_le_mul hm hn
  omega
def sp_law_text_by (K : PySem.W.Frag) : Sp := fun vs H Q _ => ∃ c d : Int, vs = [.int c, .int d] ∧ ∀ z H', Same H H' → Q (.str z) H'
theorem use_text_by {K : PySem.W.Frag} {c d : Int} {H : Hp} {Q : VK} {E : XK} (z : ∀ z H', Same H H' → Q (.str z) H') : sp_law_text_by K [.int c, .int d] H Q E := ⟨c, d, rfl, z⟩
local macro_rules | `(tactic| walk_at "s") => `(tactic| (with_reducible refine use_text_by (fun z H' s1 => ?_)))
theorem ok_law_text_by (T : Txt K mg) : FnOk P w K mg base CX0 2 T.a_law_text_by T.d_law_text_by ["_law_cell", "_law_other"] (sp_law_text_by K) := by
  have G_law_sign_by := ok_law_sign_by (P := P) (w := w) (base := base) T
  have G_law_title := ok_law_title (P := P) (w := w) (base := base) T
  refine T.F_law_text_by.ok sc_law_text_by (fun vs H Q E h => ?_) (fun cdv A outer s H vs Q E hr h => ?_)
  · obtain ⟨c, d, rfl, k⟩ := h
    rfl
  · obtain ⟨c, d, rfl, k⟩ := h
    have hu := hu_of hr
    refine ⟨_, (pss_cons (ps_set (i := 2) sc_law_text_by.nd rfl (Or.inl rfl) (pe_call (G_law_title) (hr.mono (by decide)) rfl T.m_law_title T.F_law_title.kp T.b_law_title .nil pass0 (pa_cons (pv 0) pa_nil)))
      (pss_cons (ps_set (i := 3) sc_law_text_by.nd rfl (Or.inl rfl) (pe_op op_mod (pe_op op_fdiv (pv 0) pe_int) pe_int))
      (pss_cons (ps_set (i := 4) sc_law_text_by.nd rfl (Or.inl rfl) (pe_op op_mod (pe_op op_fdiv (pv 0) pe_int) (pe_op op_add (pe_callB Jl.cl_lenS (by rfl) T.n_len (by decide +kernel) (pa_cons (pv 2) pa_nil)) pe_int)))
      (pss_cons (ps_set (i := 5) sc_law_text_by.nd rfl (Or.inl rfl) (pe_call (G_law_sign_by) (hr.mono (by decide)) rfl T.m_law_sign_by T.F_law_sign_by.kp T.b_law_sign_by .nil pass0 (pa_cons (pv 1) pa_nil)))
      (pss_cons (ps_if (pt_cmpR op_eq (pv 3) pe_int (nomark _)) (pss_one (ps_ret (pe_op Jl.op_addS (pe_op Jl.op_addS (pe_slice (r := rSlS) sl_str (pv 2) po_none (po_some (pv 4))) (pv 5)) (pe_slice (r := rSlS) sl_str (pv 2) (po_some (pv 4)) po_none)))) pss_nil)
      (pss_cons (ps_if (pt_cmpR op_eq (pv 3) pe_int (nomark _)) (pss_one (ps_ret (pe_op Jl.op_addS (pe_slice (r := rSlS) sl_str (pv 2) po_none (po_some (pv 4))) (pe_slice (r := rSlS) sl_str (pv 2) (po_some (pe_op op_add (pv 4) pe_int)) po_none)))) pss_nil)
      (pss_cons (ps_if (pt_cmpR op_eq (pv 3) pe_int (nomark _)) (pss_one (ps_ret (pe_op Jl.op_addS (pe_op Jl.op_addS (pe_slice (r := rSlS) sl_str (pv 2) po_none (po_some (pv 4))) (pv 5)) (pe_slice (r := rSlS) sl_str (pv 2) (po_some (pe_op op_add (pv 4) pe_int)) po_none)))) pss_nil)
      (pss_cons (ps_if (pt_cmpR op_eq (pv 3) pe_int (nomark _)) (pss_one (ps_ret (pe_m1 (r := Jl.rJoin K) PySem.F.slot_str_join PySem.F.type_str_join Jl.mt_joinS pe_str (pe_lc (own := [("_law_k", 6)]) (g := gName 6) (tt := tYes) rfl sc_law_text_by.nd (pi_range1 (by rfl) T.n_range (pa_cons (pe_op op_mod (pe_op op_fdiv (pv 0) pe_int) pe_int) pa_nil)) (blkOk_by (own := [("_law_k", 6)]) (N := N_law_text_by) (sc := defScope s_law_text_by) (by decide +kernel)) (fun _ _ _ _ _ => pg_name (i := 6) sc_law_text_by.nd rfl (Or.inl rfl)) (fun _ _ _ _ _ => pts_nil) (fun _ _ _ _ _ => (pe_call (G_law_sign_by) (hr.mono (by decide)) rfl T.m_law_sign_by T.F_law_sign_by.kp T.b_law_sign_by .nil pass0 (pa_cons (pe_op op_add (pe_op op_fdiv (pv 1) (pe_op op_add (pv 6) pe_int)) (pe_op op_mul pe_int (pv 6))) pa_nil))))))) pss_nil)
      (pss_cons (ps_if (pt_cmpR op_eq (pv 3) pe_int (nomark _)) (pss_one (ps_ret (pe_m1 (r := Jl.rJoin K) PySem.F.slot_str_join PySem.F.type_str_join Jl.mt_joinS pe_str (pe_lc (own := [("_law_k", 6)]) (g := gName 6) (tt := tYes) rfl sc_law_text_by.nd (pi_range1 (by rfl) T.n_range (pa_cons pe_int pa_nil)) (blkOk_by (own := [("_law_k", 6)]) (N := N_law_text_by) (sc := defScope s_law_text_by) (by decide +kernel)) (fun _ _ _ _ _ => pg_name (i := 6) sc_law_text_by.nd rfl (Or.inl rfl)) (fun _ _ _ _ _ => pts_nil) (fun _ _ _ _ _ => (pe_call (G_law_title) (hr.mono (by decide)) rfl T.m_law_title T.F_law_title.kp T.b_law_title .nil pass0 (pa_cons (pe_op op_add (pe_op op_fdiv (pv 0) pe_int) (pv 6)) pa_nil))))))) pss_nil)
      (pss_one (ps_ret (pv 2)))))))))))), ?_⟩
    show (_ : TS) _ [some (.int c), some (.int d), none, none, none, none, none] H
    have hl := ttl_len c
    have hs := sgn_len d
    have A := fun o1 o2 => Nat.le_trans (Jl.len_cut (ttl c) o1 o2) hl
    walk_at "wd"
    rename_i H1 s1
    refine Jl.s_iteD (fun h => ?_) (fun h => ?_)
    · walk_at "w"
      refine Jl.s_addS ?_ (Nat.le_trans (Nat.add_le_add (A _ _) (Nat.le_of_eq hs)) (by decide))
      walk_at "w"
      refine Jl.s_addS ?_ (by rw [Jl.len_app]; exact Nat.le_trans (Nat.add_le_add (Nat.add_le_add (A _ _) (Nat.le_of_eq hs)) (A _ _)) (by decide))
      exact k _ _ s1
    walk_at "w"
    refine Jl.s_iteD (fun h => ?_) (fun h => ?_)
    · walk_at "w"
      refine Jl.s_addS ?_ (Nat.le_trans (Nat.add_le_add (A _ _) (A _ _)) (by decide))
      exact k _ _ s1
    walk_at "w"
    refine Jl.s_iteD (fun h => ?_) (fun h => ?_)
    · walk_at "w"
      refine Jl.s_addS ?_ (Nat.le_trans (Nat.add_le_add (A _ _) (Nat.le_of_eq hs)) (by decide))
      walk_at "w"
      refine Jl.s_addS ?_ (by rw [Jl.len_app]; exact Nat.le_trans (Nat.add_le_add (Nat.add_le_add (A _ _) (Nat.le_of_eq hs)) (A _ _)) (by decide))
      exact k _ _ s1
    walk_at "w"
    refine Jl.s_iteD (fun h => ?_) (fun h => ?_)
    · walk_at "w"
      refine Jl.s_tM1 (fun R z => by walk_at "w"; exact z) ?_
      walk_at "w"
      refine Jl.s_lcR (c / 30 % 7) (fun i => .str (sgnT (d / ((i : Int) + 1) + 7 * (i : Int)))) (fun R z => ?_) (by omega) (fun _ => rfl) (fun i H2 R s2 hi z => ?_) (fun p H2 s2 np hp => ?_)
      · walk_at "w"; exact z
      · show (_ : TE) [some (.int c), some (.int d), _, _, _, _, some (.int (i : Int))] H2 R
        walk_at "w"
        exact z _ (Same.refl _)
      · refine Jl.s_join (ys := (List.range (c / 30 % 7).toNat).map fun i : Nat => sgnT (d / ((i : Int) + 1) + 7 * (i : Int))) (.inl (.inl (by rw [List.map_map]; exact hp))) (join_ok _ (c / 30 % 7).toNat 1 (by omega) (by decide) fun i => by rw [sgn_len]; exact Nat.le_refl _) (fun w hw => ?_)
        exact k _ _ (s1.trans s2)
    walk_at "w"
    refine Jl.s_iteD (fun h => ?_) (fun h => ?_)
    · walk_at "w"
      refine Jl.s_tM1 (fun R z => by walk_at "w"; exact z) ?_
      walk_at "w"
      refine Jl.s_lcR 40 (fun i => .str (ttl (c / 30 + (i : Int)))) (fun R z => ?_) (by decide) (fun _ => rfl) (fun i H2 R s2 hi z => ?_) (fun p H2 s2 np hp => ?_)
      · walk_at "w"; exact z
      · show (_ : TE) [some (.int c), some (.int d), _, _, _, _, some (.int (i : Int))] H2 R
        walk_at "w"
        exact z _ (by assumption)
      · refine Jl.s_join (ys := (List.range (40 : Int).toNat).map fun i : Nat => ttl (c / 30 + (i : Int))) (.inl (.inl (by rw [List.map_map]; exact hp))) (join_ok _ (40 : Int).toNat 5 (by decide) (by decide) fun i => ttl_len _) (fun w hw => ?_)
        exact k _ _ (s1.trans s2)
    walk_at "w"
    exact k _ _ s1
/-! ### _law_told_of -/
def sp_law_told_of (T : Txt K mg) : Sp := fun vs H Q _ => ∃ t : Str, vs = [.str t] ∧ (¬ t = "whole" ∧ ¬ t = "high" ∧ ¬ t = "low" ∧ ¬ t = "near" ∧ ¬ t = "split") ∧ ∀ a H', Same H H' → H a = none → H' a = some (Jl.XO (.ref T.a_NoRule) none a) → Q (.ref a) H'
theorem use_told_of {T : Txt K mg} {t : Str} {H : Hp} {Q : VK} {E : XK} (h : (¬ t = "whole" ∧ ¬ t = "high" ∧ ¬ t = "low" ∧ ¬ t = "near" ∧ ¬ t = "split")) (z : ∀ a H', Same H H' → H a = none → H' a = some (Jl.XO (.ref T.a_NoRule) none a) → Q (.ref a) H') : sp_law_told_of T [.str t] H Q E := ⟨t, rfl, h, z⟩
theorem ok_law_told_of (T : Txt K mg) : FnOk P w K mg base CX0 4 T.a_law_told_of T.d_law_told_of ["_law_text"] (sp_law_told_of T) := by
  have G_rule_of := ok_rule_of (P := P) (w := w) (base := base) T
  refine T.F_law_told_of.ok sc_law_told_of (fun vs H Q E h => ?_) (fun cdv A outer s H vs Q E hr h => ?_)
  · obtain ⟨t, rfl, hn, k⟩ := h
    rfl
  · obtain ⟨t, rfl, hn, k⟩ := h
    have hu := hu_of hr
    refine ⟨_, (pss_cons (ps_set (i := 1) sc_law_told_of.nd rfl (Or.inl rfl) pe_non)
      (pss_cons (Jl.ps_caught (i := 2) rfl rfl rfl sc_law_told_of.nd rfl rfl ⟨rfl, by decide, Or.inl T.g_JoinError⟩ takes0 (fun W pl xe tk1 po1 => (pss_one (ps_expr (pe_callS (G_rule_of) (hr.mono (by decide)) rfl T.m_rule_of T.F_rule_of.kp T.b_rule_of (fun σ => passAt tk1 σ) (pa_cons (pv 0) pa_nil))))) (fun a u cls d pl hz hf => (pss_one (ps_set (i := 1) sc_law_told_of.nd rfl (Or.inl rfl) (pv 2)))))
      (pss_one (ps_ret (pv 1))))), ?_⟩
    show (_ : TS) _ [some (.str t), none, none] H
    walk_at "w"
    refine use_rule_no hn ?_
    refine ⟨true, T.exm_NoRule, fun _ a na => ?_, fun z => by cases z⟩
    walk_at "w"
    refine Jl.s_outN ?_
    simp only [List.set_cons_succ, List.set_cons_zero]
    walk_at "w"
    exact k a _ (Jl.same_upd na) na upd_same
/-! ### _law_refused -/
def sp_law_refused (T : Txt K mg) : Sp := fun vs H Q _ => ∃ a : Addr, vs = [.ref a] ∧ H a = some (Jl.XO (.ref T.a_NoRule) none a) ∧ ∀ H', Same H H' → Q (.bl true) H'
theorem use_refused {T : Txt K mg} {a : Addr} {H : Hp} {Q : VK} {E : XK} (h : H a = some (Jl.XO (.ref T.a_NoRule) none a)) (z : ∀ H', Same H H' → Q (.bl true) H') : sp_law_refused T [.ref a] H Q E := ⟨a, rfl, h, z⟩
theorem ok_law_refused (T : Txt K mg) : FnOk P w K mg base CX0 1 T.a_law_refused T.d_law_refused ["_law_told"] (sp_law_refused T) := by
  refine T.F_law_refused.ok sc_law_refused (fun vs H Q E h => ?_) (fun cdv A outer s H vs Q E hr h => ?_)
  · obtain ⟨a, rfl, ha, k⟩ := h
    rfl
  · obtain ⟨a, rfl, ha, k⟩ := h
    have hu := hu_of hr
    refine ⟨_, (pss_cons (ps_if (PW.pt (pw_or (pt_not (pt_val (pe_callB (r := Jl.rIsX K) Jl.cl_isX (by rfl) T.n_isinstance (by decide +kernel) (pa_cons (pv 0) (pa_cons (pe_glob (v := .ref T.a_NoRule) rfl T.g_NoRule rfl) pa_nil))))) (pw_or1 (pt_not (pt_val (pe_callB (r := Jl.rIsX K) Jl.cl_isX (by rfl) T.n_isinstance (by decide +kernel) (pa_cons (pv 0) (pa_cons (pe_bltn (v := .ty "ValueError") (u := .type "ValueError") (by rfl) T.n_ValueError (by decide +kernel) rfl) pa_nil)))))))) (pss_one (ps_ret pe_bl)) pss_nil)
      (pss_one (ps_ret (pe_not (pe_callB (r := Jl.rIsXT K) Jl.cl_isXT (by rfl) T.n_isinstance (by decide +kernel) (pa_cons (pv 0) (pa_cons (pe_tup (pa_cons (pe_glob (v := .ref T.a_Lost) rfl T.g_Lost rfl) (pa_cons (pe_glob (v := .ref T.a_NoBase) rfl T.g_NoBase rfl) (pa_cons (pe_glob (v := .ref T.a_NoPiece) rfl T.g_NoPiece rfl) (pa_cons (pe_glob (v := .ref T.a_NoSense) rfl T.g_NoSense rfl) (pa_cons (pe_glob (v := .ref T.a_NoWhole) rfl T.g_NoWhole rfl) (pa_cons (pe_glob (v := .ref T.a_SameName) rfl T.g_SameName rfl) (pa_cons (pe_glob (v := .ref T.a_TooFar) rfl T.g_TooFar rfl) (pa_cons (pe_glob (v := .ref T.a_Twice) rfl T.g_Twice rfl) (pa_cons (pe_glob (v := .ref T.a_Unmet) rfl T.g_Unmet rfl) pa_nil)))))))))) pa_nil))))))), ?_⟩
    show (_ : TS) _ [some (.ref a)] H
    walk_at "w"
    refine Jl.s_isX ha Jl.xd_none T.ec_NoRule (.own _) T.kit_NoRule_NoRule ?_
    walk_at "w"
    refine Jl.s_isX ha Jl.xd_none T.ec_NoRule (.ty _) T.ve_NoRule ?_
    walk_at "w"
    refine ⟨(by show 9 ≤ sizeLine; decide), fun p np => ?_⟩
    walk_at "w"
    have s1 := Jl.same_upd (o := .tup [.ref T.a_Lost, .ref T.a_NoBase, .ref T.a_NoPiece, .ref T.a_NoSense, .ref T.a_NoWhole, .ref T.a_SameName, .ref T.a_TooFar, .ref T.a_Twice, .ref T.a_Unmet]) np
    refine Jl.s_isXT (s1 _ _ ha) Jl.xd_none T.ec_NoRule upd_same (Jl.own_all [T.a_Lost, T.a_NoBase, T.a_NoPiece, T.a_NoSense, T.a_NoWhole, T.a_SameName, T.a_TooFar, T.a_Twice, T.a_Unmet]) (Jl.kitNone fun c hc => ?_) ?_
    · simp only [List.map_cons, List.map_nil, List.mem_cons, List.not_mem_nil, or_false] at hc
      rcases hc with rfl | rfl | rfl | rfl | rfl | rfl | rfl | rfl | rfl
      all_goals first | exact T.kit_NoRule_Lost | exact T.kit_NoRule_NoBase | exact T.kit_NoRule_NoPiece | exact T.kit_NoRule_NoSense | exact T.kit_NoRule_NoWhole | exact T.kit_NoRule_SameName | exact T.kit_NoRule_TooFar | exact T.kit_NoRule_Twice | exact T.kit_NoRule_Unmet
    walk_at "w"
    exact k _ s1
/-! ### _law_holds -/
def knw (t : Str) : Prop := t = "whole" ∨ t = "high" ∨ t = "low" ∨ t = "near" ∨ t = "split"
theorem ttl_knw (c : Int) : knw (ttl c) := by
  unfold ttl knw
  split
  · exact .inl rfl
  split
  · exact .inr (.inl rfl)
  split
  · exact .inr (.inr (.inl rfl))
  split
  · exact .inr (.inr (.inr (.inl rfl)))
  · exact .inr (.inr (.inr (.inr rfl)))
theorem inV_knw (t : Str) : (knw t → inV (.str t) [.str "whole", .str "high", .str "low", .str "near", .str "split"] = true) ∧ (¬ knw t → inV (.str t) [.str "whole", .str "high", .str "low", .str "near", .str "split"] = false) := by
  unfold knw inV
  constructor
  · rintro (rfl | rfl | rfl | rfl | rfl) <;> decide +kernel
  · intro h
    have g : ∀ w : Str, ¬ t = w → eqV (.str w) (.str t) = false := fun w hw => by
      show decide (w = t) = false
      exact decide_eq_false fun z => hw z.symm
    rw [List.any_cons, List.any_cons, List.any_cons, List.any_cons, List.any_cons, List.any_nil, g _ fun z => h (.inl z), g _ fun z => h (.inr (.inl z)), g _ fun z => h (.inr (.inr (.inl z))), g _ fun z => h (.inr (.inr (.inr (.inl z)))), g _ fun z => h (.inr (.inr (.inr (.inr z))))]
    rfl
def sp_law_holds : Sp := fun vs H Q _ => ∃ c d : Int, vs = [.int c, .int d] ∧ ∀ H', Same H H' → Q (.bl true) H'
theorem use_holds {c d : Int} {H : Hp} {Q : VK} {E : XK} (z : ∀ H', Same H H' → Q (.bl true) H') : sp_law_holds [.int c, .int d] H Q E := ⟨c, d, rfl, z⟩
local macro_rules | `(tactic| walk_at "s") => `(tactic| (with_reducible refine use_holds (fun H' s3 => ?_)))
theorem ok_law_holds (T : Txt K mg) : FnOk P w K mg base CX0 5 T.a_law_holds T.d_law_holds ["_law_cell", "_law_other"] (sp_law_holds) := by
  have G_Rule_leans := ok_Rule_leans (P := P) (w := w) (base := base) T
  have G_NearRule_leans := ok_NearRule_leans (P := P) (w := w) (base := base) T
  have G_SplitRule_leans := ok_SplitRule_leans (P := P) (w := w) (base := base) T
  have G_rule_of := ok_rule_of (P := P) (w := w) (base := base) T
  have G_law_title := ok_law_title (P := P) (w := w) (base := base) T
  have G_law_text_by := ok_law_text_by (P := P) (w := w) (base := base) T
  have G_law_told_of := ok_law_told_of (P := P) (w := w) (base := base) T
  have G_law_refused := ok_law_refused (P := P) (w := w) (base := base) T
  refine T.F_law_holds.ok sc_law_holds (fun vs H Q E h => ?_) (fun cdv A outer s H vs Q E hr h => ?_)
  · obtain ⟨c, d, rfl, k⟩ := h
    rfl
  · obtain ⟨c, d, rfl, k⟩ := h
    have hu := hu_of hr
    refine ⟨_, (pss_cons (ps_set (i := 2) sc_law_holds.nd rfl (Or.inl rfl) (pe_call (G_law_text_by) (hr.mono (by decide)) rfl T.m_law_text_by T.F_law_text_by.kp T.b_law_text_by .nil pass0 (pa_cons (pv 0) (pa_cons (pv 1) pa_nil))))
      (pss_cons (Jl.ps_ifK (pt_cmpR op_notIn_seq (pv 2) (pe_lst (pa_cons pe_str (pa_cons pe_str (pa_cons pe_str (pa_cons pe_str (pa_cons pe_str pa_nil)))))) rfl) (pss_cons (ps_if (pt_not (pt_val (pe_call (G_law_refused) (hr.mono (by decide)) rfl T.m_law_refused T.F_law_refused.kp T.b_law_refused .nil pass0 (pa_cons (pe_call (G_law_told_of) (hr.mono (by decide)) rfl T.m_law_told_of T.F_law_told_of.kp T.b_law_told_of .nil pass0 (pa_cons (pv 2) pa_nil)) pa_nil)))) (pss_one (ps_ret pe_bl)) pss_nil)
      (pss_one (ps_set (i := 2) sc_law_holds.nd rfl (Or.inl rfl) (pe_call (G_law_title) (hr.mono (by decide)) rfl T.m_law_title T.F_law_title.kp T.b_law_title .nil pass0 (pa_cons (pv 0) pa_nil))))) pss_nil)
      (pss_cons (ps_set (i := 3) sc_law_holds.nd rfl (Or.inl rfl) (pe_callS (G_rule_of) (hr.mono (by decide)) rfl T.m_rule_of T.F_rule_of.kp T.b_rule_of (fun σ => passAt takes0 σ) (pa_cons (pv 2) pa_nil)))
      (pss_cons (ps_if (PW.pt (pw_or (pt_not (pt_val (pe_callB call_isi (by rfl) T.n_isinstance (by decide +kernel) (pa_cons (pv 3) (pa_cons (pe_glob (v := .ref T.a_Rule) rfl T.g_Rule rfl) pa_nil))))) (pw_or (pt_not (pt_val (pe_callB call_isi (by rfl) T.n_isinstance (by decide +kernel) (pa_cons (pe_fld (pv 3) rfl) (pa_cons (pe_bltn (v := .ty "str") (u := .type "str") (by rfl) T.n_str (by decide +kernel) rfl) pa_nil))))) (pw_or1 (pt_cmpR op_ne (pe_fld (pv 3) rfl) (pv 2) (nomark _)))))) (pss_one (ps_ret pe_bl)) pss_nil)
      (pss_cons (ps_if (PW.pt (pw_or (pt_cmpR op_eq (pv 2) pe_str (nomark _)) (pw_or1 (pt_cmpR op_eq (pv 2) pe_str (nomark _))))) (pss_one (ps_ret (pe_cmpR op_isBl (Jl.pe_ei (pe_meth0 (pv 3) T.c_Rule T.me_Rule_leans (G_Rule_leans) (hr.mono (by decide)) T.b_Rule_leans .nil pass0) (Jl.pe_ei (pe_meth0 (pv 3) T.c_HighRule T.me_HighRule_leans (G_Rule_leans) (hr.mono (by decide)) T.b_Rule_leans .nil pass0) (Jl.pe_ei (pe_meth0 (pv 3) T.c_LowRule T.me_LowRule_leans (G_Rule_leans) (hr.mono (by decide)) T.b_Rule_leans .nil pass0) (Jl.pe_ei (pe_meth0 (pv 3) T.c_NearRule T.me_NearRule_leans (G_NearRule_leans) (hr.mono (by decide)) T.b_NearRule_leans .nil pass0) (pe_meth0 (pv 3) T.c_SplitRule T.me_SplitRule_leans (G_SplitRule_leans) (hr.mono (by decide)) T.b_SplitRule_leans .nil pass0))))) pe_bl (nomark _)))) pss_nil)
      (pss_one (ps_ret (pe_cmpR op_isBl (Jl.pe_ei (pe_meth0 (pv 3) T.c_Rule T.me_Rule_leans (G_Rule_leans) (hr.mono (by decide)) T.b_Rule_leans .nil pass0) (Jl.pe_ei (pe_meth0 (pv 3) T.c_HighRule T.me_HighRule_leans (G_Rule_leans) (hr.mono (by decide)) T.b_Rule_leans .nil pass0) (Jl.pe_ei (pe_meth0 (pv 3) T.c_LowRule T.me_LowRule_leans (G_Rule_leans) (hr.mono (by decide)) T.b_Rule_leans .nil pass0) (Jl.pe_ei (pe_meth0 (pv 3) T.c_NearRule T.me_NearRule_leans (G_NearRule_leans) (hr.mono (by decide)) T.b_NearRule_leans .nil pass0) (pe_meth0 (pv 3) T.c_SplitRule T.me_SplitRule_leans (G_SplitRule_leans) (hr.mono (by decide)) T.b_SplitRule_leans .nil pass0))))) pe_bl (nomark _))))))))), ?_⟩
    show (_ : TS) _ [some (.int c), some (.int d), none, none] H
    walk_at "w"
    rename_i t H1 s1
    refine Jl.s_seq (Jl.s_ifKh (P := ¬ knw t) (fun σ' H' => Same H H' ∧ ∃ z, knw z ∧ σ' = [some (.int c), some (.int d), some (.str z), none]) (fun T t1 t2 => ?_) (fun g H2 N s2 hN => ?_) (fun g H2 N s2 hN => ?_) (fun σ' H2 hM => ?_))
    · walk_at "w"
      refine ⟨(by show 5 ≤ sizeLine; decide), fun p np => ?_⟩
      refine ⟨p, _, rfl, .inl Jl.sqU, rfl, rfl, ?_⟩
      refine ⟨_, rfl, ?_⟩
      by_cases g : knw t
      · rw [if_pos rfl, (inV_knw t).1 g]
        exact t2 _ (Jl.same_upd np) (fun z => z g)
      · rw [if_pos rfl, (inV_knw t).2 g]
        exact t1 _ (Jl.same_upd np) g
    · have nn : ¬ t = "whole" ∧ ¬ t = "high" ∧ ¬ t = "low" ∧ ¬ t = "near" ∧ ¬ t = "split" := ⟨fun z => g (.inl z), fun z => g (.inr (.inl z)), fun z => g (.inr (.inr (.inl z))), fun z => g (.inr (.inr (.inr (.inl z)))), fun z => g (.inr (.inr (.inr (.inr z))))⟩
      walk_at "w"
      refine use_told_of nn (fun a H3 s3 na ha => ?_)
      walk_at "w"
      refine use_refused ha (fun H4 s4 => ?_)
      walk_at "w"
      exact hN _ _ ⟨((s1.trans s2).trans s3).trans (s4.trans (by assumption)), ttl c, ttl_knw c, rfl⟩
    · walk_at "w"
      exact hN _ _ ⟨s1.trans s2, t, Classical.not_not.mp g, rfl⟩
    obtain ⟨s1, z, hz, rfl⟩ := hM
    walk_at "w"
    rcases hz with rfl | rfl | rfl | rfl | rfl
    · refine use_rule (C := T.a_Rule) (.inl ⟨rfl, rfl⟩) (fun p H2 s2 np hR => ?_)
      obtain ⟨dx, hp⟩ := hR
      walk_at "w"
      refine Jl.s_isiO hp T.c_Rule T.ea_Rule T.en T.et T.em_Rule T.kit_Rule_Rule ?_
      walk_at "w"
      refine Jl.s_fld (fun R z => Jl.s_var (by with_unfolding_all rfl) z) hp T.c_Rule T.na_Rule_title (by rw [lookup_putF, if_pos rfl]) ?_
      walk_at "w"
      refine Jl.s_fld (fun R z => Jl.s_var (by with_unfolding_all rfl) z) hp T.c_Rule T.na_Rule_title (by rw [lookup_putF, if_pos rfl]) ?_
      repeat (first | walk_at "s" | with_reducible refine Jl.s_iteDt (by decide +kernel) ?_ | with_reducible refine Jl.s_iteDf (by decide +kernel) ?_ | with_reducible refine Jl.s_iteNt (by decide +kernel) ?_ | with_reducible refine Jl.s_iteNf (by decide +kernel) ?_)
      refine Jl.s_ei1 ?_
      refine Jl.s_methO (fun R z => Jl.s_var (by with_unfolding_all rfl) z) hp (by rw [lookup_putF, if_neg (by decide +kernel)]; rfl) ?_
      walk_at "w"
      exact k _ (s1.trans s2)
    · refine use_rule (C := T.a_HighRule) (.inr (.inl ⟨rfl, rfl⟩)) (fun p H2 s2 np hR => ?_)
      obtain ⟨dx, hp⟩ := hR
      walk_at "w"
      refine Jl.s_isiO hp T.c_HighRule T.ea_HighRule T.en T.et T.em_HighRule T.kit_HighRule_Rule ?_
      walk_at "w"
      refine Jl.s_fld (fun R z => Jl.s_var (by with_unfolding_all rfl) z) hp T.c_HighRule T.na_HighRule_title (by rw [lookup_putF, if_pos rfl]) ?_
      walk_at "w"
      refine Jl.s_fld (fun R z => Jl.s_var (by with_unfolding_all rfl) z) hp T.c_HighRule T.na_HighRule_title (by rw [lookup_putF, if_pos rfl]) ?_
      repeat (first | walk_at "s" | with_reducible refine Jl.s_iteDt (by decide +kernel) ?_ | with_reducible refine Jl.s_iteDf (by decide +kernel) ?_ | with_reducible refine Jl.s_iteNt (by decide +kernel) ?_ | with_reducible refine Jl.s_iteNf (by decide +kernel) ?_)
      refine Jl.s_ei2 ?_
      refine Jl.s_ei1 ?_
      refine Jl.s_methO (fun R z => Jl.s_var (by with_unfolding_all rfl) z) hp (by rw [lookup_putF, if_neg (by decide +kernel)]; rfl) ?_
      walk_at "w"
      exact k _ (s1.trans s2)
    · refine use_rule (C := T.a_LowRule) (.inr (.inr (.inl ⟨rfl, rfl⟩))) (fun p H2 s2 np hR => ?_)
      obtain ⟨dx, hp⟩ := hR
      walk_at "w"
      refine Jl.s_isiO hp T.c_LowRule T.ea_LowRule T.en T.et T.em_LowRule T.kit_LowRule_Rule ?_
      walk_at "w"
      refine Jl.s_fld (fun R z => Jl.s_var (by with_unfolding_all rfl) z) hp T.c_LowRule T.na_LowRule_title (by rw [lookup_putF, if_pos rfl]) ?_
      walk_at "w"
      refine Jl.s_fld (fun R z => Jl.s_var (by with_unfolding_all rfl) z) hp T.c_LowRule T.na_LowRule_title (by rw [lookup_putF, if_pos rfl]) ?_
      repeat (first | walk_at "s" | with_reducible refine Jl.s_iteDt (by decide +kernel) ?_ | with_reducible refine Jl.s_iteDf (by decide +kernel) ?_ | with_reducible refine Jl.s_iteNt (by decide +kernel) ?_ | with_reducible refine Jl.s_iteNf (by decide +kernel) ?_)
      refine Jl.s_ei2 ?_
      refine Jl.s_ei2 ?_
      refine Jl.s_ei1 ?_
      refine Jl.s_methO (fun R z => Jl.s_var (by with_unfolding_all rfl) z) hp (by rw [lookup_putF, if_neg (by decide +kernel)]; rfl) ?_
      walk_at "w"
      exact k _ (s1.trans s2)
    · refine use_rule (C := T.a_NearRule) (.inr (.inr (.inr (.inl ⟨rfl, rfl⟩)))) (fun p H2 s2 np hR => ?_)
      obtain ⟨dx, hp⟩ := hR
      walk_at "w"
      refine Jl.s_isiO hp T.c_NearRule T.ea_NearRule T.en T.et T.em_NearRule T.kit_NearRule_Rule ?_
      walk_at "w"
      refine Jl.s_fld (fun R z => Jl.s_var (by with_unfolding_all rfl) z) hp T.c_NearRule T.na_NearRule_title (by rw [lookup_putF, if_pos rfl]) ?_
      walk_at "w"
      refine Jl.s_fld (fun R z => Jl.s_var (by with_unfolding_all rfl) z) hp T.c_NearRule T.na_NearRule_title (by rw [lookup_putF, if_pos rfl]) ?_
      repeat (first | walk_at "s" | with_reducible refine Jl.s_iteDt (by decide +kernel) ?_ | with_reducible refine Jl.s_iteDf (by decide +kernel) ?_ | with_reducible refine Jl.s_iteNt (by decide +kernel) ?_ | with_reducible refine Jl.s_iteNf (by decide +kernel) ?_)
      refine Jl.s_ei2 ?_
      refine Jl.s_ei2 ?_
      refine Jl.s_ei2 ?_
      refine Jl.s_ei1 ?_
      refine Jl.s_methO (fun R z => Jl.s_var (by with_unfolding_all rfl) z) hp (by rw [lookup_putF, if_neg (by decide +kernel)]; rfl) ?_
      walk_at "w"
      exact k _ (s1.trans s2)
    · refine use_rule (C := T.a_SplitRule) (.inr (.inr (.inr (.inr (⟨rfl, rfl⟩))))) (fun p H2 s2 np hR => ?_)
      obtain ⟨dx, hp⟩ := hR
      walk_at "w"
      refine Jl.s_isiO hp T.c_SplitRule T.ea_SplitRule T.en T.et T.em_SplitRule T.kit_SplitRule_Rule ?_
      walk_at "w"
      refine Jl.s_fld (fun R z => Jl.s_var (by with_unfolding_all rfl) z) hp T.c_SplitRule T.na_SplitRule_title (by rw [lookup_putF, if_pos rfl]) ?_
      walk_at "w"
      refine Jl.s_fld (fun R z => Jl.s_var (by with_unfolding_all rfl) z) hp T.c_SplitRule T.na_SplitRule_title (by rw [lookup_putF, if_pos rfl]) ?_
      repeat (first | walk_at "s" | with_reducible refine Jl.s_iteDt (by decide +kernel) ?_ | with_reducible refine Jl.s_iteDf (by decide +kernel) ?_ | with_reducible refine Jl.s_iteNt (by decide +kernel) ?_ | with_reducible refine Jl.s_iteNf (by decide +kernel) ?_)
      refine Jl.s_ei2 ?_
      refine Jl.s_ei2 ?_
      refine Jl.s_ei2 ?_
      refine Jl.s_ei2 ?_
      refine Jl.s_methO (fun R z => Jl.s_var (by with_unfolding_all rfl) z) hp (by rw [lookup_putF, if_neg (by decide +kernel)]; rfl) ?_
      walk_at "w"
      exact k _ (s1.trans s2)
/-! ### law -/
def sp_law (K : PySem.W.Frag) : Sp := fun vs H Q _ => ∃ (a : Addr) (ns : List Int), vs = [.ref a] ∧ SqL K H a (ns.map V.int) ∧ ns.length ≤ 63 ∧ ∀ H', Q (.bl true) H'
theorem ok_law (T : Txt K mg) : FnOk P w K mg base CX0 6 T.a_law T.d_law ["_law_script"] (sp_law K) := by
  have G_law_holds := ok_law_holds (P := P) (w := w) (base := base) T
  refine T.F_law.ok sc_law (fun vs H Q E h => ?_) (fun cdv A outer s H vs Q E hr h => ?_)
  · obtain ⟨a, ns, rfl, hS, hlen, k⟩ := h
    rfl
  · obtain ⟨a, ns, rfl, hS, hlen, k⟩ := h
    have hu := hu_of hr
    refine ⟨_, (pss_cons (ps_set (i := 1) sc_law.nd rfl (Or.inl rfl) (pe_op (r := Jl.rCatS K) Jl.op_catS (pv 0) (pe_lst (pa_cons pe_int pa_nil))))
      (pss_cons (ps_for PassesOwn.never rfl (pi_range1 (by rfl) T.n_range (pa_cons (pe_callB (r := Jl.rLenL K) Jl.cl_lenL (by rfl) T.n_len (by decide +kernel) (pa_cons (pv 1) pa_nil)) pa_nil)) (pg_name (i := 2) sc_law.nd rfl (Or.inl rfl)) (pss_one (ps_if (pt_not (pt_val (pe_call (G_law_holds) (hr.mono (by decide)) rfl T.m_law_holds T.F_law_holds.kp T.b_law_holds .nil pass0 (pa_cons (pe_ix (r := rIxL K) ix_list (pv 1) (pv 2) (fun _ _ => rfl)) (pa_cons (pe_ix (r := rIxL K) ix_list (pv 1) (pe_op op_sub (pv 2) pe_int) (fun _ _ => rfl)) pa_nil))))) (pss_one (ps_ret pe_bl)) pss_nil)))
      (pss_one (ps_ret pe_bl)))), ?_⟩
    show (_ : TS) _ [some (.ref a), none, none] H
    refine Jl.s_seq_assoc (Jl.law1 (ms := [0]) hS hlen (by decide) (fun R z => ?_) (fun p H1 R hp z => ?_) (fun p i N H1 s1 hc h0 h1 hN => ?_) (fun p v H1 s1 => ?_))
    · walk_at "w"
      exact ⟨by decide, z⟩
    · walk_at "w"
      first
        | (refine ⟨p, _, rfl, .inl hp, ?_⟩; rw [List.length_map]; walk_at "w"; exact z)
        | (rw [List.length_map]; exact z)
    · have e := List.length_append (as := ns) (bs := [0])
      obtain ⟨z0, e0⟩ := Jl.atI_any (ns := ns ++ [0]) (i := i) (by omega) (by omega)
      obtain ⟨z1, e1⟩ := Jl.atI_any (ns := ns ++ [0]) (i := i - 1) (by rw [List.length_append]; show -((ns.length + 1 : Nat) : Int) ≤ _; omega) (by omega)
      walk_at "w"; refine Jl.s_ixL hc e0 ?_; walk_at "w"; refine Jl.s_ixL hc e1 ?_
      walk_at "w"
      exact hN _ _ (by assumption)
    · walk_at "w"
      exact k _
end
theorem all_mk {l : PySem.W.OpenLaw} {w : World} {K : PySem.W.Frag} {h : Heap} {mg : Str → Option Value} {fa a_Rule a_HighRule a_LowRule a_NearRule a_SplitRule a_JoinError a_NoRule a_NoPiece a_Twice a_SameName a_Unmet a_TooFar a_NoWhole a_NoBase a_Lost a_NoSense a_Rule___init__ a_Rule_leans a_NearRule_leans a_SplitRule_leans a_rule_of a_law_sign_by a_law_title a_law_text_by a_law_told_of a_law_refused a_law_holds a_law : Addr} (X : K.In h) (G : h.Ns mainGlobals mg) (hfa : mg "law" = some (.ref fa))
    {od_Rule___init__ an_Rule___init__ : Option Addr} {sl_Rule___init__ : Array (Option Value)} {oc_Rule___init__ kV_Rule___init__ dc_Rule___init__ pm_Rule___init__ cd_Rule___init__ ct_Rule___init__ : Value}
    {od_Rule_leans an_Rule_leans : Option Addr} {sl_Rule_leans : Array (Option Value)} {oc_Rule_leans kV_Rule_leans dc_Rule_leans pm_Rule_leans cd_Rule_leans ct_Rule_leans : Value}
    {od_NearRule_leans an_NearRule_leans : Option Addr} {sl_NearRule_leans : Array (Option Value)} {oc_NearRule_leans kV_NearRule_leans dc_NearRule_leans pm_NearRule_leans cd_NearRule_leans ct_NearRule_leans : Value}
    {od_SplitRule_leans an_SplitRule_leans : Option Addr} {sl_SplitRule_leans : Array (Option Value)} {oc_SplitRule_leans kV_SplitRule_leans dc_SplitRule_leans pm_SplitRule_leans cd_SplitRule_leans ct_SplitRule_leans : Value}
    {od_rule_of an_rule_of : Option Addr} {sl_rule_of : Array (Option Value)} {oc_rule_of kV_rule_of dc_rule_of pm_rule_of cd_rule_of ct_rule_of : Value}
    {od_law_sign_by an_law_sign_by : Option Addr} {sl_law_sign_by : Array (Option Value)} {oc_law_sign_by kV_law_sign_by dc_law_sign_by pm_law_sign_by cd_law_sign_by ct_law_sign_by : Value}
    {od_law_title an_law_title : Option Addr} {sl_law_title : Array (Option Value)} {oc_law_title kV_law_title dc_law_title pm_law_title cd_law_title ct_law_title : Value}
    {od_law_text_by an_law_text_by : Option Addr} {sl_law_text_by : Array (Option Value)} {oc_law_text_by kV_law_text_by dc_law_text_by pm_law_text_by cd_law_text_by ct_law_text_by : Value}
    {od_law_told_of an_law_told_of : Option Addr} {sl_law_told_of : Array (Option Value)} {oc_law_told_of kV_law_told_of dc_law_told_of pm_law_told_of cd_law_told_of ct_law_told_of : Value}
    {od_law_refused an_law_refused : Option Addr} {sl_law_refused : Array (Option Value)} {oc_law_refused kV_law_refused dc_law_refused pm_law_refused cd_law_refused ct_law_refused : Value}
    {od_law_holds an_law_holds : Option Addr} {sl_law_holds : Array (Option Value)} {oc_law_holds kV_law_holds dc_law_holds pm_law_holds cd_law_holds ct_law_holds : Value}
    {od_law an_law : Option Addr} {sl_law : Array (Option Value)} {oc_law kV_law dc_law pm_law cd_law ct_law : Value}
    (ns_Rule : PySem.W.nsIn K mainGlobals "Rule" = some (some (.ref a_Rule)))
    (ns_HighRule : PySem.W.nsIn K mainGlobals "HighRule" = some (some (.ref a_HighRule)))
    (ns_LowRule : PySem.W.nsIn K mainGlobals "LowRule" = some (some (.ref a_LowRule)))
    (ns_NearRule : PySem.W.nsIn K mainGlobals "NearRule" = some (some (.ref a_NearRule)))
    (ns_SplitRule : PySem.W.nsIn K mainGlobals "SplitRule" = some (some (.ref a_SplitRule)))
    (fi_Rule___init__ : PySem.W.findIn K (.ref a_Rule) "__init__" = some (some (.ref a_Rule___init__)))
    (fi_Rule_leans : PySem.W.findIn K (.ref a_Rule) "leans" = some (some (.ref a_Rule_leans)))
    (fi_HighRule___init__ : PySem.W.findIn K (.ref a_HighRule) "__init__" = some (some (.ref a_Rule___init__)))
    (fi_HighRule_leans : PySem.W.findIn K (.ref a_HighRule) "leans" = some (some (.ref a_Rule_leans)))
    (fi_LowRule___init__ : PySem.W.findIn K (.ref a_LowRule) "__init__" = some (some (.ref a_Rule___init__)))
    (fi_LowRule_leans : PySem.W.findIn K (.ref a_LowRule) "leans" = some (some (.ref a_Rule_leans)))
    (fi_NearRule___init__ : PySem.W.findIn K (.ref a_NearRule) "__init__" = some (some (.ref a_Rule___init__)))
    (fi_NearRule_leans : PySem.W.findIn K (.ref a_NearRule) "leans" = some (some (.ref a_NearRule_leans)))
    (fi_SplitRule___init__ : PySem.W.findIn K (.ref a_SplitRule) "__init__" = some (some (.ref a_Rule___init__)))
    (fi_SplitRule_leans : PySem.W.findIn K (.ref a_SplitRule) "leans" = some (some (.ref a_SplitRule_leans)))
    (ns_rule_of : PySem.W.nsIn K mainGlobals "rule_of" = some (some (.ref a_rule_of)))
    (ns_law_sign_by : PySem.W.nsIn K mainGlobals "_law_sign_by" = some (some (.ref a_law_sign_by)))
    (ns_law_title : PySem.W.nsIn K mainGlobals "_law_title" = some (some (.ref a_law_title)))
    (ns_law_text_by : PySem.W.nsIn K mainGlobals "_law_text_by" = some (some (.ref a_law_text_by)))
    (ns_law_told_of : PySem.W.nsIn K mainGlobals "_law_told_of" = some (some (.ref a_law_told_of)))
    (ns_law_refused : PySem.W.nsIn K mainGlobals "_law_refused" = some (some (.ref a_law_refused)))
    (ns_law_holds : PySem.W.nsIn K mainGlobals "_law_holds" = some (some (.ref a_law_holds)))
    (ns_law : PySem.W.nsIn K mainGlobals "law" = some (some (.ref a_law)))
    (lk_Rule___init__ : K.lookup a_Rule___init__ = some ⟨oc_Rule___init__, od_Rule___init__, .func (PySem.W.fnOf "__init__" "Rule.__init__" (defArgs s_Rule___init__) (defBody s_Rule___init__) (defScope s_Rule___init__) .none kV_Rule___init__ dc_Rule___init__ pm_Rule___init__ an_Rule___init__ cd_Rule___init__ ct_Rule___init__), sl_Rule___init__⟩)
    (cd_is_Rule___init__ : PySem.W.codeIn K cd_Rule___init__ "Rule.__init__" = true)
    (kp_Rule___init__ : PySem.W.keepIn K (.ref a_Rule___init__) = true)
    (isf_Rule___init__ : PySem.W.isFn K (.ref a_Rule___init__) = true)
    (lk_Rule_leans : K.lookup a_Rule_leans = some ⟨oc_Rule_leans, od_Rule_leans, .func (PySem.W.fnOf "leans" "Rule.leans" (defArgs s_Rule_leans) (defBody s_Rule_leans) (defScope s_Rule_leans) .none kV_Rule_leans dc_Rule_leans pm_Rule_leans an_Rule_leans cd_Rule_leans ct_Rule_leans), sl_Rule_leans⟩)
    (cd_is_Rule_leans : PySem.W.codeIn K cd_Rule_leans "Rule.leans" = true)
    (kp_Rule_leans : PySem.W.keepIn K (.ref a_Rule_leans) = true)
    (isf_Rule_leans : PySem.W.isFn K (.ref a_Rule_leans) = true)
    (lk_NearRule_leans : K.lookup a_NearRule_leans = some ⟨oc_NearRule_leans, od_NearRule_leans, .func (PySem.W.fnOf "leans" "NearRule.leans" (defArgs s_NearRule_leans) (defBody s_NearRule_leans) (defScope s_NearRule_leans) .none kV_NearRule_leans dc_NearRule_leans pm_NearRule_leans an_NearRule_leans cd_NearRule_leans ct_NearRule_leans), sl_NearRule_leans⟩)
    (cd_is_NearRule_leans : PySem.W.codeIn K cd_NearRule_leans "NearRule.leans" = true)
    (kp_NearRule_leans : PySem.W.keepIn K (.ref a_NearRule_leans) = true)
    (isf_NearRule_leans : PySem.W.isFn K (.ref a_NearRule_leans) = true)
    (lk_SplitRule_leans : K.lookup a_SplitRule_leans = some ⟨oc_SplitRule_leans, od_SplitRule_leans, .func (PySem.W.fnOf "leans" "SplitRule.leans" (defArgs s_SplitRule_leans) (defBody s_SplitRule_leans) (defScope s_SplitRule_leans) .none kV_SplitRule_leans dc_SplitRule_leans pm_SplitRule_leans an_SplitRule_leans cd_SplitRule_leans ct_SplitRule_leans), sl_SplitRule_leans⟩)
    (cd_is_SplitRule_leans : PySem.W.codeIn K cd_SplitRule_leans "SplitRule.leans" = true)
    (kp_SplitRule_leans : PySem.W.keepIn K (.ref a_SplitRule_leans) = true)
    (isf_SplitRule_leans : PySem.W.isFn K (.ref a_SplitRule_leans) = true)
    (lk_rule_of : K.lookup a_rule_of = some ⟨oc_rule_of, od_rule_of, .func (PySem.W.fnOf "rule_of" "rule_of" (defArgs s_rule_of) (defBody s_rule_of) (defScope s_rule_of) .none kV_rule_of dc_rule_of pm_rule_of an_rule_of cd_rule_of ct_rule_of), sl_rule_of⟩)
    (cd_is_rule_of : PySem.W.codeIn K cd_rule_of "rule_of" = true)
    (kp_rule_of : PySem.W.keepIn K (.ref a_rule_of) = true)
    (lk_law_sign_by : K.lookup a_law_sign_by = some ⟨oc_law_sign_by, od_law_sign_by, .func (PySem.W.fnOf "_law_sign_by" "_law_sign_by" (defArgs s_law_sign_by) (defBody s_law_sign_by) (defScope s_law_sign_by) .none kV_law_sign_by dc_law_sign_by pm_law_sign_by an_law_sign_by cd_law_sign_by ct_law_sign_by), sl_law_sign_by⟩)
    (cd_is_law_sign_by : PySem.W.codeIn K cd_law_sign_by "_law_sign_by" = true)
    (kp_law_sign_by : PySem.W.keepIn K (.ref a_law_sign_by) = true)
    (lk_law_title : K.lookup a_law_title = some ⟨oc_law_title, od_law_title, .func (PySem.W.fnOf "_law_title" "_law_title" (defArgs s_law_title) (defBody s_law_title) (defScope s_law_title) .none kV_law_title dc_law_title pm_law_title an_law_title cd_law_title ct_law_title), sl_law_title⟩)
    (cd_is_law_title : PySem.W.codeIn K cd_law_title "_law_title" = true)
    (kp_law_title : PySem.W.keepIn K (.ref a_law_title) = true)
    (lk_law_text_by : K.lookup a_law_text_by = some ⟨oc_law_text_by, od_law_text_by, .func (PySem.W.fnOf "_law_text_by" "_law_text_by" (defArgs s_law_text_by) (defBody s_law_text_by) (defScope s_law_text_by) .none kV_law_text_by dc_law_text_by pm_law_text_by an_law_text_by cd_law_text_by ct_law_text_by), sl_law_text_by⟩)
    (cd_is_law_text_by : PySem.W.codeIn K cd_law_text_by "_law_text_by" = true)
    (kp_law_text_by : PySem.W.keepIn K (.ref a_law_text_by) = true)
    (lk_law_told_of : K.lookup a_law_told_of = some ⟨oc_law_told_of, od_law_told_of, .func (PySem.W.fnOf "_law_told_of" "_law_told_of" (defArgs s_law_told_of) (defBody s_law_told_of) (defScope s_law_told_of) .none kV_law_told_of dc_law_told_of pm_law_told_of an_law_told_of cd_law_told_of ct_law_told_of), sl_law_told_of⟩)
    (cd_is_law_told_of : PySem.W.codeIn K cd_law_told_of "_law_told_of" = true)
    (kp_law_told_of : PySem.W.keepIn K (.ref a_law_told_of) = true)
    (lk_law_refused : K.lookup a_law_refused = some ⟨oc_law_refused, od_law_refused, .func (PySem.W.fnOf "_law_refused" "_law_refused" (defArgs s_law_refused) (defBody s_law_refused) (defScope s_law_refused) .none kV_law_refused dc_law_refused pm_law_refused an_law_refused cd_law_refused ct_law_refused), sl_law_refused⟩)
    (cd_is_law_refused : PySem.W.codeIn K cd_law_refused "_law_refused" = true)
    (kp_law_refused : PySem.W.keepIn K (.ref a_law_refused) = true)
    (lk_law_holds : K.lookup a_law_holds = some ⟨oc_law_holds, od_law_holds, .func (PySem.W.fnOf "_law_holds" "_law_holds" (defArgs s_law_holds) (defBody s_law_holds) (defScope s_law_holds) .none kV_law_holds dc_law_holds pm_law_holds an_law_holds cd_law_holds ct_law_holds), sl_law_holds⟩)
    (cd_is_law_holds : PySem.W.codeIn K cd_law_holds "_law_holds" = true)
    (kp_law_holds : PySem.W.keepIn K (.ref a_law_holds) = true)
    (lk_law : K.lookup a_law = some ⟨oc_law, od_law, .func (PySem.W.fnOf "law" "law" (defArgs s_law) (defBody s_law) (defScope s_law) .none kV_law dc_law pm_law an_law cd_law ct_law), sl_law⟩)
    (cd_is_law : PySem.W.codeIn K cd_law "law" = true)
    (kp_law : PySem.W.keepIn K (.ref a_law) = true)
    (pg_Rule : PySem.W.plainGet K a_Rule Str.empty = true)
    (hd_Rule : PySem.W.hasDictIn K a_Rule = true)
    (po_Rule : PySem.W.plainOver K a_Rule = true)
    (sa_Rule : PySem.W.findIn K (.ref a_Rule) "__setattr__" = some (some (.builtin "object.__setattr__")))
    (mkk_Rule : PySem.W.makesIn K a_Rule = true)
    (kpc_Rule : PySem.W.keepIn K (.ref a_Rule) = true)
    (nat_Rule_title : PySem.W.findIn K (.ref a_Rule) "title" = some none)
    (pg_HighRule : PySem.W.plainGet K a_HighRule Str.empty = true)
    (hd_HighRule : PySem.W.hasDictIn K a_HighRule = true)
    (po_HighRule : PySem.W.plainOver K a_HighRule = true)
    (sa_HighRule : PySem.W.findIn K (.ref a_HighRule) "__setattr__" = some (some (.builtin "object.__setattr__")))
    (mkk_HighRule : PySem.W.makesIn K a_HighRule = true)
    (kpc_HighRule : PySem.W.keepIn K (.ref a_HighRule) = true)
    (nat_HighRule_title : PySem.W.findIn K (.ref a_HighRule) "title" = some none)
    (pg_LowRule : PySem.W.plainGet K a_LowRule Str.empty = true)
    (hd_LowRule : PySem.W.hasDictIn K a_LowRule = true)
    (po_LowRule : PySem.W.plainOver K a_LowRule = true)
    (sa_LowRule : PySem.W.findIn K (.ref a_LowRule) "__setattr__" = some (some (.builtin "object.__setattr__")))
    (mkk_LowRule : PySem.W.makesIn K a_LowRule = true)
    (kpc_LowRule : PySem.W.keepIn K (.ref a_LowRule) = true)
    (nat_LowRule_title : PySem.W.findIn K (.ref a_LowRule) "title" = some none)
    (pg_NearRule : PySem.W.plainGet K a_NearRule Str.empty = true)
    (hd_NearRule : PySem.W.hasDictIn K a_NearRule = true)
    (po_NearRule : PySem.W.plainOver K a_NearRule = true)
    (sa_NearRule : PySem.W.findIn K (.ref a_NearRule) "__setattr__" = some (some (.builtin "object.__setattr__")))
    (mkk_NearRule : PySem.W.makesIn K a_NearRule = true)
    (kpc_NearRule : PySem.W.keepIn K (.ref a_NearRule) = true)
    (nat_NearRule_title : PySem.W.findIn K (.ref a_NearRule) "title" = some none)
    (pg_SplitRule : PySem.W.plainGet K a_SplitRule Str.empty = true)
    (hd_SplitRule : PySem.W.hasDictIn K a_SplitRule = true)
    (po_SplitRule : PySem.W.plainOver K a_SplitRule = true)
    (sa_SplitRule : PySem.W.findIn K (.ref a_SplitRule) "__setattr__" = some (some (.builtin "object.__setattr__")))
    (mkk_SplitRule : PySem.W.makesIn K a_SplitRule = true)
    (kpc_SplitRule : PySem.W.keepIn K (.ref a_SplitRule) = true)
    (nat_SplitRule_title : PySem.W.findIn K (.ref a_SplitRule) "title" = some none)
    (ns_JoinError : PySem.W.nsIn K mainGlobals "JoinError" = some (some (.ref a_JoinError)))
    (ns_NoRule : PySem.W.nsIn K mainGlobals "NoRule" = some (some (.ref a_NoRule)))
    (ns_NoPiece : PySem.W.nsIn K mainGlobals "NoPiece" = some (some (.ref a_NoPiece)))
    (ns_Twice : PySem.W.nsIn K mainGlobals "Twice" = some (some (.ref a_Twice)))
    (ns_SameName : PySem.W.nsIn K mainGlobals "SameName" = some (some (.ref a_SameName)))
    (ns_Unmet : PySem.W.nsIn K mainGlobals "Unmet" = some (some (.ref a_Unmet)))
    (ns_TooFar : PySem.W.nsIn K mainGlobals "TooFar" = some (some (.ref a_TooFar)))
    (ns_NoWhole : PySem.W.nsIn K mainGlobals "NoWhole" = some (some (.ref a_NoWhole)))
    (ns_NoBase : PySem.W.nsIn K mainGlobals "NoBase" = some (some (.ref a_NoBase)))
    (ns_Lost : PySem.W.nsIn K mainGlobals "Lost" = some (some (.ref a_Lost)))
    (ns_NoSense : PySem.W.nsIn K mainGlobals "NoSense" = some (some (.ref a_NoSense)))
    (ea_Rule : PySem.W.findIn K (.ref a_Rule) "__class__" = some (some (.builtin "object.__class__")))
    (em_Rule : PySem.W.mroIn K a_Rule (.type "object") = some true)
    (kit_Rule_Rule : PySem.W.kitOne K (.ref a_Rule) (.ref a_Rule) = some true)
    (ea_HighRule : PySem.W.findIn K (.ref a_HighRule) "__class__" = some (some (.builtin "object.__class__")))
    (em_HighRule : PySem.W.mroIn K a_HighRule (.type "object") = some true)
    (kit_HighRule_Rule : PySem.W.kitOne K (.ref a_HighRule) (.ref a_Rule) = some true)
    (ea_LowRule : PySem.W.findIn K (.ref a_LowRule) "__class__" = some (some (.builtin "object.__class__")))
    (em_LowRule : PySem.W.mroIn K a_LowRule (.type "object") = some true)
    (kit_LowRule_Rule : PySem.W.kitOne K (.ref a_LowRule) (.ref a_Rule) = some true)
    (ea_NearRule : PySem.W.findIn K (.ref a_NearRule) "__class__" = some (some (.builtin "object.__class__")))
    (em_NearRule : PySem.W.mroIn K a_NearRule (.type "object") = some true)
    (kit_NearRule_Rule : PySem.W.kitOne K (.ref a_NearRule) (.ref a_Rule) = some true)
    (ea_SplitRule : PySem.W.findIn K (.ref a_SplitRule) "__class__" = some (some (.builtin "object.__class__")))
    (em_SplitRule : PySem.W.mroIn K a_SplitRule (.type "object") = some true)
    (kit_SplitRule_Rule : PySem.W.kitOne K (.ref a_SplitRule) (.ref a_Rule) = some true)
    (en : PySem.W.specialIn K (.builtin "object.__class__") "__get__" = some (some (.builtin "getset_descriptor.__get__")))
    (et : PySem.W.takesIn K (.builtin "object.__class__") = some true)
    (bej : PySem.W.subIn K (.ref a_JoinError) (.type "BaseException") = some true)
    (hdj : PySem.W.hasDictIn K a_JoinError = true)
    (tyj : PySem.W.typeIn K (.ref a_JoinError) = some (.type "type"))
    (be_NoRule : PySem.W.subIn K (.ref a_NoRule) (.type "BaseException") = some true)
    (ty_NoRule : PySem.W.typeIn K (.ref a_NoRule) = some (.type "type"))
    (kc_NoRule : PySem.W.keepIn K (.ref a_NoRule) = true)
    (eg_NoRule : PySem.W.findIn K (.ref a_NoRule) "__getattribute__" = some (some (.builtin "BaseException.__getattribute__")))
    (ek_NoRule : PySem.W.findIn K (.ref a_NoRule) "__getattr__" = some none)
    (hd_NoRule : PySem.W.hasDictIn K a_NoRule = true)
    (ea_NoRule : PySem.W.findIn K (.ref a_NoRule) "__class__" = some (some (.builtin "object.__class__")))
    (em_NoRule : PySem.W.mroIn K a_NoRule (.type "object") = some true)
    (ve_NoRule : PySem.W.kitOne K (.ref a_NoRule) (.type "ValueError") = some true)
    (x_NoRule : PySem.W.excIn K a_NoRule [.type "ValueError", .type "Exception", .type "BaseException", .type "object"] "ValueError.__new__" = true)
    (kit_NoRule_JoinError : PySem.W.kitOne K (.ref a_NoRule) (.ref a_JoinError) = some true)
    (kit_NoRule_NoRule : PySem.W.kitOne K (.ref a_NoRule) (.ref a_NoRule) = some true)
    (kit_NoRule_NoPiece : PySem.W.kitOne K (.ref a_NoRule) (.ref a_NoPiece) = some false)
    (kit_NoRule_Twice : PySem.W.kitOne K (.ref a_NoRule) (.ref a_Twice) = some false)
    (kit_NoRule_SameName : PySem.W.kitOne K (.ref a_NoRule) (.ref a_SameName) = some false)
    (kit_NoRule_Unmet : PySem.W.kitOne K (.ref a_NoRule) (.ref a_Unmet) = some false)
    (kit_NoRule_TooFar : PySem.W.kitOne K (.ref a_NoRule) (.ref a_TooFar) = some false)
    (kit_NoRule_NoWhole : PySem.W.kitOne K (.ref a_NoRule) (.ref a_NoWhole) = some false)
    (kit_NoRule_NoBase : PySem.W.kitOne K (.ref a_NoRule) (.ref a_NoBase) = some false)
    (kit_NoRule_Lost : PySem.W.kitOne K (.ref a_NoRule) (.ref a_Lost) = some false)
    (kit_NoRule_NoSense : PySem.W.kitOne K (.ref a_NoRule) (.ref a_NoSense) = some false)
    (sj_NoRule : PySem.W.subIn K (.ref a_NoRule) (.ref a_JoinError) = some true)
    (ns_ValueError : PySem.W.nsIn K mainGlobals "ValueError" = some none)
    (ns_isinstance : PySem.W.nsIn K mainGlobals "isinstance" = some none)
    (ns_len : PySem.W.nsIn K mainGlobals "len" = some none)
    (ns_range : PySem.W.nsIn K mainGlobals "range" = some none)
    (ns_str : PySem.W.nsIn K mainGlobals "str" = some none)
    : ∃ fd : FuncData, (∀ (s : Shared) (v : Value), BindsTo s fd ⟨[v], []⟩ [("_law_script", v)]) ∧ ∀ base : Heap, K.In base → base.Ns mainGlobals mg → FnOk l.prog w K mg base CX0 6 fa fd ["_law_script"] (sp_law K) := by
  have e := hfa.symm.trans (PySem.W.mg_of X G ns_law)
  cases e
  exact ⟨_, fun s v => .of_eq rfl, fun base _ _ => ok_law (P := l.prog) (w := w) (base := base) (T := {
    a_Rule___init__ := _, d_Rule___init__ := _, F_Rule___init__ := fun_mk (st := s_Rule___init__) lk_Rule___init__ cd_is_Rule___init__ kp_Rule___init__,
    b_Rule___init__ := (fun_mk (st := s_Rule___init__) lk_Rule___init__ cd_is_Rule___init__ kp_Rule___init__).binds (ps := ["self", "title"]) fun _ _ _ _ _ _ us hl => match us, hl with | [_, _], _ => rfl,
    a_Rule_leans := _, d_Rule_leans := _, F_Rule_leans := fun_mk (st := s_Rule_leans) lk_Rule_leans cd_is_Rule_leans kp_Rule_leans,
    b_Rule_leans := (fun_mk (st := s_Rule_leans) lk_Rule_leans cd_is_Rule_leans kp_Rule_leans).binds (ps := ["self"]) fun _ _ _ _ _ _ us hl => match us, hl with | [_], _ => rfl,
    a_NearRule_leans := _, d_NearRule_leans := _, F_NearRule_leans := fun_mk (st := s_NearRule_leans) lk_NearRule_leans cd_is_NearRule_leans kp_NearRule_leans,
    b_NearRule_leans := (fun_mk (st := s_NearRule_leans) lk_NearRule_leans cd_is_NearRule_leans kp_NearRule_leans).binds (ps := ["self"]) fun _ _ _ _ _ _ us hl => match us, hl with | [_], _ => rfl,
    a_SplitRule_leans := _, d_SplitRule_leans := _, F_SplitRule_leans := fun_mk (st := s_SplitRule_leans) lk_SplitRule_leans cd_is_SplitRule_leans kp_SplitRule_leans,
    b_SplitRule_leans := (fun_mk (st := s_SplitRule_leans) lk_SplitRule_leans cd_is_SplitRule_leans kp_SplitRule_leans).binds (ps := ["self"]) fun _ _ _ _ _ _ us hl => match us, hl with | [_], _ => rfl,
    a_rule_of := _, d_rule_of := _, F_rule_of := fun_mk (st := s_rule_of) lk_rule_of cd_is_rule_of kp_rule_of,
    m_rule_of := PySem.W.mg_of X G ns_rule_of,
    b_rule_of := (fun_mk (st := s_rule_of) lk_rule_of cd_is_rule_of kp_rule_of).binds (ps := ["title"]) fun _ _ _ _ _ _ us hl => match us, hl with | [_], _ => rfl,
    a_law_sign_by := _, d_law_sign_by := _, F_law_sign_by := fun_mk (st := s_law_sign_by) lk_law_sign_by cd_is_law_sign_by kp_law_sign_by,
    m_law_sign_by := PySem.W.mg_of X G ns_law_sign_by,
    b_law_sign_by := (fun_mk (st := s_law_sign_by) lk_law_sign_by cd_is_law_sign_by kp_law_sign_by).binds (ps := ["_law_cell"]) fun _ _ _ _ _ _ us hl => match us, hl with | [_], _ => rfl,
    a_law_title := _, d_law_title := _, F_law_title := fun_mk (st := s_law_title) lk_law_title cd_is_law_title kp_law_title,
    m_law_title := PySem.W.mg_of X G ns_law_title,
    b_law_title := (fun_mk (st := s_law_title) lk_law_title cd_is_law_title kp_law_title).binds (ps := ["_law_cell"]) fun _ _ _ _ _ _ us hl => match us, hl with | [_], _ => rfl,
    a_law_text_by := _, d_law_text_by := _, F_law_text_by := fun_mk (st := s_law_text_by) lk_law_text_by cd_is_law_text_by kp_law_text_by,
    m_law_text_by := PySem.W.mg_of X G ns_law_text_by,
    b_law_text_by := (fun_mk (st := s_law_text_by) lk_law_text_by cd_is_law_text_by kp_law_text_by).binds (ps := ["_law_cell", "_law_other"]) fun _ _ _ _ _ _ us hl => match us, hl with | [_, _], _ => rfl,
    a_law_told_of := _, d_law_told_of := _, F_law_told_of := fun_mk (st := s_law_told_of) lk_law_told_of cd_is_law_told_of kp_law_told_of,
    m_law_told_of := PySem.W.mg_of X G ns_law_told_of,
    b_law_told_of := (fun_mk (st := s_law_told_of) lk_law_told_of cd_is_law_told_of kp_law_told_of).binds (ps := ["_law_text"]) fun _ _ _ _ _ _ us hl => match us, hl with | [_], _ => rfl,
    a_law_refused := _, d_law_refused := _, F_law_refused := fun_mk (st := s_law_refused) lk_law_refused cd_is_law_refused kp_law_refused,
    m_law_refused := PySem.W.mg_of X G ns_law_refused,
    b_law_refused := (fun_mk (st := s_law_refused) lk_law_refused cd_is_law_refused kp_law_refused).binds (ps := ["_law_told"]) fun _ _ _ _ _ _ us hl => match us, hl with | [_], _ => rfl,
    a_law_holds := _, d_law_holds := _, F_law_holds := fun_mk (st := s_law_holds) lk_law_holds cd_is_law_holds kp_law_holds,
    m_law_holds := PySem.W.mg_of X G ns_law_holds,
    b_law_holds := (fun_mk (st := s_law_holds) lk_law_holds cd_is_law_holds kp_law_holds).binds (ps := ["_law_cell", "_law_other"]) fun _ _ _ _ _ _ us hl => match us, hl with | [_, _], _ => rfl,
    a_law := _, d_law := _, F_law := fun_mk (st := s_law) lk_law cd_is_law kp_law,
    m_law := PySem.W.mg_of X G ns_law,
    b_law := (fun_mk (st := s_law) lk_law cd_is_law kp_law).binds (ps := ["_law_script"]) fun _ _ _ _ _ _ us hl => match us, hl with | [_], _ => rfl,
    a_Rule := _, c_Rule := ⟨pg_Rule, hd_Rule, po_Rule, sa_Rule⟩, g_Rule := PySem.W.mg_of X G ns_Rule,
    k_Rule := ⟨mkk_Rule, fi_Rule___init__, isf_Rule___init__, kpc_Rule⟩,
    na_Rule_title := nat_Rule_title,
    me_Rule_leans := ⟨fi_Rule_leans, isf_Rule_leans, kp_Rule_leans⟩,
    a_HighRule := _, c_HighRule := ⟨pg_HighRule, hd_HighRule, po_HighRule, sa_HighRule⟩, g_HighRule := PySem.W.mg_of X G ns_HighRule,
    k_HighRule := ⟨mkk_HighRule, fi_HighRule___init__, isf_Rule___init__, kpc_HighRule⟩,
    na_HighRule_title := nat_HighRule_title,
    me_HighRule_leans := ⟨fi_HighRule_leans, isf_Rule_leans, kp_Rule_leans⟩,
    a_LowRule := _, c_LowRule := ⟨pg_LowRule, hd_LowRule, po_LowRule, sa_LowRule⟩, g_LowRule := PySem.W.mg_of X G ns_LowRule,
    k_LowRule := ⟨mkk_LowRule, fi_LowRule___init__, isf_Rule___init__, kpc_LowRule⟩,
    na_LowRule_title := nat_LowRule_title,
    me_LowRule_leans := ⟨fi_LowRule_leans, isf_Rule_leans, kp_Rule_leans⟩,
    a_NearRule := _, c_NearRule := ⟨pg_NearRule, hd_NearRule, po_NearRule, sa_NearRule⟩, g_NearRule := PySem.W.mg_of X G ns_NearRule,
    k_NearRule := ⟨mkk_NearRule, fi_NearRule___init__, isf_Rule___init__, kpc_NearRule⟩,
    na_NearRule_title := nat_NearRule_title,
    me_NearRule_leans := ⟨fi_NearRule_leans, isf_NearRule_leans, kp_NearRule_leans⟩,
    a_SplitRule := _, c_SplitRule := ⟨pg_SplitRule, hd_SplitRule, po_SplitRule, sa_SplitRule⟩, g_SplitRule := PySem.W.mg_of X G ns_SplitRule,
    k_SplitRule := ⟨mkk_SplitRule, fi_SplitRule___init__, isf_Rule___init__, kpc_SplitRule⟩,
    na_SplitRule_title := nat_SplitRule_title,
    me_SplitRule_leans := ⟨fi_SplitRule_leans, isf_SplitRule_leans, kp_SplitRule_leans⟩,
    a_JoinError := _, g_JoinError := PySem.W.mg_of X G ns_JoinError,
    a_NoRule := _, g_NoRule := PySem.W.mg_of X G ns_NoRule,
    a_NoPiece := _, g_NoPiece := PySem.W.mg_of X G ns_NoPiece,
    a_Twice := _, g_Twice := PySem.W.mg_of X G ns_Twice,
    a_SameName := _, g_SameName := PySem.W.mg_of X G ns_SameName,
    a_Unmet := _, g_Unmet := PySem.W.mg_of X G ns_Unmet,
    a_TooFar := _, g_TooFar := PySem.W.mg_of X G ns_TooFar,
    a_NoWhole := _, g_NoWhole := PySem.W.mg_of X G ns_NoWhole,
    a_NoBase := _, g_NoBase := PySem.W.mg_of X G ns_NoBase,
    a_Lost := _, g_Lost := PySem.W.mg_of X G ns_Lost,
    a_NoSense := _, g_NoSense := PySem.W.mg_of X G ns_NoSense,
    en := en, et := et,
    ea_Rule := ea_Rule, em_Rule := em_Rule,
    kit_Rule_Rule := kit_Rule_Rule,
    ea_HighRule := ea_HighRule, em_HighRule := em_HighRule,
    kit_HighRule_Rule := kit_HighRule_Rule,
    ea_LowRule := ea_LowRule, em_LowRule := em_LowRule,
    kit_LowRule_Rule := kit_LowRule_Rule,
    ea_NearRule := ea_NearRule, em_NearRule := em_NearRule,
    kit_NearRule_Rule := kit_NearRule_Rule,
    ea_SplitRule := ea_SplitRule, em_SplitRule := em_SplitRule,
    kit_SplitRule_Rule := kit_SplitRule_Rule,
    be_NoRule := be_NoRule, ty_NoRule := ty_NoRule, kc_NoRule := kc_NoRule, ec_NoRule := ⟨eg_NoRule, ek_NoRule, be_NoRule, hd_NoRule, ea_NoRule, en, et, em_NoRule⟩, ve_NoRule := ve_NoRule,
    x_NoRule := x_NoRule,
    kit_NoRule_JoinError := kit_NoRule_JoinError,
    kit_NoRule_NoRule := kit_NoRule_NoRule,
    kit_NoRule_NoPiece := kit_NoRule_NoPiece,
    kit_NoRule_Twice := kit_NoRule_Twice,
    kit_NoRule_SameName := kit_NoRule_SameName,
    kit_NoRule_Unmet := kit_NoRule_Unmet,
    kit_NoRule_TooFar := kit_NoRule_TooFar,
    kit_NoRule_NoWhole := kit_NoRule_NoWhole,
    kit_NoRule_NoBase := kit_NoRule_NoBase,
    kit_NoRule_Lost := kit_NoRule_Lost,
    kit_NoRule_NoSense := kit_NoRule_NoSense,
    exm_NoRule := PySem.W.exm_ref bej hdj tyj sj_NoRule,
    n_ValueError := PySem.W.mg_none_of X G ns_ValueError,
    n_isinstance := PySem.W.mg_none_of X G ns_isinstance,
    n_len := PySem.W.mg_none_of X G ns_len,
    n_range := PySem.W.mg_none_of X G ns_range,
    n_str := PySem.W.mg_none_of X G ns_str })⟩
theorem walk {l : PySem.W.OpenLaw} {q : Program} {loose : List Str} {XP : (Str → Option Value) → Heap → Prop} {YP : World → Heap → Prop} {d : DefRec} {K : Params → PySem.W.Frag} (hn : l.most = some 63) (hdf : d.params.defaults = [])
    (hY : ∀ (w : World) (h : Heap), YP w h → (K w.params).In h)
    (F : ∀ (w : World) (mg : Str → Option Value) (fa : Addr) (h : Heap), (K w.params).In h → h.Ns mainGlobals mg → mg d.name = some (.ref fa) →
      ∃ fd : FuncData, (∀ (s : Shared) (u : Value), BindsTo s fd ⟨[u], []⟩ [("_law_script", u)]) ∧ ∀ base : Heap, (K w.params).In base → base.Ns mainGlobals mg → FnOk l.prog w (K w.params) mg base CX0 6 fa fd ["_law_script"] (sp_law (K w.params))) :
    PySem.W.WalkO q loose XP YP l.row.toRowW d [] (fun f vs => PySem.call f vs) :=
  L2.walk_of (n := 63) (k := 6) (x := "_law_script") (CX := fun _ => CX0) (sp := fun w => sp_law (K w.params)) hn (by decide) hdf ⟨rfl, by decide, by decide⟩ hY F (fun _ _ a ns hl _ hS => ⟨a, ns, rfl, hS, hl, fun _ => rfl⟩) fun _ _ _ _ _ z => z
end Jw
open PySem PySem.W PyProof.Rows
set_option maxRecDepth 100000 in
set_option maxHeartbeats 0 in
theorem PySem.Challenge.cw_joinload_k09_rules_by_titles_holds : PySem.Challenge.rw_joinload_k09_rules_by_titles.Holds := by
  w_on; o_law; k_head; (case hw => w_witness2)
  k_fill
  refine Jw.walk (l := PySem.Challenge.rw_joinload_k09_rules_by_titles) rfl rfl (fun w h Y => PySem.W.kIn_of Y) ?F
  case F =>
    intro w mg fa h KX G hmg
    refine' Jw.all_mk KX G hmg ?ns_Rule ?ns_HighRule ?ns_LowRule ?ns_NearRule ?ns_SplitRule ?fi_Rule___init__ ?fi_Rule_leans ?fi_HighRule___init__ ?fi_HighRule_leans ?fi_LowRule___init__ ?fi_LowRule_leans ?fi_NearRule___init__ ?fi_NearRule_leans ?fi_SplitRule___init__ ?fi_SplitRule_leans ?ns_rule_of ?ns_law_sign_by ?ns_law_title ?ns_law_text_by ?ns_law_told_of ?ns_law_refused ?ns_law_holds ?ns_law ?lk_Rule___init__ ?cd_is_Rule___init__ ?kp_Rule___init__ ?isf_Rule___init__ ?lk_Rule_leans ?cd_is_Rule_leans ?kp_Rule_leans ?isf_Rule_leans ?lk_NearRule_leans ?cd_is_NearRule_leans ?kp_NearRule_leans ?isf_NearRule_leans ?lk_SplitRule_leans ?cd_is_SplitRule_leans ?kp_SplitRule_leans ?isf_SplitRule_leans ?lk_rule_of ?cd_is_rule_of ?kp_rule_of ?lk_law_sign_by ?cd_is_law_sign_by ?kp_law_sign_by ?lk_law_title ?cd_is_law_title ?kp_law_title ?lk_law_text_by ?cd_is_law_text_by ?kp_law_text_by ?lk_law_told_of ?cd_is_law_told_of ?kp_law_told_of ?lk_law_refused ?cd_is_law_refused ?kp_law_refused ?lk_law_holds ?cd_is_law_holds ?kp_law_holds ?lk_law ?cd_is_law ?kp_law ?pg_Rule ?hd_Rule ?po_Rule ?sa_Rule ?mkk_Rule ?kpc_Rule ?nat_Rule_title ?pg_HighRule ?hd_HighRule ?po_HighRule ?sa_HighRule ?mkk_HighRule ?kpc_HighRule ?nat_HighRule_title ?pg_LowRule ?hd_LowRule ?po_LowRule ?sa_LowRule ?mkk_LowRule ?kpc_LowRule ?nat_LowRule_title ?pg_NearRule ?hd_NearRule ?po_NearRule ?sa_NearRule ?mkk_NearRule ?kpc_NearRule ?nat_NearRule_title ?pg_SplitRule ?hd_SplitRule ?po_SplitRule ?sa_SplitRule ?mkk_SplitRule ?kpc_SplitRule ?nat_SplitRule_title ?ns_JoinError ?ns_NoRule ?ns_NoPiece ?ns_Twice ?ns_SameName ?ns_Unmet ?ns_TooFar ?ns_NoWhole ?ns_NoBase ?ns_Lost ?ns_NoSense ?ea_Rule ?em_Rule ?kit_Rule_Rule ?ea_HighRule ?em_HighRule ?kit_HighRule_Rule ?ea_LowRule ?em_LowRule ?kit_LowRule_Rule ?ea_NearRule ?em_NearRule ?kit_NearRule_Rule ?ea_SplitRule ?em_SplitRule ?kit_SplitRule_Rule ?en ?et ?bej ?hdj ?tyj ?be_NoRule ?ty_NoRule ?kc_NoRule ?eg_NoRule ?ek_NoRule ?hd_NoRule ?ea_NoRule ?em_NoRule ?ve_NoRule ?x_NoRule ?kit_NoRule_JoinError ?kit_NoRule_NoRule ?kit_NoRule_NoPiece ?kit_NoRule_Twice ?kit_NoRule_SameName ?kit_NoRule_Unmet ?kit_NoRule_TooFar ?kit_NoRule_NoWhole ?kit_NoRule_NoBase ?kit_NoRule_Lost ?kit_NoRule_NoSense ?sj_NoRule ?ns_ValueError ?ns_isinstance ?ns_len ?ns_range ?ns_str
    (case ns_Rule => first | k_is | k_exc | kit_is)
    (case ns_HighRule => first | k_is | k_exc | kit_is)
    (case ns_LowRule => first | k_is | k_exc | kit_is)
    (case ns_NearRule => first | k_is | k_exc | kit_is)
    (case ns_SplitRule => first | k_is | k_exc | kit_is)
    (case fi_Rule___init__ => first | k_is | k_exc | kit_is)
    (case fi_Rule_leans => first | k_is | k_exc | kit_is)
    (case fi_HighRule___init__ => first | k_is | k_exc | kit_is)
    (case fi_HighRule_leans => first | k_is | k_exc | kit_is)
    (case fi_LowRule___init__ => first | k_is | k_exc | kit_is)
    (case fi_LowRule_leans => first | k_is | k_exc | kit_is)
    (case fi_NearRule___init__ => first | k_is | k_exc | kit_is)
    (case fi_NearRule_leans => first | k_is | k_exc | kit_is)
    (case fi_SplitRule___init__ => first | k_is | k_exc | kit_is)
    (case fi_SplitRule_leans => first | k_is | k_exc | kit_is)
    (case ns_rule_of => first | k_is | k_exc | kit_is)
    (case ns_law_sign_by => first | k_is | k_exc | kit_is)
    (case ns_law_title => first | k_is | k_exc | kit_is)
    (case ns_law_text_by => first | k_is | k_exc | kit_is)
    (case ns_law_told_of => first | k_is | k_exc | kit_is)
    (case ns_law_refused => first | k_is | k_exc | kit_is)
    (case ns_law_holds => first | k_is | k_exc | kit_is)
    (case ns_law => first | k_is | k_exc | kit_is)
    (case lk_Rule___init__ => first | k_is | k_exc | kit_is)
    (case cd_is_Rule___init__ => first | k_is | k_exc | kit_is)
    (case kp_Rule___init__ => first | k_is | k_exc | kit_is)
    (case isf_Rule___init__ => first | k_is | k_exc | kit_is)
    (case lk_Rule_leans => first | k_is | k_exc | kit_is)
    (case cd_is_Rule_leans => first | k_is | k_exc | kit_is)
    (case kp_Rule_leans => first | k_is | k_exc | kit_is)
    (case isf_Rule_leans => first | k_is | k_exc | kit_is)
    (case lk_NearRule_leans => first | k_is | k_exc | kit_is)
    (case cd_is_NearRule_leans => first | k_is | k_exc | kit_is)
    (case kp_NearRule_leans => first | k_is | k_exc | kit_is)
    (case isf_NearRule_leans => first | k_is | k_exc | kit_is)
    (case lk_SplitRule_leans => first | k_is | k_exc | kit_is)
    (case cd_is_SplitRule_leans => first | k_is | k_exc | kit_is)
    (case kp_SplitRule_leans => first | k_is | k_exc | kit_is)
    (case isf_SplitRule_leans => first | k_is | k_exc | kit_is)
    (case lk_rule_of => first | k_is | k_exc | kit_is)
    (case cd_is_rule_of => first | k_is | k_exc | kit_is)
    (case kp_rule_of => first | k_is | k_exc | kit_is)
    (case lk_law_sign_by => first | k_is | k_exc | kit_is)
    (case cd_is_law_sign_by => first | k_is | k_exc | kit_is)
    (case kp_law_sign_by => first | k_is | k_exc | kit_is)
    (case lk_law_title => first | k_is | k_exc | kit_is)
    (case cd_is_law_title => first | k_is | k_exc | kit_is)
    (case kp_law_title => first | k_is | k_exc | kit_is)
    (case lk_law_text_by => first | k_is | k_exc | kit_is)
    (case cd_is_law_text_by => first | k_is | k_exc | kit_is)
    (case kp_law_text_by => first | k_is | k_exc | kit_is)
    (case lk_law_told_of => first | k_is | k_exc | kit_is)
    (case cd_is_law_told_of => first | k_is | k_exc | kit_is)
    (case kp_law_told_of => first | k_is | k_exc | kit_is)
    (case lk_law_refused => first | k_is | k_exc | kit_is)
    (case cd_is_law_refused => first | k_is | k_exc | kit_is)
    (case kp_law_refused => first | k_is | k_exc | kit_is)
    (case lk_law_holds => first | k_is | k_exc | kit_is)
    (case cd_is_law_holds => first | k_is | k_exc | kit_is)
    (case kp_law_holds => first | k_is | k_exc | kit_is)
    (case lk_law => first | k_is | k_exc | kit_is)
    (case cd_is_law => first | k_is | k_exc | kit_is)
    (case kp_law => first | k_is | k_exc | kit_is)
    (case pg_Rule => first | k_is | k_exc | kit_is)
    (case hd_Rule => first | k_is | k_exc | kit_is)
    (case po_Rule => first | k_is | k_exc | kit_is)
    (case sa_Rule => first | k_is | k_exc | kit_is)
    (case mkk_Rule => first | k_is | k_exc | kit_is)
    (case kpc_Rule => first | k_is | k_exc | kit_is)
    (case nat_Rule_title => first | k_is | k_exc | kit_is)
    (case pg_HighRule => first | k_is | k_exc | kit_is)
    (case hd_HighRule => first | k_is | k_exc | kit_is)
    (case po_HighRule => first | k_is | k_exc | kit_is)
    (case sa_HighRule => first | k_is | k_exc | kit_is)
    (case mkk_HighRule => first | k_is | k_exc | kit_is)
    (case kpc_HighRule => first | k_is | k_exc | kit_is)
    (case nat_HighRule_title => first | k_is | k_exc | kit_is)
    (case pg_LowRule => first | k_is | k_exc | kit_is)
    (case hd_LowRule => first | k_is | k_exc | kit_is)
    (case po_LowRule => first | k_is | k_exc | kit_is)
    (case sa_LowRule => first | k_is | k_exc | kit_is)
    (case mkk_LowRule => first | k_is | k_exc | kit_is)
    (case kpc_LowRule => first | k_is | k_exc | kit_is)
    (case nat_LowRule_title => first | k_is | k_exc | kit_is)
    (case pg_NearRule => first | k_is | k_exc | kit_is)
    (case hd_NearRule => first | k_is | k_exc | kit_is)
    (case po_NearRule => first | k_is | k_exc | kit_is)
    (case sa_NearRule => first | k_is | k_exc | kit_is)
    (case mkk_NearRule => first | k_is | k_exc | kit_is)
    (case kpc_NearRule => first | k_is | k_exc | kit_is)
    (case nat_NearRule_title => first | k_is | k_exc | kit_is)
    (case pg_SplitRule => first | k_is | k_exc | kit_is)
    (case hd_SplitRule => first | k_is | k_exc | kit_is)
    (case po_SplitRule => first | k_is | k_exc | kit_is)
    (case sa_SplitRule => first | k_is | k_exc | kit_is)
    (case mkk_SplitRule => first | k_is | k_exc | kit_is)
    (case kpc_SplitRule => first | k_is | k_exc | kit_is)
    (case nat_SplitRule_title => first | k_is | k_exc | kit_is)
    (case ns_JoinError => first | k_is | k_exc | kit_is)
    (case ns_NoRule => first | k_is | k_exc | kit_is)
    (case ns_NoPiece => first | k_is | k_exc | kit_is)
    (case ns_Twice => first | k_is | k_exc | kit_is)
    (case ns_SameName => first | k_is | k_exc | kit_is)
    (case ns_Unmet => first | k_is | k_exc | kit_is)
    (case ns_TooFar => first | k_is | k_exc | kit_is)
    (case ns_NoWhole => first | k_is | k_exc | kit_is)
    (case ns_NoBase => first | k_is | k_exc | kit_is)
    (case ns_Lost => first | k_is | k_exc | kit_is)
    (case ns_NoSense => first | k_is | k_exc | kit_is)
    (case ea_Rule => first | k_is | k_exc | kit_is)
    (case em_Rule => first | k_is | k_exc | kit_is)
    (case kit_Rule_Rule => first | k_is | k_exc | kit_is)
    (case ea_HighRule => first | k_is | k_exc | kit_is)
    (case em_HighRule => first | k_is | k_exc | kit_is)
    (case kit_HighRule_Rule => first | k_is | k_exc | kit_is)
    (case ea_LowRule => first | k_is | k_exc | kit_is)
    (case em_LowRule => first | k_is | k_exc | kit_is)
    (case kit_LowRule_Rule => first | k_is | k_exc | kit_is)
    (case ea_NearRule => first | k_is | k_exc | kit_is)
    (case em_NearRule => first | k_is | k_exc | kit_is)
    (case kit_NearRule_Rule => first | k_is | k_exc | kit_is)
    (case ea_SplitRule => first | k_is | k_exc | kit_is)
    (case em_SplitRule => first | k_is | k_exc | kit_is)
    (case kit_SplitRule_Rule => first | k_is | k_exc | kit_is)
    (case en => first | k_is | k_exc | kit_is)
    (case et => first | k_is | k_exc | kit_is)
    (case bej => first | k_is | k_exc | kit_is)
    (case hdj => first | k_is | k_exc | kit_is)
    (case tyj => first | k_is | k_exc | kit_is)
    (case be_NoRule => first | k_is | k_exc | kit_is)
    (case ty_NoRule => first | k_is | k_exc | kit_is)
    (case kc_NoRule => first | k_is | k_exc | kit_is)
    (case eg_NoRule => first | k_is | k_exc | kit_is)
    (case ek_NoRule => first | k_is | k_exc | kit_is)
    (case hd_NoRule => first | k_is | k_exc | kit_is)
    (case ea_NoRule => first | k_is | k_exc | kit_is)
    (case em_NoRule => first | k_is | k_exc | kit_is)
    (case ve_NoRule => first | k_is | k_exc | kit_is)
    (case x_NoRule => first | k_is | k_exc | kit_is)
    (case kit_NoRule_JoinError => first | k_is | k_exc | kit_is)
    (case kit_NoRule_NoRule => first | k_is | k_exc | kit_is)
    (case kit_NoRule_NoPiece => first | k_is | k_exc | kit_is)
    (case kit_NoRule_Twice => first | k_is | k_exc | kit_is)
    (case kit_NoRule_SameName => first | k_is | k_exc | kit_is)
    (case kit_NoRule_Unmet => first | k_is | k_exc | kit_is)
    (case kit_NoRule_TooFar => first | k_is | k_exc | kit_is)
    (case kit_NoRule_NoWhole => first | k_is | k_exc | kit_is)
    (case kit_NoRule_NoBase => first | k_is | k_exc | kit_is)
    (case kit_NoRule_Lost => first | k_is | k_exc | kit_is)
    (case kit_NoRule_NoSense => first | k_is | k_exc | kit_is)
    (case sj_NoRule => first | k_is | k_exc | kit_is)
    (case ns_ValueError => first | k_is | k_exc | kit_is)
    (case ns_isinstance => first | k_is | k_exc | kit_is)
    (case ns_len => first | k_is | k_exc | kit_is)
    (case ns_range => first | k_is | k_exc | kit_is)
    (case ns_str => first | k_is | k_exc | kit_is)
