import PyProof.Rows.All
import Wide.All
import OpenK.AllK
import Wide.FinOn
import HandS.WordsExc
import KE.RegKIsAll
import HandS.ForMost
import HandS.IsInst
import HandS.Wide
import HandS.WideBits
import HandS.Style
import PyProof.Rows.BitMore
import KE.BitLaws
import PyProof.Rows.All
import Wide.All
import OpenK.AllK
import Wide.FinOn
import HandS.ForMost
import HandS.IsInst
import HandS.Wide
import HandS.WideBits
import HandS.Style
import HandS.More
import HandS.Exc
import HandS.ExcOwn
import HandS.ExcValue
import HandS.ExcIs
import HandS.ExcField
import HandS.ExcInit
import HandS.Text
import KE.KExcIs
import HandS.Finally
import PySem.Challenge.RW_joinload_k54_whole_runs_by_a_plain_model
set_option Elab.async false
set_option linter.all false
set_option maxRecDepth 100000
set_option maxHeartbeats 4000000
set_option maxHeartbeats 4000000
/-! Bits of whole numbers of any size: & and ^ by halves; a field put in. -/
namespace Jl
open PySem PyProof.Rows
theorem nat_and_rec (a b : Nat) : (a &&& b) = 2 * (a / 2 &&& b / 2) + (if a % 2 = 1 ∧ b % 2 = 1 then 1 else 0) := by
  have e : (a &&& b) / 2 = a / 2 &&& b / 2 := Nat.and_div_two
  have o := @Nat.and_mod_two_eq_one a b
  split <;> rename_i h
  · have := o.mpr h; omega
  · have : ¬ (a &&& b) % 2 = 1 := fun z => h (o.mp z)
    omega
theorem nat_or_rec (a b : Nat) : (a ||| b) = 2 * (a / 2 ||| b / 2) + (if a % 2 = 1 ∨ b % 2 = 1 then 1 else 0) := by
  have e : (a ||| b) / 2 = a / 2 ||| b / 2 := Nat.or_div_two
  have o := @Nat.or_mod_two_eq_one a b
  split <;> rename_i h
  · have := o.mpr h; omega
  · have : ¬ (a ||| b) % 2 = 1 := fun z => h (o.mp z)
    omega
theorem toNat_half {x : Int} (h : 0 ≤ x) : x.toNat / 2 = (x / 2).toNat := by omega
theorem not_half (x : Int) : Builtin.bitNot x / 2 = Builtin.bitNot (x / 2) := by unfold Builtin.bitNot; omega
/-- & by halves -/
theorem and_rec (x y : Int) : Builtin.bitAnd x y = 2 * Builtin.bitAnd (x / 2) (y / 2) + (if x % 2 = 1 ∧ y % 2 = 1 then 1 else 0) := by
  by_cases hx : 0 ≤ x
  · have hx' : 0 ≤ x / 2 := by omega
    by_cases hy : 0 ≤ y
    · have hy' : 0 ≤ y / 2 := by omega
      rw [bitAnd_pp hx hy, bitAnd_pp hx' hy', nat_and_rec, toNat_half hx, toNat_half hy]
      split <;> split <;> omega
    · have hy' : ¬ 0 ≤ y / 2 := by omega
      have hn : 0 ≤ Builtin.bitNot y := by unfold Builtin.bitNot; omega
      rw [bitAnd_comm x y, bitAnd_comm (x / 2), bitAnd_np hy hx, bitAnd_np hy' hx', nat_and_rec, toNat_half hx, toNat_half hn, not_half]
      have e1 : x.toNat % 2 = 1 ↔ x % 2 = 1 := by omega
      have e2 : (Builtin.bitNot y).toNat % 2 = 1 ↔ ¬ y % 2 = 1 := by unfold Builtin.bitNot at *; omega
      split <;> split <;> omega
  · have hx' : ¬ 0 ≤ x / 2 := by omega
    have hnx : 0 ≤ Builtin.bitNot x := by unfold Builtin.bitNot; omega
    have e2 : (Builtin.bitNot x).toNat % 2 = 1 ↔ ¬ x % 2 = 1 := by unfold Builtin.bitNot at *; omega
    by_cases hy : 0 ≤ y
    · have hy' : 0 ≤ y / 2 := by omega
      rw [bitAnd_np hx hy, bitAnd_np hx' hy', nat_and_rec, toNat_half hy, toNat_half hnx, not_half]
      have e1 : y.toNat % 2 = 1 ↔ y % 2 = 1 := by omega
      split <;> split <;> omega
    · have hy' : ¬ 0 ≤ y / 2 := by omega
      have hny : 0 ≤ Builtin.bitNot y := by unfold Builtin.bitNot; omega
      have e3 : (Builtin.bitNot y).toNat % 2 = 1 ↔ ¬ y % 2 = 1 := by unfold Builtin.bitNot at *; omega
      rw [bitAnd_nn hx hy, bitAnd_nn hx' hy', nat_or_rec, toNat_half hnx, toNat_half hny, not_half, not_half]
      have u : ∀ z : Int, Builtin.bitNot z = -z - 1 := fun _ => rfl
      rw [u (_ : Nat), u (_ : Nat)]
      split <;> split <;> omega
/-- ^ by halves -/
theorem xor_rec (x y : Int) : Builtin.bitXor x y = 2 * Builtin.bitXor (x / 2) (y / 2) + (x + y) % 2 := by
  rw [bitXor_and, bitXor_and, and_rec]
  split <;> omega
theorem and_two (x y : Int) (c d : Int) (hc : c = 0 ∨ c = 1) (hd : d = 0 ∨ d = 1) : Builtin.bitAnd (2 * x + c) (2 * y + d) = 2 * Builtin.bitAnd x y + c * d := by
  rw [and_rec]
  have e1 : (2 * x + c) / 2 = x := by omega
  have e2 : (2 * y + d) / 2 = y := by omega
  rw [e1, e2]
  rcases hc with rfl | rfl <;> rcases hd with rfl | rfl <;> (split <;> omega)
theorem xor_two (x y : Int) (c d : Int) (hc : c = 0 ∨ c = 1) (hd : d = 0 ∨ d = 1) : Builtin.bitXor (2 * x + c) (2 * y + d) = 2 * Builtin.bitXor x y + (c + d) % 2 := by
  rw [xor_rec]
  have e1 : (2 * x + c) / 2 = x := by omega
  have e2 : (2 * y + d) / 2 = y := by omega
  rw [e1, e2]
  omega
theorem two_pow_pos (k : Nat) : (0 : Int) < 2 ^ k := Int.pow_pos (by decide)
theorem pow_succ2 (k : Nat) : (2 : Int) ^ (k + 1) = 2 * 2 ^ k := by rw [Int.pow_succ]; omega
theorem emod_two_mul (a : Int) {m : Int} (hm : 0 < m) : a % (2 * m) = 2 * (a / 2 % m) + a % 2 := by
  have h1 : a / 2 = m * (a / 2 / m) + a / 2 % m := (Int.mul_ediv_add_emod (a / 2) m).symm
  have h2 := Int.emod_nonneg (a / 2) (show m ≠ 0 by omega)
  have h3 := Int.emod_lt_of_pos (a / 2) hm
  have h4 : a = (2 * (a / 2 % m) + a % 2) + (2 * m) * (a / 2 / m) := by
    have : (2 * m) * (a / 2 / m) = 2 * (m * (a / 2 / m)) := Int.mul_assoc ..
    omega
  have h5 : a % (2 * m) = (2 * (a / 2 % m) + a % 2) % (2 * m) := by
    conv => lhs; rw [h4]
    rw [Int.add_mul_emod_self_left]
  rw [h5, Int.emod_eq_of_lt (by omega) (by omega)]
theorem ediv_two_pow (a : Int) (k : Nat) : a / 2 ^ (k + 1) = a / 2 / 2 ^ k := by
  rw [pow_succ2, Int.ediv_ediv_of_nonneg (by decide)]
/-- x & (2 ** k - 1), x any number -/
theorem and_mask (k : Nat) : ∀ x : Int, Builtin.bitAnd x (2 ^ k - 1) = x % 2 ^ k := by
  induction k with
  | zero => intro x; show Builtin.bitAnd x 0 = x % 1; rw [bitAnd_zero]; omega
  | succ k ih =>
    intro x
    have e : (2 : Int) ^ (k + 1) - 1 = 2 * (2 ^ k - 1) + 1 := by rw [pow_succ2]; omega
    have hx : x = 2 * (x / 2) + x % 2 := by omega
    rw [e]
    conv => lhs; rw [hx]
    rw [and_two _ _ _ _ (by omega) (by omega), ih, pow_succ2, emod_two_mul _ (two_pow_pos k)]
    omega
/-- the field put in: what with_field reckons -/
theorem put_low (many : Nat) : ∀ w n : Int, Builtin.bitXor w (Builtin.bitAnd (Builtin.bitXor w n) (2 ^ many - 1)) = w - w % 2 ^ many + n % 2 ^ many := by
  induction many with
  | zero => intro w n; show Builtin.bitXor w (Builtin.bitAnd (Builtin.bitXor w n) 0) = w - w % 1 + n % 1; rw [bitAnd_zero, bitXor_zero]; omega
  | succ k ih =>
    intro w n
    have e : (2 : Int) ^ (k + 1) - 1 = 2 * (2 ^ k - 1) + 1 := by rw [pow_succ2]; omega
    have hw : w = 2 * (w / 2) + w % 2 := by omega
    have hn : n = 2 * (n / 2) + n % 2 := by omega
    have i := ih (w / 2) (n / 2)
    have q1 := emod_two_mul w (two_pow_pos k)
    have q2 := emod_two_mul n (two_pow_pos k)
    rw [e]
    conv => lhs; rw [hw, hn]
    rw [xor_two _ _ _ _ (by omega) (by omega), and_two _ _ _ _ (by omega) (by omega), xor_two _ _ _ _ (by omega) (by omega), i, pow_succ2, q1, q2]
    omega
theorem put_at (low many : Nat) : ∀ w n : Int, Builtin.bitXor w (Builtin.bitAnd (Builtin.bitXor w (n * 2 ^ low)) ((2 ^ many - 1) * 2 ^ low)) =
    w - (w / 2 ^ low % 2 ^ many) * 2 ^ low + (n % 2 ^ many) * 2 ^ low := by
  induction low with
  | zero => intro w n; simp only [Int.pow_zero, Int.mul_one, Int.ediv_one]; exact put_low many w n
  | succ k ih =>
    intro w n
    have hw : w = 2 * (w / 2) + w % 2 := by omega
    have e1 : n * 2 ^ (k + 1) = 2 * (n * 2 ^ k) + 0 := by rw [pow_succ2, Int.mul_left_comm]; omega
    have e2 : ((2 : Int) ^ many - 1) * 2 ^ (k + 1) = 2 * ((2 ^ many - 1) * 2 ^ k) + 0 := by rw [pow_succ2, Int.mul_left_comm]; omega
    have i := ih (w / 2) n
    rw [e1, e2, ediv_two_pow, pow_succ2]
    conv => lhs; rw [hw]
    rw [xor_two _ _ _ _ (by omega) (by omega), and_two _ _ _ _ (by omega) (by omega), xor_two _ _ _ _ (by omega) (by omega), i]
    rw [Int.mul_left_comm _ 2, Int.mul_left_comm _ 2]
    omega
/-- what with_field(word, low, many, number) reckons -/
def wf (w low many n : Int) : Int := w - (w / 2 ^ low.toNat % 2 ^ many.toNat) * 2 ^ low.toNat + (n % 2 ^ many.toNat) * 2 ^ low.toNat
end Jl
namespace Jl
/-- signed(number, many) -/
def sgn (n : Int) (m : Nat) : Int := (n + 2 ^ (m - 1)) % (2 ^ (m - 1) * 2) - 2 ^ (m - 1)
theorem sgn_facts (n : Int) {m : Nat} (h : 1 ≤ m) : -(2 ^ (m - 1)) ≤ sgn n m ∧ sgn n m < 2 ^ (m - 1) ∧ (n - sgn n m) % 2 ^ m = 0 := by
  obtain ⟨k, rfl⟩ : ∃ k, m = k + 1 := ⟨m - 1, by omega⟩
  have hp := two_pow_pos k
  have e : k + 1 - 1 = k := by omega
  unfold sgn
  rw [e, pow_succ2]
  have h1 := Int.emod_nonneg (n + 2 ^ k) (show (2 : Int) ^ k * 2 ≠ 0 by omega)
  have h2 := Int.emod_lt_of_pos (n + 2 ^ k) (show (0 : Int) < 2 ^ k * 2 by omega)
  refine ⟨by omega, by omega, ?_⟩
  have h3 := Int.mul_ediv_add_emod (n + 2 ^ k) (2 ^ k * 2)
  have h4 : n - ((n + 2 ^ k) % (2 ^ k * 2) - 2 ^ k) = (2 * 2 ^ k) * ((n + 2 ^ k) / (2 ^ k * 2)) := by
    have : (2 * 2 ^ k) * ((n + 2 ^ k) / (2 ^ k * 2)) = 2 ^ k * 2 * ((n + 2 ^ k) / (2 ^ k * 2)) := by rw [Int.mul_comm 2]
    omega
  rw [h4]
  exact Int.mul_emod_right _ _
end Jl
namespace Jl
theorem pow_lt {m : Nat} (h : m ≤ 99) : ((2 : Int) ^ m - 1).natAbs < 2 ^ 100 := by
  have e : ((2 : Int) ^ m) = ((2 ^ m : Nat) : Int) := by simp
  have h2 : (2 : Nat) ^ m ≤ 2 ^ 99 := Nat.pow_le_pow_right (by decide) h
  have h3 : (2 : Nat) ^ 99 < 2 ^ 100 := by decide
  have h4 : 0 < (2 : Nat) ^ m := Nat.two_pow_pos m
  rw [e]
  omega
theorem pow_lt' {m : Nat} (h : m ≤ 99) : ((2 : Int) ^ m).natAbs < 2 ^ 100 := by
  have e : ((2 : Int) ^ m) = ((2 ^ m : Nat) : Int) := by simp
  have h2 : (2 : Nat) ^ m ≤ 2 ^ 99 := Nat.pow_le_pow_right (by decide) h
  have h3 : (2 : Nat) ^ 99 < 2 ^ 100 := by decide
  rw [e, Int.natAbs_natCast]
  omega
/-- what lies within sixty figures (and some more) -/
theorem big_of {n : Int} (h : -(10 ^ 65) ≤ n) (h2 : n ≤ 10 ^ 65) : n.natAbs < 2 ^ 250 := by
  have e : (10 : Nat) ^ 65 < 2 ^ 250 := by decide
  omega
end Jl
namespace Jl
theorem half_pow {m : Nat} (h : 1 ≤ m) : (2 : Int) ^ m / 2 = 2 ^ (m - 1) := by
  obtain ⟨k, rfl⟩ : ∃ k, m = k + 1 := ⟨m - 1, by omega⟩
  rw [pow_succ2, Nat.add_sub_cancel]
  omega
end Jl
namespace Jl
theorem half_more (a : Int) (k : Nat) : a / 2 ^ k / 2 = a / 2 ^ (k + 1) := by
  rw [Int.pow_succ, Int.ediv_ediv_of_nonneg (Int.le_of_lt (two_pow_pos k))]
theorem dbl_more (k : Nat) : (2 : Int) ^ k * 2 = 2 ^ (k + 1) := by rw [Int.pow_succ]
end Jl
namespace Jl
theorem mod_bit (x : Int) : ∀ (j m : Nat), j < m → (x % 2 ^ m) / 2 ^ j % 2 = x / 2 ^ j % 2 := by
  intro j
  induction j generalizing x with
  | zero =>
    intro m h
    obtain ⟨k, rfl⟩ : ∃ k, m = k + 1 := ⟨m - 1, by omega⟩
    rw [pow_succ2, emod_two_mul _ (two_pow_pos k)]
    simp only [Int.pow_zero, Int.ediv_one]
    omega
  | succ j ih =>
    intro m h
    obtain ⟨k, rfl⟩ : ∃ k, m = k + 1 := ⟨m - 1, by omega⟩
    have e : x % 2 ^ (k + 1) / 2 = x / 2 % 2 ^ k := by
      rw [pow_succ2, emod_two_mul _ (two_pow_pos k)]
      omega
    rw [ediv_two_pow, ediv_two_pow, e]
    exact ih (x / 2) k (by omega)
theorem pow_add2 (a b : Nat) : (2 : Int) ^ (a + b) = 2 ^ a * 2 ^ b := Int.pow_add ..
theorem div_more (x : Int) (a b : Nat) : x / 2 ^ (a + b) = x / 2 ^ a / 2 ^ b := by
  rw [pow_add2, Int.ediv_ediv_of_nonneg (Int.le_of_lt (two_pow_pos a))]
def wfN (w : Int) (low many : Nat) (n : Int) : Int := w - (w / 2 ^ low % 2 ^ many) * 2 ^ low + (n % 2 ^ many) * 2 ^ low
theorem wf_parts (w : Int) (low many : Nat) (n : Int) : wfN w low many n / 2 ^ low = 2 ^ many * (w / 2 ^ low / 2 ^ many) + n % 2 ^ many ∧ wfN w low many n % 2 ^ low = w % 2 ^ low := by
  have hp := two_pow_pos low
  have e1 := Int.mul_ediv_add_emod w (2 ^ low)
  have e2 := Int.mul_ediv_add_emod (w / 2 ^ low) (2 ^ many)
  have r1 := Int.emod_nonneg w (show (2 : Int) ^ low ≠ 0 by omega)
  have r2 := Int.emod_lt_of_pos w hp
  have e3 : wfN w low many n = 2 ^ low * (2 ^ many * (w / 2 ^ low / 2 ^ many) + n % 2 ^ many) + w % 2 ^ low := by
    unfold wfN
    generalize w / 2 ^ low % 2 ^ many = f at *
    generalize w % 2 ^ low = r at *
    generalize n % 2 ^ many = g at *
    generalize w / 2 ^ low / 2 ^ many = A at *
    have e4 : 2 ^ low * (w / 2 ^ low) = 2 ^ low * (2 ^ many * A) + f * 2 ^ low := by
      rw [Int.mul_comm f, ← Int.mul_add, e2]
    have e5 : (2 : Int) ^ low * (2 ^ many * A + g) = 2 ^ low * (2 ^ many * A) + g * 2 ^ low := by
      rw [Int.mul_add, Int.mul_comm g]
    omega
  rw [e3]
  constructor
  · rw [Int.add_comm (2 ^ low * _), Int.add_mul_ediv_left _ _ (by omega), Int.ediv_eq_zero_of_lt r1 r2]
    omega
  · rw [Int.add_comm (2 ^ low * _), Int.add_mul_emod_self_left, Int.emod_eq_of_lt r1 r2]
theorem wf_field (w : Int) (low many : Nat) (n : Int) : wfN w low many n / 2 ^ low % 2 ^ many = n % 2 ^ many := by
  rw [(wf_parts w low many n).1, Int.add_comm, Int.add_mul_emod_self_left, Int.emod_emod]
theorem wf_high (w : Int) (low many : Nat) (n : Int) : wfN w low many n / 2 ^ (low + many) = w / 2 ^ (low + many) := by
  have hp := two_pow_pos many
  have r1 := Int.emod_nonneg n (show (2 : Int) ^ many ≠ 0 by omega)
  have r2 := Int.emod_lt_of_pos n hp
  rw [div_more, div_more, (wf_parts w low many n).1, Int.add_comm, Int.add_mul_ediv_left _ _ (by omega), Int.ediv_eq_zero_of_lt r1 r2]
  omega
theorem wf_bit (w : Int) (low many : Nat) (n : Int) (i : Nat) : wfN w low many n / 2 ^ i % 2 = if low ≤ i ∧ i < low + many then n / 2 ^ (i - low) % 2 else w / 2 ^ i % 2 := by
  by_cases h : i < low
  · rw [if_neg (by omega), ← mod_bit _ i low h, (wf_parts w low many n).2, mod_bit _ i low h]
  · by_cases h2 : i < low + many
    · rw [if_pos ⟨by omega, h2⟩]
      obtain ⟨j, rfl⟩ : ∃ j, i = low + j := ⟨i - low, by omega⟩
      rw [div_more, Nat.add_sub_cancel_left, ← mod_bit (wfN w low many n / 2 ^ low) j many (by omega), wf_field, mod_bit _ j many (by omega)]
    · rw [if_neg (by omega)]
      obtain ⟨j, rfl⟩ : ∃ j, i = (low + many) + j := ⟨i - (low + many), by omega⟩
      rw [div_more, wf_high, ← div_more]
/-- two numbers in a word's range, by their parts -/
theorem lt_pow_of_div {x : Int} {a b : Nat} (h0 : 0 ≤ x / 2 ^ a) (h : x / 2 ^ a < 2 ^ b) : 0 ≤ x ∧ x < 2 ^ (a + b) := by
  have hp := two_pow_pos a
  have e1 := Int.mul_ediv_add_emod x (2 ^ a)
  have r1 := Int.emod_nonneg x (show (2 : Int) ^ a ≠ 0 by omega)
  have r2 := Int.emod_lt_of_pos x hp
  have m0 := Int.mul_nonneg (Int.le_of_lt hp) h0
  have m1 : (2 : Int) ^ a * (x / 2 ^ a + 1) ≤ 2 ^ a * 2 ^ b := Int.mul_le_mul_of_nonneg_left (by omega) (Int.le_of_lt hp)
  rw [pow_add2]
  rw [Int.mul_add] at m1
  omega
theorem div_lt_pow {x : Int} {a b : Nat} (h0 : 0 ≤ x) (h : x < 2 ^ (a + b)) : 0 ≤ x / 2 ^ a ∧ x / 2 ^ a < 2 ^ b := by
  have hp := two_pow_pos a
  refine ⟨Int.ediv_nonneg h0 (Int.le_of_lt hp), ?_⟩
  refine Int.ediv_lt_of_lt_mul hp ?_
  rw [Int.mul_comm, ← pow_add2]
  exact h
theorem wf_range (w : Int) (low many k : Nat) (n : Int) (hk : low + many ≤ k) (h0 : 0 ≤ w) (h : w < 2 ^ k) : 0 ≤ wfN w low many n ∧ wfN w low many n < 2 ^ k := by
  obtain ⟨j, rfl⟩ : ∃ j, k = (low + many) + j := ⟨k - (low + many), by omega⟩
  obtain ⟨a, b⟩ := div_lt_pow h0 h
  rw [← wf_high w low many n] at a b
  exact lt_pow_of_div a b
theorem wf_is (w low many n : Int) : wf w low many n = wfN w low.toNat many.toNat n := rfl
end Jl
namespace Jl
/-- the lowest n bits, the lowest one first -/
def bitsOf (w : Int) (n : Nat) : List Int := (List.range n).map fun i => w / 2 ^ i % 2
end Jl
namespace Jl
theorem turn_bits (w : Int) (h0 : 0 ≤ w) (h1 : w < 2 ^ 32) (m : Nat) (hm : m ≤ 32) (i : Nat) (hi : i < 32) :
    ((w / 2 ^ m + w * 2 ^ (32 - m)) % 2 ^ 32) / 2 ^ i % 2 = w / 2 ^ (if i + m < 32 then i + m else i + m - 32) % 2 := by
  rw [mod_bit _ i 32 hi]
  have hp := two_pow_pos (32 - m)
  have ha : 0 ≤ w / 2 ^ m ∧ w / 2 ^ m < 2 ^ (32 - m) := div_lt_pow h0 (by rw [show m + (32 - m) = 32 by omega]; exact h1)
  by_cases h : i + m < 32
  · rw [if_pos h, ← mod_bit _ i (32 - m) (by omega), Int.mul_comm w, Int.add_mul_emod_self_left, Int.emod_eq_of_lt ha.1 ha.2, ← div_more, Nat.add_comm m]
  · rw [if_neg h]
    obtain ⟨j, rfl⟩ : ∃ j, i = (32 - m) + j := ⟨i - (32 - m), by omega⟩
    rw [div_more, Int.mul_comm w, Int.add_mul_ediv_left _ _ (by omega), Int.ediv_eq_zero_of_lt ha.1 ha.2, Int.zero_add, show 32 - m + j + m - 32 = j by omega]
theorem bitsOf_get (w : Int) {n i : Nat} (h : i < n) : (bitsOf w n)[i]? = some (w / 2 ^ i % 2) := by
  unfold bitsOf
  rw [List.getElem?_map, List.getElem?_range h]; rfl
theorem bitsOf_succ (w : Int) (n : Nat) : bitsOf w (n + 1) = bitsOf w n ++ [w / 2 ^ n % 2] := by
  unfold bitsOf
  rw [List.range_succ, List.map_append]; rfl
theorem bitsOf_len (w : Int) (n : Nat) : (bitsOf w n).length = n := by
  unfold bitsOf
  rw [List.length_map, List.length_range]
end Jl
namespace Jl
theorem f0_16 (w : Int) : w / 2 ^ (0 : Int).toNat % 2 ^ (16 : Int).toNat = w % 65536 := by
  show w / 1 % 65536 = _
  rw [Int.ediv_one]
theorem f0_7 (w : Int) : w / 2 ^ (0 : Int).toNat % 2 ^ (7 : Int).toNat = w % 128 := by
  show w / 1 % 128 = _
  rw [Int.ediv_one]
theorem f14_5 (w : Int) : w / 2 ^ (14 : Int).toNat % 2 ^ (5 : Int).toNat = w / 16384 % 32 := rfl
theorem wf_16 (w n : Int) : wf w 0 16 n = w - w % 65536 + n % 65536 := by
  show w - (w / 1 % 65536) * 1 + (n % 65536) * 1 = _
  rw [Int.ediv_one]; omega
theorem wf_19 (w n : Int) : wf w 0 19 n = w - w % 524288 + n % 524288 := by
  show w - (w / 1 % 524288) * 1 + (n % 524288) * 1 = _
  rw [Int.ediv_one]; omega
theorem wf_7 (w n : Int) : wf w 0 7 n = w - w % 128 + n % 128 := by
  show w - (w / 1 % 128) * 1 + (n % 128) * 1 = _
  rw [Int.ediv_one]; omega
theorem wf_14 (w n : Int) : wf w 14 5 n = w - w / 16384 % 32 * 16384 + n % 32 * 16384 := rfl
theorem sgn_16 (w : Int) : sgn w (16 : Int).toNat = (w + 32768) % 65536 - 32768 := rfl
theorem sgn_19 (w : Int) : sgn w (19 : Int).toNat = (w + 262144) % 524288 - 262144 := rfl
theorem sgn_12 (w : Int) : sgn w (12 : Int).toNat = (w + 2048) % 4096 - 2048 := rfl
end Jl
namespace Jl
/-- what the fill of split makes of a word -/
def sf (w y : Int) : Int := 524288 * (w / 524288) + 16384 * (y / 128 % 32) + 128 * (w / 128 % 128) + y % 128
theorem sf_is (w y : Int) : (w - w % 128 + y % 128) - (w - w % 128 + y % 128) / 16384 % 32 * 16384 + y / 128 % 32 * 16384 = sf w y := by
  unfold sf
  have h1 : (w - w % 128 + y % 128) / 16384 = w / 16384 := by omega
  have h2 : w / 16384 = 32 * (w / 524288) + w / 16384 % 32 := by omega
  have h3 : w / 128 = 128 * (w / 16384) + w / 128 % 128 := by omega
  rw [h1]
  omega
theorem sf_parts (w y : Int) : sf w y / 524288 = w / 524288 ∧ sf w y / 128 % 128 = w / 128 % 128 ∧ sf w y % 128 = y % 128 ∧ sf w y / 16384 % 32 = y / 128 % 32 := by
  have a1 := Int.emod_nonneg (y / 128) (show (32 : Int) ≠ 0 by decide)
  have a2 := Int.emod_lt_of_pos (y / 128) (show (0 : Int) < 32 by decide)
  have b1 := Int.emod_nonneg (w / 128) (show (128 : Int) ≠ 0 by decide)
  have b2 := Int.emod_lt_of_pos (w / 128) (show (0 : Int) < 128 by decide)
  have c1 := Int.emod_nonneg y (show (128 : Int) ≠ 0 by decide)
  have c2 := Int.emod_lt_of_pos y (show (0 : Int) < 128 by decide)
  unfold sf
  generalize y / 128 % 32 = a at *
  generalize w / 128 % 128 = b at *
  generalize y % 128 = c at *
  generalize w / 524288 = d at *
  refine ⟨by omega, by omega, by omega, by omega⟩
theorem sf_again (w y z : Int) : sf (sf w y) z = sf w z := by
  have h := sf_parts w y
  unfold sf at *
  omega
theorem low12 (y : Int) : y % 128 + y / 128 % 32 * 128 = y % 4096 := by omega
end Jl

/-! Steps: one lemma for each reading, to be walked from the left. -/
namespace Jl
open PySem L2
section
variable {X : Cx}
/-- a list + a list, each to be read (the script, too) -/
def rCatS (K : PySem.W.Frag) : R2 := fun x y H Q => ∃ l b xs zs, x = .ref l ∧ y = .ref b ∧ SqL K H l xs ∧ SqL K H b zs ∧ xs.length + zs.length ≤ sizeLine ∧ ∀ p, H p = none → Q (.ref p) (upd H p (.lst (xs ++ zs)))
theorem op_catS : OpR X (binaryOp .Add) (rCatS X.K) := by
  intro pins s σ H x y v u Q I rx ry h
  obtain ⟨l, b, xs, zs, rfl, rfl, hH, hB, hz, q⟩ := h
  cases rx
  cases ry
  obtain ⟨its, r, p, _⟩ := I.list hH
  obtain ⟨its2, r2, p2, _⟩ := I.list hB
  have hl := p.isList
  have hb := p2.isList
  have hsz : its.length + its2.length ≤ sizeLine := by rw [← r.length, ← r2.length]; exact hz
  obtain ⟨⟨cls, dd, data, sl⟩, ho, hc, n, hd⟩ := id hl
  obtain ⟨⟨cls2, dd2, data2, sl2⟩, ho2, hc2, n2, hd2⟩ := id hb
  simp only at hc hd hc2 hd2
  subst hc hd hc2 hd2
  have e : its.toArray ++ its2.toArray = (its ++ its2).toArray := by simp
  refine PySem.concat_meets ⟨_, ho, rfl⟩ ⟨_, ho2, rfl⟩ PySem.noFill_list_add PySem.seq_list_add PySem.F.slot_list_add PySem.F.entry_list_add (PySem.F.args_list_add_2 _ _) (PyProof.Rows.list_addW l b its.toArray its2.toArray n n2 dd dd2 sl sl2 (by simpa using hsz)) ⟨ho, ho2, ?_⟩
  rw [e]
  exact ⟨.ref _, _, I.lnew (t' := s.toks) (r.append r2) (by rw [List.length_append]; omega), rfl, q _ I.fresh⟩
end
section
variable {K : PySem.W.Frag} {σ : L2.St} {H : Hp} {Q : VK} {ta tb tc te : TE} {tt t1 t2 : TT} {tr : TA} {i j : Int} {x y v : V} {b c : Bool} {p q A B : Prop} {nx bk ct : L2.St → Hp → Prop} {rt : VK} {ts tu tw : TS} {g : Int → Int → V} {R : List V → Hp → Prop} {T : Bool → Hp → Prop} {E : XK} {sp : Sp}
theorem s_var {k : Nat} (h : σ[k]? = some (some v)) (z : Q v H) : tVar k σ H Q := ⟨v, h, z⟩
theorem s_c (z : Q v H) : tC v σ H Q := z
theorem s_op {r : R2} (z : ta σ H fun x H1 => tb σ H1 fun y H2 => r x y H2 Q) : tOp r ta tb σ H Q := z
theorem s_un {r : V → Hp → VK → Prop} (z : ta σ H fun x H1 => r x H1 Q) : tUn r ta σ H Q := z
theorem s_I0 (z : Q (g i j) H) : rI0 g (.int i) (.int j) H Q := ⟨i, j, rfl, rfl, z⟩
theorem s_I {C : Int → Int → Prop} (hc : C i j) (z : Q (g i j) H) : rI C g (.int i) (.int j) H Q := ⟨i, j, rfl, rfl, hc, z⟩
theorem s_U {f : Int → V} (z : Q (f i) H) : rU f (.int i) H Q := ⟨i, rfl, z⟩
theorem s_eqI (z : Q (.bl (decide (i = j))) H) : rEq (.int i) (.int j) H Q := ⟨rfl, by
  have e : decide (V.int i = V.int j) = decide (i = j) := by rw [Bool.eq_iff_iff]; simp
  rw [e]; exact z⟩
theorem s_neI (z : Q (.bl (!decide (i = j))) H) : rNe (.int i) (.int j) H Q := ⟨rfl, by
  have e : decide (V.int i = V.int j) = decide (i = j) := by rw [Bool.eq_iff_iff]; simp
  rw [e]; exact z⟩
theorem s_eqS {z w : Str} (k : Q (.bl (decide (z = w))) H) : rEq (.str z) (.str w) H Q := ⟨rfl, by
  have e : decide (V.str z = V.str w) = decide (z = w) := by rw [Bool.eq_iff_iff]; simp
  rw [e]; exact k⟩
theorem s_neS {z w : Str} (k : Q (.bl (!decide (z = w))) H) : rNe (.str z) (.str w) H Q := ⟨rfl, by
  have e : decide (V.str z = V.str w) = decide (z = w) := by rw [Bool.eq_iff_iff]; simp
  rw [e]; exact k⟩
theorem s_eqB (k : Q (.bl (decide (b = c))) H) : rEq (.bl b) (.bl c) H Q := ⟨rfl, by
  have e : decide (V.bl b = V.bl c) = decide (b = c) := by rw [Bool.eq_iff_iff]; simp
  rw [e]; exact k⟩
theorem s_neB (k : Q (.bl (!decide (b = c))) H) : rNe (.bl b) (.bl c) H Q := ⟨rfl, by
  have e : decide (V.bl b = V.bl c) = decide (b = c) := by rw [Bool.eq_iff_iff]; simp
  rw [e]; exact k⟩
theorem s_isB (k : Q (.bl (decide (b = c))) H) : rIsB (.bl b) (.bl c) H Q := ⟨b, c, rfl, rfl, k⟩
theorem s_notB (k : Q (.bl (!decide (b = c))) H) : rNotB (.bl b) (.bl c) H Q := ⟨b, c, rfl, rfl, k⟩
theorem s_test {t : TE} (z : t σ H fun x H' => ∃ k, x = .bl k ∧ T k H') : tTest t σ H T := z
theorem s_tB {t : TE} (z : t σ H fun x H' => ∃ k, x = .bl k ∧ T k H') : tB t σ H T := z
theorem s_chain {r r' : R2} (z : ta σ H fun x H1 => tb σ H1 fun y H2 => r x y H2 fun z H3 => ∃ k, z = .bl k ∧ (if k = true then tc σ H3 fun w' H4 => r' y w' H4 Q else Q (.bl false) H3)) : tChain r r' ta tb tc σ H Q := z
theorem s_and (z : t1 σ H fun c H1 => if c = true then t2 σ H1 T else T false H1) : tAnd t1 t2 σ H T := z
theorem s_or (z : t1 σ H fun c H1 => if c = true then T true H1 else t2 σ H1 T) : tOr t1 t2 σ H T := z
theorem s_not (z : t1 σ H fun c H1 => T (!c) H1) : tNot t1 σ H T := z
theorem s_andV (z : ta σ H fun x H1 => ∃ c, x = .bl c ∧ if c = true then tb σ H1 Q else Q (.bl false) H1) : tAndV ta tb σ H Q := z
theorem s_orV (z : ta σ H fun x H1 => ∃ c, x = .bl c ∧ if c = true then Q (.bl true) H1 else tb σ H1 Q) : tOrV ta tb σ H Q := z
theorem s_notV (z : ta σ H fun x H1 => ∃ c, x = .bl c ∧ Q (.bl (!c)) H1) : tNotV ta σ H Q := z
theorem s_ifE (z : tt σ H fun c H1 => if c = true then ta σ H1 Q else tb σ H1 Q) : tIf tt ta tb σ H Q := z
theorem s_exbl {P : Bool → Prop} (z : P b) : ∃ k, V.bl b = V.bl k ∧ P k := ⟨b, rfl, z⟩
theorem s_next (z : nx σ H) : tNext ⟨nx, rt, bk, ct⟩ σ H := z
theorem s_seq (z : ts ⟨tu ⟨nx, rt, bk, ct⟩, rt, bk, ct⟩ σ H) : tSeq ts tu ⟨nx, rt, bk, ct⟩ σ H := z
theorem s_seq_assoc (z : tSeq ts tu ⟨tw ⟨nx, rt, bk, ct⟩, rt, bk, ct⟩ σ H) : tSeq ts (tSeq tu tw) ⟨nx, rt, bk, ct⟩ σ H := z
theorem s_drop (z : te σ H fun _ H1 => nx σ H1) : tDrop te ⟨nx, rt, bk, ct⟩ σ H := z
theorem s_ret (z : te σ H rt) : tRet te ⟨nx, rt, bk, ct⟩ σ H := z
theorem s_break (z : bk σ H) : tBreak ⟨nx, rt, bk, ct⟩ σ H := z
theorem s_cont (z : ct σ H) : tCont ⟨nx, rt, bk, ct⟩ σ H := z
theorem s_ifS (z : tt σ H fun b H1 => if b = true then ts ⟨nx, rt, bk, ct⟩ σ H1 else tu ⟨nx, rt, bk, ct⟩ σ H1) : tIfS tt ts tu ⟨nx, rt, bk, ct⟩ σ H := z
theorem s_asg {gg : TG} (z : te σ H fun x H1 => gg x σ H1 nx) : tAsg te gg ⟨nx, rt, bk, ct⟩ σ H := z
theorem s_name {k : Nat} {W : L2.St → Hp → Prop} (z : W (σ.set k (some v)) H) : gName k v σ H W := z
theorem s_nil (z : R [] H) : tNil σ H R := z
theorem s_cons (z : ta σ H fun x H1 => tr σ H1 fun xs H2 => R (x :: xs) H2) : tCons ta tr σ H R := z
theorem s_call {t : TA} (z : t σ H fun vs H1 => sp vs H1 Q E) : tCall sp [] E t σ H Q := by
  have e : (fun vs H1 => sp vs H1 Q E) = (fun vs H1 => sp (vs ++ []) H1 Q E) := by
    funext vs H1
    rw [List.append_nil]
  unfold tCall
  rw [← e]
  exact z
theorem s_CB {r : List V → Hp → VK → Prop} {t : TA} (z : t σ H fun vs H1 => r vs H1 Q) : tCB r t σ H Q := z
theorem s_iteT (z : A) : if true = true then A else B := by rw [if_pos rfl]; exact z
theorem s_iteF (z : B) : if false = true then A else B := by rw [if_neg Bool.false_ne_true]; exact z
theorem s_iteD [Decidable p] (h1 : p → A) (h2 : ¬ p → B) : if decide p = true then A else B := by
  by_cases h : p
  · rw [if_pos (decide_eq_true h)]; exact h1 h
  · rw [if_neg (by rw [decide_eq_false h]; exact Bool.false_ne_true)]; exact h2 h
theorem s_iteN [Decidable p] (h1 : ¬ p → A) (h2 : p → B) : if (!decide p) = true then A else B := by
  by_cases h : p
  · rw [if_neg (by rw [decide_eq_true h]; exact Bool.false_ne_true)]; exact h2 h
  · rw [if_pos (by rw [decide_eq_false h]; rfl)]; exact h1 h
theorem s_iteNN [Decidable p] (h1 : p → A) (h2 : ¬ p → B) : if (!!decide p) = true then A else B := by rw [Bool.not_not]; exact s_iteD h1 h2
theorem s_iteNT (z : B) : if (!true) = true then A else B := by rw [if_neg (by decide)]; exact z
theorem s_iteNF (z : A) : if (!false) = true then A else B := by rw [if_pos (by decide)]; exact z
theorem s_iteB (h1 : b = true → A) (h2 : b = false → B) : if b = true then A else B := by
  cases b with
  | true => exact s_iteT (h1 rfl)
  | false => exact s_iteF (h2 rfl)
theorem s_iteNB (h1 : b = false → A) (h2 : b = true → B) : if (!b) = true then A else B := by
  cases b with
  | false => exact s_iteNF (h1 rfl)
  | true => exact s_iteNT (h2 rfl)
theorem s_isi {xs : V} {cn : String} {k : Bool} {t : Value} (ty : TyX K H xs t) (hk : PySem.W.kitOne K t (.type cn) = some k) (z : Q (.bl k) H) : rIsi K [xs, .ty cn] H Q := ⟨xs, .ty cn, t, .type cn, k, rfl, .ty cn, ty, hk, z⟩
theorem s_isi_ii (z : Q (.bl true) H) : rIsi K [.int i, .ty "int"] H Q := s_isi (.base (.int i)) (kit_ty (by decide +kernel)) z
theorem s_isi_ib (z : Q (.bl false) H) : rIsi K [.int i, .ty "bool"] H Q := s_isi (.base (.int i)) (kit_ty (by decide +kernel)) z
theorem s_isi_bb (z : Q (.bl true) H) : rIsi K [.bl b, .ty "bool"] H Q := s_isi (.base (.bl b)) (kit_ty (by decide +kernel)) z
theorem s_isi_bi (z : Q (.bl true) H) : rIsi K [.bl b, .ty "int"] H Q := s_isi (.base (.bl b)) (kit_ty (by decide +kernel)) z
theorem s_isi_ss {w : Str} (z : Q (.bl true) H) : rIsi K [.str w, .ty "str"] H Q := s_isi (.base (.str w)) (kit_ty (by decide +kernel)) z
theorem s_isN (z : Q (.bl (decide (x = .non))) H) : (fun x y H Q => y = V.non ∧ Q (.bl (decide (x = .non))) H : R2) x .non H Q := ⟨rfl, z⟩
theorem c_div (h : 0 < j) (h2 : j < 1073741824) : CDiv i j := ⟨h, h2⟩
theorem c_mulR (h : -(2 ^ 64) < j) (h2 : j < 2 ^ 64) : CMul i j := .inr ⟨h, h2⟩
theorem c_mulL (h : -(2 ^ 64) < i) (h2 : i < 2 ^ 64) : CMul i j := .inl ⟨h, h2⟩
theorem c_pow (h : 0 ≤ j) (h1 : j ≤ 1000000) (h2 : i.natAbs < 2 ^ 64) : CPow i j := ⟨h, h1, h2⟩
/-! the ends -/
theorem fin_int (z : Q (.int i) H) (e : i = j) : Q (.int j) H := by rw [← e]; exact z
theorem fin_bl (z : Q (.bl b) H) (e : b = c) : Q (.bl c) H := by rw [← e]; exact z
theorem fin_dec [Decidable p] (z : Q (.bl true) H) (h : p) : Q (.bl (decide p)) H := by rw [decide_eq_true h]; exact z
theorem fin_ndec [Decidable p] (z : Q (.bl true) H) (h : ¬ p) : Q (.bl (!decide p)) H := by rw [decide_eq_false h]; exact z
theorem dec_t (h : p) [Decidable p] : decide p = true := decide_eq_true h
theorem s_iteDt [Decidable p] (h : p) (z : A) : if decide p = true then A else B := s_iteD (fun _ => z) fun n => absurd h n
theorem s_iteDf [Decidable p] (h : ¬ p) (z : B) : if decide p = true then A else B := s_iteD (fun n => absurd n h) fun _ => z
theorem s_iteNt [Decidable p] (h : p) (z : B) : if (!decide p) = true then A else B := s_iteN (fun n => absurd h n) fun _ => z
theorem s_iteNf [Decidable p] (h : ¬ p) (z : A) : if (!decide p) = true then A else B := s_iteN (fun _ => z) fun n => absurd n h
/-- a test by itself: its outcome -/
theorem s_ifS_f (h : ∀ T : Bool → Hp → Prop, T false H → tt σ H T) (z : tu ⟨nx, rt, bk, ct⟩ σ H) : tIfS tt ts tu ⟨nx, rt, bk, ct⟩ σ H := h _ (s_iteF z)
theorem s_ifS_t (h : ∀ T : Bool → Hp → Prop, T true H → tt σ H T) (z : ts ⟨nx, rt, bk, ct⟩ σ H) : tIfS tt ts tu ⟨nx, rt, bk, ct⟩ σ H := h _ (s_iteT z)
theorem s_ifS_d (p : Prop) [Decidable p] (h : ∀ T : Bool → Hp → Prop, T (decide p) H → tt σ H T) (z1 : p → ts ⟨nx, rt, bk, ct⟩ σ H) (z2 : ¬ p → tu ⟨nx, rt, bk, ct⟩ σ H) : tIfS tt ts tu ⟨nx, rt, bk, ct⟩ σ H := h _ (s_iteD z1 z2)
/-- a shift to the left -/
theorem shl_ok (a : Nat) (h : i.natAbs < 2 ^ a) (h0 : 0 ≤ j) (hj : j ≤ 1000000) (ha : a ≤ 1000000) : CShl i j := by
  refine ⟨h0, ?_⟩
  have b : Builtin.Int.intBits i ≤ i.natAbs.log2 + 1 := by
    unfold Builtin.Int.intBits
    split <;> omega
  have h2 : i.natAbs.log2 ≤ a := by
    by_cases z : i.natAbs = 0
    · rw [z]; simp
    · have := (Nat.log2_lt z).mpr h; omega
  have e : (2 : Int) ^ 27 = 134217728 := by decide
  rw [e]
  omega
/-! lists -/
theorem s_tup {t : TA} (z : t σ H fun xs H1 => xs.length ≤ sizeLine ∧ ∀ p, H1 p = none → Q (.ref p) (upd H1 p (.tup xs))) : tTup t σ H Q := z
theorem s_lst {t : TA} (z : t σ H fun xs H1 => xs.length ≤ sizeLine ∧ ∀ p, H1 p = none → Q (.ref p) (upd H1 p (.lst xs))) : tLst t σ H Q := z
theorem s_ixL {l : Addr} {xs : List V} (h : SqL K H l xs) (ha : atI xs i = some v) (z : Q v H) : rIxL K (.ref l) (.int i) H Q := ⟨l, xs, i, v, rfl, rfl, h, ha, z⟩
theorem s_ixT {l : Addr} {xs : List V} (h : SqT K H l xs) (ha : atI xs i = some v) (z : Q v H) : rIxT K (.ref l) (.int i) H Q := ⟨l, xs, i, v, rfl, rfl, h, ha, z⟩
theorem s_len {l : Addr} {xs : List V} (h : SqL K H l xs) (z : Q (.int xs.length) H) : (fun xs H Q => ∃ p ys, xs = [V.ref p] ∧ (SqL K H p ys ∨ SqT K H p ys) ∧ Q (.int ys.length) H : List V → Hp → VK → Prop) [.ref l] H Q := ⟨l, xs, rfl, .inl h, z⟩
theorem sqU {l : Addr} {xs : List V} : SqL K (upd H l (.lst xs)) l xs := .inl (.inl upd_same)
theorem same_upd {l : Addr} {o : HO} (h : H l = none) : Same H (upd H l o) := fun b u e => by
  rw [upd_ne (ne_of_none e h)]
  exact e
/-- range(n): what holds ahead of each turn -/
theorem s_forR1 {k : Nat} {ta : TA} (n : Int) (Pv : Nat → L2.St → Hp → Prop) (ha : ∀ R : List V → Hp → Prop, R [.int n] H → ta σ H R) (hn : -(2 ^ 62) ≤ n ∧ n < 2 ^ 62) (h0 : Pv 0 σ H)
    (hs : ∀ (i : Nat) σ' H', (i : Int) < n → Pv i σ' H' → tu ⟨Pv (i + 1), rt, nx, Pv (i + 1)⟩ (σ'.set k (some (.int (i : Int)))) H') (hd : ∀ σ' H', Pv n.toNat σ' H' → nx σ' H') : tFor (iRng1 ta) (gName k) tu ⟨nx, rt, bk, ct⟩ σ H := by
  refine ha _ ⟨n, rfl, hn.1, hn.2, ?_⟩
  refine for_range (lo := 0) (n := n.toNat) Pv h0 (fun i σ' H' hi h => ?_) hd
  show tu _ (σ'.set k (some (.int ((0 : Int) + (i : Int))))) H'
  rw [Int.zero_add]
  exact hs i σ' H' (by omega) h
/-- a list of known items -/
theorem s_forL {k : Nat} {tl : TE} {a : Addr} {xs : List V} (Pv : Nat → L2.St → Hp → Prop) (H1 : Hp) (ha : ∀ R : VK, R (.ref a) H1 → tl σ H R) (hx : SqL K H1 a xs) (h0 : Pv 0 σ H1)
    (hl : ∀ i σ' H', i ≤ xs.length → Pv i σ' H' → SqL K H' a xs)
    (hs : ∀ (i : Nat) x σ' H', xs[i]? = some x → Pv i σ' H' → tu ⟨Pv (i + 1), rt, nx, Pv (i + 1)⟩ (σ'.set k (some x)) H') (hd : ∀ σ' H', Pv xs.length σ' H' → nx σ' H') : tFor (iList K tl) (gName k) tu ⟨nx, rt, bk, ct⟩ σ H := by
  refine ha _ ⟨a, rfl, ⟨xs, hx⟩, ?_⟩
  exact for_list (xs := xs) Pv h0 hl (fun i x σ' H' hi h => hs i x σ' H' hi h) hd
theorem ints_get {ns : List Int} {k : Nat} {x : V} (h : (ns.map V.int)[k]? = some x) : ∃ z, ns[k]? = some z ∧ x = .int z := by
  rw [List.getElem?_map] at h
  cases e : ns[k]? with
  | none => rw [e] at h; cases h
  | some z => rw [e] at h; exact ⟨z, rfl, (Option.some.inj h).symm⟩
theorem atI_int {ns : List Int} {i : Int} {k : Nat} {z : Int} (h : ns[k]? = some z) (e : i = k) : atI (ns.map V.int) i = some (.int z) := by
  subst e
  refine atI_nat ?_
  rw [List.getElem?_map, h]; rfl
theorem atI_any {ns : List Int} {i : Int} (h1 : -(ns.length : Int) ≤ i) (h2 : i < ns.length) : ∃ z, atI (ns.map V.int) i = some (.int z) := by
  unfold atI ixN
  rw [List.length_map]
  by_cases h : 0 ≤ i
  · rw [if_pos h, if_pos h2]
    obtain ⟨z, hz⟩ : ∃ z, ns[i.toNat]? = some z := ⟨_, List.getElem?_eq_getElem (by omega)⟩
    refine ⟨z, ?_⟩
    show (ns.map V.int)[i.toNat]? = _
    rw [List.getElem?_map, hz]; rfl
  · rw [if_neg h, if_pos h1]
    obtain ⟨z, hz⟩ : ∃ z, ns[(i + ns.length).toNat]? = some z := ⟨_, List.getElem?_eq_getElem (by omega)⟩
    refine ⟨z, ?_⟩
    show (ns.map V.int)[(i + ns.length).toNat]? = _
    rw [List.getElem?_map, hz]; rfl
theorem small63 {n m : Nat} (h : n ≤ 63) (h2 : m ≤ 100) : n + m ≤ sizeLine := Nat.le_trans (by omega : n + m ≤ 200) (by decide)
/-- for cell in [0] + script: .. -/
theorem law0 {a : Addr} {ns : List Int} (hS : SqL K H a (ns.map V.int)) (hn : ns.length ≤ 63)
    (hb : ∀ (c : Int) (N : L2.St → Hp → Prop) H1, Same H H1 → (∀ v H2, Same H1 H2 → N [some (.ref a), v] H2) → tu ⟨N, rt, nx, N⟩ [some (.ref a), some (.int c)] H1)
    (hd : ∀ v H1, Same H H1 → nx [some (.ref a), v] H1) :
    tFor (iList K (tOp (rCatS K) (tLst (tCons (tC (.int 0)) tNil)) (tVar 0))) (gName 1) tu ⟨nx, rt, bk, ct⟩ [some (.ref a), none] H := by
  show _ ∧ ∀ _, _
  refine ⟨by decide, fun p hp => ?_⟩
  refine ⟨_, rfl, p, a, [.int 0], ns.map V.int, rfl, rfl, sqU, (same_upd hp).seq hS, (by rw [List.length_map]; show 1 + ns.length ≤ _; rw [Nat.add_comm]; exact small63 hn (by decide)), fun q hq => ?_⟩
  have s1 : Same H (upd (upd H p (.lst [.int 0])) q (.lst ([.int 0] ++ ns.map V.int))) := (same_upd hp).trans (same_upd hq)
  refine ⟨q, rfl, ⟨_, sqU⟩, ?_⟩
  refine for_list (xs := [.int 0] ++ ns.map V.int) (fun i σ H' => (∃ v, σ = [some (.ref a), v]) ∧ Same (upd (upd H p (.lst [.int 0])) q (.lst ([.int 0] ++ ns.map V.int))) H') ⟨⟨_, rfl⟩, Same.refl _⟩ (fun i σ' H' _ h => h.2.seq sqU) (fun i x σ' H' hi h => ?_) (fun σ' H' h => ?_)
  · obtain ⟨⟨v, rfl⟩, s2⟩ := h
    have e : [V.int 0] ++ ns.map V.int = (0 :: ns).map V.int := rfl
    rw [e] at hi
    obtain ⟨z, _, rfl⟩ := ints_get hi
    exact hb z _ H' (s1.trans s2) fun v H2 s3 => ⟨⟨v, rfl⟩, s2.trans s3⟩
  · obtain ⟨⟨v, rfl⟩, s2⟩ := h
    exact hd v H' (s1.trans s2)
/-- cells = script + [e, ..]; for k in range(len(cells)): .. -/
theorem law1 {a : Addr} {ns ms : List Int} (hS : SqL K H a (ns.map V.int)) (hn : ns.length ≤ 63) (hm : ms.length ≤ 100) {tl : TE}
    (hl : ∀ (R : VK), (∀ p, H p = none → R (.ref p) (upd H p (.lst (ms.map V.int)))) → tl [some (.ref a), none, none] H R) {te : TE}
    (he : ∀ (p : Addr) (H1 : Hp) (R : List V → Hp → Prop), SqL K H1 p ((ns ++ ms).map V.int) → R [.int ((ns ++ ms).length : Int)] H1 → tCons te tNil [some (.ref a), some (.ref p), none] H1 R)
    (hb : ∀ (p : Addr) (c : Int) (N : L2.St → Hp → Prop) H1, Same H H1 → SqL K H1 p ((ns ++ ms).map V.int) → 0 ≤ c → c < ((ns ++ ms).length : Int) → (∀ v H2, Same H1 H2 → N [some (.ref a), some (.ref p), v] H2) → tu ⟨N, rt, nx, N⟩ [some (.ref a), some (.ref p), some (.int c)] H1)
    (hd : ∀ p v H1, Same H H1 → nx [some (.ref a), some (.ref p), v] H1) :
    tSeq (tAsg (tOp (rCatS K) (tVar 0) tl) (gName 1)) (tFor (iRng1 (tCons te tNil)) (gName 2) tu) ⟨nx, rt, bk, ct⟩ [some (.ref a), none, none] H := by
  refine s_seq (s_asg (s_op (s_var rfl (hl _ fun p hp => ?_))))
  refine ⟨a, p, ns.map V.int, ms.map V.int, rfl, rfl, (same_upd hp).seq hS, sqU, (by rw [List.length_map, List.length_map]; exact small63 hn hm), fun q hq => ?_⟩
  rw [← List.map_append]
  have s1 : Same H (upd (upd H p (.lst (ms.map V.int))) q (.lst ((ns ++ ms).map V.int))) := (same_upd hp).trans (same_upd hq)
  have hlen : (ns ++ ms).length ≤ 163 := by rw [List.length_append]; omega
  refine s_forR1 ((ns ++ ms).length : Int) (fun i σ H' => (∃ v, σ = [some (.ref a), some (.ref q), v]) ∧ Same (upd (upd H p (.lst (ms.map V.int))) q (.lst ((ns ++ ms).map V.int))) H') (fun R z => he q _ R sqU z) (by omega) ⟨⟨_, rfl⟩, Same.refl _⟩ (fun i σ' H' hi h => ?_) (fun σ' H' h => ?_)
  · obtain ⟨⟨v, rfl⟩, s2⟩ := h
    exact hb q i _ H' (s1.trans s2) (s2.seq sqU) (by omega) hi fun v H2 s3 => ⟨⟨v, rfl⟩, s2.trans s3⟩
  · obtain ⟨⟨v, rfl⟩, s2⟩ := h
    exact hd q v H' (s1.trans s2)
/-- the same, two names more -/
theorem law1x {a : Addr} {ns ms : List Int} (hS : SqL K H a (ns.map V.int)) (hn : ns.length ≤ 63) (hm : ms.length ≤ 100) {tl : TE}
    (hl : ∀ (R : VK), (∀ p, H p = none → R (.ref p) (upd H p (.lst (ms.map V.int)))) → tl [some (.ref a), none, none, none, none] H R) {te : TE}
    (he : ∀ (p : Addr) (H1 : Hp) (R : List V → Hp → Prop), SqL K H1 p ((ns ++ ms).map V.int) → R [.int ((ns ++ ms).length : Int)] H1 → tCons te tNil [some (.ref a), some (.ref p), none, none, none] H1 R)
    (hb : ∀ (p : Addr) (c : Int) (v1 v2 : Option V) (N : L2.St → Hp → Prop) H1, Same H H1 → SqL K H1 p ((ns ++ ms).map V.int) → 0 ≤ c → c < ((ns ++ ms).length : Int) → (∀ v v1 v2 H2, Same H1 H2 → N [some (.ref a), some (.ref p), v, v1, v2] H2) → tu ⟨N, rt, nx, N⟩ [some (.ref a), some (.ref p), some (.int c), v1, v2] H1)
    (hd : ∀ p v v1 v2 H1, Same H H1 → nx [some (.ref a), some (.ref p), v, v1, v2] H1) :
    tSeq (tAsg (tOp (rCatS K) (tVar 0) tl) (gName 1)) (tFor (iRng1 (tCons te tNil)) (gName 2) tu) ⟨nx, rt, bk, ct⟩ [some (.ref a), none, none, none, none] H := by
  refine s_seq (s_asg (s_op (s_var rfl (hl _ fun p hp => ?_))))
  refine ⟨a, p, ns.map V.int, ms.map V.int, rfl, rfl, (same_upd hp).seq hS, sqU, (by rw [List.length_map, List.length_map]; exact small63 hn hm), fun q hq => ?_⟩
  rw [← List.map_append]
  have s1 : Same H (upd (upd H p (.lst (ms.map V.int))) q (.lst ((ns ++ ms).map V.int))) := (same_upd hp).trans (same_upd hq)
  have hlen : (ns ++ ms).length ≤ 163 := by rw [List.length_append]; omega
  refine s_forR1 ((ns ++ ms).length : Int) (fun i σ H' => (∃ v v1 v2, σ = [some (.ref a), some (.ref q), v, v1, v2]) ∧ Same (upd (upd H p (.lst (ms.map V.int))) q (.lst ((ns ++ ms).map V.int))) H') (fun R z => he q _ R sqU z) (by omega) ⟨⟨_, _, _, rfl⟩, Same.refl _⟩ (fun i σ' H' hi h => ?_) (fun σ' H' h => ?_)
  · obtain ⟨⟨v, v1, v2, rfl⟩, s2⟩ := h
    exact hb q i v1 v2 _ H' (s1.trans s2) (s2.seq sqU) (by omega) hi fun v v1 v2 H2 s3 => ⟨⟨v, v1, v2, rfl⟩, s2.trans s3⟩
  · obtain ⟨⟨v, v1, v2, rfl⟩, s2⟩ := h
    exact hd q v v1 v2 H' (s1.trans s2)
/-- if p: x = e, x being an int: one way -/
theorem s_ifAsgI {k : Nat} (a b : Int) {p : Prop} [Decidable p] (ht : ∀ T : Bool → Hp → Prop, T (decide p) H → tt σ H T) (he : p → ∀ R : VK, R (.int b) H → te σ H R) (hσ : σ[k]? = some (some (.int a)))
    (z : nx (σ.set k (some (.int (if p then b else a)))) H) : tIfS tt (tAsg te (gName k)) tNext ⟨nx, rt, bk, ct⟩ σ H := by
  refine ht _ (s_iteD (fun h => he h _ ?_) (fun h => ?_))
  · rw [if_pos h] at z; exact z
  · rw [if_neg h] at z
    have e : σ.set k (some (.int a)) = σ := by
      obtain ⟨h1, h2⟩ := List.getElem?_eq_some_iff.mp hσ
      rw [← h2]; exact List.set_getElem_self h1
    rw [e] at z
    exact z
theorem s_iteAsgI {k : Nat} (a b : Int) {p : Prop} [Decidable p] (he : p → ∀ R : VK, R (.int b) H → te σ H R) (hσ : σ[k]? = some (some (.int a)))
    (z : nx (σ.set k (some (.int (if p then b else a)))) H) : if decide p = true then tAsg te (gName k) ⟨nx, rt, bk, ct⟩ σ H else tNext ⟨nx, rt, bk, ct⟩ σ H :=
  s_ifAsgI (tt := fun _ H T => T (decide p) H) (bk := bk) (ct := ct) (rt := rt) a b (fun _ h => h) he hσ z
theorem s_iteAsgV {k : Nat} (a b : V) {p : Prop} [Decidable p] (he : p → ∀ R : VK, R b H → te σ H R) (hσ : σ[k]? = some (some a))
    (z : nx (σ.set k (some (if p then b else a))) H) : if decide p = true then tAsg te (gName k) ⟨nx, rt, bk, ct⟩ σ H else tNext ⟨nx, rt, bk, ct⟩ σ H := by
  refine s_iteD (fun h => he h _ ?_) (fun h => ?_)
  · rw [if_pos h] at z; exact z
  · rw [if_neg h] at z
    have e : σ.set k (some a) = σ := by
      obtain ⟨h1, h2⟩ := List.getElem?_eq_some_iff.mp hσ
      rw [← h2]; exact List.set_getElem_self h1
    rw [e] at z
    exact z
theorem ite_str (p : Prop) [Decidable p] (a b : Str) : (if p then V.str a else V.str b) = V.str (if p then a else b) := by split <;> rfl
end
end Jl

/-! Steps over lists: append, comprehensions over a range, equality of lists. -/
namespace Jl
open PySem L2
section
variable {K : PySem.W.Frag} {σ : L2.St} {H H' : Hp} {Q : VK} {ta tb tc te to : TE} {tr : TA} {i j : Int} {x y v : V} {a p : Addr} {xs ys : List V}
theorem sameT (e : Same H H') (h : SqT K H a xs) : SqT K H' a xs := by
  rcases h with (h | ⟨o, h⟩) | h
  · exact .inl (.inl (e _ _ h))
  · exact .inl (.inr ⟨o, e _ _ h⟩)
  · exact .inr h
mutual
theorem dp_same (e : Same H H') : ∀ {v : V} {d : PyData}, Dp K H v d → Dp K H' v d
  | _, _, .non => .non
  | _, _, .bl b => .bl b
  | _, _, .int i => .int i
  | _, _, .str x => .str x
  | _, _, .lst h hs => .lst (e.seq h) (dps_same e hs)
  | _, _, .tup h hs => .tup (sameT e h) (dps_same e hs)
theorem dps_same (e : Same H H') : ∀ {vs : List V} {ds : List PyData}, DpAll K H vs ds → DpAll K H' vs ds
  | _, _, .nil => .nil
  | _, _, .cons h hs => .cons (dp_same e h) (dps_same e hs)
end
theorem dp_ints : ∀ ns : List Int, DpAll K H (ns.map V.int) (ns.map PyData.int)
  | [] => .nil
  | n :: ns => .cons (.int n) (dp_ints ns)
theorem dp_intL {ns : List Int} (h : SqL K H a (ns.map V.int)) : Dp K H (.ref a) (.list (ns.map PyData.int)) := .lst h (dp_ints ns)
theorem lay_ints : ∀ ns : List Int, PyData.canLayAll0 (ns.map PyData.int) = true
  | [] => rfl
  | n :: ns => by show (true && PyData.canLayAll0 (ns.map PyData.int)) = true; rw [lay_ints ns]; rfl
theorem depth_ints : ∀ ns : List Int, PyData.depthAll (ns.map PyData.int) ≤ 1
  | [] => by show (0 : Nat) ≤ 1; decide
  | n :: ns => by
    have h := depth_ints ns
    show max (PyData.depth (.int n)) (PyData.depthAll (ns.map PyData.int)) ≤ 1
    have e : PyData.depth (.int n) = 0 := by unfold PyData.depth; rfl
    omega
theorem shaped_ints (ns : List Int) : SeqAt.shaped (.list (ns.map PyData.int)) = true := by
  have h := depth_ints ns
  refine Bool.and_eq_true_iff.mpr ⟨lay_ints ns, decide_eq_true ?_⟩
  show PyData.depthAll (ns.map PyData.int) + 1 ≤ 64
  omega
theorem eqv_ints : ∀ ns ms : List Int, PyData.eqvAll (ns.map PyData.int) (ms.map PyData.int) = decide (ns = ms)
  | [], [] => rfl
  | [], _ :: _ => rfl
  | _ :: _, [] => rfl
  | n :: ns, m :: ms => by
    show ((n == m) && PyData.eqvAll (ns.map PyData.int) (ms.map PyData.int)) = _
    rw [eqv_ints ns ms, Bool.eq_iff_iff]
    simp
theorem s_eqInts {p q : Addr} {ns ms : List Int} (h1 : SqL K H p (ns.map V.int)) (h2 : SqL K H q (ms.map V.int)) (z : Q (.bl (decide (ns = ms))) H) : rEqD K (.ref p) (.ref q) H Q :=
  ⟨_, _, dp_intL h1, dp_intL h2, shaped_ints ns, shaped_ints ms, by
    show Q (.bl (PyData.eqvAll (ns.map PyData.int) (ms.map PyData.int))) H
    rw [eqv_ints]; exact z⟩
theorem s_BM {T : String} {r : V → List V → Hp → VK → Prop} {t : TA} (z : to σ H fun x H1 => tyV K T x H1 ∧ t σ H1 fun xs H2 => r x xs H2 Q) : tBM K T r to t σ H Q := z
theorem ty_list (h : SqL K H p xs) : tyV K "list" (.ref p) H := .inl ⟨rfl, _, h⟩
theorem s_tyL {B : Prop} (h : H p = some (.lst xs)) (z : B) : tyV K "list" (.ref p) H ∧ B := ⟨ty_list (.inl (.inl h)), z⟩
theorem s_append (h : H p = some (.lst xs)) (z : Q .non (upd H p (.lst (xs ++ [v])))) (hl : xs.length < sizeLine) : rAppend (.ref p) [v] H Q := ⟨p, xs, v, rfl, rfl, h, hl, z⟩
/-- what H0 knew stands, when an object that it did not know is written -/
theorem same_mut {H0 : Hp} {o : HO} (e : Same H0 H) (h : H0 p = none) : Same H0 (upd H p o) := fun b u hb => by
  rw [upd_ne (ne_of_none hb h)]
  exact e b u hb
theorem small5 {n : Nat} (h : n ≤ 100000) : n ≤ sizeLine := Nat.le_trans h (by decide)
theorem small5' {n : Nat} (h : n ≤ 100000) : n < sizeLine := Nat.lt_of_le_of_lt h (by decide)
/-- [e for i in range(n)] -/
theorem s_lcR {t : TA} {k : Nat} {vs : List Nat} (n : Int) (f : Nat → V) (ha : ∀ R : List V → Hp → Prop, R [.int n] H → t σ H R) (hn : 0 ≤ n ∧ n ≤ 100000) (hw : ∀ x, wipe ((wipe σ vs).set k (some x)) vs = wipe σ vs)
    (he : ∀ (i : Nat) H1 (R : VK), Same H H1 → (i : Int) < n → (∀ H2, Same H1 H2 → R (f i) H2) → te ((wipe σ vs).set k (some (.int (i : Int)))) H1 R)
    (z : ∀ p H1, Same H H1 → H p = none → H1 p = some (.lst ((List.range n.toNat).map f)) → Q (.ref p) H1) : tLc (iRng1 t) (gName k) tYes te vs σ H Q := by
  refine ha _ ⟨n, rfl, by omega, by omega, fun D hD => ?_⟩
  refine lc_range (lo := 0) (n := n.toNat) (fun i H' => Same H H' ∧ H' D = some (.lst ((List.range i).map f))) ⟨same_upd hD, upd_same⟩ (fun i H1 hi h => ?_) (fun H1 h => z D H1 h.1 hD h.2)
  obtain ⟨s1, h1⟩ := h
  have e0 : (0 : Int) + (i : Int) = (i : Int) := Int.zero_add _
  show wipe ((wipe σ vs).set k (some (.int ((0 : Int) + (i : Int))))) vs = wipe σ vs ∧ te ((wipe σ vs).set k (some (.int ((0 : Int) + (i : Int))))) H1 _
  rw [e0]
  refine ⟨hw _, he i H1 _ s1 (by omega) fun H2 s2 => ⟨_, s2 D _ h1, small5' (by rw [List.length_map, List.length_range]; omega), same_mut (s1.trans s2) hD, ?_⟩⟩
  rw [upd_same, List.range_succ, List.map_append]
  rfl
theorem bitsOf_atI (w : Int) {i : Int} (h0 : 0 ≤ i) (h : i < 32) : atI ((bitsOf w 32).map V.int) i = some (.int (w / 2 ^ i.toNat % 2)) :=
  atI_int (bitsOf_get w (by omega)) (by omega)
/-! objects -/
theorem s_make {C : Addr} {sp : Sp} {E : XK} {t : TA} (z : t σ H fun vs H1 => ∀ x dx, H1 x = none → H1 dx = none → dx ≠ x → sp (.ref x :: vs) (upd (upd H1 dx (.own x)) x (.ins C dx [])) (fun v H2 => v = .non ∧ Q (.ref x) H2) E) : tMake C sp [] E t σ H Q := by
  have e : (fun vs H1 => ∀ x dx, H1 x = none → H1 dx = none → dx ≠ x → sp (.ref x :: vs) (upd (upd H1 dx (.own x)) x (.ins C dx [])) (fun v H2 => v = .non ∧ Q (.ref x) H2) E) = (fun vs H1 => ∀ x dx, H1 x = none → H1 dx = none → dx ≠ x → sp (.ref x :: (vs ++ [])) (upd (upd H1 dx (.own x)) x (.ins C dx [])) (fun v H2 => v = .non ∧ Q (.ref x) H2) E) := by
    funext vs H1
    rw [List.append_nil]
  unfold tMake
  rw [← e]
  exact z
theorem same_made {x dx C : Addr} {o : HO} (nx : H x = none) (nd : H dx = none) : Same H (upd (upd (upd H dx (.own x)) x (.ins C dx [])) x o) := fun b u e => by
  rw [upd_ne (ne_of_none e nx), upd_ne (ne_of_none e nx), upd_ne (ne_of_none e nd)]
  exact e
/-- an object with a title -/
def RuleAt (H : Hp) (p C : Addr) (t : Str) : Prop := ∃ dx, H p = some (.ins C dx (putF "title" (.str t) []))
theorem RuleAt.same {C : Addr} {t : Str} (e : Same H H') (h : RuleAt H p C t) : RuleAt H' p C t := by
  obtain ⟨dx, h⟩ := h
  exact ⟨dx, e _ _ h⟩
theorem s_meth {C : Addr} {m t : Str} {sp : Sp} {E : XK} (hR : RuleAt H p C t) (hv : ∀ R : VK, R (.ref p) H → ta σ H R) (hm : ¬ m = "title") (z : tr σ H fun vs H2 => sp (.ref p :: vs) H2 Q E) : tMeth C m sp [] E ta tr σ H Q := by
  obtain ⟨dx, h⟩ := hR
  refine hv _ ⟨p, dx, _, rfl, h, (by rw [lookup_putF, if_neg hm]; rfl), ?_⟩
  have e : (fun vs H2 => sp (.ref p :: vs) H2 Q E) = (fun vs H2 => sp (.ref p :: (vs ++ [])) H2 Q E) := by
    funext vs H1
    rw [List.append_nil]
  rw [← e]
  exact z
/-! an if at which the walk stops: its ways joined -/
def tIfK (c : TT) (t u : TS) : TS := tIfS c t u
theorem s_ifKw {k : Nat} {nx bk ct : L2.St → Hp → Prop} {rt : VK} {tt : TT} {P : Prop} (a0 : V) (M : V → Hp → Prop) (hσ : σ[k]? = some (some a0)) (ht : ∀ T : Bool → Hp → Prop, (P → T true H) → (¬ P → T false H) → tt σ H T)
    (h1 : P → ∀ R : VK, (∀ v H', M v H' → R v H') → te σ H R) (h2 : ¬ P → M a0 H) (z : ∀ v H', M v H' → nx (σ.set k (some v)) H') : tIfK tt (tAsg te (gName k)) tNext ⟨nx, rt, bk, ct⟩ σ H := by
  refine ht _ (fun hp => ?_) (fun hp => ?_)
  · exact s_iteT (h1 hp _ fun v H' hm => z v H' hm)
  · refine s_iteF ?_
    have q := z a0 H (h2 hp)
    have e : σ.set k (some a0) = σ := by
      obtain ⟨h1, h2⟩ := List.getElem?_eq_some_iff.mp hσ
      rw [← h2]; exact List.set_getElem_self h1
    rw [e] at q
    exact q
/-- the same, the ways being statements: what holds behind -/
theorem s_ifKs {nx bk ct : L2.St → Hp → Prop} {rt : VK} {tt : TT} {ts tu : TS} {P : Prop} (M : L2.St → Hp → Prop) (ht : ∀ T : Bool → Hp → Prop, (P → T true H) → (¬ P → T false H) → tt σ H T)
    (h1 : P → ∀ N : L2.St → Hp → Prop, (∀ σ' H', M σ' H' → N σ' H') → ts ⟨N, rt, bk, ct⟩ σ H) (h2 : ¬ P → ∀ N : L2.St → Hp → Prop, (∀ σ' H', M σ' H' → N σ' H') → tu ⟨N, rt, bk, ct⟩ σ H) (z : ∀ σ' H', M σ' H' → nx σ' H') : tIfK tt ts tu ⟨nx, rt, bk, ct⟩ σ H := by
  refine ht _ (fun hp => ?_) (fun hp => ?_)
  · exact s_iteT (h1 hp _ z)
  · exact s_iteF (h2 hp _ z)
end
theorem ps_ifK {X : Cx} {c : Expr} {a b : List Stmt} {tc : TT} {t u : TS} {pos : Pos} (hc : PT X c tc) (ha : PSs X a t) (hb : PSs X b u) : PS X (.If c a b pos) (tIfK tc t u) := ps_if hc ha hb
end Jl

/-! Steps over texts. -/
namespace Jl
open PySem L2
def rAddS : R2 := fun x y H Q => ∃ i j, x = .str i ∧ y = .str j ∧ i.length + j.length ≤ sizeLine ∧ Q (.str (i ++ j)) H
def rInS : R2 := fun x y H Q => ∃ (c : Nat) (z : Str), x = .str ⟨#[c]⟩ ∧ y = .str z ∧ Q (.bl (decide (c ∈ z.cps.toList))) H
def rNotInS : R2 := fun x y H Q => ∃ (c : Nat) (z : Str), x = .str ⟨#[c]⟩ ∧ y = .str z ∧ Q (.bl (!decide (c ∈ z.cps.toList))) H
def rIsN : R2 := fun x y H Q => y = .non ∧ Q (.bl (decide (x = .non))) H
def rNotN : R2 := fun x y H Q => y = .non ∧ Q (.bl (!decide (x = .non))) H
def rLenS : List V → Hp → VK → Prop := fun xs H Q => ∃ z, xs = [.str z] ∧ z.length ≤ sizeLine ∧ Q (.int z.length) H
def rLenL (K : PySem.W.Frag) : List V → Hp → VK → Prop := fun xs H Q => ∃ p ys, xs = [.ref p] ∧ (SqL K H p ys ∨ SqT K H p ys) ∧ Q (.int ys.length) H
def rMax2 : List V → Hp → VK → Prop := fun xs H Q => ∃ i j, xs = [.int i, .int j] ∧ Q (.int (if j > i then j else i)) H
def rMin2 : List V → Hp → VK → Prop := fun xs H Q => ∃ i j, xs = [.int i, .int j] ∧ Q (.int (if j < i then j else i)) H
def rInt1 : List V → Hp → VK → Prop := fun xs H Q => (∃ i, xs = [.int i] ∧ Q (.int i) H) ∨ ∃ k, xs = [.bl k] ∧ Q (.int (if k then 1 else 0)) H
def rIntS : List V → Hp → VK → Prop := fun xs H Q => ∃ a n, xs = [.str a] ∧ PySem.intText? a = some n ∧ a.length ≤ 640 ∧ Q (.int n) H
def rStrI : List V → Hp → VK → Prop := fun xs H Q => ∃ i, xs = [.int i] ∧ i.natAbs.log2 < 1920 ∧ Q (.str (toString i)) H
section
variable {X : Cx}
theorem op_addS : OpR X (binaryOp .Add) rAddS := op_add_str
theorem op_inS : OpR X (compareOp .In) rInS := op_in_sign
theorem op_notInS : OpR X (compareOp .NotIn) rNotInS := op_notIn_sign
theorem op_isN1 : OpR X (compareOp .Is) rIsN := op_isN
theorem op_notN1 : OpR X (compareOp .IsNot) rNotN := op_notN
theorem cl_lenS : CallR X (.builtin "len") rLenS := call_len_str
theorem cl_lenL : CallR X (.builtin "len") (rLenL X.K) := call_len_seq
theorem cl_max2 (hc : X.calm = true) : CallR X (.builtin "max") rMax2 := call_max2 hc
theorem cl_min2 (hc : X.calm = true) : CallR X (.builtin "min") rMin2 := call_min2 hc
theorem cl_int1 : CallR X (.type "int") rInt1 := call_int1
theorem cl_intS : CallR X (.type "int") rIntS := call_int_str
theorem cl_strI : CallR X (.type "str") rStrI := call_str_int
end
section
variable {K : PySem.W.Frag} {σ : L2.St} {H H' : Hp} {Q : VK} {ta tb tc te to : TE} {tr : TA} {i j : Int} {x y v : V} {a p : Addr} {xs ys : List V} {z w : Str} {c : Nat} {b : Bool} {nx bk ct : L2.St → Hp → Prop} {rt : VK} {tu : TS} {tl th : TO} {RO : Option Int → Hp → Prop}
theorem s_addS (k : Q (.str (z ++ w)) H) (h : z.length + w.length ≤ 100000) : rAddS (.str z) (.str w) H Q := ⟨z, w, rfl, rfl, small5 h, k⟩
theorem s_inS (k : Q (.bl (decide (c ∈ w.cps.toList))) H) : rInS (.str ⟨#[c]⟩) (.str w) H Q := ⟨c, w, rfl, rfl, k⟩
theorem s_notInS (k : Q (.bl (!decide (c ∈ w.cps.toList))) H) : rNotInS (.str ⟨#[c]⟩) (.str w) H Q := ⟨c, w, rfl, rfl, k⟩
theorem s_isNn (k : Q (.bl true) H) : rIsN .non .non H Q := ⟨rfl, k⟩
theorem s_isNi (k : Q (.bl false) H) : rIsN (.int i) .non H Q := ⟨rfl, k⟩
theorem s_isNs (k : Q (.bl false) H) : rIsN (.str z) .non H Q := ⟨rfl, k⟩
theorem s_isNr (k : Q (.bl false) H) : rIsN (.ref a) .non H Q := ⟨rfl, k⟩
theorem s_notNn (k : Q (.bl false) H) : rNotN .non .non H Q := ⟨rfl, k⟩
theorem s_notNi (k : Q (.bl true) H) : rNotN (.int i) .non H Q := ⟨rfl, k⟩
theorem s_notNs (k : Q (.bl true) H) : rNotN (.str z) .non H Q := ⟨rfl, k⟩
theorem s_notNr (k : Q (.bl true) H) : rNotN (.ref a) .non H Q := ⟨rfl, k⟩
theorem s_lenS (k : Q (.int (z.length : Int)) H) (h : z.length ≤ 100000) : rLenS [.str z] H Q := ⟨z, rfl, small5 h, k⟩
theorem s_lenL (h : SqL K H p xs) (k : Q (.int (xs.length : Int)) H) : rLenL K [.ref p] H Q := ⟨p, xs, rfl, .inl h, k⟩
theorem s_max2 (k : Q (.int (max i j)) H) : rMax2 [.int i, .int j] H Q := ⟨i, j, rfl, by
  have e : (if j > i then j else i) = max i j := by split <;> omega
  rw [e]; exact k⟩
theorem s_min2 (k : Q (.int (min i j)) H) : rMin2 [.int i, .int j] H Q := ⟨i, j, rfl, by
  have e : (if j < i then j else i) = min i j := by split <;> omega
  rw [e]; exact k⟩
theorem s_int1 (k : Q (.int i) H) : rInt1 [.int i] H Q := .inl ⟨i, rfl, k⟩
theorem s_int1b (k : Q (.int (if b = true then 1 else 0)) H) : rInt1 [.bl b] H Q := .inr ⟨b, rfl, k⟩
theorem s_ixS (h : atI z.cps.toList i = some c) (k : Q (.str ⟨#[c]⟩) H) (hz : z.length ≤ 100000) : rIxS (.str z) (.int i) H Q := ⟨z, i, c, rfl, rfl, small5 hz, h, k⟩
theorem s_sl {r : V → Option Int → Option Int → Hp → VK → Prop} (k : te σ H fun x H1 => tl σ H1 fun l H2 => th σ H2 fun u H3 => r x l u H3 Q) : tSl r te tl th σ H Q := k
theorem s_noP (k : RO none H) : tNoPart σ H RO := k
theorem s_part (k : te σ H fun x H1 => ∃ i, x = .int i ∧ RO (some i) H1) : tPart te σ H RO := k
theorem s_exi {R : Int → Prop} (k : R i) : ∃ j, V.int i = V.int j ∧ R j := ⟨i, rfl, k⟩
theorem s_slS {lo hi : Option Int} (k : Q (.str (cutS z lo hi)) H) (h : z.length ≤ 100000) : rSlS (.str z) lo hi H Q := ⟨z, rfl, small5 h, k⟩
/-- for c in z -/
theorem s_forS {n : Nat} (Pv : Nat → L2.St → Hp → Prop) (ha : ∀ R : VK, R (.str z) H → te σ H R) (h0 : Pv 0 σ H)
    (hs : ∀ (i : Nat) (c : Nat) σ' H', z.cps.toList[i]? = some c → Pv i σ' H' → tu ⟨Pv (i + 1), rt, nx, Pv (i + 1)⟩ (σ'.set n (some (.str ⟨#[c]⟩))) H') (hd : ∀ σ' H', Pv z.length σ' H' → nx σ' H') : tFor (iStr te) (gName n) tu ⟨nx, rt, bk, ct⟩ σ H := by
  refine ha _ ⟨z, rfl, ?_⟩
  refine ⟨fun i m σ H => m = z.length - i ∧ i ≤ z.length ∧ Pv i σ H, ⟨z.length, by simp, Nat.zero_le _, h0⟩, ?_⟩
  rintro i m σ' H1 ⟨rfl, hi, q⟩
  by_cases hlt : i < z.length
  · refine .inr ⟨hlt, Pv (i + 1), fun σ2 H2 q' => ⟨z.length - (i + 1), by omega, rfl, hlt, q'⟩, fun x H2 y => ?_⟩
    obtain ⟨e, c, hc, rfl⟩ := y
    subst e
    exact hs i c σ' _ (by rw [Array.getElem?_toList]; exact hc) q
  · have e : i = z.length := by omega
    subst e
    exact .inl ⟨Nat.le_refl _, hd σ' H1 q⟩
theorem len_app (z w : Str) : (z ++ w).length = z.length + w.length := PySem.Str.length_append z w
theorem cps_app (z w : Str) : (z ++ w).cps.toList = z.cps.toList ++ w.cps.toList := by
  have e : (z ++ w).cps = z.cps ++ w.cps := rfl
  rw [e, Array.toList_append]
theorem len_one (c : Nat) : (⟨#[c]⟩ : Str).length = 1 := rfl
theorem len_cut (z : Str) (lo hi : Option Int) : (cutS z lo hi).length ≤ z.length := cutS_length z lo hi
theorem len_list (z : Str) : z.cps.toList.length = z.length := Array.length_toList
theorem str_ext {z w : Str} (h : z.cps.toList = w.cps.toList) : z = w := by
  obtain ⟨a⟩ := z
  obtain ⟨b⟩ := w
  have e : a = b := Array.toList_inj.mp h
  rw [e]
theorem atI_some {α : Type} {l : List α} {i : Int} (h1 : -(l.length : Int) ≤ i) (h2 : i < l.length) : ∃ z, atI l i = some z := by
  unfold atI ixN
  by_cases h : 0 ≤ i
  · rw [if_pos h, if_pos h2]
    exact ⟨_, List.getElem?_eq_getElem (by omega)⟩
  · rw [if_neg h, if_pos h1]
    exact ⟨_, List.getElem?_eq_getElem (by omega)⟩
theorem atI_of0 {α : Type} {l : List α} {x : α} (h : l[0]? = some x) : atI l 0 = some x := atI_nat h
theorem one_eq {c d : Nat} : ((⟨#[c]⟩ : Str) = ⟨#[d]⟩) ↔ c = d := by
  constructor
  · intro h
    have e := congrArg (fun z : Str => z.cps.toList) h
    simpa using e
  · rintro rfl; rfl
theorem all_false {α : Type} {l : List α} {f : α → Bool} {i : Nat} {x : α} (h : l[i]? = some x) (hf : f x = false) : l.all f = false := by
  rw [List.all_eq_false]
  exact ⟨x, List.mem_of_getElem? h, by rw [hf]; decide⟩
theorem all_true {α : Type} {l : List α} {f : α → Bool} (h : ∀ (i : Nat) x, l[i]? = some x → f x = true) : l.all f = true := by
  rw [List.all_eq_true]
  intro x hx
  obtain ⟨i, hi⟩ := List.getElem?_of_mem hx
  exact h i x hi
end
end Jl

/-! The machine over words: what it is, what a step makes of it; steps over objects, tuples, dicts. -/
namespace Jl
open PySem L2
def opI (w : Int) : Int := w / 268435456 % 16
def fA (w : Int) : Int := w / 33554432 % 8
def fB (w : Int) : Int := w / 4194304 % 8
def fC (w : Int) : Int := w / 524288 % 8
def fN (w : Int) : Int := w % 65536
def nearI (w : Int) : Int := (w + 262144) % 524288 - 262144
def splitI (w : Int) : Int := (w % 128 + 128 * (w / 16384 % 32) + 2048) % 4096 - 2048
def s16 (n : Int) : Int := (n + 32768) % 65536 - 32768
def turnI (w b : Int) : Int := (w / 2 ^ (b % 32).toNat + w * 2 ^ (32 - (b % 32).toNat)) % 4294967296
def reckI (op l r n : Int) : Int :=
  if op = 2 then n else if op = 3 then 65536 * n else if op = 4 then (l + s16 n) % 4294967296 else if op = 7 then (l + r) % 4294967296
  else if op = 8 then (l - r) % 4294967296 else if op = 9 then Builtin.bitAnd l r else if op = 10 then Builtin.bitXor l r else turnI l r
def reg (l : List Int) (i : Int) : Int := l.getD i.toNat 0
structure MSt where
  mem : Int → Option Int
  spot : Int
  regs : List Int
  outs : List Int
  fin : Bool
def thereI (s : MSt) (w : Int) : Int := (reg s.regs (fB w) + s16 (fN w)) % 4294967296
def nextI (s : MSt) : Int := (s.spot + 1) % 4294967296
def goneI (s : MSt) (w : Int) : Int :=
  if opI w = 15 then reg s.regs (fA w) else if opI w = 14 then (s.spot + 1 + nearI w) % 4294967296
  else if (opI w = 12 ∧ reg s.regs (fA w) = reg s.regs (fB w)) ∨ (opI w = 13 ∧ reg s.regs (fA w) < reg s.regs (fB w)) then (s.spot + 1 + splitI w) % 4294967296 else nextI s
def memPut (f : Int → Option Int) (a w : Int) : Int → Option Int := fun x => if x = a then some w else f x
def stepI (s : MSt) (w : Int) : MSt :=
  if opI w = 0 then { s with fin := true }
  else if opI w = 1 then { s with outs := s.outs ++ [reg s.regs (fA w)], spot := nextI s }
  else if opI w = 5 then { s with regs := s.regs.set (fA w).toNat ((s.mem (thereI s w)).getD 0), spot := nextI s }
  else if opI w = 6 then { s with mem := memPut s.mem (thereI s w) (reg s.regs (fA w)), spot := nextI s }
  else if opI w > 11 then { s with regs := if opI w = 14 then s.regs.set (fA w).toNat (nextI s) else s.regs, spot := goneI s w }
  else { s with regs := s.regs.set (fA w).toNat (reckI (opI w) (reg s.regs (fB w)) (reg s.regs (fC w)) (fN w)), spot := nextI s }
/-! the fields -/
def mf (m s r o e : V) : List (Str × V) := putF "ended" e (putF "outputs" o (putF "registers" r (putF "spot" s (putF "memory" m []))))
theorem putF_ne {f g : Str} {v x : V} {r : List (Str × V)} (h : ¬ g = f) : putF f v ((g, x) :: r) = (g, x) :: putF f v r := if_neg h
theorem putF_eq {f : Str} {v x : V} {r : List (Str × V)} : putF f v ((f, x) :: r) = (f, v) :: r := if_pos rfl
theorem mf_is (m s r o e : V) : mf m s r o e = ([("memory", m), ("spot", s), ("registers", r), ("outputs", o), ("ended", e)] : List (Str × V)) := by
  have e0 : putF "memory" m [] = ([("memory", m)] : List (Str × V)) := rfl
  have e1 : putF "spot" s ([("memory", m)] : List (Str × V)) = ([("memory", m), ("spot", s)] : List (Str × V)) := putF_ne (by decide +kernel)
  have e2 : putF "registers" r ([("memory", m), ("spot", s)] : List (Str × V)) = ([("memory", m), ("spot", s), ("registers", r)] : List (Str × V)) := by
    rw [putF_ne (by decide +kernel), putF_ne (by decide +kernel)]; rfl
  have e3 : putF "outputs" o ([("memory", m), ("spot", s), ("registers", r)] : List (Str × V)) = ([("memory", m), ("spot", s), ("registers", r), ("outputs", o)] : List (Str × V)) := by
    rw [putF_ne (by decide +kernel), putF_ne (by decide +kernel), putF_ne (by decide +kernel)]; rfl
  unfold mf
  rw [e0, e1, e2, e3, putF_ne (by decide +kernel), putF_ne (by decide +kernel), putF_ne (by decide +kernel), putF_ne (by decide +kernel)]
  rfl
theorem mf_memory (m s r o e : V) : (mf m s r o e).lookup ("memory" : Str) = some m := by
  unfold mf
  rw [lookup_putF, if_neg (by decide +kernel), lookup_putF, if_neg (by decide +kernel), lookup_putF, if_neg (by decide +kernel), lookup_putF, if_neg (by decide +kernel), lookup_putF, if_pos rfl]
theorem mf_spot (m s r o e : V) : (mf m s r o e).lookup ("spot" : Str) = some s := by
  unfold mf
  rw [lookup_putF, if_neg (by decide +kernel), lookup_putF, if_neg (by decide +kernel), lookup_putF, if_neg (by decide +kernel), lookup_putF, if_pos rfl]
theorem mf_registers (m s r o e : V) : (mf m s r o e).lookup ("registers" : Str) = some r := by
  unfold mf
  rw [lookup_putF, if_neg (by decide +kernel), lookup_putF, if_neg (by decide +kernel), lookup_putF, if_pos rfl]
theorem mf_outputs (m s r o e : V) : (mf m s r o e).lookup ("outputs" : Str) = some o := by
  unfold mf
  rw [lookup_putF, if_neg (by decide +kernel), lookup_putF, if_pos rfl]
theorem mf_ended (m s r o e : V) : (mf m s r o e).lookup ("ended" : Str) = some e := by
  unfold mf
  rw [lookup_putF, if_pos rfl]
theorem mf_no (m s r o e : V) {f : Str} (h1 : ¬ f = "ended") (h2 : ¬ f = "outputs") (h3 : ¬ f = "registers") (h4 : ¬ f = "spot") (h5 : ¬ f = "memory") : (mf m s r o e).lookup f = none := by
  unfold mf
  rw [lookup_putF, if_neg h1, lookup_putF, if_neg h2, lookup_putF, if_neg h3, lookup_putF, if_neg h4, lookup_putF, if_neg h5]
  rfl
theorem mf_len (m s r o e : V) : (mf m s r o e).length < 1000 := by rw [mf_is]; show 5 < 1000; decide
theorem mf_putSpot (m s r o e v : V) : putF "spot" v (mf m s r o e) = mf m v r o e := by
  rw [mf_is, mf_is, putF_ne (by decide +kernel), putF_eq]
theorem mf_putEnded (m s r o e v : V) : putF "ended" v (mf m s r o e) = mf m s r o v := by
  rw [mf_is, mf_is, putF_ne (by decide +kernel), putF_ne (by decide +kernel), putF_ne (by decide +kernel), putF_ne (by decide +kernel), putF_eq]
/-! a machine in the heap -/
structure MachAt (C : Addr) (H : Hp) (p dx m r o : Addr) (s : MSt) : Prop where
  ob : H p = some (.ins C dx (mf (.ref m) (.int s.spot) (.ref r) (.ref o) (.bl s.fin)))
  dc : ∃ kvs, H m = some (.dK kvs) ∧ kvs.length ≤ 100000 ∧ ∀ a : Int, valV kvs (Sum.inl a : Key) = (s.mem a).map V.int
  rg : H r = some (.lst (s.regs.map V.int))
  ou : H o = some (.lst (s.outs.map V.int))
  ne : r ≠ o
theorem MachAt.same {C : Addr} {H H' : Hp} {p dx m r o : Addr} {s : MSt} (e : Same H H') (h : MachAt C H p dx m r o s) : MachAt C H' p dx m r o s := by
  obtain ⟨kvs, h1, h2, h3⟩ := h.dc
  exact ⟨e _ _ h.ob, ⟨kvs, e _ _ h1, h2, h3⟩, e _ _ h.rg, e _ _ h.ou, h.ne⟩
/-- all but a machine's own cells stands -/
def Keep (H H' : Hp) (p m r o : Addr) : Prop := ∀ b v, H b = some v → b ≠ p → b ≠ m → b ≠ r → b ≠ o → H' b = some v
theorem Keep.same {B H H' : Hp} {p m r o : Addr} (k : Keep H H' p m r o) (e : Same B H) (h1 : B p = none) (h2 : B m = none) (h3 : B r = none) (h4 : B o = none) : Same B H' := fun b v hb =>
  k b v (e b v hb) (ne_of_none hb h1) (ne_of_none hb h2) (ne_of_none hb h3) (ne_of_none hb h4)
theorem Keep.of {H H' : Hp} {p m r o : Addr} (e : Same H H') : Keep H H' p m r o := fun b v h _ _ _ _ => e b v h
theorem Keep.trans {H H1 H2 : Hp} {p m r o : Addr} (a : Keep H H1 p m r o) (b : Keep H1 H2 p m r o) : Keep H H2 p m r o := fun c v h h1 h2 h3 h4 => b c v (a c v h h1 h2 h3 h4) h1 h2 h3 h4
section
variable {K : PySem.W.Frag} {σ : L2.St} {H H' : Hp} {Q : VK} {ta tb tc te to tv td ty : TE} {tr : TA} {i j : Int} {x y v : V} {a p dx C m r o : Addr} {xs ys : List V} {f : Str} {fs : List (Str × V)} {nx bk ct : L2.St → Hp → Prop} {rt : VK} {W : L2.St → Hp → Prop} {s : MSt}
theorem s_fld (hv : ∀ R : VK, R (.ref p) H → ta σ H R) (h : H p = some (.ins C dx fs)) (c : Cls K C) (n : NoAttr K C f) (l : fs.lookup f = some v) (z : Q v H) : tFld K ta f σ H Q := hv _ ⟨p, C, dx, fs, v, rfl, h, c, n, l, z⟩
theorem s_sFld (z : tv σ H fun y H1 => ta σ H1 fun x H2 => ∃ a C dx fs, x = .ref a ∧ H2 a = some (.ins C dx fs) ∧ Cls K C ∧ NoAttr K C f ∧ fs.length < 1000 ∧ nx σ (upd H2 a (.ins C dx (putF f y fs)))) : sFld K ta tv f ⟨nx, rt, bk, ct⟩ σ H := z
theorem s_setF (h : H p = some (.ins C dx fs)) (c : Cls K C) (n : NoAttr K C f) (hl : fs.length < 1000) (z : nx σ (upd H p (.ins C dx (putF f y fs)))) :
    ∃ a C dx fs, V.ref p = .ref a ∧ H a = some (.ins C dx fs) ∧ Cls K C ∧ NoAttr K C f ∧ fs.length < 1000 ∧ nx σ (upd H a (.ins C dx (putF f y fs))) := ⟨p, C, dx, fs, rfl, h, c, n, hl, z⟩
theorem s_gTup {n : Nat} {t : TGs} (h : SqT K H p xs) (hl : xs.length = n) (z : t xs σ H W) : gTup K n t (.ref p) σ H W := ⟨p, xs, rfl, h, hl, z⟩
theorem s_gTupA {n : Nat} {t : TGs} (h : H p = some (.tup xs)) (hl : xs.length = n) (z : t xs σ H W) : gTup K n t (.ref p) σ H W := ⟨p, xs, rfl, .inl (.inl h), hl, z⟩
theorem s_gCons {t : TG} {u : TGs} (z : t v σ H fun σ' H' => u xs σ' H' W) : gCons t u (v :: xs) σ H W := ⟨v, xs, rfl, z⟩
theorem s_gNil (z : W σ H) : gNil [] σ H W := ⟨rfl, z⟩
theorem s_gSub {t : TSet} (z : to σ H fun o H1 => te σ H1 fun i H2 => t o i v H2 fun H3 => W σ H3) : gSub to te t v σ H W := z
theorem s_setL {Z : Hp → Prop} {k : Nat} (h : H p = some (.lst xs)) (hi : ixN xs.length i = some k) (z : Z (upd H p (.lst (xs.set k v)))) : rSetL (.ref p) (.int i) v H Z := ⟨p, xs, i, k, rfl, rfl, h, hi, z⟩
theorem ixN_ok {n : Nat} (h0 : 0 ≤ i) (h : i < n) : ixN n i = some i.toNat := by
  unfold ixN
  rw [if_pos h0, if_pos h]
theorem atI_reg {l : List Int} {n : Nat} (hl : l.length = n) (h0 : 0 ≤ i) (h : i < n) : atI (l.map V.int) i = some (.int (reg l i)) := by
  have hi : i.toNat < l.length := by omega
  refine atI_int (k := i.toNat) ?_ (by omega)
  unfold reg
  rw [List.getD_eq_getElem?_getD, List.getElem?_eq_getElem hi]; rfl
theorem map_set {l : List Int} {n : Nat} {z : Int} : (l.map V.int).set n (.int z) = (l.set n z).map V.int := by rw [List.map_set]
theorem tup_at {i : Nat} {v : V} (h : H p = some (.tup xs)) (hv : xs[i]? = some v) (z : Q v H) : rIxT K (.ref p) (.int (i : Int)) H Q := s_ixT (.inl (.inl h)) (atI_nat hv) z
theorem s_methO {sp : Sp} {E : XK} (hv : ∀ R : VK, R (.ref p) H → ta σ H R) (h : H p = some (.ins C dx fs)) (hm : fs.lookup f = none) (z : tr σ H fun vs H2 => sp (.ref p :: vs) H2 Q E) : tMeth C f sp [] E ta tr σ H Q := by
  refine hv _ ⟨p, dx, _, rfl, h, hm, ?_⟩
  have e : (fun vs H2 => sp (.ref p :: vs) H2 Q E) = (fun vs H2 => sp (.ref p :: (vs ++ [])) H2 Q E) := by
    funext vs H1
    rw [List.append_nil]
  rw [← e]
  exact z
/-! dicts and copies -/
theorem s_dnotin (z : ty σ H fun y H1 => td σ H1 fun x H2 => ∃ a o, x = .ref a ∧ DGet H2 a y o ∧ Q (.bl (!o.isSome)) H2) : tDNotIn ty td σ H Q := z
theorem s_din (z : ty σ H fun y H1 => td σ H1 fun x H2 => ∃ a o, x = .ref a ∧ DGet H2 a y o ∧ Q (.bl o.isSome) H2) : tDIn ty td σ H Q := z
theorem s_dgetR (z : td σ H fun x H1 => ty σ H1 fun y H2 => ∃ a v, x = .ref a ∧ DGet H2 a y (some v) ∧ Q v H2) : tDGet td ty σ H Q := z
theorem s_dput (z : tv σ H fun v H1 => td σ H1 fun x H2 => ty σ H2 fun y H3 => ∃ a H4, x = .ref a ∧ DPut H3 a y v H4 ∧ nx σ H4) : sDPut td ty tv ⟨nx, rt, bk, ct⟩ σ H := z
theorem s_dget1 (z : td σ H fun x H1 => ∃ a, x = .ref a ∧ IsD H1 a ∧ ty σ H1 fun y H2 => ∃ o, DGet H2 a y o ∧ Q (o.getD .non) H2) : tDGet1 td ty σ H Q := z
end
def rDictD : List V → Hp → VK → Prop := fun xs H Q => ∃ (a : Addr) (kvs : List (Key × V)), xs = [.ref a] ∧ Rd H a (.dK kvs) ∧ ∀ p, H p = none → Q (.ref p) (upd H p (.dK kvs))
def rListO (K : PySem.W.Frag) : List V → Hp → VK → Prop := fun xs H Q => ∃ p ys, xs = [.ref p] ∧ (SqL K H p ys ∨ SqT K H p ys) ∧ ∀ l, H l = none → Q (.ref l) (upd H l (.lst ys))
theorem cl_dictD {X : Cx} : CallR X (.type "dict") rDictD := call_dictD
theorem cl_listO {X : Cx} : CallR X (.type "list") (rListO X.K) := call_list_of
theorem s_dictD {H : Hp} {Q : VK} {a : Addr} {kvs : List (Key × V)} (h : H a = some (.dK kvs)) (z : ∀ p, H p = none → Q (.ref p) (upd H p (.dK kvs))) : rDictD [.ref a] H Q := ⟨a, kvs, rfl, .inl h, z⟩
theorem s_listO {K : PySem.W.Frag} {H : Hp} {Q : VK} {a : Addr} {xs : List V} (h : SqL K H a xs) (z : ∀ p, H p = none → Q (.ref p) (upd H p (.lst xs))) : rListO K [.ref a] H Q := ⟨a, xs, rfl, .inl h, z⟩
/-- the key of an int -/
def kI (a : Int) : Key := Sum.inl a
/-- all but one object stands -/
def But (H H' : Hp) (p : Addr) : Prop := ∀ b v, H b = some v → b ≠ p → H' b = some v
theorem But.refl (H : Hp) (p : Addr) : But H H p := fun _ _ h _ => h
theorem But.at {H H' : Hp} {p : Addr} {o : HO} (e : But H H' p) : But H (upd H' p o) p := fun b v h n => by
  rw [upd_ne n]; exact e b v h n
theorem But.new {H H' : Hp} {p q : Addr} {o : HO} (e : But H H' p) (hq : H q = none) : But H (upd H' q o) p := fun b v h n => by
  rw [upd_ne (ne_of_none h hq)]; exact e b v h n
theorem But.sq {K : PySem.W.Frag} {H H' : Hp} {p dx C a : Addr} {fs : List (Str × V)} {xs : List V} (e : But H H' p) (hp : H p = some (.ins C dx fs)) (h : SqL K H a xs) : SqL K H' a xs := by
  rcases h with (h | ⟨o, h⟩) | h
  · exact .inl (.inl (e _ _ h (ne_of h hp (by intro z; cases z))))
  · exact .inl (.inr ⟨o, e _ _ h (ne_of h hp (by intro z; cases z))⟩)
  · exact .inr h
theorem But.free {H H' : Hp} {p q dx C : Addr} {fs : List (Str × V)} (e : But H H' p) (hp : H p = some (.ins C dx fs)) (h' : ∃ v, H' p = some v) (h : H' q = none) : H q = none := by
  cases z : H q with
  | none => rfl
  | some v =>
    by_cases hq : q = p
    · subst hq
      obtain ⟨v, hv⟩ := h'
      rw [hv] at h; cases h
    · rw [e q v z hq] at h; cases h
theorem lp1 {f : Str} {v : V} {fs : List (Str × V)} {n : Nat} (h : fs.length ≤ n) : (putF f v fs).length ≤ n + 1 := Nat.le_trans (length_putF f v fs) (by omega)
theorem lp {n : Nat} {fs : List (Str × V)} (h : fs.length ≤ n) (hn : n ≤ 100) : fs.length < 1000 := by omega
theorem nil0 : ([] : List (Str × V)).length ≤ 0 := Nat.le_refl 0
section
variable {C p dx m r o : Addr} {H H' : Hp} {s : MSt}
theorem MachAt.pm (M : MachAt C H p dx m r o s) : p ≠ m := by obtain ⟨k, h, _⟩ := M.dc; exact ne_of M.ob h (by intro z; cases z)
theorem MachAt.pr (M : MachAt C H p dx m r o s) : p ≠ r := ne_of M.ob M.rg (by intro z; cases z)
theorem MachAt.po (M : MachAt C H p dx m r o s) : p ≠ o := ne_of M.ob M.ou (by intro z; cases z)
theorem MachAt.rm (M : MachAt C H p dx m r o s) : r ≠ m := by obtain ⟨k, h, _⟩ := M.dc; exact ne_of M.rg h (by intro z; cases z)
theorem MachAt.om (M : MachAt C H p dx m r o s) : o ≠ m := by obtain ⟨k, h, _⟩ := M.dc; exact ne_of M.ou h (by intro z; cases z)
theorem MachAt.setSpot (M : MachAt C H p dx m r o s) (v : Int) : MachAt C (upd H p (.ins C dx (putF "spot" (.int v) (mf (.ref m) (.int s.spot) (.ref r) (.ref o) (.bl s.fin))))) p dx m r o { s with spot := v } := by
  obtain ⟨kvs, h1, h2, h3⟩ := M.dc
  rw [mf_putSpot]
  exact ⟨upd_same, ⟨kvs, by rw [upd_ne M.pm.symm]; exact h1, h2, h3⟩, by rw [upd_ne M.pr.symm]; exact M.rg, by rw [upd_ne M.po.symm]; exact M.ou, M.ne⟩
theorem MachAt.setEnded (M : MachAt C H p dx m r o s) (v : Bool) : MachAt C (upd H p (.ins C dx (putF "ended" (.bl v) (mf (.ref m) (.int s.spot) (.ref r) (.ref o) (.bl s.fin))))) p dx m r o { s with fin := v } := by
  obtain ⟨kvs, h1, h2, h3⟩ := M.dc
  rw [mf_putEnded]
  exact ⟨upd_same, ⟨kvs, by rw [upd_ne M.pm.symm]; exact h1, h2, h3⟩, by rw [upd_ne M.pr.symm]; exact M.rg, by rw [upd_ne M.po.symm]; exact M.ou, M.ne⟩
theorem MachAt.setReg (M : MachAt C H p dx m r o s) (i : Nat) (v : Int) : MachAt C (upd H r (.lst ((s.regs.map V.int).set i (.int v)))) p dx m r o { s with regs := s.regs.set i v } := by
  obtain ⟨kvs, h1, h2, h3⟩ := M.dc
  refine ⟨by rw [upd_ne M.pr]; exact M.ob, ⟨kvs, by rw [upd_ne M.rm.symm]; exact h1, h2, h3⟩, ?_, by rw [upd_ne M.ne.symm]; exact M.ou, M.ne⟩
  rw [map_set]; exact upd_same
theorem MachAt.app (M : MachAt C H p dx m r o s) (v : Int) : MachAt C (upd H o (.lst (s.outs.map V.int ++ [.int v]))) p dx m r o { s with outs := s.outs ++ [v] } := by
  obtain ⟨kvs, h1, h2, h3⟩ := M.dc
  refine ⟨by rw [upd_ne M.po]; exact M.ob, ⟨kvs, by rw [upd_ne M.om.symm]; exact h1, h2, h3⟩, by rw [upd_ne M.ne]; exact M.rg, ?_, M.ne⟩
  have e : (s.outs ++ [v]).map V.int = s.outs.map V.int ++ [.int v] := by rw [List.map_append]; rfl
  rw [e]; exact upd_same
theorem Keep.atP {v : HO} (k : Keep H H' p m r o) : Keep H (upd H' p v) p m r o := fun b u h h1 h2 h3 h4 => by rw [upd_ne h1]; exact k b u h h1 h2 h3 h4
theorem Keep.atR {v : HO} (k : Keep H H' p m r o) : Keep H (upd H' r v) p m r o := fun b u h h1 h2 h3 h4 => by rw [upd_ne h3]; exact k b u h h1 h2 h3 h4
theorem Keep.atO {v : HO} (k : Keep H H' p m r o) : Keep H (upd H' o v) p m r o := fun b u h h1 h2 h3 h4 => by rw [upd_ne h4]; exact k b u h h1 h2 h3 h4
theorem Keep.atM {H2 : Hp} (k : Keep H H' p m r o) (e : ∀ b, b ≠ m → H2 b = H' b) : Keep H H2 p m r o := fun b u h h1 h2 h3 h4 => by rw [e b h2]; exact k b u h h1 h2 h3 h4
theorem Keep.sm {H2 : Hp} (k : Keep H H' p m r o) (e : Same H' H2) : Keep H H2 p m r o := fun b u h h1 h2 h3 h4 => e b u (k b u h h1 h2 h3 h4)
end
/-- what a step asks -/
structure Goes (s : MSt) (w : Int) : Prop where
  run : s.fin = false
  here : s.mem s.spot = some w
  r8 : s.regs.length = 8
  rr : ∀ i, 0 ≤ i → i < 8 → 0 ≤ reg s.regs i ∧ reg s.regs i < 4294967296
  few : s.outs.length ≤ 1000
  has : opI w = 5 ∨ opI w = 6 → ∃ v, s.mem (thereI s w) = some v
def optW : Option Int → V
  | none => .non
  | some n => .int n
section
variable {K : PySem.W.Frag} {σ : L2.St} {H H' : Hp} {Q : VK} {ta tb tc te to tv td ty tl : TE} {tt : TT} {tr : TA} {i j : Int} {x y v : V} {a p q dx C m r o : Addr} {xs ys : List V}
theorem s_isi_tt {cn : String} {k : Bool} (h : H q = some (.tup xs)) (hk : kitB "tuple" cn = some k) (z : Q (.bl k) H) : rIsi K [.ref q, .ty cn] H Q := s_isi (.base (.tup h)) (kit_ty hk) z
/-- a machine's state as data -/
def stD (s : MSt) : PyData := .tuple [.int s.spot, .list (s.regs.map PyData.int), .list (s.outs.map PyData.int), .bool s.fin]
theorem dp_st {s : MSt} (h : H q = some (.tup [.int s.spot, .ref r, .ref o, .bl s.fin])) (hr : SqL K H r (s.regs.map V.int)) (ho : SqL K H o (s.outs.map V.int)) : Dp K H (.ref q) (stD s) :=
  .tup (.inl (.inl h)) (.cons (.int _) (.cons (dp_intL hr) (.cons (dp_intL ho) (.cons (.bl _) .nil))))
theorem shaped_st (s : MSt) : SeqAt.shaped (stD s) = true := by
  have h1 := depth_ints s.regs
  have h2 := depth_ints s.outs
  refine Bool.and_eq_true_iff.mpr ⟨?_, decide_eq_true ?_⟩
  · show (true && (PyData.canLayAll0 (s.regs.map PyData.int) && (PyData.canLayAll0 (s.outs.map PyData.int) && (true && true)))) = true
    rw [lay_ints, lay_ints]; rfl
  · show (max 0 (max (PyData.depthAll (s.regs.map PyData.int) + 1) (max (PyData.depthAll (s.outs.map PyData.int) + 1) (max 0 0)))) + 1 ≤ 64
    omega
theorem s_neSt {s : MSt} (h1 : Dp K H x (stD s)) (h2 : Dp K H y (stD s)) (z : Q (.bl false) H) : rNeD K x y H Q :=
  ⟨_, _, h1, h2, shaped_st s, shaped_st s, by
    rw [SeqAt.eqv_refl _ (SeqAt.canLay_of_shaped (shaped_st s))]; exact z⟩
/-- [e for x in xs if t], t false of each -/
theorem s_lcNo {k : Nat} {vs : List Nat} {xs : List V} (ha : ∀ R : VK, (∀ a H1, Same H H1 → SqL K H1 a xs → R (.ref a) H1) → tl σ H R) (hw : ∀ x, wipe ((wipe σ vs).set k (some x)) vs = wipe σ vs)
    (ht : ∀ (i : Nat) x H1 (T : Bool → Hp → Prop), xs[i]? = some x → Same H H1 → (∀ H2, Same H1 H2 → T false H2) → tt ((wipe σ vs).set k (some x)) H1 T)
    (z : ∀ p H1, Same H H1 → H1 p = some (.lst []) → Q (.ref p) H1) : tLc (iList K tl) (gName k) tt te vs σ H Q := by
  refine ha _ fun a H0 s0 hx => ⟨a, rfl, ⟨xs, hx⟩, fun D hD => ?_⟩
  refine lc_list (xs := xs) (fun i H' => Same H0 H' ∧ H' D = some (.lst [])) ⟨same_upd hD, upd_same⟩ (fun i H' _ h => h.1.seq hx) (fun i x H1 hi h => ?_) (fun H1 h => z D H1 (s0.trans h.1) h.2)
  obtain ⟨s1, h1⟩ := h
  refine ⟨hw _, ht i x H1 _ hi (s0.trans s1) fun H2 s2 => ?_⟩
  rw [if_neg Bool.false_ne_true]
  exact ⟨s1.trans s2, s2 D _ h1⟩
theorem s_eqNil (h1 : H p = some (.lst [])) (h2 : H q = some (.lst [])) (z : Q (.bl true) H) : rEqD K (.ref p) (.ref q) H Q :=
  s_eqInts (ns := []) (ms := []) (.inl (.inl h1)) (.inl (.inl h2)) z
end
theorem s_disp {trs : List (TE × TE)} {σ : L2.St} {H : Hp} {Q : VK} (z : ∀ p, H p = none → tPairs trs σ (upd H p (.dK [])) fun ps H2 => H2 p = some (.dK []) ∧ ∃ kvs : List (Key × V), ps = kvs.map (fun kv => (kV kv.1, kv.2)) ∧ kvs.length ≤ 15 ∧ Q (.ref p) (upd H2 p (.dK (mergeK [] kvs)))) : tDisp trs σ H Q := z
theorem s_tPc {tk tv : TE} {r : List (TE × TE)} {σ : L2.St} {H : Hp} {R : List (V × V) → Hp → Prop} (z : tk σ H fun x H1 => tv σ H1 fun y H2 => tPairs r σ H2 fun ps H3 => R ((x, y) :: ps) H3) : tPairs ((tk, tv) :: r) σ H R := z
theorem s_tPn {σ : L2.St} {H : Hp} {R : List (V × V) → Hp → Prop} (z : R [] H) : tPairs [] σ H R := z
/-- a word put together -/
theorem word_parts {op a b c low : Int} (h1 : 0 ≤ op ∧ op < 16) (h2 : 0 ≤ a ∧ a < 8) (h3 : 0 ≤ b ∧ b < 8) (h4 : 0 ≤ c ∧ c < 8) (h5 : 0 ≤ low ∧ low < 524288) :
    let w := op * 268435456 + a * 33554432 + b * 4194304 + c * 524288 + low
    (0 ≤ w ∧ w < 4294967296) ∧ opI w = op ∧ fA w = a ∧ fB w = b ∧ fC w = c ∧ fN w = low % 65536 ∧ nearI w = nearI low ∧ splitI w = splitI low := by
  intro w
  have hw : w = op * 268435456 + a * 33554432 + b * 4194304 + c * 524288 + low := rfl
  clear_value w
  unfold opI fA fB fC fN nearI splitI
  refine ⟨by omega, by omega, by omega, by omega, by omega, by omega, by omega, ?_⟩
  have e1 : w % 128 = low % 128 := by omega
  have e2 : w / 16384 % 32 = low / 16384 % 32 := by omega
  rw [e1, e2]
theorem near_low {low : Int} (h : 0 ≤ low ∧ low < 524288) : nearI low = if low > 262143 then low - 524288 else low := by
  unfold nearI; split <;> omega
theorem split_low (low : Int) : splitI low = if low % 128 + low / 16384 % 32 * 128 > 2047 then low % 128 + low / 16384 % 32 * 128 - 4096 else low % 128 + low / 16384 % 32 * 128 := by
  unfold splitI; split <;> omega
def onw (op one other beside low : Int) : Int :=
  if op = 15 then one else if op = 14 then (beside + nearI low) % 4294967296 else if (op = 12 ∧ one = other) ∨ (op = 13 ∧ one < other) then (beside + splitI low) % 4294967296 else beside
theorem reg_set {l : List Int} {i j v : Int} (h : i < l.length) (h0 : 0 ≤ i) (j0 : 0 ≤ j) : reg (l.set i.toNat v) j = if j = i then v else reg l j := by
  unfold reg
  rw [List.getD_eq_getElem?_getD, List.getElem?_set, List.getD_eq_getElem?_getD]
  by_cases e : j = i
  · rw [if_pos (by rw [e]), if_pos (by omega), if_pos e]; rfl
  · rw [if_neg (by omega), if_neg e]
/-- an object that is none of a machine's cells is written -/
theorem MachAt.off {C : Addr} {H : Hp} {p dx m r o q : Addr} {s : MSt} {v : HO} (M : MachAt C H p dx m r o s) (h1 : q ≠ p) (h2 : q ≠ m) (h3 : q ≠ r) (h4 : q ≠ o) : MachAt C (upd H q v) p dx m r o s := by
  obtain ⟨kvs, k1, k2, k3⟩ := M.dc
  exact ⟨by rw [upd_ne h1.symm]; exact M.ob, ⟨kvs, by rw [upd_ne h2.symm]; exact k1, k2, k3⟩, by rw [upd_ne h3.symm]; exact M.rg, by rw [upd_ne h4.symm]; exact M.ou, M.ne⟩
end Jl

namespace Jl
open PySem PyProof.Rows L2
theorem and_bit (i : Nat) : ∀ x y : Int, Builtin.bitAnd x y / 2 ^ i % 2 = if x / 2 ^ i % 2 = 1 ∧ y / 2 ^ i % 2 = 1 then 1 else 0 := by
  induction i with
  | zero =>
    intro x y
    rw [and_rec]
    simp only [Int.pow_zero, Int.ediv_one]
    split <;> omega
  | succ i ih =>
    intro x y
    rw [ediv_two_pow, ediv_two_pow, ediv_two_pow]
    have e : Builtin.bitAnd x y / 2 = Builtin.bitAnd (x / 2) (y / 2) := by
      rw [and_rec]; split <;> omega
    rw [e]
    exact ih (x / 2) (y / 2)
theorem xor_bit (i : Nat) : ∀ x y : Int, Builtin.bitXor x y / 2 ^ i % 2 = (x / 2 ^ i % 2 + y / 2 ^ i % 2) % 2 := by
  induction i with
  | zero =>
    intro x y
    rw [xor_rec]
    simp only [Int.pow_zero, Int.ediv_one]
    omega
  | succ i ih =>
    intro x y
    rw [ediv_two_pow, ediv_two_pow, ediv_two_pow]
    have e : Builtin.bitXor x y / 2 = Builtin.bitXor (x / 2) (y / 2) := by
      rw [xor_rec]; omega
    rw [e]
    exact ih (x / 2) (y / 2)
theorem mod_more (x : Int) (i : Nat) : x % 2 ^ (i + 1) = x % 2 ^ i + x / 2 ^ i % 2 * 2 ^ i := by
  have hp := two_pow_pos i
  have h1 := Int.mul_ediv_add_emod x (2 ^ i)
  have h2 := Int.mul_ediv_add_emod (x / 2 ^ i) 2
  have r1 := Int.emod_nonneg x (show (2 : Int) ^ i ≠ 0 by omega)
  have r2 := Int.emod_lt_of_pos x hp
  have r3 : x / 2 ^ i % 2 = 0 ∨ x / 2 ^ i % 2 = 1 := by omega
  have e : x = (x % 2 ^ i + x / 2 ^ i % 2 * 2 ^ i) + 2 ^ (i + 1) * (x / 2 ^ i / 2) := by
    have : (2 : Int) ^ (i + 1) * (x / 2 ^ i / 2) = 2 ^ i * (2 * (x / 2 ^ i / 2)) := by rw [Int.pow_succ, Int.mul_assoc]
    rw [this]
    have e3 : (2 : Int) ^ i * (x / 2 ^ i) = 2 ^ i * (2 * (x / 2 ^ i / 2)) + 2 ^ i * (x / 2 ^ i % 2) := by rw [← Int.mul_add, h2]
    have e4 : (2 : Int) ^ i * (x / 2 ^ i % 2) = x / 2 ^ i % 2 * 2 ^ i := Int.mul_comm ..
    omega
  have hr : 0 ≤ x % 2 ^ i + x / 2 ^ i % 2 * 2 ^ i ∧ x % 2 ^ i + x / 2 ^ i % 2 * 2 ^ i < 2 ^ (i + 1) := by
    rw [pow_succ2]
    rcases r3 with r3 | r3 <;> rw [r3] <;> omega
  conv => lhs; rw [e]
  rw [Int.add_mul_emod_self_left, Int.emod_eq_of_lt hr.1 hr.2]
theorem and_word {x y : Int} (_hx : 0 ≤ x) (hy : 0 ≤ y) (h : y < 2 ^ 32) : Builtin.bitAnd x y % 2 ^ 32 = Builtin.bitAnd x y := by
  have := bitAnd_range x hy
  exact Int.emod_eq_of_lt this.1 (by omega)
theorem xor_word {x y : Int} (hx : 0 ≤ x) (hy : 0 ≤ y) (h1 : x < 2 ^ 32) (h : y < 2 ^ 32) : Builtin.bitXor x y % 2 ^ 32 = Builtin.bitXor x y := by
  have h0 : 0 ≤ Builtin.bitXor x y := _root_.Bits.bitXor_nonneg hx hy
  refine Int.emod_eq_of_lt h0 ?_
  rw [_root_.Bits.bitXor_pp hx hy]
  have := Nat.xor_lt_two_pow (n := 32) (x := x.toNat) (y := y.toNat) (by omega) (by omega)
  omega
def rotI (w : Int) (m : Nat) : Int := w / 2 ^ m + w % 2 ^ m * 2 ^ (32 - m)
theorem rot_is {w : Int} (h0 : 0 ≤ w) (h1 : w < 2 ^ 32) {m : Nat} (hm : m ≤ 32) : (w / 2 ^ m + w * 2 ^ (32 - m)) % 2 ^ 32 = rotI w m ∧ 0 ≤ rotI w m ∧ rotI w m < 2 ^ 32 := by
  have hp := two_pow_pos m
  have hq := two_pow_pos (32 - m)
  have e32 : (2 : Int) ^ m * 2 ^ (32 - m) = 2 ^ 32 := by rw [← pow_add2, show m + (32 - m) = 32 by omega]
  have hA : 0 ≤ w / 2 ^ m ∧ w / 2 ^ m < 2 ^ (32 - m) := div_lt_pow h0 (by rw [show m + (32 - m) = 32 by omega]; exact h1)
  have r1 := Int.emod_nonneg w (show (2 : Int) ^ m ≠ 0 by omega)
  have r2 := Int.emod_lt_of_pos w hp
  have e1 := Int.mul_ediv_add_emod w (2 ^ m)
  have hb : 0 ≤ w % 2 ^ m * 2 ^ (32 - m) ∧ w % 2 ^ m * 2 ^ (32 - m) ≤ 2 ^ 32 - 2 ^ (32 - m) := by
    refine ⟨Int.mul_nonneg r1 (Int.le_of_lt hq), ?_⟩
    have : w % 2 ^ m * 2 ^ (32 - m) ≤ (2 ^ m - 1) * 2 ^ (32 - m) := Int.mul_le_mul_of_nonneg_right (by omega) (Int.le_of_lt hq)
    rw [Int.sub_mul, e32, Int.one_mul] at this
    exact this
  have e2 : w * 2 ^ (32 - m) = 2 ^ 32 * (w / 2 ^ m) + w % 2 ^ m * 2 ^ (32 - m) := by
    conv => lhs; rw [← e1]
    rw [Int.add_mul, Int.mul_right_comm, e32]
  have hr : 0 ≤ rotI w m ∧ rotI w m < 2 ^ 32 := by unfold rotI; omega
  refine ⟨?_, hr⟩
  have e3 : w / 2 ^ m + w * 2 ^ (32 - m) = rotI w m + 2 ^ 32 * (w / 2 ^ m) := by unfold rotI; omega
  rw [e3, Int.add_mul_emod_self_left, Int.emod_eq_of_lt hr.1 hr.2]
theorem rot_more {w : Int} {m : Nat} (hm : m < 32) : rotI w m / 2 + rotI w m % 2 * 2147483648 = rotI w (m + 1) := by
  unfold rotI
  obtain ⟨k, hk⟩ : ∃ k, 32 - m = k + 1 := ⟨31 - m, by omega⟩
  have hk2 : 32 - (m + 1) = k := by omega
  have e31 : (2 : Int) ^ m * 2 ^ k = 2147483648 := by rw [← pow_add2, show m + k = 31 by omega]; rfl
  rw [hk, hk2, ← half_more, mod_more w m, pow_succ2 k, Int.mul_left_comm]
  rw [Int.add_mul, Int.mul_assoc _ (2 ^ m), e31]
  generalize hB : w % 2 ^ m * 2 ^ k = B
  have h2 : w / 2 ^ m % 2 = 0 ∨ w / 2 ^ m % 2 = 1 := by omega
  omega
theorem turn_is {w : Int} (h0 : 0 ≤ w) (h1 : w < 4294967296) (b : Int) : turnI w b = rotI w (b % 32).toNat := by
  have := (rot_is h0 h1 (m := (b % 32).toNat) (by omega)).1
  exact this
theorem rot_zero (w : Int) : rotI w 0 = w := by
  unfold rotI
  rw [Int.pow_zero]; omega
theorem and_more (x y : Int) (i : Nat) : Builtin.bitAnd x y % 2 ^ (i + 1) = if x / 2 ^ i % 2 + y / 2 ^ i % 2 = 2 then Builtin.bitAnd x y % 2 ^ i + 2 ^ i else Builtin.bitAnd x y % 2 ^ i := by
  rw [mod_more, and_bit]
  have a := Int.emod_two_eq (x / 2 ^ i)
  have b := Int.emod_two_eq (y / 2 ^ i)
  by_cases h : x / 2 ^ i % 2 = 1 ∧ y / 2 ^ i % 2 = 1
  · rw [if_pos h, if_pos (by omega), Int.one_mul]
  · rw [if_neg h, if_neg (by omega), Int.zero_mul, Int.add_zero]
theorem xor_more (x y : Int) (i : Nat) : Builtin.bitXor x y % 2 ^ (i + 1) = if x / 2 ^ i % 2 + y / 2 ^ i % 2 = 1 then Builtin.bitXor x y % 2 ^ i + 2 ^ i else Builtin.bitXor x y % 2 ^ i := by
  rw [mod_more, xor_bit]
  have a := Int.emod_two_eq (x / 2 ^ i)
  have b := Int.emod_two_eq (y / 2 ^ i)
  by_cases h : x / 2 ^ i % 2 + y / 2 ^ i % 2 = 1
  · rw [if_pos h, h]; omega
  · rw [if_neg h]
    have e : (x / 2 ^ i % 2 + y / 2 ^ i % 2) % 2 = 0 := by omega
    rw [e]; omega
theorem cut_all {xs : List V} {n : Int} (h0 : 0 ≤ n) (h : (xs.length : Int) ≤ n) : cutV xs none (some n) = xs := by
  unfold cutV
  have e1 : HT.sIx xs.length 0 none = 0 := rfl
  have e2 : HT.sIx xs.length xs.length (some n) = xs.length := by
    show (if n < 0 then _ else min n.toNat xs.length) = _
    rw [if_neg (by omega)]; omega
  rw [e1, e2, List.drop_zero, Nat.sub_zero, List.take_length]
section
variable {K : PySem.W.Frag} {H : Hp} {nx bk ct : L2.St → Hp → Prop} {rt : VK} {tu : TS}
/-- cells = script[:63] + ms; a loop over its places -/
theorem law1S {a : Addr} {ns ms : List Int} (hS : SqL K H a (ns.map V.int)) (hn : ns.length ≤ 63) (hm : ms.length ≤ 100) {tf tl : TE} {te : TE}
    (hf : ∀ (R : VK), (∀ p, H p = none → R (.ref p) (upd H p (.lst (ns.map V.int)))) → tf [some (.ref a), none, none] H R)
    (hl : ∀ (H1 : Hp) (R : VK), (∀ p, H1 p = none → R (.ref p) (upd H1 p (.lst (ms.map V.int)))) → tl [some (.ref a), none, none] H1 R)
    (he : ∀ (p : Addr) (H1 : Hp) (R : List V → Hp → Prop), SqL K H1 p ((ns ++ ms).map V.int) → R [.int ((ns ++ ms).length : Int)] H1 → tCons te tNil [some (.ref a), some (.ref p), none] H1 R)
    (hb : ∀ (p : Addr) (c : Int) (N : L2.St → Hp → Prop) H1, Same H H1 → SqL K H1 p ((ns ++ ms).map V.int) → 0 ≤ c → c < ((ns ++ ms).length : Int) → (∀ v H2, Same H1 H2 → N [some (.ref a), some (.ref p), v] H2) → tu ⟨N, rt, nx, N⟩ [some (.ref a), some (.ref p), some (.int c)] H1)
    (hd : ∀ p v H1, Same H H1 → nx [some (.ref a), some (.ref p), v] H1) :
    tSeq (tAsg (tOp (rCatS K) tf tl) (gName 1)) (tFor (iRng1 (tCons te tNil)) (gName 2) tu) ⟨nx, rt, bk, ct⟩ [some (.ref a), none, none] H := by
  refine s_seq (s_asg (s_op (hf _ fun f hf => hl _ _ fun p hp => ?_)))
  refine ⟨f, p, ns.map V.int, ms.map V.int, rfl, rfl, (same_upd hp).seq sqU, sqU, (by rw [List.length_map, List.length_map]; exact small63 hn hm), fun q hq => ?_⟩
  rw [← List.map_append]
  have s0 : Same H (upd (upd H f (.lst (ns.map V.int))) p (.lst (ms.map V.int))) := (same_upd hf).trans (same_upd hp)
  have s1 := s0.trans (same_upd (o := .lst ((ns ++ ms).map V.int)) hq)
  have hlen : (ns ++ ms).length ≤ 163 := by rw [List.length_append]; omega
  refine s_forR1 ((ns ++ ms).length : Int) (fun i σ H' => (∃ v, σ = [some (.ref a), some (.ref q), v]) ∧ Same (upd (upd (upd H f (.lst (ns.map V.int))) p (.lst (ms.map V.int))) q (.lst ((ns ++ ms).map V.int))) H') (fun R z => he q _ R sqU z) (by omega) ⟨⟨_, rfl⟩, Same.refl _⟩ (fun i σ' H' hi h => ?_) (fun σ' H' h => ?_)
  · obtain ⟨⟨v, rfl⟩, s2⟩ := h
    exact hb q i _ H' (s1.trans s2) (s2.seq sqU) (by omega) hi fun v H2 s3 => ⟨⟨v, rfl⟩, s2.trans s3⟩
  · obtain ⟨⟨v, rfl⟩, s2⟩ := h
    exact hd q v H' (s1.trans s2)
end
theorem atI_in {ns : List Int} {i : Int} (h1 : -(ns.length : Int) ≤ i) (h2 : i < ns.length) : ∃ z ∈ ns, atI (ns.map V.int) i = some (.int z) := by
  by_cases h : 0 ≤ i
  · have hi : i.toNat < ns.length := by omega
    exact ⟨ns[i.toNat], List.getElem_mem hi, atI_int (List.getElem?_eq_getElem hi) (by omega)⟩
  · have hi : (i + ns.length).toNat < ns.length := by omega
    refine ⟨ns[(i + ns.length).toNat], List.getElem_mem hi, ?_⟩
    unfold atI ixN
    rw [List.length_map, if_neg h, if_pos h1]
    show (ns.map V.int)[(i + ns.length).toNat]? = _
    rw [List.getElem?_map, List.getElem?_eq_getElem hi]; rfl
theorem small15 {n : Nat} (h : n ≤ 15) : n ≤ 100000 := by omega
end Jl

/-! Exceptions that were caught and are held as values behind their clause. -/
namespace Jl
open PySem L2 PySem.Spec PyProof.Rows
/-- an exception, of class cls and with the dict d, held as a value -/
def XO (cls : Value) (d : Option Addr) (a : Addr) : HO := .ext fun h => ∃ u fl, h.get? a = some u ∧ Zc cls d u ∧ u.data = .fields fl
theorem xo_ok {P : Program} {w : World} {H : Hp} {h : Heap} {a : Addr} {cls : Value} {d : Option Addr} {u : Obj} {fl : Array Value} (e : h.get? a = some u) (z : Zc cls d u) (f : u.data = .fields fl) : ObjOk P w H h a (XO cls d a) :=
  ⟨⟨u, fl, e, z, f⟩, ⟨u, e⟩, fun _ _ ⟨u, fl, e, r⟩ k => ⟨u, fl, k u e, r⟩⟩
section
variable {X : Cx} {pins : List (Addr × Obj)} {σ : L2.St} {H : Hp} {s : Shared} {a : Addr} {o : HO}
/-- an object that stands, of which nothing was told, is told of -/
theorem track (I : Inv X pins σ H s) (n0 : X.s_0.heap.get? a = none) (hn : H a = none) (nL : a ≠ X.env.locals) (nC : ∀ y z, X.env.cells.lookup y = some z → z ≠ a) (nP : ∀ p ∈ X.pn ++ pins, p.1 ≠ a)
    (new : ObjOk X.prog X.w (upd H a o) s.heap a o) : Inv X pins σ (upd H a o) s := by
  have old : ∀ z u, X.s_0.heap.get? z = some u → z ≠ a := fun z u e q => by rw [q, n0] at e; cases e
  have far : ∀ z {u}, H z = some u → upd H a o z = some u := fun z {u} e => by rw [upd_ne (ne_of_none e hn)]; exact e
  refine { ok := I.ok, os := I.os, bare := I.bare, base := ?_, loc := I.loc, cell := I.cell, free := ?_, freeC := ?_, pin := ?_, hok := I.hok.laidN (fun _ _ z => z) hn new, len := I.len }
  · refine { keep := I.base.keep, slot := I.base.slot, there := I.base.there, free := ?_, tups := ?_, frzs := ?_, tbls := ?_ }
    · intro z u e n q
      rw [upd_ne (old z u e)]
      exact I.base.free z u e n q
    · intro z xs e
      exact far z (I.base.tups z xs e)
    · intro z u xs e
      exact far z (I.base.frzs z u xs e)
    · intro z ps e
      obtain ⟨m, q⟩ := I.base.tbls z ps e
      exact ⟨m, far z q⟩
  · rw [upd_ne nL.symm]; exact I.free
  · intro y z e
    rw [upd_ne (nC y z e)]
    exact I.freeC y z e
  · intro p hp
    obtain ⟨e, n, r⟩ := I.pin p hp
    exact ⟨e, by rw [upd_ne (nP p hp)]; exact n, r⟩
end
/-- the ends behind the clause: its name is gone, the exception is told of -/
def outE (i : Nat) (a : Addr) (cls : Value) (d : Option Addr) (D : Ends) : Ends where
  nx := fun σ H => D.nx (σ.set i none) (upd H a (XO cls d a))
  rt := fun v H => D.rt v (upd H a (XO cls d a))
  bk := fun σ H => D.bk (σ.set i none) (upd H a (XO cls d a))
  ct := fun σ H => D.ct (σ.set i none) (upd H a (XO cls d a))
/-- what the clause 'except x as n' wishes of an exception (n at slot i) that is to be held behind it -/
def wOut (K : PySem.W.Frag) (c : Value) (i : Nat) (ts : Addr → Value → Option Addr → TS) (Wo : WX) (D : Ends) : WX := fun cls d σ H =>
  ∃ yn, PySem.W.exmOne K cls c = some yn ∧ (yn = true → ∀ a, H a = none → ts a cls d (outE i a cls d D) (σ.set i (some (.ref a))) H) ∧ (yn = false → Wo cls d σ H)
/-- the clauses are looked at -/
def looked (X : Cx) (hds : List ExceptHandler) (S : Flow → Shared → Prop) (e : Value) (t : Shared) : Prop :=
  wpAny (model X.prog X.w) X.A (noteFrame e X.env) (fun _ t2 => wpAny (model X.prog X.w) X.A (setFlight e none) (fun _ t3 => wpAny (model X.prog X.w) X.A (handleBy e X.env hds) S X.xe t3) X.xe t2) X.xe t
section
variable {X : Cx} {x n : Str} {c : Value} {i : Nat} {body suite : List Stmt} {st0 : Stmt} {q1 q2 q3 : Pos} {tb : WX → TS} {ts : Addr → Value → Option Addr → TS} {Wo : WX}
theorem ps_caught (stk : X.stack = X.env :: X.outer) (frm : X.env.frame = some X.env.locals) (hex : X.ex = []) (nod : X.N.Nodup) (ix : X.N[i]? = some n) (loc : X.env.kindOf n = some .local) (nm : Names X x c) (tk : Takes X Wo)
    (hb : ∀ (W : WX) (pl : List (Addr × Obj)) (xe : Value → Shared → Prop), Takes (X.tr pl xe) W → PassesOwn (model X.prog X.w) X.A X.env xe → PSs (X.tr pl xe) body (tb W))
    (hu : ∀ (a : Addr) (u : Obj) (cls : Value) (d : Option Addr) (pl : List (Addr × Obj)), Zc cls d u → (∃ fl, u.data = .fields fl) → PSs (X.suite a ((a, u) :: pl)) (st0 :: suite) (ts a cls d)) :
    PS X (.Try body [.ExceptHandler (some (.Name x q1)) (some n) (st0 :: suite) q2] [] [] q3) (fun D σ H => tb (wOut X.K c i ts Wo D) D σ H) := by
  constructor
  intro pins s σ H D I h
  have frames : X.A.frames = some (X.env :: X.outer) := I.ok.frames.trans (congrArg some stk)
  have here : Loc X.env.scope n := Or.inl loc
  have catch_ : Takes (X.tr (X.pn ++ pins) (looked X [.ExceptHandler (some (.Name x q1)) (some n) (st0 :: suite) q2] (SP X pins D))) (wOut X.K c i ts Wo D) := by
    rintro w t ⟨a, B, tI, pl, σ1, H1, cls, d, rfl, J0, nb, up, sky, na, os, ag, yn, exm, yes, no⟩
    have J : Inv X pins σ1 H1 tI := J0.ofTry I.ok
    replace sky : Sky B (X.env :: X.outer) a (Zc cls d) X.env.locals t.heap := stk ▸ sky
    show wpAny (model X.prog X.w) X.A (noteFrame (.ref a) X.env) _ _ _
    refine Sky.land Zc.steady frames frm sky fun h3 F3 up3 => ?_
    have G3 : Inv X pins σ1 H1 { t with heap := h3 } := J.landed nb F3.1 (up.trans up3) os ag
    obtain ⟨u3, fl3, get3, z3, dat3⟩ := F3.there
    have away : a ∉ frs (X.env :: X.outer) := fun hm => by
      obtain ⟨_, u, e, nf⟩ := F3.2.2.1.mem hm
      cases get3.symm.trans e
      exact nf _ dat3
    have noL : a ≠ X.env.locals := fun z => away (List.mem_filterMap.mpr ⟨X.env, List.mem_cons_self, by rw [z]; exact frm⟩)
    have noF : a ∉ X.fs := fun hm => by
      obtain ⟨e, he, q⟩ := List.mem_filterMap.mp hm
      exact away (List.mem_filterMap.mpr ⟨e, List.mem_cons_of_mem _ he, q⟩)
    -- the exception is new to the state without it
    have lone : tI.heap.get? a = none := by
      cases e : tI.heap.get? a with
      | none => rfl
      | some u =>
        have q := nb a u e (by rw [stk]; exact away)
        rw [F3.2.1] at q; cases q
    have n0 : X.s_0.heap.get? a = none := by
      cases e : X.s_0.heap.get? a with
      | none => rfl
      | some u =>
        obtain ⟨u', q⟩ := J.base.there a u e (by rw [hex]; exact fun z => nomatch z)
        rw [lone] at q; cases q
    have apart : ∀ p ∈ X.pn ++ pins, p.1 ≠ a := fun p hp z => by
      have q := (J.pin p hp).1
      rw [z, lone] at q; cases q
    have T3 := G3.suite get3 dat3 na noL noF
    refine wpAny_handleBy_cons (codeAny_handlers_test ?_) (by intro z; cases z)
    have ty : PySem.W.Looks (model X.prog X.w) h3 (typeOf (.ref a)) cls := fun _ _ _ _ k q => wpAny_typeOf_ref (k _ _ get3) (z3.1.symm ▸ q)
    have matches_ := PySem.W.exm_one (M := model X.prog X.w) G3.kIn ty exm
    have asked : ∀ {Q E : Value → Shared → Prop}, Q c { t with heap := h3 } → wpAny (model X.prog X.w) (X.A.mark (some (.ref a))) (eval (.Name x q1) X.env) Q E { t with heap := h3 } := by
      intro Q E q
      rcases nm with ⟨gl, db, mg | ⟨mg, bl, nn⟩⟩
      · exact ld_glob T3 gl mg q db
      · exact ld_blt T3 gl mg bl q nn db
    refine asked (matches_.here ?_)
    cases yn with
    | false =>
      show wpAny _ X.A (handleBy (.ref a) X.env []) _ _ _
      refine wpAny_handleBy_nil ?_
      obtain ⟨_, _, _, _, _, T, _, _, e, _, f, f1, _⟩ := id F3
      unfold PySem.passOn
      refine wpAny_bind (wpAny_field e f f1 ?_)
      rw [if_neg (by simp)]
      have fly : wpAny (model X.prog X.w) X.A (setFlight (.ref a) X.env.frame) (fun _ t4 => wpAny (model X.prog X.w) X.A (throw (.ref a) : Sem Flow) (SP X pins D) X.xe t4) X.xe { t with heap := h3 } := by
        rw [frm]
        exact HandSPX.setFlight_upZ F3 fun h4 F4 up4 => wpAny_throw (tk _ _ ⟨a, B, tI, pins, σ1, H1, cls, d, rfl, J, nb, (up.trans up3).trans up4, .inr (.inr (stk ▸ F4)), na, os, ag, no rfl⟩)
      first
        | exact wpAny_bind (wpAny_pure (wpAny_bind fly))
        | exact wpAny_bind fly
    | true =>
      refine codeAny_handlers_suite_as (HandSPX.lands_againZ F3 fun h4 F4 up4 => ?_)
      have G4 : Inv X pins σ1 H1 { t with heap := h4 } := J.landed nb F4.1 ((up.trans up3).trans up4) os ag
      obtain ⟨u4, fl4, get4, z4, dat4⟩ := F4.there
      have T4 := G4.suite get4 dat4 na noL noF
      refine store_ok (X := X.suite a ((a, u4) :: (X.pn ++ pins))) (v := .ref a) T4 nod ix here rfl (fun t5 T5 => ?_) (Or.inr loc)
      refine wpAny_mono ((hu a u4 cls d (X.pn ++ pins) z4 ⟨_, dat4⟩).run [] t5 _ H1 _ T5 (yes rfl a na)) (fun f t6 r => ?_) (fun _ _ z => z.elim)
      have leave : ∀ {σ6 : L2.St} {H6 : Hp} {Q : Shared → Prop}, Inv (X.suite a ((a, u4) :: (X.pn ++ pins))) [] σ6 H6 t6 → (∀ t7, Inv X pins (σ6.set i none) (upd H6 a (XO cls d a)) t7 → Q t7) →
          wpAny (model X.prog X.w) X.A (do bindName X.env n .none; unbindBehindTheSuite X.env n q2) (fun _ t7 => Q t7) X.xe t6 := by
        intro σ6 H6 Q T6 hq
        obtain ⟨e6, n6, _⟩ := T6.pin (a, u4) (List.mem_append_left _ List.mem_cons_self)
        have cells : ∀ y z, X.env.cells.lookup y = some z → z ≠ a := fun y z e q => by
          obtain ⟨v, ob, e7, dc⟩ := T6.cell y z e
          rw [q] at e7
          cases e6.symm.trans e7
          rw [dat4] at dc; cases dc
        exact gone_ok (track (T6.unsuite I.ok) n0 n6 noL cells apart (xo_ok e6 z4 dat4)) nod ix loc hq
      cases f with
      | next => exact let ⟨σ6, H6, T6, q⟩ := r; leave T6 fun t7 J7 => ⟨_, _, J7, q⟩
      | brk => exact let ⟨σ6, H6, T6, q⟩ := r; leave T6 fun t7 J7 => ⟨_, _, J7, q⟩
      | cont => exact let ⟨σ6, H6, T6, q⟩ := r; leave T6 fun t7 J7 => ⟨_, _, J7, q⟩
      | ret v => exact let ⟨v6, σ6, H6, T6, rv, q⟩ := r; leave T6 fun t7 J7 => ⟨_, _, _, J7, rv, q⟩
  refine wpAny_Try_except (wpAny_mono ((hb (wOut X.K c i ts Wo D) (X.pn ++ pins) _ catch_ PassesOwn.looking).run [] s σ H D (I.toTry _) h) (fun f t r => ?_) fun _ _ z => z)
  cases f with
  | next => exact let ⟨σ6, H6, T6, q⟩ := r; wpAny_execs_nil ⟨σ6, H6, T6.ofTry I.ok, q⟩
  | brk => exact let ⟨σ6, H6, T6, q⟩ := r; ⟨σ6, H6, T6.ofTry I.ok, q⟩
  | cont => exact let ⟨σ6, H6, T6, q⟩ := r; ⟨σ6, H6, T6.ofTry I.ok, q⟩
  | ret v => exact let ⟨v6, σ6, H6, T6, rv, q⟩ := r; ⟨v6, σ6, H6, T6.ofTry I.ok, rv, q⟩
end
/-! isinstance and fields of such -/
/-- the exception's dict, if it has one, is told of -/
def XD (H : Hp) (d : Option Addr) : Prop := ∀ b, d = some b → ∃ fs, H b = some (.xd fs)
theorem xd_none {H : Hp} : XD H none := fun _ z => nomatch z
theorem xd_some {H : Hp} {b : Addr} {fs : List (Str × V)} (h : H b = some (.xd fs)) : XD H (some b) := fun c z => by cases z; exact ⟨fs, h⟩
theorem xo_inst {X : Cx} {pins : List (Addr × Obj)} {σ : L2.St} {H : Hp} {s : Shared} {a D : Addr} {d : Option Addr} (I : Inv X pins σ H s) (h : H a = some (XO (.ref D) d a)) (hd : XD H d) : ∃ u od, PySem.W.InstAt s.heap a u D od := by
  obtain ⟨⟨u, fl, e, z, f⟩, _, _⟩ := I.hok a _ h
  have nc : PySem.W.notCls u = true := by unfold PySem.W.notCls; rw [f]
  cases d with
  | none => exact ⟨u, none, e, z.1, nc, by rw [z.2]; trivial⟩
  | some b =>
    obtain ⟨fs, hb⟩ := hd b rfl
    obtain ⟨m, ns, _⟩ := I.hok b _ hb
    obtain ⟨o, ho, _⟩ := lookIn_ns ns
    exact ⟨u, some o, e, z.1, nc, by rw [z.2]; exact ho⟩
/-- isinstance(x, c), x such an exception -/
def rIsX (K : PySem.W.Frag) : List V → Hp → VK → Prop := fun xs H Q => ∃ (a D : Addr) (d : Option Addr) (c : V) (cv : Value) (yn : Bool), xs = [.ref a, c] ∧ H a = some (XO (.ref D) d a) ∧ XD H d ∧ ExcC K D ∧ ClsV c cv ∧ PySem.W.kitOne K (.ref D) cv = some yn ∧ Q (.bl yn) H
/-- isinstance(x, (c1, c2, ..)), x such an exception -/
def rIsXT (K : PySem.W.Frag) : List V → Hp → VK → Prop := fun xs H Q => ∃ (a D : Addr) (d : Option Addr) (tp : Addr) (cs : List V) (cvs : List Value) (yn : Bool), xs = [.ref a, .ref tp] ∧ H a = some (XO (.ref D) d a) ∧ XD H d ∧ ExcC K D ∧
  H tp = some (.tup cs) ∧ Paired ClsV cs cvs ∧ PySem.W.kitAny K (.ref D) cvs = some yn ∧ Q (.bl yn) H
theorem kit_x {K : PySem.W.Frag} {a D : Addr} {u : Obj} {od : Option Obj} (C : ExcC K D) : PySem.W.KitX K (.ref a) (.ref D) (fun h => PySem.W.InstAt h a u D od) := by
  refine PySem.W.kitx_exc ?_ C.hg C.hk C.hs C.ha C.hn C.ht C.hm
  obtain ⟨cd, e, _⟩ := PySem.W.any_some C.hd
  rw [e]; rfl
section
variable {X : Cx}
theorem cl_isX : CallR X (.builtin "isinstance") (rIsX X.K) := by
  intro pins s σ H xs us Q I r h
  obtain ⟨a, D, d, c, cv, yn, rfl, ha, hd, C, k, e, q⟩ := h
  obtain ⟨w1, w2, rfl, r1, r2⟩ := vals2 r
  cases k.eq r2
  cases (show w1 = Value.ref a from r1)
  obtain ⟨u, od, J⟩ := xo_inst I ha hd
  exact PySem.W.kia_one (kit_x C) I.kIn J e (fun z => nomatch z) fun tk => ⟨.bl yn, H, I.tok tk, rfl, q⟩
theorem cl_isXT : CallR X (.builtin "isinstance") (rIsXT X.K) := by
  intro pins s σ H xs us Q I r h
  obtain ⟨a, D, d, tp, cs, cvs, yn, rfl, ha, hd, C, ht, k, e, q⟩ := h
  obtain ⟨w1, w2, rfl, r1, r2⟩ := vals2 r
  cases (show w1 = Value.ref a from r1)
  cases (show w2 = Value.ref tp from r2)
  obtain ⟨u, od, J⟩ := xo_inst I ha hd
  obtain ⟨_, its, rv, ob, get, c1, n, c2⟩ := I.hok tp _ ht
  cases ClsV.all k rv
  obtain ⟨oc, odd, dt, sl⟩ := ob
  dsimp only at c1 c2
  subst c1 c2
  exact PySem.W.kia_tup (kit_x C) I.kIn J get e (fun z => nomatch z) fun tk => ⟨.bl yn, H, I.tok tk, rfl, q⟩
/-- x.f, x such an exception -/
def tXA (K : PySem.W.Frag) (f : Str) (te : TE) : TE := fun σ H Q => te σ H fun x H1 => ∃ (a D b : Addr) (fs : List (Str × V)) (v : V), x = .ref a ∧ H1 a = some (XO (.ref D) (some b) a) ∧ H1 b = some (.xd fs) ∧ fs.lookup f = some v ∧ XfC K D ∧ PySem.W.findIn K (.ref D) f = some none ∧ Q v H1
theorem pe_xa {e : Expr} {te : TE} {f : Str} {pos : Pos} (he : PE X e te) (hb : attributeBase e f X.env (eval e X.env) = eval e X.env := by rfl) : PE X (.Attribute e f pos) (tXA X.K f te) := by
  constructor
  intro pins s σ H Q I h
  refine attr_of hb (thn (he.run pins s σ H _ I h) fun u s1 z => ?_)
  obtain ⟨x, H1, I1, rx, a, D, b, fs, v, rfl, ha, hb, l, C, no, q⟩ := z
  cases (show u = Value.ref a from rx)
  obtain ⟨⟨u, fl, e, z, f⟩, _, _⟩ := I1.hok a _ ha
  obtain ⟨m, ns, rel⟩ := I1.hok b _ hb
  obtain ⟨o, ho, look⟩ := lookIn_ns ns
  have rl := rel ‹Str›
  rw [l] at rl
  obtain ⟨w, mw, rw_⟩ := RelO.some_of rl
  have J : PySem.W.InstAt s1.heap a u D (some o) := ⟨e, z.1, by unfold PySem.W.notCls; rw [f], by rw [z.2]; exact ho⟩
  exact HandSPX.exc_get I1.kIn J C.ga C.gg C.exC (PySem.W.findObj_own C.hdC no rfl (by rw [look, mw])) (handed_of rw_) ⟨v, H1, I1.tok _, rw_, q⟩
end
/-! calls of methods that may let an exception out, at the slots as they stand -/
def tMethX (C : Addr) (m : Str) (sp : Sp) (E : L2.St → XK) (ta : TE) (t : TA) : TE := fun σ H Q => ta σ H fun x H1 => ∃ a dx fs, x = .ref a ∧ H1 a = some (.ins C dx fs) ∧ fs.lookup m = none ∧ t σ H1 fun vs H2 => sp (.ref a :: vs) H2 Q (E σ)
section
variable {X : Cx} {Y : CXT} {k : Nat} {f C : Addr} {fd : FuncData} {ps : List Str} {sp : Sp} {E : L2.St → XK} {x m : Str} {p pos apos : Pos} {e o : Expr} {es : List Expr} {ta : TE} {t : TA} {pl : Sem Bool}
theorem pe_methX (he : PE X o ta) (c : Cls X.K C) (hm : Meth X.K C m f) (F : FnOk X.prog X.w X.K X.mg X.base Y k f fd ps sp) (hr : Room k X.A) (hb : Binds X.K fd ps []) (hx : ∀ σ, PassesAt Y X σ (E σ)) (ha : PA X (e :: es) t)
    (h1 : starEach (e :: es) X.env = (false, eval e X.env) :: starEach es X.env := by rfl) (h2 : (backTo pos (starEach es X.env)).any (·.1) = false := by rfl)
    (h3 : eval (.Call (.Attribute o m apos) (e :: es) [] pos) X.env = (do let v ← eval o X.env; standAt apos.atName; let (g, u) ← holding [v] (getMethod v m pl); callWith pos g u (backTo pos (starEach (e :: es) X.env)) (backToKw pos (keywordEach [] X.env))) := by rfl) :
    PE X (.Call (.Attribute o m apos) (e :: es) [] pos) (tMethX C m sp E ta t) := by
  constructor
  intro pins s σ H Q I h
  refine PySem.W.methodCall_KW (pl := pl) (thn (he.run pins s σ H _ I h) fun u t1 z => ?_) h3
  obtain ⟨y, H1, I1, ry, a, dx, fs, rfl, at_, no, z⟩ := z
  cases (show u = Value.ref a from ry)
  refine getmeth_ok I1 at_ c hm no (PySem.W.callWith_K (first := [.ref a]) (h₀ := X.base) I.ok.mod.kin hm.kp (thn (ha.run pos pins t1 σ H1 _ I1 z) fun us t2 y => ?_) h1 h2)
  obtain ⟨vs, H2, I2, r, q⟩ := y
  exact ⟨I2.kIn, run_fnS (us := .ref a :: us) (vs := .ref a :: vs) F hr hb (hx σ) I2 (.cons rfl r) q⟩
theorem pe_methX0 (he : PE X o ta) (c : Cls X.K C) (hm : Meth X.K C m f) (F : FnOk X.prog X.w X.K X.mg X.base Y k f fd ps sp) (hr : Room k X.A) (hb : Binds X.K fd ps []) (hx : ∀ σ, PassesAt Y X σ (E σ))
    (h3 : eval (.Call (.Attribute o m apos) [] [] pos) X.env = (do let v ← eval o X.env; standAt apos.atName; let (g, u) ← holding [v] (getMethod v m pl); callWith pos g u (backTo pos (starEach [] X.env)) (backToKw pos (keywordEach [] X.env))) := by rfl) :
    PE X (.Call (.Attribute o m apos) [] [] pos) (tMethX C m sp E ta tNil) := by
  constructor
  intro pins s σ H Q I h
  refine PySem.W.methodCall_KW (pl := pl) (thn (he.run pins s σ H _ I h) fun u t1 z => ?_) h3
  obtain ⟨y, H1, I1, ry, a, dx, fs, rfl, at_, no, z⟩ := z
  cases (show u = Value.ref a from ry)
  exact getmeth_ok I1 at_ c hm no (PySem.W.callWith_K0 (first := [.ref a]) I1.kIn hm.kp (run_fnS (us := [.ref a]) (vs := [.ref a]) F hr hb (hx σ) I1 (.cons rfl .nil) z))
theorem pe_callX0 (F : FnOk X.prog X.w X.K X.mg X.base Y k f fd ps sp) (hr : Room k X.A) (hg : Gl X x) (hm : X.mg x = some (.ref f)) (hk : PySem.W.keepIn X.K (.ref f) = true) (hb : Binds X.K fd ps []) (hx : ∀ σ, PassesAt Y X σ (E σ))
    (hd : (x == ("__debug__" : Str)) = false := by decide) : PE X (.Call (.Name x p) [] [] pos) (tCallS sp E tNil) := by
  constructor
  intro pins s σ H Q I h
  exact wpAny_Call_Name_kw (ld_glob I hg hm (PySem.W.callWith_K0 I.kIn hk (run_fnS (us := []) F hr hb (hx σ) I .nil h)) hd)
end
/-! steps -/
section
variable {K : PySem.W.Frag} {σ : L2.St} {H : Hp} {Q : VK} {ta te : TE} {tr t : TA} {sp : Sp} {E : L2.St → XK} {a b C D dx : Addr} {d : Option Addr} {fs : List (Str × V)} {f m : Str} {v c : V} {cv : Value} {yn : Bool} {cs : List V} {cvs : List Value} {W : WX}
theorem s_callS (z : t σ H fun vs H1 => sp vs H1 Q (E σ)) : tCallS sp E t σ H Q := z
theorem s_methX (hv : ∀ R : VK, R (.ref a) H → ta σ H R) (h : H a = some (.ins C dx fs)) (hm : fs.lookup m = none) (z : tr σ H fun vs H2 => sp (.ref a :: vs) H2 Q (E σ)) : tMethX C m sp E ta tr σ H Q := hv _ ⟨a, dx, fs, rfl, h, hm, z⟩
theorem s_isX (h : H a = some (XO (.ref D) d a)) (hd : XD H d) (C : ExcC K D) (hc : ClsV c cv) (e : PySem.W.kitOne K (.ref D) cv = some yn) (z : Q (.bl yn) H) : rIsX K [.ref a, c] H Q := ⟨a, D, d, c, cv, yn, rfl, h, hd, C, hc, e, z⟩
theorem s_isXT (h : H a = some (XO (.ref D) d a)) (hd : XD H d) (C : ExcC K D) (ht : H b = some (.tup cs)) (hc : Paired ClsV cs cvs) (e : PySem.W.kitAny K (.ref D) cvs = some yn) (z : Q (.bl yn) H) : rIsXT K [.ref a, .ref b] H Q := ⟨a, D, d, b, cs, cvs, yn, rfl, h, hd, C, ht, hc, e, z⟩
theorem s_xa (h : H a = some (XO (.ref D) (some b) a)) (hb : H b = some (.xd fs)) (l : fs.lookup f = some v) (C : XfC K D) (no : PySem.W.findIn K (.ref D) f = some none) (hv : ∀ R : VK, R (.ref a) H → te σ H R) (z : Q v H) : tXA K f te σ H Q :=
  hv _ ⟨a, D, b, fs, v, rfl, h, hb, l, C, no, z⟩
end
/-- a class of which none of some is an ancestor -/
theorem kitNone {K : PySem.W.Frag} {t : Value} : ∀ {cs : List Value}, (∀ c ∈ cs, PySem.W.kitOne K t c = some false) → PySem.W.kitAny K t cs = some false
  | [], _ => rfl
  | c :: cs, h => by
    unfold PySem.W.kitAny
    rw [h c List.mem_cons_self]
    exact kitNone fun z hz => h z (List.mem_cons_of_mem _ hz)
theorem own_all : ∀ l : List Addr, Paired ClsV (l.map V.ref) (l.map Value.ref)
  | [] => .nil
  | a :: l => .cons (.own a) (own_all l)
theorem kit_own {K : PySem.W.Frag} {D C : Addr} {yn : Bool} (hne : yn = false → D ≠ C) (hd : PySem.W.hasDictIn K C = true) (ht : PySem.W.typeIn K (.ref C) = some (.type "type")) (hs : PySem.W.subIn K (.ref D) (.ref C) = some yn) : PySem.W.kitOne K (.ref D) (.ref C) = some yn := by
  unfold PySem.W.kitOne
  by_cases e : D = C
  · rw [if_pos (by rw [e]; simp)]
    cases yn with
    | true => rfl
    | false => exact absurd e (hne rfl)
  · rw [if_neg (by simpa using e)]
    obtain ⟨cd, hc, _⟩ := PySem.W.any_some hd
    show (if _ then PySem.W.subIn K (.ref D) (.ref C) else none) = _
    rw [if_pos (by rw [hc, ht]; rfl)]
    exact hs
/-! one of several readings -/
def tEi (t u : TE) : TE := fun σ H Q => t σ H Q ∨ u σ H Q
theorem pe_ei {X : Cx} {e : Expr} {t u : TE} (h1 : PE X e t) (h2 : PE X e u) : PE X e (tEi t u) := ⟨fun pins s σ H Q I h => h.elim (h1.run pins s σ H Q I) (h2.run pins s σ H Q I)⟩
section
variable {K : PySem.W.Frag} {σ : L2.St} {H : Hp} {Q : VK} {t u te to : TE} {a p C dx : Addr} {fs : List (Str × V)} {cv : Value} {yn : Bool} {z : Str} {xs : List V} {ys : List Str}
theorem s_ei1 (h : t σ H Q) : tEi t u σ H Q := .inl h
theorem s_ei2 (h : u σ H Q) : tEi t u σ H Q := .inr h
theorem s_isiO (h : H p = some (.ins C dx fs)) (c : Cls K C) (ha : PySem.W.findIn K (.ref C) "__class__" = some (some (.builtin "object.__class__"))) (hn : PySem.W.specialIn K (.builtin "object.__class__") "__get__" = some (some (.builtin "getset_descriptor.__get__")))
    (ht : PySem.W.takesIn K (.builtin "object.__class__") = some true) (hm : PySem.W.mroIn K C (.type "object") = some true) {D : Addr} (e : PySem.W.kitOne K (.ref C) (.ref D) = some yn) (k : Q (.bl yn) H) : rIsi K [.ref p, .ref D] H Q :=
  ⟨_, _, _, _, yn, rfl, .own D, .base (.ins h c ha hn ht hm), e, k⟩
end
/-! join -/
def rJoin (K : PySem.W.Frag) : V → List V → Hp → VK → Prop := fun x xs H Q => ∃ a p, ∃ ys : List Str, x = .str a ∧ xs = [.ref p] ∧ (SqL K H p (ys.map V.str) ∨ SqT K H p (ys.map V.str)) ∧ (ys.map (·.length)).sum + ys.length * a.length ≤ 16777216 ∧ Q (.str (Txt.join a ys)) H
theorem mt_joinS {X : Cx} : MtR X "str.join" (rJoin X.K) := mt_join
theorem s_tM1 {σ : L2.St} {H : Hp} {Q : VK} {to te : TE} {r : V → List V → Hp → VK → Prop} {a : Str} (hv : ∀ R : VK, R (.str a) H → to σ H R) (z : te σ H fun y H2 => r (.str a) [y] H2 Q) : tM1 r to te σ H Q := hv _ ⟨⟨a, rfl⟩, z⟩
theorem s_join {K : PySem.W.Frag} {H : Hp} {Q : VK} {a : Str} {p : Addr} {ys : List Str} (h : SqL K H p (ys.map V.str)) (hl : (ys.map (·.length)).sum + ys.length * a.length ≤ 16777216) (z : ∀ w, w = Txt.join a ys → Q (.str w) H) : rJoin K (.str a) [.ref p] H Q := ⟨a, p, ys, rfl, rfl, .inl h, hl, z _ rfl⟩
theorem sum_le {m : Nat} : ∀ l : List Nat, (∀ x ∈ l, x ≤ m) → l.sum ≤ m * l.length
  | [], _ => by simp
  | x :: l, h => by
    have h1 := h x List.mem_cons_self
    have h2 := sum_le l fun y hy => h y (List.mem_cons_of_mem _ hy)
    rw [List.sum_cons, List.length_cons, Nat.mul_succ]
    omega
theorem s_outN {i : Nat} {a : Addr} {cls : Value} {d : Option Addr} {nx bk ct : L2.St → Hp → Prop} {rt : VK} {σ : L2.St} {H : Hp} (z : nx (σ.set i none) (upd H a (XO cls d a))) : (outE i a cls d ⟨nx, rt, bk, ct⟩).nx σ H := z
/-- an if whose test makes objects; the ways are joined -/
theorem s_ifKh {nx bk ct : L2.St → Hp → Prop} {rt : VK} {tt : TT} {ts tu : TS} {P : Prop} {σ : L2.St} {H : Hp} (M : L2.St → Hp → Prop) (ht : ∀ T : Bool → Hp → Prop, (∀ H', Same H H' → P → T true H') → (∀ H', Same H H' → ¬ P → T false H') → tt σ H T)
    (h1 : P → ∀ (H1 : Hp) (N : L2.St → Hp → Prop), Same H H1 → (∀ σ' H', M σ' H' → N σ' H') → ts ⟨N, rt, bk, ct⟩ σ H1) (h2 : ¬ P → ∀ (H1 : Hp) (N : L2.St → Hp → Prop), Same H H1 → (∀ σ' H', M σ' H' → N σ' H') → tu ⟨N, rt, bk, ct⟩ σ H1) (z : ∀ σ' H', M σ' H' → nx σ' H') : tIfK tt ts tu ⟨nx, rt, bk, ct⟩ σ H :=
  ht _ (fun H1 s hp => s_iteT (h1 hp H1 _ s z)) fun H1 s hp => s_iteF (h2 hp H1 _ s z)
/-! an exception with a field of its own is made -/
theorem oex_heap {H : Hp} {a d : Addr} {o1 o2 o3 o4 : HO} (ha : H a = none) (hd : d ≠ a) : upd (del (upd (upd (upd H a o1) d o2) a o3) a) d o4 = upd H d o4 := by
  funext b
  by_cases h : b = d
  · rw [h, upd_same, upd_same]
  · rw [upd_ne h, upd_ne h]
    by_cases g : b = a
    · rw [g, del_same, ha]
    · rw [del_ne g, upd_ne g, upd_ne h, upd_ne g]
/-- C(v), C's __init__ storing v as f -/
theorem s_mkO {C : Addr} {sp : Sp} {σ : L2.St} {H : Hp} {Q : XK} {t : TA} {f : Str} {v : V} (ht : ∀ R : List V → Hp → Prop, R [v] H → t σ H R)
    (hs : ∀ (a : Addr) (H' : Hp) (Q' : VK), H' a = some (exo a C none) → (∀ dx, H' dx = none → dx ≠ a → Q' .non (upd (upd H' dx (exd dx [(f, v)])) a (exo a C (some dx)))) → sp [.ref a, v] H' Q' (fun _ _ _ => False))
    (z : ∀ d, H d = none → Q (.ref C) (some d) (upd H d (.xd [(f, v)]))) : tMkO C sp [] t σ H Q := by
  refine ht _ ⟨by show 1 ≤ 1000; decide, fun a ha => ?_⟩
  refine hs a _ _ upd_same fun dx nd ne => ⟨rfl, dx, [(f, v)], upd_same, ?_, ?_, ?_⟩
  · rw [upd_ne ne, upd_same]
  · rw [upd_ne ne] at nd; exact nd
  · rw [upd_ne ne] at nd
    rw [oex_heap ha ne]
    exact z dx nd
theorem s_ost {K : PySem.W.Frag} {f : Str} {to te : TE} {nx bk ct : L2.St → Hp → Prop} {rt : VK} {σ : L2.St} {H : Hp} {a C : Addr} {v : V} (he : ∀ R : VK, R v H → te σ H R) (ho : ∀ R : VK, R (.ref a) H → to σ H R) (T : OexC K C) (no : PySem.W.findIn K (.ref C) f = some none) (h : H a = some (exo a C none))
    (z : ∀ dx, H dx = none → dx ≠ a → nx σ (upd (upd H dx (exd dx [(f, v)])) a (exo a C (some dx)))) : tOst K f to te ⟨nx, rt, bk, ct⟩ σ H := he _ (ho _ ⟨a, C, rfl, T, no, .inl ⟨h, z⟩⟩)
end Jl

/-! Data at any depth: read by its shape; made in cells that are still written (active) over a part that stands (frozen). -/
namespace Jl
open PySem L2
section
variable {K : PySem.W.Frag} {H H' Hf B : Hp} {x y v : V} {a b p : Addr} {o u : HO} {xs ys : List V} {d e : PyData} {ds es : List PyData} {A : List Addr}
theorem dp_list (h : Dp K H x (.list ds)) : ∃ a xs, x = .ref a ∧ SqL K H a xs ∧ DpAll K H xs ds := by
  cases h with
  | lst h1 h2 => exact ⟨_, _, rfl, h1, h2⟩
theorem dp_tup (h : Dp K H x (.tuple ds)) : ∃ a xs, x = .ref a ∧ SqT K H a xs ∧ DpAll K H xs ds := by
  cases h with
  | tup h1 h2 => exact ⟨_, _, rfl, h1, h2⟩
theorem dp_int {i : Int} (h : Dp K H x (.int i)) : x = .int i := by cases h; rfl
theorem dp_str {z : Str} (h : Dp K H x (.str z)) : x = .str z := by cases h; rfl
theorem dp_bl {c : Bool} (h : Dp K H x (.bool c)) : x = .bl c := by cases h; rfl
theorem dp_non (h : Dp K H x .none) : x = .non := by cases h; rfl
theorem da_nil (h : DpAll K H xs []) : xs = [] := by cases h; rfl
theorem da_cons (h : DpAll K H xs (d :: ds)) : ∃ v vs, xs = v :: vs ∧ Dp K H v d ∧ DpAll K H vs ds := by
  cases h with
  | cons h1 h2 => exact ⟨_, _, rfl, h1, h2⟩
theorem da_int {i : Int} (h : DpAll K H xs (.int i :: ds)) : ∃ vs, xs = .int i :: vs ∧ DpAll K H vs ds := by
  obtain ⟨v, vs, rfl, h1, h2⟩ := da_cons h
  cases dp_int h1
  exact ⟨vs, rfl, h2⟩
theorem da_str {i : Str} (h : DpAll K H xs (.str i :: ds)) : ∃ vs, xs = .str i :: vs ∧ DpAll K H vs ds := by
  obtain ⟨v, vs, rfl, h1, h2⟩ := da_cons h
  cases dp_str h1
  exact ⟨vs, rfl, h2⟩
theorem da_bl {i : Bool} (h : DpAll K H xs (.bool i :: ds)) : ∃ vs, xs = .bl i :: vs ∧ DpAll K H vs ds := by
  obtain ⟨v, vs, rfl, h1, h2⟩ := da_cons h
  cases dp_bl h1
  exact ⟨vs, rfl, h2⟩
theorem da_ref {d : PyData} (h : DpAll K H xs (d :: ds)) (hd : ∀ v, Dp K H v d → ∃ a, v = .ref a) : ∃ a vs, xs = .ref a :: vs ∧ Dp K H (.ref a) d ∧ DpAll K H vs ds := by
  obtain ⟨v, vs, rfl, h1, h2⟩ := da_cons h
  obtain ⟨a, rfl⟩ := hd v h1
  exact ⟨a, vs, rfl, h1, h2⟩
theorem da_len : ∀ {xs : List V} {ds : List PyData}, DpAll K H xs ds → xs.length = ds.length
  | _, [], h => by rw [da_nil h]; rfl
  | _, d :: ds, h => by
    obtain ⟨v, vs, rfl, _, h2⟩ := da_cons h
    rw [List.length_cons, List.length_cons, da_len h2]
theorem da_get : ∀ {xs : List V} {ds : List PyData} {i : Nat} {x : V}, DpAll K H xs ds → xs[i]? = some x → ∃ d, ds[i]? = some d ∧ Dp K H x d
  | _, [], i, x, h, e => by rw [da_nil h] at e; cases e
  | _, d :: ds, i, x, h, e => by
    obtain ⟨v, vs, rfl, h1, h2⟩ := da_cons h
    cases i with
    | zero => cases e; exact ⟨d, rfl, h1⟩
    | succ i => exact da_get (i := i) h2 e
theorem da_at : ∀ {xs : List V} {ds : List PyData} {i : Nat} {d : PyData}, DpAll K H xs ds → ds[i]? = some d → ∃ x, xs[i]? = some x ∧ Dp K H x d
  | _, [], i, d, h, e => by cases e
  | _, d' :: ds, i, d, h, e => by
    obtain ⟨v, vs, rfl, h1, h2⟩ := da_cons h
    cases i with
    | zero => cases e; exact ⟨v, rfl, h1⟩
    | succ i => exact da_at (i := i) h2 e
theorem da_app : ∀ {xs ys : List V} {ds es : List PyData}, DpAll K H xs ds → DpAll K H ys es → DpAll K H (xs ++ ys) (ds ++ es)
  | _, ys, [], es, h, h2 => by rw [da_nil h]; exact h2
  | _, ys, d :: ds, es, h, h2 => by
    obtain ⟨v, vs, rfl, h1, h3⟩ := da_cons h
    exact .cons h1 (da_app h3 h2)
theorem da_one (h : Dp K H x d) : DpAll K H [x] [d] := .cons h .nil
theorem da_split : ∀ {xs : List V} {ds es : List PyData}, DpAll K H xs (ds ++ es) → ∃ ys zs, xs = ys ++ zs ∧ DpAll K H ys ds ∧ DpAll K H zs es
  | xs, [], es, h => ⟨[], xs, rfl, .nil, h⟩
  | xs, d :: ds, es, h => by
    obtain ⟨v, vs, rfl, h1, h3⟩ := da_cons h
    obtain ⟨ys, zs, rfl, h4, h5⟩ := da_split h3
    exact ⟨v :: ys, zs, rfl, .cons h1 h4, h5⟩
theorem da_drop : ∀ {n : Nat} {xs : List V} {ds : List PyData}, DpAll K H xs ds → DpAll K H (xs.drop n) (ds.drop n)
  | 0, _, _, h => h
  | n + 1, xs, [], h => by rw [da_nil h]; exact .nil
  | n + 1, xs, d :: ds, h => by
    obtain ⟨v, vs, rfl, _, h3⟩ := da_cons h
    exact da_drop (n := n) h3
theorem da_take : ∀ {n : Nat} {xs : List V} {ds : List PyData}, DpAll K H xs ds → DpAll K H (xs.take n) (ds.take n)
  | 0, _, _, h => .nil
  | n + 1, xs, [], h => by rw [da_nil h]; exact .nil
  | n + 1, xs, d :: ds, h => by
    obtain ⟨v, vs, rfl, h1, h3⟩ := da_cons h
    exact .cons h1 (da_take (n := n) h3)
theorem da_ints : ∀ {xs : List V} {ns : List Int}, DpAll K H xs (ns.map PyData.int) → xs = ns.map V.int
  | _, [], h => da_nil h
  | _, n :: ns, h => by
    obtain ⟨vs, rfl, h2⟩ := da_int h
    rw [da_ints h2]; rfl
theorem da_strs : ∀ {xs : List V} {ns : List Str}, DpAll K H xs (ns.map PyData.str) → xs = ns.map V.str
  | _, [], h => da_nil h
  | _, n :: ns, h => by
    obtain ⟨vs, rfl, h2⟩ := da_str h
    rw [da_strs h2]; rfl
theorem dp_strs : ∀ ns : List Str, DpAll K H (ns.map V.str) (ns.map PyData.str)
  | [] => .nil
  | n :: ns => .cons (.str n) (dp_strs ns)
theorem dp_intl {ns : List Int} (h : Dp K H x (.list (ns.map PyData.int))) : ∃ a, x = .ref a ∧ SqL K H a (ns.map V.int) := by
  obtain ⟨a, xs, rfl, h1, h2⟩ := dp_list h
  rw [da_ints h2] at h1
  exact ⟨a, rfl, h1⟩
theorem dp_strl {ns : List Str} (h : Dp K H x (.list (ns.map PyData.str))) : ∃ a, x = .ref a ∧ SqL K H a (ns.map V.str) := by
  obtain ⟨a, xs, rfl, h1, h2⟩ := dp_list h
  rw [da_strs h2] at h1
  exact ⟨a, rfl, h1⟩
/-- data that stands in the part of a heap -/
theorem sqT_of (h : H a = some (.tup xs)) : SqT K H a xs := .inl (.inl h)
theorem sqL_of (h : H a = some (.lst xs)) : SqL K H a xs := .inl (.inl h)
/-! the shape of data -/
theorem shaped_of (h1 : d.canLay0 = true) (h2 : d.depth ≤ 64) : SeqAt.shaped d = true := Bool.and_eq_true_iff.mpr ⟨h1, decide_eq_true h2⟩
theorem lay_all {l : List PyData} : (∀ d ∈ l, d.canLay0 = true) → PyData.canLayAll0 l = true := by
  induction l with
  | nil => intro _; rfl
  | cons d l ih =>
    intro h
    show (d.canLay0 && PyData.canLayAll0 l) = true
    rw [h d List.mem_cons_self, ih fun z hz => h z (List.mem_cons_of_mem _ hz)]; rfl
theorem depth_all {n : Nat} {l : List PyData} : (∀ d ∈ l, d.depth ≤ n) → PyData.depthAll l ≤ n := by
  induction l with
  | nil => intro _; exact Nat.zero_le _
  | cons d l ih =>
    intro h
    show max d.depth (PyData.depthAll l) ≤ n
    have h1 := h d List.mem_cons_self
    have h2 := ih fun z hz => h z (List.mem_cons_of_mem _ hz)
    omega
theorem depth_list {n : Nat} {l : List PyData} (h : ∀ d ∈ l, d.depth ≤ n) : (PyData.list l).depth ≤ n + 1 := by
  have := depth_all h
  show PyData.depthAll l + 1 ≤ n + 1
  omega
theorem depth_tuple {n : Nat} {l : List PyData} (h : ∀ d ∈ l, d.depth ≤ n) : (PyData.tuple l).depth ≤ n + 1 := by
  have := depth_all h
  show PyData.depthAll l + 1 ≤ n + 1
  omega
theorem s_eqSame {Q : VK} (h1 : Dp K H x d) (h2 : Dp K H y d) (hs : SeqAt.shaped d = true) (z : Q (.bl true) H) : rEqD K x y H Q :=
  ⟨_, _, h1, h2, hs, hs, by rw [SeqAt.eqv_refl _ (SeqAt.canLay_of_shaped hs)]; exact z⟩
theorem s_neSame {Q : VK} (h1 : Dp K H x d) (h2 : Dp K H y d) (hs : SeqAt.shaped d = true) (z : Q (.bl false) H) : rNeD K x y H Q :=
  ⟨_, _, h1, h2, hs, hs, by rw [SeqAt.eqv_refl _ (SeqAt.canLay_of_shaped hs)]; exact z⟩
theorem eqv_strs : ∀ ns ms : List Str, PyData.eqvAll (ns.map PyData.str) (ms.map PyData.str) = decide (ns = ms)
  | [], [] => rfl
  | [], _ :: _ => rfl
  | _ :: _, [] => rfl
  | n :: ns, m :: ms => by
    show ((n == m) && PyData.eqvAll (ns.map PyData.str) (ms.map PyData.str)) = _
    rw [eqv_strs ns ms, Bool.eq_iff_iff]
    simp
theorem depth_strs : ∀ ns : List Str, PyData.depthAll (ns.map PyData.str) ≤ 0 := fun ns => depth_all fun d hd => by
  obtain ⟨s, _, rfl⟩ := List.mem_map.mp hd
  exact Nat.le_refl _
/-! cells that are still written -/
structure Act (B Hf H : Hp) (A : List Addr) : Prop where
  base : Same B Hf
  ext : Same Hf H
  free : ∀ a ∈ A, Hf a = none ∧ ∃ o, H a = some o
  nd : A.Nodup
theorem Act.start (H : Hp) : Act H H H [] := ⟨Same.refl _, Same.refl _, fun _ h => (by cases h), List.nodup_nil⟩
theorem Act.same (c : Act B Hf H A) : Same B H := c.base.trans c.ext
theorem Act.sm (c : Act B Hf H A) (s : Same H H') : Act B Hf H' A := ⟨c.base, c.ext.trans s, fun a ha => ⟨(c.free a ha).1, by obtain ⟨o, h⟩ := (c.free a ha).2; exact ⟨o, s _ _ h⟩⟩, c.nd⟩
theorem Act.upd (c : Act B Hf H A) (ha : a ∈ A) : Act B Hf (L2.upd H a o) A :=
  ⟨c.base, same_mut c.ext (c.free a ha).1, fun b hb => ⟨(c.free b hb).1, by
    by_cases e : b = a
    · rw [e, upd_same]; exact ⟨_, rfl⟩
    · rw [upd_ne e]; exact (c.free b hb).2⟩, c.nd⟩
theorem Act.out (c : Act B Hf H A) (hp : H p = none) : p ∉ A := fun h => by
  obtain ⟨o, e⟩ := (c.free p h).2
  rw [hp] at e; cases e
theorem Act.new (c : Act B Hf H A) (hp : H p = none) : Act B (L2.upd Hf p o) (L2.upd H p o) A := by
  have hf := c.ext.free hp
  refine ⟨c.base.trans (same_upd hf), fun b u e => ?_, fun b hb => ?_, c.nd⟩
  · by_cases q : b = p
    · rw [q, upd_same] at e ⊢; exact e
    · rw [upd_ne q] at e ⊢; exact c.ext b u e
  · have q : b ≠ p := fun q => c.out hp (q ▸ hb)
    rw [upd_ne q, upd_ne q]; exact c.free b hb
theorem Act.newA (c : Act B Hf H A) (hp : H p = none) : Act B Hf (L2.upd H p o) (p :: A) := by
  refine ⟨c.base, c.ext.trans (same_upd hp), fun b hb => ?_, List.nodup_cons.mpr ⟨c.out hp, c.nd⟩⟩
  rcases List.mem_cons.mp hb with rfl | hb
  · exact ⟨c.ext.free hp, _, upd_same⟩
  · have q : b ≠ p := fun q => c.out hp (q ▸ hb)
    rw [upd_ne q]; exact c.free b hb
theorem Act.fz (c : Act B Hf H (a :: A)) (e : H a = some o) : Act B (L2.upd Hf a o) H A := by
  have n := List.nodup_cons.mp c.nd
  refine ⟨c.base.trans (same_upd (c.free a List.mem_cons_self).1), fun b u h => ?_, fun b hb => ?_, n.2⟩
  · by_cases q : b = a
    · rw [q, upd_same] at h; rw [q, e]; exact h
    · rw [upd_ne q] at h; exact c.ext b u h
  · have q : b ≠ a := fun q => n.1 (q ▸ hb)
    rw [upd_ne q]; exact c.free b (List.mem_cons_of_mem _ hb)
theorem Act.fz_same (c : Act B Hf H (a :: A)) : Same Hf (L2.upd Hf a o) := same_upd (c.free a List.mem_cons_self).1
theorem Act.perm {A' : List Addr} (c : Act B Hf H A) (h : A.Perm A') : Act B Hf H A' := ⟨c.base, c.ext, fun a ha => c.free a (h.mem_iff.mpr ha), h.nodup_iff.mp c.nd⟩
theorem Act.sub {A' : List Addr} (c : Act B Hf H A) (h : A'.Sublist A) : Act B Hf H A' := ⟨c.base, c.ext, fun a ha => c.free a (h.subset ha), h.nodup c.nd⟩
theorem Act.frz (c : Act B Hf H A) (hp : H p = some o) (hA : p ∉ A) : ∃ Hg, Same Hf Hg ∧ Act B Hg H A ∧ Hg p = some o := by
  cases hf : Hf p with
  | some u =>
    have := c.ext _ _ hf
    rw [hp] at this
    cases this
    exact ⟨Hf, Same.refl _, c, hf⟩
  | none =>
    refine ⟨L2.upd Hf p o, same_upd hf, ⟨c.base.trans (same_upd hf), fun b u h => ?_, fun b hb => ?_, c.nd⟩, upd_same⟩
    · by_cases q : b = p
      · rw [q, upd_same] at h; rw [q, hp]; exact h
      · rw [upd_ne q] at h; exact c.ext b u h
    · have q : b ≠ p := fun q => hA (q ▸ hb)
      rw [upd_ne q]; exact c.free b hb
end
end Jl

/-! Dicts from ints to ints. -/
namespace Jl
open PySem L2
def DI (H : Hp) (m : Addr) (f : Int → Option Int) (n : Nat) : Prop := ∃ kvs : List (Key × V), H m = some (.dK kvs) ∧ kvs.length ≤ n ∧ ∀ a : Int, valV kvs (Sum.inl a : Key) = (f a).map V.int
section
variable {H H' : Hp} {m p : Addr} {f : Int → Option Int} {n : Nat}
theorem DI.same (s : Same H H') (D : DI H m f n) : DI H' m f n := by
  obtain ⟨k, h1, h2, h3⟩ := D
  exact ⟨k, s _ _ h1, h2, h3⟩
theorem DI.to (D : DI H m f n) (e : H' m = H m) : DI H' m f n := by
  obtain ⟨k, h1, h2, h3⟩ := D
  exact ⟨k, e.trans h1, h2, h3⟩
theorem DI.off {o : HO} (D : DI H m f n) (e : p ≠ m) : DI (upd H p o) m f n := D.to (upd_ne e.symm)
theorem DI.get (D : DI H m f n) (a : Int) : DGet H m (.int a) ((f a).map V.int) := by
  obtain ⟨k, h1, h2, h3⟩ := D
  rw [← h3 a]
  exact DGet.k (k := kI a) h1
theorem DI.some_ {a w : Int} (D : DI H m f n) (e : f a = some w) : DGet H m (.int a) (some (.int w)) := by
  have := D.get a
  rw [e] at this
  exact this
theorem DI.put (D : DI H m f n) (hn : n ≤ 99999) (a w : Int) : ∃ o, DPut H m (.int a) (.int w) (upd H m o) ∧ DI (upd H m o) m (memPut f a w) (n + 1) := by
  obtain ⟨k, h1, h2, h3⟩ := D
  refine ⟨_, DPut.k (k := kI a) (v := .int w) h1 (small5' (by omega)), _, upd_same, ?_, fun b => ?_⟩
  · have := length_putK k (kI a) (V.int w)
    omega
  · rw [valV_put]
    show _ = (memPut f a w b).map V.int
    unfold memPut
    by_cases q : b = a
    · rw [if_pos (by rw [q]; rfl), if_pos q]; rfl
    · rw [if_neg (show ¬ (Sum.inl b : Key) = kI a from fun y => q (Sum.inl.inj y)), if_neg q]; exact h3 b
theorem DI.new : DI (upd H m (.dK [])) m (fun _ => none) 0 := ⟨[], upd_same, Nat.le_refl _, fun a => rfl⟩
theorem DI.le {k : Nat} (D : DI H m f n) (h : n ≤ k) : DI H m f k := by
  obtain ⟨k', h1, h2, h3⟩ := D
  exact ⟨k', h1, Nat.le_trans h2 h, h3⟩
theorem memPut_eq {a w : Int} : memPut f a w a = some w := if_pos rfl
theorem memPut_ne {a w x : Int} (h : x ≠ a) : memPut f a w x = f x := if_neg h
end
section
variable {K : PySem.W.Frag} {σ : L2.St} {H : Hp} {Q : VK} {to : TE} {p : Addr} {xs : List V} {kvs : List (Key × V)} {T : String} {nx bk ct : L2.St → Hp → Prop} {rt : VK} {tl : TE} {tu : TS}
theorem s_BM0 {r : V → List V → Hp → VK → Prop} (z : to σ H fun x H1 => tyV K T x H1 ∧ r x [] H1 Q) : tBM0 K T r to σ H Q := z
theorem s_clear (h : H p = some (.lst xs)) (z : Q .non (upd H p (.lst []))) : rClear (.ref p) [] H Q := ⟨p, xs, rfl, rfl, h, z⟩
theorem s_dclear (h : H p = some (.dK kvs)) (z : Q .non (upd H p (.dK []))) : tyV K "dict" (.ref p) H ∧ rDClear (.ref p) [] H Q := ⟨.inr (.inr (.inl ⟨rfl, .inl ⟨kvs, h⟩⟩)), p, kvs, rfl, rfl, h, z⟩
/-- a loop over a list made for it -/
theorem s_forN {k : Nat} {xs : List V} (Pv : Addr → Nat → L2.St → Hp → Prop) (ha : ∀ R : VK, (∀ a, H a = none → R (.ref a) (upd H a (.lst xs))) → tl σ H R) (h0 : ∀ a, H a = none → Pv a 0 σ (upd H a (.lst xs)))
    (hl : ∀ a i σ' H', H a = none → i ≤ xs.length → Pv a i σ' H' → SqL K H' a xs)
    (hs : ∀ (a : Addr) (i : Nat) x σ' H', H a = none → xs[i]? = some x → Pv a i σ' H' → tu ⟨Pv a (i + 1), rt, nx, Pv a (i + 1)⟩ (σ'.set k (some x)) H') (hd : ∀ a σ' H', H a = none → Pv a xs.length σ' H' → nx σ' H') : tFor (iList K tl) (gName k) tu ⟨nx, rt, bk, ct⟩ σ H := by
  refine ha _ fun a na => ⟨a, rfl, ⟨xs, sqU⟩, ?_⟩
  exact for_list (xs := xs) (Pv a) (h0 a na) (fun i σ' H' hi z => hl a i σ' H' na hi z) (fun i x σ' H' hi h => hs a i x σ' H' na hi h) (fun σ' H' h => hd a σ' H' na h)
end
section
variable {B Hf H H' : Hp} {A : List Addr} {p : Addr}
theorem Act.call (c : Act B Hf H A) (s : Same H H') (hp : H p = none) {o : HO} (e : H' p = some o) : Act B Hf H' (p :: A) := by
  refine ⟨c.base, c.ext.trans s, fun b hb => ?_, List.nodup_cons.mpr ⟨c.out hp, c.nd⟩⟩
  rcases List.mem_cons.mp hb with rfl | hb
  · exact ⟨c.ext.free hp, _, e⟩
  · obtain ⟨h1, o, h2⟩ := c.free b hb
    exact ⟨h1, o, s _ _ h2⟩
theorem Act.chg {C : List Addr} (c : Act B Hf H A) (k : ∀ b v, H b = some v → b ∉ C → H' b = some v) (hC : ∀ b ∈ C, b ∈ A ∧ ∃ o, H' b = some o) : Act B Hf H' A := by
  refine ⟨c.base, fun b u h => ?_, fun b hb => ⟨(c.free b hb).1, ?_⟩, c.nd⟩
  · refine k b u (c.ext b u h) fun hb => ?_
    have := (c.free b (hC b hb).1).1
    rw [h] at this; cases this
  · by_cases q : b ∈ C
    · exact (hC b q).2
    · obtain ⟨o, h⟩ := (c.free b hb).2
      exact ⟨o, k b o h q⟩
theorem Act.mach {C dx m r o : Addr} {st : MSt} (c : Act B Hf H A) (s : Same H H') (np : H p = none) (nm : H m = none) (nr : H r = none) (no : H o = none) (M : MachAt C H' p dx m r o st) : Act B Hf H' (p :: m :: r :: o :: A) := by
  obtain ⟨kvs, hm, _⟩ := M.dc
  have h1 := M.pm; have h2 := M.pr; have h3 := M.po; have h4 := M.rm; have h5 := M.om; have h6 := M.ne
  refine ⟨c.base, c.ext.trans s, fun b hb => ?_, ?_⟩
  · simp only [List.mem_cons] at hb
    rcases hb with rfl | rfl | rfl | rfl | hb
    · exact ⟨c.ext.free np, _, M.ob⟩
    · exact ⟨c.ext.free nm, _, hm⟩
    · exact ⟨c.ext.free nr, _, M.rg⟩
    · exact ⟨c.ext.free no, _, M.ou⟩
    · obtain ⟨h1, o, h2⟩ := c.free b hb
      exact ⟨h1, o, s _ _ h2⟩
  · simp only [List.nodup_cons, List.mem_cons, not_or]
    exact ⟨⟨h1, h2, h3, c.out np⟩, ⟨h4.symm, h5.symm, c.out nm⟩, ⟨h6, c.out nr⟩, c.out no, c.nd⟩
end
/-- a machine, and what a law holds beside it -/
structure Gp where
  p : Addr
  dx : Addr
  m : Addr
  r : Addr
  o : Addr
  a : Addr
  t : Addr
def Gp.cells (g : Gp) : List Addr := [g.p, g.m, g.r, g.o, g.t, g.a]
structure One (C : Addr) (H : Hp) (g : Gp) (s : MSt) : Prop where
  M : MachAt C H g.p g.dx g.m g.r g.o s
  row : H g.a = some (.lst (s.regs.map V.int))
  told : H g.t = some (.lst (s.outs.map V.int))
  nd : g.cells.Nodup
section
variable {C : Addr} {H H' : Hp} {g g0 g1 : Gp} {s : MSt} {P P' : MSt → Prop} {i : Nat}
theorem One.keep (h : One C H g s) (k : ∀ b v, H b = some v → b ∈ g.cells → H' b = some v) : One C H' g s := by
  obtain ⟨kvs, h1, h2, h3⟩ := h.M.dc
  exact ⟨⟨k _ _ h.M.ob (by simp [Gp.cells]), ⟨kvs, k _ _ h1 (by simp [Gp.cells]), h2, h3⟩, k _ _ h.M.rg (by simp [Gp.cells]), k _ _ h.M.ou (by simp [Gp.cells]), h.M.ne⟩, k _ _ h.row (by simp [Gp.cells]), k _ _ h.told (by simp [Gp.cells]), h.nd⟩
theorem One.same (h : One C H g s) (e : Same H H') : One C H' g s := h.keep fun b v hb _ => e b v hb
theorem One.has (h : One C H g s) : ∀ b ∈ g.cells, ∃ o, H b = some o := by
  obtain ⟨kvs, h1, _⟩ := h.M.dc
  intro b hb
  simp only [Gp.cells, List.mem_cons, List.not_mem_nil, or_false] at hb
  rcases hb with rfl | rfl | rfl | rfl | rfl | rfl
  · exact ⟨_, h.M.ob⟩
  · exact ⟨_, h1⟩
  · exact ⟨_, h.M.rg⟩
  · exact ⟨_, h.M.ou⟩
  · exact ⟨_, h.told⟩
  · exact ⟨_, h.row⟩
/-- two of these, of which the first i have gone on -/
def Both (C : Addr) (g0 g1 : Gp) (P P' : MSt → Prop) (i : Nat) (H : Hp) : Prop := ∃ s0 s1, One C H g0 s0 ∧ One C H g1 s1 ∧ (if 0 < i then P' s0 else P s0) ∧ (if 1 < i then P' s1 else P s1)
theorem Both.same (h : Both C g0 g1 P P' i H) (e : Same H H') : Both C g0 g1 P P' i H' := by
  obtain ⟨s0, s1, a, b, c, d⟩ := h
  exact ⟨s0, s1, a.same e, b.same e, c, d⟩
theorem Both.turn (hd : ∀ b ∈ g0.cells, b ∉ g1.cells) (hi : i < 2) (h : Both C g0 g1 P P' i H) : ∃ g s, ((i = 0 ∧ g = g0) ∨ (i = 1 ∧ g = g1)) ∧ One C H g s ∧ P s ∧
    ∀ H' s', One C H' g s' → P' s' → (∀ b v, H b = some v → b ∉ g.cells → H' b = some v) → Both C g0 g1 P P' (i + 1) H' := by
  obtain ⟨s0, s1, a, b, c, d⟩ := h
  have hi' : i = 0 ∨ i = 1 := by omega
  rcases hi' with rfl | rfl
  · refine ⟨g0, s0, .inl ⟨rfl, rfl⟩, a, c, fun H' s' o p k => ⟨s', s1, o, b.keep fun x v hx hc => k x v hx fun z => hd x z hc, p, d⟩⟩
  · refine ⟨g1, s1, .inr ⟨rfl, rfl⟩, b, d, fun H' s' o p k => ⟨s0, s', a.keep fun x v hx hc => k x v hx (hd x hc), o, c, p⟩⟩
theorem Both.next {P'' : MSt → Prop} (h : Both C g0 g1 P P' 2 H) : Both C g0 g1 P' P'' 0 H := h
/-- a machine steps, the law's own row and list have gone ahead -/
theorem One.stepped {s' : MSt} {H1 H2 : Hp} (h : One C H g s) (hb : ∀ b, b ≠ g.a → b ≠ g.t → H1 b = H b) (hr : H1 g.a = some (.lst (s'.regs.map V.int))) (ht : H1 g.t = some (.lst (s'.outs.map V.int)))
    (k : Keep H1 H2 g.p g.m g.r g.o) (M : MachAt C H2 g.p g.dx g.m g.r g.o s') : One C H2 g s' ∧ ∀ b v, H b = some v → b ∉ g.cells → H2 b = some v := by
  have nd := h.nd
  simp only [Gp.cells, List.nodup_cons, List.mem_cons, List.not_mem_nil, or_false, not_or] at nd
  obtain ⟨⟨n1, n2, n3, n4, n5⟩, ⟨n6, n7, n8, n9⟩, ⟨n10, n11, n12⟩, ⟨n13, n14⟩, n15, -⟩ := nd
  refine ⟨⟨M, k _ _ hr (fun e => n5 e.symm) (fun e => n9 e.symm) (fun e => n12 e.symm) fun e => n14 e.symm, k _ _ ht (fun e => n4 e.symm) (fun e => n8 e.symm) (fun e => n11 e.symm) fun e => n13 e.symm, h.nd⟩, fun b v e hc => ?_⟩
  simp only [Gp.cells, List.mem_cons, List.not_mem_nil, or_false, not_or] at hc
  obtain ⟨c1, c2, c3, c4, c5, c6⟩ := hc
  refine k b v ?_ c1 c2 c3 c4
  rw [hb b c6 c5]; exact e
theorem One.ma {H1 : Hp} (h : One C H g s) (hb : ∀ b, b ≠ g.a → b ≠ g.t → H1 b = H b) : MachAt C H1 g.p g.dx g.m g.r g.o s := by
  have nd := h.nd
  simp only [Gp.cells, List.nodup_cons, List.mem_cons, List.not_mem_nil, or_false, not_or] at nd
  obtain ⟨⟨n1, n2, n3, n4, n5⟩, ⟨n6, n7, n8, n9⟩, ⟨n10, n11, n12⟩, ⟨n13, n14⟩, n15, -⟩ := nd
  obtain ⟨kvs, h1, h2, h3⟩ := h.M.dc
  exact ⟨by rw [hb _ n5 n4]; exact h.M.ob, ⟨kvs, by rw [hb _ n9 n8]; exact h1, h2, h3⟩, by rw [hb _ n12 n11]; exact h.M.rg, by rw [hb _ n14 n13]; exact h.M.ou, h.M.ne⟩
theorem One.at_ (h : One C H g s) : g.a ≠ g.t := by
  have nd := h.nd
  simp only [Gp.cells, List.nodup_cons, List.mem_cons, List.not_mem_nil, or_false, not_or] at nd
  obtain ⟨⟨n1, n2, n3, n4, n5⟩, ⟨n6, n7, n8, n9⟩, ⟨n10, n11, n12⟩, ⟨n13, n14⟩, n15, -⟩ := nd
  exact fun e => n15 e.symm
end
theorem cutV_mid {xs : List V} (i j : Nat) (h : i ≤ j) : cutV xs (some (i : Int)) (some (j : Int)) = (xs.drop i).take (j - i) := by
  unfold cutV
  have e1 : ∀ d k : Nat, HT.sIx xs.length d (some (k : Int)) = min k xs.length := fun d k => HT.sIx_nat _ _ _
  rw [e1, e1]
  rcases Nat.lt_or_ge i xs.length with hi | hi
  · rw [Nat.min_eq_left (Nat.le_of_lt hi)]
    rcases Nat.lt_or_ge j xs.length with hj | hj
    · rw [Nat.min_eq_left (Nat.le_of_lt hj)]
    · rw [Nat.min_eq_right hj, List.take_of_length_le (by rw [List.length_drop]; omega), List.take_of_length_le (by rw [List.length_drop]; omega)]
  · rw [Nat.min_eq_right hi, List.drop_of_length_le hi, List.drop_of_length_le (Nat.le_refl _), List.take_nil, List.take_nil]
theorem nd_ne {A : List Addr} (h : A.Nodup) (i j : Nat) (hij : i < j) {a b : Addr} (ha : A[i]? = some a) (hb : A[j]? = some b) : a ≠ b := by
  obtain ⟨hi, rfl⟩ := List.getElem?_eq_some_iff.mp ha
  obtain ⟨hj, rfl⟩ := List.getElem?_eq_some_iff.mp hb
  exact List.pairwise_iff_getElem.mp h i j hi hj hij
section
variable {K : PySem.W.Frag} {σ : L2.St} {H : Hp} {Q : VK} {p q : Addr} {ns ms : List Int} {ss : List Str} {i : Int} {z : Str} {nx bk ct : L2.St → Hp → Prop} {rt : VK} {tu : TS}
theorem inV_ints : ∀ ns : List Int, inV (.int i) (ns.map V.int) = decide (i ∈ ns)
  | [] => rfl
  | n :: ns => by
    show ((n == i) || inV (.int i) (ns.map V.int)) = _
    rw [inV_ints ns, Bool.eq_iff_iff, Bool.or_eq_true, beq_iff_eq, decide_eq_true_iff, decide_eq_true_iff, List.mem_cons]
    exact ⟨fun h => h.imp Eq.symm id, fun h => h.imp Eq.symm id⟩
theorem inV_strs : ∀ ns : List Str, inV (.str z) (ns.map V.str) = decide (z ∈ ns)
  | [] => rfl
  | n :: ns => by
    show ((n == z) || inV (.str z) (ns.map V.str)) = _
    rw [inV_strs ns, Bool.eq_iff_iff, Bool.or_eq_true, beq_iff_eq, decide_eq_true_iff, decide_eq_true_iff, List.mem_cons]
    exact ⟨fun h => h.imp Eq.symm id, fun h => h.imp Eq.symm id⟩
theorem flat_ints : ∀ ns : List Int, (ns.map V.int).all flatV = true
  | [] => rfl
  | n :: ns => by show (true && (ns.map V.int).all flatV) = true; rw [flat_ints ns]; rfl
theorem flat_strs : ∀ ns : List Str, (ns.map V.str).all flatV = true
  | [] => rfl
  | n :: ns => by show (true && (ns.map V.str).all flatV) = true; rw [flat_strs ns]; rfl
theorem s_inInts (h : SqL K H p (ns.map V.int)) (k : Q (.bl (decide (i ∈ ns))) H) : rIn K false (.int i) (.ref p) H Q := ⟨p, _, rfl, .inl h, rfl, flat_ints ns, by rw [if_neg Bool.false_ne_true, inV_ints]; exact k⟩
theorem s_notInInts (h : SqL K H p (ns.map V.int)) (k : Q (.bl (!decide (i ∈ ns))) H) : rIn K true (.int i) (.ref p) H Q := ⟨p, _, rfl, .inl h, rfl, flat_ints ns, by rw [if_pos rfl, inV_ints]; exact k⟩
theorem s_inStrs (h : SqL K H p (ss.map V.str)) (k : Q (.bl (decide (z ∈ ss))) H) : rIn K false (.str z) (.ref p) H Q := ⟨p, _, rfl, .inl h, rfl, flat_strs ss, by rw [if_neg Bool.false_ne_true, inV_strs]; exact k⟩
theorem s_notInStrs (h : SqL K H p (ss.map V.str)) (k : Q (.bl (!decide (z ∈ ss))) H) : rIn K true (.str z) (.ref p) H Q := ⟨p, _, rfl, .inl h, rfl, flat_strs ss, by rw [if_pos rfl, inV_strs]; exact k⟩
theorem s_neInts (h1 : SqL K H p (ns.map V.int)) (h2 : SqL K H q (ms.map V.int)) (k : Q (.bl (!decide (ns = ms))) H) : rNeD K (.ref p) (.ref q) H Q :=
  ⟨_, _, dp_intL h1, dp_intL h2, shaped_ints ns, shaped_ints ms, by
    show Q (.bl (!PyData.eqvAll (ns.map PyData.int) (ms.map PyData.int))) H
    rw [eqv_ints]; exact k⟩
/-- range(lo, hi) -/
theorem s_forR2 {k : Nat} {ta : TA} (lo hi : Int) (Pv : Nat → L2.St → Hp → Prop) (ha : ∀ R : List V → Hp → Prop, R [.int lo, .int hi] H → ta σ H R) (hb : -(2 ^ 62) ≤ lo ∧ lo < 2 ^ 62 ∧ -(2 ^ 62) ≤ hi ∧ hi < 2 ^ 62) (h0 : Pv 0 σ H)
    (hs : ∀ (i : Nat) σ' H', lo + (i : Int) < hi → Pv i σ' H' → tu ⟨Pv (i + 1), rt, nx, Pv (i + 1)⟩ (σ'.set k (some (.int (lo + (i : Int))))) H') (hd : ∀ σ' H', Pv (hi - lo).toNat σ' H' → nx σ' H') : tFor (iRng2 ta) (gName k) tu ⟨nx, rt, bk, ct⟩ σ H := by
  refine ha _ ⟨lo, hi, rfl, hb, ?_⟩
  refine for_range (lo := lo) (n := (hi - lo).toNat) Pv h0 (fun i σ' H' hi' h => ?_) hd
  exact hs i σ' H' (by omega) h
end
section
variable {K : PySem.W.Frag} {σ : L2.St} {H : Hp} {nx bk ct : L2.St → Hp → Prop} {rt : VK} {tu : TS}
/-- a list of known items, any target -/
theorem s_forLg {g : TG} {tl : TE} {a : Addr} {xs : List V} (Pv : Nat → L2.St → Hp → Prop) (H1 : Hp) (ha : ∀ R : VK, R (.ref a) H1 → tl σ H R) (hx : SqL K H1 a xs) (h0 : Pv 0 σ H1)
    (hl : ∀ i σ' H', i ≤ xs.length → Pv i σ' H' → SqL K H' a xs)
    (hs : ∀ (i : Nat) x σ' H', xs[i]? = some x → Pv i σ' H' → g x σ' H' fun σ2 H2 => tu ⟨Pv (i + 1), rt, nx, Pv (i + 1)⟩ σ2 H2) (hd : ∀ σ' H', Pv xs.length σ' H' → nx σ' H') : tFor (iList K tl) g tu ⟨nx, rt, bk, ct⟩ σ H := by
  refine ha _ ⟨a, rfl, ⟨xs, hx⟩, ?_⟩
  exact for_list (xs := xs) Pv h0 hl (fun i x σ' H' hi h => hs i x σ' H' hi h) hd
end
end Jl


local macro_rules | `(tactic| walk_at "c") => `(tactic| first
  | exact Jl.c_div (by decide) (by decide)
  | exact Jl.c_mulR (by decide) (by decide)
  | exact Jl.c_mulL (by decide) (by decide)
  | exact Jl.c_pow (by decide) (by decide) (by decide)
  | decide
  | omega
  | decide +kernel
  | assumption
  | exact Jl.c_div (by omega) (by omega)
  | exact Jl.c_mulR (by omega) (by omega)
  | exact Jl.c_mulL (by omega) (by omega))
local macro_rules | `(tactic| walk_at "len") => `(tactic| first
  | omega
  | decide
  | (simp only [Jl.len_app, Jl.len_one]; omega)
  | (refine Nat.le_trans (Jl.len_cut _ _ _) ?_; omega))
local macro_rules | `(tactic| walk_at "d") => `(tactic| first
  | (focus (with_reducible apply Jl.s_iteDt; (focus (first | assumption | with_reducible rfl | decide | exact decide_eq_true (by omega) | exact decide_eq_false (by omega) | omega))))
  | (focus (with_reducible apply Jl.s_iteDf; (focus (first | assumption | with_reducible rfl | decide | exact decide_eq_true (by omega) | exact decide_eq_false (by omega) | omega))))
  | (focus (with_reducible apply Jl.s_iteNt; (focus (first | assumption | with_reducible rfl | decide | exact decide_eq_true (by omega) | exact decide_eq_false (by omega) | omega))))
  | (focus (with_reducible apply Jl.s_iteNf; (focus (first | assumption | with_reducible rfl | decide | exact decide_eq_true (by omega) | exact decide_eq_false (by omega) | omega)))))
local macro_rules | `(tactic| walk_at "b") => `(tactic| first
  | with_reducible refine Jl.s_iteD (fun _ => ?_) (fun _ => ?_)
  | with_reducible refine Jl.s_iteN (fun _ => ?_) (fun _ => ?_))
local macro_rules | `(tactic| walk_at "s") => `(tactic| first
  | (focus (with_reducible apply Jl.s_var; (focus (with_unfolding_all rfl))))
  | with_reducible refine Jl.s_c ?_
  | with_reducible refine Jl.s_op ?_
  | with_reducible refine Jl.s_cons ?_
  | with_reducible refine Jl.s_nil ?_
  | with_reducible refine Jl.s_I0 ?_
  | (focus (with_reducible refine Jl.s_I ?_ ?_; (focus (walk_at "c"))))
  | with_reducible refine Jl.s_exbl ?_
  | with_reducible refine Jl.s_seq ?_
  | with_reducible refine Jl.s_asg ?_
  | (with_reducible refine Jl.s_name ?_; try simp only [List.set_cons_zero, List.set_cons_succ])
  | with_reducible refine Jl.s_ifS ?_
  | with_reducible refine Jl.s_test ?_
  | with_reducible refine Jl.s_tB ?_
  | with_reducible refine Jl.s_chain ?_
  | with_reducible refine Jl.s_and ?_
  | with_reducible refine Jl.s_or ?_
  | with_reducible refine Jl.s_not ?_
  | with_reducible refine Jl.s_iteT ?_
  | with_reducible refine Jl.s_iteF ?_
  | with_reducible refine Jl.s_iteNT ?_
  | with_reducible refine Jl.s_iteNF ?_
  | with_reducible refine Jl.s_ret ?_
  | with_reducible refine Jl.s_next ?_
  | with_reducible refine Jl.s_call ?_
  | with_reducible refine Jl.s_CB ?_
  | with_reducible refine Jl.s_eqI ?_
  | with_reducible refine Jl.s_neI ?_
  | with_reducible refine Jl.s_eqS ?_
  | with_reducible refine Jl.s_neS ?_
  | with_reducible refine Jl.s_eqB ?_
  | with_reducible refine Jl.s_neB ?_
  | with_reducible refine Jl.s_isB ?_
  | with_reducible refine Jl.s_notB ?_
  | with_reducible refine Jl.s_un ?_
  | with_reducible refine Jl.s_U ?_
  | with_reducible refine Jl.s_andV ?_
  | with_reducible refine Jl.s_orV ?_
  | with_reducible refine Jl.s_notV ?_
  | with_reducible refine Jl.s_ifE ?_
  | with_reducible refine Jl.s_drop ?_
  | with_reducible refine Jl.s_break ?_
  | with_reducible refine Jl.s_cont ?_
  | with_reducible refine Jl.s_isi_ii ?_
  | with_reducible refine Jl.s_isi_ib ?_
  | with_reducible refine Jl.s_isi_bb ?_
  | with_reducible refine Jl.s_isi_bi ?_
  | with_reducible refine Jl.s_isi_ss ?_
  | with_reducible refine Jl.s_BM ?_
  | (focus (with_reducible apply Jl.s_tyL; (focus (with_reducible assumption))))
  | (focus (with_reducible apply Jl.s_append; (focus (with_reducible assumption)); rotate_left; rotate_left))
  | with_reducible refine Jl.s_make ?_
  | (focus (with_reducible apply Jl.s_meth; (focus (first | assumption | exact Jl.RuleAt.same (by assumption) (by assumption))); (focus (exact (fun R z => Jl.s_var (by with_unfolding_all rfl) z))); (focus (decide +kernel))))
  | (focus (with_reducible refine Jl.s_addS ?_ ?_; rotate_left; (focus (walk_at "len"))))
  | with_reducible refine Jl.s_inS ?_
  | with_reducible refine Jl.s_notInS ?_
  | with_reducible refine Jl.s_isNn ?_
  | with_reducible refine Jl.s_isNi ?_
  | with_reducible refine Jl.s_isNs ?_
  | with_reducible refine Jl.s_isNr ?_
  | with_reducible refine Jl.s_notNn ?_
  | with_reducible refine Jl.s_notNi ?_
  | with_reducible refine Jl.s_notNs ?_
  | with_reducible refine Jl.s_notNr ?_
  | (focus (with_reducible refine Jl.s_lenS ?_ ?_; rotate_left; (focus (walk_at "len"))))
  | (focus (with_reducible apply Jl.s_lenL; (focus (with_reducible assumption))))
  | with_reducible refine Jl.s_max2 ?_
  | with_reducible refine Jl.s_min2 ?_
  | with_reducible refine Jl.s_int1 ?_
  | with_reducible refine Jl.s_int1b ?_
  | with_reducible refine Jl.s_sl ?_
  | with_reducible refine Jl.s_noP ?_
  | with_reducible refine Jl.s_part ?_
  | with_reducible refine Jl.s_exi ?_
  | (focus (with_reducible refine Jl.s_slS ?_ ?_; rotate_left; (focus (walk_at "len"))))
  | (focus (with_reducible apply Jl.s_gTupA; (focus (with_reducible assumption)); (focus (with_unfolding_all rfl))))
  | with_reducible refine Jl.s_gCons ?_
  | with_reducible refine Jl.s_gNil ?_
  | with_reducible refine Jl.s_gSub ?_
  | with_reducible refine Jl.s_tPc ?_
  | with_reducible refine Jl.s_tPn ?_
  | with_reducible refine Jl.s_callS ?_
  | with_reducible refine Jl.s_tup ?_
  | with_reducible refine Jl.s_lst ?_
  | with_reducible refine Jl.s_BM0 ?_
  | (focus (with_reducible apply Jl.s_clear; (focus (with_reducible assumption))))
  | (focus (with_reducible apply Jl.s_dclear; (focus (with_reducible assumption)))))
local macro_rules | `(tactic| walk_at "same") => `(tactic| first
  | exact L2.Same.refl _
  | assumption
  | (refine L2.Same.trans ?_ (by assumption); walk_at "same"))
local macro_rules | `(tactic| walk_at "w") => `(tactic| repeat walk_at "s")
local macro_rules | `(tactic| walk_at "wd") => `(tactic| repeat (first | walk_at "s" | walk_at "d"))
local macro_rules | `(tactic| walk_at "all") => `(tactic| repeat' (first | walk_at "s" | walk_at "d" | walk_at "b"))
namespace Jw
open PySem L2
def top (i : Nat) : Stmt := PySem.Challenge.pw_joinload_k54_whole_runs_by_a_plain_model.main.body.getD i (.Pass ⟨0, 0, 0, 0⟩)
abbrev s_wrapped : Stmt := top 2
abbrev N_wrapped : List Str := ["number"]
theorem sc_wrapped : FnScope N_wrapped ["number"] (defScope s_wrapped) := ⟨rfl, rfl, rfl, by decide +kernel, rfl, by decide +kernel, by decide +kernel⟩
abbrev s_field : Stmt := top 3
abbrev N_field : List Str := ["word", "low", "many"]
theorem sc_field : FnScope N_field ["word", "low", "many"] (defScope s_field) := ⟨rfl, rfl, rfl, by decide +kernel, rfl, by decide +kernel, by decide +kernel⟩
abbrev s_signed : Stmt := top 4
abbrev N_signed : List Str := ["number", "many", "half"]
theorem sc_signed : FnScope N_signed ["number", "many"] (defScope s_signed) := ⟨rfl, rfl, rfl, by decide +kernel, rfl, by decide +kernel, by decide +kernel⟩
abbrev s_turned : Stmt := top 5
abbrev N_turned : List Str := ["word", "by", "many"]
theorem sc_turned : FnScope N_turned ["word", "by"] (defScope s_turned) := ⟨rfl, rfl, rfl, by decide +kernel, rfl, by decide +kernel, by decide +kernel⟩
abbrev s_parts_of : Stmt := top 7
abbrev N_parts_of : List Str := ["word"]
theorem sc_parts_of : FnScope N_parts_of ["word"] (defScope s_parts_of) := ⟨rfl, rfl, rfl, by decide +kernel, rfl, by decide +kernel, by decide +kernel⟩
abbrev s_near_of : Stmt := top 8
abbrev N_near_of : List Str := ["word"]
theorem sc_near_of : FnScope N_near_of ["word"] (defScope s_near_of) := ⟨rfl, rfl, rfl, by decide +kernel, rfl, by decide +kernel, by decide +kernel⟩
abbrev s_split_of : Stmt := top 9
abbrev N_split_of : List Str := ["word"]
theorem sc_split_of : FnScope N_split_of ["word"] (defScope s_split_of) := ⟨rfl, rfl, rfl, by decide +kernel, rfl, by decide +kernel, by decide +kernel⟩
abbrev s_reckoned : Stmt := top 10
abbrev N_reckoned : List Str := ["op", "left", "right", "number"]
theorem sc_reckoned : FnScope N_reckoned ["op", "left", "right", "number"] (defScope s_reckoned) := ⟨rfl, rfl, rfl, by decide +kernel, rfl, by decide +kernel, by decide +kernel⟩
abbrev s_Lost___init__ : Stmt := inClass (top 13) 0
abbrev N_Lost___init__ : List Str := ["self", "place"]
theorem sc_Lost___init__ : FnScope N_Lost___init__ ["self", "place"] (defScope s_Lost___init__) := ⟨rfl, rfl, rfl, by decide +kernel, rfl, by decide +kernel, by decide +kernel⟩
abbrev s_Machine___init__ : Stmt := inClass (top 15) 0
abbrev N_Machine___init__ : List Str := ["self", "memory", "start", "registers"]
theorem sc_Machine___init__ : FnScope N_Machine___init__ ["self", "memory", "start", "registers"] (defScope s_Machine___init__) := ⟨rfl, rfl, rfl, by decide +kernel, rfl, by decide +kernel, by decide +kernel⟩
abbrev s_Machine_word_needed : Stmt := inClass (top 15) 1
abbrev N_Machine_word_needed : List Str := ["self", "place"]
theorem sc_Machine_word_needed : FnScope N_Machine_word_needed ["self", "place"] (defScope s_Machine_word_needed) := ⟨rfl, rfl, rfl, by decide +kernel, rfl, by decide +kernel, by decide +kernel⟩
abbrev s_Machine_put_at : Stmt := inClass (top 15) 2
abbrev N_Machine_put_at : List Str := ["self", "place", "word"]
theorem sc_Machine_put_at : FnScope N_Machine_put_at ["self", "place", "word"] (defScope s_Machine_put_at) := ⟨rfl, rfl, rfl, by decide +kernel, rfl, by decide +kernel, by decide +kernel⟩
abbrev s_Machine_gone_to : Stmt := inClass (top 15) 3
abbrev N_Machine_gone_to : List Str := ["self", "word", "op", "a", "b", "c", "number", "one", "other"]
theorem sc_Machine_gone_to : FnScope N_Machine_gone_to ["self", "word"] (defScope s_Machine_gone_to) := ⟨rfl, rfl, rfl, by decide +kernel, rfl, by decide +kernel, by decide +kernel⟩
abbrev s_Machine_go_on : Stmt := inClass (top 15) 4
abbrev N_Machine_go_on : List Str := ["self", "word", "op", "a", "b", "c", "number", "further", "there"]
theorem sc_Machine_go_on : FnScope N_Machine_go_on ["self"] (defScope s_Machine_go_on) := ⟨rfl, rfl, rfl, by decide +kernel, rfl, by decide +kernel, by decide +kernel⟩
abbrev s_Machine_state : Stmt := inClass (top 15) 5
abbrev N_Machine_state : List Str := ["self"]
theorem sc_Machine_state : FnScope N_Machine_state ["self"] (defScope s_Machine_state) := ⟨rfl, rfl, rfl, by decide +kernel, rfl, by decide +kernel, by decide +kernel⟩
abbrev s_Machine_word_at : Stmt := inClass (top 15) 6
abbrev N_Machine_word_at : List Str := ["self", "place"]
theorem sc_Machine_word_at : FnScope N_Machine_word_at ["self", "place"] (defScope s_Machine_word_at) := ⟨rfl, rfl, rfl, by decide +kernel, rfl, by decide +kernel, by decide +kernel⟩
abbrev s_law_whole : Stmt := top 17
abbrev N_law_whole : List Str := ["_law_found"]
theorem sc_law_whole : FnScope N_law_whole ["_law_found"] (defScope s_law_whole) := ⟨rfl, rfl, rfl, by decide +kernel, rfl, by decide +kernel, by decide +kernel⟩
abbrev s_law_cell_at : Stmt := top 18
abbrev N_law_cell_at : List Str := ["_law_script", "_law_k"]
theorem sc_law_cell_at : FnScope N_law_cell_at ["_law_script", "_law_k"] (defScope s_law_cell_at) := ⟨rfl, rfl, rfl, by decide +kernel, rfl, by decide +kernel, by decide +kernel⟩
abbrev s_law_word_by : Stmt := top 19
abbrev N_law_word_by : List Str := ["_law_cell", "_law_number", "_law_op", "_law_rest", "_law_low", "_law_way"]
theorem sc_law_word_by : FnScope N_law_word_by ["_law_cell"] (defScope s_law_word_by) := ⟨rfl, rfl, rfl, by decide +kernel, rfl, by decide +kernel, by decide +kernel⟩
abbrev s_law_split : Stmt := top 20
abbrev N_law_split : List Str := ["_law_word", "_law_number"]
theorem sc_law_split : FnScope N_law_split ["_law_word"] (defScope s_law_split) := ⟨rfl, rfl, rfl, by decide +kernel, rfl, by decide +kernel, by decide +kernel⟩
abbrev s_law_near : Stmt := top 21
abbrev N_law_near : List Str := ["_law_word"]
theorem sc_law_near : FnScope N_law_near ["_law_word"] (defScope s_law_near) := ⟨rfl, rfl, rfl, by decide +kernel, rfl, by decide +kernel, by decide +kernel⟩
abbrev s_law_small : Stmt := top 22
abbrev N_law_small : List Str := ["_law_word"]
theorem sc_law_small : FnScope N_law_small ["_law_word"] (defScope s_law_small) := ⟨rfl, rfl, rfl, by decide +kernel, rfl, by decide +kernel, by decide +kernel⟩
abbrev s_law_lacks : Stmt := top 23
abbrev N_law_lacks : List Str := ["_law_memory", "_law_row", "_law_here", "_law_word", "_law_there"]
theorem sc_law_lacks : FnScope N_law_lacks ["_law_memory", "_law_row", "_law_here"] (defScope s_law_lacks) := ⟨rfl, rfl, rfl, by decide +kernel, rfl, by decide +kernel, by decide +kernel⟩
abbrev s_law_made : Stmt := top 24
abbrev N_law_made : List Str := ["_law_memory", "_law_op", "_law_word", "_law_one", "_law_other"]
theorem sc_law_made : FnScope N_law_made ["_law_memory", "_law_op", "_law_word", "_law_one", "_law_other"] (defScope s_law_made) := ⟨rfl, rfl, rfl, by decide +kernel, rfl, by decide +kernel, by decide +kernel⟩
abbrev s_law_onward : Stmt := top 25
abbrev N_law_onward : List Str := ["_law_op", "_law_word", "_law_here", "_law_one", "_law_other"]
theorem sc_law_onward : FnScope N_law_onward ["_law_op", "_law_word", "_law_here", "_law_one", "_law_other"] (defScope s_law_onward) := ⟨rfl, rfl, rfl, by decide +kernel, rfl, by decide +kernel, by decide +kernel⟩
abbrev s_law_done : Stmt := top 26
abbrev N_law_done : List Str := ["_law_memory", "_law_row", "_law_told", "_law_here", "_law_word", "_law_op", "_law_a", "_law_one", "_law_other", "_law_onward_here"]
theorem sc_law_done : FnScope N_law_done ["_law_memory", "_law_row", "_law_told", "_law_here"] (defScope s_law_done) := ⟨rfl, rfl, rfl, by decide +kernel, rfl, by decide +kernel, by decide +kernel⟩
abbrev s_law_state : Stmt := top 27
abbrev N_law_state : List Str := ["_law_found", "_law_due", "_law_number"]
theorem sc_law_state : FnScope N_law_state ["_law_found", "_law_due"] (defScope s_law_state) := ⟨rfl, rfl, rfl, by decide +kernel, rfl, by decide +kernel, by decide +kernel⟩
abbrev s_law_lost_at : Stmt := top 28
abbrev N_law_lost_at : List Str := ["_law_machine", "_law_told", "e"]
theorem sc_law_lost_at : FnScope N_law_lost_at ["_law_machine"] (defScope s_law_lost_at) := ⟨rfl, rfl, rfl, by decide +kernel, rfl, by decide +kernel, by decide +kernel⟩
abbrev s_law_stays : Stmt := top 29
abbrev N_law_stays : List Str := ["_law_machine", "_law_due", "_law_lack", "_law_k"]
theorem sc_law_stays : FnScope N_law_stays ["_law_machine", "_law_due", "_law_lack"] (defScope s_law_stays) := ⟨rfl, rfl, rfl, by decide +kernel, rfl, by decide +kernel, by decide +kernel⟩
abbrev s_law_held : Stmt := top 31
abbrev N_law_held : List Str := ["_law_held_here", "_law_found", "_law_row", "_law_many"]
theorem sc_law_held : FnScope N_law_held ["_law_held_here"] (defScope s_law_held) := ⟨rfl, rfl, rfl, by decide +kernel, rfl, by decide +kernel, by decide +kernel⟩
abbrev s_law_runs : Stmt := top 30
abbrev N_law_runs : List Str := ["_law_machine", "_law_memory", "_law_row", "_law_here", "_law_most", "_law_told", "_law_held_here", "_law_k", "_law_lack", "_law_onward_here", "_law_found"]
theorem sc_law_runs : FnScope N_law_runs ["_law_machine", "_law_memory", "_law_row", "_law_here", "_law_most"] (defScope s_law_runs) := ⟨rfl, rfl, rfl, by decide +kernel, rfl, by decide +kernel, by decide +kernel⟩
abbrev s_law : Stmt := top 32
abbrev N_law : List Str := ["_law_script", "_law_cells", "_law_first", "_law_start", "_law_memory", "_law_k", "_law_number", "_law_row", "_law_begin", "_law_machine", "_law_place", "_law_found"]
theorem sc_law : FnScope N_law ["_law_script"] (defScope s_law) := ⟨rfl, rfl, rfl, by decide +kernel, rfl, by decide +kernel, by decide +kernel⟩
structure Txt (K : PySem.W.Frag) (mg : Str → Option Value) where
  a_wrapped : Addr
  d_wrapped : FuncData
  F_wrapped : Fun K "wrapped" "wrapped" s_wrapped a_wrapped d_wrapped
  b_wrapped : Binds K d_wrapped ["number"] []
  m_wrapped : mg "wrapped" = some (.ref a_wrapped)
  a_field : Addr
  d_field : FuncData
  F_field : Fun K "field" "field" s_field a_field d_field
  b_field : Binds K d_field ["word", "low", "many"] []
  m_field : mg "field" = some (.ref a_field)
  a_signed : Addr
  d_signed : FuncData
  F_signed : Fun K "signed" "signed" s_signed a_signed d_signed
  b_signed : Binds K d_signed ["number", "many"] []
  m_signed : mg "signed" = some (.ref a_signed)
  a_turned : Addr
  d_turned : FuncData
  F_turned : Fun K "turned" "turned" s_turned a_turned d_turned
  b_turned : Binds K d_turned ["word", "by"] []
  m_turned : mg "turned" = some (.ref a_turned)
  a_parts_of : Addr
  d_parts_of : FuncData
  F_parts_of : Fun K "parts_of" "parts_of" s_parts_of a_parts_of d_parts_of
  b_parts_of : Binds K d_parts_of ["word"] []
  m_parts_of : mg "parts_of" = some (.ref a_parts_of)
  a_near_of : Addr
  d_near_of : FuncData
  F_near_of : Fun K "near_of" "near_of" s_near_of a_near_of d_near_of
  b_near_of : Binds K d_near_of ["word"] []
  m_near_of : mg "near_of" = some (.ref a_near_of)
  a_split_of : Addr
  d_split_of : FuncData
  F_split_of : Fun K "split_of" "split_of" s_split_of a_split_of d_split_of
  b_split_of : Binds K d_split_of ["word"] []
  m_split_of : mg "split_of" = some (.ref a_split_of)
  a_reckoned : Addr
  d_reckoned : FuncData
  F_reckoned : Fun K "reckoned" "reckoned" s_reckoned a_reckoned d_reckoned
  b_reckoned : Binds K d_reckoned ["op", "left", "right", "number"] []
  m_reckoned : mg "reckoned" = some (.ref a_reckoned)
  a_Lost___init__ : Addr
  d_Lost___init__ : FuncData
  F_Lost___init__ : Fun K "__init__" "Lost.__init__" s_Lost___init__ a_Lost___init__ d_Lost___init__
  b_Lost___init__ : Binds K d_Lost___init__ ["self", "place"] []
  a_Machine___init__ : Addr
  d_Machine___init__ : FuncData
  F_Machine___init__ : Fun K "__init__" "Machine.__init__" s_Machine___init__ a_Machine___init__ d_Machine___init__
  b_Machine___init__ : Binds K d_Machine___init__ ["self", "memory", "start", "registers"] []
  a_Machine_word_needed : Addr
  d_Machine_word_needed : FuncData
  F_Machine_word_needed : Fun K "word_needed" "Machine.word_needed" s_Machine_word_needed a_Machine_word_needed d_Machine_word_needed
  b_Machine_word_needed : Binds K d_Machine_word_needed ["self", "place"] []
  a_Machine_put_at : Addr
  d_Machine_put_at : FuncData
  F_Machine_put_at : Fun K "put_at" "Machine.put_at" s_Machine_put_at a_Machine_put_at d_Machine_put_at
  b_Machine_put_at : Binds K d_Machine_put_at ["self", "place", "word"] []
  a_Machine_gone_to : Addr
  d_Machine_gone_to : FuncData
  F_Machine_gone_to : Fun K "gone_to" "Machine.gone_to" s_Machine_gone_to a_Machine_gone_to d_Machine_gone_to
  b_Machine_gone_to : Binds K d_Machine_gone_to ["self", "word"] []
  a_Machine_go_on : Addr
  d_Machine_go_on : FuncData
  F_Machine_go_on : Fun K "go_on" "Machine.go_on" s_Machine_go_on a_Machine_go_on d_Machine_go_on
  b_Machine_go_on : Binds K d_Machine_go_on ["self"] []
  a_Machine_state : Addr
  d_Machine_state : FuncData
  F_Machine_state : Fun K "state" "Machine.state" s_Machine_state a_Machine_state d_Machine_state
  b_Machine_state : Binds K d_Machine_state ["self"] []
  a_Machine_word_at : Addr
  d_Machine_word_at : FuncData
  F_Machine_word_at : Fun K "word_at" "Machine.word_at" s_Machine_word_at a_Machine_word_at d_Machine_word_at
  b_Machine_word_at : Binds K d_Machine_word_at ["self", "place"] []
  a_law_whole : Addr
  d_law_whole : FuncData
  F_law_whole : Fun K "_law_whole" "_law_whole" s_law_whole a_law_whole d_law_whole
  b_law_whole : Binds K d_law_whole ["_law_found"] []
  m_law_whole : mg "_law_whole" = some (.ref a_law_whole)
  a_law_cell_at : Addr
  d_law_cell_at : FuncData
  F_law_cell_at : Fun K "_law_cell_at" "_law_cell_at" s_law_cell_at a_law_cell_at d_law_cell_at
  b_law_cell_at : Binds K d_law_cell_at ["_law_script", "_law_k"] []
  m_law_cell_at : mg "_law_cell_at" = some (.ref a_law_cell_at)
  a_law_word_by : Addr
  d_law_word_by : FuncData
  F_law_word_by : Fun K "_law_word_by" "_law_word_by" s_law_word_by a_law_word_by d_law_word_by
  b_law_word_by : Binds K d_law_word_by ["_law_cell"] []
  m_law_word_by : mg "_law_word_by" = some (.ref a_law_word_by)
  a_law_split : Addr
  d_law_split : FuncData
  F_law_split : Fun K "_law_split" "_law_split" s_law_split a_law_split d_law_split
  b_law_split : Binds K d_law_split ["_law_word"] []
  m_law_split : mg "_law_split" = some (.ref a_law_split)
  a_law_near : Addr
  d_law_near : FuncData
  F_law_near : Fun K "_law_near" "_law_near" s_law_near a_law_near d_law_near
  b_law_near : Binds K d_law_near ["_law_word"] []
  m_law_near : mg "_law_near" = some (.ref a_law_near)
  a_law_small : Addr
  d_law_small : FuncData
  F_law_small : Fun K "_law_small" "_law_small" s_law_small a_law_small d_law_small
  b_law_small : Binds K d_law_small ["_law_word"] []
  m_law_small : mg "_law_small" = some (.ref a_law_small)
  a_law_lacks : Addr
  d_law_lacks : FuncData
  F_law_lacks : Fun K "_law_lacks" "_law_lacks" s_law_lacks a_law_lacks d_law_lacks
  b_law_lacks : Binds K d_law_lacks ["_law_memory", "_law_row", "_law_here"] []
  m_law_lacks : mg "_law_lacks" = some (.ref a_law_lacks)
  a_law_made : Addr
  d_law_made : FuncData
  F_law_made : Fun K "_law_made" "_law_made" s_law_made a_law_made d_law_made
  b_law_made : Binds K d_law_made ["_law_memory", "_law_op", "_law_word", "_law_one", "_law_other"] []
  m_law_made : mg "_law_made" = some (.ref a_law_made)
  a_law_onward : Addr
  d_law_onward : FuncData
  F_law_onward : Fun K "_law_onward" "_law_onward" s_law_onward a_law_onward d_law_onward
  b_law_onward : Binds K d_law_onward ["_law_op", "_law_word", "_law_here", "_law_one", "_law_other"] []
  m_law_onward : mg "_law_onward" = some (.ref a_law_onward)
  a_law_done : Addr
  d_law_done : FuncData
  F_law_done : Fun K "_law_done" "_law_done" s_law_done a_law_done d_law_done
  b_law_done : Binds K d_law_done ["_law_memory", "_law_row", "_law_told", "_law_here"] []
  m_law_done : mg "_law_done" = some (.ref a_law_done)
  a_law_state : Addr
  d_law_state : FuncData
  F_law_state : Fun K "_law_state" "_law_state" s_law_state a_law_state d_law_state
  b_law_state : Binds K d_law_state ["_law_found", "_law_due"] []
  m_law_state : mg "_law_state" = some (.ref a_law_state)
  a_law_lost_at : Addr
  d_law_lost_at : FuncData
  F_law_lost_at : Fun K "_law_lost_at" "_law_lost_at" s_law_lost_at a_law_lost_at d_law_lost_at
  b_law_lost_at : Binds K d_law_lost_at ["_law_machine"] []
  m_law_lost_at : mg "_law_lost_at" = some (.ref a_law_lost_at)
  a_law_stays : Addr
  d_law_stays : FuncData
  F_law_stays : Fun K "_law_stays" "_law_stays" s_law_stays a_law_stays d_law_stays
  b_law_stays : Binds K d_law_stays ["_law_machine", "_law_due", "_law_lack"] []
  m_law_stays : mg "_law_stays" = some (.ref a_law_stays)
  a_law_held : Addr
  d_law_held : FuncData
  F_law_held : Fun K "_law_held" "_law_held" s_law_held a_law_held d_law_held
  b_law_held : Binds K d_law_held ["_law_held_here"] []
  m_law_held : mg "_law_held" = some (.ref a_law_held)
  a_law_runs : Addr
  d_law_runs : FuncData
  F_law_runs : Fun K "_law_runs" "_law_runs" s_law_runs a_law_runs d_law_runs
  b_law_runs : Binds K d_law_runs ["_law_machine", "_law_memory", "_law_row", "_law_here", "_law_most"] []
  m_law_runs : mg "_law_runs" = some (.ref a_law_runs)
  a_law : Addr
  d_law : FuncData
  F_law : Fun K "law" "law" s_law a_law d_law
  b_law : Binds K d_law ["_law_script"] []
  m_law : mg "law" = some (.ref a_law)
  a_Machine : Addr
  c_Machine : Cls K a_Machine
  g_Machine : mg "Machine" = some (.ref a_Machine)
  k_Machine : Mk K a_Machine a_Machine___init__
  na_Machine_memory : NoAttr K a_Machine "memory"
  na_Machine_spot : NoAttr K a_Machine "spot"
  na_Machine_registers : NoAttr K a_Machine "registers"
  na_Machine_outputs : NoAttr K a_Machine "outputs"
  na_Machine_ended : NoAttr K a_Machine "ended"
  me_Machine_word_needed : Meth K a_Machine "word_needed" a_Machine_word_needed
  me_Machine_put_at : Meth K a_Machine "put_at" a_Machine_put_at
  me_Machine_gone_to : Meth K a_Machine "gone_to" a_Machine_gone_to
  me_Machine_go_on : Meth K a_Machine "go_on" a_Machine_go_on
  me_Machine_state : Meth K a_Machine "state" a_Machine_state
  me_Machine_word_at : Meth K a_Machine "word_at" a_Machine_word_at
  a_Lost : Addr
  g_Lost : mg "Lost" = some (.ref a_Lost)
  be_Lost : PySem.W.subIn K (.ref a_Lost) (.type "BaseException") = some true
  ty_Lost : PySem.W.typeIn K (.ref a_Lost) = some (.type "type")
  kc_Lost : PySem.W.keepIn K (.ref a_Lost) = true
  ec_Lost : L2.ExcC K a_Lost
  ve_Lost : PySem.W.kitOne K (.ref a_Lost) (.type "ValueError") = some true
  o_Lost : L2.OexC K a_Lost
  i_Lost : PySem.W.findIn K (.ref a_Lost) "__init__" = some (some (.ref a_Lost___init__))
  t_Lost : PySem.W.typeIn K (.ref a_Lost___init__) = some (.type "function")
  xf_Lost : L2.XfC K a_Lost
  no_Lost_place : PySem.W.findIn K (.ref a_Lost) "place" = some none
  kit_Lost_Lost : PySem.W.kitOne K (.ref a_Lost) (.ref a_Lost) = some true
  exs_Lost : PySem.W.exmOne K (.ref a_Lost) (.ref a_Lost) = some true
  t_MANY : Tok
  g_MANY : mg "MANY" = some (.int 4294967296 t_MANY)
  n_bool : mg "bool" = none
  n_dict : mg "dict" = none
  n_int : mg "int" = none
  n_isinstance : mg "isinstance" = none
  n_len : mg "len" = none
  n_list : mg "list" = none
  n_range : mg "range" = none
  n_tuple : mg "tuple" = none
section
variable {P : Program} {w : World} {K : PySem.W.Frag} {mg : Str → Option Value} {base : Heap}
/-! ### wrapped -/
def sp_wrapped : Sp := fun vs H Q _ => ∃ n : Int, vs = [.int n] ∧ Q (.int (n % 4294967296)) H
theorem use_wrapped {n : Int} {H : Hp} {Q : VK} {E : XK} (z : Q (.int (n % 4294967296)) H) : sp_wrapped [.int n] H Q E := ⟨n, rfl, z⟩
local macro_rules | `(tactic| walk_at "s") => `(tactic| (with_reducible refine use_wrapped ?_))
theorem ok_wrapped (T : Txt K mg) : FnOk P w K mg base CX0 1 T.a_wrapped T.d_wrapped ["number"] (sp_wrapped) := by
  refine T.F_wrapped.ok sc_wrapped (fun vs H Q E h => ?_) (fun cdv A outer s H vs Q E hr h => ?_)
  · obtain ⟨n, rfl, k⟩ := h
    rfl
  · obtain ⟨n, rfl, k⟩ := h
    have hu := hu_of hr
    refine ⟨_, (pss_one (ps_ret (pe_op op_mod (pv 0) (pe_glob (v := .int 4294967296) rfl T.g_MANY ⟨_, rfl⟩)))), ?_⟩
    show (_ : TS) _ [some (.int n)] H
    walk_at "w"
    exact k
/-! ### field -/
def sp_field : Sp := fun vs H Q _ => ∃ (w l m : Int), vs = [.int w, .int l, .int m] ∧ 0 ≤ l ∧ l ≤ 64 ∧ 0 ≤ m ∧ m ≤ 64 ∧ Q (.int (w / 2 ^ l.toNat % 2 ^ m.toNat)) H
theorem use_field {w l m : Int} {H : Hp} {Q : VK} {E : XK} (h1 : 0 ≤ l) (h2 : l ≤ 64) (h3 : 0 ≤ m) (h4 : m ≤ 64) (z : Q (.int (w / 2 ^ l.toNat % 2 ^ m.toNat)) H) : sp_field [.int w, .int l, .int m] H Q E := ⟨w, l, m, rfl, h1, h2, h3, h4, z⟩
local macro_rules | `(tactic| walk_at "s") => `(tactic| ((focus (with_reducible refine use_field ?_ ?_ ?_ ?_ ?_; (focus (omega)); (focus (omega)); (focus (omega)); (focus (omega))))))
theorem ok_field (T : Txt K mg) : FnOk P w K mg base CX0 1 T.a_field T.d_field ["word", "low", "many"] (sp_field) := by
  refine T.F_field.ok sc_field (fun vs H Q E h => ?_) (fun cdv A outer s H vs Q E hr h => ?_)
  · obtain ⟨w, l, m, rfl, h1, h2, h3, h4, k⟩ := h
    rfl
  · obtain ⟨w, l, m, rfl, h1, h2, h3, h4, k⟩ := h
    have hu := hu_of hr
    refine ⟨_, (pss_one (ps_ret (pe_op op_and (pe_op op_shr (pv 0) (pv 1)) (pe_op op_sub (pe_op op_shlW pe_int (pv 2)) pe_int)))), ?_⟩
    show (_ : TS) _ [some (.int w), some (.int l), some (.int m)] H
    walk_at "w"
    refine Jl.s_I (Jl.shl_ok 1 (by decide) h3 (by omega) (by omega)) ?_
    walk_at "w"
    rw [Int.one_mul, Jl.and_mask]
    exact k
/-! ### signed -/
def sp_signed : Sp := fun vs H Q _ => ∃ (n m : Int), vs = [.int n, .int m] ∧ 1 ≤ m ∧ m ≤ 64 ∧ Q (.int (Jl.sgn n m.toNat)) H
theorem use_signed {n m : Int} {H : Hp} {Q : VK} {E : XK} (h1 : 1 ≤ m) (h2 : m ≤ 64) (z : Q (.int (Jl.sgn n m.toNat)) H) : sp_signed [.int n, .int m] H Q E := ⟨n, m, rfl, h1, h2, z⟩
local macro_rules | `(tactic| walk_at "s") => `(tactic| ((focus (with_reducible refine use_signed ?_ ?_ ?_; (focus (omega)); (focus (omega))))))
theorem ok_signed (T : Txt K mg) : FnOk P w K mg base CX0 1 T.a_signed T.d_signed ["number", "many"] (sp_signed) := by
  refine T.F_signed.ok sc_signed (fun vs H Q E h => ?_) (fun cdv A outer s H vs Q E hr h => ?_)
  · obtain ⟨n, m, rfl, h1, h2, k⟩ := h
    rfl
  · obtain ⟨n, m, rfl, h1, h2, k⟩ := h
    have hu := hu_of hr
    refine ⟨_, (pss_cons (ps_set (i := 2) sc_signed.nd rfl (Or.inl rfl) (pe_op op_shlW pe_int (pe_op op_sub (pv 1) pe_int)))
      (pss_one (ps_ret (pe_op op_sub (pe_op op_mod (pe_op op_add (pv 0) (pv 2)) (pe_op op_shlW (pv 2) pe_int)) (pv 2))))), ?_⟩
    show (_ : TS) _ [some (.int n), some (.int m), none] H
    walk_at "w"
    refine Jl.s_I (Jl.shl_ok 1 (by decide) (by omega) (by omega) (by omega)) ?_
    rw [Int.one_mul, show (m - 1).toNat = m.toNat - 1 by omega]
    walk_at "w"
    have hp := Jl.two_pow_pos (m.toNat - 1)
    refine Jl.s_I (Jl.shl_ok 100 (Jl.pow_lt' (by omega)) (by decide) (by decide) (by decide)) ?_
    refine Jl.s_I (show (0 : Int) < 2 ^ (m.toNat - 1) * 2 by omega) ?_
    walk_at "w"
    exact k
/-! ### turned -/
def sp_turned : Sp := fun vs H Q _ => ∃ w b : Int, vs = [.int w, .int b] ∧ 0 ≤ w ∧ w < 4294967296 ∧ Q (.int (Jl.turnI w b)) H
theorem use_turned {w b : Int} {H : Hp} {Q : VK} {E : XK} (h1 : 0 ≤ w) (h2 : w < 4294967296) (z : Q (.int (Jl.turnI w b)) H) : sp_turned [.int w, .int b] H Q E := ⟨w, b, rfl, h1, h2, z⟩
local macro_rules | `(tactic| walk_at "s") => `(tactic| ((focus (with_reducible refine use_turned ?_ ?_ ?_; (focus (omega)); (focus (omega))))))
theorem ok_turned (T : Txt K mg) : FnOk P w K mg base CX0 2 T.a_turned T.d_turned ["word", "by"] (sp_turned) := by
  have G_wrapped := ok_wrapped (P := P) (w := w) (base := base) T
  refine T.F_turned.ok sc_turned (fun vs H Q E h => ?_) (fun cdv A outer s H vs Q E hr h => ?_)
  · obtain ⟨w, b, rfl, h1, h2, k⟩ := h
    rfl
  · obtain ⟨w, b, rfl, h1, h2, k⟩ := h
    have hu := hu_of hr
    refine ⟨_, (pss_cons (ps_set (i := 2) sc_turned.nd rfl (Or.inl rfl) (pe_op op_mod (pv 1) pe_int))
      (pss_one (ps_ret (pe_call (G_wrapped) (hr.mono (by decide)) rfl T.m_wrapped T.F_wrapped.kp T.b_wrapped .nil pass0 (pa_cons (pe_op op_or (pe_op op_shr (pv 0) (pv 2)) (pe_op op_shlW (pv 0) (pe_op op_sub pe_int (pv 2)))) pa_nil))))), ?_⟩
    show (_ : TS) _ [some (.int w), some (.int b), none] H
    walk_at "w"
    refine Jl.s_I (Jl.shl_ok 32 (by omega) (by omega) (by omega) (by decide)) ?_
    walk_at "w"
    have hm : b % 32 = ((b % 32).toNat : Int) := by omega
    unfold Jl.turnI at k
    generalize (b % 32).toNat = m at *
    rw [hm, show (32 - (m : Int)).toNat = 32 - m by omega]
    have ha : 0 ≤ w / 2 ^ m ∧ w / 2 ^ m < 2 ^ (32 - m) := Jl.div_lt_pow h1 (by rw [show m + (32 - m) = 32 by omega]; exact h2)
    rw [_root_.Bits.bitOr_join ha.1 ha.2 h1]
    exact k
/-! ### parts_of -/
def sp_parts_of : Sp := fun vs H Q _ => ∃ w : Int, vs = [.int w] ∧ ∀ p H', Same H H' → H p = none → H' p = some (.tup [.int (Jl.opI w), .int (Jl.fA w), .int (Jl.fB w), .int (Jl.fC w), .int (Jl.fN w)]) → Q (.ref p) H'
theorem use_parts_of {w : Int} {H : Hp} {Q : VK} {E : XK} (z : ∀ p H', Same H H' → H p = none → H' p = some (.tup [.int (Jl.opI w), .int (Jl.fA w), .int (Jl.fB w), .int (Jl.fC w), .int (Jl.fN w)]) → Q (.ref p) H') : sp_parts_of [.int w] H Q E := ⟨w, rfl, z⟩
local macro_rules | `(tactic| walk_at "s") => `(tactic| (with_reducible refine use_parts_of (fun p H' s1 np hp => ?_)))
theorem ok_parts_of (T : Txt K mg) : FnOk P w K mg base CX0 2 T.a_parts_of T.d_parts_of ["word"] (sp_parts_of) := by
  have G_field := ok_field (P := P) (w := w) (base := base) T
  refine T.F_parts_of.ok sc_parts_of (fun vs H Q E h => ?_) (fun cdv A outer s H vs Q E hr h => ?_)
  · obtain ⟨w, rfl, k⟩ := h
    rfl
  · obtain ⟨w, rfl, k⟩ := h
    have hu := hu_of hr
    refine ⟨_, (pss_one (ps_ret (pe_tup (pa_cons (pe_call (G_field) (hr.mono (by decide)) rfl T.m_field T.F_field.kp T.b_field .nil pass0 (pa_cons (pv 0) (pa_cons pe_int (pa_cons pe_int pa_nil)))) (pa_cons (pe_call (G_field) (hr.mono (by decide)) rfl T.m_field T.F_field.kp T.b_field .nil pass0 (pa_cons (pv 0) (pa_cons pe_int (pa_cons pe_int pa_nil)))) (pa_cons (pe_call (G_field) (hr.mono (by decide)) rfl T.m_field T.F_field.kp T.b_field .nil pass0 (pa_cons (pv 0) (pa_cons pe_int (pa_cons pe_int pa_nil)))) (pa_cons (pe_call (G_field) (hr.mono (by decide)) rfl T.m_field T.F_field.kp T.b_field .nil pass0 (pa_cons (pv 0) (pa_cons pe_int (pa_cons pe_int pa_nil)))) (pa_cons (pe_call (G_field) (hr.mono (by decide)) rfl T.m_field T.F_field.kp T.b_field .nil pass0 (pa_cons (pv 0) (pa_cons pe_int (pa_cons pe_int pa_nil)))) pa_nil)))))))), ?_⟩
    show (_ : TS) _ [some (.int w)] H
    walk_at "w"
    refine ⟨(by show 5 ≤ sizeLine; decide), fun p np => ?_⟩
    refine k p _ (Jl.same_upd np) np ?_
    rw [upd_same, Jl.f0_16]
    rfl
/-! ### near_of -/
def sp_near_of : Sp := fun vs H Q _ => ∃ (w : Int), vs = [.int w] ∧ Q (.int (Jl.nearI w)) H
theorem use_near_of {w : Int} {H : Hp} {Q : VK} {E : XK} (z : Q (.int (Jl.nearI w)) H) : sp_near_of [.int w] H Q E := ⟨w, rfl, z⟩
local macro_rules | `(tactic| walk_at "s") => `(tactic| (with_reducible refine use_near_of ?_))
theorem ok_near_of (T : Txt K mg) : FnOk P w K mg base CX0 2 T.a_near_of T.d_near_of ["word"] (sp_near_of) := by
  have G_signed := ok_signed (P := P) (w := w) (base := base) T
  refine T.F_near_of.ok sc_near_of (fun vs H Q E h => ?_) (fun cdv A outer s H vs Q E hr h => ?_)
  · obtain ⟨w, rfl, k⟩ := h
    rfl
  · obtain ⟨w, rfl, k⟩ := h
    have hu := hu_of hr
    refine ⟨_, (pss_one (ps_ret (pe_call (G_signed) (hr.mono (by decide)) rfl T.m_signed T.F_signed.kp T.b_signed .nil pass0 (pa_cons (pv 0) (pa_cons pe_int pa_nil))))), ?_⟩
    show (_ : TS) _ [some (.int w)] H
    walk_at "w"
    exact k
/-! ### split_of -/
def sp_split_of : Sp := fun vs H Q _ => ∃ (w : Int), vs = [.int w] ∧ Q (.int (Jl.splitI w)) H
theorem use_split_of {w : Int} {H : Hp} {Q : VK} {E : XK} (z : Q (.int (Jl.splitI w)) H) : sp_split_of [.int w] H Q E := ⟨w, rfl, z⟩
local macro_rules | `(tactic| walk_at "s") => `(tactic| (with_reducible refine use_split_of ?_))
theorem ok_split_of (T : Txt K mg) : FnOk P w K mg base CX0 2 T.a_split_of T.d_split_of ["word"] (sp_split_of) := by
  have G_field := ok_field (P := P) (w := w) (base := base) T
  have G_signed := ok_signed (P := P) (w := w) (base := base) T
  refine T.F_split_of.ok sc_split_of (fun vs H Q E h => ?_) (fun cdv A outer s H vs Q E hr h => ?_)
  · obtain ⟨w, rfl, k⟩ := h
    rfl
  · obtain ⟨w, rfl, k⟩ := h
    have hu := hu_of hr
    refine ⟨_, (pss_one (ps_ret (pe_call (G_signed) (hr.mono (by decide)) rfl T.m_signed T.F_signed.kp T.b_signed .nil pass0 (pa_cons (pe_op op_add (pe_call (G_field) (hr.mono (by decide)) rfl T.m_field T.F_field.kp T.b_field .nil pass0 (pa_cons (pv 0) (pa_cons pe_int (pa_cons pe_int pa_nil)))) (pe_op op_mul pe_int (pe_call (G_field) (hr.mono (by decide)) rfl T.m_field T.F_field.kp T.b_field .nil pass0 (pa_cons (pv 0) (pa_cons pe_int (pa_cons pe_int pa_nil)))))) (pa_cons pe_int pa_nil))))), ?_⟩
    show (_ : TS) _ [some (.int w)] H
    walk_at "w"
    rw [Jl.sgn_12, Jl.f0_7, Jl.f14_5]
    exact k
/-! ### reckoned -/
def sp_reckoned : Sp := fun vs H Q _ => ∃ op l r n : Int, vs = [.int op, .int l, .int r, .int n] ∧ (op = 2 ∨ op = 3 ∨ op = 4 ∨ op = 7 ∨ op = 8 ∨ op = 9 ∨ op = 10 ∨ op = 11) ∧ 0 ≤ l ∧ l < 4294967296 ∧ Q (.int (Jl.reckI op l r n)) H
theorem use_reckoned {op l r n : Int} {H : Hp} {Q : VK} {E : XK} (ho : op = 2 ∨ op = 3 ∨ op = 4 ∨ op = 7 ∨ op = 8 ∨ op = 9 ∨ op = 10 ∨ op = 11) (h1 : 0 ≤ l) (h2 : l < 4294967296) (z : Q (.int (Jl.reckI op l r n)) H) : sp_reckoned [.int op, .int l, .int r, .int n] H Q E := ⟨op, l, r, n, rfl, ho, h1, h2, z⟩
local macro_rules | `(tactic| walk_at "s") => `(tactic| ((focus (with_reducible refine use_reckoned ?_ ?_ ?_ ?_; (focus (omega)); (focus (omega)); (focus (omega))))))
theorem ok_reckoned (T : Txt K mg) : FnOk P w K mg base CX0 3 T.a_reckoned T.d_reckoned ["op", "left", "right", "number"] (sp_reckoned) := by
  have G_wrapped := ok_wrapped (P := P) (w := w) (base := base) T
  have G_signed := ok_signed (P := P) (w := w) (base := base) T
  have G_turned := ok_turned (P := P) (w := w) (base := base) T
  refine T.F_reckoned.ok sc_reckoned (fun vs H Q E h => ?_) (fun cdv A outer s H vs Q E hr h => ?_)
  · obtain ⟨op, l, r, n, rfl, ho, h1, h2, k⟩ := h
    rfl
  · obtain ⟨op, l, r, n, rfl, ho, h1, h2, k⟩ := h
    have hu := hu_of hr
    refine ⟨_, (pss_cons (ps_if (pt_cmpR op_eq (pv 0) pe_int (nomark _)) (pss_one (ps_ret (pv 3))) pss_nil)
      (pss_cons (ps_if (pt_cmpR op_eq (pv 0) pe_int (nomark _)) (pss_one (ps_ret (pe_op op_mul pe_int (pv 3)))) pss_nil)
      (pss_cons (ps_if (pt_cmpR op_eq (pv 0) pe_int (nomark _)) (pss_one (ps_ret (pe_call (G_wrapped) (hr.mono (by decide)) rfl T.m_wrapped T.F_wrapped.kp T.b_wrapped .nil pass0 (pa_cons (pe_op op_add (pv 1) (pe_call (G_signed) (hr.mono (by decide)) rfl T.m_signed T.F_signed.kp T.b_signed .nil pass0 (pa_cons (pv 3) (pa_cons pe_int pa_nil)))) pa_nil)))) pss_nil)
      (pss_cons (ps_if (pt_cmpR op_eq (pv 0) pe_int (nomark _)) (pss_one (ps_ret (pe_call (G_wrapped) (hr.mono (by decide)) rfl T.m_wrapped T.F_wrapped.kp T.b_wrapped .nil pass0 (pa_cons (pe_op op_add (pv 1) (pv 2)) pa_nil)))) pss_nil)
      (pss_cons (ps_if (pt_cmpR op_eq (pv 0) pe_int (nomark _)) (pss_one (ps_ret (pe_call (G_wrapped) (hr.mono (by decide)) rfl T.m_wrapped T.F_wrapped.kp T.b_wrapped .nil pass0 (pa_cons (pe_op op_sub (pv 1) (pv 2)) pa_nil)))) pss_nil)
      (pss_cons (ps_if (pt_cmpR op_eq (pv 0) pe_int (nomark _)) (pss_one (ps_ret (pe_op op_and (pv 1) (pv 2)))) pss_nil)
      (pss_cons (ps_if (pt_cmpR op_eq (pv 0) pe_int (nomark _)) (pss_one (ps_ret (pe_op op_xor (pv 1) (pv 2)))) pss_nil)
      (pss_cons (ps_if (pt_cmpR op_eq (pv 0) pe_int (nomark _)) (pss_one (ps_ret (pe_call (G_turned) (hr.mono (by decide)) rfl T.m_turned T.F_turned.kp T.b_turned .nil pass0 (pa_cons (pv 1) (pa_cons (pv 2) pa_nil))))) pss_nil)
      (pss_one (ps_ret pe_non)))))))))), ?_⟩
    show (_ : TS) _ [some (.int op), some (.int l), some (.int r), some (.int n)] H
    rcases ho with rfl | rfl | rfl | rfl | rfl | rfl | rfl | rfl
    all_goals (walk_at "wd"; exact k)
/-! ### Lost.__init__ -/
def sp_Lost___init__ (T : Txt K mg) : Sp := fun vs H Q _ => ∃ (a : Addr) (v : V), vs = [.ref a, v] ∧ H a = some (L2.exo a T.a_Lost none) ∧ ∀ dx, H dx = none → dx ≠ a → Q .non (upd (upd H dx (L2.exd dx [("place", v)])) a (L2.exo a T.a_Lost (some dx)))
theorem ok_Lost___init__ (T : Txt K mg) : FnOk P w K mg base CX0 1 T.a_Lost___init__ T.d_Lost___init__ ["self", "place"] (sp_Lost___init__ T) := by
  refine T.F_Lost___init__.ok sc_Lost___init__ (fun vs H Q E h => ?_) (fun cdv A outer s H vs Q E hr h => ?_)
  · obtain ⟨a, v, rfl, h, k⟩ := h
    rfl
  · obtain ⟨a, v, rfl, h, k⟩ := h
    have hu := hu_of hr
    refine ⟨_, (pss_one (ps_ost (pv 0) (pv 1))), ?_⟩
    show (_ : TS) _ [some (.ref a), some (v)] H
    refine Jl.s_ost (fun R z => Jl.s_var (by with_unfolding_all rfl) z) (fun R z => Jl.s_var (by with_unfolding_all rfl) z) T.o_Lost T.no_Lost_place h (fun dx nd ne => ?_)
    exact k dx nd ne
/-! ### Machine.__init__ -/
def sp_Machine___init__ (T : Txt K mg) : Sp := fun vs H Q _ => ∃ (p dx m0 r0 : Addr) (st : Int) (kvs : List (Key × V)) (regs : List Int), vs = [.ref p, .ref m0, .int st, .ref r0] ∧ H p = some (.ins T.a_Machine dx []) ∧ H m0 = some (.dK kvs) ∧ SqL K H r0 (regs.map V.int) ∧ (∀ m r o H', H m = none → H r = none → H o = none → m ≠ r → m ≠ o → r ≠ o → (∀ b v, H b = some v → b ≠ p → H' b = some v) → H' p = some (.ins T.a_Machine dx (Jl.mf (.ref m) (.int st) (.ref r) (.ref o) (.bl false))) → H' m = some (.dK kvs) → H' r = some (.lst (regs.map V.int)) → H' o = some (.lst []) → Q .non H')
theorem make_machine {T : Txt K mg} {H : Hp} {m0 r0 : Addr} {st : Int} {kvs : List (Key × V)} {regs : List Int} {Q : Addr → Hp → Prop} {E : XK} (f : Int → Option Int) (h1 : H m0 = some (.dK kvs)) (h2 : SqL K H r0 (regs.map V.int)) (hl : kvs.length ≤ 100000) (hk : ∀ a : Int, valV kvs (Sum.inl a : Key) = (f a).map V.int)
    (z : ∀ p dx m r o H', Same H H' → H p = none → H m = none → H r = none → H o = none → Jl.MachAt T.a_Machine H' p dx m r o ⟨f, st, regs, [], false⟩ → Q p H') :
    ∀ x dx, H x = none → H dx = none → dx ≠ x → sp_Machine___init__ T [.ref x, .ref m0, .int st, .ref r0] (upd (upd H dx (.own x)) x (.ins T.a_Machine dx [])) (fun v H2 => v = .non ∧ Q x H2) E := by
  intro x dx nx nd ne
  have e0 : Same H (upd (upd H dx (.own x)) x (.ins T.a_Machine dx [])) := fun b u h => by
    rw [upd_ne (ne_of_none h nx), upd_ne (ne_of_none h nd)]; exact h
  refine ⟨x, dx, m0, r0, st, kvs, regs, rfl, upd_same, e0 _ _ h1, e0.seq h2, fun m r o H' nm nr no hmr hmo hro hb hp hm hr ho => ⟨rfl, ?_⟩⟩
  refine z x dx m r o H' (fun b u h => hb b u (e0 b u h) (ne_of_none h nx)) nx (e0.free nm) (e0.free nr) (e0.free no) ⟨hp, ⟨kvs, hm, hl, hk⟩, hr, ho, hro⟩
theorem ok_Machine___init__ (T : Txt K mg) : FnOk P w K mg base CX0 1 T.a_Machine___init__ T.d_Machine___init__ ["self", "memory", "start", "registers"] (sp_Machine___init__ T) := by
  refine T.F_Machine___init__.ok sc_Machine___init__ (fun vs H Q E h => ?_) (fun cdv A outer s H vs Q E hr h => ?_)
  · obtain ⟨p, dx, m0, r0, st, kvs, regs, rfl, hp, hm, hr0, k⟩ := h
    rfl
  · obtain ⟨p, dx, m0, r0, st, kvs, regs, rfl, hp, hm, hr0, k⟩ := h
    have hu := hu_of hr
    refine ⟨_, (pss_cons (ps_fld (pv 0) (pe_callTy Jl.cl_dictD (by rfl) T.n_dict (by decide +kernel) (pa_cons (pv 1) pa_nil)) rfl)
      (pss_cons (ps_fld (pv 0) (pv 2) rfl)
      (pss_cons (ps_fld (pv 0) (pe_callTy (r := Jl.rListO K) Jl.cl_listO (by rfl) T.n_list (by decide +kernel) (pa_cons (pv 3) pa_nil)) rfl)
      (pss_cons (ps_fld (pv 0) (pe_lst pa_nil) rfl)
      (pss_one (ps_fld (pv 0) pe_bl rfl)))))), ?_⟩
    show (_ : TS) _ [some (.ref p), some (.ref m0), some (.int st), some (.ref r0)] H
    refine Jl.s_seq (Jl.s_sFld ?_)
    walk_at "w"
    refine Jl.s_dictD hm (fun m nm => ?_)
    walk_at "w"
    have npm : p ≠ m := ne_of_none hp nm
    refine Jl.s_setF (by rw [upd_ne npm]; exact hp) T.c_Machine T.na_Machine_memory (by show 0 < 1000; decide) ?_
    refine Jl.s_seq (Jl.s_sFld ?_)
    walk_at "w"
    refine Jl.s_setF upd_same T.c_Machine T.na_Machine_spot (by show 1 < 1000; decide) ?_
    refine Jl.s_seq (Jl.s_sFld ?_)
    walk_at "w"
    have B2 := (((Jl.But.refl H p).new (o := .dK kvs) nm).at (o := .ins T.a_Machine dx (putF "memory" (.ref m) []))).at (o := .ins T.a_Machine dx (putF "spot" (.int st) (putF "memory" (.ref m) [])))
    refine Jl.s_listO (B2.sq hp hr0) (fun r nr => ?_)
    walk_at "w"
    have nr0 := B2.free hp ⟨_, upd_same⟩ nr
    have npr : p ≠ r := ne_of_none hp nr0
    have nmr : m ≠ r := fun z => by
      subst z
      rw [upd_ne npm.symm, upd_ne npm.symm, upd_same] at nr; cases nr
    refine Jl.s_setF (by rw [upd_ne npr]; exact upd_same) T.c_Machine T.na_Machine_registers (Jl.lp (Jl.lp1 (Jl.lp1 Jl.nil0)) (by decide)) ?_
    refine Jl.s_seq (Jl.s_sFld ?_)
    walk_at "w"
    refine ⟨by decide, fun o no => ?_⟩
    walk_at "w"
    have B3 := (B2.new (o := .lst (regs.map V.int)) nr0).at (o := .ins T.a_Machine dx (putF "registers" (.ref r) (putF "spot" (.int st) (putF "memory" (.ref m) []))))
    have no0 := B3.free hp ⟨_, upd_same⟩ no
    have npo : p ≠ o := ne_of_none hp no0
    have nro : r ≠ o := fun z => by
      subst z
      rw [upd_ne npr.symm, upd_same] at no; cases no
    have nmo : m ≠ o := fun z => by
      subst z
      rw [upd_ne npo.symm, upd_ne nmr, upd_ne npo.symm, upd_ne npo.symm, upd_same] at no; cases no
    refine Jl.s_setF (by rw [upd_ne npo]; exact upd_same) T.c_Machine T.na_Machine_outputs (Jl.lp (Jl.lp1 (Jl.lp1 (Jl.lp1 Jl.nil0))) (by decide)) ?_
    refine Jl.s_sFld ?_
    walk_at "w"
    refine ⟨p, T.a_Machine, dx, _, rfl, upd_same, T.c_Machine, T.na_Machine_ended, (Jl.lp (Jl.lp1 (Jl.lp1 (Jl.lp1 (Jl.lp1 Jl.nil0)))) (by decide)), ?_⟩
    refine k m r o _ nm nr0 no0 nmr nmo nro ?_ ?_ ?_ ?_ ?_
    · exact ((B3.new (o := .lst []) no0).at).at
    · exact upd_same
    · rw [upd_ne npm.symm, upd_ne npm.symm, upd_ne nmo, upd_ne npm.symm, upd_ne nmr, upd_ne npm.symm, upd_ne npm.symm, upd_same]
    · rw [upd_ne npr.symm, upd_ne npr.symm, upd_ne nro, upd_ne npr.symm, upd_same]
    · rw [upd_ne npo.symm, upd_ne npo.symm, upd_same]
/-! ### Machine.word_needed -/
/-- the machine can not go on: at pl no word stands -/
def LackI (s : Jl.MSt) (pl : Int) : Prop := s.fin = false ∧ ((s.mem s.spot = none ∧ pl = s.spot) ∨ ∃ w, s.mem s.spot = some w ∧ s.regs.length = 8 ∧ (Jl.opI w = 5 ∨ Jl.opI w = 6) ∧ s.mem (Jl.thereI s w) = none ∧ pl = Jl.thereI s w)

def sp_Machine_word_needed (T : Txt K mg) : Sp := fun vs H Q E => ∃ (p dx m r o : Addr) (s : Jl.MSt) (a : Int), vs = [.ref p, .int a] ∧ Jl.MachAt T.a_Machine H p dx m r o s ∧ ((∃ w, s.mem a = some w ∧ Q (.int w) H) ∨ (s.mem a = none ∧ ∀ d, H d = none → E (.ref T.a_Lost) (some d) (upd H d (.xd [("place", .int a)]))))
theorem use_word_needed {T : Txt K mg} {p dx m r o : Addr} {s : Jl.MSt} {a w : Int} {H : Hp} {Q : VK} {E : XK} (M : Jl.MachAt T.a_Machine H p dx m r o s) (ha : s.mem a = some w) (z : Q (.int w) H) : sp_Machine_word_needed T [.ref p, .int a] H Q E := ⟨p, dx, m, r, o, s, a, rfl, M, .inl ⟨w, ha, z⟩⟩
theorem use_word_lost {T : Txt K mg} {p dx m r o : Addr} {s : Jl.MSt} {a : Int} {H : Hp} {Q : VK} {E : XK} (M : Jl.MachAt T.a_Machine H p dx m r o s) (ha : s.mem a = none) (z : ∀ d, H d = none → E (.ref T.a_Lost) (some d) (upd H d (.xd [("place", .int a)]))) : sp_Machine_word_needed T [.ref p, .int a] H Q E := ⟨p, dx, m, r, o, s, a, rfl, M, .inr ⟨ha, z⟩⟩
theorem ok_Machine_word_needed (T : Txt K mg) : FnOk P w K mg base (L2.CX P w) 3 T.a_Machine_word_needed T.d_Machine_word_needed ["self", "place"] (sp_Machine_word_needed T) := by
  have G_Lost___init__ := ok_Lost___init__ (P := P) (w := w) (base := base) T
  refine T.F_Machine_word_needed.okX sc_Machine_word_needed (fun vs H Q E h => ?_) (fun cdv A outer s H vs Q E hr h => ?_)
  · obtain ⟨p, dx, m, r, o, s, a, rfl, M, k⟩ := h
    rfl
  · obtain ⟨p, dx, m, r, o, s, a, rfl, M, k⟩ := h
    have hu := hu_of hr
    refine ⟨_, (pss_cons (ps_if (pt_cmp (pc_dnotin hu (pv 1) (pe_fld (pv 0) rfl))) (pss_one (ps_raise rfl (takes_of rfl rfl rfl rfl) (pmk_oex T.o_Lost T.i_Lost T.t_Lost G_Lost___init__ (hr.mono (by decide)) T.b_Lost___init__ .nil pass0 rfl T.g_Lost (pa_cons (pv 1) pa_nil)))) pss_nil)
      (pss_one (ps_ret (pe_dget hu (pe_fld (pv 0) rfl) (pv 1) (fun _ _ => rfl))))), ?_⟩
    show (_ : TS) _ [some (.ref p), some (.int a)] H
    rcases k with ⟨w, ha, k⟩ | ⟨ha, k⟩
    · obtain ⟨kvs, hm, hl, hk⟩ := M.dc
      have hka : valV kvs (Jl.kI a) = some (.int w) := by rw [show valV kvs (Jl.kI a) = _ from hk a, ha]; rfl
      walk_at "w"
      refine Jl.s_dnotin ?_
      walk_at "w"
      refine Jl.s_fld (fun R z => Jl.s_var (by with_unfolding_all rfl) z) M.ob T.c_Machine T.na_Machine_memory (Jl.mf_memory _ _ _ _ _) ?_
      refine ⟨m, _, rfl, DGet.k (k := Jl.kI a) hm, ?_⟩
      rw [hka]
      simp only [Option.isSome_some]
      walk_at "w"
      refine Jl.s_dgetR ?_
      refine Jl.s_fld (fun R z => Jl.s_var (by with_unfolding_all rfl) z) M.ob T.c_Machine T.na_Machine_memory (Jl.mf_memory _ _ _ _ _) ?_
      walk_at "w"
      refine ⟨m, .int w, rfl, ?_, k⟩
      have := DGet.k (k := Jl.kI a) hm
      rw [hka] at this
      exact this
    · obtain ⟨kvs, hm, hl, hk⟩ := M.dc
      have hka : valV kvs (Jl.kI a) = none := by rw [show valV kvs (Jl.kI a) = _ from hk a, ha]; rfl
      walk_at "w"
      refine Jl.s_dnotin ?_
      walk_at "w"
      refine Jl.s_fld (fun R z => Jl.s_var (by with_unfolding_all rfl) z) M.ob T.c_Machine T.na_Machine_memory (Jl.mf_memory _ _ _ _ _) ?_
      refine ⟨m, _, rfl, DGet.k (k := Jl.kI a) hm, ?_⟩
      rw [hka]
      simp only [Option.isSome_none]
      walk_at "w"
      refine Jl.s_mkO (fun R z => ?_) (fun x H' Q' hx hq => ⟨x, .int a, rfl, hx, hq⟩) k
      walk_at "w"
      exact z
/-! ### Machine.put_at -/
def sp_Machine_put_at (T : Txt K mg) : Sp := fun vs H Q E => ∃ (p dx m r o : Addr) (s : Jl.MSt) (a w : Int), vs = [.ref p, .int a, .int w] ∧ Jl.MachAt T.a_Machine H p dx m r o s ∧ ((∃ w0, s.mem a = some w0 ∧ ∀ H', Jl.MachAt T.a_Machine H' p dx m r o { s with mem := Jl.memPut s.mem a w } → (∀ b, b ≠ m → H' b = H b) → Q .non H') ∨ (s.mem a = none ∧ ∀ d, H d = none → E (.ref T.a_Lost) (some d) (upd H d (.xd [("place", .int a)]))))
theorem use_put_at {T : Txt K mg} {p dx m r o : Addr} {s : Jl.MSt} {a w w0 : Int} {H : Hp} {Q : VK} {E : XK} (M : Jl.MachAt T.a_Machine H p dx m r o s) (ha : s.mem a = some w0) (z : ∀ H', Jl.MachAt T.a_Machine H' p dx m r o { s with mem := Jl.memPut s.mem a w } → (∀ b, b ≠ m → H' b = H b) → Q .non H') : sp_Machine_put_at T [.ref p, .int a, .int w] H Q E := ⟨p, dx, m, r, o, s, a, w, rfl, M, .inl ⟨w0, ha, z⟩⟩
theorem use_put_lost {T : Txt K mg} {p dx m r o : Addr} {s : Jl.MSt} {a w : Int} {H : Hp} {Q : VK} {E : XK} (M : Jl.MachAt T.a_Machine H p dx m r o s) (ha : s.mem a = none) (z : ∀ d, H d = none → E (.ref T.a_Lost) (some d) (upd H d (.xd [("place", .int a)]))) : sp_Machine_put_at T [.ref p, .int a, .int w] H Q E := ⟨p, dx, m, r, o, s, a, w, rfl, M, .inr ⟨ha, z⟩⟩
theorem ok_Machine_put_at (T : Txt K mg) : FnOk P w K mg base (L2.CX P w) 4 T.a_Machine_put_at T.d_Machine_put_at ["self", "place", "word"] (sp_Machine_put_at T) := by
  have G_Machine_word_needed := ok_Machine_word_needed (P := P) (w := w) (base := base) T
  refine T.F_Machine_put_at.okX sc_Machine_put_at (fun vs H Q E h => ?_) (fun cdv A outer s H vs Q E hr h => ?_)
  · obtain ⟨p, dx, m, r, o, s, a, w, rfl, M, k⟩ := h
    rfl
  · obtain ⟨p, dx, m, r, o, s, a, w, rfl, M, k⟩ := h
    have hu := hu_of hr
    refine ⟨_, (pss_cons (ps_expr (Jl.pe_methX (pv 0) T.c_Machine T.me_Machine_word_needed (G_Machine_word_needed) (hr.mono (by decide)) T.b_Machine_word_needed (fun σ => passAt (takes_of rfl rfl rfl rfl) σ) (pa_cons (pv 1) pa_nil)))
      (pss_one (ps_dput hu (pe_fld (pv 0) rfl) (pv 1) (pv 2) rfl))), ?_⟩
    show (_ : TS) _ [some (.ref p), some (.int a), some (.int w)] H
    rcases k with ⟨w0, ha, k⟩ | ⟨ha, k⟩
    · obtain ⟨kvs, hm, hl, hk⟩ := M.dc
      have hka : valV kvs (Jl.kI a) = some (.int w0) := by rw [show valV kvs (Jl.kI a) = _ from hk a, ha]; rfl
      have npm : p ≠ m := ne_of M.ob hm (by intro z; cases z)
      have nrm : r ≠ m := ne_of M.rg hm (by intro z; cases z)
      have nom : o ≠ m := ne_of M.ou hm (by intro z; cases z)
      walk_at "w"
      first | refine Jl.s_methO (fun R z => Jl.s_var (by with_unfolding_all rfl) z) M.ob (Jl.mf_no _ _ _ _ _ (by decide +kernel) (by decide +kernel) (by decide +kernel) (by decide +kernel) (by decide +kernel)) ?_ | refine Jl.s_methX (fun R z => Jl.s_var (by with_unfolding_all rfl) z) M.ob (Jl.mf_no _ _ _ _ _ (by decide +kernel) (by decide +kernel) (by decide +kernel) (by decide +kernel) (by decide +kernel)) ?_
      walk_at "w"
      refine use_word_needed M ha ?_
      refine Jl.s_dput ?_
      walk_at "w"
      refine Jl.s_fld (fun R z => Jl.s_var (by with_unfolding_all rfl) z) M.ob T.c_Machine T.na_Machine_memory (Jl.mf_memory _ _ _ _ _) ?_
      walk_at "w"
      refine ⟨m, _, rfl, DPut.k (k := Jl.kI a) (v := .int w) hm (Jl.small5' hl), ?_⟩
      refine k _ ⟨by rw [upd_ne npm]; exact M.ob, ⟨_, upd_same, ?_, fun b => ?_⟩, by rw [upd_ne nrm]; exact M.rg, by rw [upd_ne nom]; exact M.ou, M.ne⟩ fun b hb => upd_ne hb
      · unfold putK
        rw [valV_any, hka, if_pos (show (some (V.int w0)).isSome = true from rfl), List.length_map]; exact hl
      · rw [valV_put]
        show _ = (Jl.memPut s.mem a w b).map V.int
        unfold Jl.memPut
        by_cases q : b = a
        · rw [if_pos (by rw [q]; rfl), if_pos q]; rfl
        · rw [if_neg (show ¬ (Sum.inl b : Key) = Jl.kI a from fun y => q (Sum.inl.inj y)), if_neg q]; exact hk b
    · walk_at "w"
      refine Jl.s_methX (fun R z => Jl.s_var (by with_unfolding_all rfl) z) M.ob (Jl.mf_no _ _ _ _ _ (by decide +kernel) (by decide +kernel) (by decide +kernel) (by decide +kernel) (by decide +kernel)) ?_
      walk_at "w"
      exact use_word_lost M ha k
/-! ### Machine.gone_to -/
def sp_Machine_gone_to (T : Txt K mg) : Sp := fun vs H Q _ => ∃ (p dx m r o : Addr) (s : Jl.MSt) (w : Int), vs = [.ref p, .int w] ∧ Jl.MachAt T.a_Machine H p dx m r o s ∧ s.regs.length = 8 ∧ ∀ H', Same H H' → Q (.int (Jl.goneI s w)) H'
theorem use_gone_to {T : Txt K mg} {p dx m r o : Addr} {s : Jl.MSt} {w : Int} {H : Hp} {Q : VK} {E : XK} (M : Jl.MachAt T.a_Machine H p dx m r o s) (h8 : s.regs.length = 8) (z : ∀ H', Same H H' → Q (.int (Jl.goneI s w)) H') : sp_Machine_gone_to T [.ref p, .int w] H Q E := ⟨p, dx, m, r, o, s, w, rfl, M, h8, z⟩
theorem ok_Machine_gone_to (T : Txt K mg) : FnOk P w K mg base CX0 3 T.a_Machine_gone_to T.d_Machine_gone_to ["self", "word"] (sp_Machine_gone_to T) := by
  have G_wrapped := ok_wrapped (P := P) (w := w) (base := base) T
  have G_parts_of := ok_parts_of (P := P) (w := w) (base := base) T
  have G_near_of := ok_near_of (P := P) (w := w) (base := base) T
  have G_split_of := ok_split_of (P := P) (w := w) (base := base) T
  refine T.F_Machine_gone_to.ok sc_Machine_gone_to (fun vs H Q E h => ?_) (fun cdv A outer s H vs Q E hr h => ?_)
  · obtain ⟨p, dx, m, r, o, s, w, rfl, M, h8, k⟩ := h
    rfl
  · obtain ⟨p, dx, m, r, o, s, w, rfl, M, h8, k⟩ := h
    have hu := hu_of hr
    refine ⟨_, (pss_cons (ps_asg (pe_call (G_parts_of) (hr.mono (by decide)) rfl T.m_parts_of T.F_parts_of.kp T.b_parts_of .nil pass0 (pa_cons (pv 1) pa_nil)) (pg_tup rfl (pgs_cons (pg_name (i := 2) sc_Machine_gone_to.nd rfl (Or.inl rfl)) (pgs_cons (pg_name (i := 3) sc_Machine_gone_to.nd rfl (Or.inl rfl)) (pgs_cons (pg_name (i := 4) sc_Machine_gone_to.nd rfl (Or.inl rfl)) (pgs_cons (pg_name (i := 5) sc_Machine_gone_to.nd rfl (Or.inl rfl)) (pgs_cons (pg_name (i := 6) sc_Machine_gone_to.nd rfl (Or.inl rfl)) pgs_nil)))))))
      (pss_cons (ps_set (i := 7) sc_Machine_gone_to.nd rfl (Or.inl rfl) (pe_ix (r := rIxL K) ix_list (pe_fld (pv 0) rfl) (pv 3) (fun _ _ => rfl)))
      (pss_cons (ps_set (i := 8) sc_Machine_gone_to.nd rfl (Or.inl rfl) (pe_ix (r := rIxL K) ix_list (pe_fld (pv 0) rfl) (pv 4) (fun _ _ => rfl)))
      (pss_cons (ps_if (pt_cmpR op_eq (pv 2) pe_int (nomark _)) (pss_one (ps_ret (pv 7))) pss_nil)
      (pss_cons (ps_if (pt_cmpR op_eq (pv 2) pe_int (nomark _)) (pss_one (ps_ret (pe_call (G_wrapped) (hr.mono (by decide)) rfl T.m_wrapped T.F_wrapped.kp T.b_wrapped .nil pass0 (pa_cons (pe_op op_add (pe_op op_add (pe_fld (pv 0) rfl) pe_int) (pe_call (G_near_of) (hr.mono (by decide)) rfl T.m_near_of T.F_near_of.kp T.b_near_of .nil pass0 (pa_cons (pv 1) pa_nil))) pa_nil)))) pss_nil)
      (pss_cons (ps_if (PW.pt (pw_or (PW.pt (pw_and (pt_cmpR op_eq (pv 2) pe_int (nomark _)) (pw_and1 (pt_cmpR op_eq (pv 7) (pv 8) (nomark _))))) (pw_or1 (PW.pt (pw_and (pt_cmpR op_eq (pv 2) pe_int (nomark _)) (pw_and1 (pt_cmpR op_lt (pv 7) (pv 8) (nomark _)))))))) (pss_one (ps_ret (pe_call (G_wrapped) (hr.mono (by decide)) rfl T.m_wrapped T.F_wrapped.kp T.b_wrapped .nil pass0 (pa_cons (pe_op op_add (pe_op op_add (pe_fld (pv 0) rfl) pe_int) (pe_call (G_split_of) (hr.mono (by decide)) rfl T.m_split_of T.F_split_of.kp T.b_split_of .nil pass0 (pa_cons (pv 1) pa_nil))) pa_nil)))) pss_nil)
      (pss_one (ps_ret (pe_call (G_wrapped) (hr.mono (by decide)) rfl T.m_wrapped T.F_wrapped.kp T.b_wrapped .nil pass0 (pa_cons (pe_op op_add (pe_fld (pv 0) rfl) pe_int) pa_nil)))))))))), ?_⟩
    show (_ : TS) _ [some (.ref p), some (.int w), none, none, none, none, none, none, none] H
    walk_at "w"
    rename_i q H1 s1 nq hq
    have M1 := M.same s1
    have a1 : 0 ≤ Jl.fA w ∧ Jl.fA w < 8 := by unfold Jl.fA; omega
    have b1 : 0 ≤ Jl.fB w ∧ Jl.fB w < 8 := by unfold Jl.fB; omega
    refine Jl.s_fld (fun R z => Jl.s_var (by with_unfolding_all rfl) z) M1.ob T.c_Machine T.na_Machine_registers (Jl.mf_registers _ _ _ _ _) ?_
    walk_at "w"
    refine Jl.s_ixL (.inl (.inl M1.rg)) (Jl.atI_reg h8 a1.1 a1.2) ?_
    walk_at "w"
    refine Jl.s_fld (fun R z => Jl.s_var (by with_unfolding_all rfl) z) M1.ob T.c_Machine T.na_Machine_registers (Jl.mf_registers _ _ _ _ _) ?_
    walk_at "w"
    refine Jl.s_ixL (.inl (.inl M1.rg)) (Jl.atI_reg h8 b1.1 b1.2) ?_
    have kk := k H1 s1
    unfold Jl.goneI Jl.nextI at kk
    repeat' (first | walk_at "s" | walk_at "d" | walk_at "b" | refine Jl.s_fld (fun R z => Jl.s_var (by with_unfolding_all rfl) z) M1.ob T.c_Machine T.na_Machine_spot (Jl.mf_spot _ _ _ _ _) ?_)
    all_goals
      refine Jl.fin_int kk ?_
      repeat' split
      all_goals first | rfl | omega
/-! ### Machine.go_on -/
def sp_Machine_go_on (T : Txt K mg) : Sp := fun vs H Q E => ∃ (p dx m r o : Addr) (s : Jl.MSt), vs = [.ref p] ∧ Jl.MachAt T.a_Machine H p dx m r o s ∧ ((∃ w, Jl.Goes s w ∧ ∀ H', Jl.Keep H H' p m r o → Jl.MachAt T.a_Machine H' p dx m r o (Jl.stepI s w) → Q (.bl true) H') ∨ (∃ pl, LackI s pl ∧ ∀ d H', Same H H' → H d = none → H' d = some (.xd [("place", .int pl)]) → E (.ref T.a_Lost) (some d) H') ∨ (s.fin = true ∧ Q (.bl false) H))
theorem use_go_on {T : Txt K mg} {p dx m r o : Addr} {s : Jl.MSt} {w : Int} {H : Hp} {Q : VK} {E : XK} (M : Jl.MachAt T.a_Machine H p dx m r o s) (G : Jl.Goes s w) (z : ∀ H', Jl.Keep H H' p m r o → Jl.MachAt T.a_Machine H' p dx m r o (Jl.stepI s w) → Q (.bl true) H') : sp_Machine_go_on T [.ref p] H Q E := ⟨p, dx, m, r, o, s, rfl, M, .inl ⟨w, G, z⟩⟩
theorem use_go_lost {T : Txt K mg} {p dx m r o : Addr} {s : Jl.MSt} {pl : Int} {H : Hp} {Q : VK} {E : XK} (M : Jl.MachAt T.a_Machine H p dx m r o s) (L : LackI s pl) (z : ∀ d H', Same H H' → H d = none → H' d = some (.xd [("place", .int pl)]) → E (.ref T.a_Lost) (some d) H') : sp_Machine_go_on T [.ref p] H Q E := ⟨p, dx, m, r, o, s, rfl, M, .inr (.inl ⟨pl, L, z⟩)⟩
theorem use_go_fin {T : Txt K mg} {p dx m r o : Addr} {s : Jl.MSt} {H : Hp} {Q : VK} {E : XK} (M : Jl.MachAt T.a_Machine H p dx m r o s) (G : s.fin = true) (z : Q (.bl false) H) : sp_Machine_go_on T [.ref p] H Q E := ⟨p, dx, m, r, o, s, rfl, M, .inr (.inr ⟨G, z⟩)⟩
theorem ok_Machine_go_on (T : Txt K mg) : FnOk P w K mg base (L2.CX P w) 5 T.a_Machine_go_on T.d_Machine_go_on ["self"] (sp_Machine_go_on T) := by
  have G_wrapped := ok_wrapped (P := P) (w := w) (base := base) T
  have G_signed := ok_signed (P := P) (w := w) (base := base) T
  have G_parts_of := ok_parts_of (P := P) (w := w) (base := base) T
  have G_reckoned := ok_reckoned (P := P) (w := w) (base := base) T
  have G_Machine_word_needed := ok_Machine_word_needed (P := P) (w := w) (base := base) T
  have G_Machine_put_at := ok_Machine_put_at (P := P) (w := w) (base := base) T
  have G_Machine_gone_to := ok_Machine_gone_to (P := P) (w := w) (base := base) T
  refine T.F_Machine_go_on.okX sc_Machine_go_on (fun vs H Q E h => ?_) (fun cdv A outer s H vs Q E hr h => ?_)
  · obtain ⟨p, dx, m, r, o, s, rfl, M, k⟩ := h
    rfl
  · obtain ⟨p, dx, m, r, o, s, rfl, M, k⟩ := h
    have hu := hu_of hr
    refine ⟨_, (pss_cons (ps_if (pt_val (pe_fld (pv 0) rfl)) (pss_one (ps_ret pe_bl)) pss_nil)
      (pss_cons (ps_set (i := 1) sc_Machine_go_on.nd rfl (Or.inl rfl) (Jl.pe_methX (pv 0) T.c_Machine T.me_Machine_word_needed (G_Machine_word_needed) (hr.mono (by decide)) T.b_Machine_word_needed (fun σ => passAt (takes_of rfl rfl rfl rfl) σ) (pa_cons (pe_fld (pv 0) rfl) pa_nil)))
      (pss_cons (ps_asg (pe_call (G_parts_of) (hr.mono (by decide)) rfl T.m_parts_of T.F_parts_of.kp T.b_parts_of .nil pass0 (pa_cons (pv 1) pa_nil)) (pg_tup rfl (pgs_cons (pg_name (i := 2) sc_Machine_go_on.nd rfl (Or.inl rfl)) (pgs_cons (pg_name (i := 3) sc_Machine_go_on.nd rfl (Or.inl rfl)) (pgs_cons (pg_name (i := 4) sc_Machine_go_on.nd rfl (Or.inl rfl)) (pgs_cons (pg_name (i := 5) sc_Machine_go_on.nd rfl (Or.inl rfl)) (pgs_cons (pg_name (i := 6) sc_Machine_go_on.nd rfl (Or.inl rfl)) pgs_nil)))))))
      (pss_cons (ps_if (pt_cmpR op_eq (pv 2) pe_int (nomark _)) (pss_cons (ps_fld (pv 0) pe_bl rfl)
      (pss_one (ps_ret pe_bl))) pss_nil)
      (pss_cons (ps_set (i := 7) sc_Machine_go_on.nd rfl (Or.inl rfl) (pe_call (G_wrapped) (hr.mono (by decide)) rfl T.m_wrapped T.F_wrapped.kp T.b_wrapped .nil pass0 (pa_cons (pe_op op_add (pe_fld (pv 0) rfl) pe_int) pa_nil)))
      (pss_cons (ps_set (i := 8) sc_Machine_go_on.nd rfl (Or.inl rfl) (pe_call (G_wrapped) (hr.mono (by decide)) rfl T.m_wrapped T.F_wrapped.kp T.b_wrapped .nil pass0 (pa_cons (pe_op op_add (pe_ix (r := rIxL K) ix_list (pe_fld (pv 0) rfl) (pv 4) (fun _ _ => rfl)) (pe_call (G_signed) (hr.mono (by decide)) rfl T.m_signed T.F_signed.kp T.b_signed .nil pass0 (pa_cons (pv 6) (pa_cons pe_int pa_nil)))) pa_nil)))
      (pss_cons (ps_if (pt_cmpR op_eq (pv 2) pe_int (nomark _)) (pss_one (ps_expr (pe_bm PySem.F.plainAttrs_list PySem.F.slot_list_append PySem.F.type_list_append mt_append (pe_fld (pv 0) rfl) (pa_cons (pe_ix (r := rIxL K) ix_list (pe_fld (pv 0) rfl) (pv 3) (fun _ _ => rfl)) pa_nil)))) (pss_one (ps_if (pt_cmpR op_eq (pv 2) pe_int (nomark _)) (pss_one (ps_asg (Jl.pe_methX (pv 0) T.c_Machine T.me_Machine_word_needed (G_Machine_word_needed) (hr.mono (by decide)) T.b_Machine_word_needed (fun σ => passAt (takes_of rfl rfl rfl rfl) σ) (pa_cons (pv 8) pa_nil)) (pg_sub (pe_fld (pv 0) rfl) (pv 3) set_list))) (pss_one (ps_if (pt_cmpR op_eq (pv 2) pe_int (nomark _)) (pss_one (ps_expr (Jl.pe_methX (pv 0) T.c_Machine T.me_Machine_put_at (G_Machine_put_at) (hr.mono (by decide)) T.b_Machine_put_at (fun σ => passAt (takes_of rfl rfl rfl rfl) σ) (pa_cons (pv 8) (pa_cons (pe_ix (r := rIxL K) ix_list (pe_fld (pv 0) rfl) (pv 3) (fun _ _ => rfl)) pa_nil))))) (pss_one (ps_if (pt_cmpR op_gt (pv 2) pe_int (nomark _)) (pss_cons (ps_set (i := 7) sc_Machine_go_on.nd rfl (Or.inl rfl) (pe_meth (pv 0) T.c_Machine T.me_Machine_gone_to (G_Machine_gone_to) (hr.mono (by decide)) T.b_Machine_gone_to .nil pass0 (pa_cons (pv 1) pa_nil)))
      (pss_one (ps_if (pt_cmpR op_eq (pv 2) pe_int (nomark _)) (pss_one (ps_asg (pe_call (G_wrapped) (hr.mono (by decide)) rfl T.m_wrapped T.F_wrapped.kp T.b_wrapped .nil pass0 (pa_cons (pe_op op_add (pe_fld (pv 0) rfl) pe_int) pa_nil)) (pg_sub (pe_fld (pv 0) rfl) (pv 3) set_list))) pss_nil))) (pss_one (ps_asg (pe_call (G_reckoned) (hr.mono (by decide)) rfl T.m_reckoned T.F_reckoned.kp T.b_reckoned .nil pass0 (pa_cons (pv 2) (pa_cons (pe_ix (r := rIxL K) ix_list (pe_fld (pv 0) rfl) (pv 4) (fun _ _ => rfl)) (pa_cons (pe_ix (r := rIxL K) ix_list (pe_fld (pv 0) rfl) (pv 5) (fun _ _ => rfl)) (pa_cons (pv 6) pa_nil))))) (pg_sub (pe_fld (pv 0) rfl) (pv 3) set_list))))))))))
      (pss_cons (ps_fld (pv 0) (pv 7) rfl)
      (pss_one (ps_ret pe_bl)))))))))), ?_⟩
    show (_ : TS) _ [some (.ref p), none, none, none, none, none, none, none, none] H
    rcases k with k | k | ⟨fin, k⟩
    rotate_left 2
    · walk_at "w"
      refine Jl.s_fld (fun R z => Jl.s_var (by with_unfolding_all rfl) z) M.ob T.c_Machine T.na_Machine_ended (Jl.mf_ended _ _ _ _ _) ?_
      rw [fin]
      walk_at "w"
      exact k
    · obtain ⟨w, G, k⟩ := k
      have a1 : 0 ≤ Jl.fA w ∧ Jl.fA w < 8 := by unfold Jl.fA; omega
      have b1 : 0 ≤ Jl.fB w ∧ Jl.fB w < 8 := by unfold Jl.fB; omega
      have c1 : 0 ≤ Jl.fC w ∧ Jl.fC w < 8 := by unfold Jl.fC; omega
      have o1 : 0 ≤ Jl.opI w ∧ Jl.opI w < 16 := by unfold Jl.opI; omega
      have ra := G.rr _ a1.1 a1.2
      have rb := G.rr _ b1.1 b1.2
      have rc := G.rr _ c1.1 c1.2
      walk_at "w"
      refine Jl.s_fld (fun R z => Jl.s_var (by with_unfolding_all rfl) z) M.ob T.c_Machine T.na_Machine_ended (Jl.mf_ended _ _ _ _ _) ?_
      rw [G.run]
      walk_at "w"
      first | refine Jl.s_methO (fun R z => Jl.s_var (by with_unfolding_all rfl) z) M.ob (Jl.mf_no _ _ _ _ _ (by decide +kernel) (by decide +kernel) (by decide +kernel) (by decide +kernel) (by decide +kernel)) ?_ | refine Jl.s_methX (fun R z => Jl.s_var (by with_unfolding_all rfl) z) M.ob (Jl.mf_no _ _ _ _ _ (by decide +kernel) (by decide +kernel) (by decide +kernel) (by decide +kernel) (by decide +kernel)) ?_
      walk_at "w"
      refine Jl.s_fld (fun R z => Jl.s_var (by with_unfolding_all rfl) z) M.ob T.c_Machine T.na_Machine_spot (Jl.mf_spot _ _ _ _ _) ?_
      walk_at "w"
      refine use_word_needed M G.here ?_
      walk_at "w"
      rename_i q H1 s1 nq hq
      have M1 := M.same s1
      have k1 := Jl.Keep.of (p := p) (m := m) (r := r) (o := o) s1
      by_cases h0 : Jl.opI w = 0
      · walk_at "wd"
        refine Jl.s_sFld ?_
        walk_at "w"
        refine ⟨p, T.a_Machine, dx, _, rfl, M1.ob, T.c_Machine, T.na_Machine_ended, Jl.mf_len _ _ _ _ _, ?_⟩
        walk_at "w"
        refine k _ k1.atP ?_
        have e : Jl.stepI s w = { s with fin := true } := by unfold Jl.stepI; rw [if_pos h0]
        rw [e]; exact M1.setEnded true
      walk_at "wd"
      refine Jl.s_fld (fun R z => Jl.s_var (by with_unfolding_all rfl) z) M1.ob T.c_Machine T.na_Machine_spot (Jl.mf_spot _ _ _ _ _) ?_
      walk_at "w"
      refine Jl.s_fld (fun R z => Jl.s_var (by with_unfolding_all rfl) z) M1.ob T.c_Machine T.na_Machine_registers (Jl.mf_registers _ _ _ _ _) ?_
      walk_at "w"
      refine Jl.s_ixL (.inl (.inl M1.rg)) (Jl.atI_reg G.r8 b1.1 b1.2) ?_
      walk_at "w"
      rw [Jl.sgn_16]
      have eth : (Jl.reg s.regs (Jl.fB w) + ((Jl.fN w + 32768) % 65536 - 32768)) % 4294967296 = Jl.thereI s w := rfl
      have enx : (s.spot + 1) % 4294967296 = Jl.nextI s := rfl
      rw [eth, enx]
      have hou := M1.ou
      have hrg := M1.rg
      by_cases h1 : Jl.opI w = 1
      · have est : Jl.stepI s w = { s with outs := s.outs ++ [Jl.reg s.regs (Jl.fA w)], spot := Jl.nextI s } := by unfold Jl.stepI; rw [if_neg h0, if_pos h1]
        walk_at "wd"
        refine Jl.s_fld (fun R z => Jl.s_var (by with_unfolding_all rfl) z) M1.ob T.c_Machine T.na_Machine_outputs (Jl.mf_outputs _ _ _ _ _) ?_
        walk_at "w"
        refine Jl.s_fld (fun R z => Jl.s_var (by with_unfolding_all rfl) z) M1.ob T.c_Machine T.na_Machine_registers (Jl.mf_registers _ _ _ _ _) ?_
        walk_at "w"
        refine Jl.s_ixL (.inl (.inl M1.rg)) (Jl.atI_reg G.r8 a1.1 a1.2) ?_
        walk_at "w"
        rotate_left
        · rw [List.length_map]; exact Jl.small5' (by have := G.few; omega)
        have M2 := M1.app (Jl.reg s.regs (Jl.fA w))
        have k2 := k1.atO (v := .lst (s.outs.map V.int ++ [.int (Jl.reg s.regs (Jl.fA w))]))
        refine Jl.s_sFld ?_
        walk_at "w"
        refine ⟨p, T.a_Machine, dx, _, rfl, M2.ob, T.c_Machine, T.na_Machine_spot, Jl.mf_len _ _ _ _ _, ?_⟩
        walk_at "w"
        refine k _ k2.atP ?_
        rw [est]; exact M2.setSpot _
      by_cases h5 : Jl.opI w = 5
      · obtain ⟨v, hv⟩ := G.has (.inl h5)
        have est : Jl.stepI s w = { s with regs := s.regs.set (Jl.fA w).toNat v, spot := Jl.nextI s } := by unfold Jl.stepI; rw [if_neg h0, if_neg h1, if_pos h5, hv]; rfl
        walk_at "wd"
        first | refine Jl.s_methO (fun R z => Jl.s_var (by with_unfolding_all rfl) z) M1.ob (Jl.mf_no _ _ _ _ _ (by decide +kernel) (by decide +kernel) (by decide +kernel) (by decide +kernel) (by decide +kernel)) ?_ | refine Jl.s_methX (fun R z => Jl.s_var (by with_unfolding_all rfl) z) M1.ob (Jl.mf_no _ _ _ _ _ (by decide +kernel) (by decide +kernel) (by decide +kernel) (by decide +kernel) (by decide +kernel)) ?_
        walk_at "w"
        refine use_word_needed M1 hv ?_
        walk_at "w"
        refine Jl.s_fld (fun R z => Jl.s_var (by with_unfolding_all rfl) z) M1.ob T.c_Machine T.na_Machine_registers (Jl.mf_registers _ _ _ _ _) ?_
        walk_at "w"
        refine Jl.s_setL hrg (Jl.ixN_ok a1.1 (by rw [List.length_map, G.r8]; exact a1.2)) ?_
        have M2 := M1.setReg (Jl.fA w).toNat v
        have k2 := k1.atR (v := .lst ((s.regs.map V.int).set (Jl.fA w).toNat (.int v)))
        refine Jl.s_sFld ?_
        walk_at "w"
        refine ⟨p, T.a_Machine, dx, _, rfl, M2.ob, T.c_Machine, T.na_Machine_spot, Jl.mf_len _ _ _ _ _, ?_⟩
        walk_at "w"
        refine k _ k2.atP ?_
        rw [est]; exact M2.setSpot _
      by_cases h6 : Jl.opI w = 6
      · obtain ⟨v, hv⟩ := G.has (.inr h6)
        have est : Jl.stepI s w = { s with mem := Jl.memPut s.mem (Jl.thereI s w) (Jl.reg s.regs (Jl.fA w)), spot := Jl.nextI s } := by unfold Jl.stepI; rw [if_neg h0, if_neg h1, if_neg h5, if_pos h6]
        walk_at "wd"
        first | refine Jl.s_methO (fun R z => Jl.s_var (by with_unfolding_all rfl) z) M1.ob (Jl.mf_no _ _ _ _ _ (by decide +kernel) (by decide +kernel) (by decide +kernel) (by decide +kernel) (by decide +kernel)) ?_ | refine Jl.s_methX (fun R z => Jl.s_var (by with_unfolding_all rfl) z) M1.ob (Jl.mf_no _ _ _ _ _ (by decide +kernel) (by decide +kernel) (by decide +kernel) (by decide +kernel) (by decide +kernel)) ?_
        walk_at "w"
        refine Jl.s_fld (fun R z => Jl.s_var (by with_unfolding_all rfl) z) M1.ob T.c_Machine T.na_Machine_registers (Jl.mf_registers _ _ _ _ _) ?_
        walk_at "w"
        refine Jl.s_ixL (.inl (.inl M1.rg)) (Jl.atI_reg G.r8 a1.1 a1.2) ?_
        walk_at "w"
        refine use_put_at M1 hv (fun H2 M2 e2 => ?_)
        have k2 := k1.atM e2
        refine Jl.s_sFld ?_
        walk_at "w"
        refine ⟨p, T.a_Machine, dx, _, rfl, M2.ob, T.c_Machine, T.na_Machine_spot, Jl.mf_len _ _ _ _ _, ?_⟩
        walk_at "w"
        refine k _ k2.atP ?_
        rw [est]; exact M2.setSpot _
      by_cases h11 : Jl.opI w > 11
      · walk_at "wd"
        first | refine Jl.s_methO (fun R z => Jl.s_var (by with_unfolding_all rfl) z) M1.ob (Jl.mf_no _ _ _ _ _ (by decide +kernel) (by decide +kernel) (by decide +kernel) (by decide +kernel) (by decide +kernel)) ?_ | refine Jl.s_methX (fun R z => Jl.s_var (by with_unfolding_all rfl) z) M1.ob (Jl.mf_no _ _ _ _ _ (by decide +kernel) (by decide +kernel) (by decide +kernel) (by decide +kernel) (by decide +kernel)) ?_
        walk_at "w"
        refine use_gone_to M1 G.r8 (fun H3 s3 => ?_)
        have M3 := M1.same s3
        have hrg3 := M3.rg
        walk_at "w"
        by_cases h14 : Jl.opI w = 14
        · have est : Jl.stepI s w = { s with regs := s.regs.set (Jl.fA w).toNat (Jl.nextI s), spot := Jl.goneI s w } := by unfold Jl.stepI; rw [if_neg h0, if_neg h1, if_neg h5, if_neg h6, if_pos h11, if_pos h14]
          walk_at "wd"
          refine Jl.s_fld (fun R z => Jl.s_var (by with_unfolding_all rfl) z) M3.ob T.c_Machine T.na_Machine_spot (Jl.mf_spot _ _ _ _ _) ?_
          walk_at "w"
          rw [enx]
          walk_at "w"
          refine Jl.s_fld (fun R z => Jl.s_var (by with_unfolding_all rfl) z) M3.ob T.c_Machine T.na_Machine_registers (Jl.mf_registers _ _ _ _ _) ?_
          walk_at "w"
          refine Jl.s_setL hrg3 (Jl.ixN_ok a1.1 (by rw [List.length_map, G.r8]; exact a1.2)) ?_
          have M2 := M3.setReg (Jl.fA w).toNat (Jl.nextI s)
          have k2 := (k1.sm s3).atR (v := .lst ((s.regs.map V.int).set (Jl.fA w).toNat (.int (Jl.nextI s))))
          refine Jl.s_sFld ?_
          walk_at "w"
          refine ⟨p, T.a_Machine, dx, _, rfl, M2.ob, T.c_Machine, T.na_Machine_spot, Jl.mf_len _ _ _ _ _, ?_⟩
          walk_at "w"
          refine k _ k2.atP ?_
          rw [est]; exact M2.setSpot _
        · have est : Jl.stepI s w = { s with spot := Jl.goneI s w } := by unfold Jl.stepI; rw [if_neg h0, if_neg h1, if_neg h5, if_neg h6, if_pos h11, if_neg h14]
          walk_at "wd"
          have M2 := M3
          have k2 := k1.sm s3
          refine Jl.s_sFld ?_
          walk_at "w"
          refine ⟨p, T.a_Machine, dx, _, rfl, M2.ob, T.c_Machine, T.na_Machine_spot, Jl.mf_len _ _ _ _ _, ?_⟩
          walk_at "w"
          refine k _ k2.atP ?_
          rw [est]; exact M2.setSpot _
      · have est : Jl.stepI s w = { s with regs := s.regs.set (Jl.fA w).toNat (Jl.reckI (Jl.opI w) (Jl.reg s.regs (Jl.fB w)) (Jl.reg s.regs (Jl.fC w)) (Jl.fN w)), spot := Jl.nextI s } := by unfold Jl.stepI; rw [if_neg h0, if_neg h1, if_neg h5, if_neg h6, if_neg h11]
        walk_at "wd"
        refine Jl.s_fld (fun R z => Jl.s_var (by with_unfolding_all rfl) z) M1.ob T.c_Machine T.na_Machine_registers (Jl.mf_registers _ _ _ _ _) ?_
        walk_at "w"
        refine Jl.s_ixL (.inl (.inl M1.rg)) (Jl.atI_reg G.r8 b1.1 b1.2) ?_
        walk_at "w"
        refine Jl.s_fld (fun R z => Jl.s_var (by with_unfolding_all rfl) z) M1.ob T.c_Machine T.na_Machine_registers (Jl.mf_registers _ _ _ _ _) ?_
        walk_at "w"
        refine Jl.s_ixL (.inl (.inl M1.rg)) (Jl.atI_reg G.r8 c1.1 c1.2) ?_
        walk_at "w"
        refine Jl.s_fld (fun R z => Jl.s_var (by with_unfolding_all rfl) z) M1.ob T.c_Machine T.na_Machine_registers (Jl.mf_registers _ _ _ _ _) ?_
        walk_at "w"
        refine Jl.s_setL hrg (Jl.ixN_ok a1.1 (by rw [List.length_map, G.r8]; exact a1.2)) ?_
        have M2 := M1.setReg (Jl.fA w).toNat (Jl.reckI (Jl.opI w) (Jl.reg s.regs (Jl.fB w)) (Jl.reg s.regs (Jl.fC w)) (Jl.fN w))
        have k2 := k1.atR (v := .lst ((s.regs.map V.int).set (Jl.fA w).toNat (.int (Jl.reckI (Jl.opI w) (Jl.reg s.regs (Jl.fB w)) (Jl.reg s.regs (Jl.fC w)) (Jl.fN w)))))
        refine Jl.s_sFld ?_
        walk_at "w"
        refine ⟨p, T.a_Machine, dx, _, rfl, M2.ob, T.c_Machine, T.na_Machine_spot, Jl.mf_len _ _ _ _ _, ?_⟩
        walk_at "w"
        refine k _ k2.atP ?_
        rw [est]; exact M2.setSpot _
      
    · obtain ⟨pl, ⟨run, L⟩, k⟩ := k
      walk_at "w"
      refine Jl.s_fld (fun R z => Jl.s_var (by with_unfolding_all rfl) z) M.ob T.c_Machine T.na_Machine_ended (Jl.mf_ended _ _ _ _ _) ?_
      rw [run]
      walk_at "w"
      refine Jl.s_methX (fun R z => Jl.s_var (by with_unfolding_all rfl) z) M.ob (Jl.mf_no _ _ _ _ _ (by decide +kernel) (by decide +kernel) (by decide +kernel) (by decide +kernel) (by decide +kernel)) ?_
      walk_at "w"
      refine Jl.s_fld (fun R z => Jl.s_var (by with_unfolding_all rfl) z) M.ob T.c_Machine T.na_Machine_spot (Jl.mf_spot _ _ _ _ _) ?_
      walk_at "w"
      rcases L with ⟨h0, rfl⟩ | ⟨w, h0, h8, ho, h1, rfl⟩
      · exact use_word_lost M h0 fun d nd => k d _ (Jl.same_upd nd) nd upd_same
      refine use_word_needed M h0 ?_
      have a1 : 0 ≤ Jl.fA w ∧ Jl.fA w < 8 := by unfold Jl.fA; omega
      have b1 : 0 ≤ Jl.fB w ∧ Jl.fB w < 8 := by unfold Jl.fB; omega
      walk_at "w"
      rename_i q H1 s1 nq hq
      have M1 := M.same s1
      walk_at "wd"
      refine Jl.s_fld (fun R z => Jl.s_var (by with_unfolding_all rfl) z) M1.ob T.c_Machine T.na_Machine_spot (Jl.mf_spot _ _ _ _ _) ?_
      walk_at "w"
      refine Jl.s_fld (fun R z => Jl.s_var (by with_unfolding_all rfl) z) M1.ob T.c_Machine T.na_Machine_registers (Jl.mf_registers _ _ _ _ _) ?_
      walk_at "w"
      refine Jl.s_ixL (.inl (.inl M1.rg)) (Jl.atI_reg h8 b1.1 b1.2) ?_
      walk_at "w"
      rw [Jl.sgn_16]
      have eth : (Jl.reg s.regs (Jl.fB w) + ((Jl.fN w + 32768) % 65536 - 32768)) % 4294967296 = Jl.thereI s w := rfl
      rw [eth]
      rcases ho with h5 | h6
      · walk_at "wd"
        refine Jl.s_methX (fun R z => Jl.s_var (by with_unfolding_all rfl) z) M1.ob (Jl.mf_no _ _ _ _ _ (by decide +kernel) (by decide +kernel) (by decide +kernel) (by decide +kernel) (by decide +kernel)) ?_
        walk_at "w"
        exact use_word_lost M1 h1 fun d nd => k d _ (s1.trans (Jl.same_upd nd)) (s1.free nd) upd_same
      · walk_at "wd"
        refine Jl.s_methX (fun R z => Jl.s_var (by with_unfolding_all rfl) z) M1.ob (Jl.mf_no _ _ _ _ _ (by decide +kernel) (by decide +kernel) (by decide +kernel) (by decide +kernel) (by decide +kernel)) ?_
        walk_at "w"
        refine Jl.s_fld (fun R z => Jl.s_var (by with_unfolding_all rfl) z) M1.ob T.c_Machine T.na_Machine_registers (Jl.mf_registers _ _ _ _ _) ?_
        walk_at "w"
        refine Jl.s_ixL (.inl (.inl M1.rg)) (Jl.atI_reg h8 a1.1 a1.2) ?_
        walk_at "w"
        exact use_put_lost M1 h1 fun d nd => k d _ (s1.trans (Jl.same_upd nd)) (s1.free nd) upd_same
/-! ### Machine.state -/
def sp_Machine_state (T : Txt K mg) : Sp := fun vs H Q _ => ∃ (p dx m r o : Addr) (s : Jl.MSt), vs = [.ref p] ∧ Jl.MachAt T.a_Machine H p dx m r o s ∧ ∀ q r' o' H', Same H H' → H q = none → H r' = none → H o' = none → r' ≠ o' → H' q = some (.tup [.int s.spot, .ref r', .ref o', .bl s.fin]) → H' r' = some (.lst (s.regs.map V.int)) → H' o' = some (.lst (s.outs.map V.int)) → Q (.ref q) H'
theorem use_state {T : Txt K mg} {p dx m r o : Addr} {s : Jl.MSt} {H : Hp} {Q : VK} {E : XK} (M : Jl.MachAt T.a_Machine H p dx m r o s) (z : ∀ q r' o' H', Same H H' → H q = none → H r' = none → H o' = none → r' ≠ o' → H' q = some (.tup [.int s.spot, .ref r', .ref o', .bl s.fin]) → H' r' = some (.lst (s.regs.map V.int)) → H' o' = some (.lst (s.outs.map V.int)) → Q (.ref q) H') : sp_Machine_state T [.ref p] H Q E := ⟨p, dx, m, r, o, s, rfl, M, z⟩
theorem ok_Machine_state (T : Txt K mg) : FnOk P w K mg base CX0 1 T.a_Machine_state T.d_Machine_state ["self"] (sp_Machine_state T) := by
  refine T.F_Machine_state.ok sc_Machine_state (fun vs H Q E h => ?_) (fun cdv A outer s H vs Q E hr h => ?_)
  · obtain ⟨p, dx, m, r, o, s, rfl, M, k⟩ := h
    rfl
  · obtain ⟨p, dx, m, r, o, s, rfl, M, k⟩ := h
    have hu := hu_of hr
    refine ⟨_, (pss_one (ps_ret (pe_tup (pa_cons (pe_fld (pv 0) rfl) (pa_cons (pe_callTy (r := Jl.rListO K) Jl.cl_listO (by rfl) T.n_list (by decide +kernel) (pa_cons (pe_fld (pv 0) rfl) pa_nil)) (pa_cons (pe_callTy (r := Jl.rListO K) Jl.cl_listO (by rfl) T.n_list (by decide +kernel) (pa_cons (pe_fld (pv 0) rfl) pa_nil)) (pa_cons (pe_fld (pv 0) rfl) pa_nil))))))), ?_⟩
    show (_ : TS) _ [some (.ref p)] H
    walk_at "w"
    refine Jl.s_fld (fun R z => Jl.s_var (by with_unfolding_all rfl) z) M.ob T.c_Machine T.na_Machine_spot (Jl.mf_spot _ _ _ _ _) ?_
    walk_at "w"
    refine Jl.s_fld (fun R z => Jl.s_var (by with_unfolding_all rfl) z) M.ob T.c_Machine T.na_Machine_registers (Jl.mf_registers _ _ _ _ _) ?_
    walk_at "w"
    refine Jl.s_listO (.inl (.inl M.rg)) (fun r' nr => ?_)
    walk_at "w"
    have M1 := M.same (Jl.same_upd (o := .lst (s.regs.map V.int)) nr)
    refine Jl.s_fld (fun R z => Jl.s_var (by with_unfolding_all rfl) z) M1.ob T.c_Machine T.na_Machine_outputs (Jl.mf_outputs _ _ _ _ _) ?_
    walk_at "w"
    refine Jl.s_listO (.inl (.inl M1.ou)) (fun o' no => ?_)
    have M2 := M1.same (Jl.same_upd (o := .lst (s.outs.map V.int)) no)
    walk_at "w"
    refine Jl.s_fld (fun R z => Jl.s_var (by with_unfolding_all rfl) z) M2.ob T.c_Machine T.na_Machine_ended (Jl.mf_ended _ _ _ _ _) ?_
    walk_at "w"
    refine ⟨(by show 4 ≤ sizeLine; decide), fun q nq => ?_⟩
    have nro : r' ≠ o' := fun z => by subst z; rw [upd_same] at no; cases no
    have nrq : r' ≠ q := fun z => by subst z; rw [upd_ne nro, upd_same] at nq; cases nq
    have noq : o' ≠ q := fun z => by subst z; rw [upd_same] at nq; cases nq
    have no' : H o' = none := by rw [upd_ne nro.symm] at no; exact no
    have nq' : H q = none := by rw [upd_ne noq.symm, upd_ne nrq.symm] at nq; exact nq
    refine k q r' o' _ (((Jl.same_upd nr).trans (Jl.same_upd no)).trans (Jl.same_upd nq)) nq' nr no' nro upd_same ?_ ?_
    · rw [upd_ne nrq, upd_ne nro, upd_same]
    · rw [upd_ne noq, upd_same]
/-! ### Machine.word_at -/
def sp_Machine_word_at (T : Txt K mg) : Sp := fun vs H Q _ => ∃ (p dx m r o : Addr) (s : Jl.MSt) (a : Int), vs = [.ref p, .int a] ∧ Jl.MachAt T.a_Machine H p dx m r o s ∧ Q (Jl.optW (s.mem a)) H
theorem use_word_at {T : Txt K mg} {p dx m r o : Addr} {s : Jl.MSt} {a : Int} {H : Hp} {Q : VK} {E : XK} (M : Jl.MachAt T.a_Machine H p dx m r o s) (z : Q (Jl.optW (s.mem a)) H) : sp_Machine_word_at T [.ref p, .int a] H Q E := ⟨p, dx, m, r, o, s, a, rfl, M, z⟩
theorem use_word_is {T : Txt K mg} {p dx m r o : Addr} {s : Jl.MSt} {a w : Int} {H : Hp} {Q : VK} {E : XK} (M : Jl.MachAt T.a_Machine H p dx m r o s) (hw : s.mem a = some w) (z : Q (.int w) H) : sp_Machine_word_at T [.ref p, .int a] H Q E := ⟨p, dx, m, r, o, s, a, rfl, M, by rw [hw]; exact z⟩
theorem ok_Machine_word_at (T : Txt K mg) : FnOk P w K mg base CX0 1 T.a_Machine_word_at T.d_Machine_word_at ["self", "place"] (sp_Machine_word_at T) := by
  refine T.F_Machine_word_at.ok sc_Machine_word_at (fun vs H Q E h => ?_) (fun cdv A outer s H vs Q E hr h => ?_)
  · obtain ⟨p, dx, m, r, o, s, a, rfl, M, k⟩ := h
    rfl
  · obtain ⟨p, dx, m, r, o, s, a, rfl, M, k⟩ := h
    have hu := hu_of hr
    refine ⟨_, (pss_one (ps_ret (pe_dget1 hu (pe_fld (pv 0) rfl) (pv 1) ⟨rfl, rfl, rfl, rfl⟩))), ?_⟩
    show (_ : TS) _ [some (.ref p), some (.int a)] H
    obtain ⟨kvs, hm, hl, hk⟩ := M.dc
    walk_at "w"
    refine Jl.s_dget1 ?_
    refine Jl.s_fld (fun R z => Jl.s_var (by with_unfolding_all rfl) z) M.ob T.c_Machine T.na_Machine_memory (Jl.mf_memory _ _ _ _ _) ?_
    refine ⟨m, rfl, .inl ⟨kvs, .inl hm⟩, ?_⟩
    walk_at "w"
    refine ⟨_, DGet.k (k := Jl.kI a) hm, ?_⟩
    rw [show valV kvs (Jl.kI a) = _ from hk a]
    cases h : s.mem a with
    | none => rw [h] at k; exact k
    | some w => rw [h] at k; exact k
/-! ### _law_whole -/
def sp_law_whole : Sp := fun vs H Q _ => ∃ n : Int, vs = [.int n] ∧ Q (.bl true) H
theorem use_whole {n : Int} {H : Hp} {Q : VK} {E : XK} (z : Q (.bl true) H) : sp_law_whole [.int n] H Q E := ⟨n, rfl, z⟩
local macro_rules | `(tactic| walk_at "s") => `(tactic| (with_reducible refine use_whole ?_))
theorem ok_law_whole (T : Txt K mg) : FnOk P w K mg base CX0 1 T.a_law_whole T.d_law_whole ["_law_found"] (sp_law_whole) := by
  refine T.F_law_whole.ok sc_law_whole (fun vs H Q E h => ?_) (fun cdv A outer s H vs Q E hr h => ?_)
  · obtain ⟨n, rfl, k⟩ := h
    rfl
  · obtain ⟨n, rfl, k⟩ := h
    have hu := hu_of hr
    refine ⟨_, (pss_one (ps_ret (pe_and (pe_callB call_isi (by rfl) T.n_isinstance (by decide +kernel) (pa_cons (pv 0) (pa_cons (pe_bltn (v := .ty "int") (u := .type "int") (by rfl) T.n_int (by decide +kernel) rfl) pa_nil))) (pe_one (pe_not (pe_callB call_isi (by rfl) T.n_isinstance (by decide +kernel) (pa_cons (pv 0) (pa_cons (pe_bltn (v := .ty "bool") (u := .type "bool") (by rfl) T.n_bool (by decide +kernel) rfl) pa_nil)))))))), ?_⟩
    show (_ : TS) _ [some (.int n)] H
    walk_at "w"
    exact k
/-! ### _law_cell_at -/
def sp_law_cell_at (K : PySem.W.Frag) : Sp := fun vs H Q _ => ∃ (a : Addr) (ns : List Int) (i : Int), vs = [.ref a, .int i] ∧ SqL K H a (ns.map V.int) ∧ 0 ≤ i ∧ Q (.int (ns.getD i.toNat 0)) H
theorem use_cell_at {K : PySem.W.Frag} {a : Addr} {ns : List Int} {i : Int} {H : Hp} {Q : VK} {E : XK} (hS : SqL K H a (ns.map V.int)) (h0 : 0 ≤ i) (z : Q (.int (ns.getD i.toNat 0)) H) : sp_law_cell_at K [.ref a, .int i] H Q E := ⟨a, ns, i, rfl, hS, h0, z⟩
theorem ok_law_cell_at (T : Txt K mg) : FnOk P w K mg base CX0 1 T.a_law_cell_at T.d_law_cell_at ["_law_script", "_law_k"] (sp_law_cell_at K) := by
  refine T.F_law_cell_at.ok sc_law_cell_at (fun vs H Q E h => ?_) (fun cdv A outer s H vs Q E hr h => ?_)
  · obtain ⟨a, ns, i, rfl, hS, h0, k⟩ := h
    rfl
  · obtain ⟨a, ns, i, rfl, hS, h0, k⟩ := h
    have hu := hu_of hr
    refine ⟨_, (pss_cons (ps_if (pt_cmpR op_lt (pv 1) (pe_callB (r := Jl.rLenL K) Jl.cl_lenL (by rfl) T.n_len (by decide +kernel) (pa_cons (pv 0) pa_nil)) (nomark _)) (pss_one (ps_ret (pe_ix (r := rIxL K) ix_list (pv 0) (pv 1) (fun _ _ => rfl)))) pss_nil)
      (pss_one (ps_ret pe_int))), ?_⟩
    show (_ : TS) _ [some (.ref a), some (.int i)] H
    walk_at "w"
    rw [List.length_map]
    refine Jl.s_iteD (fun h => ?_) (fun h => ?_)
    · walk_at "w"
      refine Jl.s_ixL hS (Jl.atI_int (k := i.toNat) (List.getElem?_eq_getElem (by omega)) (by omega)) ?_
      rw [List.getD_eq_getElem?_getD, List.getElem?_eq_getElem (by omega)] at k
      exact k
    · walk_at "w"
      rw [List.getD_eq_getElem?_getD, List.getElem?_eq_none (by omega)] at k
      exact k
/-! ### _law_word_by -/
def lowI (op rest : Int) : Int :=
  if op > 3 ∧ op < 7 ∧ rest % 4 > 0 then (rest / 4 % 9 - 4) % 65536 + rest / 36 % 8 * 65536
  else if op = 14 then (rest % 11 - 4) % 524288
  else if op = 12 ∨ op = 13 then (rest % 9 - 3) % 4096 % 128 + rest / 9 % 128 * 128 + (rest % 9 - 3) % 4096 / 128 * 16384
  else rest % 524288
def wordI (c : Int) : Int := c % 16 * 268435456 + c * 1583458089 % 2147483647 % 512 * 524288 + lowI (c % 16) (c * 1583458089 % 2147483647 / 512)
theorem wordI_ok (c : Int) : 0 ≤ wordI c ∧ wordI c < 4294967296 := by
  have h : ∀ op rest : Int, 0 ≤ lowI op rest ∧ lowI op rest < 524288 := fun op rest => by
    unfold lowI
    have h1 := Int.emod_nonneg (rest % 9 - 3) (show (4096 : Int) ≠ 0 by decide)
    have h2 := Int.emod_lt_of_pos (rest % 9 - 3) (show (0 : Int) < 4096 by decide)
    generalize (rest % 9 - 3) % 4096 = u at *
    have h3 := Int.emod_nonneg (rest / 9) (show (128 : Int) ≠ 0 by decide)
    have h4 := Int.emod_lt_of_pos (rest / 9) (show (0 : Int) < 128 by decide)
    generalize rest / 9 % 128 = v at *
    repeat' split
    all_goals omega
  have h := h (c % 16) (c * 1583458089 % 2147483647 / 512)
  unfold wordI
  omega
def sp_law_word_by : Sp := fun vs H Q _ => ∃ (c : Int), vs = [.int c] ∧ Q (.int (wordI c)) H
theorem use_law_word_by {c : Int} {H : Hp} {Q : VK} {E : XK} (z : Q (.int (wordI c)) H) : sp_law_word_by [.int c] H Q E := ⟨c, rfl, z⟩
local macro_rules | `(tactic| walk_at "s") => `(tactic| (with_reducible refine use_law_word_by ?_))
theorem ok_law_word_by (T : Txt K mg) : FnOk P w K mg base CX0 1 T.a_law_word_by T.d_law_word_by ["_law_cell"] (sp_law_word_by) := by
  refine T.F_law_word_by.ok sc_law_word_by (fun vs H Q E h => ?_) (fun cdv A outer s H vs Q E hr h => ?_)
  · obtain ⟨c, rfl, k⟩ := h
    rfl
  · obtain ⟨c, rfl, k⟩ := h
    have hu := hu_of hr
    refine ⟨_, (pss_cons (ps_set (i := 1) sc_law_word_by.nd rfl (Or.inl rfl) (pe_op op_mod (pe_op op_mul (pv 0) pe_int) pe_int))
      (pss_cons (ps_set (i := 2) sc_law_word_by.nd rfl (Or.inl rfl) (pe_op op_mod (pv 0) pe_int))
      (pss_cons (ps_set (i := 3) sc_law_word_by.nd rfl (Or.inl rfl) (pe_op op_fdiv (pv 1) pe_int))
      (pss_cons (ps_set (i := 4) sc_law_word_by.nd rfl (Or.inl rfl) (pe_op op_mod (pv 3) pe_int))
      (pss_cons (ps_if (PW.pt (pw_or (pt_cmpR op_eq (pv 2) pe_int (nomark _)) (pw_or1 (pt_cmpR op_eq (pv 2) pe_int (nomark _))))) (pss_cons (ps_set (i := 5) sc_law_word_by.nd rfl (Or.inl rfl) (pe_op op_mod (pe_op op_sub (pe_op op_mod (pv 3) pe_int) pe_int) pe_int))
      (pss_one (ps_set (i := 4) sc_law_word_by.nd rfl (Or.inl rfl) (pe_op op_add (pe_op op_add (pe_op op_mod (pv 5) pe_int) (pe_op op_mul (pe_op op_mod (pe_op op_fdiv (pv 3) pe_int) pe_int) pe_int)) (pe_op op_mul (pe_op op_fdiv (pv 5) pe_int) pe_int))))) pss_nil)
      (pss_cons (ps_if (pt_cmpR op_eq (pv 2) pe_int (nomark _)) (pss_cons (ps_set (i := 5) sc_law_word_by.nd rfl (Or.inl rfl) (pe_op op_sub (pe_op op_mod (pv 3) pe_int) pe_int))
      (pss_one (ps_set (i := 4) sc_law_word_by.nd rfl (Or.inl rfl) (pe_op op_mod (pv 5) pe_int)))) pss_nil)
      (pss_cons (ps_if (PW.pt (pw_and (pt_cmpR op_gt (pv 2) pe_int (nomark _)) (pw_and (pt_cmpR op_lt (pv 2) pe_int (nomark _)) (pw_and1 (pt_cmpR op_gt (pe_op op_mod (pv 3) pe_int) pe_int (nomark _)))))) (pss_one (ps_set (i := 4) sc_law_word_by.nd rfl (Or.inl rfl) (pe_op op_add (pe_op op_mod (pe_op op_sub (pe_op op_mod (pe_op op_fdiv (pv 3) pe_int) pe_int) pe_int) pe_int) (pe_op op_mul (pe_op op_mod (pe_op op_fdiv (pv 3) pe_int) pe_int) pe_int)))) pss_nil)
      (pss_one (ps_ret (pe_op op_add (pe_op op_add (pe_op op_mul (pv 2) pe_int) (pe_op op_mul (pe_op op_mod (pv 1) pe_int) pe_int)) (pv 4))))))))))), ?_⟩
    show (_ : TS) _ [some (.int c), none, none, none, none, none] H
    walk_at "w"
    generalize hnum : c * 1583458089 % 2147483647 = num at *
    have k2 : Q (.int (c % 16 * 268435456 + num % 512 * 524288 + lowI (c % 16) (num / 512))) H := by
      have : wordI c = c % 16 * 268435456 + num % 512 * 524288 + lowI (c % 16) (num / 512) := by unfold wordI; rw [hnum]
      rw [← this]; exact k
    clear k
    have hop : 0 ≤ c % 16 ∧ c % 16 < 16 := by omega
    generalize c % 16 = op at *
    generalize num / 512 = rest at *
    unfold lowI at k2
    repeat' (first | walk_at "s" | walk_at "d" | walk_at "b")
    all_goals
      refine Jl.fin_int k2 ?_
      repeat' split
      all_goals first | rfl | omega
/-! ### _law_split -/
def sp_law_split : Sp := fun vs H Q _ => ∃ (w : Int), vs = [.int w] ∧ Q (.int (Jl.splitI w)) H
theorem use_law_split {w : Int} {H : Hp} {Q : VK} {E : XK} (z : Q (.int (Jl.splitI w)) H) : sp_law_split [.int w] H Q E := ⟨w, rfl, z⟩
local macro_rules | `(tactic| walk_at "s") => `(tactic| (with_reducible refine use_law_split ?_))
theorem ok_law_split (T : Txt K mg) : FnOk P w K mg base CX0 1 T.a_law_split T.d_law_split ["_law_word"] (sp_law_split) := by
  refine T.F_law_split.ok sc_law_split (fun vs H Q E h => ?_) (fun cdv A outer s H vs Q E hr h => ?_)
  · obtain ⟨w, rfl, k⟩ := h
    rfl
  · obtain ⟨w, rfl, k⟩ := h
    have hu := hu_of hr
    refine ⟨_, (pss_cons (ps_set (i := 1) sc_law_split.nd rfl (Or.inl rfl) (pe_op op_add (pe_op op_mod (pv 0) pe_int) (pe_op op_mul (pe_op op_mod (pe_op op_fdiv (pv 0) pe_int) pe_int) pe_int)))
      (pss_one (ps_ret (pe_op op_sub (pv 1) (pe_op op_mul pe_int (pe_op op_fdiv (pv 1) pe_int)))))), ?_⟩
    show (_ : TS) _ [some (.int w), none] H
    walk_at "w"
    refine Jl.fin_int k ?_
    unfold Jl.splitI
    omega
/-! ### _law_near -/
def sp_law_near : Sp := fun vs H Q _ => ∃ (w : Int), vs = [.int w] ∧ Q (.int (Jl.nearI w)) H
theorem use_law_near {w : Int} {H : Hp} {Q : VK} {E : XK} (z : Q (.int (Jl.nearI w)) H) : sp_law_near [.int w] H Q E := ⟨w, rfl, z⟩
local macro_rules | `(tactic| walk_at "s") => `(tactic| (with_reducible refine use_law_near ?_))
theorem ok_law_near (T : Txt K mg) : FnOk P w K mg base CX0 1 T.a_law_near T.d_law_near ["_law_word"] (sp_law_near) := by
  refine T.F_law_near.ok sc_law_near (fun vs H Q E h => ?_) (fun cdv A outer s H vs Q E hr h => ?_)
  · obtain ⟨w, rfl, k⟩ := h
    rfl
  · obtain ⟨w, rfl, k⟩ := h
    have hu := hu_of hr
    refine ⟨_, (pss_one (ps_ret (pe_op op_sub (pe_op op_mod (pv 0) pe_int) (pe_op op_mul pe_int (pe_op op_fdiv (pe_op op_mod (pv 0) pe_int) pe_int))))), ?_⟩
    show (_ : TS) _ [some (.int w)] H
    walk_at "w"
    refine Jl.fin_int k ?_
    unfold Jl.nearI
    omega
/-! ### _law_small -/
def sp_law_small : Sp := fun vs H Q _ => ∃ (w : Int), vs = [.int w] ∧ Q (.int (Jl.s16 (Jl.fN w))) H
theorem use_law_small {w : Int} {H : Hp} {Q : VK} {E : XK} (z : Q (.int (Jl.s16 (Jl.fN w))) H) : sp_law_small [.int w] H Q E := ⟨w, rfl, z⟩
local macro_rules | `(tactic| walk_at "s") => `(tactic| (with_reducible refine use_law_small ?_))
theorem ok_law_small (T : Txt K mg) : FnOk P w K mg base CX0 1 T.a_law_small T.d_law_small ["_law_word"] (sp_law_small) := by
  refine T.F_law_small.ok sc_law_small (fun vs H Q E h => ?_) (fun cdv A outer s H vs Q E hr h => ?_)
  · obtain ⟨w, rfl, k⟩ := h
    rfl
  · obtain ⟨w, rfl, k⟩ := h
    have hu := hu_of hr
    refine ⟨_, (pss_one (ps_ret (pe_op op_sub (pe_op op_mod (pv 0) pe_int) (pe_op op_mul pe_int (pe_op op_fdiv (pe_op op_mod (pv 0) pe_int) pe_int))))), ?_⟩
    show (_ : TS) _ [some (.int w)] H
    walk_at "w"
    refine Jl.fin_int k ?_
    unfold Jl.s16 Jl.fN
    omega
/-! ### _law_lacks -/
/-- what the law holds beside a machine of state s -/
structure Bes (H : Hp) (pm pr pt : Addr) (s : Jl.MSt) (n : Nat) : Prop where
  mem : Jl.DI H pm s.mem n
  row : H pr = some (.lst (s.regs.map V.int))
  told : H pt = some (.lst (s.outs.map V.int))
theorem Bes.same {H H' : Hp} {pm pr pt : Addr} {s : Jl.MSt} {n : Nat} (e : Same H H') (B : Bes H pm pr pt s n) : Bes H' pm pr pt s n := ⟨B.mem.same e, e _ _ B.row, e _ _ B.told⟩
/-- all that is there is a word -/
structure Wd (s : Jl.MSt) : Prop where
  mem : ∀ a w, s.mem a = some w → 0 ≤ w ∧ w < 4294967296
  r8 : s.regs.length = 8
  rr : ∀ i, 0 ≤ i → i < 8 → 0 ≤ Jl.reg s.regs i ∧ Jl.reg s.regs i < 4294967296
theorem opI_is {w : Int} (h : 0 ≤ w ∧ w < 4294967296) : w / 268435456 = Jl.opI w := by unfold Jl.opI; omega
theorem thereI_is (s : Jl.MSt) (w : Int) : (Jl.reg s.regs (Jl.fB w) + Jl.s16 (Jl.fN w)) % 4294967296 = Jl.thereI s w := rfl

def sp_law_lacks (K : PySem.W.Frag) : Sp := fun vs H Q _ => ∃ (pm pr pt : Addr) (s : Jl.MSt) (n : Nat) (sp : Int), vs = [.ref pm, .ref pr, .int sp] ∧ sp = s.spot ∧ Bes H pm pr pt s n ∧ Wd s ∧ ((s.mem s.spot = none ∧ Q (.int s.spot) H) ∨ ∃ w, s.mem s.spot = some w ∧ (∀ H', Same H H' → ((Jl.opI w = 5 ∨ Jl.opI w = 6) ∧ s.mem (Jl.thereI s w) = none → Q (.int (Jl.thereI s w)) H') ∧ (¬ ((Jl.opI w = 5 ∨ Jl.opI w = 6) ∧ s.mem (Jl.thereI s w) = none) → Q .non H')))
theorem ok_law_lacks (T : Txt K mg) : FnOk P w K mg base CX0 2 T.a_law_lacks T.d_law_lacks ["_law_memory", "_law_row", "_law_here"] (sp_law_lacks K) := by
  have G_law_small := ok_law_small (P := P) (w := w) (base := base) T
  refine T.F_law_lacks.ok sc_law_lacks (fun vs H Q E h => ?_) (fun cdv A outer s H vs Q E hr h => ?_)
  · obtain ⟨pm, pr, pt, s, n, sp, rfl, hsp, B, W, k⟩ := h
    rfl
  · obtain ⟨pm, pr, pt, s, n, sp, rfl, hsp, B, W, k⟩ := h
    have hu := hu_of hr
    refine ⟨_, (pss_cons (ps_if (pt_cmp (pc_dnotin hu (pv 2) (pv 0))) (pss_one (ps_ret (pv 2))) pss_nil)
      (pss_cons (ps_set (i := 3) sc_law_lacks.nd rfl (Or.inl rfl) (pe_dget hu (pv 0) (pv 2) (fun _ _ => rfl)))
      (pss_cons (ps_if (pt_cmpR op_in_seq (pe_op op_fdiv (pv 3) pe_int) (pe_lst (pa_cons pe_int (pa_cons pe_int pa_nil))) rfl) (pss_cons (ps_set (i := 4) sc_law_lacks.nd rfl (Or.inl rfl) (pe_op op_mod (pe_op op_add (pe_ix (r := rIxL K) ix_list (pv 1) (pe_op op_mod (pe_op op_fdiv (pv 3) pe_int) pe_int) (fun _ _ => rfl)) (pe_call (G_law_small) (hr.mono (by decide)) rfl T.m_law_small T.F_law_small.kp T.b_law_small .nil pass0 (pa_cons (pv 3) pa_nil))) pe_int))
      (pss_one (ps_if (pt_cmp (pc_dnotin hu (pv 4) (pv 0))) (pss_one (ps_ret (pv 4))) pss_nil))) pss_nil)
      (pss_one (ps_ret pe_non))))), ?_⟩
    show (_ : TS) _ [some (.ref pm), some (.ref pr), some (.int sp), none, none] H
    subst hsp
    walk_at "w"
    refine Jl.s_dnotin ?_
    walk_at "w"
    refine ⟨pm, _, rfl, B.mem.get s.spot, ?_⟩
    rcases k with ⟨h, k⟩ | ⟨w, h, k⟩
    · rw [h]
      simp only [Option.map_none, Option.isSome_none]
      walk_at "w"
      exact k
    rw [h]
    simp only [Option.map_some, Option.isSome_some]
    have hw := W.mem _ _ h
    have b1 : 0 ≤ Jl.fB w ∧ Jl.fB w < 8 := by unfold Jl.fB; omega
    walk_at "w"
    refine Jl.s_dgetR ?_
    walk_at "w"
    refine ⟨pm, .int w, rfl, B.mem.some_ h, ?_⟩
    walk_at "w"
    refine ⟨(by show 2 ≤ sizeLine; decide), fun p np => ?_⟩
    walk_at "w"
    refine Jl.s_inInts (ns := [5, 6]) Jl.sqU ?_
    rw [opI_is hw]
    walk_at "w"
    have s1 := Jl.same_upd (o := .lst [.int 5, .int 6]) np
    have B1 := B.same s1
    refine Jl.s_iteD (fun g => ?_) (fun g => ?_)
    · have g : Jl.opI w = 5 ∨ Jl.opI w = 6 := by simpa using g
      walk_at "w"
      have ef : w / 4194304 % 8 = Jl.fB w := rfl
      rw [ef]
      refine Jl.s_ixL (.inl (.inl B1.row)) (Jl.atI_reg W.r8 b1.1 b1.2) ?_
      walk_at "w"
      rw [thereI_is]
      refine Jl.s_dnotin ?_
      walk_at "w"
      refine ⟨pm, _, rfl, B1.mem.get (Jl.thereI s w), ?_⟩
      cases h2 : s.mem (Jl.thereI s w) with
      | none =>
        simp only [Option.map_none, Option.isSome_none]
        walk_at "w"
        exact (k _ s1).1 ⟨g, h2⟩
      | some v =>
        simp only [Option.map_some, Option.isSome_some]
        walk_at "w"
        exact (k _ s1).2 fun z => by rw [h2] at z; cases z.2
    · walk_at "w"
      exact (k _ s1).2 fun z => g (by simpa using z.1)
/-! ### _law_made -/
def madeI (f : Int → Option Int) (op w x y : Int) : Int := if op = 5 then (f ((x + Jl.s16 (Jl.fN w)) % 4294967296)).getD 0 else Jl.reckI op x y (Jl.fN w)
theorem turn_two {x : Int} (hx : 0 ≤ x ∧ x < 4294967296) (k : Nat) (hk : k < 32) : (x * 4294967296 + x) / 2 ^ k % 4294967296 = (x / 2 ^ k + x * 2 ^ (32 - k)) % 4294967296 := by
  have e : x * 4294967296 + x = x + x * 2 ^ (32 - k) * 2 ^ k := by
    have : (2 : Int) ^ (32 - k) * 2 ^ k = 4294967296 := by
      rw [← Int.pow_add, show 32 - k + k = 32 by omega]; rfl
    rw [Int.mul_assoc, this]; omega
  have hp : (2 : Int) ^ k ≠ 0 := by
    have := Jl.two_pow_pos k
    omega
  rw [e, Int.add_mul_ediv_right _ _ hp]
def sp_law_made (K : PySem.W.Frag) : Sp := fun vs H Q _ => ∃ (pm : Addr) (op w x y : Int) (f : Int → Option Int) (n : Nat), vs = [.ref pm, .int op, .int w, .int x, .int y] ∧ Jl.DI H pm f n ∧ (op = 2 ∨ op = 3 ∨ op = 4 ∨ op = 5 ∨ op = 7 ∨ op = 8 ∨ op = 9 ∨ op = 10 ∨ op = 11) ∧ (op = 5 → ∃ v, f ((x + Jl.s16 (Jl.fN w)) % 4294967296) = some v) ∧ (0 ≤ x ∧ x < 4294967296) ∧ (0 ≤ y ∧ y < 4294967296) ∧ (∀ z, z % 4294967296 = madeI f op w x y % 4294967296 → Q (.int z) H)
theorem use_made {K : PySem.W.Frag} {pm : Addr} {op w x y : Int} {f : Int → Option Int} {n : Nat} {H : Hp} {Q : VK} {E : XK} (D : Jl.DI H pm f n) (ho : op = 2 ∨ op = 3 ∨ op = 4 ∨ op = 5 ∨ op = 7 ∨ op = 8 ∨ op = 9 ∨ op = 10 ∨ op = 11) (h5 : op = 5 → ∃ v, f ((x + Jl.s16 (Jl.fN w)) % 4294967296) = some v) (hx : 0 ≤ x ∧ x < 4294967296) (hy : 0 ≤ y ∧ y < 4294967296) (z : ∀ z, z % 4294967296 = madeI f op w x y % 4294967296 → Q (.int z) H) : sp_law_made K [.ref pm, .int op, .int w, .int x, .int y] H Q E := ⟨pm, op, w, x, y, f, n, rfl, D, ho, h5, hx, hy, z⟩
theorem ok_law_made (T : Txt K mg) : FnOk P w K mg base CX0 2 T.a_law_made T.d_law_made ["_law_memory", "_law_op", "_law_word", "_law_one", "_law_other"] (sp_law_made K) := by
  have G_law_small := ok_law_small (P := P) (w := w) (base := base) T
  refine T.F_law_made.ok sc_law_made (fun vs H Q E h => ?_) (fun cdv A outer s H vs Q E hr h => ?_)
  · obtain ⟨pm, op, w, x, y, f, n, rfl, D, ho, h5, hx, hy, k⟩ := h
    rfl
  · obtain ⟨pm, op, w, x, y, f, n, rfl, D, ho, h5, hx, hy, k⟩ := h
    have hu := hu_of hr
    refine ⟨_, (pss_cons (ps_if (pt_cmpR op_eq (pv 1) pe_int (nomark _)) (pss_one (ps_ret (pe_op op_mod (pv 2) pe_int))) pss_nil)
      (pss_cons (ps_if (pt_cmpR op_eq (pv 1) pe_int (nomark _)) (pss_one (ps_ret (pe_op op_mul (pe_op op_mod (pv 2) pe_int) pe_int))) pss_nil)
      (pss_cons (ps_if (pt_cmpR op_eq (pv 1) pe_int (nomark _)) (pss_one (ps_ret (pe_op op_add (pv 3) (pe_call (G_law_small) (hr.mono (by decide)) rfl T.m_law_small T.F_law_small.kp T.b_law_small .nil pass0 (pa_cons (pv 2) pa_nil))))) pss_nil)
      (pss_cons (ps_if (pt_cmpR op_eq (pv 1) pe_int (nomark _)) (pss_one (ps_ret (pe_dget hu (pv 0) (pe_op op_mod (pe_op op_add (pv 3) (pe_call (G_law_small) (hr.mono (by decide)) rfl T.m_law_small T.F_law_small.kp T.b_law_small .nil pass0 (pa_cons (pv 2) pa_nil))) pe_int) (fun _ _ => rfl)))) pss_nil)
      (pss_cons (ps_if (pt_cmpR op_eq (pv 1) pe_int (nomark _)) (pss_one (ps_ret (pe_op op_add (pv 3) (pv 4)))) pss_nil)
      (pss_cons (ps_if (pt_cmpR op_eq (pv 1) pe_int (nomark _)) (pss_one (ps_ret (pe_op op_sub (pv 3) (pv 4)))) pss_nil)
      (pss_cons (ps_if (pt_cmpR op_eq (pv 1) pe_int (nomark _)) (pss_one (ps_ret (pe_op op_and (pv 3) (pv 4)))) pss_nil)
      (pss_cons (ps_if (pt_cmpR op_eq (pv 1) pe_int (nomark _)) (pss_one (ps_ret (pe_op op_xor (pv 3) (pv 4)))) pss_nil)
      (pss_one (ps_ret (pe_op op_shr (pe_op op_add (pe_op op_mul (pv 3) pe_int) (pv 3)) (pe_op op_mod (pv 4) pe_int)))))))))))), ?_⟩
    show (_ : TS) _ [some (.ref pm), some (.int op), some (.int w), some (.int x), some (.int y)] H
    unfold madeI Jl.reckI at k
    rcases ho with rfl | rfl | rfl | rfl | rfl | rfl | rfl | rfl | rfl
    · walk_at "wd"; exact k _ rfl
    · walk_at "wd"; refine k _ ?_; show w % 65536 * 65536 % _ = 65536 * (w % 65536) % _; omega
    · walk_at "wd"; refine k _ ?_; show _ = (x + Jl.s16 (Jl.fN w)) % 4294967296 % 4294967296; omega
    · walk_at "wd"
      obtain ⟨v, hv⟩ := h5 rfl
      refine Jl.s_dgetR ?_
      walk_at "w"
      refine ⟨pm, .int v, rfl, D.some_ hv, k _ ?_⟩
      rw [if_pos rfl, hv]; rfl
    · walk_at "wd"; refine k _ ?_; show _ = (x + y) % 4294967296 % 4294967296; omega
    · walk_at "wd"; refine k _ ?_; show _ = (x - y) % 4294967296 % 4294967296; omega
    · walk_at "wd"; exact k _ rfl
    · walk_at "wd"; exact k _ rfl
    · walk_at "wd"
      refine k _ ?_
      show _ = Jl.turnI x y % 4294967296
      unfold Jl.turnI
      rw [Int.emod_emod, ← turn_two hx (y % 32).toNat (by omega)]
/-! ### _law_onward -/
def sp_law_onward : Sp := fun vs H Q _ => ∃ (op w h x y : Int), vs = [.int op, .int w, .int h, .int x, .int y] ∧ Q (.int (if op = 15 then x else if op = 14 then h + 1 + Jl.nearI w else if (op = 12 ∧ x = y) ∨ (op = 13 ∧ x < y) then h + 1 + Jl.splitI w else h + 1)) H
theorem use_law_onward {op w h x y : Int} {H : Hp} {Q : VK} {E : XK} (z : Q (.int (if op = 15 then x else if op = 14 then h + 1 + Jl.nearI w else if (op = 12 ∧ x = y) ∨ (op = 13 ∧ x < y) then h + 1 + Jl.splitI w else h + 1)) H) : sp_law_onward [.int op, .int w, .int h, .int x, .int y] H Q E := ⟨op, w, h, x, y, rfl, z⟩
local macro_rules | `(tactic| walk_at "s") => `(tactic| (with_reducible refine use_law_onward ?_))
theorem ok_law_onward (T : Txt K mg) : FnOk P w K mg base CX0 2 T.a_law_onward T.d_law_onward ["_law_op", "_law_word", "_law_here", "_law_one", "_law_other"] (sp_law_onward) := by
  have G_law_split := ok_law_split (P := P) (w := w) (base := base) T
  have G_law_near := ok_law_near (P := P) (w := w) (base := base) T
  refine T.F_law_onward.ok sc_law_onward (fun vs H Q E h => ?_) (fun cdv A outer s H vs Q E hr h => ?_)
  · obtain ⟨op, w, h, x, y, rfl, k⟩ := h
    rfl
  · obtain ⟨op, w, h, x, y, rfl, k⟩ := h
    have hu := hu_of hr
    refine ⟨_, (pss_cons (ps_if (pt_cmpR op_eq (pv 0) pe_int (nomark _)) (pss_one (ps_ret (pv 3))) pss_nil)
      (pss_cons (ps_if (pt_cmpR op_eq (pv 0) pe_int (nomark _)) (pss_one (ps_ret (pe_op op_add (pe_op op_add (pv 2) pe_int) (pe_call (G_law_near) (hr.mono (by decide)) rfl T.m_law_near T.F_law_near.kp T.b_law_near .nil pass0 (pa_cons (pv 1) pa_nil))))) pss_nil)
      (pss_cons (ps_if (PW.pt (pw_or (PW.pt (pw_and (pt_cmpR op_eq (pv 0) pe_int (nomark _)) (pw_and1 (pt_cmpR op_eq (pv 3) (pv 4) (nomark _))))) (pw_or1 (PW.pt (pw_and (pt_cmpR op_eq (pv 0) pe_int (nomark _)) (pw_and1 (pt_cmpR op_lt (pv 3) (pv 4) (nomark _)))))))) (pss_one (ps_ret (pe_op op_add (pe_op op_add (pv 2) pe_int) (pe_call (G_law_split) (hr.mono (by decide)) rfl T.m_law_split T.F_law_split.kp T.b_law_split .nil pass0 (pa_cons (pv 1) pa_nil))))) pss_nil)
      (pss_one (ps_ret (pe_op op_add (pv 2) pe_int)))))), ?_⟩
    show (_ : TS) _ [some (.int op), some (.int w), some (.int h), some (.int x), some (.int y)] H
    repeat' (first | walk_at "s" | walk_at "d" | walk_at "b")
    all_goals
      refine Jl.fin_int k ?_
      repeat' split
      all_goals first | rfl | omega
/-! ### _law_done -/
theorem one_reg {s : Jl.MSt} {pm pr pt : Addr} {n : Nat} {H : Hp} {K : PySem.W.Frag} (B : Bes H pm pr pt s n) : SqL K H pr (s.regs.map V.int) := .inl (.inl B.row)
theorem gone_is {s : Jl.MSt} {w : Int} : (if Jl.opI w = 15 then Jl.reg s.regs (Jl.fA w) else if Jl.opI w = 14 then s.spot + 1 + Jl.nearI w else if (Jl.opI w = 12 ∧ Jl.reg s.regs (Jl.fA w) = Jl.reg s.regs (Jl.fB w)) ∨ (Jl.opI w = 13 ∧ Jl.reg s.regs (Jl.fA w) < Jl.reg s.regs (Jl.fB w)) then s.spot + 1 + Jl.splitI w else s.spot + 1) % 4294967296 = Jl.goneI s w % 4294967296 := by
  unfold Jl.goneI Jl.nextI
  repeat' split
  all_goals first | rfl | omega
def sp_law_done (K : PySem.W.Frag) : Sp := fun vs H Q _ => ∃ (pm pr pt : Addr) (s : Jl.MSt) (n : Nat) (sp w : Int), vs = [.ref pm, .ref pr, .ref pt, .int sp] ∧ sp = s.spot ∧ Bes H pm pr pt s n ∧ Wd s ∧ n ≤ 1000 ∧ Jl.Goes s w ∧ pr ≠ pt ∧ ∀ H', (∀ b, b ≠ pm → b ≠ pr → b ≠ pt → H' b = H b) → (∀ b o, H b = some o → ∃ o', H' b = some o') → Bes H' pm pr pt (Jl.stepI s w) (n + 1) → Q (if Jl.opI w = 0 then .non else .int (Jl.stepI s w).spot) H'
theorem use_done {K : PySem.W.Frag} {pm pr pt : Addr} {s : Jl.MSt} {n : Nat} {w : Int} {H : Hp} {Q : VK} {E : XK} (B : Bes H pm pr pt s n) (W : Wd s) (hn : n ≤ 1000) (G : Jl.Goes s w) (hne : pr ≠ pt) (z : ∀ H', (∀ b, b ≠ pm → b ≠ pr → b ≠ pt → H' b = H b) → (∀ b o, H b = some o → ∃ o', H' b = some o') → Bes H' pm pr pt (Jl.stepI s w) (n + 1) → Q (if Jl.opI w = 0 then .non else .int (Jl.stepI s w).spot) H') : sp_law_done K [.ref pm, .ref pr, .ref pt, .int s.spot] H Q E := ⟨pm, pr, pt, s, n, _, w, rfl, rfl, B, W, hn, G, hne, z⟩
theorem ok_law_done (T : Txt K mg) : FnOk P w K mg base CX0 3 T.a_law_done T.d_law_done ["_law_memory", "_law_row", "_law_told", "_law_here"] (sp_law_done K) := by
  have G_law_small := ok_law_small (P := P) (w := w) (base := base) T
  have G_law_made := ok_law_made (P := P) (w := w) (base := base) T
  have G_law_onward := ok_law_onward (P := P) (w := w) (base := base) T
  refine T.F_law_done.ok sc_law_done (fun vs H Q E h => ?_) (fun cdv A outer s H vs Q E hr h => ?_)
  · obtain ⟨pm, pr, pt, s, n, sp, w, rfl, hsp, B, W, hn, G, hne, k⟩ := h
    rfl
  · obtain ⟨pm, pr, pt, s, n, sp, w, rfl, hsp, B, W, hn, G, hne, k⟩ := h
    have hu := hu_of hr
    refine ⟨_, (pss_cons (ps_set (i := 4) sc_law_done.nd rfl (Or.inl rfl) (pe_dget hu (pv 0) (pv 3) (fun _ _ => rfl)))
      (pss_cons (ps_set (i := 5) sc_law_done.nd rfl (Or.inl rfl) (pe_op op_fdiv (pv 4) pe_int))
      (pss_cons (ps_set (i := 6) sc_law_done.nd rfl (Or.inl rfl) (pe_op op_mod (pe_op op_fdiv (pv 4) pe_int) pe_int))
      (pss_cons (ps_set (i := 7) sc_law_done.nd rfl (Or.inl rfl) (pe_ix (r := rIxL K) ix_list (pv 1) (pe_op op_mod (pe_op op_fdiv (pv 4) pe_int) pe_int) (fun _ _ => rfl)))
      (pss_cons (ps_set (i := 8) sc_law_done.nd rfl (Or.inl rfl) (pe_ix (r := rIxL K) ix_list (pv 1) (pe_op op_mod (pe_op op_fdiv (pv 4) pe_int) pe_int) (fun _ _ => rfl)))
      (pss_cons (ps_set (i := 9) sc_law_done.nd rfl (Or.inl rfl) (pe_call (G_law_onward) (hr.mono (by decide)) rfl T.m_law_onward T.F_law_onward.kp T.b_law_onward .nil pass0 (pa_cons (pv 5) (pa_cons (pv 4) (pa_cons (pv 3) (pa_cons (pe_ix (r := rIxL K) ix_list (pv 1) (pv 6) (fun _ _ => rfl)) (pa_cons (pv 7) pa_nil)))))))
      (pss_cons (ps_if (pt_cmpR op_eq (pv 5) pe_int (nomark _)) (pss_one (ps_ret pe_non)) pss_nil)
      (pss_cons (ps_if (pt_cmpR op_eq (pv 5) pe_int (nomark _)) (pss_one (ps_expr (pe_bm PySem.F.plainAttrs_list PySem.F.slot_list_append PySem.F.type_list_append mt_append (pv 2) (pa_cons (pe_ix (r := rIxL K) ix_list (pv 1) (pv 6) (fun _ _ => rfl)) pa_nil)))) (pss_one (ps_if (pt_cmpR op_eq (pv 5) pe_int (nomark _)) (pss_one (ps_dput hu (pv 0) (pe_op op_mod (pe_op op_add (pv 7) (pe_call (G_law_small) (hr.mono (by decide)) rfl T.m_law_small T.F_law_small.kp T.b_law_small .nil pass0 (pa_cons (pv 4) pa_nil))) pe_int) (pe_ix (r := rIxL K) ix_list (pv 1) (pv 6) (fun _ _ => rfl)) rfl)) (pss_one (ps_if (pt_cmpR op_eq (pv 5) pe_int (nomark _)) (pss_one (ps_asg (pe_op op_mod (pe_op op_add (pv 3) pe_int) pe_int) (pg_sub (pv 1) (pv 6) set_list))) (pss_one (ps_if (pt_cmpR op_lt (pv 5) pe_int (nomark _)) (pss_one (ps_asg (pe_op op_mod (pe_call (G_law_made) (hr.mono (by decide)) rfl T.m_law_made T.F_law_made.kp T.b_law_made .nil pass0 (pa_cons (pv 0) (pa_cons (pv 5) (pa_cons (pv 4) (pa_cons (pv 7) (pa_cons (pv 8) pa_nil)))))) pe_int) (pg_sub (pv 1) (pv 6) set_list))) pss_nil)))))))
      (pss_one (ps_ret (pe_op op_mod (pv 9) pe_int))))))))))), ?_⟩
    show (_ : TS) _ [some (.ref pm), some (.ref pr), some (.ref pt), some (.int sp), none, none, none, none, none, none] H
    subst hsp
    have hw := W.mem _ _ G.here
    have a1 : 0 ≤ Jl.fA w ∧ Jl.fA w < 8 := by unfold Jl.fA; omega
    have b1 : 0 ≤ Jl.fB w ∧ Jl.fB w < 8 := by unfold Jl.fB; omega
    have c1 : 0 ≤ Jl.fC w ∧ Jl.fC w < 8 := by unfold Jl.fC; omega
    have o1 : 0 ≤ Jl.opI w ∧ Jl.opI w < 16 := by unfold Jl.opI; omega
    obtain ⟨kvs, hkv, hkl, hkk⟩ := B.mem
    have nmr : pm ≠ pr := ne_of hkv B.row (by intro z; cases z)
    have nmt : pm ≠ pt := ne_of hkv B.told (by intro z; cases z)
    have ra := W.rr _ a1.1 a1.2
    have rb := W.rr _ b1.1 b1.2
    have rc := W.rr _ c1.1 c1.2
    have ex : ∀ p v, ∀ b o, H b = some o → ∃ o', upd H p v b = some o' := fun p v b o h => by
      by_cases q : b = p
      · rw [q, upd_same]; exact ⟨_, rfl⟩
      · rw [upd_ne q]; exact ⟨_, h⟩
    walk_at "w"
    refine Jl.s_dgetR ?_
    walk_at "w"
    refine ⟨pm, .int w, rfl, B.mem.some_ G.here, ?_⟩
    walk_at "w"
    have ef : w / 4194304 % 8 = Jl.fB w := rfl
    have ec : w / 524288 % 8 = Jl.fC w := rfl
    have ea : w / 33554432 % 8 = Jl.fA w := rfl
    rw [ef, opI_is hw, ea]
    refine Jl.s_ixL (one_reg B) (Jl.atI_reg W.r8 b1.1 b1.2) ?_
    walk_at "w"
    rw [ec]
    refine Jl.s_ixL (one_reg B) (Jl.atI_reg W.r8 c1.1 c1.2) ?_
    walk_at "w"
    refine Jl.s_ixL (one_reg B) (Jl.atI_reg W.r8 a1.1 a1.2) ?_
    walk_at "w"
    have gi := gone_is (s := s) (w := w)
    generalize hON : (if Jl.opI w = 15 then Jl.reg s.regs (Jl.fA w) else if Jl.opI w = 14 then s.spot + 1 + Jl.nearI w else if (Jl.opI w = 12 ∧ Jl.reg s.regs (Jl.fA w) = Jl.reg s.regs (Jl.fB w)) ∨ (Jl.opI w = 13 ∧ Jl.reg s.regs (Jl.fA w) < Jl.reg s.regs (Jl.fB w)) then s.spot + 1 + Jl.splitI w else s.spot + 1) = on at *
    have enx : Jl.opI w < 12 → on % 4294967296 = Jl.nextI s := fun h => by
      rw [← hON, if_neg (by omega), if_neg (by omega), if_neg (by omega)]; rfl
    have egn : Jl.opI w > 11 → on % 4294967296 = Jl.goneI s w := fun h => by
      rw [gi]
      unfold Jl.goneI Jl.nextI
      repeat' split
      all_goals omega
    refine Jl.s_iteD (fun g => ?_) (fun g0 => ?_)
    · have est : Jl.stepI s w = { s with fin := true } := by unfold Jl.stepI; rw [if_pos g]
      rw [est, if_pos g] at k
      walk_at "w"
      exact k H (fun _ _ _ _ => rfl) (fun b o h => ⟨o, h⟩) ⟨B.mem.le (by omega), B.row, B.told⟩
    rw [if_neg g0] at k
    walk_at "w"
    refine Jl.s_iteD (fun g1 => ?_) (fun g1 => ?_)
    · have est : Jl.stepI s w = { s with outs := s.outs ++ [Jl.reg s.regs (Jl.fA w)], spot := Jl.nextI s } := by unfold Jl.stepI; rw [if_neg g0, if_pos g1]
      rw [est] at k
      have ht := B.told
      walk_at "w"
      refine Jl.s_ixL (one_reg B) (Jl.atI_reg W.r8 a1.1 a1.2) ?_
      walk_at "w"
      · rw [enx (by omega)]
        refine k _ (fun b _ _ h => upd_ne h) (ex _ _) ⟨(B.mem.off nmt.symm).le (by omega), by rw [upd_ne hne]; exact B.row, ?_⟩
        rw [upd_same, List.map_append]; rfl
      · rw [List.length_map]; exact Jl.small5' (by have := G.few; omega)
    walk_at "w"
    refine Jl.s_iteD (fun g6 => ?_) (fun g6 => ?_)
    · have est : Jl.stepI s w = { s with mem := Jl.memPut s.mem (Jl.thereI s w) (Jl.reg s.regs (Jl.fA w)), spot := Jl.nextI s } := by unfold Jl.stepI; rw [if_neg g0, if_neg g1, if_neg (by omega), if_pos g6]
      rw [est] at k
      refine Jl.s_dput ?_
      walk_at "w"
      refine Jl.s_ixL (one_reg B) (Jl.atI_reg W.r8 a1.1 a1.2) ?_
      walk_at "w"
      rw [thereI_is]
      obtain ⟨o5, P5, D5⟩ := B.mem.put (by omega) (Jl.thereI s w) (Jl.reg s.regs (Jl.fA w))
      refine ⟨pm, _, rfl, P5, ?_⟩
      walk_at "w"
      rw [enx (by omega)]
      exact k _ (fun b h _ _ => upd_ne h) (ex _ _) ⟨D5, by rw [upd_ne nmr.symm]; exact B.row, by rw [upd_ne nmt.symm]; exact B.told⟩
    walk_at "w"
    refine Jl.s_iteD (fun g14 => ?_) (fun g14 => ?_)
    · have est : Jl.stepI s w = { s with regs := s.regs.set (Jl.fA w).toNat (Jl.nextI s), spot := Jl.goneI s w } := by unfold Jl.stepI; rw [if_neg g0, if_neg g1, if_neg (by omega), if_neg g6, if_pos (by omega), if_pos g14]
      rw [est] at k
      walk_at "w"
      refine Jl.s_setL B.row (Jl.ixN_ok a1.1 (by rw [List.length_map, W.r8]; exact a1.2)) ?_
      walk_at "w"
      rw [egn (by omega)]
      refine k _ (fun b _ h _ => upd_ne h) (ex _ _) ⟨B.mem.off nmr.symm |>.le (by omega), ?_, by rw [upd_ne hne.symm]; exact B.told⟩
      rw [upd_same, Jl.map_set]; rfl
    walk_at "w"
    refine Jl.s_iteD (fun g12 => ?_) (fun g12 => ?_)
    · have est : Jl.stepI s w = { s with regs := s.regs.set (Jl.fA w).toNat (madeI s.mem (Jl.opI w) w (Jl.reg s.regs (Jl.fB w)) (Jl.reg s.regs (Jl.fC w)) % 4294967296), spot := Jl.nextI s } := by
        unfold Jl.stepI madeI
        rw [if_neg g0, if_neg g1]
        by_cases g5 : Jl.opI w = 5
        · obtain ⟨v, hv⟩ := G.has (.inl g5)
          have := W.mem _ _ hv
          rw [if_pos g5, if_pos g5, thereI_is, hv]
          show _ = ({ s with regs := s.regs.set (Jl.fA w).toNat (v % 4294967296), spot := Jl.nextI s } : Jl.MSt)
          rw [show v % 4294967296 = v by omega]; rfl
        · rw [if_neg g5, if_neg g6, if_neg (by omega), if_neg g5]
          have e : Jl.reckI (Jl.opI w) (Jl.reg s.regs (Jl.fB w)) (Jl.reg s.regs (Jl.fC w)) (Jl.fN w) % 4294967296 = Jl.reckI (Jl.opI w) (Jl.reg s.regs (Jl.fB w)) (Jl.reg s.regs (Jl.fC w)) (Jl.fN w) := by
            have hN : 0 ≤ Jl.fN w ∧ Jl.fN w < 65536 := by unfold Jl.fN; omega
            unfold Jl.reckI Jl.turnI
            repeat' split
            all_goals first | omega | exact Jl.and_word rb.1 rc.1 rc.2 | exact Jl.xor_word rb.1 rc.1 rb.2 rc.2
          rw [e]
      rw [est] at k
      walk_at "w"
      refine use_made B.mem (by omega) (fun h5 => by obtain ⟨v, hv⟩ := G.has (.inl h5); exact ⟨v, by rw [thereI_is]; exact hv⟩) rb rc (fun z hz => ?_)
      walk_at "w"
      rw [hz]
      refine Jl.s_setL B.row (Jl.ixN_ok a1.1 (by rw [List.length_map, W.r8]; exact a1.2)) ?_
      walk_at "w"
      rw [enx g12]
      refine k _ (fun b _ h _ => upd_ne h) (ex _ _) ⟨B.mem.off nmr.symm |>.le (by omega), ?_, by rw [upd_ne hne.symm]; exact B.told⟩
      rw [upd_same, Jl.map_set]
    · have est : Jl.stepI s w = { s with spot := Jl.goneI s w } := by unfold Jl.stepI; rw [if_neg g0, if_neg g1, if_neg (by omega), if_neg g6, if_pos (by omega), if_neg g14]
      rw [est] at k
      walk_at "w"
      rw [egn (by omega)]
      exact k H (fun _ _ _ _ => rfl) (fun b o h => ⟨o, h⟩) ⟨B.mem.le (by omega), B.row, B.told⟩
/-! ### _law_state -/
def sp_law_state (K : PySem.W.Frag) : Sp := fun vs H Q _ => ∃ (q d : Addr) (s : Jl.MSt) (r' o' r1 o1 : Addr), vs = [.ref q, .ref d] ∧ H q = some (.tup [.int s.spot, .ref r', .ref o', .bl s.fin]) ∧ H r' = some (.lst (s.regs.map V.int)) ∧ H o' = some (.lst (s.outs.map V.int)) ∧ H d = some (.tup [.int s.spot, .ref r1, .ref o1, .bl s.fin]) ∧ SqL K H r1 (s.regs.map V.int) ∧ SqL K H o1 (s.outs.map V.int) ∧ s.regs.length ≤ 1000 ∧ s.outs.length ≤ 1000 ∧ ∀ H', Same H H' → Q (.bl true) H'
theorem use_law_state {K : PySem.W.Frag} {q d : Addr} {s : Jl.MSt} {r' o' r1 o1 : Addr} {H : Hp} {Q : VK} {E : XK} (hq : H q = some (.tup [.int s.spot, .ref r', .ref o', .bl s.fin])) (hr0 : H r' = some (.lst (s.regs.map V.int))) (ho : H o' = some (.lst (s.outs.map V.int))) (hd : H d = some (.tup [.int s.spot, .ref r1, .ref o1, .bl s.fin])) (hr1 : SqL K H r1 (s.regs.map V.int)) (ho1 : SqL K H o1 (s.outs.map V.int)) (h1 : s.regs.length ≤ 1000) (h2 : s.outs.length ≤ 1000) (z : ∀ H', Same H H' → Q (.bl true) H') : sp_law_state K [.ref q, .ref d] H Q E := ⟨q, d, s, r', o', r1, o1, rfl, hq, hr0, ho, hd, hr1, ho1, h1, h2, z⟩
theorem ok_law_state (T : Txt K mg) : FnOk P w K mg base CX0 2 T.a_law_state T.d_law_state ["_law_found", "_law_due"] (sp_law_state K) := by
  have G_law_whole := ok_law_whole (P := P) (w := w) (base := base) T
  refine T.F_law_state.ok sc_law_state (fun vs H Q E h => ?_) (fun cdv A outer s H vs Q E hr h => ?_)
  · obtain ⟨q, d, s, r', o', r1, o1, rfl, hq, hr0, ho, hd, hr1, ho1, hl1, hl2, k⟩ := h
    rfl
  · obtain ⟨q, d, s, r', o', r1, o1, rfl, hq, hr0, ho, hd, hr1, ho1, hl1, hl2, k⟩ := h
    have hu := hu_of hr
    refine ⟨_, (pss_cons (ps_if (PW.pt (pw_or (pt_not (pt_val (pe_callB call_isi (by rfl) T.n_isinstance (by decide +kernel) (pa_cons (pv 0) (pa_cons (pe_bltn (v := .ty "tuple") (u := .type "tuple") (by rfl) T.n_tuple (by decide +kernel) rfl) pa_nil))))) (pw_or (pt_cmpR (op_neD hr.units) (pv 0) (pv 1) (nomark _)) (pw_or (pt_not (pt_val (pe_call (G_law_whole) (hr.mono (by decide)) rfl T.m_law_whole T.F_law_whole.kp T.b_law_whole .nil pass0 (pa_cons (pe_ix (r := rIxT K) ix_tup (pv 0) pe_int (fun _ _ => rfl)) pa_nil)))) (pw_or1 (pt_not (pt_val (pe_callB call_isi (by rfl) T.n_isinstance (by decide +kernel) (pa_cons (pe_ix (r := rIxT K) ix_tup (pv 0) pe_int (fun _ _ => rfl)) (pa_cons (pe_bltn (v := .ty "bool") (u := .type "bool") (by rfl) T.n_bool (by decide +kernel) rfl) pa_nil)))))))))) (pss_one (ps_ret pe_bl)) pss_nil)
      (pss_one (ps_ret (pe_cmpR (op_eqD hr.units) (pe_lc (own := [("_law_number", 2)]) (g := gName 2) rfl sc_law_state.nd (pi_list (pe_op (r := Jl.rCatS K) Jl.op_catS (pe_ix (r := rIxT K) ix_tup (pv 0) pe_int (fun _ _ => rfl)) (pe_ix (r := rIxT K) ix_tup (pv 0) pe_int (fun _ _ => rfl)))) (blkOk_by (own := [("_law_number", 2)]) (N := N_law_state) (sc := defScope s_law_state) (by decide +kernel)) (fun _ _ _ _ _ => pg_name (i := 2) sc_law_state.nd rfl (Or.inl rfl)) (fun _ _ _ _ _ => (pts_one (pt_not (pt_val (pe_call (G_law_whole) (hr.mono (by decide)) rfl T.m_law_whole T.F_law_whole.kp T.b_law_whole .nil pass0 (pa_cons (pv 2) pa_nil)))))) (fun _ _ _ _ _ => (pv 2))) (pe_lst pa_nil) (nomark _))))), ?_⟩
    show (_ : TS) _ [some (.ref q), some (.ref d), none] H
    walk_at "w"
    refine Jl.s_isi_tt (k := true) hq (by decide +kernel) ?_
    walk_at "w"
    refine Jl.s_neSt (Jl.dp_st hq (.inl (.inl hr0)) (.inl (.inl ho))) (Jl.dp_st hd hr1 ho1) ?_
    walk_at "w"
    refine Jl.tup_at (i := 0) hq rfl ?_
    walk_at "w"
    refine Jl.tup_at (i := 3) hq rfl ?_
    walk_at "w"
    refine Jl.s_lcNo (xs := (s.regs ++ s.outs).map V.int) (fun R z => ?_) (fun _ => rfl) (fun i x H2 T hx s2 z => ?_) (fun p3 H2 s2 h3 => ?_)
    · walk_at "w"
      refine Jl.tup_at (i := 1) hq rfl ?_
      walk_at "w"
      refine Jl.tup_at (i := 2) hq rfl ?_
      refine ⟨r', o', _, _, rfl, rfl, .inl (.inl hr0), .inl (.inl ho), (by rw [List.length_map, List.length_map]; exact Jl.small5 (by omega)), fun p3 n3 => ?_⟩
      rw [← List.map_append]
      exact z _ _ (Jl.same_upd n3) Jl.sqU
    · obtain ⟨y, _, rfl⟩ := Jl.ints_get hx
      show (_ : TT) [some (.ref q), some (.ref d), some (.int y)] H2 T
      walk_at "w"
      exact z _ (Same.refl _)
    · walk_at "w"
      refine ⟨by decide, fun p4 n4 => ?_⟩
      refine Jl.s_eqNil (Jl.same_upd n4 _ _ h3) upd_same ?_
      exact k _ (s2.trans (Jl.same_upd n4))
/-! ### _law_lost_at -/
def sp_law_lost_at (T : Txt K mg) : Sp := fun vs H Q _ => ∃ (p dx m r o : Addr) (s : Jl.MSt) (pl : Int), vs = [.ref p] ∧ Jl.MachAt T.a_Machine H p dx m r o s ∧ LackI s pl ∧ ∀ H', Same H H' → Q (.int pl) H'
theorem use_lost_at {T : Txt K mg} {p dx m r o : Addr} {s : Jl.MSt} {pl : Int} {H : Hp} {Q : VK} {E : XK} (M : Jl.MachAt T.a_Machine H p dx m r o s) (L : LackI s pl) (z : ∀ H', Same H H' → Q (.int pl) H') : sp_law_lost_at T [.ref p] H Q E := ⟨p, dx, m, r, o, s, pl, rfl, M, L, z⟩
theorem ok_law_lost_at (T : Txt K mg) : FnOk P w K mg base CX0 6 T.a_law_lost_at T.d_law_lost_at ["_law_machine"] (sp_law_lost_at T) := by
  have G_Machine_go_on := ok_Machine_go_on (P := P) (w := w) (base := base) T
  refine T.F_law_lost_at.ok sc_law_lost_at (fun vs H Q E h => ?_) (fun cdv A outer s H vs Q E hr h => ?_)
  · obtain ⟨p, dx, m, r, o, s, pl, rfl, M, L, k⟩ := h
    rfl
  · obtain ⟨p, dx, m, r, o, s, pl, rfl, M, L, k⟩ := h
    have hu := hu_of hr
    refine ⟨_, (pss_cons (ps_set (i := 1) sc_law_lost_at.nd rfl (Or.inl rfl) pe_non)
      (pss_cons (Jl.ps_caught (i := 2) rfl rfl rfl sc_law_lost_at.nd rfl rfl ⟨rfl, by decide, Or.inl T.g_Lost⟩ takes0 (fun W pl xe tk1 po1 => (pss_one (ps_expr (Jl.pe_methX0 (pv 0) T.c_Machine T.me_Machine_go_on (G_Machine_go_on) (hr.mono (by decide)) T.b_Machine_go_on (fun σ => passAt tk1 σ))))) (fun a u cls d pl hz hf => (pss_one (ps_set (i := 1) sc_law_lost_at.nd rfl (Or.inl rfl) (pv 2)))))
      (pss_cons (ps_if (pt_cmpR Jl.op_isN1 (pv 1) pe_non (nomark _)) (pss_one (ps_ret pe_non)) pss_nil)
      (pss_one (ps_ret (Jl.pe_xa (pv 1))))))), ?_⟩
    show (_ : TS) _ [some (.ref p), none, none] H
    walk_at "w"
    refine Jl.s_methX (fun R z => Jl.s_var (by with_unfolding_all rfl) z) M.ob (Jl.mf_no _ _ _ _ _ (by decide +kernel) (by decide +kernel) (by decide +kernel) (by decide +kernel) (by decide +kernel)) ?_
    walk_at "w"
    refine use_go_lost M L (fun d H1 s1 nd hd => ?_)
    refine ⟨true, T.exs_Lost, fun _ a na => ?_, fun z => by cases z⟩
    walk_at "w"
    refine Jl.s_outN ?_
    simp only [List.set_cons_succ, List.set_cons_zero]
    have hd2 := Jl.same_upd (o := Jl.XO (.ref T.a_Lost) (some d) a) na _ _ hd
    walk_at "w"
    refine Jl.s_xa upd_same hd2 (by with_unfolding_all rfl) T.xf_Lost T.no_Lost_place (fun R z => Jl.s_var (by with_unfolding_all rfl) z) ?_
    exact k _ (s1.trans (Jl.same_upd na))
/-! ### _law_stays -/
def sp_law_stays (T : Txt K mg) : Sp := fun vs H Q _ => ∃ (p dx m r o : Addr) (s : Jl.MSt) (d r1 o1 : Addr) (v : V), vs = [.ref p, .ref d, v] ∧ Jl.MachAt T.a_Machine H p dx m r o s ∧ H d = some (.tup [.int s.spot, .ref r1, .ref o1, .bl s.fin]) ∧ SqL K H r1 (s.regs.map V.int) ∧ SqL K H o1 (s.outs.map V.int) ∧ s.regs.length ≤ 1000 ∧ s.outs.length ≤ 1000 ∧ ((v = .non ∧ s.fin = true) ∨ ∃ pl, v = .int pl ∧ LackI s pl) ∧ ∀ H', Same H H' → Q (.bl true) H'
theorem use_stays {T : Txt K mg} {p dx m r o : Addr} {s : Jl.MSt} {d r1 o1 : Addr} {v : V} {H : Hp} {Q : VK} {E : XK} (M : Jl.MachAt T.a_Machine H p dx m r o s) (hd : H d = some (.tup [.int s.spot, .ref r1, .ref o1, .bl s.fin])) (hr1 : SqL K H r1 (s.regs.map V.int)) (ho1 : SqL K H o1 (s.outs.map V.int)) (h1 : s.regs.length ≤ 1000) (h2 : s.outs.length ≤ 1000) (hv : (v = .non ∧ s.fin = true) ∨ ∃ pl, v = .int pl ∧ LackI s pl) (z : ∀ H', Same H H' → Q (.bl true) H') : sp_law_stays T [.ref p, .ref d, v] H Q E := ⟨p, dx, m, r, o, s, d, r1, o1, v, rfl, M, hd, hr1, ho1, h1, h2, hv, z⟩
theorem ok_law_stays (T : Txt K mg) : FnOk P w K mg base CX0 7 T.a_law_stays T.d_law_stays ["_law_machine", "_law_due", "_law_lack"] (sp_law_stays T) := by
  have G_Machine_go_on := ok_Machine_go_on (P := P) (w := w) (base := base) T
  have G_Machine_state := ok_Machine_state (P := P) (w := w) (base := base) T
  have G_law_state := ok_law_state (P := P) (w := w) (base := base) T
  have G_law_lost_at := ok_law_lost_at (P := P) (w := w) (base := base) T
  refine T.F_law_stays.ok sc_law_stays (fun vs H Q E h => ?_) (fun cdv A outer s H vs Q E hr h => ?_)
  · obtain ⟨p, dx, m, r, o, s, d, r1, o1, v, rfl, M, hd, hr1, ho1, h1, h2, hv, k⟩ := h
    rfl
  · obtain ⟨p, dx, m, r, o, s, d, r1, o1, v, rfl, M, hd, hr1, ho1, h1, h2, hv, k⟩ := h
    have hu := hu_of hr
    refine ⟨_, (pss_cons (ps_for PassesOwn.never rfl (pi_range1 (by rfl) T.n_range (pa_cons pe_int pa_nil)) (pg_name (i := 3) sc_law_stays.nd rfl (Or.inl rfl)) (pss_cons (ps_if (pt_cmpR Jl.op_isN1 (pv 2) pe_non (nomark _)) (pss_one (ps_if (pt_cmpR op_notBl (Jl.pe_methX0 (pv 0) T.c_Machine T.me_Machine_go_on (G_Machine_go_on) (hr.mono (by decide)) T.b_Machine_go_on (fun σ => passAt takes0 σ)) pe_bl (nomark _)) (pss_one (ps_ret pe_bl)) pss_nil)) (pss_one (ps_if (pt_cmpR op_ne (pe_call (G_law_lost_at) (hr.mono (by decide)) rfl T.m_law_lost_at T.F_law_lost_at.kp T.b_law_lost_at .nil pass0 (pa_cons (pv 0) pa_nil)) (pv 2) (nomark _)) (pss_one (ps_ret pe_bl)) pss_nil)))
      (pss_one (ps_if (pt_not (pt_val (pe_call (G_law_state) (hr.mono (by decide)) rfl T.m_law_state T.F_law_state.kp T.b_law_state .nil pass0 (pa_cons (pe_meth0 (pv 0) T.c_Machine T.me_Machine_state (G_Machine_state) (hr.mono (by decide)) T.b_Machine_state .nil pass0) (pa_cons (pv 1) pa_nil))))) (pss_one (ps_ret pe_bl)) pss_nil))))
      (pss_one (ps_ret pe_bl))), ?_⟩
    show (_ : TS) _ [some (.ref p), some (.ref d), some (v), none] H
    refine Jl.s_seq (Jl.s_forR1 2 (fun i σ' H' => Same H H' ∧ ∃ w : Option V, σ' = [some (.ref p), some (.ref d), some v, w]) (fun R z => ?_) (by decide) ⟨Same.refl _, none, rfl⟩ (fun i σ' H' hi h => ?_) (fun σ' H' h => ?_))
    · walk_at "w"; exact z
    · obtain ⟨s1, w, rfl⟩ := h
      simp only [List.set_cons_zero, List.set_cons_succ]
      have M1 := M.same s1
      walk_at "w"
      rcases hv with ⟨rfl, hf⟩ | ⟨pl, rfl, L⟩
      · walk_at "w"
        refine Jl.s_methX (fun R z => Jl.s_var (by with_unfolding_all rfl) z) M1.ob (Jl.mf_no _ _ _ _ _ (by decide +kernel) (by decide +kernel) (by decide +kernel) (by decide +kernel) (by decide +kernel)) ?_
        walk_at "w"
        refine use_go_fin M1 hf ?_
        walk_at "wd"
        refine Jl.s_methO (fun R z => Jl.s_var (by with_unfolding_all rfl) z) M1.ob (Jl.mf_no _ _ _ _ _ (by decide +kernel) (by decide +kernel) (by decide +kernel) (by decide +kernel) (by decide +kernel)) ?_
        walk_at "w"
        refine use_state M1 (fun q r' o' H2 s2 nq nr no nro hq hr ho => ?_)
        walk_at "w"
        have s12 := s1.trans s2
        refine use_law_state hq hr ho (s12 _ _ hd) (s12.seq hr1) (s12.seq ho1) h1 h2 (fun H3 s3 => ?_)
        walk_at "w"
        exact ⟨s12.trans s3, _, rfl⟩
      · walk_at "w"
        refine use_lost_at M1 L (fun H2 s2 => ?_)
        walk_at "wd"
        have s12 := s1.trans s2
        have M2 := M1.same s2
        refine Jl.s_methO (fun R z => Jl.s_var (by with_unfolding_all rfl) z) M2.ob (Jl.mf_no _ _ _ _ _ (by decide +kernel) (by decide +kernel) (by decide +kernel) (by decide +kernel) (by decide +kernel)) ?_
        walk_at "w"
        refine use_state M2 (fun q r' o' H3 s3 nq nr no nro hq hr ho => ?_)
        walk_at "w"
        have s13 := s12.trans s3
        refine use_law_state hq hr ho (s13 _ _ hd) (s13.seq hr1) (s13.seq ho1) h1 h2 (fun H4 s4 => ?_)
        walk_at "w"
        exact ⟨s13.trans s4, _, rfl⟩
    · obtain ⟨s1, w, rfl⟩ := h
      walk_at "w"
      exact k _ s1
/-! ### _law_held -/
/-- a state that was told on the way, and what it was -/
def HeldOk (H : Hp) (x : V) : Prop := ∃ (t q r1 r2 o1 : Addr) (a b : V) (ns os : List Int), x = .ref t ∧ H t = some (.tup [.ref q, .ref r2, .int (os.length : Int)]) ∧ H q = some (.tup [a, .ref r1, .ref o1, b]) ∧ H r1 = some (.lst (ns.map V.int)) ∧ H r2 = some (.lst (ns.map V.int)) ∧ H o1 = some (.lst (os.map V.int))
theorem HeldOk.same {H H' : Hp} {x : V} (e : Same H H') (h : HeldOk H x) : HeldOk H' x := by
  obtain ⟨t, q, r1, r2, o1, a, b, ns, os, rfl, h1, h2, h3, h4, h5⟩ := h
  exact ⟨t, q, r1, r2, o1, a, b, ns, os, rfl, e _ _ h1, e _ _ h2, e _ _ h3, e _ _ h4, e _ _ h5⟩
def sp_law_held (K : PySem.W.Frag) : Sp := fun vs H Q _ => ∃ (a : Addr) (xs : List V), vs = [.ref a] ∧ SqL K H a xs ∧ (∀ x ∈ xs, HeldOk H x) ∧ Q (.bl true) H
theorem use_held {K : PySem.W.Frag} {a : Addr} {xs : List V} {H : Hp} {Q : VK} {E : XK} (hx : SqL K H a xs) (hh : ∀ x ∈ xs, HeldOk H x) (z : Q (.bl true) H) : sp_law_held K [.ref a] H Q E := ⟨a, xs, rfl, hx, hh, z⟩
theorem ok_law_held (T : Txt K mg) : FnOk P w K mg base CX0 1 T.a_law_held T.d_law_held ["_law_held_here"] (sp_law_held K) := by
  refine T.F_law_held.ok sc_law_held (fun vs H Q E h => ?_) (fun cdv A outer s H vs Q E hr h => ?_)
  · obtain ⟨a, xs, rfl, hx, hh, k⟩ := h
    rfl
  · obtain ⟨a, xs, rfl, hx, hh, k⟩ := h
    have hu := hu_of hr
    refine ⟨_, (pss_cons (ps_for PassesOwn.never rfl (pi_list (pv 0)) (pg_tup rfl (pgs_cons (pg_name (i := 1) sc_law_held.nd rfl (Or.inl rfl)) (pgs_cons (pg_name (i := 2) sc_law_held.nd rfl (Or.inl rfl)) (pgs_cons (pg_name (i := 3) sc_law_held.nd rfl (Or.inl rfl)) pgs_nil)))) (pss_one (ps_if (PW.pt (pw_or (pt_cmpR (op_neD hr.units) (pe_ix (r := rIxT K) ix_tup (pv 1) pe_int (fun _ _ => rfl)) (pv 2) (nomark _)) (pw_or1 (pt_cmpR op_ne (pe_callB (r := Jl.rLenL K) Jl.cl_lenL (by rfl) T.n_len (by decide +kernel) (pa_cons (pe_ix (r := rIxT K) ix_tup (pv 1) pe_int (fun _ _ => rfl)) pa_nil)) (pv 3) (nomark _))))) (pss_one (ps_ret pe_bl)) pss_nil)))
      (pss_one (ps_ret pe_bl))), ?_⟩
    show (_ : TS) _ [some (.ref a), none, none, none] H
    refine Jl.s_seq (Jl.s_forLg (xs := xs) (fun i σ' H' => H' = H ∧ ∃ v1 v2 v3 : Option V, σ' = [some (.ref a), v1, v2, v3]) H (fun R z => ?_) hx ⟨rfl, none, none, none, rfl⟩ (fun i σ' H' _ h => by rw [h.1]; exact hx) (fun i x σ' H' hi h => ?_) (fun σ' H' h => ?_))
    · walk_at "w"; exact z
    · obtain ⟨e, v1, v2, v3, rfl⟩ := h
      subst e
      obtain ⟨t, q, r1, r2, o1, b, c, ns, os, rfl, h1, h2, h3, h4, h5⟩ := hh x (List.mem_of_getElem? hi)
      walk_at "w"
      refine Jl.tup_at (i := 1) h2 rfl ?_
      walk_at "w"
      refine Jl.s_neInts (.inl (.inl h3)) (.inl (.inl h4)) ?_
      walk_at "wd"
      refine Jl.tup_at (i := 2) h2 rfl ?_
      walk_at "w"
      refine Jl.s_lenL (.inl (.inl h5)) ?_
      rw [List.length_map]
      walk_at "wd"
      exact ⟨rfl, _, _, _, rfl⟩
    · obtain ⟨e, v1, v2, v3, rfl⟩ := h
      subst e
      walk_at "w"
      exact k
/-! ### _law_runs -/
theorem wd_step {s : Jl.MSt} {w : Int} (W : Wd s) (G : Jl.Goes s w) : Wd (Jl.stepI s w) ∧ (Jl.stepI s w).outs.length ≤ s.outs.length + 1 ∧ ((Jl.opI w = 0 → (Jl.stepI s w).fin = true ∧ (Jl.stepI s w).spot = s.spot) ∧ (Jl.opI w ≠ 0 → (Jl.stepI s w).fin = false)) := by
  have a1 : 0 ≤ Jl.fA w ∧ Jl.fA w < 8 := by unfold Jl.fA; omega
  have b1 : 0 ≤ Jl.fB w ∧ Jl.fB w < 8 := by unfold Jl.fB; omega
  have c1 : 0 ≤ Jl.fC w ∧ Jl.fC w < 8 := by unfold Jl.fC; omega
  have ra := W.rr _ a1.1 a1.2
  have rb := W.rr _ b1.1 b1.2
  have rc := W.rr _ c1.1 c1.2
  have set_ : ∀ v : Int, 0 ≤ v ∧ v < 4294967296 → ∀ (m : Int → Option Int) (sp : Int) (o : List Int) (e : Bool), (∀ a w, m a = some w → 0 ≤ w ∧ w < 4294967296) → Wd ⟨m, sp, s.regs.set (Jl.fA w).toNat v, o, e⟩ := fun v hv m sp o e hm => by
    refine ⟨hm, by rw [List.length_set]; exact W.r8, fun i h0 h8 => ?_⟩
    show 0 ≤ Jl.reg (s.regs.set (Jl.fA w).toNat v) i ∧ Jl.reg (s.regs.set (Jl.fA w).toNat v) i < 4294967296
    rw [Jl.reg_set (by rw [W.r8]; omega) a1.1 h0]
    split
    · exact hv
    · exact W.rr i h0 h8
  unfold Jl.stepI
  by_cases g0 : Jl.opI w = 0
  · rw [if_pos g0]
    exact ⟨⟨W.mem, W.r8, W.rr⟩, Nat.le_succ _, fun _ => ⟨rfl, rfl⟩, fun h => absurd g0 h⟩
  rw [if_neg g0]
  by_cases g1 : Jl.opI w = 1
  · rw [if_pos g1]
    exact ⟨⟨W.mem, W.r8, W.rr⟩, by show (s.outs ++ [_]).length ≤ _; rw [List.length_append]; exact Nat.le_refl _, fun h => absurd h g0, fun _ => G.run⟩
  rw [if_neg g1]
  by_cases g5 : Jl.opI w = 5
  · rw [if_pos g5]
    obtain ⟨v, hv⟩ := G.has (.inl g5)
    rw [hv]
    exact ⟨set_ v (W.mem _ _ hv) _ _ _ _ W.mem, Nat.le_succ _, fun h => absurd h g0, fun _ => G.run⟩
  rw [if_neg g5]
  by_cases g6 : Jl.opI w = 6
  · rw [if_pos g6]
    refine ⟨⟨fun a v h => ?_, W.r8, W.rr⟩, Nat.le_succ _, fun h => absurd h g0, fun _ => G.run⟩
    have h : Jl.memPut s.mem (Jl.thereI s w) (Jl.reg s.regs (Jl.fA w)) a = some v := h
    unfold Jl.memPut at h
    split at h
    · cases h; exact ra
    · exact W.mem a v h
  rw [if_neg g6]
  by_cases g12 : Jl.opI w > 11
  · rw [if_pos g12]
    by_cases g14 : Jl.opI w = 14
    · rw [if_pos g14]
      exact ⟨set_ _ (by unfold Jl.nextI; omega) _ _ _ _ W.mem, Nat.le_succ _, fun h => absurd h g0, fun _ => G.run⟩
    · rw [if_neg g14]
      exact ⟨⟨W.mem, W.r8, W.rr⟩, Nat.le_succ _, fun h => absurd h g0, fun _ => G.run⟩
  rw [if_neg g12]
  refine ⟨set_ _ ?_ _ _ _ _ W.mem, Nat.le_succ _, fun h => absurd h g0, fun _ => G.run⟩
  have hN : 0 ≤ Jl.fN w ∧ Jl.fN w < 65536 := by unfold Jl.fN; omega
  have e1 := Jl.and_word rb.1 rc.1 rc.2
  have e2 := Jl.xor_word rb.1 rc.1 rb.2 rc.2
  have e3 := Int.emod_nonneg (Builtin.bitAnd (Jl.reg s.regs (Jl.fB w)) (Jl.reg s.regs (Jl.fC w))) (show (2 : Int) ^ 32 ≠ 0 by decide)
  have e4 := Int.emod_lt_of_pos (Builtin.bitAnd (Jl.reg s.regs (Jl.fB w)) (Jl.reg s.regs (Jl.fC w))) (show (0 : Int) < 2 ^ 32 by decide)
  have e5 := Int.emod_nonneg (Builtin.bitXor (Jl.reg s.regs (Jl.fB w)) (Jl.reg s.regs (Jl.fC w))) (show (2 : Int) ^ 32 ≠ 0 by decide)
  have e6 := Int.emod_lt_of_pos (Builtin.bitXor (Jl.reg s.regs (Jl.fB w)) (Jl.reg s.regs (Jl.fC w))) (show (0 : Int) < 2 ^ 32 by decide)
  rw [e1] at e3 e4
  rw [e2] at e5 e6
  have p32 : (2 : Int) ^ 32 = 4294967296 := by decide
  rw [p32] at e4 e6
  unfold Jl.reckI Jl.turnI
  repeat' split
  all_goals first | omega | exact ⟨e3, e4⟩ | exact ⟨e5, e6⟩
theorem goes_or {s : Jl.MSt} (W : Wd s) (hf : s.fin = false) (ho : s.outs.length ≤ 1000) : (s.mem s.spot = none ∧ LackI s s.spot) ∨ ∃ w, s.mem s.spot = some w ∧ ((((Jl.opI w = 5 ∨ Jl.opI w = 6) ∧ s.mem (Jl.thereI s w) = none) ∧ LackI s (Jl.thereI s w)) ∨ (¬ ((Jl.opI w = 5 ∨ Jl.opI w = 6) ∧ s.mem (Jl.thereI s w) = none) ∧ Jl.Goes s w)) := by
  cases h : s.mem s.spot with
  | none => exact .inl ⟨rfl, hf, .inl ⟨h, rfl⟩⟩
  | some w =>
    refine .inr ⟨w, rfl, ?_⟩
    by_cases g : (Jl.opI w = 5 ∨ Jl.opI w = 6) ∧ s.mem (Jl.thereI s w) = none
    · exact .inl ⟨g, hf, .inr ⟨w, h, W.r8, g.1, g.2, rfl⟩⟩
    · refine .inr ⟨g, hf, h, W.r8, W.rr, ho, fun z => ?_⟩
      cases q : s.mem (Jl.thereI s w) with
      | none => exact absurd ⟨z, q⟩ g
      | some v => exact ⟨v, rfl⟩
/-- cells of a machine in other's eyes -/
theorem mach_keep {C : Addr} {H H' : Hp} {p dx m r o : Addr} {s : Jl.MSt} (M : Jl.MachAt C H p dx m r o s) (k : ∀ b, (b = p ∨ b = m ∨ b = r ∨ b = o) → H' b = H b) : Jl.MachAt C H' p dx m r o s := by
  obtain ⟨kvs, h1, h2, h3⟩ := M.dc
  exact ⟨by rw [k p (by simp)]; exact M.ob, ⟨kvs, by rw [k m (by simp)]; exact h1, h2, h3⟩, by rw [k r (by simp)]; exact M.rg, by rw [k o (by simp)]; exact M.ou, M.ne⟩
def sp_law_runs (T : Txt K mg) : Sp := fun vs H Q _ => ∃ (p dx m r o : Addr) (s : Jl.MSt) (pm pr : Addr) (sp : Int) (B Hf : Hp) (n : Nat), vs = [.ref p, .ref pm, .ref pr, .int sp, .int 60] ∧ sp = s.spot ∧ Jl.Act B Hf H [p, m, r, o, pr, pm] ∧ Jl.MachAt T.a_Machine H p dx m r o s ∧ Jl.DI H pm s.mem n ∧ H pr = some (.lst (s.regs.map V.int)) ∧ Wd s ∧ s.fin = false ∧ s.outs = [] ∧ n ≤ 200 ∧ ∀ H' s', Same Hf H' → Jl.MachAt T.a_Machine H' p dx m r o s' → Jl.DI H' pm s'.mem 1000 → Q (.bl true) H'
theorem use_runs {T : Txt K mg} {p dx m r o : Addr} {s : Jl.MSt} {pm pr : Addr} {sp : Int} {B Hf : Hp} {n : Nat} {H : Hp} {Q : VK} {E : XK} (hsp : sp = s.spot) (C : Jl.Act B Hf H [p, m, r, o, pr, pm]) (M : Jl.MachAt T.a_Machine H p dx m r o s) (D : Jl.DI H pm s.mem n) (hr : H pr = some (.lst (s.regs.map V.int))) (W : Wd s) (hf : s.fin = false) (ho : s.outs = []) (hn : n ≤ 200) (z : ∀ H' s', Same Hf H' → Jl.MachAt T.a_Machine H' p dx m r o s' → Jl.DI H' pm s'.mem 1000 → Q (.bl true) H') : sp_law_runs T [.ref p, .ref pm, .ref pr, .int sp, .int 60] H Q E := ⟨p, dx, m, r, o, s, pm, pr, sp, B, Hf, n, rfl, hsp, C, M, D, hr, W, hf, ho, hn, z⟩
theorem ok_law_runs (T : Txt K mg) : FnOk P w K mg base CX0 8 T.a_law_runs T.d_law_runs ["_law_machine", "_law_memory", "_law_row", "_law_here", "_law_most"] (sp_law_runs T) := by
  have G_Machine_go_on := ok_Machine_go_on (P := P) (w := w) (base := base) T
  have G_Machine_state := ok_Machine_state (P := P) (w := w) (base := base) T
  have G_law_lacks := ok_law_lacks (P := P) (w := w) (base := base) T
  have G_law_done := ok_law_done (P := P) (w := w) (base := base) T
  have G_law_state := ok_law_state (P := P) (w := w) (base := base) T
  have G_law_stays := ok_law_stays (P := P) (w := w) (base := base) T
  have G_law_held := ok_law_held (P := P) (w := w) (base := base) T
  refine T.F_law_runs.ok sc_law_runs (fun vs H Q E h => ?_) (fun cdv A outer s H vs Q E hr h => ?_)
  · obtain ⟨p, dx, m, r, o, s, pm, pr, sp, B, Hf, n, rfl, hsp, C, M, D, hrow, W, hf, ho, hn, k⟩ := h
    rfl
  · obtain ⟨p, dx, m, r, o, s, pm, pr, sp, B, Hf, n, rfl, hsp, C, M, D, hrow, W, hf, ho, hn, k⟩ := h
    have hu := hu_of hr
    refine ⟨_, (pss_cons (ps_set (i := 5) sc_law_runs.nd rfl (Or.inl rfl) (pe_lst pa_nil))
      (pss_cons (ps_set (i := 6) sc_law_runs.nd rfl (Or.inl rfl) (pe_lst pa_nil))
      (pss_cons (ps_for PassesOwn.never rfl (pi_range1 (by rfl) T.n_range (pa_cons (pv 4) pa_nil)) (pg_name (i := 7) sc_law_runs.nd rfl (Or.inl rfl)) (pss_cons (ps_set (i := 8) sc_law_runs.nd rfl (Or.inl rfl) (pe_call (G_law_lacks) (hr.mono (by decide)) rfl T.m_law_lacks T.F_law_lacks.kp T.b_law_lacks .nil pass0 (pa_cons (pv 1) (pa_cons (pv 2) (pa_cons (pv 3) pa_nil)))))
      (pss_cons (ps_if (pt_cmpR Jl.op_notN1 (pv 8) pe_non (nomark _)) (pss_one (ps_ret (pe_and (pe_call (G_law_stays) (hr.mono (by decide)) rfl T.m_law_stays T.F_law_stays.kp T.b_law_stays .nil pass0 (pa_cons (pv 0) (pa_cons (pe_tup (pa_cons (pv 3) (pa_cons (pv 2) (pa_cons (pv 5) (pa_cons pe_bl pa_nil))))) (pa_cons (pv 8) pa_nil)))) (pe_one (pe_call (G_law_held) (hr.mono (by decide)) rfl T.m_law_held T.F_law_held.kp T.b_law_held .nil pass0 (pa_cons (pv 6) pa_nil)))))) pss_nil)
      (pss_cons (ps_set (i := 9) sc_law_runs.nd rfl (Or.inl rfl) (pe_call (G_law_done) (hr.mono (by decide)) rfl T.m_law_done T.F_law_done.kp T.b_law_done .nil pass0 (pa_cons (pv 1) (pa_cons (pv 2) (pa_cons (pv 5) (pa_cons (pv 3) pa_nil))))))
      (pss_cons (ps_if (pt_cmpR op_notBl (Jl.pe_methX0 (pv 0) T.c_Machine T.me_Machine_go_on (G_Machine_go_on) (hr.mono (by decide)) T.b_Machine_go_on (fun σ => passAt takes0 σ)) pe_bl (nomark _)) (pss_one (ps_ret pe_bl)) pss_nil)
      (pss_cons (ps_if (pt_cmpR Jl.op_isN1 (pv 9) pe_non (nomark _)) (pss_one (ps_ret (pe_and (pe_call (G_law_stays) (hr.mono (by decide)) rfl T.m_law_stays T.F_law_stays.kp T.b_law_stays .nil pass0 (pa_cons (pv 0) (pa_cons (pe_tup (pa_cons (pv 3) (pa_cons (pv 2) (pa_cons (pv 5) (pa_cons pe_bl pa_nil))))) (pa_cons pe_non pa_nil)))) (pe_one (pe_call (G_law_held) (hr.mono (by decide)) rfl T.m_law_held T.F_law_held.kp T.b_law_held .nil pass0 (pa_cons (pv 6) pa_nil)))))) pss_nil)
      (pss_cons (ps_set (i := 3) sc_law_runs.nd rfl (Or.inl rfl) (pv 9))
      (pss_cons (ps_set (i := 10) sc_law_runs.nd rfl (Or.inl rfl) (pe_meth0 (pv 0) T.c_Machine T.me_Machine_state (G_Machine_state) (hr.mono (by decide)) T.b_Machine_state .nil pass0))
      (pss_cons (ps_if (pt_not (pt_val (pe_call (G_law_state) (hr.mono (by decide)) rfl T.m_law_state T.F_law_state.kp T.b_law_state .nil pass0 (pa_cons (pv 10) (pa_cons (pe_tup (pa_cons (pv 3) (pa_cons (pv 2) (pa_cons (pv 5) (pa_cons pe_bl pa_nil))))) pa_nil))))) (pss_one (ps_ret pe_bl)) pss_nil)
      (pss_one (ps_expr (pe_bm PySem.F.plainAttrs_list PySem.F.slot_list_append PySem.F.type_list_append mt_append (pv 6) (pa_cons (pe_tup (pa_cons (pv 10) (pa_cons (pe_callTy (r := Jl.rListO K) Jl.cl_listO (by rfl) T.n_list (by decide +kernel) (pa_cons (pv 2) pa_nil)) (pa_cons (pe_callB (r := Jl.rLenL K) Jl.cl_lenL (by rfl) T.n_len (by decide +kernel) (pa_cons (pv 5) pa_nil)) pa_nil)))) pa_nil)))))))))))))
      (pss_one (ps_ret (pe_call (G_law_held) (hr.mono (by decide)) rfl T.m_law_held T.F_law_held.kp T.b_law_held .nil pass0 (pa_cons (pv 6) pa_nil))))))), ?_⟩
    show (_ : TS) _ [some (.ref p), some (.ref pm), some (.ref pr), some (.int sp), some (.int 60), none, none, none, none, none, none] H
    subst hsp
    walk_at "w"
    refine ⟨by decide, fun pt npt => ?_⟩
    have C1 := C.newA (o := .lst []) npt
    have s1 := Jl.same_upd (o := .lst []) npt
    walk_at "w"
    refine ⟨by decide, fun ph nph => ?_⟩
    have C2 := C1.newA (o := .lst []) nph
    have s2 := Jl.same_upd (o := .lst []) nph
    have s12 := s1.trans s2
    walk_at "w"
    have N := C2.nd
    have B2 : Bes (upd (upd H pt (.lst [])) ph (.lst [])) pm pr pt s (n + 0) := ⟨D.same s12, s12 _ _ hrow, by rw [ho]; exact s2 _ _ upd_same⟩
    have M2 := M.same s12
    have hh2 : (upd (upd H pt (.lst [])) ph (.lst [])) ph = some (.lst []) := upd_same
    generalize upd (upd H pt (.lst [])) ph (.lst []) = H2 at *
    refine Jl.s_seq (Jl.s_forR1 60 (fun i σ' H' => ∃ (F : Hp) (s : Jl.MSt), Same Hf F ∧ Jl.Act B F H' [ph, pt, p, m, r, o, pr, pm] ∧ Jl.MachAt T.a_Machine H' p dx m r o s ∧ Bes H' pm pr pt s (n + i) ∧ Wd s ∧ s.fin = false ∧ s.outs.length ≤ i ∧ (∃ xs : List V, H' ph = some (.lst xs) ∧ xs.length ≤ i ∧ ∀ x ∈ xs, HeldOk F x) ∧ ∃ v1 v2 v3 v4, σ' = [some (.ref p), some (.ref pm), some (.ref pr), some (.int s.spot), some (.int 60), some (.ref pt), some (.ref ph), v1, v2, v3, v4]) (fun R z => ?_) (by decide) ⟨Hf, s, Same.refl _, C2, M2, B2, W, hf, by rw [ho]; exact Nat.le_refl _, ⟨[], hh2, Nat.le_refl _, fun x hx => by cases hx⟩, none, none, none, none, rfl⟩ (fun i σ' H3 hi h => ?_) (fun σ' H3 h => ?_))
    · walk_at "w"; exact z
    · clear B2 M2 hh2 C2 C1 s1 s2 s12 C M D hrow W hf ho
      obtain ⟨F, s, sF, C, M, Bs, W, hf, ho, ⟨xs, hxs, hxl, hxh⟩, v1, v2, v3, v4, rfl⟩ := h
      have sp0 := N
      simp only [List.set_cons_zero, List.set_cons_succ]
      rcases goes_or W hf (by omega) with ⟨hno, L⟩ | ⟨w, hw, ⟨g, L⟩ | ⟨g, G⟩⟩
      · walk_at "w"
        refine ⟨pm, pr, pt, s, _, _, rfl, rfl, Bs, W, .inl ⟨hno, ?_⟩⟩
        walk_at "w"
        refine ⟨(by show 4 ≤ sizeLine; decide), fun pd npd => ?_⟩
        walk_at "w"
        have sd := Jl.same_upd (o := .tup [.int s.spot, .ref pr, .ref pt, .bl false]) npd
        refine use_stays (M.same sd) (by rw [hf]; exact upd_same) (.inl (.inl (sd _ _ Bs.row))) (.inl (.inl (sd _ _ Bs.told))) (by rw [W.r8]; decide) (by omega) (.inr ⟨_, rfl, L⟩) (fun H4 s4 => ?_)
        have s34 := sd.trans s4
        walk_at "w"
        refine use_held (.inl (.inl (s34 _ _ hxs))) (fun x hx => (hxh x hx).same (C.ext.trans s34)) ?_
        exact k _ s (sF.trans (C.ext.trans s34)) (M.same s34) ((Bs.mem.same s34).le (by omega))
      · walk_at "w"
        refine ⟨pm, pr, pt, s, _, _, rfl, rfl, Bs, W, .inr ⟨w, hw, fun H4 s4 => ⟨fun _ => ?_, fun z => absurd g z⟩⟩⟩
        walk_at "w"
        refine ⟨(by show 4 ≤ sizeLine; decide), fun pd npd => ?_⟩
        walk_at "w"
        have sd := s4.trans (Jl.same_upd (o := .tup [.int s.spot, .ref pr, .ref pt, .bl false]) npd)
        refine use_stays (M.same sd) (by rw [hf]; exact upd_same) (.inl (.inl (sd _ _ Bs.row))) (.inl (.inl (sd _ _ Bs.told))) (by rw [W.r8]; decide) (by omega) (.inr ⟨_, rfl, L⟩) (fun H5 s5 => ?_)
        have s34 := sd.trans s5
        walk_at "w"
        refine use_held (.inl (.inl (s34 _ _ hxs))) (fun x hx => (hxh x hx).same (C.ext.trans s34)) ?_
        exact k _ s (sF.trans (C.ext.trans s34)) (M.same s34) ((Bs.mem.same s34).le (by omega))
      walk_at "w"
      refine ⟨pm, pr, pt, s, _, _, rfl, rfl, Bs, W, .inr ⟨w, hw, fun H4 s4 => ⟨fun z => absurd z g, fun _ => ?_⟩⟩⟩
      have C4 := C.sm s4
      have M4 := M.same s4
      have B4 := Bs.same s4
      have hx4 := s4 _ _ hxs
      walk_at "w"
      refine use_done B4 W (by omega) G (Jl.nd_ne N 1 6 (by decide) rfl rfl).symm (fun H5 e5 ex5 B5 => ?_)
      have M5 : Jl.MachAt T.a_Machine H5 p dx m r o s := mach_keep M4 fun b hb => e5 b
        (by rcases hb with rfl | rfl | rfl | rfl
            · exact Jl.nd_ne N 2 7 (by decide) rfl rfl
            · exact Jl.nd_ne N 3 7 (by decide) rfl rfl
            · exact Jl.nd_ne N 4 7 (by decide) rfl rfl
            · exact Jl.nd_ne N 5 7 (by decide) rfl rfl)
        (by rcases hb with rfl | rfl | rfl | rfl
            · exact Jl.nd_ne N 2 6 (by decide) rfl rfl
            · exact Jl.nd_ne N 3 6 (by decide) rfl rfl
            · exact Jl.nd_ne N 4 6 (by decide) rfl rfl
            · exact Jl.nd_ne N 5 6 (by decide) rfl rfl)
        (by rcases hb with rfl | rfl | rfl | rfl
            · exact (Jl.nd_ne N 1 2 (by decide) rfl rfl).symm
            · exact (Jl.nd_ne N 1 3 (by decide) rfl rfl).symm
            · exact (Jl.nd_ne N 1 4 (by decide) rfl rfl).symm
            · exact (Jl.nd_ne N 1 5 (by decide) rfl rfl).symm)
      have hx5 := (e5 ph (Jl.nd_ne N 0 7 (by decide) rfl rfl) (Jl.nd_ne N 0 6 (by decide) rfl rfl) (Jl.nd_ne N 0 1 (by decide) rfl rfl)).trans hx4
      walk_at "w"
      refine Jl.s_methX (fun R z => Jl.s_var (by with_unfolding_all rfl) z) M5.ob (Jl.mf_no _ _ _ _ _ (by decide +kernel) (by decide +kernel) (by decide +kernel) (by decide +kernel) (by decide +kernel)) ?_
      walk_at "w"
      refine use_go_on M5 G (fun H6 k6 M6 => ?_)
      have B6 : Bes H6 pm pr pt (Jl.stepI s w) (n + i + 1) := by
        obtain ⟨kvs, hd1, hd2, hd3⟩ := B5.mem
        exact ⟨⟨kvs, k6 _ _ hd1 (Jl.nd_ne N 2 7 (by decide) rfl rfl).symm (Jl.nd_ne N 3 7 (by decide) rfl rfl).symm (Jl.nd_ne N 4 7 (by decide) rfl rfl).symm (Jl.nd_ne N 5 7 (by decide) rfl rfl).symm, hd2, hd3⟩,
          k6 _ _ B5.row (Jl.nd_ne N 2 6 (by decide) rfl rfl).symm (Jl.nd_ne N 3 6 (by decide) rfl rfl).symm (Jl.nd_ne N 4 6 (by decide) rfl rfl).symm (Jl.nd_ne N 5 6 (by decide) rfl rfl).symm,
          k6 _ _ B5.told (Jl.nd_ne N 1 2 (by decide) rfl rfl) (Jl.nd_ne N 1 3 (by decide) rfl rfl) (Jl.nd_ne N 1 4 (by decide) rfl rfl) (Jl.nd_ne N 1 5 (by decide) rfl rfl)⟩
      have hx6 := k6 _ _ hx5 (Jl.nd_ne N 0 2 (by decide) rfl rfl) (Jl.nd_ne N 0 3 (by decide) rfl rfl) (Jl.nd_ne N 0 4 (by decide) rfl rfl) (Jl.nd_ne N 0 5 (by decide) rfl rfl)
      have C6 : Jl.Act B F H6 [ph, pt, p, m, r, o, pr, pm] := C4.chg (C := [pt, p, m, r, o, pr, pm]) (fun b v hb hc => by
          simp only [List.mem_cons, List.not_mem_nil, or_false, not_or] at hc
          obtain ⟨c1, c2, c3, c4, c5, c6, c7⟩ := hc
          exact k6 b v ((e5 b c7 c6 c1).trans hb) c2 c3 c4 c5) fun b hb => by
        refine ⟨List.mem_cons_of_mem _ hb, ?_⟩
        obtain ⟨kvs, hd1, hd2, hd3⟩ := B6.mem
        obtain ⟨kvs2, hd4, hd5, hd6⟩ := M6.dc
        simp only [List.mem_cons, List.not_mem_nil, or_false] at hb
        rcases hb with rfl | rfl | rfl | rfl | rfl | rfl | rfl
        · exact ⟨_, B6.told⟩
        · exact ⟨_, M6.ob⟩
        · exact ⟨_, hd4⟩
        · exact ⟨_, M6.rg⟩
        · exact ⟨_, M6.ou⟩
        · exact ⟨_, B6.row⟩
        · exact ⟨_, hd1⟩
      obtain ⟨W6, ho6, hz6, hf6⟩ := wd_step W G
      generalize hst : Jl.stepI s w = s6 at *
      by_cases g0 : Jl.opI w = 0
      · rw [if_pos g0]
        walk_at "wd"
        refine ⟨(by show 4 ≤ sizeLine; decide), fun pd npd => ?_⟩
        walk_at "w"
        have sd := Jl.same_upd (o := .tup [.int s.spot, .ref pr, .ref pt, .bl true]) npd
        obtain ⟨hf1, hsp1⟩ := hz6 g0
        refine use_stays (M6.same sd) (by rw [hf1, hsp1]; exact upd_same) (.inl (.inl (sd _ _ B6.row))) (.inl (.inl (sd _ _ B6.told))) (by rw [W6.r8]; decide) (by omega) (.inl ⟨rfl, hf1⟩) (fun H7 s7 => ?_)
        have s67 := sd.trans s7
        walk_at "w"
        refine use_held (.inl (.inl (s67 _ _ hx6))) (fun x hx => (hxh x hx).same (C6.ext.trans s67)) ?_
        exact k _ s6 (sF.trans (C6.ext.trans s67)) (M6.same s67) ((B6.mem.same s67).le (by omega))
      rw [if_neg g0]
      have hfs := hf6 g0
      walk_at "wd"
      refine Jl.s_methO (fun R z => Jl.s_var (by with_unfolding_all rfl) z) M6.ob (Jl.mf_no _ _ _ _ _ (by decide +kernel) (by decide +kernel) (by decide +kernel) (by decide +kernel) (by decide +kernel)) ?_
      walk_at "w"
      refine use_state M6 (fun q r' o' H7 s7 nq nr no nro hq hr7 ho7 => ?_)
      have C7 := C6.sm s7
      walk_at "w"
      refine ⟨(by show 4 ≤ sizeLine; decide), fun pd npd => ?_⟩
      have sd := s7.trans (Jl.same_upd (o := .tup [.int s6.spot, .ref pr, .ref pt, .bl false]) npd)
      have C8 := C7.sm (Jl.same_upd (o := .tup [.int s6.spot, .ref pr, .ref pt, .bl false]) npd)
      have s78 := Jl.same_upd (o := .tup [.int s6.spot, .ref pr, .ref pt, .bl false]) npd
      have hd8 : (upd H7 pd (.tup [.int s6.spot, .ref pr, .ref pt, .bl false])) pd = some (.tup [.int s6.spot, .ref pr, .ref pt, .bl false]) := upd_same
      have hq8 := s78 _ _ hq
      have hr8 := s78 _ _ hr7
      have ho8 := s78 _ _ ho7
      generalize upd H7 pd (.tup [.int s6.spot, .ref pr, .ref pt, .bl false]) = H8 at *
      walk_at "w"
      refine use_law_state hq8 hr8 ho8 (by rw [hfs]; exact hd8) (.inl (.inl (sd _ _ B6.row))) (.inl (.inl (sd _ _ B6.told))) (by rw [W6.r8]; decide) (by omega) (fun H9 s9 => ?_)
      have C9 := C8.sm s9
      have s69 := sd.trans s9
      have hx9 := s69 _ _ hx6
      walk_at "w"
      refine Jl.s_listO (.inl (.inl (s69 _ _ B6.row))) (fun pu npu => ?_)
      have CA := C9.sm (Jl.same_upd (o := .lst (s6.regs.map V.int)) npu)
      have sA := Jl.same_upd (o := .lst (s6.regs.map V.int)) npu
      have hpu : (upd H9 pu (.lst (s6.regs.map V.int))) pu = some (.lst (s6.regs.map V.int)) := upd_same
      have hxA := sA _ _ hx9
      have s6A := s69.trans sA
      generalize upd H9 pu (.lst (s6.regs.map V.int)) = HA at *
      walk_at "w"
      refine Jl.s_lenL (.inl (.inl (s6A _ _ B6.told))) ?_
      rw [List.length_map]
      walk_at "w"
      refine ⟨(by show 3 ≤ sizeLine; decide), fun pv npv => ?_⟩
      have CB := CA.sm (Jl.same_upd (o := .tup [.ref q, .ref pu, .int (s6.outs.length : Int)]) npv)
      have sB := Jl.same_upd (o := .tup [.ref q, .ref pu, .int (s6.outs.length : Int)]) npv
      have hpv : (upd HA pv (.tup [.ref q, .ref pu, .int (s6.outs.length : Int)])) pv = some (.tup [.ref q, .ref pu, .int (s6.outs.length : Int)]) := upd_same
      have hxB := sB _ _ hxA
      have hpu := sB _ _ hpu
      have s8B := (s9.trans sA).trans sB
      have s6B := s6A.trans sB
      generalize upd HA pv (.tup [.ref q, .ref pu, .int (s6.outs.length : Int)]) = HB at *
      walk_at "w"
      · have nu : pu ∉ [ph, pt, p, m, r, o, pr, pm] := C9.out npu
        have nv : pv ∉ [ph, pt, p, m, r, o, pr, pm] := CA.out npv
        obtain ⟨F1, t1, D1, q1⟩ := CB.frz (s8B _ _ hq8) (C6.out nq)
        obtain ⟨F2, t2, D2, q2⟩ := D1.frz (s8B _ _ hr8) (C6.out nr)
        obtain ⟨F3, t3, D3, q3⟩ := D2.frz (s8B _ _ ho8) (C6.out no)
        obtain ⟨F4, t4, D4, q4⟩ := D3.frz hpu nu
        obtain ⟨F5, t5, D5, q5⟩ := D4.frz hpv nv
        have D6 := D5.upd (a := ph) (o := .lst (xs ++ [.ref pv])) (by simp)
        have tF : Same F F5 := (((t1.trans t2).trans t3).trans t4).trans t5
        have off : ∀ {a : Addr} {v : HO}, a ≠ ph → H6 a = some v → (upd HB ph (.lst (xs ++ [.ref pv]))) a = some v := fun h e => by rw [upd_ne h]; exact s6B _ _ e
        refine ⟨F5, s6, sF.trans tF, D6, ?_, ⟨?_, off (Jl.nd_ne N 0 6 (by decide) rfl rfl).symm B6.row, off (Jl.nd_ne N 0 1 (by decide) rfl rfl).symm B6.told⟩, W6, hfs, by omega, ⟨_, upd_same, ?_, fun x hx => ?_⟩, _, _, _, _, rfl⟩
        · exact (M6.same s6B).off (Jl.nd_ne N 0 2 (by decide) rfl rfl) (Jl.nd_ne N 0 3 (by decide) rfl rfl) (Jl.nd_ne N 0 4 (by decide) rfl rfl) (Jl.nd_ne N 0 5 (by decide) rfl rfl)
        · exact (B6.mem.same s6B).off (Jl.nd_ne N 0 7 (by decide) rfl rfl)
        · rw [List.length_append, List.length_singleton]; omega
        · rcases List.mem_append.mp hx with hx | hx
          · exact (hxh x hx).same tF
          · cases List.mem_singleton.mp hx
            exact ⟨pv, q, r', pu, o', _, _, s6.regs, s6.outs, rfl, q5, (((t2.trans t3).trans t4).trans t5) _ _ q1, ((t3.trans t4).trans t5) _ _ q2, t5 _ _ q4, (t4.trans t5) _ _ q3⟩
      · exact Jl.small5' (by omega)
    obtain ⟨F, s, sF, C, M, Bs, W, hf, ho, ⟨xs, hxs, hxl, hxh⟩, v1, v2, v3, v4, rfl⟩ := h
    walk_at "w"
    refine use_held (.inl (.inl hxs)) (fun x hx => (hxh x hx).same C.ext) ?_
    exact k _ s (sF.trans C.ext) M (Bs.mem.le (by omega))
/-! ### law -/
def sp_law (K : PySem.W.Frag) : Sp := fun vs H Q _ => ∃ (a : Addr) (ns : List Int), vs = [.ref a] ∧ SqL K H a (ns.map V.int) ∧ ns.length ≤ 63 ∧ ∀ H', Q (.bl true) H'
theorem ok_law (T : Txt K mg) : FnOk P w K mg base CX0 9 T.a_law T.d_law ["_law_script"] (sp_law K) := by
  have G_Machine___init__ := ok_Machine___init__ (P := P) (w := w) (base := base) T
  have G_Machine_state := ok_Machine_state (P := P) (w := w) (base := base) T
  have G_Machine_word_at := ok_Machine_word_at (P := P) (w := w) (base := base) T
  have G_law_whole := ok_law_whole (P := P) (w := w) (base := base) T
  have G_law_cell_at := ok_law_cell_at (P := P) (w := w) (base := base) T
  have G_law_word_by := ok_law_word_by (P := P) (w := w) (base := base) T
  have G_law_state := ok_law_state (P := P) (w := w) (base := base) T
  have G_law_runs := ok_law_runs (P := P) (w := w) (base := base) T
  refine T.F_law.ok sc_law (fun vs H Q E h => ?_) (fun cdv A outer s H vs Q E hr h => ?_)
  · obtain ⟨a, ns, rfl, hS, hlen, k⟩ := h
    rfl
  · obtain ⟨a, ns, rfl, hS, hlen, k⟩ := h
    have hu := hu_of hr
    refine ⟨_, (pss_cons (ps_set (i := 1) sc_law.nd rfl (Or.inl rfl) (pe_slice (r := rSlL K) sl_list (pv 0) (po_some pe_int) (po_some pe_int)))
      (pss_cons (ps_set (i := 2) sc_law.nd rfl (Or.inl rfl) (pe_call (G_law_cell_at) (hr.mono (by decide)) rfl T.m_law_cell_at T.F_law_cell_at.kp T.b_law_cell_at .nil pass0 (pa_cons (pv 0) (pa_cons pe_int pa_nil))))
      (pss_cons (ps_set (i := 3) sc_law.nd rfl (Or.inl rfl) (pe_ix (r := rIxL K) ix_list (pe_lst (pa_cons (pe_op op_mod (pe_op op_mul (pv 2) pe_int) pe_int) (pa_cons (pe_op op_sub pe_int (pe_op op_mod (pe_op op_fdiv (pv 2) pe_int) pe_int)) (pa_cons (pe_op op_add pe_int (pe_op op_mod (pe_op op_fdiv (pv 2) pe_int) pe_int)) pa_nil)))) (pe_op op_mod (pv 2) pe_int) (fun _ _ => rfl)))
      (pss_cons (ps_set (i := 4) sc_law.nd rfl (Or.inl rfl) pe_dnewK)
      (pss_cons (ps_for PassesOwn.never rfl (pi_range1 (by rfl) T.n_range (pa_cons (pe_callB (r := Jl.rLenL K) Jl.cl_lenL (by rfl) T.n_len (by decide +kernel) (pa_cons (pv 1) pa_nil)) pa_nil)) (pg_name (i := 5) sc_law.nd rfl (Or.inl rfl)) (pss_one (ps_dput hu (pv 4) (pe_op op_mod (pe_op op_add (pv 3) (pv 5)) pe_int) (pe_call (G_law_word_by) (hr.mono (by decide)) rfl T.m_law_word_by T.F_law_word_by.kp T.b_law_word_by .nil pass0 (pa_cons (pe_ix (r := rIxL K) ix_list (pv 1) (pv 5) (fun _ _ => rfl)) pa_nil)) rfl)))
      (pss_cons (ps_set (i := 6) sc_law.nd rfl (Or.inl rfl) (pe_op op_mod (pe_op op_mul (pe_call (G_law_cell_at) (hr.mono (by decide)) rfl T.m_law_cell_at T.F_law_cell_at.kp T.b_law_cell_at .nil pass0 (pa_cons (pv 0) (pa_cons pe_int pa_nil))) pe_int) pe_int))
      (pss_cons (ps_set (i := 7) sc_law.nd rfl (Or.inl rfl) (pe_lst pa_nil))
      (pss_cons (ps_for PassesOwn.never rfl (pi_range1 (by rfl) T.n_range (pa_cons pe_int pa_nil)) (pg_name (i := 5) sc_law.nd rfl (Or.inl rfl)) (pss_one (ps_if (pt_cmpR op_eq (pe_op op_mod (pe_op op_add (pe_op op_fdiv (pv 6) pe_int) (pv 5)) pe_int) pe_int (nomark _)) (pss_one (ps_expr (pe_bm PySem.F.plainAttrs_list PySem.F.slot_list_append PySem.F.type_list_append mt_append (pv 7) (pa_cons (pe_op op_mod (pe_op op_mul (pe_op op_mul (pv 6) (pe_op op_add (pv 5) pe_int)) pe_int) pe_int) pa_nil)))) (pss_one (ps_expr (pe_bm PySem.F.plainAttrs_list PySem.F.slot_list_append PySem.F.type_list_append mt_append (pv 7) (pa_cons (pe_op op_mod (pe_op op_sub (pe_op op_add (pv 3) (pe_op op_mod (pe_op op_mod (pe_op op_mul (pv 6) (pe_op op_add (pv 5) pe_int)) pe_int) (pe_op op_add (pe_callB (r := Jl.rLenL K) Jl.cl_lenL (by rfl) T.n_len (by decide +kernel) (pa_cons (pv 1) pa_nil)) pe_int))) pe_int) pe_int) pa_nil)))))))
      (pss_cons (ps_set (i := 8) sc_law.nd rfl (Or.inl rfl) (pe_op op_mod (pe_op op_add (pv 3) (pe_op op_mod (pe_call (G_law_cell_at) (hr.mono (by decide)) rfl T.m_law_cell_at T.F_law_cell_at.kp T.b_law_cell_at .nil pass0 (pa_cons (pv 0) (pa_cons pe_int pa_nil))) (pe_op op_add pe_int (pe_op op_fdiv (pe_callB (r := Jl.rLenL K) Jl.cl_lenL (by rfl) T.n_len (by decide +kernel) (pa_cons (pv 1) pa_nil)) pe_int)))) pe_int))
      (pss_cons (ps_set (i := 9) sc_law.nd rfl (Or.inl rfl) (pe_make T.k_Machine (G_Machine___init__) (hr.mono (by decide)) rfl T.g_Machine T.b_Machine___init__ .nil pass0 (pa_cons (pe_callTy Jl.cl_dictD (by rfl) T.n_dict (by decide +kernel) (pa_cons (pv 4) pa_nil)) (pa_cons (pv 8) (pa_cons (pe_callTy (r := Jl.rListO K) Jl.cl_listO (by rfl) T.n_list (by decide +kernel) (pa_cons (pv 7) pa_nil)) pa_nil)))))
      (pss_cons (ps_if (pt_not (pt_val (pe_call (G_law_state) (hr.mono (by decide)) rfl T.m_law_state T.F_law_state.kp T.b_law_state .nil pass0 (pa_cons (pe_meth0 (pv 9) T.c_Machine T.me_Machine_state (G_Machine_state) (hr.mono (by decide)) T.b_Machine_state .nil pass0) (pa_cons (pe_tup (pa_cons (pv 8) (pa_cons (pv 7) (pa_cons (pe_lst pa_nil) (pa_cons pe_bl pa_nil))))) pa_nil))))) (pss_one (ps_ret pe_bl)) pss_nil)
      (pss_cons (ps_if (pt_not (pt_val (pe_call (G_law_runs) (hr.mono (by decide)) rfl T.m_law_runs T.F_law_runs.kp T.b_law_runs .nil pass0 (pa_cons (pv 9) (pa_cons (pv 4) (pa_cons (pv 7) (pa_cons (pv 8) (pa_cons pe_int pa_nil)))))))) (pss_one (ps_ret pe_bl)) pss_nil)
      (pss_cons (ps_for PassesOwn.never rfl (pi_range2 (by rfl) T.n_range (pa_cons (pe_op op_sub pe_int pe_int) (pa_cons (pe_op op_add (pe_callB (r := Jl.rLenL K) Jl.cl_lenL (by rfl) T.n_len (by decide +kernel) (pa_cons (pv 1) pa_nil)) pe_int) pa_nil))) (pg_name (i := 5) sc_law.nd rfl (Or.inl rfl)) (pss_cons (ps_set (i := 10) sc_law.nd rfl (Or.inl rfl) (pe_op op_mod (pe_op op_add (pv 3) (pv 5)) pe_int))
      (pss_cons (ps_set (i := 11) sc_law.nd rfl (Or.inl rfl) (pe_meth (pv 9) T.c_Machine T.me_Machine_word_at (G_Machine_word_at) (hr.mono (by decide)) T.b_Machine_word_at .nil pass0 (pa_cons (pv 10) pa_nil)))
      (pss_one (ps_if (pt_cmp (pc_din hu (pv 10) (pv 4))) (pss_one (ps_if (PW.pt (pw_or (pt_not (pt_val (pe_call (G_law_whole) (hr.mono (by decide)) rfl T.m_law_whole T.F_law_whole.kp T.b_law_whole .nil pass0 (pa_cons (pv 11) pa_nil)))) (pw_or1 (pt_cmpR op_ne (pv 11) (pe_dget hu (pv 4) (pv 10) (fun _ _ => rfl)) (nomark _))))) (pss_one (ps_ret pe_bl)) pss_nil)) (pss_one (ps_if (pt_cmpR Jl.op_notN1 (pv 11) pe_non (nomark _)) (pss_one (ps_ret pe_bl)) pss_nil)))))))
      (pss_one (ps_ret pe_bl))))))))))))))), ?_⟩
    show (_ : TS) _ [some (.ref a), none, none, none, none, none, none, none, none, none, none, none] H
    walk_at "w"
    refine ⟨a, _, rfl, hS, fun pc npc => ?_⟩
    have ecs : cutV (ns.map V.int) (some 3) (some 103) = (((ns.drop 3).take 100).map V.int) := by
      rw [List.map_take, List.map_drop]
      exact Jl.cutV_mid 3 103 (by decide)
    rw [ecs]
    have hcl : ((ns.drop 3).take 100).length ≤ 63 := by rw [List.length_take, List.length_drop]; omega
    generalize (ns.drop 3).take 100 = cs at *
    clear ecs
    have s1 := Jl.same_upd (o := .lst (cs.map V.int)) npc
    have hpc : (upd H pc (.lst (cs.map V.int))) pc = some (.lst (cs.map V.int)) := upd_same
    generalize upd H pc (.lst (cs.map V.int)) = H1 at *
    walk_at "w"
    refine use_cell_at (s1.seq hS) (by decide) ?_
    generalize ns.getD (0 : Int).toNat 0 = fst
    walk_at "w"
    refine ⟨(by show 3 ≤ sizeLine; decide), fun p3 n3 => ?_⟩
    walk_at "w"
    obtain ⟨st, stm, hst⟩ := Jl.atI_in (ns := [fst * 48271 % 4294967296, 4294967295 - fst / 3 % 90, 1 + fst / 3 % 5]) (i := fst % 3) (by show (-3 : Int) ≤ _; omega) (by show _ < (3 : Int); omega)
    have hs0 : st = fst * 48271 % 4294967296 ∨ st = 4294967295 - fst / 3 % 90 ∨ st = 1 + fst / 3 % 5 := by simpa using stm
    have hs : 0 ≤ st ∧ st < 4294967296 := by omega
    clear stm hs0
    refine Jl.s_ixL (xs := [fst * 48271 % 4294967296, 4294967295 - fst / 3 % 90, 1 + fst / 3 % 5].map V.int) Jl.sqU hst ?_
    have s2 := s1.trans (Jl.same_upd (o := .lst [.int (fst * 48271 % 4294967296), .int (4294967295 - fst / 3 % 90), .int (1 + fst / 3 % 5)]) n3)
    have hpc2 := Jl.same_upd (o := .lst [.int (fst * 48271 % 4294967296), .int (4294967295 - fst / 3 % 90), .int (1 + fst / 3 % 5)]) n3 _ _ hpc
    generalize upd H1 p3 (.lst [.int (fst * 48271 % 4294967296), .int (4294967295 - fst / 3 % 90), .int (1 + fst / 3 % 5)]) = H2 at *
    walk_at "w"
    refine fun pm npm => ?_
    walk_at "w"
    have C0 := (Jl.Act.start H2).newA (o := .dK []) npm
    refine Jl.s_seq (Jl.s_forR1 (cs.length : Int) (fun i σ' H' => Jl.Act H2 H2 H' [pm] ∧ (∃ f, Jl.DI H' pm f i ∧ ∀ a w, f a = some w → 0 ≤ w ∧ w < 4294967296) ∧ ∃ v, σ' = [some (.ref a), some (.ref pc), some (.int fst), some (.int st), some (.ref pm), v, none, none, none, none, none, none]) (fun R z => ?_) (by omega) ⟨C0, ⟨_, Jl.DI.new, fun a w h => by cases h⟩, none, rfl⟩ (fun i σ' H' hi h => ?_) (fun σ' H3 h => ?_))
    · walk_at "w"
      refine Jl.s_lenL (.inl (.inl (C0.ext _ _ hpc2))) ?_
      rw [List.length_map]
      walk_at "w"
      exact z
    · obtain ⟨C, ⟨f, D, hf⟩, v, rfl⟩ := h
      simp only [List.set_cons_zero, List.set_cons_succ]
      obtain ⟨c, hc⟩ : ∃ c, cs[i]? = some c := ⟨_, List.getElem?_eq_getElem (by omega)⟩
      refine Jl.s_dput ?_
      walk_at "w"
      refine Jl.s_ixL (.inl (.inl (C.ext _ _ hpc2))) (Jl.atI_int hc rfl) ?_
      walk_at "w"
      obtain ⟨o, P, D2⟩ := D.put (by omega) ((st + (i : Int)) % 4294967296) (wordI c)
      refine ⟨pm, _, rfl, P, C.upd (by simp), ⟨_, D2, fun a w h => ?_⟩, _, rfl⟩
      unfold Jl.memPut at h
      split at h
      · cases h; exact wordI_ok c
      · exact hf a w h
    obtain ⟨C3, ⟨f, D3, hf⟩, v, rfl⟩ := h
    rw [show ((cs.length : Int)).toNat = cs.length from rfl] at D3
    walk_at "w"
    refine use_cell_at ((s2.trans C3.ext).seq hS) (by decide) ?_
    walk_at "w"
    generalize ns.getD (1 : Int).toNat 0 * 1583458089 = nn
    have hnum : 0 ≤ nn % 2147483647 ∧ nn % 2147483647 < 2147483647 := by omega
    generalize nn % 2147483647 = num at *
    refine ⟨by decide, fun pr npr => ?_⟩
    have C4 := C3.newA (o := .lst []) npr
    have rmn : pr ≠ pm := by
      obtain ⟨kvs, h, _⟩ := D3
      exact (ne_of_none h npr).symm
    have D4 := D3.off (o := .lst []) rmn
    walk_at "w"
    refine Jl.s_seq (Jl.s_forR1 8 (fun i σ' H' => Jl.Act H2 H2 H' [pr, pm] ∧ Jl.DI H' pm f cs.length ∧ (∃ rs : List Int, H' pr = some (.lst (rs.map V.int)) ∧ rs.length = i ∧ ∀ x ∈ rs, 0 ≤ x ∧ x < 4294967296) ∧ ∃ v, σ' = [some (.ref a), some (.ref pc), some (.int fst), some (.int st), some (.ref pm), v, some (.int num), some (.ref pr), none, none, none, none]) (fun R z => ?_) (by decide) ⟨C4, D4, ⟨[], upd_same, rfl, fun x hx => by cases hx⟩, v, rfl⟩ (fun i σ' H' hi h => ?_) (fun σ' H5 h => ?_))
    · walk_at "w"
      exact z
    · obtain ⟨C, D, ⟨rs, hrs, hrl, hrr⟩, v, rfl⟩ := h
      simp only [List.set_cons_zero, List.set_cons_succ]
      have app : ∀ x : Int, (0 ≤ x ∧ x < 4294967296) → ∀ y ∈ rs ++ [x], 0 ≤ y ∧ y < 4294967296 := fun x hx y hy => by
        rcases List.mem_append.mp hy with hy | hy
        · exact hrr y hy
        · cases List.mem_singleton.mp hy; exact hx
      walk_at "w"
      refine Jl.s_iteD (fun g => ?_) (fun g => ?_)
      · walk_at "w"
        · refine ⟨C.upd (by simp), D.off rmn, ⟨rs ++ [num * ((i : Int) + 1) * 7919 % 4294967296], ?_, by rw [List.length_append, hrl]; rfl, app _ (by omega)⟩, _, rfl⟩
          rw [upd_same, List.map_append]; rfl
        · rw [List.length_map]; exact Jl.small5' (by omega)
      · walk_at "w"
        refine Jl.s_lenL (.inl (.inl (C.ext _ _ hpc2))) ?_
        rw [List.length_map]
        walk_at "w"
        · refine ⟨C.upd (by simp), D.off rmn, ⟨rs ++ [(st + num * ((i : Int) + 2) % 1009 % ((cs.length : Int) + 3) - 1) % 4294967296], ?_, by rw [List.length_append, hrl]; rfl, app _ (by omega)⟩, _, rfl⟩
          rw [upd_same, List.map_append]; rfl
        · rw [List.length_map]; exact Jl.small5' (by omega)
    obtain ⟨C5, D5, ⟨rs, hrs, hrl, hrr⟩, v, rfl⟩ := h
    have hrl : rs.length = 8 := hrl
    have hreg : ∀ i, 0 ≤ i → i < 8 → 0 ≤ Jl.reg rs i ∧ Jl.reg rs i < 4294967296 := fun i h0 h8 => by
      refine hrr _ ?_
      unfold Jl.reg
      rw [List.getD_eq_getElem?_getD, List.getElem?_eq_getElem (by omega)]
      exact List.getElem_mem _
    walk_at "w"
    refine use_cell_at ((s2.trans C5.ext).seq hS) (by decide) ?_
    walk_at "w"
    refine Jl.s_lenL (.inl (.inl (C5.ext _ _ hpc2))) ?_
    rw [List.length_map]
    walk_at "w"
    generalize hbg : (st + ns.getD (2 : Int).toNat 0 % (2 + (cs.length : Int) / 8)) % 4294967296 = bg at *
    obtain ⟨kvs, hk1, hk2, hk3⟩ := id D5
    refine Jl.s_dictD hk1 (fun q nq => ?_)
    have C6 := C5.sm (Jl.same_upd (o := .dK kvs) nq)
    have s6 := Jl.same_upd (o := .dK kvs) nq
    have hq : (upd H5 q (.dK kvs)) q = some (.dK kvs) := upd_same
    generalize upd H5 q (.dK kvs) = H6 at *
    walk_at "w"
    refine Jl.s_listO (.inl (.inl (s6 _ _ hrs))) (fun q2 nq2 => ?_)
    have C7 := C6.sm (Jl.same_upd (o := .lst (rs.map V.int)) nq2)
    have s7 := Jl.same_upd (o := .lst (rs.map V.int)) nq2
    have hq2 : (upd H6 q2 (.lst (rs.map V.int))) q2 = some (.lst (rs.map V.int)) := upd_same
    have hq := s7 _ _ hq
    generalize upd H6 q2 (.lst (rs.map V.int)) = H7 at *
    walk_at "w"
    refine make_machine f hq (.inl (.inl hq2)) (by omega) hk3 (fun p dx m r o H8 s8 np nm nr no M => ?_)
    have C8 := C7.mach s8 np nm nr no M
    have s58 := (s6.trans s7).trans s8
    have D8 := D5.same s58
    have hr8 := s58 _ _ hrs
    walk_at "w"
    refine Jl.s_methO (fun R z => Jl.s_var (by with_unfolding_all rfl) z) M.ob (Jl.mf_no _ _ _ _ _ (by decide +kernel) (by decide +kernel) (by decide +kernel) (by decide +kernel) (by decide +kernel)) ?_
    walk_at "w"
    refine use_state M (fun q r' o' H9 s9 nq' nr' no' nro hq9 hr9 ho9 => ?_)
    walk_at "w"
    refine ⟨by decide, fun pe npe => ?_⟩
    walk_at "w"
    refine ⟨(by show 4 ≤ sizeLine; decide), fun pt npt => ?_⟩
    have sA := (Jl.same_upd (o := .lst []) npe).trans (Jl.same_upd (o := .tup [.int bg, .ref pr, .ref pe, .bl false]) npt)
    have s8A := s9.trans sA
    walk_at "w"
    refine use_law_state (sA _ _ hq9) (sA _ _ hr9) (sA _ _ ho9) upd_same (.inl (.inl (s8A _ _ hr8))) (.inl (.inl (Jl.same_upd npt _ _ upd_same))) (by show rs.length ≤ 1000; rw [hrl]; decide) (Nat.zero_le _) (fun HB sB => ?_)
    have s8B := s8A.trans sB
    have CB := C8.sm s8B
    walk_at "w"
    refine use_runs rfl CB (M.same s8B) (D8.same s8B) (s8B _ _ hr8) ⟨hf, hrl, hreg⟩ rfl rfl (by omega) (fun HC s' sC MC DC => ?_)
    walk_at "w"
    refine Jl.s_seq (Jl.s_forR2 (-2) ((cs.length : Int) + 2) (fun i σ' H' => H' = HC ∧ ∃ v1 v2 v3 : Option V, σ' = [some (.ref a), some (.ref pc), some (.int fst), some (.int st), some (.ref pm), v1, some (.int num), some (.ref pr), some (.int bg), some (.ref p), v2, v3]) (fun R z => ?_) (by omega) ⟨rfl, _, _, _, rfl⟩ (fun i σ' H' hi h => ?_) (fun σ' H' h => ?_))
    · walk_at "w"
      refine Jl.s_lenL (.inl (.inl (sC _ _ hpc2))) ?_
      rw [List.length_map]
      walk_at "w"
      exact z
    · obtain ⟨e, v1, v2, v3, rfl⟩ := h
      subst e
      simp only [List.set_cons_zero, List.set_cons_succ]
      generalize (st + (-2 + (i : Int))) % 4294967296 = pl
      walk_at "w"
      refine Jl.s_methO (fun R z => Jl.s_var (by with_unfolding_all rfl) z) MC.ob (Jl.mf_no _ _ _ _ _ (by decide +kernel) (by decide +kernel) (by decide +kernel) (by decide +kernel) (by decide +kernel)) ?_
      walk_at "w"
      refine use_word_at MC ?_
      walk_at "w"
      refine Jl.s_din ?_
      walk_at "w"
      refine ⟨pm, _, rfl, DC.get _, ?_⟩
      cases hx : s'.mem ((st + (-2 + (i : Int))) % 4294967296) with
      | none =>
        simp only [Option.map_none, Option.isSome_none, Jl.optW]
        walk_at "w"
        exact ⟨rfl, _, _, _, rfl⟩
      | some w =>
        simp only [Option.map_some, Option.isSome_some, Jl.optW]
        walk_at "w"
        refine Jl.s_dgetR ?_
        walk_at "w"
        refine ⟨pm, .int w, rfl, DC.some_ hx, ?_⟩
        walk_at "wd"
        exact ⟨rfl, _, _, _, rfl⟩
    · obtain ⟨e, v1, v2, v3, rfl⟩ := h
      subst e
      walk_at "w"
      exact k _
end
theorem all_mk {l : PySem.W.OpenLaw} {w : World} {K : PySem.W.Frag} {h : Heap} {mg : Str → Option Value} {fa a_Machine a_Lost a_wrapped a_field a_signed a_turned a_parts_of a_near_of a_split_of a_reckoned a_Lost___init__ a_Machine___init__ a_Machine_word_needed a_Machine_put_at a_Machine_gone_to a_Machine_go_on a_Machine_state a_Machine_word_at a_law_whole a_law_cell_at a_law_word_by a_law_split a_law_near a_law_small a_law_lacks a_law_made a_law_onward a_law_done a_law_state a_law_lost_at a_law_stays a_law_held a_law_runs a_law : Addr} (X : K.In h) (G : h.Ns mainGlobals mg) (hfa : mg "law" = some (.ref fa))
    {od_wrapped an_wrapped : Option Addr} {sl_wrapped : Array (Option Value)} {oc_wrapped kV_wrapped dc_wrapped pm_wrapped cd_wrapped ct_wrapped : Value}
    {od_field an_field : Option Addr} {sl_field : Array (Option Value)} {oc_field kV_field dc_field pm_field cd_field ct_field : Value}
    {od_signed an_signed : Option Addr} {sl_signed : Array (Option Value)} {oc_signed kV_signed dc_signed pm_signed cd_signed ct_signed : Value}
    {od_turned an_turned : Option Addr} {sl_turned : Array (Option Value)} {oc_turned kV_turned dc_turned pm_turned cd_turned ct_turned : Value}
    {od_parts_of an_parts_of : Option Addr} {sl_parts_of : Array (Option Value)} {oc_parts_of kV_parts_of dc_parts_of pm_parts_of cd_parts_of ct_parts_of : Value}
    {od_near_of an_near_of : Option Addr} {sl_near_of : Array (Option Value)} {oc_near_of kV_near_of dc_near_of pm_near_of cd_near_of ct_near_of : Value}
    {od_split_of an_split_of : Option Addr} {sl_split_of : Array (Option Value)} {oc_split_of kV_split_of dc_split_of pm_split_of cd_split_of ct_split_of : Value}
    {od_reckoned an_reckoned : Option Addr} {sl_reckoned : Array (Option Value)} {oc_reckoned kV_reckoned dc_reckoned pm_reckoned cd_reckoned ct_reckoned : Value}
    {od_Lost___init__ an_Lost___init__ : Option Addr} {sl_Lost___init__ : Array (Option Value)} {oc_Lost___init__ kV_Lost___init__ dc_Lost___init__ pm_Lost___init__ cd_Lost___init__ ct_Lost___init__ : Value}
    {od_Machine___init__ an_Machine___init__ : Option Addr} {sl_Machine___init__ : Array (Option Value)} {oc_Machine___init__ kV_Machine___init__ dc_Machine___init__ pm_Machine___init__ cd_Machine___init__ ct_Machine___init__ : Value}
    {od_Machine_word_needed an_Machine_word_needed : Option Addr} {sl_Machine_word_needed : Array (Option Value)} {oc_Machine_word_needed kV_Machine_word_needed dc_Machine_word_needed pm_Machine_word_needed cd_Machine_word_needed ct_Machine_word_needed : Value}
    {od_Machine_put_at an_Machine_put_at : Option Addr} {sl_Machine_put_at : Array (Option Value)} {oc_Machine_put_at kV_Machine_put_at dc_Machine_put_at pm_Machine_put_at cd_Machine_put_at ct_Machine_put_at : Value}
    {od_Machine_gone_to an_Machine_gone_to : Option Addr} {sl_Machine_gone_to : Array (Option Value)} {oc_Machine_gone_to kV_Machine_gone_to dc_Machine_gone_to pm_Machine_gone_to cd_Machine_gone_to ct_Machine_gone_to : Value}
    {od_Machine_go_on an_Machine_go_on : Option Addr} {sl_Machine_go_on : Array (Option Value)} {oc_Machine_go_on kV_Machine_go_on dc_Machine_go_on pm_Machine_go_on cd_Machine_go_on ct_Machine_go_on : Value}
    {od_Machine_state an_Machine_state : Option Addr} {sl_Machine_state : Array (Option Value)} {oc_Machine_state kV_Machine_state dc_Machine_state pm_Machine_state cd_Machine_state ct_Machine_state : Value}
    {od_Machine_word_at an_Machine_word_at : Option Addr} {sl_Machine_word_at : Array (Option Value)} {oc_Machine_word_at kV_Machine_word_at dc_Machine_word_at pm_Machine_word_at cd_Machine_word_at ct_Machine_word_at : Value}
    {od_law_whole an_law_whole : Option Addr} {sl_law_whole : Array (Option Value)} {oc_law_whole kV_law_whole dc_law_whole pm_law_whole cd_law_whole ct_law_whole : Value}
    {od_law_cell_at an_law_cell_at : Option Addr} {sl_law_cell_at : Array (Option Value)} {oc_law_cell_at kV_law_cell_at dc_law_cell_at pm_law_cell_at cd_law_cell_at ct_law_cell_at : Value}
    {od_law_word_by an_law_word_by : Option Addr} {sl_law_word_by : Array (Option Value)} {oc_law_word_by kV_law_word_by dc_law_word_by pm_law_word_by cd_law_word_by ct_law_word_by : Value}
    {od_law_split an_law_split : Option Addr} {sl_law_split : Array (Option Value)} {oc_law_split kV_law_split dc_law_split pm_law_split cd_law_split ct_law_split : Value}
    {od_law_near an_law_near : Option Addr} {sl_law_near : Array (Option Value)} {oc_law_near kV_law_near dc_law_near pm_law_near cd_law_near ct_law_near : Value}
    {od_law_small an_law_small : Option Addr} {sl_law_small : Array (Option Value)} {oc_law_small kV_law_small dc_law_small pm_law_small cd_law_small ct_law_small : Value}
    {od_law_lacks an_law_lacks : Option Addr} {sl_law_lacks : Array (Option Value)} {oc_law_lacks kV_law_lacks dc_law_lacks pm_law_lacks cd_law_lacks ct_law_lacks : Value}
    {od_law_made an_law_made : Option Addr} {sl_law_made : Array (Option Value)} {oc_law_made kV_law_made dc_law_made pm_law_made cd_law_made ct_law_made : Value}
    {od_law_onward an_law_onward : Option Addr} {sl_law_onward : Array (Option Value)} {oc_law_onward kV_law_onward dc_law_onward pm_law_onward cd_law_onward ct_law_onward : Value}
    {od_law_done an_law_done : Option Addr} {sl_law_done : Array (Option Value)} {oc_law_done kV_law_done dc_law_done pm_law_done cd_law_done ct_law_done : Value}
    {od_law_state an_law_state : Option Addr} {sl_law_state : Array (Option Value)} {oc_law_state kV_law_state dc_law_state pm_law_state cd_law_state ct_law_state : Value}
    {od_law_lost_at an_law_lost_at : Option Addr} {sl_law_lost_at : Array (Option Value)} {oc_law_lost_at kV_law_lost_at dc_law_lost_at pm_law_lost_at cd_law_lost_at ct_law_lost_at : Value}
    {od_law_stays an_law_stays : Option Addr} {sl_law_stays : Array (Option Value)} {oc_law_stays kV_law_stays dc_law_stays pm_law_stays cd_law_stays ct_law_stays : Value}
    {od_law_held an_law_held : Option Addr} {sl_law_held : Array (Option Value)} {oc_law_held kV_law_held dc_law_held pm_law_held cd_law_held ct_law_held : Value}
    {od_law_runs an_law_runs : Option Addr} {sl_law_runs : Array (Option Value)} {oc_law_runs kV_law_runs dc_law_runs pm_law_runs cd_law_runs ct_law_runs : Value}
    {od_law an_law : Option Addr} {sl_law : Array (Option Value)} {oc_law kV_law dc_law pm_law cd_law ct_law : Value}
    {nm_Lost q_Lost : Str} {N_Lost : Addr} {bs_Lost : List Value} {sn_Lost : List Str} {sub_Lost : List Value} {ab_Lost : Bool} {col_Lost : Option Bool} {dd_Lost : Option Addr} {m0_Lost m1_Lost m2_Lost m3_Lost m5_Lost : Option Value}
    {t_MANY : Tok}
    (ns_Machine : PySem.W.nsIn K mainGlobals "Machine" = some (some (.ref a_Machine)))
    (ns_Lost : PySem.W.nsIn K mainGlobals "Lost" = some (some (.ref a_Lost)))
    (ini_Lost : PySem.W.findIn K (.ref a_Lost) "__init__" = some (some (.ref a_Lost___init__)))
    (fi_Machine___init__ : PySem.W.findIn K (.ref a_Machine) "__init__" = some (some (.ref a_Machine___init__)))
    (fi_Machine_word_needed : PySem.W.findIn K (.ref a_Machine) "word_needed" = some (some (.ref a_Machine_word_needed)))
    (fi_Machine_put_at : PySem.W.findIn K (.ref a_Machine) "put_at" = some (some (.ref a_Machine_put_at)))
    (fi_Machine_gone_to : PySem.W.findIn K (.ref a_Machine) "gone_to" = some (some (.ref a_Machine_gone_to)))
    (fi_Machine_go_on : PySem.W.findIn K (.ref a_Machine) "go_on" = some (some (.ref a_Machine_go_on)))
    (fi_Machine_state : PySem.W.findIn K (.ref a_Machine) "state" = some (some (.ref a_Machine_state)))
    (fi_Machine_word_at : PySem.W.findIn K (.ref a_Machine) "word_at" = some (some (.ref a_Machine_word_at)))
    (ns_wrapped : PySem.W.nsIn K mainGlobals "wrapped" = some (some (.ref a_wrapped)))
    (ns_field : PySem.W.nsIn K mainGlobals "field" = some (some (.ref a_field)))
    (ns_signed : PySem.W.nsIn K mainGlobals "signed" = some (some (.ref a_signed)))
    (ns_turned : PySem.W.nsIn K mainGlobals "turned" = some (some (.ref a_turned)))
    (ns_parts_of : PySem.W.nsIn K mainGlobals "parts_of" = some (some (.ref a_parts_of)))
    (ns_near_of : PySem.W.nsIn K mainGlobals "near_of" = some (some (.ref a_near_of)))
    (ns_split_of : PySem.W.nsIn K mainGlobals "split_of" = some (some (.ref a_split_of)))
    (ns_reckoned : PySem.W.nsIn K mainGlobals "reckoned" = some (some (.ref a_reckoned)))
    (ns_law_whole : PySem.W.nsIn K mainGlobals "_law_whole" = some (some (.ref a_law_whole)))
    (ns_law_cell_at : PySem.W.nsIn K mainGlobals "_law_cell_at" = some (some (.ref a_law_cell_at)))
    (ns_law_word_by : PySem.W.nsIn K mainGlobals "_law_word_by" = some (some (.ref a_law_word_by)))
    (ns_law_split : PySem.W.nsIn K mainGlobals "_law_split" = some (some (.ref a_law_split)))
    (ns_law_near : PySem.W.nsIn K mainGlobals "_law_near" = some (some (.ref a_law_near)))
    (ns_law_small : PySem.W.nsIn K mainGlobals "_law_small" = some (some (.ref a_law_small)))
    (ns_law_lacks : PySem.W.nsIn K mainGlobals "_law_lacks" = some (some (.ref a_law_lacks)))
    (ns_law_made : PySem.W.nsIn K mainGlobals "_law_made" = some (some (.ref a_law_made)))
    (ns_law_onward : PySem.W.nsIn K mainGlobals "_law_onward" = some (some (.ref a_law_onward)))
    (ns_law_done : PySem.W.nsIn K mainGlobals "_law_done" = some (some (.ref a_law_done)))
    (ns_law_state : PySem.W.nsIn K mainGlobals "_law_state" = some (some (.ref a_law_state)))
    (ns_law_lost_at : PySem.W.nsIn K mainGlobals "_law_lost_at" = some (some (.ref a_law_lost_at)))
    (ns_law_stays : PySem.W.nsIn K mainGlobals "_law_stays" = some (some (.ref a_law_stays)))
    (ns_law_held : PySem.W.nsIn K mainGlobals "_law_held" = some (some (.ref a_law_held)))
    (ns_law_runs : PySem.W.nsIn K mainGlobals "_law_runs" = some (some (.ref a_law_runs)))
    (ns_law : PySem.W.nsIn K mainGlobals "law" = some (some (.ref a_law)))
    (lk_wrapped : K.lookup a_wrapped = some ⟨oc_wrapped, od_wrapped, .func (PySem.W.fnOf "wrapped" "wrapped" (defArgs s_wrapped) (defBody s_wrapped) (defScope s_wrapped) .none kV_wrapped dc_wrapped pm_wrapped an_wrapped cd_wrapped ct_wrapped), sl_wrapped⟩)
    (cd_is_wrapped : PySem.W.codeIn K cd_wrapped "wrapped" = true)
    (kp_wrapped : PySem.W.keepIn K (.ref a_wrapped) = true)
    (lk_field : K.lookup a_field = some ⟨oc_field, od_field, .func (PySem.W.fnOf "field" "field" (defArgs s_field) (defBody s_field) (defScope s_field) .none kV_field dc_field pm_field an_field cd_field ct_field), sl_field⟩)
    (cd_is_field : PySem.W.codeIn K cd_field "field" = true)
    (kp_field : PySem.W.keepIn K (.ref a_field) = true)
    (lk_signed : K.lookup a_signed = some ⟨oc_signed, od_signed, .func (PySem.W.fnOf "signed" "signed" (defArgs s_signed) (defBody s_signed) (defScope s_signed) .none kV_signed dc_signed pm_signed an_signed cd_signed ct_signed), sl_signed⟩)
    (cd_is_signed : PySem.W.codeIn K cd_signed "signed" = true)
    (kp_signed : PySem.W.keepIn K (.ref a_signed) = true)
    (lk_turned : K.lookup a_turned = some ⟨oc_turned, od_turned, .func (PySem.W.fnOf "turned" "turned" (defArgs s_turned) (defBody s_turned) (defScope s_turned) .none kV_turned dc_turned pm_turned an_turned cd_turned ct_turned), sl_turned⟩)
    (cd_is_turned : PySem.W.codeIn K cd_turned "turned" = true)
    (kp_turned : PySem.W.keepIn K (.ref a_turned) = true)
    (lk_parts_of : K.lookup a_parts_of = some ⟨oc_parts_of, od_parts_of, .func (PySem.W.fnOf "parts_of" "parts_of" (defArgs s_parts_of) (defBody s_parts_of) (defScope s_parts_of) .none kV_parts_of dc_parts_of pm_parts_of an_parts_of cd_parts_of ct_parts_of), sl_parts_of⟩)
    (cd_is_parts_of : PySem.W.codeIn K cd_parts_of "parts_of" = true)
    (kp_parts_of : PySem.W.keepIn K (.ref a_parts_of) = true)
    (lk_near_of : K.lookup a_near_of = some ⟨oc_near_of, od_near_of, .func (PySem.W.fnOf "near_of" "near_of" (defArgs s_near_of) (defBody s_near_of) (defScope s_near_of) .none kV_near_of dc_near_of pm_near_of an_near_of cd_near_of ct_near_of), sl_near_of⟩)
    (cd_is_near_of : PySem.W.codeIn K cd_near_of "near_of" = true)
    (kp_near_of : PySem.W.keepIn K (.ref a_near_of) = true)
    (lk_split_of : K.lookup a_split_of = some ⟨oc_split_of, od_split_of, .func (PySem.W.fnOf "split_of" "split_of" (defArgs s_split_of) (defBody s_split_of) (defScope s_split_of) .none kV_split_of dc_split_of pm_split_of an_split_of cd_split_of ct_split_of), sl_split_of⟩)
    (cd_is_split_of : PySem.W.codeIn K cd_split_of "split_of" = true)
    (kp_split_of : PySem.W.keepIn K (.ref a_split_of) = true)
    (lk_reckoned : K.lookup a_reckoned = some ⟨oc_reckoned, od_reckoned, .func (PySem.W.fnOf "reckoned" "reckoned" (defArgs s_reckoned) (defBody s_reckoned) (defScope s_reckoned) .none kV_reckoned dc_reckoned pm_reckoned an_reckoned cd_reckoned ct_reckoned), sl_reckoned⟩)
    (cd_is_reckoned : PySem.W.codeIn K cd_reckoned "reckoned" = true)
    (kp_reckoned : PySem.W.keepIn K (.ref a_reckoned) = true)
    (lk_Lost___init__ : K.lookup a_Lost___init__ = some ⟨oc_Lost___init__, od_Lost___init__, .func (PySem.W.fnOf "__init__" "Lost.__init__" (defArgs s_Lost___init__) (defBody s_Lost___init__) (defScope s_Lost___init__) .none kV_Lost___init__ dc_Lost___init__ pm_Lost___init__ an_Lost___init__ cd_Lost___init__ ct_Lost___init__), sl_Lost___init__⟩)
    (cd_is_Lost___init__ : PySem.W.codeIn K cd_Lost___init__ "Lost.__init__" = true)
    (kp_Lost___init__ : PySem.W.keepIn K (.ref a_Lost___init__) = true)
    (isf_Lost___init__ : PySem.W.isFn K (.ref a_Lost___init__) = true)
    (lk_Machine___init__ : K.lookup a_Machine___init__ = some ⟨oc_Machine___init__, od_Machine___init__, .func (PySem.W.fnOf "__init__" "Machine.__init__" (defArgs s_Machine___init__) (defBody s_Machine___init__) (defScope s_Machine___init__) .none kV_Machine___init__ dc_Machine___init__ pm_Machine___init__ an_Machine___init__ cd_Machine___init__ ct_Machine___init__), sl_Machine___init__⟩)
    (cd_is_Machine___init__ : PySem.W.codeIn K cd_Machine___init__ "Machine.__init__" = true)
    (kp_Machine___init__ : PySem.W.keepIn K (.ref a_Machine___init__) = true)
    (isf_Machine___init__ : PySem.W.isFn K (.ref a_Machine___init__) = true)
    (lk_Machine_word_needed : K.lookup a_Machine_word_needed = some ⟨oc_Machine_word_needed, od_Machine_word_needed, .func (PySem.W.fnOf "word_needed" "Machine.word_needed" (defArgs s_Machine_word_needed) (defBody s_Machine_word_needed) (defScope s_Machine_word_needed) .none kV_Machine_word_needed dc_Machine_word_needed pm_Machine_word_needed an_Machine_word_needed cd_Machine_word_needed ct_Machine_word_needed), sl_Machine_word_needed⟩)
    (cd_is_Machine_word_needed : PySem.W.codeIn K cd_Machine_word_needed "Machine.word_needed" = true)
    (kp_Machine_word_needed : PySem.W.keepIn K (.ref a_Machine_word_needed) = true)
    (isf_Machine_word_needed : PySem.W.isFn K (.ref a_Machine_word_needed) = true)
    (lk_Machine_put_at : K.lookup a_Machine_put_at = some ⟨oc_Machine_put_at, od_Machine_put_at, .func (PySem.W.fnOf "put_at" "Machine.put_at" (defArgs s_Machine_put_at) (defBody s_Machine_put_at) (defScope s_Machine_put_at) .none kV_Machine_put_at dc_Machine_put_at pm_Machine_put_at an_Machine_put_at cd_Machine_put_at ct_Machine_put_at), sl_Machine_put_at⟩)
    (cd_is_Machine_put_at : PySem.W.codeIn K cd_Machine_put_at "Machine.put_at" = true)
    (kp_Machine_put_at : PySem.W.keepIn K (.ref a_Machine_put_at) = true)
    (isf_Machine_put_at : PySem.W.isFn K (.ref a_Machine_put_at) = true)
    (lk_Machine_gone_to : K.lookup a_Machine_gone_to = some ⟨oc_Machine_gone_to, od_Machine_gone_to, .func (PySem.W.fnOf "gone_to" "Machine.gone_to" (defArgs s_Machine_gone_to) (defBody s_Machine_gone_to) (defScope s_Machine_gone_to) .none kV_Machine_gone_to dc_Machine_gone_to pm_Machine_gone_to an_Machine_gone_to cd_Machine_gone_to ct_Machine_gone_to), sl_Machine_gone_to⟩)
    (cd_is_Machine_gone_to : PySem.W.codeIn K cd_Machine_gone_to "Machine.gone_to" = true)
    (kp_Machine_gone_to : PySem.W.keepIn K (.ref a_Machine_gone_to) = true)
    (isf_Machine_gone_to : PySem.W.isFn K (.ref a_Machine_gone_to) = true)
    (lk_Machine_go_on : K.lookup a_Machine_go_on = some ⟨oc_Machine_go_on, od_Machine_go_on, .func (PySem.W.fnOf "go_on" "Machine.go_on" (defArgs s_Machine_go_on) (defBody s_Machine_go_on) (defScope s_Machine_go_on) .none kV_Machine_go_on dc_Machine_go_on pm_Machine_go_on an_Machine_go_on cd_Machine_go_on ct_Machine_go_on), sl_Machine_go_on⟩)
    (cd_is_Machine_go_on : PySem.W.codeIn K cd_Machine_go_on "Machine.go_on" = true)
    (kp_Machine_go_on : PySem.W.keepIn K (.ref a_Machine_go_on) = true)
    (isf_Machine_go_on : PySem.W.isFn K (.ref a_Machine_go_on) = true)
    (lk_Machine_state : K.lookup a_Machine_state = some ⟨oc_Machine_state, od_Machine_state, .func (PySem.W.fnOf "state" "Machine.state" (defArgs s_Machine_state) (defBody s_Machine_state) (defScope s_Machine_state) .none kV_Machine_state dc_Machine_state pm_Machine_state an_Machine_state cd_Machine_state ct_Machine_state), sl_Machine_state⟩)
    (cd_is_Machine_state : PySem.W.codeIn K cd_Machine_state "Machine.state" = true)
    (kp_Machine_state : PySem.W.keepIn K (.ref a_Machine_state) = true)
    (isf_Machine_state : PySem.W.isFn K (.ref a_Machine_state) = true)
    (lk_Machine_word_at : K.lookup a_Machine_word_at = some ⟨oc_Machine_word_at, od_Machine_word_at, .func (PySem.W.fnOf "word_at" "Machine.word_at" (defArgs s_Machine_word_at) (defBody s_Machine_word_at) (defScope s_Machine_word_at) .none kV_Machine_word_at dc_Machine_word_at pm_Machine_word_at an_Machine_word_at cd_Machine_word_at ct_Machine_word_at), sl_Machine_word_at⟩)
    (cd_is_Machine_word_at : PySem.W.codeIn K cd_Machine_word_at "Machine.word_at" = true)
    (kp_Machine_word_at : PySem.W.keepIn K (.ref a_Machine_word_at) = true)
    (isf_Machine_word_at : PySem.W.isFn K (.ref a_Machine_word_at) = true)
    (lk_law_whole : K.lookup a_law_whole = some ⟨oc_law_whole, od_law_whole, .func (PySem.W.fnOf "_law_whole" "_law_whole" (defArgs s_law_whole) (defBody s_law_whole) (defScope s_law_whole) .none kV_law_whole dc_law_whole pm_law_whole an_law_whole cd_law_whole ct_law_whole), sl_law_whole⟩)
    (cd_is_law_whole : PySem.W.codeIn K cd_law_whole "_law_whole" = true)
    (kp_law_whole : PySem.W.keepIn K (.ref a_law_whole) = true)
    (lk_law_cell_at : K.lookup a_law_cell_at = some ⟨oc_law_cell_at, od_law_cell_at, .func (PySem.W.fnOf "_law_cell_at" "_law_cell_at" (defArgs s_law_cell_at) (defBody s_law_cell_at) (defScope s_law_cell_at) .none kV_law_cell_at dc_law_cell_at pm_law_cell_at an_law_cell_at cd_law_cell_at ct_law_cell_at), sl_law_cell_at⟩)
    (cd_is_law_cell_at : PySem.W.codeIn K cd_law_cell_at "_law_cell_at" = true)
    (kp_law_cell_at : PySem.W.keepIn K (.ref a_law_cell_at) = true)
    (lk_law_word_by : K.lookup a_law_word_by = some ⟨oc_law_word_by, od_law_word_by, .func (PySem.W.fnOf "_law_word_by" "_law_word_by" (defArgs s_law_word_by) (defBody s_law_word_by) (defScope s_law_word_by) .none kV_law_word_by dc_law_word_by pm_law_word_by an_law_word_by cd_law_word_by ct_law_word_by), sl_law_word_by⟩)
    (cd_is_law_word_by : PySem.W.codeIn K cd_law_word_by "_law_word_by" = true)
    (kp_law_word_by : PySem.W.keepIn K (.ref a_law_word_by) = true)
    (lk_law_split : K.lookup a_law_split = some ⟨oc_law_split, od_law_split, .func (PySem.W.fnOf "_law_split" "_law_split" (defArgs s_law_split) (defBody s_law_split) (defScope s_law_split) .none kV_law_split dc_law_split pm_law_split an_law_split cd_law_split ct_law_split), sl_law_split⟩)
    (cd_is_law_split : PySem.W.codeIn K cd_law_split "_law_split" = true)
    (kp_law_split : PySem.W.keepIn K (.ref a_law_split) = true)
    (lk_law_near : K.lookup a_law_near = some ⟨oc_law_near, od_law_near, .func (PySem.W.fnOf "_law_near" "_law_near" (defArgs s_law_near) (defBody s_law_near) (defScope s_law_near) .none kV_law_near dc_law_near pm_law_near an_law_near cd_law_near ct_law_near), sl_law_near⟩)
    (cd_is_law_near : PySem.W.codeIn K cd_law_near "_law_near" = true)
    (kp_law_near : PySem.W.keepIn K (.ref a_law_near) = true)
    (lk_law_small : K.lookup a_law_small = some ⟨oc_law_small, od_law_small, .func (PySem.W.fnOf "_law_small" "_law_small" (defArgs s_law_small) (defBody s_law_small) (defScope s_law_small) .none kV_law_small dc_law_small pm_law_small an_law_small cd_law_small ct_law_small), sl_law_small⟩)
    (cd_is_law_small : PySem.W.codeIn K cd_law_small "_law_small" = true)
    (kp_law_small : PySem.W.keepIn K (.ref a_law_small) = true)
    (lk_law_lacks : K.lookup a_law_lacks = some ⟨oc_law_lacks, od_law_lacks, .func (PySem.W.fnOf "_law_lacks" "_law_lacks" (defArgs s_law_lacks) (defBody s_law_lacks) (defScope s_law_lacks) .none kV_law_lacks dc_law_lacks pm_law_lacks an_law_lacks cd_law_lacks ct_law_lacks), sl_law_lacks⟩)
    (cd_is_law_lacks : PySem.W.codeIn K cd_law_lacks "_law_lacks" = true)
    (kp_law_lacks : PySem.W.keepIn K (.ref a_law_lacks) = true)
    (lk_law_made : K.lookup a_law_made = some ⟨oc_law_made, od_law_made, .func (PySem.W.fnOf "_law_made" "_law_made" (defArgs s_law_made) (defBody s_law_made) (defScope s_law_made) .none kV_law_made dc_law_made pm_law_made an_law_made cd_law_made ct_law_made), sl_law_made⟩)
    (cd_is_law_made : PySem.W.codeIn K cd_law_made "_law_made" = true)
    (kp_law_made : PySem.W.keepIn K (.ref a_law_made) = true)
    (lk_law_onward : K.lookup a_law_onward = some ⟨oc_law_onward, od_law_onward, .func (PySem.W.fnOf "_law_onward" "_law_onward" (defArgs s_law_onward) (defBody s_law_onward) (defScope s_law_onward) .none kV_law_onward dc_law_onward pm_law_onward an_law_onward cd_law_onward ct_law_onward), sl_law_onward⟩)
    (cd_is_law_onward : PySem.W.codeIn K cd_law_onward "_law_onward" = true)
    (kp_law_onward : PySem.W.keepIn K (.ref a_law_onward) = true)
    (lk_law_done : K.lookup a_law_done = some ⟨oc_law_done, od_law_done, .func (PySem.W.fnOf "_law_done" "_law_done" (defArgs s_law_done) (defBody s_law_done) (defScope s_law_done) .none kV_law_done dc_law_done pm_law_done an_law_done cd_law_done ct_law_done), sl_law_done⟩)
    (cd_is_law_done : PySem.W.codeIn K cd_law_done "_law_done" = true)
    (kp_law_done : PySem.W.keepIn K (.ref a_law_done) = true)
    (lk_law_state : K.lookup a_law_state = some ⟨oc_law_state, od_law_state, .func (PySem.W.fnOf "_law_state" "_law_state" (defArgs s_law_state) (defBody s_law_state) (defScope s_law_state) .none kV_law_state dc_law_state pm_law_state an_law_state cd_law_state ct_law_state), sl_law_state⟩)
    (cd_is_law_state : PySem.W.codeIn K cd_law_state "_law_state" = true)
    (kp_law_state : PySem.W.keepIn K (.ref a_law_state) = true)
    (lk_law_lost_at : K.lookup a_law_lost_at = some ⟨oc_law_lost_at, od_law_lost_at, .func (PySem.W.fnOf "_law_lost_at" "_law_lost_at" (defArgs s_law_lost_at) (defBody s_law_lost_at) (defScope s_law_lost_at) .none kV_law_lost_at dc_law_lost_at pm_law_lost_at an_law_lost_at cd_law_lost_at ct_law_lost_at), sl_law_lost_at⟩)
    (cd_is_law_lost_at : PySem.W.codeIn K cd_law_lost_at "_law_lost_at" = true)
    (kp_law_lost_at : PySem.W.keepIn K (.ref a_law_lost_at) = true)
    (lk_law_stays : K.lookup a_law_stays = some ⟨oc_law_stays, od_law_stays, .func (PySem.W.fnOf "_law_stays" "_law_stays" (defArgs s_law_stays) (defBody s_law_stays) (defScope s_law_stays) .none kV_law_stays dc_law_stays pm_law_stays an_law_stays cd_law_stays ct_law_stays), sl_law_stays⟩)
    (cd_is_law_stays : PySem.W.codeIn K cd_law_stays "_law_stays" = true)
    (kp_law_stays : PySem.W.keepIn K (.ref a_law_stays) = true)
    (lk_law_held : K.lookup a_law_held = some ⟨oc_law_held, od_law_held, .func (PySem.W.fnOf "_law_held" "_law_held" (defArgs s_law_held) (defBody s_law_held) (defScope s_law_held) .none kV_law_held dc_law_held pm_law_held an_law_held cd_law_held ct_law_held), sl_law_held⟩)
    (cd_is_law_held : PySem.W.codeIn K cd_law_held "_law_held" = true)
    (kp_law_held : PySem.W.keepIn K (.ref a_law_held) = true)
    (lk_law_runs : K.lookup a_law_runs = some ⟨oc_law_runs, od_law_runs, .func (PySem.W.fnOf "_law_runs" "_law_runs" (defArgs s_law_runs) (defBody s_law_runs) (defScope s_law_runs) .none kV_law_runs dc_law_runs pm_law_runs an_law_runs cd_law_runs ct_law_runs), sl_law_runs⟩)
    (cd_is_law_runs : PySem.W.codeIn K cd_law_runs "_law_runs" = true)
    (kp_law_runs : PySem.W.keepIn K (.ref a_law_runs) = true)
    (lk_law : K.lookup a_law = some ⟨oc_law, od_law, .func (PySem.W.fnOf "law" "law" (defArgs s_law) (defBody s_law) (defScope s_law) .none kV_law dc_law pm_law an_law cd_law ct_law), sl_law⟩)
    (cd_is_law : PySem.W.codeIn K cd_law "law" = true)
    (kp_law : PySem.W.keepIn K (.ref a_law) = true)
    (pg_Machine : PySem.W.plainGet K a_Machine Str.empty = true)
    (hd_Machine : PySem.W.hasDictIn K a_Machine = true)
    (po_Machine : PySem.W.plainOver K a_Machine = true)
    (sa_Machine : PySem.W.findIn K (.ref a_Machine) "__setattr__" = some (some (.builtin "object.__setattr__")))
    (mkk_Machine : PySem.W.makesIn K a_Machine = true)
    (kpc_Machine : PySem.W.keepIn K (.ref a_Machine) = true)
    (nat_Machine_memory : PySem.W.findIn K (.ref a_Machine) "memory" = some none)
    (nat_Machine_spot : PySem.W.findIn K (.ref a_Machine) "spot" = some none)
    (nat_Machine_registers : PySem.W.findIn K (.ref a_Machine) "registers" = some none)
    (nat_Machine_outputs : PySem.W.findIn K (.ref a_Machine) "outputs" = some none)
    (nat_Machine_ended : PySem.W.findIn K (.ref a_Machine) "ended" = some none)
    (en : PySem.W.specialIn K (.builtin "object.__class__") "__get__" = some (some (.builtin "getset_descriptor.__get__")))
    (et : PySem.W.takesIn K (.builtin "object.__class__") = some true)
    (be_Lost : PySem.W.subIn K (.ref a_Lost) (.type "BaseException") = some true)
    (ty_Lost : PySem.W.typeIn K (.ref a_Lost) = some (.type "type"))
    (kc_Lost : PySem.W.keepIn K (.ref a_Lost) = true)
    (eg_Lost : PySem.W.findIn K (.ref a_Lost) "__getattribute__" = some (some (.builtin "BaseException.__getattribute__")))
    (ek_Lost : PySem.W.findIn K (.ref a_Lost) "__getattr__" = some none)
    (hd_Lost : PySem.W.hasDictIn K a_Lost = true)
    (ea_Lost : PySem.W.findIn K (.ref a_Lost) "__class__" = some (some (.builtin "object.__class__")))
    (em_Lost : PySem.W.mroIn K a_Lost (.type "object") = some true)
    (ve_Lost : PySem.W.kitOne K (.ref a_Lost) (.type "ValueError") = some true)
    (xl_Lost : K.lookup a_Lost = some (PySem.excClassObj nm_Lost q_Lost a_Lost N_Lost bs_Lost [.ref a_JoinError, .type "ValueError", .type "Exception", .type "BaseException", .type "object"] true sn_Lost sub_Lost ab_Lost col_Lost dd_Lost m0_Lost m1_Lost m2_Lost m3_Lost m5_Lost "ValueError.__new__"))
    (sa_Lost : PySem.W.findIn K (.ref a_Lost) "__setattr__" = some (some (.builtin "object.__setattr__")))
    (tf_Lost : PySem.W.typeIn K (.ref a_Lost___init__) = some (.type "function"))
    (no_Lost_place : PySem.W.findIn K (.ref a_Lost) "place" = some none)
    (kit_Lost_Lost : PySem.W.kitOne K (.ref a_Lost) (.ref a_Lost) = some true)
    (ss_Lost : PySem.W.subIn K (.ref a_Lost) (.ref a_Lost) = some true)
    (ns_MANY : PySem.W.nsIn K mainGlobals "MANY" = some (some (.int 4294967296 t_MANY)))
    (ns_bool : PySem.W.nsIn K mainGlobals "bool" = some none)
    (ns_dict : PySem.W.nsIn K mainGlobals "dict" = some none)
    (ns_int : PySem.W.nsIn K mainGlobals "int" = some none)
    (ns_isinstance : PySem.W.nsIn K mainGlobals "isinstance" = some none)
    (ns_len : PySem.W.nsIn K mainGlobals "len" = some none)
    (ns_list : PySem.W.nsIn K mainGlobals "list" = some none)
    (ns_range : PySem.W.nsIn K mainGlobals "range" = some none)
    (ns_tuple : PySem.W.nsIn K mainGlobals "tuple" = some none)
    : ∃ fd : FuncData, (∀ (s : Shared) (v : Value), BindsTo s fd ⟨[v], []⟩ [("_law_script", v)]) ∧ ∀ base : Heap, K.In base → base.Ns mainGlobals mg → FnOk l.prog w K mg base CX0 9 fa fd ["_law_script"] (sp_law K) := by
  have e := hfa.symm.trans (PySem.W.mg_of X G ns_law)
  cases e
  exact ⟨_, fun s v => .of_eq rfl, fun base _ _ => ok_law (P := l.prog) (w := w) (base := base) (T := {
    a_wrapped := _, d_wrapped := _, F_wrapped := fun_mk (st := s_wrapped) lk_wrapped cd_is_wrapped kp_wrapped,
    m_wrapped := PySem.W.mg_of X G ns_wrapped,
    b_wrapped := (fun_mk (st := s_wrapped) lk_wrapped cd_is_wrapped kp_wrapped).binds (ps := ["number"]) fun _ _ _ _ _ _ us hl => match us, hl with | [_], _ => rfl,
    a_field := _, d_field := _, F_field := fun_mk (st := s_field) lk_field cd_is_field kp_field,
    m_field := PySem.W.mg_of X G ns_field,
    b_field := (fun_mk (st := s_field) lk_field cd_is_field kp_field).binds (ps := ["word", "low", "many"]) fun _ _ _ _ _ _ us hl => match us, hl with | [_, _, _], _ => rfl,
    a_signed := _, d_signed := _, F_signed := fun_mk (st := s_signed) lk_signed cd_is_signed kp_signed,
    m_signed := PySem.W.mg_of X G ns_signed,
    b_signed := (fun_mk (st := s_signed) lk_signed cd_is_signed kp_signed).binds (ps := ["number", "many"]) fun _ _ _ _ _ _ us hl => match us, hl with | [_, _], _ => rfl,
    a_turned := _, d_turned := _, F_turned := fun_mk (st := s_turned) lk_turned cd_is_turned kp_turned,
    m_turned := PySem.W.mg_of X G ns_turned,
    b_turned := (fun_mk (st := s_turned) lk_turned cd_is_turned kp_turned).binds (ps := ["word", "by"]) fun _ _ _ _ _ _ us hl => match us, hl with | [_, _], _ => rfl,
    a_parts_of := _, d_parts_of := _, F_parts_of := fun_mk (st := s_parts_of) lk_parts_of cd_is_parts_of kp_parts_of,
    m_parts_of := PySem.W.mg_of X G ns_parts_of,
    b_parts_of := (fun_mk (st := s_parts_of) lk_parts_of cd_is_parts_of kp_parts_of).binds (ps := ["word"]) fun _ _ _ _ _ _ us hl => match us, hl with | [_], _ => rfl,
    a_near_of := _, d_near_of := _, F_near_of := fun_mk (st := s_near_of) lk_near_of cd_is_near_of kp_near_of,
    m_near_of := PySem.W.mg_of X G ns_near_of,
    b_near_of := (fun_mk (st := s_near_of) lk_near_of cd_is_near_of kp_near_of).binds (ps := ["word"]) fun _ _ _ _ _ _ us hl => match us, hl with | [_], _ => rfl,
    a_split_of := _, d_split_of := _, F_split_of := fun_mk (st := s_split_of) lk_split_of cd_is_split_of kp_split_of,
    m_split_of := PySem.W.mg_of X G ns_split_of,
    b_split_of := (fun_mk (st := s_split_of) lk_split_of cd_is_split_of kp_split_of).binds (ps := ["word"]) fun _ _ _ _ _ _ us hl => match us, hl with | [_], _ => rfl,
    a_reckoned := _, d_reckoned := _, F_reckoned := fun_mk (st := s_reckoned) lk_reckoned cd_is_reckoned kp_reckoned,
    m_reckoned := PySem.W.mg_of X G ns_reckoned,
    b_reckoned := (fun_mk (st := s_reckoned) lk_reckoned cd_is_reckoned kp_reckoned).binds (ps := ["op", "left", "right", "number"]) fun _ _ _ _ _ _ us hl => match us, hl with | [_, _, _, _], _ => rfl,
    a_Lost___init__ := _, d_Lost___init__ := _, F_Lost___init__ := fun_mk (st := s_Lost___init__) lk_Lost___init__ cd_is_Lost___init__ kp_Lost___init__,
    b_Lost___init__ := (fun_mk (st := s_Lost___init__) lk_Lost___init__ cd_is_Lost___init__ kp_Lost___init__).binds (ps := ["self", "place"]) fun _ _ _ _ _ _ us hl => match us, hl with | [_, _], _ => rfl,
    a_Machine___init__ := _, d_Machine___init__ := _, F_Machine___init__ := fun_mk (st := s_Machine___init__) lk_Machine___init__ cd_is_Machine___init__ kp_Machine___init__,
    b_Machine___init__ := (fun_mk (st := s_Machine___init__) lk_Machine___init__ cd_is_Machine___init__ kp_Machine___init__).binds (ps := ["self", "memory", "start", "registers"]) fun _ _ _ _ _ _ us hl => match us, hl with | [_, _, _, _], _ => rfl,
    a_Machine_word_needed := _, d_Machine_word_needed := _, F_Machine_word_needed := fun_mk (st := s_Machine_word_needed) lk_Machine_word_needed cd_is_Machine_word_needed kp_Machine_word_needed,
    b_Machine_word_needed := (fun_mk (st := s_Machine_word_needed) lk_Machine_word_needed cd_is_Machine_word_needed kp_Machine_word_needed).binds (ps := ["self", "place"]) fun _ _ _ _ _ _ us hl => match us, hl with | [_, _], _ => rfl,
    a_Machine_put_at := _, d_Machine_put_at := _, F_Machine_put_at := fun_mk (st := s_Machine_put_at) lk_Machine_put_at cd_is_Machine_put_at kp_Machine_put_at,
    b_Machine_put_at := (fun_mk (st := s_Machine_put_at) lk_Machine_put_at cd_is_Machine_put_at kp_Machine_put_at).binds (ps := ["self", "place", "word"]) fun _ _ _ _ _ _ us hl => match us, hl with | [_, _, _], _ => rfl,
    a_Machine_gone_to := _, d_Machine_gone_to := _, F_Machine_gone_to := fun_mk (st := s_Machine_gone_to) lk_Machine_gone_to cd_is_Machine_gone_to kp_Machine_gone_to,
    b_Machine_gone_to := (fun_mk (st := s_Machine_gone_to) lk_Machine_gone_to cd_is_Machine_gone_to kp_Machine_gone_to).binds (ps := ["self", "word"]) fun _ _ _ _ _ _ us hl => match us, hl with | [_, _], _ => rfl,
    a_Machine_go_on := _, d_Machine_go_on := _, F_Machine_go_on := fun_mk (st := s_Machine_go_on) lk_Machine_go_on cd_is_Machine_go_on kp_Machine_go_on,
    b_Machine_go_on := (fun_mk (st := s_Machine_go_on) lk_Machine_go_on cd_is_Machine_go_on kp_Machine_go_on).binds (ps := ["self"]) fun _ _ _ _ _ _ us hl => match us, hl with | [_], _ => rfl,
    a_Machine_state := _, d_Machine_state := _, F_Machine_state := fun_mk (st := s_Machine_state) lk_Machine_state cd_is_Machine_state kp_Machine_state,
    b_Machine_state := (fun_mk (st := s_Machine_state) lk_Machine_state cd_is_Machine_state kp_Machine_state).binds (ps := ["self"]) fun _ _ _ _ _ _ us hl => match us, hl with | [_], _ => rfl,
    a_Machine_word_at := _, d_Machine_word_at := _, F_Machine_word_at := fun_mk (st := s_Machine_word_at) lk_Machine_word_at cd_is_Machine_word_at kp_Machine_word_at,
    b_Machine_word_at := (fun_mk (st := s_Machine_word_at) lk_Machine_word_at cd_is_Machine_word_at kp_Machine_word_at).binds (ps := ["self", "place"]) fun _ _ _ _ _ _ us hl => match us, hl with | [_, _], _ => rfl,
    a_law_whole := _, d_law_whole := _, F_law_whole := fun_mk (st := s_law_whole) lk_law_whole cd_is_law_whole kp_law_whole,
    m_law_whole := PySem.W.mg_of X G ns_law_whole,
    b_law_whole := (fun_mk (st := s_law_whole) lk_law_whole cd_is_law_whole kp_law_whole).binds (ps := ["_law_found"]) fun _ _ _ _ _ _ us hl => match us, hl with | [_], _ => rfl,
    a_law_cell_at := _, d_law_cell_at := _, F_law_cell_at := fun_mk (st := s_law_cell_at) lk_law_cell_at cd_is_law_cell_at kp_law_cell_at,
    m_law_cell_at := PySem.W.mg_of X G ns_law_cell_at,
    b_law_cell_at := (fun_mk (st := s_law_cell_at) lk_law_cell_at cd_is_law_cell_at kp_law_cell_at).binds (ps := ["_law_script", "_law_k"]) fun _ _ _ _ _ _ us hl => match us, hl with | [_, _], _ => rfl,
    a_law_word_by := _, d_law_word_by := _, F_law_word_by := fun_mk (st := s_law_word_by) lk_law_word_by cd_is_law_word_by kp_law_word_by,
    m_law_word_by := PySem.W.mg_of X G ns_law_word_by,
    b_law_word_by := (fun_mk (st := s_law_word_by) lk_law_word_by cd_is_law_word_by kp_law_word_by).binds (ps := ["_law_cell"]) fun _ _ _ _ _ _ us hl => match us, hl with | [_], _ => rfl,
    a_law_split := _, d_law_split := _, F_law_split := fun_mk (st := s_law_split) lk_law_split cd_is_law_split kp_law_split,
    m_law_split := PySem.W.mg_of X G ns_law_split,
    b_law_split := (fun_mk (st := s_law_split) lk_law_split cd_is_law_split kp_law_split).binds (ps := ["_law_word"]) fun _ _ _ _ _ _ us hl => match us, hl with | [_], _ => rfl,
    a_law_near := _, d_law_near := _, F_law_near := fun_mk (st := s_law_near) lk_law_near cd_is_law_near kp_law_near,
    m_law_near := PySem.W.mg_of X G ns_law_near,
    b_law_near := (fun_mk (st := s_law_near) lk_law_near cd_is_law_near kp_law_near).binds (ps := ["_law_word"]) fun _ _ _ _ _ _ us hl => match us, hl with | [_], _ => rfl,
    a_law_small := _, d_law_small := _, F_law_small := fun_mk (st := s_law_small) lk_law_small cd_is_law_small kp_law_small,
    m_law_small := PySem.W.mg_of X G ns_law_small,
    b_law_small := (fun_mk (st := s_law_small) lk_law_small cd_is_law_small kp_law_small).binds (ps := ["_law_word"]) fun _ _ _ _ _ _ us hl => match us, hl with | [_], _ => rfl,
    a_law_lacks := _, d_law_lacks := _, F_law_lacks := fun_mk (st := s_law_lacks) lk_law_lacks cd_is_law_lacks kp_law_lacks,
    m_law_lacks := PySem.W.mg_of X G ns_law_lacks,
    b_law_lacks := (fun_mk (st := s_law_lacks) lk_law_lacks cd_is_law_lacks kp_law_lacks).binds (ps := ["_law_memory", "_law_row", "_law_here"]) fun _ _ _ _ _ _ us hl => match us, hl with | [_, _, _], _ => rfl,
    a_law_made := _, d_law_made := _, F_law_made := fun_mk (st := s_law_made) lk_law_made cd_is_law_made kp_law_made,
    m_law_made := PySem.W.mg_of X G ns_law_made,
    b_law_made := (fun_mk (st := s_law_made) lk_law_made cd_is_law_made kp_law_made).binds (ps := ["_law_memory", "_law_op", "_law_word", "_law_one", "_law_other"]) fun _ _ _ _ _ _ us hl => match us, hl with | [_, _, _, _, _], _ => rfl,
    a_law_onward := _, d_law_onward := _, F_law_onward := fun_mk (st := s_law_onward) lk_law_onward cd_is_law_onward kp_law_onward,
    m_law_onward := PySem.W.mg_of X G ns_law_onward,
    b_law_onward := (fun_mk (st := s_law_onward) lk_law_onward cd_is_law_onward kp_law_onward).binds (ps := ["_law_op", "_law_word", "_law_here", "_law_one", "_law_other"]) fun _ _ _ _ _ _ us hl => match us, hl with | [_, _, _, _, _], _ => rfl,
    a_law_done := _, d_law_done := _, F_law_done := fun_mk (st := s_law_done) lk_law_done cd_is_law_done kp_law_done,
    m_law_done := PySem.W.mg_of X G ns_law_done,
    b_law_done := (fun_mk (st := s_law_done) lk_law_done cd_is_law_done kp_law_done).binds (ps := ["_law_memory", "_law_row", "_law_told", "_law_here"]) fun _ _ _ _ _ _ us hl => match us, hl with | [_, _, _, _], _ => rfl,
    a_law_state := _, d_law_state := _, F_law_state := fun_mk (st := s_law_state) lk_law_state cd_is_law_state kp_law_state,
    m_law_state := PySem.W.mg_of X G ns_law_state,
    b_law_state := (fun_mk (st := s_law_state) lk_law_state cd_is_law_state kp_law_state).binds (ps := ["_law_found", "_law_due"]) fun _ _ _ _ _ _ us hl => match us, hl with | [_, _], _ => rfl,
    a_law_lost_at := _, d_law_lost_at := _, F_law_lost_at := fun_mk (st := s_law_lost_at) lk_law_lost_at cd_is_law_lost_at kp_law_lost_at,
    m_law_lost_at := PySem.W.mg_of X G ns_law_lost_at,
    b_law_lost_at := (fun_mk (st := s_law_lost_at) lk_law_lost_at cd_is_law_lost_at kp_law_lost_at).binds (ps := ["_law_machine"]) fun _ _ _ _ _ _ us hl => match us, hl with | [_], _ => rfl,
    a_law_stays := _, d_law_stays := _, F_law_stays := fun_mk (st := s_law_stays) lk_law_stays cd_is_law_stays kp_law_stays,
    m_law_stays := PySem.W.mg_of X G ns_law_stays,
    b_law_stays := (fun_mk (st := s_law_stays) lk_law_stays cd_is_law_stays kp_law_stays).binds (ps := ["_law_machine", "_law_due", "_law_lack"]) fun _ _ _ _ _ _ us hl => match us, hl with | [_, _, _], _ => rfl,
    a_law_held := _, d_law_held := _, F_law_held := fun_mk (st := s_law_held) lk_law_held cd_is_law_held kp_law_held,
    m_law_held := PySem.W.mg_of X G ns_law_held,
    b_law_held := (fun_mk (st := s_law_held) lk_law_held cd_is_law_held kp_law_held).binds (ps := ["_law_held_here"]) fun _ _ _ _ _ _ us hl => match us, hl with | [_], _ => rfl,
    a_law_runs := _, d_law_runs := _, F_law_runs := fun_mk (st := s_law_runs) lk_law_runs cd_is_law_runs kp_law_runs,
    m_law_runs := PySem.W.mg_of X G ns_law_runs,
    b_law_runs := (fun_mk (st := s_law_runs) lk_law_runs cd_is_law_runs kp_law_runs).binds (ps := ["_law_machine", "_law_memory", "_law_row", "_law_here", "_law_most"]) fun _ _ _ _ _ _ us hl => match us, hl with | [_, _, _, _, _], _ => rfl,
    a_law := _, d_law := _, F_law := fun_mk (st := s_law) lk_law cd_is_law kp_law,
    m_law := PySem.W.mg_of X G ns_law,
    b_law := (fun_mk (st := s_law) lk_law cd_is_law kp_law).binds (ps := ["_law_script"]) fun _ _ _ _ _ _ us hl => match us, hl with | [_], _ => rfl,
    a_Machine := _, c_Machine := ⟨pg_Machine, hd_Machine, po_Machine, sa_Machine⟩, g_Machine := PySem.W.mg_of X G ns_Machine,
    k_Machine := ⟨mkk_Machine, fi_Machine___init__, isf_Machine___init__, kpc_Machine⟩,
    na_Machine_memory := nat_Machine_memory,
    na_Machine_spot := nat_Machine_spot,
    na_Machine_registers := nat_Machine_registers,
    na_Machine_outputs := nat_Machine_outputs,
    na_Machine_ended := nat_Machine_ended,
    me_Machine_word_needed := ⟨fi_Machine_word_needed, isf_Machine_word_needed, kp_Machine_word_needed⟩,
    me_Machine_put_at := ⟨fi_Machine_put_at, isf_Machine_put_at, kp_Machine_put_at⟩,
    me_Machine_gone_to := ⟨fi_Machine_gone_to, isf_Machine_gone_to, kp_Machine_gone_to⟩,
    me_Machine_go_on := ⟨fi_Machine_go_on, isf_Machine_go_on, kp_Machine_go_on⟩,
    me_Machine_state := ⟨fi_Machine_state, isf_Machine_state, kp_Machine_state⟩,
    me_Machine_word_at := ⟨fi_Machine_word_at, isf_Machine_word_at, kp_Machine_word_at⟩,
    a_Lost := _, g_Lost := PySem.W.mg_of X G ns_Lost,
    be_Lost := be_Lost, ty_Lost := ty_Lost, kc_Lost := kc_Lost, ec_Lost := ⟨eg_Lost, ek_Lost, be_Lost, hd_Lost, ea_Lost, en, et, em_Lost⟩, ve_Lost := ve_Lost,
    o_Lost := ⟨⟨_, _, _, _, _, _, _, _, _, _, _, _, _, _, _, xl_Lost, by rfl⟩, sa_Lost, be_Lost, ty_Lost, kc_Lost⟩, i_Lost := ini_Lost, t_Lost := tf_Lost, xf_Lost := ⟨eg_Lost, ek_Lost, be_Lost, hd_Lost⟩,
    no_Lost_place := no_Lost_place,
    kit_Lost_Lost := kit_Lost_Lost,
    exs_Lost := PySem.W.exm_ref be_Lost hd_Lost ty_Lost ss_Lost,
    t_MANY := t_MANY, g_MANY := PySem.W.mg_of X G ns_MANY,
    n_bool := PySem.W.mg_none_of X G ns_bool,
    n_dict := PySem.W.mg_none_of X G ns_dict,
    n_int := PySem.W.mg_none_of X G ns_int,
    n_isinstance := PySem.W.mg_none_of X G ns_isinstance,
    n_len := PySem.W.mg_none_of X G ns_len,
    n_list := PySem.W.mg_none_of X G ns_list,
    n_range := PySem.W.mg_none_of X G ns_range,
    n_tuple := PySem.W.mg_none_of X G ns_tuple })⟩
theorem walk {l : PySem.W.OpenLaw} {q : Program} {loose : List Str} {XP : (Str → Option Value) → Heap → Prop} {YP : World → Heap → Prop} {d : DefRec} {K : Params → PySem.W.Frag} (hn : l.most = some 63) (hdf : d.params.defaults = [])
    (hY : ∀ (w : World) (h : Heap), YP w h → (K w.params).In h)
    (F : ∀ (w : World) (mg : Str → Option Value) (fa : Addr) (h : Heap), (K w.params).In h → h.Ns mainGlobals mg → mg d.name = some (.ref fa) →
      ∃ fd : FuncData, (∀ (s : Shared) (u : Value), BindsTo s fd ⟨[u], []⟩ [("_law_script", u)]) ∧ ∀ base : Heap, (K w.params).In base → base.Ns mainGlobals mg → FnOk l.prog w (K w.params) mg base CX0 9 fa fd ["_law_script"] (sp_law (K w.params))) :
    PySem.W.WalkO q loose XP YP l.row.toRowW d [] (fun f vs => PySem.call f vs) :=
  L2.walk_of (n := 63) (k := 9) (x := "_law_script") (CX := fun _ => CX0) (sp := fun w => sp_law (K w.params)) hn (by decide) hdf ⟨rfl, by decide, by decide⟩ hY F (fun _ _ a ns hl _ hS => ⟨a, ns, rfl, hS, hl, fun _ => rfl⟩) fun _ _ _ _ _ z => z
end Jw
open PySem PySem.W PyProof.Rows
set_option maxRecDepth 100000 in
set_option maxHeartbeats 0 in
theorem PySem.Challenge.cw_joinload_k54_whole_runs_by_a_plain_model_holds : PySem.Challenge.rw_joinload_k54_whole_runs_by_a_plain_model.Holds := by
  w_on; o_law; k_head; (case hw => w_witness2)
  k_fill
  refine Jw.walk (l := PySem.Challenge.rw_joinload_k54_whole_runs_by_a_plain_model) rfl rfl (fun w h Y => PySem.W.kIn_of Y) ?F
  case F =>
    intro w mg fa h KX G hmg
    refine' Jw.all_mk KX G hmg ?ns_Machine ?ns_Lost ?ini_Lost ?fi_Machine___init__ ?fi_Machine_word_needed ?fi_Machine_put_at ?fi_Machine_gone_to ?fi_Machine_go_on ?fi_Machine_state ?fi_Machine_word_at ?ns_wrapped ?ns_field ?ns_signed ?ns_turned ?ns_parts_of ?ns_near_of ?ns_split_of ?ns_reckoned ?ns_law_whole ?ns_law_cell_at ?ns_law_word_by ?ns_law_split ?ns_law_near ?ns_law_small ?ns_law_lacks ?ns_law_made ?ns_law_onward ?ns_law_done ?ns_law_state ?ns_law_lost_at ?ns_law_stays ?ns_law_held ?ns_law_runs ?ns_law ?lk_wrapped ?cd_is_wrapped ?kp_wrapped ?lk_field ?cd_is_field ?kp_field ?lk_signed ?cd_is_signed ?kp_signed ?lk_turned ?cd_is_turned ?kp_turned ?lk_parts_of ?cd_is_parts_of ?kp_parts_of ?lk_near_of ?cd_is_near_of ?kp_near_of ?lk_split_of ?cd_is_split_of ?kp_split_of ?lk_reckoned ?cd_is_reckoned ?kp_reckoned ?lk_Lost___init__ ?cd_is_Lost___init__ ?kp_Lost___init__ ?isf_Lost___init__ ?lk_Machine___init__ ?cd_is_Machine___init__ ?kp_Machine___init__ ?isf_Machine___init__ ?lk_Machine_word_needed ?cd_is_Machine_word_needed ?kp_Machine_word_needed ?isf_Machine_word_needed ?lk_Machine_put_at ?cd_is_Machine_put_at ?kp_Machine_put_at ?isf_Machine_put_at ?lk_Machine_gone_to ?cd_is_Machine_gone_to ?kp_Machine_gone_to ?isf_Machine_gone_to ?lk_Machine_go_on ?cd_is_Machine_go_on ?kp_Machine_go_on ?isf_Machine_go_on ?lk_Machine_state ?cd_is_Machine_state ?kp_Machine_state ?isf_Machine_state ?lk_Machine_word_at ?cd_is_Machine_word_at ?kp_Machine_word_at ?isf_Machine_word_at ?lk_law_whole ?cd_is_law_whole ?kp_law_whole ?lk_law_cell_at ?cd_is_law_cell_at ?kp_law_cell_at ?lk_law_word_by ?cd_is_law_word_by ?kp_law_word_by ?lk_law_split ?cd_is_law_split ?kp_law_split ?lk_law_near ?cd_is_law_near ?kp_law_near ?lk_law_small ?cd_is_law_small ?kp_law_small ?lk_law_lacks ?cd_is_law_lacks ?kp_law_lacks ?lk_law_made ?cd_is_law_made ?kp_law_made ?lk_law_onward ?cd_is_law_onward ?kp_law_onward ?lk_law_done ?cd_is_law_done ?kp_law_done ?lk_law_state ?cd_is_law_state ?kp_law_state ?lk_law_lost_at ?cd_is_law_lost_at ?kp_law_lost_at ?lk_law_stays ?cd_is_law_stays ?kp_law_stays ?lk_law_held ?cd_is_law_held ?kp_law_held ?lk_law_runs ?cd_is_law_runs ?kp_law_runs ?lk_law ?cd_is_law ?kp_law ?pg_Machine ?hd_Machine ?po_Machine ?sa_Machine ?mkk_Machine ?kpc_Machine ?nat_Machine_memory ?nat_Machine_spot ?nat_Machine_registers ?nat_Machine_outputs ?nat_Machine_ended ?en ?et ?be_Lost ?ty_Lost ?kc_Lost ?eg_Lost ?ek_Lost ?hd_Lost ?ea_Lost ?em_Lost ?ve_Lost ?xl_Lost ?sa_Lost ?tf_Lost ?no_Lost_place ?kit_Lost_Lost ?ss_Lost ?ns_MANY ?ns_bool ?ns_dict ?ns_int ?ns_isinstance ?ns_len ?ns_list ?ns_range ?ns_tuple
    (case ns_Machine => first | k_is | k_exc | kit_is)
    (case ns_Lost => first | k_is | k_exc | kit_is)
    (case ini_Lost => first | k_is | k_exc | kit_is)
    (case fi_Machine___init__ => first | k_is | k_exc | kit_is)
    (case fi_Machine_word_needed => first | k_is | k_exc | kit_is)
    (case fi_Machine_put_at => first | k_is | k_exc | kit_is)
    (case fi_Machine_gone_to => first | k_is | k_exc | kit_is)
    (case fi_Machine_go_on => first | k_is | k_exc | kit_is)
    (case fi_Machine_state => first | k_is | k_exc | kit_is)
    (case fi_Machine_word_at => first | k_is | k_exc | kit_is)
    (case ns_wrapped => first | k_is | k_exc | kit_is)
    (case ns_field => first | k_is | k_exc | kit_is)
    (case ns_signed => first | k_is | k_exc | kit_is)
    (case ns_turned => first | k_is | k_exc | kit_is)
    (case ns_parts_of => first | k_is | k_exc | kit_is)
    (case ns_near_of => first | k_is | k_exc | kit_is)
    (case ns_split_of => first | k_is | k_exc | kit_is)
    (case ns_reckoned => first | k_is | k_exc | kit_is)
    (case ns_law_whole => first | k_is | k_exc | kit_is)
    (case ns_law_cell_at => first | k_is | k_exc | kit_is)
    (case ns_law_word_by => first | k_is | k_exc | kit_is)
    (case ns_law_split => first | k_is | k_exc | kit_is)
    (case ns_law_near => first | k_is | k_exc | kit_is)
    (case ns_law_small => first | k_is | k_exc | kit_is)
    (case ns_law_lacks => first | k_is | k_exc | kit_is)
    (case ns_law_made => first | k_is | k_exc | kit_is)
    (case ns_law_onward => first | k_is | k_exc | kit_is)
    (case ns_law_done => first | k_is | k_exc | kit_is)
    (case ns_law_state => first | k_is | k_exc | kit_is)
    (case ns_law_lost_at => first | k_is | k_exc | kit_is)
    (case ns_law_stays => first | k_is | k_exc | kit_is)
    (case ns_law_held => first | k_is | k_exc | kit_is)
    (case ns_law_runs => first | k_is | k_exc | kit_is)
    (case ns_law => first | k_is | k_exc | kit_is)
    (case lk_wrapped => first | k_is | k_exc | kit_is)
    (case cd_is_wrapped => first | k_is | k_exc | kit_is)
    (case kp_wrapped => first | k_is | k_exc | kit_is)
    (case lk_field => first | k_is | k_exc | kit_is)
    (case cd_is_field => first | k_is | k_exc | kit_is)
    (case kp_field => first | k_is | k_exc | kit_is)
    (case lk_signed => first | k_is | k_exc | kit_is)
    (case cd_is_signed => first | k_is | k_exc | kit_is)
    (case kp_signed => first | k_is | k_exc | kit_is)
    (case lk_turned => first | k_is | k_exc | kit_is)
    (case cd_is_turned => first | k_is | k_exc | kit_is)
    (case kp_turned => first | k_is | k_exc | kit_is)
    (case lk_parts_of => first | k_is | k_exc | kit_is)
    (case cd_is_parts_of => first | k_is | k_exc | kit_is)
    (case kp_parts_of => first | k_is | k_exc | kit_is)
    (case lk_near_of => first | k_is | k_exc | kit_is)
    (case cd_is_near_of => first | k_is | k_exc | kit_is)
    (case kp_near_of => first | k_is | k_exc | kit_is)
    (case lk_split_of => first | k_is | k_exc | kit_is)
    (case cd_is_split_of => first | k_is | k_exc | kit_is)
    (case kp_split_of => first | k_is | k_exc | kit_is)
    (case lk_reckoned => first | k_is | k_exc | kit_is)
    (case cd_is_reckoned => first | k_is | k_exc | kit_is)
    (case kp_reckoned => first | k_is | k_exc | kit_is)
    (case lk_Lost___init__ => first | k_is | k_exc | kit_is)
    (case cd_is_Lost___init__ => first | k_is | k_exc | kit_is)
    (case kp_Lost___init__ => first | k_is | k_exc | kit_is)
    (case isf_Lost___init__ => first | k_is | k_exc | kit_is)
    (case lk_Machine___init__ => first | k_is | k_exc | kit_is)
    (case cd_is_Machine___init__ => first | k_is | k_exc | kit_is)
    (case kp_Machine___init__ => first | k_is | k_exc | kit_is)
    (case isf_Machine___init__ => first | k_is | k_exc | kit_is)
    (case lk_Machine_word_needed => first | k_is | k_exc | kit_is)
    (case cd_is_Machine_word_needed => first | k_is | k_exc | kit_is)
    (case kp_Machine_word_needed => first | k_is | k_exc | kit_is)
    (case isf_Machine_word_needed => first | k_is | k_exc | kit_is)
    (case lk_Machine_put_at => first | k_is | k_exc | kit_is)
    (case cd_is_Machine_put_at => first | k_is | k_exc | kit_is)
    (case kp_Machine_put_at => first | k_is | k_exc | kit_is)
    (case isf_Machine_put_at => first | k_is | k_exc | kit_is)
    (case lk_Machine_gone_to => first | k_is | k_exc | kit_is)
    (case cd_is_Machine_gone_to => first | k_is | k_exc | kit_is)
    (case kp_Machine_gone_to => first | k_is | k_exc | kit_is)
    (case isf_Machine_gone_to => first | k_is | k_exc | kit_is)
    (case lk_Machine_go_on => first | k_is | k_exc | kit_is)
    (case cd_is_Machine_go_on => first | k_is | k_exc | kit_is)
    (case kp_Machine_go_on => first | k_is | k_exc | kit_is)
    (case isf_Machine_go_on => first | k_is | k_exc | kit_is)
    (case lk_Machine_state => first | k_is | k_exc | kit_is)
    (case cd_is_Machine_state => first | k_is | k_exc | kit_is)
    (case kp_Machine_state => first | k_is | k_exc | kit_is)
    (case isf_Machine_state => first | k_is | k_exc | kit_is)
    (case lk_Machine_word_at => first | k_is | k_exc | kit_is)
    (case cd_is_Machine_word_at => first | k_is | k_exc | kit_is)
    (case kp_Machine_word_at => first | k_is | k_exc | kit_is)
    (case isf_Machine_word_at => first | k_is | k_exc | kit_is)
    (case lk_law_whole => first | k_is | k_exc | kit_is)
    (case cd_is_law_whole => first | k_is | k_exc | kit_is)
    (case kp_law_whole => first | k_is | k_exc | kit_is)
    (case lk_law_cell_at => first | k_is | k_exc | kit_is)
    (case cd_is_law_cell_at => first | k_is | k_exc | kit_is)
    (case kp_law_cell_at => first | k_is | k_exc | kit_is)
    (case lk_law_word_by => first | k_is | k_exc | kit_is)
    (case cd_is_law_word_by => first | k_is | k_exc | kit_is)
    (case kp_law_word_by => first | k_is | k_exc | kit_is)
    (case lk_law_split => first | k_is | k_exc | kit_is)
    (case cd_is_law_split => first | k_is | k_exc | kit_is)
    (case kp_law_split => first | k_is | k_exc | kit_is)
    (case lk_law_near => first | k_is | k_exc | kit_is)
    (case cd_is_law_near => first | k_is | k_exc | kit_is)
    (case kp_law_near => first | k_is | k_exc | kit_is)
    (case lk_law_small => first | k_is | k_exc | kit_is)
    (case cd_is_law_small => first | k_is | k_exc | kit_is)
    (case kp_law_small => first | k_is | k_exc | kit_is)
    (case lk_law_lacks => first | k_is | k_exc | kit_is)
    (case cd_is_law_lacks => first | k_is | k_exc | kit_is)
    (case kp_law_lacks => first | k_is | k_exc | kit_is)
    (case lk_law_made => first | k_is | k_exc | kit_is)
    (case cd_is_law_made => first | k_is | k_exc | kit_is)
    (case kp_law_made => first | k_is | k_exc | kit_is)
    (case lk_law_onward => first | k_is | k_exc | kit_is)
    (case cd_is_law_onward => first | k_is | k_exc | kit_is)
    (case kp_law_onward => first | k_is | k_exc | kit_is)
    (case lk_law_done => first | k_is | k_exc | kit_is)
    (case cd_is_law_done => first | k_is | k_exc | kit_is)
    (case kp_law_done => first | k_is | k_exc | kit_is)
    (case lk_law_state => first | k_is | k_exc | kit_is)
    (case cd_is_law_state => first | k_is | k_exc | kit_is)
    (case kp_law_state => first | k_is | k_exc | kit_is)
    (case lk_law_lost_at => first | k_is | k_exc | kit_is)
    (case cd_is_law_lost_at => first | k_is | k_exc | kit_is)
    (case kp_law_lost_at => first | k_is | k_exc | kit_is)
    (case lk_law_stays => first | k_is | k_exc | kit_is)
    (case cd_is_law_stays => first | k_is | k_exc | kit_is)
    (case kp_law_stays => first | k_is | k_exc | kit_is)
    (case lk_law_held => first | k_is | k_exc | kit_is)
    (case cd_is_law_held => first | k_is | k_exc | kit_is)
    (case kp_law_held => first | k_is | k_exc | kit_is)
    (case lk_law_runs => first | k_is | k_exc | kit_is)
    (case cd_is_law_runs => first | k_is | k_exc | kit_is)
    (case kp_law_runs => first | k_is | k_exc | kit_is)
    (case lk_law => first | k_is | k_exc | kit_is)
    (case cd_is_law => first | k_is | k_exc | kit_is)
    (case kp_law => first | k_is | k_exc | kit_is)
    (case pg_Machine => first | k_is | k_exc | kit_is)
    (case hd_Machine => first | k_is | k_exc | kit_is)
    (case po_Machine => first | k_is | k_exc | kit_is)
    (case sa_Machine => first | k_is | k_exc | kit_is)
    (case mkk_Machine => first | k_is | k_exc | kit_is)
    (case kpc_Machine => first | k_is | k_exc | kit_is)
    (case nat_Machine_memory => first | k_is | k_exc | kit_is)
    (case nat_Machine_spot => first | k_is | k_exc | kit_is)
    (case nat_Machine_registers => first | k_is | k_exc | kit_is)
    (case nat_Machine_outputs => first | k_is | k_exc | kit_is)
    (case nat_Machine_ended => first | k_is | k_exc | kit_is)
    (case en => first | k_is | k_exc | kit_is)
    (case et => first | k_is | k_exc | kit_is)
    (case be_Lost => first | k_is | k_exc | kit_is)
    (case ty_Lost => first | k_is | k_exc | kit_is)
    (case kc_Lost => first | k_is | k_exc | kit_is)
    (case eg_Lost => first | k_is | k_exc | kit_is)
    (case ek_Lost => first | k_is | k_exc | kit_is)
    (case hd_Lost => first | k_is | k_exc | kit_is)
    (case ea_Lost => first | k_is | k_exc | kit_is)
    (case em_Lost => first | k_is | k_exc | kit_is)
    (case ve_Lost => first | k_is | k_exc | kit_is)
    (case xl_Lost => first | k_is | k_exc | kit_is)
    (case sa_Lost => first | k_is | k_exc | kit_is)
    (case tf_Lost => first | k_is | k_exc | kit_is)
    (case no_Lost_place => first | k_is | k_exc | kit_is)
    (case kit_Lost_Lost => first | k_is | k_exc | kit_is)
    (case ss_Lost => first | k_is | k_exc | kit_is)
    (case ns_MANY => first | k_is | k_exc | kit_is)
    (case ns_bool => first | k_is | k_exc | kit_is)
    (case ns_dict => first | k_is | k_exc | kit_is)
    (case ns_int => first | k_is | k_exc | kit_is)
    (case ns_isinstance => first | k_is | k_exc | kit_is)
    (case ns_len => first | k_is | k_exc | kit_is)
    (case ns_list => first | k_is | k_exc | kit_is)
    (case ns_range => first | k_is | k_exc | kit_is)
    (case ns_tuple => first | k_is | k_exc | kit_is)
