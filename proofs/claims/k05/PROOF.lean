import PyProof.Rows.All
import Wide.All
import OpenK.AllK
import Wide.FinOn
import HandS.ForMost
import HandS.IsInst
import HandS.Wide
import HandS.WideBits
import HandS.Style
import PySem.Challenge.RW_joinload_k05_filled_by_halves
set_option Elab.async false
set_option linter.all false
set_option maxRecDepth 100000
set_option maxHeartbeats 4000000
set_option maxHeartbeats 4000000
/-! Bits of whole numbers of any size: & and ^ by halves; a field put in. -/
namespace Jl
open PySem PyProof.Rows
theorem nat_and_rec (a b : Nat) : (a &&& b) = 2 * (a / 2 &&& b / 2) + (if a % 2 = 1 ∧ b % 2 = 1 then 1 else 0) := by
  have e : (a &&& b) / 2 = a / 2 &&& b / 2 := Nat.and_div_two
  have o := @Nat.and_mod_two_eq_one a b
  split <;> rename_i h
  · have := o.mpr h; omega
  · have : ¬ (a &&& b) % 2 = 1 := fun z => h (o.mp z)
    omega
theorem nat_or_rec (a b : Nat) : (a ||| b) = 2 * (a / 2 ||| b / 2) + (if a % 2 = 1 ∨ b % 2 = 1 then 1 else 0) := by
  have e : (a ||| b) / 2 = a / 2 ||| b / 2 := Nat.or_div_two
  have o := @Nat.or_mod_two_eq_one a b
  split <;> rename_i h
  · have := o.mpr h; omega
  · have : ¬ (a ||| b) % 2 = 1 := fun z => h (o.mp z)
    omega
theorem toNat_half {x : Int} (h : 0 ≤ x) : x.toNat / 2 = (x / 2).toNat := by omega
theorem not_half (x : Int) : Builtin.bitNot x / 2 = Builtin.bitNot (x / 2) := by unfold Builtin.bitNot; omega
/-- & by halves -/
theorem and_rec (x y : Int) : Builtin.bitAnd x y = 2 * Builtin.bitAnd (x / 2) (y / 2) + (if x % 2 = 1 ∧ y % 2 = 1 then 1 else 0) := by
  by_cases hx : 0 ≤ x
  · have hx' : 0 ≤ x / 2 := by omega
    by_cases hy : 0 ≤ y
    · have hy' : 0 ≤ y / 2 := by omega
      rw [bitAnd_pp hx hy, bitAnd_pp hx' hy', nat_and_rec, toNat_half hx, toNat_half hy]
      split <;> split <;> omega
    · have hy' : ¬ 0 ≤ y / 2 := by omega
      have hn : 0 ≤ Builtin.bitNot y := by unfold Builtin.bitNot; omega
      rw [bitAnd_comm x y, bitAnd_comm (x / 2), bitAnd_np hy hx, bitAnd_np hy' hx', nat_and_rec, toNat_half hx, toNat_half hn, not_half]
      have e1 : x.toNat % 2 = 1 ↔ x % 2 = 1 := by omega
      have e2 : (Builtin.bitNot y).toNat % 2 = 1 ↔ ¬ y % 2 = 1 := by unfold Builtin.bitNot at *; omega
      split <;> split <;> omega
  · have hx' : ¬ 0 ≤ x / 2 := by omega
    have hnx : 0 ≤ Builtin.bitNot x := by unfold Builtin.bitNot; omega
    have e2 : (Builtin.bitNot x).toNat % 2 = 1 ↔ ¬ x % 2 = 1 := by unfold Builtin.bitNot at *; omega
    by_cases hy : 0 ≤ y
    · have hy' : 0 ≤ y / 2 := by omega
      rw [bitAnd_np hx hy, bitAnd_np hx' hy', nat_and_rec, toNat_half hy, toNat_half hnx, not_half]
      have e1 : y.toNat % 2 = 1 ↔ y % 2 = 1 := by omega
      split <;> split <;> omega
    · have hy' : ¬ 0 ≤ y / 2 := by omega
      have hny : 0 ≤ Builtin.bitNot y := by unfold Builtin.bitNot; omega
      have e3 : (Builtin.bitNot y).toNat % 2 = 1 ↔ ¬ y % 2 = 1 := by unfold Builtin.bitNot at *; omega
      rw [bitAnd_nn hx hy, bitAnd_nn hx' hy', nat_or_rec, toNat_half hnx, toNat_half hny, not_half, not_half]
      have u : ∀ z : Int, Builtin.bitNot z = -z - 1 := fun _ => rfl
      rw [u (_ : Nat), u (_ : Nat)]
      split <;> split <;> omega
/-- ^ by halves -/
theorem xor_rec (x y : Int) : Builtin.bitXor x y = 2 * Builtin.bitXor (x / 2) (y / 2) + (x + y) % 2 := by
  rw [bitXor_and, bitXor_and, and_rec]
  split <;> omega
theorem and_two (x y : Int) (c d : Int) (hc : c = 0 ∨ c = 1) (hd : d = 0 ∨ d = 1) : Builtin.bitAnd (2 * x + c) (2 * y + d) = 2 * Builtin.bitAnd x y + c * d := by
  rw [and_rec]
  have e1 : (2 * x + c) / 2 = x := by omega
  have e2 : (2 * y + d) / 2 = y := by omega
  rw [e1, e2]
  rcases hc with rfl | rfl <;> rcases hd with rfl | rfl <;> (split <;> omega)
theorem xor_two (x y : Int) (c d : Int) (hc : c = 0 ∨ c = 1) (hd : d = 0 ∨ d = 1) : Builtin.bitXor (2 * x + c) (2 * y + d) = 2 * Builtin.bitXor x y + (c + d) % 2 := by
  rw [xor_rec]
  have e1 : (2 * x + c) / 2 = x := by omega
  have e2 : (2 * y + d) / 2 = y := by omega
  rw [e1, e2]
  omega
theorem two_pow_pos (k : Nat) : (0 : Int) < 2 ^ k := Int.pow_pos (by decide)
theorem pow_succ2 (k : Nat) : (2 : Int) ^ (k + 1) = 2 * 2 ^ k := by rw [Int.pow_succ]; omega
theorem emod_two_mul (a : Int) {m : Int} (hm : 0 < m) : a % (2 * m) = 2 * (a / 2 % m) + a % 2 := by
  have h1 : a / 2 = m * (a / 2 / m) + a / 2 % m := (Int.mul_ediv_add_emod (a / 2) m).symm
  have h2 := Int.emod_nonneg (a / 2) (show m ≠ 0 by omega)
  have h3 := Int.emod_lt_of_pos (a / 2) hm
  have h4 : a = (2 * (a / 2 % m) + a % 2) + (2 * m) * (a / 2 / m) := by
    have : (2 * m) * (a / 2 / m) = 2 * (m * (a / 2 / m)) := Int.mul_assoc ..
    omega
  have h5 : a % (2 * m) = (2 * (a / 2 % m) + a % 2) % (2 * m) := by
    conv => lhs; rw [h4]
    rw [Int.add_mul_emod_self_left]
  rw [h5, Int.emod_eq_of_lt (by omega) (by omega)]
theorem ediv_two_pow (a : Int) (k : Nat) : a / 2 ^ (k + 1) = a / 2 / 2 ^ k := by
  rw [pow_succ2, Int.ediv_ediv_of_nonneg (by decide)]
/-- x & (2 ** k - 1), x any number -/
theorem and_mask (k : Nat) : ∀ x : Int, Builtin.bitAnd x (2 ^ k - 1) = x % 2 ^ k := by
  induction k with
  | zero => intro x; show Builtin.bitAnd x 0 = x % 1; rw [bitAnd_zero]; omega
  | succ k ih =>
    intro x
    have e : (2 : Int) ^ (k + 1) - 1 = 2 * (2 ^ k - 1) + 1 := by rw [pow_succ2]; omega
    have hx : x = 2 * (x / 2) + x % 2 := by omega
    rw [e]
    conv => lhs; rw [hx]
    rw [and_two _ _ _ _ (by omega) (by omega), ih, pow_succ2, emod_two_mul _ (two_pow_pos k)]
    omega
/-- the field put in: what with_field reckons -/
theorem put_low (many : Nat) : ∀ w n : Int, Builtin.bitXor w (Builtin.bitAnd (Builtin.bitXor w n) (2 ^ many - 1)) = w - w % 2 ^ many + n % 2 ^ many := by
  induction many with
  | zero => intro w n; show Builtin.bitXor w (Builtin.bitAnd (Builtin.bitXor w n) 0) = w - w % 1 + n % 1; rw [bitAnd_zero, bitXor_zero]; omega
  | succ k ih =>
    intro w n
    have e : (2 : Int) ^ (k + 1) - 1 = 2 * (2 ^ k - 1) + 1 := by rw [pow_succ2]; omega
    have hw : w = 2 * (w / 2) + w % 2 := by omega
    have hn : n = 2 * (n / 2) + n % 2 := by omega
    have i := ih (w / 2) (n / 2)
    have q1 := emod_two_mul w (two_pow_pos k)
    have q2 := emod_two_mul n (two_pow_pos k)
    rw [e]
    conv => lhs; rw [hw, hn]
    rw [xor_two _ _ _ _ (by omega) (by omega), and_two _ _ _ _ (by omega) (by omega), xor_two _ _ _ _ (by omega) (by omega), i, pow_succ2, q1, q2]
    omega
theorem put_at (low many : Nat) : ∀ w n : Int, Builtin.bitXor w (Builtin.bitAnd (Builtin.bitXor w (n * 2 ^ low)) ((2 ^ many - 1) * 2 ^ low)) =
    w - (w / 2 ^ low % 2 ^ many) * 2 ^ low + (n % 2 ^ many) * 2 ^ low := by
  induction low with
  | zero => intro w n; simp only [Int.pow_zero, Int.mul_one, Int.ediv_one]; exact put_low many w n
  | succ k ih =>
    intro w n
    have hw : w = 2 * (w / 2) + w % 2 := by omega
    have e1 : n * 2 ^ (k + 1) = 2 * (n * 2 ^ k) + 0 := by rw [pow_succ2, Int.mul_left_comm]; omega
    have e2 : ((2 : Int) ^ many - 1) * 2 ^ (k + 1) = 2 * ((2 ^ many - 1) * 2 ^ k) + 0 := by rw [pow_succ2, Int.mul_left_comm]; omega
    have i := ih (w / 2) n
    rw [e1, e2, ediv_two_pow, pow_succ2]
    conv => lhs; rw [hw]
    rw [xor_two _ _ _ _ (by omega) (by omega), and_two _ _ _ _ (by omega) (by omega), xor_two _ _ _ _ (by omega) (by omega), i]
    rw [Int.mul_left_comm _ 2, Int.mul_left_comm _ 2]
    omega
/-- what with_field(word, low, many, number) reckons -/
def wf (w low many n : Int) : Int := w - (w / 2 ^ low.toNat % 2 ^ many.toNat) * 2 ^ low.toNat + (n % 2 ^ many.toNat) * 2 ^ low.toNat
end Jl
namespace Jl
/-- signed(number, many) -/
def sgn (n : Int) (m : Nat) : Int := (n + 2 ^ (m - 1)) % (2 ^ (m - 1) * 2) - 2 ^ (m - 1)
theorem sgn_facts (n : Int) {m : Nat} (h : 1 ≤ m) : -(2 ^ (m - 1)) ≤ sgn n m ∧ sgn n m < 2 ^ (m - 1) ∧ (n - sgn n m) % 2 ^ m = 0 := by
  obtain ⟨k, rfl⟩ : ∃ k, m = k + 1 := ⟨m - 1, by omega⟩
  have hp := two_pow_pos k
  have e : k + 1 - 1 = k := by omega
  unfold sgn
  rw [e, pow_succ2]
  have h1 := Int.emod_nonneg (n + 2 ^ k) (show (2 : Int) ^ k * 2 ≠ 0 by omega)
  have h2 := Int.emod_lt_of_pos (n + 2 ^ k) (show (0 : Int) < 2 ^ k * 2 by omega)
  refine ⟨by omega, by omega, ?_⟩
  have h3 := Int.mul_ediv_add_emod (n + 2 ^ k) (2 ^ k * 2)
  have h4 : n - ((n + 2 ^ k) % (2 ^ k * 2) - 2 ^ k) = (2 * 2 ^ k) * ((n + 2 ^ k) / (2 ^ k * 2)) := by
    have : (2 * 2 ^ k) * ((n + 2 ^ k) / (2 ^ k * 2)) = 2 ^ k * 2 * ((n + 2 ^ k) / (2 ^ k * 2)) := by rw [Int.mul_comm 2]
    omega
  rw [h4]
  exact Int.mul_emod_right _ _
end Jl
namespace Jl
theorem pow_lt {m : Nat} (h : m ≤ 99) : ((2 : Int) ^ m - 1).natAbs < 2 ^ 100 := by
  have e : ((2 : Int) ^ m) = ((2 ^ m : Nat) : Int) := by simp
  have h2 : (2 : Nat) ^ m ≤ 2 ^ 99 := Nat.pow_le_pow_right (by decide) h
  have h3 : (2 : Nat) ^ 99 < 2 ^ 100 := by decide
  have h4 : 0 < (2 : Nat) ^ m := Nat.two_pow_pos m
  rw [e]
  omega
theorem pow_lt' {m : Nat} (h : m ≤ 99) : ((2 : Int) ^ m).natAbs < 2 ^ 100 := by
  have e : ((2 : Int) ^ m) = ((2 ^ m : Nat) : Int) := by simp
  have h2 : (2 : Nat) ^ m ≤ 2 ^ 99 := Nat.pow_le_pow_right (by decide) h
  have h3 : (2 : Nat) ^ 99 < 2 ^ 100 := by decide
  rw [e, Int.natAbs_natCast]
  omega
/-- what lies within sixty figures (and some more) -/
theorem big_of {n : Int} (h : -(10 ^ 65) ≤ n) (h2 : n ≤ 10 ^ 65) : n.natAbs < 2 ^ 250 := by
  have e : (10 : Nat) ^ 65 < 2 ^ 250 := by decide
  omega
end Jl
namespace Jl
theorem half_pow {m : Nat} (h : 1 ≤ m) : (2 : Int) ^ m / 2 = 2 ^ (m - 1) := by
  obtain ⟨k, rfl⟩ : ∃ k, m = k + 1 := ⟨m - 1, by omega⟩
  rw [pow_succ2, Nat.add_sub_cancel]
  omega
end Jl
namespace Jl
theorem half_more (a : Int) (k : Nat) : a / 2 ^ k / 2 = a / 2 ^ (k + 1) := by
  rw [Int.pow_succ, Int.ediv_ediv_of_nonneg (Int.le_of_lt (two_pow_pos k))]
theorem dbl_more (k : Nat) : (2 : Int) ^ k * 2 = 2 ^ (k + 1) := by rw [Int.pow_succ]
end Jl
namespace Jl
theorem mod_bit (x : Int) : ∀ (j m : Nat), j < m → (x % 2 ^ m) / 2 ^ j % 2 = x / 2 ^ j % 2 := by
  intro j
  induction j generalizing x with
  | zero =>
    intro m h
    obtain ⟨k, rfl⟩ : ∃ k, m = k + 1 := ⟨m - 1, by omega⟩
    rw [pow_succ2, emod_two_mul _ (two_pow_pos k)]
    simp only [Int.pow_zero, Int.ediv_one]
    omega
  | succ j ih =>
    intro m h
    obtain ⟨k, rfl⟩ : ∃ k, m = k + 1 := ⟨m - 1, by omega⟩
    have e : x % 2 ^ (k + 1) / 2 = x / 2 % 2 ^ k := by
      rw [pow_succ2, emod_two_mul _ (two_pow_pos k)]
      omega
    rw [ediv_two_pow, ediv_two_pow, e]
    exact ih (x / 2) k (by omega)
theorem pow_add2 (a b : Nat) : (2 : Int) ^ (a + b) = 2 ^ a * 2 ^ b := Int.pow_add ..
theorem div_more (x : Int) (a b : Nat) : x / 2 ^ (a + b) = x / 2 ^ a / 2 ^ b := by
  rw [pow_add2, Int.ediv_ediv_of_nonneg (Int.le_of_lt (two_pow_pos a))]
def wfN (w : Int) (low many : Nat) (n : Int) : Int := w - (w / 2 ^ low % 2 ^ many) * 2 ^ low + (n % 2 ^ many) * 2 ^ low
theorem wf_parts (w : Int) (low many : Nat) (n : Int) : wfN w low many n / 2 ^ low = 2 ^ many * (w / 2 ^ low / 2 ^ many) + n % 2 ^ many ∧ wfN w low many n % 2 ^ low = w % 2 ^ low := by
  have hp := two_pow_pos low
  have e1 := Int.mul_ediv_add_emod w (2 ^ low)
  have e2 := Int.mul_ediv_add_emod (w / 2 ^ low) (2 ^ many)
  have r1 := Int.emod_nonneg w (show (2 : Int) ^ low ≠ 0 by omega)
  have r2 := Int.emod_lt_of_pos w hp
  have e3 : wfN w low many n = 2 ^ low * (2 ^ many * (w / 2 ^ low / 2 ^ many) + n % 2 ^ many) + w % 2 ^ low := by
    unfold wfN
    generalize w / 2 ^ low % 2 ^ many = f at *
    generalize w % 2 ^ low = r at *
    generalize n % 2 ^ many = g at *
    generalize w / 2 ^ low / 2 ^ many = A at *
    have e4 : 2 ^ low * (w / 2 ^ low) = 2 ^ low * (2 ^ many * A) + f * 2 ^ low := by
      rw [Int.mul_comm f, ← Int.mul_add, e2]
    have e5 : (2 : Int) ^ low * (2 ^ many * A + g) = 2 ^ low * (2 ^ many * A) + g * 2 ^ low := by
      rw [Int.mul_add, Int.mul_comm g]
    omega
  rw [e3]
  constructor
  · rw [Int.add_comm (2 ^ low * _), Int.add_mul_ediv_left _ _ (by omega), Int.ediv_eq_zero_of_lt r1 r2]
    omega
  · rw [Int.add_comm (2 ^ low * _), Int.add_mul_emod_self_left, Int.emod_eq_of_lt r1 r2]
theorem wf_field (w : Int) (low many : Nat) (n : Int) : wfN w low many n / 2 ^ low % 2 ^ many = n % 2 ^ many := by
  rw [(wf_parts w low many n).1, Int.add_comm, Int.add_mul_emod_self_left, Int.emod_emod]
theorem wf_high (w : Int) (low many : Nat) (n : Int) : wfN w low many n / 2 ^ (low + many) = w / 2 ^ (low + many) := by
  have hp := two_pow_pos many
  have r1 := Int.emod_nonneg n (show (2 : Int) ^ many ≠ 0 by omega)
  have r2 := Int.emod_lt_of_pos n hp
  rw [div_more, div_more, (wf_parts w low many n).1, Int.add_comm, Int.add_mul_ediv_left _ _ (by omega), Int.ediv_eq_zero_of_lt r1 r2]
  omega
theorem wf_bit (w : Int) (low many : Nat) (n : Int) (i : Nat) : wfN w low many n / 2 ^ i % 2 = if low ≤ i ∧ i < low + many then n / 2 ^ (i - low) % 2 else w / 2 ^ i % 2 := by
  by_cases h : i < low
  · rw [if_neg (by omega), ← mod_bit _ i low h, (wf_parts w low many n).2, mod_bit _ i low h]
  · by_cases h2 : i < low + many
    · rw [if_pos ⟨by omega, h2⟩]
      obtain ⟨j, rfl⟩ : ∃ j, i = low + j := ⟨i - low, by omega⟩
      rw [div_more, Nat.add_sub_cancel_left, ← mod_bit (wfN w low many n / 2 ^ low) j many (by omega), wf_field, mod_bit _ j many (by omega)]
    · rw [if_neg (by omega)]
      obtain ⟨j, rfl⟩ : ∃ j, i = (low + many) + j := ⟨i - (low + many), by omega⟩
      rw [div_more, wf_high, ← div_more]
/-- two numbers in a word's range, by their parts -/
theorem lt_pow_of_div {x : Int} {a b : Nat} (h0 : 0 ≤ x / 2 ^ a) (h : x / 2 ^ a < 2 ^ b) : 0 ≤ x ∧ x < 2 ^ (a + b) := by
  have hp := two_pow_pos a
  have e1 := Int.mul_ediv_add_emod x (2 ^ a)
  have r1 := Int.emod_nonneg x (show (2 : Int) ^ a ≠ 0 by omega)
  have r2 := Int.emod_lt_of_pos x hp
  have m0 := Int.mul_nonneg (Int.le_of_lt hp) h0
  have m1 : (2 : Int) ^ a * (x / 2 ^ a + 1) ≤ 2 ^ a * 2 ^ b := Int.mul_le_mul_of_nonneg_left (by omega) (Int.le_of_lt hp)
  rw [pow_add2]
  rw [Int.mul_add] at m1
  omega
theorem div_lt_pow {x : Int} {a b : Nat} (h0 : 0 ≤ x) (h : x < 2 ^ (a + b)) : 0 ≤ x / 2 ^ a ∧ x / 2 ^ a < 2 ^ b := by
  have hp := two_pow_pos a
  refine ⟨Int.ediv_nonneg h0 (Int.le_of_lt hp), ?_⟩
  refine Int.ediv_lt_of_lt_mul hp ?_
  rw [Int.mul_comm, ← pow_add2]
  exact h
theorem wf_range (w : Int) (low many k : Nat) (n : Int) (hk : low + many ≤ k) (h0 : 0 ≤ w) (h : w < 2 ^ k) : 0 ≤ wfN w low many n ∧ wfN w low many n < 2 ^ k := by
  obtain ⟨j, rfl⟩ : ∃ j, k = (low + many) + j := ⟨k - (low + many), by omega⟩
  obtain ⟨a, b⟩ := div_lt_pow h0 h
  rw [← wf_high w low many n] at a b
  exact lt_pow_of_div a b
theorem wf_is (w low many n : Int) : wf w low many n = wfN w low.toNat many.toNat n := rfl
end Jl
namespace Jl
/-- the lowest n bits, the lowest one first -/
def bitsOf (w : Int) (n : Nat) : List Int := (List.range n).map fun i => w / 2 ^ i % 2
end Jl
namespace Jl
theorem turn_bits (w : Int) (h0 : 0 ≤ w) (h1 : w < 2 ^ 32) (m : Nat) (hm : m ≤ 32) (i : Nat) (hi : i < 32) :
    ((w / 2 ^ m + w * 2 ^ (32 - m)) % 2 ^ 32) / 2 ^ i % 2 = w / 2 ^ (if i + m < 32 then i + m else i + m - 32) % 2 := by
  rw [mod_bit _ i 32 hi]
  have hp := two_pow_pos (32 - m)
  have ha : 0 ≤ w / 2 ^ m ∧ w / 2 ^ m < 2 ^ (32 - m) := div_lt_pow h0 (by rw [show m + (32 - m) = 32 by omega]; exact h1)
  by_cases h : i + m < 32
  · rw [if_pos h, ← mod_bit _ i (32 - m) (by omega), Int.mul_comm w, Int.add_mul_emod_self_left, Int.emod_eq_of_lt ha.1 ha.2, ← div_more, Nat.add_comm m]
  · rw [if_neg h]
    obtain ⟨j, rfl⟩ : ∃ j, i = (32 - m) + j := ⟨i - (32 - m), by omega⟩
    rw [div_more, Int.mul_comm w, Int.add_mul_ediv_left _ _ (by omega), Int.ediv_eq_zero_of_lt ha.1 ha.2, Int.zero_add, show 32 - m + j + m - 32 = j by omega]
theorem bitsOf_get (w : Int) {n i : Nat} (h : i < n) : (bitsOf w n)[i]? = some (w / 2 ^ i % 2) := by
  unfold bitsOf
  rw [List.getElem?_map, List.getElem?_range h]; rfl
theorem bitsOf_succ (w : Int) (n : Nat) : bitsOf w (n + 1) = bitsOf w n ++ [w / 2 ^ n % 2] := by
  unfold bitsOf
  rw [List.range_succ, List.map_append]; rfl
theorem bitsOf_len (w : Int) (n : Nat) : (bitsOf w n).length = n := by
  unfold bitsOf
  rw [List.length_map, List.length_range]
end Jl
namespace Jl
theorem f0_16 (w : Int) : w / 2 ^ (0 : Int).toNat % 2 ^ (16 : Int).toNat = w % 65536 := by
  show w / 1 % 65536 = _
  rw [Int.ediv_one]
theorem f0_7 (w : Int) : w / 2 ^ (0 : Int).toNat % 2 ^ (7 : Int).toNat = w % 128 := by
  show w / 1 % 128 = _
  rw [Int.ediv_one]
theorem f14_5 (w : Int) : w / 2 ^ (14 : Int).toNat % 2 ^ (5 : Int).toNat = w / 16384 % 32 := rfl
theorem wf_16 (w n : Int) : wf w 0 16 n = w - w % 65536 + n % 65536 := by
  show w - (w / 1 % 65536) * 1 + (n % 65536) * 1 = _
  rw [Int.ediv_one]; omega
theorem wf_19 (w n : Int) : wf w 0 19 n = w - w % 524288 + n % 524288 := by
  show w - (w / 1 % 524288) * 1 + (n % 524288) * 1 = _
  rw [Int.ediv_one]; omega
theorem wf_7 (w n : Int) : wf w 0 7 n = w - w % 128 + n % 128 := by
  show w - (w / 1 % 128) * 1 + (n % 128) * 1 = _
  rw [Int.ediv_one]; omega
theorem wf_14 (w n : Int) : wf w 14 5 n = w - w / 16384 % 32 * 16384 + n % 32 * 16384 := rfl
theorem sgn_16 (w : Int) : sgn w (16 : Int).toNat = (w + 32768) % 65536 - 32768 := rfl
theorem sgn_19 (w : Int) : sgn w (19 : Int).toNat = (w + 262144) % 524288 - 262144 := rfl
theorem sgn_12 (w : Int) : sgn w (12 : Int).toNat = (w + 2048) % 4096 - 2048 := rfl
end Jl

/-! Steps: one lemma for each reading, to be walked from the left. -/
namespace Jl
open PySem L2
section
variable {X : Cx}
/-- a list + a list, each to be read (the script, too) -/
def rCatS (K : PySem.W.Frag) : R2 := fun x y H Q => ∃ l b xs zs, x = .ref l ∧ y = .ref b ∧ SqL K H l xs ∧ SqL K H b zs ∧ xs.length + zs.length ≤ sizeLine ∧ ∀ p, H p = none → Q (.ref p) (upd H p (.lst (xs ++ zs)))
theorem op_catS : OpR X (binaryOp .Add) (rCatS X.K) := by
  intro pins s σ H x y v u Q I rx ry h
  obtain ⟨l, b, xs, zs, rfl, rfl, hH, hB, hz, q⟩ := h
  cases rx
  cases ry
  obtain ⟨its, r, p, _⟩ := I.list hH
  obtain ⟨its2, r2, p2, _⟩ := I.list hB
  have hl := p.isList
  have hb := p2.isList
  have hsz : its.length + its2.length ≤ sizeLine := by rw [← r.length, ← r2.length]; exact hz
  obtain ⟨⟨cls, dd, data, sl⟩, ho, hc, n, hd⟩ := id hl
  obtain ⟨⟨cls2, dd2, data2, sl2⟩, ho2, hc2, n2, hd2⟩ := id hb
  simp only at hc hd hc2 hd2
  subst hc hd hc2 hd2
  have e : its.toArray ++ its2.toArray = (its ++ its2).toArray := by simp
  refine PySem.concat_meets ⟨_, ho, rfl⟩ ⟨_, ho2, rfl⟩ PySem.noFill_list_add PySem.seq_list_add PySem.F.slot_list_add PySem.F.entry_list_add (PySem.F.args_list_add_2 _ _) (PyProof.Rows.list_addW l b its.toArray its2.toArray n n2 dd dd2 sl sl2 (by simpa using hsz)) ⟨ho, ho2, ?_⟩
  rw [e]
  exact ⟨.ref _, _, I.lnew (t' := s.toks) (r.append r2) (by rw [List.length_append]; omega), rfl, q _ I.fresh⟩
end
section
variable {K : PySem.W.Frag} {σ : L2.St} {H : Hp} {Q : VK} {ta tb tc te : TE} {tt t1 t2 : TT} {tr : TA} {i j : Int} {x y v : V} {b c : Bool} {p q A B : Prop} {nx bk ct : L2.St → Hp → Prop} {rt : VK} {ts tu tw : TS} {g : Int → Int → V} {R : List V → Hp → Prop} {T : Bool → Hp → Prop} {E : XK} {sp : Sp}
theorem s_var {k : Nat} (h : σ[k]? = some (some v)) (z : Q v H) : tVar k σ H Q := ⟨v, h, z⟩
theorem s_c (z : Q v H) : tC v σ H Q := z
theorem s_op {r : R2} (z : ta σ H fun x H1 => tb σ H1 fun y H2 => r x y H2 Q) : tOp r ta tb σ H Q := z
theorem s_un {r : V → Hp → VK → Prop} (z : ta σ H fun x H1 => r x H1 Q) : tUn r ta σ H Q := z
theorem s_I0 (z : Q (g i j) H) : rI0 g (.int i) (.int j) H Q := ⟨i, j, rfl, rfl, z⟩
theorem s_I {C : Int → Int → Prop} (hc : C i j) (z : Q (g i j) H) : rI C g (.int i) (.int j) H Q := ⟨i, j, rfl, rfl, hc, z⟩
theorem s_U {f : Int → V} (z : Q (f i) H) : rU f (.int i) H Q := ⟨i, rfl, z⟩
theorem s_eqI (z : Q (.bl (decide (i = j))) H) : rEq (.int i) (.int j) H Q := ⟨rfl, by
  have e : decide (V.int i = V.int j) = decide (i = j) := by rw [Bool.eq_iff_iff]; simp
  rw [e]; exact z⟩
theorem s_neI (z : Q (.bl (!decide (i = j))) H) : rNe (.int i) (.int j) H Q := ⟨rfl, by
  have e : decide (V.int i = V.int j) = decide (i = j) := by rw [Bool.eq_iff_iff]; simp
  rw [e]; exact z⟩
theorem s_eqS {z w : Str} (k : Q (.bl (decide (z = w))) H) : rEq (.str z) (.str w) H Q := ⟨rfl, by
  have e : decide (V.str z = V.str w) = decide (z = w) := by rw [Bool.eq_iff_iff]; simp
  rw [e]; exact k⟩
theorem s_neS {z w : Str} (k : Q (.bl (!decide (z = w))) H) : rNe (.str z) (.str w) H Q := ⟨rfl, by
  have e : decide (V.str z = V.str w) = decide (z = w) := by rw [Bool.eq_iff_iff]; simp
  rw [e]; exact k⟩
theorem s_eqB (k : Q (.bl (decide (b = c))) H) : rEq (.bl b) (.bl c) H Q := ⟨rfl, by
  have e : decide (V.bl b = V.bl c) = decide (b = c) := by rw [Bool.eq_iff_iff]; simp
  rw [e]; exact k⟩
theorem s_neB (k : Q (.bl (!decide (b = c))) H) : rNe (.bl b) (.bl c) H Q := ⟨rfl, by
  have e : decide (V.bl b = V.bl c) = decide (b = c) := by rw [Bool.eq_iff_iff]; simp
  rw [e]; exact k⟩
theorem s_isB (k : Q (.bl (decide (b = c))) H) : rIsB (.bl b) (.bl c) H Q := ⟨b, c, rfl, rfl, k⟩
theorem s_notB (k : Q (.bl (!decide (b = c))) H) : rNotB (.bl b) (.bl c) H Q := ⟨b, c, rfl, rfl, k⟩
theorem s_test {t : TE} (z : t σ H fun x H' => ∃ k, x = .bl k ∧ T k H') : tTest t σ H T := z
theorem s_tB {t : TE} (z : t σ H fun x H' => ∃ k, x = .bl k ∧ T k H') : tB t σ H T := z
theorem s_chain {r r' : R2} (z : ta σ H fun x H1 => tb σ H1 fun y H2 => r x y H2 fun z H3 => ∃ k, z = .bl k ∧ (if k = true then tc σ H3 fun w' H4 => r' y w' H4 Q else Q (.bl false) H3)) : tChain r r' ta tb tc σ H Q := z
theorem s_and (z : t1 σ H fun c H1 => if c = true then t2 σ H1 T else T false H1) : tAnd t1 t2 σ H T := z
theorem s_or (z : t1 σ H fun c H1 => if c = true then T true H1 else t2 σ H1 T) : tOr t1 t2 σ H T := z
theorem s_not (z : t1 σ H fun c H1 => T (!c) H1) : tNot t1 σ H T := z
theorem s_andV (z : ta σ H fun x H1 => ∃ c, x = .bl c ∧ if c = true then tb σ H1 Q else Q (.bl false) H1) : tAndV ta tb σ H Q := z
theorem s_orV (z : ta σ H fun x H1 => ∃ c, x = .bl c ∧ if c = true then Q (.bl true) H1 else tb σ H1 Q) : tOrV ta tb σ H Q := z
theorem s_notV (z : ta σ H fun x H1 => ∃ c, x = .bl c ∧ Q (.bl (!c)) H1) : tNotV ta σ H Q := z
theorem s_ifE (z : tt σ H fun c H1 => if c = true then ta σ H1 Q else tb σ H1 Q) : tIf tt ta tb σ H Q := z
theorem s_exbl {P : Bool → Prop} (z : P b) : ∃ k, V.bl b = V.bl k ∧ P k := ⟨b, rfl, z⟩
theorem s_next (z : nx σ H) : tNext ⟨nx, rt, bk, ct⟩ σ H := z
theorem s_seq (z : ts ⟨tu ⟨nx, rt, bk, ct⟩, rt, bk, ct⟩ σ H) : tSeq ts tu ⟨nx, rt, bk, ct⟩ σ H := z
theorem s_seq_assoc (z : tSeq ts tu ⟨tw ⟨nx, rt, bk, ct⟩, rt, bk, ct⟩ σ H) : tSeq ts (tSeq tu tw) ⟨nx, rt, bk, ct⟩ σ H := z
theorem s_drop (z : te σ H fun _ H1 => nx σ H1) : tDrop te ⟨nx, rt, bk, ct⟩ σ H := z
theorem s_ret (z : te σ H rt) : tRet te ⟨nx, rt, bk, ct⟩ σ H := z
theorem s_break (z : bk σ H) : tBreak ⟨nx, rt, bk, ct⟩ σ H := z
theorem s_cont (z : ct σ H) : tCont ⟨nx, rt, bk, ct⟩ σ H := z
theorem s_ifS (z : tt σ H fun b H1 => if b = true then ts ⟨nx, rt, bk, ct⟩ σ H1 else tu ⟨nx, rt, bk, ct⟩ σ H1) : tIfS tt ts tu ⟨nx, rt, bk, ct⟩ σ H := z
theorem s_asg {gg : TG} (z : te σ H fun x H1 => gg x σ H1 nx) : tAsg te gg ⟨nx, rt, bk, ct⟩ σ H := z
theorem s_name {k : Nat} {W : L2.St → Hp → Prop} (z : W (σ.set k (some v)) H) : gName k v σ H W := z
theorem s_nil (z : R [] H) : tNil σ H R := z
theorem s_cons (z : ta σ H fun x H1 => tr σ H1 fun xs H2 => R (x :: xs) H2) : tCons ta tr σ H R := z
theorem s_call {t : TA} (z : t σ H fun vs H1 => sp vs H1 Q E) : tCall sp [] E t σ H Q := by
  have e : (fun vs H1 => sp vs H1 Q E) = (fun vs H1 => sp (vs ++ []) H1 Q E) := by
    funext vs H1
    rw [List.append_nil]
  unfold tCall
  rw [← e]
  exact z
theorem s_CB {r : List V → Hp → VK → Prop} {t : TA} (z : t σ H fun vs H1 => r vs H1 Q) : tCB r t σ H Q := z
theorem s_iteT (z : A) : if true = true then A else B := by rw [if_pos rfl]; exact z
theorem s_iteF (z : B) : if false = true then A else B := by rw [if_neg Bool.false_ne_true]; exact z
theorem s_iteD [Decidable p] (h1 : p → A) (h2 : ¬ p → B) : if decide p = true then A else B := by
  by_cases h : p
  · rw [if_pos (decide_eq_true h)]; exact h1 h
  · rw [if_neg (by rw [decide_eq_false h]; exact Bool.false_ne_true)]; exact h2 h
theorem s_iteN [Decidable p] (h1 : ¬ p → A) (h2 : p → B) : if (!decide p) = true then A else B := by
  by_cases h : p
  · rw [if_neg (by rw [decide_eq_true h]; exact Bool.false_ne_true)]; exact h2 h
  · rw [if_pos (by rw [decide_eq_false h]; rfl)]; exact h1 h
theorem s_iteNN [Decidable p] (h1 : p → A) (h2 : ¬ p → B) : if (!!decide p) = true then A else B := by rw [Bool.not_not]; exact s_iteD h1 h2
theorem s_iteNT (z : B) : if (!true) = true then A else B := by rw [if_neg (by decide)]; exact z
theorem s_iteNF (z : A) : if (!false) = true then A else B := by rw [if_pos (by decide)]; exact z
theorem s_iteB (h1 : b = true → A) (h2 : b = false → B) : if b = true then A else B := by
  cases b with
  | true => exact s_iteT (h1 rfl)
  | false => exact s_iteF (h2 rfl)
theorem s_iteNB (h1 : b = false → A) (h2 : b = true → B) : if (!b) = true then A else B := by
  cases b with
  | false => exact s_iteNF (h1 rfl)
  | true => exact s_iteNT (h2 rfl)
theorem s_isi {xs : V} {cn : String} {k : Bool} {t : Value} (ty : TyX K H xs t) (hk : PySem.W.kitOne K t (.type cn) = some k) (z : Q (.bl k) H) : rIsi K [xs, .ty cn] H Q := ⟨xs, .ty cn, t, .type cn, k, rfl, .ty cn, ty, hk, z⟩
theorem s_isi_ii (z : Q (.bl true) H) : rIsi K [.int i, .ty "int"] H Q := s_isi (.base (.int i)) (kit_ty (by decide +kernel)) z
theorem s_isi_ib (z : Q (.bl false) H) : rIsi K [.int i, .ty "bool"] H Q := s_isi (.base (.int i)) (kit_ty (by decide +kernel)) z
theorem s_isi_bb (z : Q (.bl true) H) : rIsi K [.bl b, .ty "bool"] H Q := s_isi (.base (.bl b)) (kit_ty (by decide +kernel)) z
theorem s_isi_bi (z : Q (.bl true) H) : rIsi K [.bl b, .ty "int"] H Q := s_isi (.base (.bl b)) (kit_ty (by decide +kernel)) z
theorem s_isi_ss {w : Str} (z : Q (.bl true) H) : rIsi K [.str w, .ty "str"] H Q := s_isi (.base (.str w)) (kit_ty (by decide +kernel)) z
theorem s_isN (z : Q (.bl (decide (x = .non))) H) : (fun x y H Q => y = V.non ∧ Q (.bl (decide (x = .non))) H : R2) x .non H Q := ⟨rfl, z⟩
theorem c_div (h : 0 < j) (h2 : j < 1073741824) : CDiv i j := ⟨h, h2⟩
theorem c_mulR (h : -(2 ^ 64) < j) (h2 : j < 2 ^ 64) : CMul i j := .inr ⟨h, h2⟩
theorem c_mulL (h : -(2 ^ 64) < i) (h2 : i < 2 ^ 64) : CMul i j := .inl ⟨h, h2⟩
theorem c_pow (h : 0 ≤ j) (h1 : j ≤ 1000000) (h2 : i.natAbs < 2 ^ 64) : CPow i j := ⟨h, h1, h2⟩
/-! the ends -/
theorem fin_int (z : Q (.int i) H) (e : i = j) : Q (.int j) H := by rw [← e]; exact z
theorem fin_bl (z : Q (.bl b) H) (e : b = c) : Q (.bl c) H := by rw [← e]; exact z
theorem fin_dec [Decidable p] (z : Q (.bl true) H) (h : p) : Q (.bl (decide p)) H := by rw [decide_eq_true h]; exact z
theorem fin_ndec [Decidable p] (z : Q (.bl true) H) (h : ¬ p) : Q (.bl (!decide p)) H := by rw [decide_eq_false h]; exact z
theorem dec_t (h : p) [Decidable p] : decide p = true := decide_eq_true h
theorem s_iteDt [Decidable p] (h : p) (z : A) : if decide p = true then A else B := s_iteD (fun _ => z) fun n => absurd h n
theorem s_iteDf [Decidable p] (h : ¬ p) (z : B) : if decide p = true then A else B := s_iteD (fun n => absurd n h) fun _ => z
theorem s_iteNt [Decidable p] (h : p) (z : B) : if (!decide p) = true then A else B := s_iteN (fun n => absurd h n) fun _ => z
theorem s_iteNf [Decidable p] (h : ¬ p) (z : A) : if (!decide p) = true then A else B := s_iteN (fun _ => z) fun n => absurd n h
/-- a test by itself: its outcome -/
theorem s_ifS_f (h : ∀ T : Bool → Hp → Prop, T false H → tt σ H T) (z : tu ⟨nx, rt, bk, ct⟩ σ H) : tIfS tt ts tu ⟨nx, rt, bk, ct⟩ σ H := h _ (s_iteF z)
theorem s_ifS_t (h : ∀ T : Bool → Hp → Prop, T true H → tt σ H T) (z : ts ⟨nx, rt, bk, ct⟩ σ H) : tIfS tt ts tu ⟨nx, rt, bk, ct⟩ σ H := h _ (s_iteT z)
theorem s_ifS_d (p : Prop) [Decidable p] (h : ∀ T : Bool → Hp → Prop, T (decide p) H → tt σ H T) (z1 : p → ts ⟨nx, rt, bk, ct⟩ σ H) (z2 : ¬ p → tu ⟨nx, rt, bk, ct⟩ σ H) : tIfS tt ts tu ⟨nx, rt, bk, ct⟩ σ H := h _ (s_iteD z1 z2)
/-- a shift to the left -/
theorem shl_ok (a : Nat) (h : i.natAbs < 2 ^ a) (h0 : 0 ≤ j) (hj : j ≤ 1000000) (ha : a ≤ 1000000) : CShl i j := by
  refine ⟨h0, ?_⟩
  have b : Builtin.Int.intBits i ≤ i.natAbs.log2 + 1 := by
    unfold Builtin.Int.intBits
    split <;> omega
  have h2 : i.natAbs.log2 ≤ a := by
    by_cases z : i.natAbs = 0
    · rw [z]; simp
    · have := (Nat.log2_lt z).mpr h; omega
  have e : (2 : Int) ^ 27 = 134217728 := by decide
  rw [e]
  omega
/-! lists -/
theorem s_tup {t : TA} (z : t σ H fun xs H1 => xs.length ≤ sizeLine ∧ ∀ p, H1 p = none → Q (.ref p) (upd H1 p (.tup xs))) : tTup t σ H Q := z
theorem s_lst {t : TA} (z : t σ H fun xs H1 => xs.length ≤ sizeLine ∧ ∀ p, H1 p = none → Q (.ref p) (upd H1 p (.lst xs))) : tLst t σ H Q := z
theorem s_ixL {l : Addr} {xs : List V} (h : SqL K H l xs) (ha : atI xs i = some v) (z : Q v H) : rIxL K (.ref l) (.int i) H Q := ⟨l, xs, i, v, rfl, rfl, h, ha, z⟩
theorem s_ixT {l : Addr} {xs : List V} (h : SqT K H l xs) (ha : atI xs i = some v) (z : Q v H) : rIxT K (.ref l) (.int i) H Q := ⟨l, xs, i, v, rfl, rfl, h, ha, z⟩
theorem s_len {l : Addr} {xs : List V} (h : SqL K H l xs) (z : Q (.int xs.length) H) : (fun xs H Q => ∃ p ys, xs = [V.ref p] ∧ (SqL K H p ys ∨ SqT K H p ys) ∧ Q (.int ys.length) H : List V → Hp → VK → Prop) [.ref l] H Q := ⟨l, xs, rfl, .inl h, z⟩
theorem sqU {l : Addr} {xs : List V} : SqL K (upd H l (.lst xs)) l xs := .inl (.inl upd_same)
theorem same_upd {l : Addr} {o : HO} (h : H l = none) : Same H (upd H l o) := fun b u e => by
  rw [upd_ne (ne_of_none e h)]
  exact e
/-- range(n): what holds ahead of each turn -/
theorem s_forR1 {k : Nat} {ta : TA} (n : Int) (Pv : Nat → L2.St → Hp → Prop) (ha : ∀ R : List V → Hp → Prop, R [.int n] H → ta σ H R) (hn : -(2 ^ 62) ≤ n ∧ n < 2 ^ 62) (h0 : Pv 0 σ H)
    (hs : ∀ (i : Nat) σ' H', (i : Int) < n → Pv i σ' H' → tu ⟨Pv (i + 1), rt, nx, Pv (i + 1)⟩ (σ'.set k (some (.int (i : Int)))) H') (hd : ∀ σ' H', Pv n.toNat σ' H' → nx σ' H') : tFor (iRng1 ta) (gName k) tu ⟨nx, rt, bk, ct⟩ σ H := by
  refine ha _ ⟨n, rfl, hn.1, hn.2, ?_⟩
  refine for_range (lo := 0) (n := n.toNat) Pv h0 (fun i σ' H' hi h => ?_) hd
  show tu _ (σ'.set k (some (.int ((0 : Int) + (i : Int))))) H'
  rw [Int.zero_add]
  exact hs i σ' H' (by omega) h
/-- a list of known items -/
theorem s_forL {k : Nat} {tl : TE} {a : Addr} {xs : List V} (Pv : Nat → L2.St → Hp → Prop) (H1 : Hp) (ha : ∀ R : VK, R (.ref a) H1 → tl σ H R) (hx : SqL K H1 a xs) (h0 : Pv 0 σ H1)
    (hl : ∀ i σ' H', i ≤ xs.length → Pv i σ' H' → SqL K H' a xs)
    (hs : ∀ (i : Nat) x σ' H', xs[i]? = some x → Pv i σ' H' → tu ⟨Pv (i + 1), rt, nx, Pv (i + 1)⟩ (σ'.set k (some x)) H') (hd : ∀ σ' H', Pv xs.length σ' H' → nx σ' H') : tFor (iList K tl) (gName k) tu ⟨nx, rt, bk, ct⟩ σ H := by
  refine ha _ ⟨a, rfl, ⟨xs, hx⟩, ?_⟩
  exact for_list (xs := xs) Pv h0 hl (fun i x σ' H' hi h => hs i x σ' H' hi h) hd
theorem ints_get {ns : List Int} {k : Nat} {x : V} (h : (ns.map V.int)[k]? = some x) : ∃ z, ns[k]? = some z ∧ x = .int z := by
  rw [List.getElem?_map] at h
  cases e : ns[k]? with
  | none => rw [e] at h; cases h
  | some z => rw [e] at h; exact ⟨z, rfl, (Option.some.inj h).symm⟩
theorem atI_int {ns : List Int} {i : Int} {k : Nat} {z : Int} (h : ns[k]? = some z) (e : i = k) : atI (ns.map V.int) i = some (.int z) := by
  subst e
  refine atI_nat ?_
  rw [List.getElem?_map, h]; rfl
theorem atI_any {ns : List Int} {i : Int} (h1 : -(ns.length : Int) ≤ i) (h2 : i < ns.length) : ∃ z, atI (ns.map V.int) i = some (.int z) := by
  unfold atI ixN
  rw [List.length_map]
  by_cases h : 0 ≤ i
  · rw [if_pos h, if_pos h2]
    obtain ⟨z, hz⟩ : ∃ z, ns[i.toNat]? = some z := ⟨_, List.getElem?_eq_getElem (by omega)⟩
    refine ⟨z, ?_⟩
    show (ns.map V.int)[i.toNat]? = _
    rw [List.getElem?_map, hz]; rfl
  · rw [if_neg h, if_pos h1]
    obtain ⟨z, hz⟩ : ∃ z, ns[(i + ns.length).toNat]? = some z := ⟨_, List.getElem?_eq_getElem (by omega)⟩
    refine ⟨z, ?_⟩
    show (ns.map V.int)[(i + ns.length).toNat]? = _
    rw [List.getElem?_map, hz]; rfl
theorem small63 {n m : Nat} (h : n ≤ 63) (h2 : m ≤ 100) : n + m ≤ sizeLine := Nat.le_trans (by omega : n + m ≤ 200) (by decide)
/-- for cell in [0] + script: .. -/
theorem law0 {a : Addr} {ns : List Int} (hS : SqL K H a (ns.map V.int)) (hn : ns.length ≤ 63)
    (hb : ∀ (c : Int) (N : L2.St → Hp → Prop) H1, Same H H1 → (∀ v H2, Same H1 H2 → N [some (.ref a), v] H2) → tu ⟨N, rt, nx, N⟩ [some (.ref a), some (.int c)] H1)
    (hd : ∀ v H1, Same H H1 → nx [some (.ref a), v] H1) :
    tFor (iList K (tOp (rCatS K) (tLst (tCons (tC (.int 0)) tNil)) (tVar 0))) (gName 1) tu ⟨nx, rt, bk, ct⟩ [some (.ref a), none] H := by
  show _ ∧ ∀ _, _
  refine ⟨by decide, fun p hp => ?_⟩
  refine ⟨_, rfl, p, a, [.int 0], ns.map V.int, rfl, rfl, sqU, (same_upd hp).seq hS, (by rw [List.length_map]; show 1 + ns.length ≤ _; rw [Nat.add_comm]; exact small63 hn (by decide)), fun q hq => ?_⟩
  have s1 : Same H (upd (upd H p (.lst [.int 0])) q (.lst ([.int 0] ++ ns.map V.int))) := (same_upd hp).trans (same_upd hq)
  refine ⟨q, rfl, ⟨_, sqU⟩, ?_⟩
  refine for_list (xs := [.int 0] ++ ns.map V.int) (fun i σ H' => (∃ v, σ = [some (.ref a), v]) ∧ Same (upd (upd H p (.lst [.int 0])) q (.lst ([.int 0] ++ ns.map V.int))) H') ⟨⟨_, rfl⟩, Same.refl _⟩ (fun i σ' H' _ h => h.2.seq sqU) (fun i x σ' H' hi h => ?_) (fun σ' H' h => ?_)
  · obtain ⟨⟨v, rfl⟩, s2⟩ := h
    have e : [V.int 0] ++ ns.map V.int = (0 :: ns).map V.int := rfl
    rw [e] at hi
    obtain ⟨z, _, rfl⟩ := ints_get hi
    exact hb z _ H' (s1.trans s2) fun v H2 s3 => ⟨⟨v, rfl⟩, s2.trans s3⟩
  · obtain ⟨⟨v, rfl⟩, s2⟩ := h
    exact hd v H' (s1.trans s2)
/-- cells = script + [e, ..]; for k in range(len(cells)): .. -/
theorem law1 {a : Addr} {ns ms : List Int} (hS : SqL K H a (ns.map V.int)) (hn : ns.length ≤ 63) (hm : ms.length ≤ 100) {tl : TE}
    (hl : ∀ (R : VK), (∀ p, H p = none → R (.ref p) (upd H p (.lst (ms.map V.int)))) → tl [some (.ref a), none, none] H R) {te : TE}
    (he : ∀ (p : Addr) (H1 : Hp) (R : List V → Hp → Prop), SqL K H1 p ((ns ++ ms).map V.int) → R [.int ((ns ++ ms).length : Int)] H1 → tCons te tNil [some (.ref a), some (.ref p), none] H1 R)
    (hb : ∀ (p : Addr) (c : Int) (N : L2.St → Hp → Prop) H1, Same H H1 → SqL K H1 p ((ns ++ ms).map V.int) → 0 ≤ c → c < ((ns ++ ms).length : Int) → (∀ v H2, Same H1 H2 → N [some (.ref a), some (.ref p), v] H2) → tu ⟨N, rt, nx, N⟩ [some (.ref a), some (.ref p), some (.int c)] H1)
    (hd : ∀ p v H1, Same H H1 → nx [some (.ref a), some (.ref p), v] H1) :
    tSeq (tAsg (tOp (rCatS K) (tVar 0) tl) (gName 1)) (tFor (iRng1 (tCons te tNil)) (gName 2) tu) ⟨nx, rt, bk, ct⟩ [some (.ref a), none, none] H := by
  refine s_seq (s_asg (s_op (s_var rfl (hl _ fun p hp => ?_))))
  refine ⟨a, p, ns.map V.int, ms.map V.int, rfl, rfl, (same_upd hp).seq hS, sqU, (by rw [List.length_map, List.length_map]; exact small63 hn hm), fun q hq => ?_⟩
  rw [← List.map_append]
  have s1 : Same H (upd (upd H p (.lst (ms.map V.int))) q (.lst ((ns ++ ms).map V.int))) := (same_upd hp).trans (same_upd hq)
  have hlen : (ns ++ ms).length ≤ 163 := by rw [List.length_append]; omega
  refine s_forR1 ((ns ++ ms).length : Int) (fun i σ H' => (∃ v, σ = [some (.ref a), some (.ref q), v]) ∧ Same (upd (upd H p (.lst (ms.map V.int))) q (.lst ((ns ++ ms).map V.int))) H') (fun R z => he q _ R sqU z) (by omega) ⟨⟨_, rfl⟩, Same.refl _⟩ (fun i σ' H' hi h => ?_) (fun σ' H' h => ?_)
  · obtain ⟨⟨v, rfl⟩, s2⟩ := h
    exact hb q i _ H' (s1.trans s2) (s2.seq sqU) (by omega) hi fun v H2 s3 => ⟨⟨v, rfl⟩, s2.trans s3⟩
  · obtain ⟨⟨v, rfl⟩, s2⟩ := h
    exact hd q v H' (s1.trans s2)
end
end Jl

/-! Steps over lists: append, comprehensions over a range, equality of lists. -/
namespace Jl
open PySem L2
section
variable {K : PySem.W.Frag} {σ : L2.St} {H H' : Hp} {Q : VK} {ta tb tc te to : TE} {tr : TA} {i j : Int} {x y v : V} {a p : Addr} {xs ys : List V}
theorem sameT (e : Same H H') (h : SqT K H a xs) : SqT K H' a xs := by
  rcases h with (h | ⟨o, h⟩) | h
  · exact .inl (.inl (e _ _ h))
  · exact .inl (.inr ⟨o, e _ _ h⟩)
  · exact .inr h
mutual
theorem dp_same (e : Same H H') : ∀ {v : V} {d : PyData}, Dp K H v d → Dp K H' v d
  | _, _, .non => .non
  | _, _, .bl b => .bl b
  | _, _, .int i => .int i
  | _, _, .str x => .str x
  | _, _, .lst h hs => .lst (e.seq h) (dps_same e hs)
  | _, _, .tup h hs => .tup (sameT e h) (dps_same e hs)
theorem dps_same (e : Same H H') : ∀ {vs : List V} {ds : List PyData}, DpAll K H vs ds → DpAll K H' vs ds
  | _, _, .nil => .nil
  | _, _, .cons h hs => .cons (dp_same e h) (dps_same e hs)
end
theorem dp_ints : ∀ ns : List Int, DpAll K H (ns.map V.int) (ns.map PyData.int)
  | [] => .nil
  | n :: ns => .cons (.int n) (dp_ints ns)
theorem dp_intL {ns : List Int} (h : SqL K H a (ns.map V.int)) : Dp K H (.ref a) (.list (ns.map PyData.int)) := .lst h (dp_ints ns)
theorem lay_ints : ∀ ns : List Int, PyData.canLayAll0 (ns.map PyData.int) = true
  | [] => rfl
  | n :: ns => by show (true && PyData.canLayAll0 (ns.map PyData.int)) = true; rw [lay_ints ns]; rfl
theorem depth_ints : ∀ ns : List Int, PyData.depthAll (ns.map PyData.int) ≤ 1
  | [] => by show (0 : Nat) ≤ 1; decide
  | n :: ns => by
    have h := depth_ints ns
    show max (PyData.depth (.int n)) (PyData.depthAll (ns.map PyData.int)) ≤ 1
    have e : PyData.depth (.int n) = 0 := by unfold PyData.depth; rfl
    omega
theorem shaped_ints (ns : List Int) : SeqAt.shaped (.list (ns.map PyData.int)) = true := by
  have h := depth_ints ns
  refine Bool.and_eq_true_iff.mpr ⟨lay_ints ns, decide_eq_true ?_⟩
  show PyData.depthAll (ns.map PyData.int) + 1 ≤ 64
  omega
theorem eqv_ints : ∀ ns ms : List Int, PyData.eqvAll (ns.map PyData.int) (ms.map PyData.int) = decide (ns = ms)
  | [], [] => rfl
  | [], _ :: _ => rfl
  | _ :: _, [] => rfl
  | n :: ns, m :: ms => by
    show ((n == m) && PyData.eqvAll (ns.map PyData.int) (ms.map PyData.int)) = _
    rw [eqv_ints ns ms, Bool.eq_iff_iff]
    simp
theorem s_eqInts {p q : Addr} {ns ms : List Int} (h1 : SqL K H p (ns.map V.int)) (h2 : SqL K H q (ms.map V.int)) (z : Q (.bl (decide (ns = ms))) H) : rEqD K (.ref p) (.ref q) H Q :=
  ⟨_, _, dp_intL h1, dp_intL h2, shaped_ints ns, shaped_ints ms, by
    show Q (.bl (PyData.eqvAll (ns.map PyData.int) (ms.map PyData.int))) H
    rw [eqv_ints]; exact z⟩
theorem s_BM {T : String} {r : V → List V → Hp → VK → Prop} {t : TA} (z : to σ H fun x H1 => tyV K T x H1 ∧ t σ H1 fun xs H2 => r x xs H2 Q) : tBM K T r to t σ H Q := z
theorem ty_list (h : SqL K H p xs) : tyV K "list" (.ref p) H := .inl ⟨rfl, _, h⟩
theorem s_tyL {B : Prop} (h : H p = some (.lst xs)) (z : B) : tyV K "list" (.ref p) H ∧ B := ⟨ty_list (.inl (.inl h)), z⟩
theorem s_append (h : H p = some (.lst xs)) (z : Q .non (upd H p (.lst (xs ++ [v])))) (hl : xs.length < sizeLine) : rAppend (.ref p) [v] H Q := ⟨p, xs, v, rfl, rfl, h, hl, z⟩
/-- what H0 knew stands, when an object that it did not know is written -/
theorem same_mut {H0 : Hp} {o : HO} (e : Same H0 H) (h : H0 p = none) : Same H0 (upd H p o) := fun b u hb => by
  rw [upd_ne (ne_of_none hb h)]
  exact e b u hb
theorem small5 {n : Nat} (h : n ≤ 100000) : n ≤ sizeLine := Nat.le_trans h (by decide)
theorem small5' {n : Nat} (h : n ≤ 100000) : n < sizeLine := Nat.lt_of_le_of_lt h (by decide)
/-- [e for i in range(n)] -/
theorem s_lcR {t : TA} {k : Nat} {vs : List Nat} (n : Int) (f : Nat → V) (ha : ∀ R : List V → Hp → Prop, R [.int n] H → t σ H R) (hn : 0 ≤ n ∧ n ≤ 100000) (hw : ∀ x, wipe ((wipe σ vs).set k (some x)) vs = wipe σ vs)
    (he : ∀ (i : Nat) H1 (R : VK), Same H H1 → (i : Int) < n → (∀ H2, Same H1 H2 → R (f i) H2) → te ((wipe σ vs).set k (some (.int (i : Int)))) H1 R)
    (z : ∀ p H1, Same H H1 → H p = none → H1 p = some (.lst ((List.range n.toNat).map f)) → Q (.ref p) H1) : tLc (iRng1 t) (gName k) tYes te vs σ H Q := by
  refine ha _ ⟨n, rfl, by omega, by omega, fun D hD => ?_⟩
  refine lc_range (lo := 0) (n := n.toNat) (fun i H' => Same H H' ∧ H' D = some (.lst ((List.range i).map f))) ⟨same_upd hD, upd_same⟩ (fun i H1 hi h => ?_) (fun H1 h => z D H1 h.1 hD h.2)
  obtain ⟨s1, h1⟩ := h
  have e0 : (0 : Int) + (i : Int) = (i : Int) := Int.zero_add _
  show wipe ((wipe σ vs).set k (some (.int ((0 : Int) + (i : Int))))) vs = wipe σ vs ∧ te ((wipe σ vs).set k (some (.int ((0 : Int) + (i : Int))))) H1 _
  rw [e0]
  refine ⟨hw _, he i H1 _ s1 (by omega) fun H2 s2 => ⟨_, s2 D _ h1, small5' (by rw [List.length_map, List.length_range]; omega), same_mut (s1.trans s2) hD, ?_⟩⟩
  rw [upd_same, List.range_succ, List.map_append]
  rfl
theorem bitsOf_atI (w : Int) {i : Int} (h0 : 0 ≤ i) (h : i < 32) : atI ((bitsOf w 32).map V.int) i = some (.int (w / 2 ^ i.toNat % 2)) :=
  atI_int (bitsOf_get w (by omega)) (by omega)
/-! objects -/
theorem s_make {C : Addr} {sp : Sp} {E : XK} {t : TA} (z : t σ H fun vs H1 => ∀ x dx, H1 x = none → H1 dx = none → dx ≠ x → sp (.ref x :: vs) (upd (upd H1 dx (.own x)) x (.ins C dx [])) (fun v H2 => v = .non ∧ Q (.ref x) H2) E) : tMake C sp [] E t σ H Q := by
  have e : (fun vs H1 => ∀ x dx, H1 x = none → H1 dx = none → dx ≠ x → sp (.ref x :: vs) (upd (upd H1 dx (.own x)) x (.ins C dx [])) (fun v H2 => v = .non ∧ Q (.ref x) H2) E) = (fun vs H1 => ∀ x dx, H1 x = none → H1 dx = none → dx ≠ x → sp (.ref x :: (vs ++ [])) (upd (upd H1 dx (.own x)) x (.ins C dx [])) (fun v H2 => v = .non ∧ Q (.ref x) H2) E) := by
    funext vs H1
    rw [List.append_nil]
  unfold tMake
  rw [← e]
  exact z
theorem same_made {x dx C : Addr} {o : HO} (nx : H x = none) (nd : H dx = none) : Same H (upd (upd (upd H dx (.own x)) x (.ins C dx [])) x o) := fun b u e => by
  rw [upd_ne (ne_of_none e nx), upd_ne (ne_of_none e nx), upd_ne (ne_of_none e nd)]
  exact e
/-- an object with a title -/
def RuleAt (H : Hp) (p C : Addr) (t : Str) : Prop := ∃ dx, H p = some (.ins C dx (putF "title" (.str t) []))
theorem RuleAt.same {C : Addr} {t : Str} (e : Same H H') (h : RuleAt H p C t) : RuleAt H' p C t := by
  obtain ⟨dx, h⟩ := h
  exact ⟨dx, e _ _ h⟩
theorem s_meth {C : Addr} {m t : Str} {sp : Sp} {E : XK} (hR : RuleAt H p C t) (hv : ∀ R : VK, R (.ref p) H → ta σ H R) (hm : ¬ m = "title") (z : tr σ H fun vs H2 => sp (.ref p :: vs) H2 Q E) : tMeth C m sp [] E ta tr σ H Q := by
  obtain ⟨dx, h⟩ := hR
  refine hv _ ⟨p, dx, _, rfl, h, (by rw [lookup_putF, if_neg hm]; rfl), ?_⟩
  have e : (fun vs H2 => sp (.ref p :: vs) H2 Q E) = (fun vs H2 => sp (.ref p :: (vs ++ [])) H2 Q E) := by
    funext vs H1
    rw [List.append_nil]
  rw [← e]
  exact z
end
end Jl


local macro_rules | `(tactic| walk_at "c") => `(tactic| first
  | exact Jl.c_div (by decide) (by decide)
  | exact Jl.c_mulR (by decide) (by decide)
  | exact Jl.c_mulL (by decide) (by decide)
  | exact Jl.c_pow (by decide) (by decide) (by decide)
  | decide
  | omega
  | decide +kernel
  | assumption
  | exact Jl.c_div (by omega) (by omega)
  | exact Jl.c_mulR (by omega) (by omega)
  | exact Jl.c_mulL (by omega) (by omega))
local macro_rules | `(tactic| walk_at "d") => `(tactic| first
  | with_reducible refine Jl.s_iteDt (by first | assumption | decide | omega) ?_
  | with_reducible refine Jl.s_iteDf (by first | assumption | decide | omega) ?_
  | with_reducible refine Jl.s_iteNt (by first | assumption | decide | omega) ?_
  | with_reducible refine Jl.s_iteNf (by first | assumption | decide | omega) ?_)
local macro_rules | `(tactic| walk_at "b") => `(tactic| first
  | with_reducible refine Jl.s_iteD (fun _ => ?_) (fun _ => ?_)
  | with_reducible refine Jl.s_iteN (fun _ => ?_) (fun _ => ?_))
local macro_rules | `(tactic| walk_at "s") => `(tactic| first
  | with_reducible refine Jl.s_var (by with_unfolding_all rfl) ?_
  | with_reducible refine Jl.s_c ?_
  | with_reducible refine Jl.s_op ?_
  | with_reducible refine Jl.s_cons ?_
  | with_reducible refine Jl.s_nil ?_
  | with_reducible refine Jl.s_I0 ?_
  | with_reducible refine Jl.s_I (by walk_at "c") ?_
  | with_reducible refine Jl.s_exbl ?_
  | with_reducible refine Jl.s_seq ?_
  | with_reducible refine Jl.s_asg ?_
  | (with_reducible refine Jl.s_name ?_; try simp only [List.set_cons_zero, List.set_cons_succ])
  | with_reducible refine Jl.s_ifS ?_
  | with_reducible refine Jl.s_test ?_
  | with_reducible refine Jl.s_tB ?_
  | with_reducible refine Jl.s_chain ?_
  | with_reducible refine Jl.s_and ?_
  | with_reducible refine Jl.s_or ?_
  | with_reducible refine Jl.s_not ?_
  | with_reducible refine Jl.s_iteT ?_
  | with_reducible refine Jl.s_iteF ?_
  | with_reducible refine Jl.s_iteNT ?_
  | with_reducible refine Jl.s_iteNF ?_
  | with_reducible refine Jl.s_ret ?_
  | with_reducible refine Jl.s_next ?_
  | with_reducible refine Jl.s_call ?_
  | with_reducible refine Jl.s_CB ?_
  | with_reducible refine Jl.s_eqI ?_
  | with_reducible refine Jl.s_neI ?_
  | with_reducible refine Jl.s_eqS ?_
  | with_reducible refine Jl.s_neS ?_
  | with_reducible refine Jl.s_eqB ?_
  | with_reducible refine Jl.s_neB ?_
  | with_reducible refine Jl.s_isB ?_
  | with_reducible refine Jl.s_notB ?_
  | with_reducible refine Jl.s_un ?_
  | with_reducible refine Jl.s_U ?_
  | with_reducible refine Jl.s_andV ?_
  | with_reducible refine Jl.s_orV ?_
  | with_reducible refine Jl.s_notV ?_
  | with_reducible refine Jl.s_ifE ?_
  | with_reducible refine Jl.s_drop ?_
  | with_reducible refine Jl.s_break ?_
  | with_reducible refine Jl.s_cont ?_
  | with_reducible refine Jl.s_isi_ii ?_
  | with_reducible refine Jl.s_isi_ib ?_
  | with_reducible refine Jl.s_isi_bb ?_
  | with_reducible refine Jl.s_isi_bi ?_
  | with_reducible refine Jl.s_isi_ss ?_
  | with_reducible refine Jl.s_BM ?_
  | with_reducible refine Jl.s_tyL (by assumption) ?_
  | with_reducible refine Jl.s_append (by assumption) ?_ ?_
  | with_reducible refine Jl.s_make ?_
  | with_reducible refine Jl.s_meth (by first | assumption | exact Jl.RuleAt.same (by assumption) (by assumption)) (fun R z => Jl.s_var (by with_unfolding_all rfl) z) (by decide +kernel) ?_
  | with_reducible refine Jl.s_tup ?_
  | with_reducible refine Jl.s_lst ?_)
local macro_rules | `(tactic| walk_at "same") => `(tactic| first
  | exact L2.Same.refl _
  | assumption
  | (refine L2.Same.trans ?_ (by assumption); walk_at "same"))
local macro_rules | `(tactic| walk_at "w") => `(tactic| repeat walk_at "s")
local macro_rules | `(tactic| walk_at "wd") => `(tactic| repeat (first | walk_at "s" | walk_at "d"))
local macro_rules | `(tactic| walk_at "all") => `(tactic| repeat' (first | walk_at "s" | walk_at "d" | walk_at "b"))
namespace Jw
open PySem L2
def top (i : Nat) : Stmt := PySem.Challenge.pw_joinload_k05_filled_by_halves.main.body.getD i (.Pass ⟨0, 0, 0, 0⟩)
abbrev s_wrapped : Stmt := top 3
abbrev N_wrapped : List Str := ["number"]
theorem sc_wrapped : FnScope N_wrapped ["number"] (defScope s_wrapped) := ⟨rfl, rfl, rfl, by decide +kernel, rfl, by decide +kernel, by decide +kernel⟩
abbrev s_field : Stmt := top 4
abbrev N_field : List Str := ["word", "low", "many"]
theorem sc_field : FnScope N_field ["word", "low", "many"] (defScope s_field) := ⟨rfl, rfl, rfl, by decide +kernel, rfl, by decide +kernel, by decide +kernel⟩
abbrev s_with_field : Stmt := top 5
abbrev N_with_field : List Str := ["word", "low", "many", "number", "mask"]
theorem sc_with_field : FnScope N_with_field ["word", "low", "many", "number"] (defScope s_with_field) := ⟨rfl, rfl, rfl, by decide +kernel, rfl, by decide +kernel, by decide +kernel⟩
abbrev s_signed : Stmt := top 6
abbrev N_signed : List Str := ["number", "many", "half"]
theorem sc_signed : FnScope N_signed ["number", "many"] (defScope s_signed) := ⟨rfl, rfl, rfl, by decide +kernel, rfl, by decide +kernel, by decide +kernel⟩
abbrev s_Rule___init__ : Stmt := inClass (top 14) 0
abbrev N_Rule___init__ : List Str := ["self", "title"]
theorem sc_Rule___init__ : FnScope N_Rule___init__ ["self", "title"] (defScope s_Rule___init__) := ⟨rfl, rfl, rfl, by decide +kernel, rfl, by decide +kernel, by decide +kernel⟩
abbrev s_Rule_fits : Stmt := inClass (top 14) 1
abbrev N_Rule_fits : List Str := ["self", "here", "there"]
theorem sc_Rule_fits : FnScope N_Rule_fits ["self", "here", "there"] (defScope s_Rule_fits) := ⟨rfl, rfl, rfl, by decide +kernel, rfl, by decide +kernel, by decide +kernel⟩
abbrev s_Rule_filled : Stmt := inClass (top 14) 2
abbrev N_Rule_filled : List Str := ["self", "word", "here", "there"]
theorem sc_Rule_filled : FnScope N_Rule_filled ["self", "word", "here", "there"] (defScope s_Rule_filled) := ⟨rfl, rfl, rfl, by decide +kernel, rfl, by decide +kernel, by decide +kernel⟩
abbrev s_Rule_read_back : Stmt := inClass (top 14) 3
abbrev N_Rule_read_back : List Str := ["self", "word", "here"]
theorem sc_Rule_read_back : FnScope N_Rule_read_back ["self", "word", "here"] (defScope s_Rule_read_back) := ⟨rfl, rfl, rfl, by decide +kernel, rfl, by decide +kernel, by decide +kernel⟩
abbrev s_HighRule_filled : Stmt := inClass (top 15) 0
abbrev N_HighRule_filled : List Str := ["self", "word", "here", "there"]
theorem sc_HighRule_filled : FnScope N_HighRule_filled ["self", "word", "here", "there"] (defScope s_HighRule_filled) := ⟨rfl, rfl, rfl, by decide +kernel, rfl, by decide +kernel, by decide +kernel⟩
abbrev s_HighRule_read_back : Stmt := inClass (top 15) 1
abbrev N_HighRule_read_back : List Str := ["self", "word", "here"]
theorem sc_HighRule_read_back : FnScope N_HighRule_read_back ["self", "word", "here"] (defScope s_HighRule_read_back) := ⟨rfl, rfl, rfl, by decide +kernel, rfl, by decide +kernel, by decide +kernel⟩
abbrev s_LowRule_filled : Stmt := inClass (top 16) 0
abbrev N_LowRule_filled : List Str := ["self", "word", "here", "there"]
theorem sc_LowRule_filled : FnScope N_LowRule_filled ["self", "word", "here", "there"] (defScope s_LowRule_filled) := ⟨rfl, rfl, rfl, by decide +kernel, rfl, by decide +kernel, by decide +kernel⟩
abbrev s_LowRule_read_back : Stmt := inClass (top 16) 1
abbrev N_LowRule_read_back : List Str := ["self", "word", "here"]
theorem sc_LowRule_read_back : FnScope N_LowRule_read_back ["self", "word", "here"] (defScope s_LowRule_read_back) := ⟨rfl, rfl, rfl, by decide +kernel, rfl, by decide +kernel, by decide +kernel⟩
abbrev s_rule_of : Stmt := top 19
abbrev N_rule_of : List Str := ["title"]
theorem sc_rule_of : FnScope N_rule_of ["title"] (defScope s_rule_of) := ⟨rfl, rfl, rfl, by decide +kernel, rfl, by decide +kernel, by decide +kernel⟩
abbrev s_law_whole : Stmt := top 21
abbrev N_law_whole : List Str := ["_law_found"]
theorem sc_law_whole : FnScope N_law_whole ["_law_found"] (defScope s_law_whole) := ⟨rfl, rfl, rfl, by decide +kernel, rfl, by decide +kernel, by decide +kernel⟩
abbrev s_law_place_by : Stmt := top 22
abbrev N_law_place_by : List Str := ["_law_cell"]
theorem sc_law_place_by : FnScope N_law_place_by ["_law_cell"] (defScope s_law_place_by) := ⟨rfl, rfl, rfl, by decide +kernel, rfl, by decide +kernel, by decide +kernel⟩
abbrev s_law_word : Stmt := top 23
abbrev N_law_word : List Str := ["_law_found"]
theorem sc_law_word : FnScope N_law_word ["_law_found"] (defScope s_law_word) := ⟨rfl, rfl, rfl, by decide +kernel, rfl, by decide +kernel, by decide +kernel⟩
abbrev s_law_by_whole : Stmt := top 24
abbrev N_law_by_whole : List Str := ["_law_word_here", "_law_here", "_law_there", "_law_rule", "_law_found", "_law_back"]
theorem sc_law_by_whole : FnScope N_law_by_whole ["_law_word_here", "_law_here", "_law_there"] (defScope s_law_by_whole) := ⟨rfl, rfl, rfl, by decide +kernel, rfl, by decide +kernel, by decide +kernel⟩
abbrev s_law_by_low : Stmt := top 25
abbrev N_law_by_low : List Str := ["_law_word_here", "_law_here", "_law_there", "_law_rule", "_law_found", "_law_back"]
theorem sc_law_by_low : FnScope N_law_by_low ["_law_word_here", "_law_here", "_law_there"] (defScope s_law_by_low) := ⟨rfl, rfl, rfl, by decide +kernel, rfl, by decide +kernel, by decide +kernel⟩
abbrev s_law_by_high : Stmt := top 26
abbrev N_law_by_high : List Str := ["_law_word_here", "_law_here", "_law_there", "_law_rule", "_law_found", "_law_back"]
theorem sc_law_by_high : FnScope N_law_by_high ["_law_word_here", "_law_here", "_law_there"] (defScope s_law_by_high) := ⟨rfl, rfl, rfl, by decide +kernel, rfl, by decide +kernel, by decide +kernel⟩
abbrev s_law_holds : Stmt := top 27
abbrev N_law_holds : List Str := ["_law_cell", "_law_other", "_law_word_here", "_law_here", "_law_there"]
theorem sc_law_holds : FnScope N_law_holds ["_law_cell", "_law_other"] (defScope s_law_holds) := ⟨rfl, rfl, rfl, by decide +kernel, rfl, by decide +kernel, by decide +kernel⟩
abbrev s_law : Stmt := top 28
abbrev N_law : List Str := ["_law_script", "_law_cells", "_law_k"]
theorem sc_law : FnScope N_law ["_law_script"] (defScope s_law) := ⟨rfl, rfl, rfl, by decide +kernel, rfl, by decide +kernel, by decide +kernel⟩
structure Txt (K : PySem.W.Frag) (mg : Str → Option Value) where
  a_wrapped : Addr
  d_wrapped : FuncData
  F_wrapped : Fun K "wrapped" "wrapped" s_wrapped a_wrapped d_wrapped
  b_wrapped : Binds K d_wrapped ["number"] []
  m_wrapped : mg "wrapped" = some (.ref a_wrapped)
  a_field : Addr
  d_field : FuncData
  F_field : Fun K "field" "field" s_field a_field d_field
  b_field : Binds K d_field ["word", "low", "many"] []
  m_field : mg "field" = some (.ref a_field)
  a_with_field : Addr
  d_with_field : FuncData
  F_with_field : Fun K "with_field" "with_field" s_with_field a_with_field d_with_field
  b_with_field : Binds K d_with_field ["word", "low", "many", "number"] []
  m_with_field : mg "with_field" = some (.ref a_with_field)
  a_signed : Addr
  d_signed : FuncData
  F_signed : Fun K "signed" "signed" s_signed a_signed d_signed
  b_signed : Binds K d_signed ["number", "many"] []
  m_signed : mg "signed" = some (.ref a_signed)
  a_Rule___init__ : Addr
  d_Rule___init__ : FuncData
  F_Rule___init__ : Fun K "__init__" "Rule.__init__" s_Rule___init__ a_Rule___init__ d_Rule___init__
  b_Rule___init__ : Binds K d_Rule___init__ ["self", "title"] []
  a_Rule_fits : Addr
  d_Rule_fits : FuncData
  F_Rule_fits : Fun K "fits" "Rule.fits" s_Rule_fits a_Rule_fits d_Rule_fits
  b_Rule_fits : Binds K d_Rule_fits ["self", "here", "there"] []
  a_Rule_filled : Addr
  d_Rule_filled : FuncData
  F_Rule_filled : Fun K "filled" "Rule.filled" s_Rule_filled a_Rule_filled d_Rule_filled
  b_Rule_filled : Binds K d_Rule_filled ["self", "word", "here", "there"] []
  a_Rule_read_back : Addr
  d_Rule_read_back : FuncData
  F_Rule_read_back : Fun K "read_back" "Rule.read_back" s_Rule_read_back a_Rule_read_back d_Rule_read_back
  b_Rule_read_back : Binds K d_Rule_read_back ["self", "word", "here"] []
  a_HighRule_filled : Addr
  d_HighRule_filled : FuncData
  F_HighRule_filled : Fun K "filled" "HighRule.filled" s_HighRule_filled a_HighRule_filled d_HighRule_filled
  b_HighRule_filled : Binds K d_HighRule_filled ["self", "word", "here", "there"] []
  a_HighRule_read_back : Addr
  d_HighRule_read_back : FuncData
  F_HighRule_read_back : Fun K "read_back" "HighRule.read_back" s_HighRule_read_back a_HighRule_read_back d_HighRule_read_back
  b_HighRule_read_back : Binds K d_HighRule_read_back ["self", "word", "here"] []
  a_LowRule_filled : Addr
  d_LowRule_filled : FuncData
  F_LowRule_filled : Fun K "filled" "LowRule.filled" s_LowRule_filled a_LowRule_filled d_LowRule_filled
  b_LowRule_filled : Binds K d_LowRule_filled ["self", "word", "here", "there"] []
  a_LowRule_read_back : Addr
  d_LowRule_read_back : FuncData
  F_LowRule_read_back : Fun K "read_back" "LowRule.read_back" s_LowRule_read_back a_LowRule_read_back d_LowRule_read_back
  b_LowRule_read_back : Binds K d_LowRule_read_back ["self", "word", "here"] []
  a_rule_of : Addr
  d_rule_of : FuncData
  F_rule_of : Fun K "rule_of" "rule_of" s_rule_of a_rule_of d_rule_of
  b_rule_of : Binds K d_rule_of ["title"] []
  m_rule_of : mg "rule_of" = some (.ref a_rule_of)
  a_law_whole : Addr
  d_law_whole : FuncData
  F_law_whole : Fun K "_law_whole" "_law_whole" s_law_whole a_law_whole d_law_whole
  b_law_whole : Binds K d_law_whole ["_law_found"] []
  m_law_whole : mg "_law_whole" = some (.ref a_law_whole)
  a_law_place_by : Addr
  d_law_place_by : FuncData
  F_law_place_by : Fun K "_law_place_by" "_law_place_by" s_law_place_by a_law_place_by d_law_place_by
  b_law_place_by : Binds K d_law_place_by ["_law_cell"] []
  m_law_place_by : mg "_law_place_by" = some (.ref a_law_place_by)
  a_law_word : Addr
  d_law_word : FuncData
  F_law_word : Fun K "_law_word" "_law_word" s_law_word a_law_word d_law_word
  b_law_word : Binds K d_law_word ["_law_found"] []
  m_law_word : mg "_law_word" = some (.ref a_law_word)
  a_law_by_whole : Addr
  d_law_by_whole : FuncData
  F_law_by_whole : Fun K "_law_by_whole" "_law_by_whole" s_law_by_whole a_law_by_whole d_law_by_whole
  b_law_by_whole : Binds K d_law_by_whole ["_law_word_here", "_law_here", "_law_there"] []
  m_law_by_whole : mg "_law_by_whole" = some (.ref a_law_by_whole)
  a_law_by_low : Addr
  d_law_by_low : FuncData
  F_law_by_low : Fun K "_law_by_low" "_law_by_low" s_law_by_low a_law_by_low d_law_by_low
  b_law_by_low : Binds K d_law_by_low ["_law_word_here", "_law_here", "_law_there"] []
  m_law_by_low : mg "_law_by_low" = some (.ref a_law_by_low)
  a_law_by_high : Addr
  d_law_by_high : FuncData
  F_law_by_high : Fun K "_law_by_high" "_law_by_high" s_law_by_high a_law_by_high d_law_by_high
  b_law_by_high : Binds K d_law_by_high ["_law_word_here", "_law_here", "_law_there"] []
  m_law_by_high : mg "_law_by_high" = some (.ref a_law_by_high)
  a_law_holds : Addr
  d_law_holds : FuncData
  F_law_holds : Fun K "_law_holds" "_law_holds" s_law_holds a_law_holds d_law_holds
  b_law_holds : Binds K d_law_holds ["_law_cell", "_law_other"] []
  m_law_holds : mg "_law_holds" = some (.ref a_law_holds)
  a_law : Addr
  d_law : FuncData
  F_law : Fun K "law" "law" s_law a_law d_law
  b_law : Binds K d_law ["_law_script"] []
  m_law : mg "law" = some (.ref a_law)
  a_Rule : Addr
  c_Rule : Cls K a_Rule
  g_Rule : mg "Rule" = some (.ref a_Rule)
  k_Rule : Mk K a_Rule a_Rule___init__
  na_Rule_title : NoAttr K a_Rule "title"
  me_Rule_fits : Meth K a_Rule "fits" a_Rule_fits
  me_Rule_filled : Meth K a_Rule "filled" a_Rule_filled
  me_Rule_read_back : Meth K a_Rule "read_back" a_Rule_read_back
  a_HighRule : Addr
  c_HighRule : Cls K a_HighRule
  g_HighRule : mg "HighRule" = some (.ref a_HighRule)
  k_HighRule : Mk K a_HighRule a_Rule___init__
  na_HighRule_title : NoAttr K a_HighRule "title"
  me_HighRule_fits : Meth K a_HighRule "fits" a_Rule_fits
  me_HighRule_filled : Meth K a_HighRule "filled" a_HighRule_filled
  me_HighRule_read_back : Meth K a_HighRule "read_back" a_HighRule_read_back
  a_LowRule : Addr
  c_LowRule : Cls K a_LowRule
  g_LowRule : mg "LowRule" = some (.ref a_LowRule)
  k_LowRule : Mk K a_LowRule a_Rule___init__
  na_LowRule_title : NoAttr K a_LowRule "title"
  me_LowRule_fits : Meth K a_LowRule "fits" a_Rule_fits
  me_LowRule_filled : Meth K a_LowRule "filled" a_LowRule_filled
  me_LowRule_read_back : Meth K a_LowRule "read_back" a_LowRule_read_back
  a_NearRule : Addr
  c_NearRule : Cls K a_NearRule
  g_NearRule : mg "NearRule" = some (.ref a_NearRule)
  k_NearRule : Mk K a_NearRule a_Rule___init__
  na_NearRule_title : NoAttr K a_NearRule "title"
  a_SplitRule : Addr
  c_SplitRule : Cls K a_SplitRule
  g_SplitRule : mg "SplitRule" = some (.ref a_SplitRule)
  k_SplitRule : Mk K a_SplitRule a_Rule___init__
  na_SplitRule_title : NoAttr K a_SplitRule "title"
  t_MANY : Tok
  g_MANY : mg "MANY" = some (.int 4294967296 t_MANY)
  n_bool : mg "bool" = none
  n_int : mg "int" = none
  n_isinstance : mg "isinstance" = none
  n_len : mg "len" = none
  n_range : mg "range" = none
section
variable {P : Program} {w : World} {K : PySem.W.Frag} {mg : Str → Option Value} {base : Heap}
/-! ### wrapped -/
def sp_wrapped : Sp := fun vs H Q _ => ∃ n : Int, vs = [.int n] ∧ Q (.int (n % 4294967296)) H
theorem use_wrapped {n : Int} {H : Hp} {Q : VK} {E : XK} (z : Q (.int (n % 4294967296)) H) : sp_wrapped [.int n] H Q E := ⟨n, rfl, z⟩
local macro_rules | `(tactic| walk_at "s") => `(tactic| (with_reducible refine use_wrapped ?_))
theorem ok_wrapped (T : Txt K mg) : FnOk P w K mg base CX0 1 T.a_wrapped T.d_wrapped ["number"] (sp_wrapped) := by
  refine T.F_wrapped.ok sc_wrapped (fun vs H Q E h => ?_) (fun cdv A outer s H vs Q E hr h => ?_)
  · obtain ⟨n, rfl, k⟩ := h
    rfl
  · obtain ⟨n, rfl, k⟩ := h
    have hu := hu_of hr
    refine ⟨_, (pss_one (ps_ret (pe_op op_mod (pv 0) (pe_glob (v := .int 4294967296) rfl T.g_MANY ⟨_, rfl⟩)))), ?_⟩
    show (_ : TS) _ [some (.int n)] H
    walk_at "w"
    exact k
/-! ### field -/
def sp_field : Sp := fun vs H Q _ => ∃ (w l m : Int), vs = [.int w, .int l, .int m] ∧ 0 ≤ l ∧ l ≤ 64 ∧ 0 ≤ m ∧ m ≤ 64 ∧ Q (.int (w / 2 ^ l.toNat % 2 ^ m.toNat)) H
theorem use_field {w l m : Int} {H : Hp} {Q : VK} {E : XK} (h1 : 0 ≤ l) (h2 : l ≤ 64) (h3 : 0 ≤ m) (h4 : m ≤ 64) (z : Q (.int (w / 2 ^ l.toNat % 2 ^ m.toNat)) H) : sp_field [.int w, .int l, .int m] H Q E := ⟨w, l, m, rfl, h1, h2, h3, h4, z⟩
local macro_rules | `(tactic| walk_at "s") => `(tactic| (with_reducible refine use_field (by omega) (by omega) (by omega) (by omega) ?_))
theorem ok_field (T : Txt K mg) : FnOk P w K mg base CX0 1 T.a_field T.d_field ["word", "low", "many"] (sp_field) := by
  refine T.F_field.ok sc_field (fun vs H Q E h => ?_) (fun cdv A outer s H vs Q E hr h => ?_)
  · obtain ⟨w, l, m, rfl, h1, h2, h3, h4, k⟩ := h
    rfl
  · obtain ⟨w, l, m, rfl, h1, h2, h3, h4, k⟩ := h
    have hu := hu_of hr
    refine ⟨_, (pss_one (ps_ret (pe_op op_and (pe_op op_shr (pv 0) (pv 1)) (pe_op op_sub (pe_op op_shlW pe_int (pv 2)) pe_int)))), ?_⟩
    show (_ : TS) _ [some (.int w), some (.int l), some (.int m)] H
    walk_at "w"
    refine Jl.s_I (Jl.shl_ok 1 (by decide) h3 (by omega) (by omega)) ?_
    walk_at "w"
    rw [Int.one_mul, Jl.and_mask]
    exact k
/-! ### with_field -/
def sp_with_field : Sp := fun vs H Q _ => ∃ (w l m n : Int), vs = [.int w, .int l, .int m, .int n] ∧ 0 ≤ l ∧ l ≤ 64 ∧ 0 ≤ m ∧ m ≤ 64 ∧ -(10 ^ 65) ≤ n ∧ n ≤ 10 ^ 65 ∧ Q (.int (Jl.wf w l m n)) H
theorem use_with_field {w l m n : Int} {H : Hp} {Q : VK} {E : XK} (h1 : 0 ≤ l) (h2 : l ≤ 64) (h3 : 0 ≤ m) (h4 : m ≤ 64) (h5 : -(10 ^ 65) ≤ n) (h6 : n ≤ 10 ^ 65) (z : Q (.int (Jl.wf w l m n)) H) : sp_with_field [.int w, .int l, .int m, .int n] H Q E := ⟨w, l, m, n, rfl, h1, h2, h3, h4, h5, h6, z⟩
local macro_rules | `(tactic| walk_at "s") => `(tactic| (with_reducible refine use_with_field (by omega) (by omega) (by omega) (by omega) (by omega) (by omega) ?_))
theorem ok_with_field (T : Txt K mg) : FnOk P w K mg base CX0 1 T.a_with_field T.d_with_field ["word", "low", "many", "number"] (sp_with_field) := by
  refine T.F_with_field.ok sc_with_field (fun vs H Q E h => ?_) (fun cdv A outer s H vs Q E hr h => ?_)
  · obtain ⟨w, l, m, n, rfl, h1, h2, h3, h4, h5, h6, k⟩ := h
    rfl
  · obtain ⟨w, l, m, n, rfl, h1, h2, h3, h4, h5, h6, k⟩ := h
    have hu := hu_of hr
    refine ⟨_, (pss_cons (ps_set (i := 4) sc_with_field.nd rfl (Or.inl rfl) (pe_op op_shlW (pe_op op_sub (pe_op op_shlW pe_int (pv 2)) pe_int) (pv 1)))
      (pss_one (ps_ret (pe_op op_xor (pv 0) (pe_op op_and (pe_op op_xor (pv 0) (pe_op op_shlW (pv 3) (pv 1))) (pv 4)))))), ?_⟩
    show (_ : TS) _ [some (.int w), some (.int l), some (.int m), some (.int n), none] H
    walk_at "w"
    refine Jl.s_I (Jl.shl_ok 1 (by decide) h3 (by omega) (by omega)) ?_
    walk_at "w"
    refine Jl.s_I (Jl.shl_ok 100 ?_ h1 (by omega) (by omega)) ?_
    · rw [Int.one_mul]
      exact Jl.pow_lt (by omega)
    walk_at "w"
    refine Jl.s_I (Jl.shl_ok 250 (Jl.big_of h5 h6) h1 (by omega) (by omega)) ?_
    walk_at "w"
    rw [Int.one_mul, Jl.put_at]
    exact k
/-! ### signed -/
def sp_signed : Sp := fun vs H Q _ => ∃ (n m : Int), vs = [.int n, .int m] ∧ 1 ≤ m ∧ m ≤ 64 ∧ Q (.int (Jl.sgn n m.toNat)) H
theorem use_signed {n m : Int} {H : Hp} {Q : VK} {E : XK} (h1 : 1 ≤ m) (h2 : m ≤ 64) (z : Q (.int (Jl.sgn n m.toNat)) H) : sp_signed [.int n, .int m] H Q E := ⟨n, m, rfl, h1, h2, z⟩
local macro_rules | `(tactic| walk_at "s") => `(tactic| (with_reducible refine use_signed (by omega) (by omega) ?_))
theorem ok_signed (T : Txt K mg) : FnOk P w K mg base CX0 1 T.a_signed T.d_signed ["number", "many"] (sp_signed) := by
  refine T.F_signed.ok sc_signed (fun vs H Q E h => ?_) (fun cdv A outer s H vs Q E hr h => ?_)
  · obtain ⟨n, m, rfl, h1, h2, k⟩ := h
    rfl
  · obtain ⟨n, m, rfl, h1, h2, k⟩ := h
    have hu := hu_of hr
    refine ⟨_, (pss_cons (ps_set (i := 2) sc_signed.nd rfl (Or.inl rfl) (pe_op op_shlW pe_int (pe_op op_sub (pv 1) pe_int)))
      (pss_one (ps_ret (pe_op op_sub (pe_op op_mod (pe_op op_add (pv 0) (pv 2)) (pe_op op_shlW (pv 2) pe_int)) (pv 2))))), ?_⟩
    show (_ : TS) _ [some (.int n), some (.int m), none] H
    walk_at "w"
    refine Jl.s_I (Jl.shl_ok 1 (by decide) (by omega) (by omega) (by omega)) ?_
    rw [Int.one_mul, show (m - 1).toNat = m.toNat - 1 by omega]
    walk_at "w"
    have hp := Jl.two_pow_pos (m.toNat - 1)
    refine Jl.s_I (Jl.shl_ok 100 (Jl.pow_lt' (by omega)) (by decide) (by decide) (by decide)) ?_
    refine Jl.s_I (show (0 : Int) < 2 ^ (m.toNat - 1) * 2 by omega) ?_
    walk_at "w"
    exact k
/-! ### Rule.__init__ -/
def sp_Rule___init__ (K : PySem.W.Frag) : Sp := fun vs H Q _ => ∃ (p C dx : Addr) (t : Str), vs = [.ref p, .str t] ∧ H p = some (.ins C dx []) ∧ Cls K C ∧ NoAttr K C "title" ∧ Q .non (upd H p (.ins C dx (putF "title" (.str t) [])))
theorem ok_Rule___init__ (T : Txt K mg) : FnOk P w K mg base CX0 1 T.a_Rule___init__ T.d_Rule___init__ ["self", "title"] (sp_Rule___init__ K) := by
  refine T.F_Rule___init__.ok sc_Rule___init__ (fun vs H Q E h => ?_) (fun cdv A outer s H vs Q E hr h => ?_)
  · obtain ⟨p, C, dx, t, rfl, hp, hc, hn, k⟩ := h
    rfl
  · obtain ⟨p, C, dx, t, rfl, hp, hc, hn, k⟩ := h
    have hu := hu_of hr
    refine ⟨_, (pss_one (ps_fld (pv 0) (pv 1) rfl)), ?_⟩
    show (_ : TS) _ [some (.ref p), some (.str t)] H
    refine ⟨_, rfl, _, rfl, p, C, dx, [], rfl, hp, hc, hn, (by decide), ?_⟩
    exact k
/-! ### Rule.fits -/
def sp_Rule_fits : Sp := fun vs H Q _ => ∃ (x0 : V) (h t : Int), vs = [x0, .int h, .int t] ∧ Q (.bl true) H
theorem use_Rule_fits {x0 : V} {h t : Int} {H : Hp} {Q : VK} {E : XK} (z : Q (.bl true) H) : sp_Rule_fits [x0, .int h, .int t] H Q E := ⟨x0, h, t, rfl, z⟩
local macro_rules | `(tactic| walk_at "s") => `(tactic| (with_reducible refine use_Rule_fits ?_))
theorem ok_Rule_fits (T : Txt K mg) : FnOk P w K mg base CX0 1 T.a_Rule_fits T.d_Rule_fits ["self", "here", "there"] (sp_Rule_fits) := by
  refine T.F_Rule_fits.ok sc_Rule_fits (fun vs H Q E h => ?_) (fun cdv A outer s H vs Q E hr h => ?_)
  · obtain ⟨x0, h, t, rfl, k⟩ := h
    rfl
  · obtain ⟨x0, h, t, rfl, k⟩ := h
    have hu := hu_of hr
    refine ⟨_, (pss_one (ps_ret pe_bl)), ?_⟩
    show (_ : TS) _ [some (x0), some (.int h), some (.int t)] H
    walk_at "w"
    exact k
/-! ### Rule.filled -/
def sp_Rule_filled : Sp := fun vs H Q _ => ∃ (x0 : V) (w h t : Int), vs = [x0, .int w, .int h, .int t] ∧ Q (.int (t % 4294967296)) H
theorem use_Rule_filled {x0 : V} {w h t : Int} {H : Hp} {Q : VK} {E : XK} (z : Q (.int (t % 4294967296)) H) : sp_Rule_filled [x0, .int w, .int h, .int t] H Q E := ⟨x0, w, h, t, rfl, z⟩
local macro_rules | `(tactic| walk_at "s") => `(tactic| (with_reducible refine use_Rule_filled ?_))
theorem ok_Rule_filled (T : Txt K mg) : FnOk P w K mg base CX0 2 T.a_Rule_filled T.d_Rule_filled ["self", "word", "here", "there"] (sp_Rule_filled) := by
  have G_wrapped := ok_wrapped (P := P) (w := w) (base := base) T
  refine T.F_Rule_filled.ok sc_Rule_filled (fun vs H Q E h => ?_) (fun cdv A outer s H vs Q E hr h => ?_)
  · obtain ⟨x0, w, h, t, rfl, k⟩ := h
    rfl
  · obtain ⟨x0, w, h, t, rfl, k⟩ := h
    have hu := hu_of hr
    refine ⟨_, (pss_one (ps_ret (pe_call (G_wrapped) (hr.mono (by decide)) rfl T.m_wrapped T.F_wrapped.kp T.b_wrapped .nil pass0 (pa_cons (pv 3) pa_nil)))), ?_⟩
    show (_ : TS) _ [some (x0), some (.int w), some (.int h), some (.int t)] H
    walk_at "w"
    exact k
/-! ### Rule.read_back -/
def sp_Rule_read_back : Sp := fun vs H Q _ => ∃ (x0 : V) (w h : Int), vs = [x0, .int w, .int h] ∧ Q (.int w) H
theorem use_Rule_read_back {x0 : V} {w h : Int} {H : Hp} {Q : VK} {E : XK} (z : Q (.int w) H) : sp_Rule_read_back [x0, .int w, .int h] H Q E := ⟨x0, w, h, rfl, z⟩
local macro_rules | `(tactic| walk_at "s") => `(tactic| (with_reducible refine use_Rule_read_back ?_))
theorem ok_Rule_read_back (T : Txt K mg) : FnOk P w K mg base CX0 1 T.a_Rule_read_back T.d_Rule_read_back ["self", "word", "here"] (sp_Rule_read_back) := by
  refine T.F_Rule_read_back.ok sc_Rule_read_back (fun vs H Q E h => ?_) (fun cdv A outer s H vs Q E hr h => ?_)
  · obtain ⟨x0, w, h, rfl, k⟩ := h
    rfl
  · obtain ⟨x0, w, h, rfl, k⟩ := h
    have hu := hu_of hr
    refine ⟨_, (pss_one (ps_ret (pv 1))), ?_⟩
    show (_ : TS) _ [some (x0), some (.int w), some (.int h)] H
    walk_at "w"
    exact k
/-! ### HighRule.filled -/
def sp_HighRule_filled : Sp := fun vs H Q _ => ∃ (x0 : V) (w h t : Int), vs = [x0, .int w, .int h, .int t] ∧ -(10 ^ 65) ≤ t ∧ t ≤ 10 ^ 64 ∧ Q (.int (w - w % 65536 + (t + 32768) / 65536 % 65536)) H
theorem use_HighRule_filled {x0 : V} {w h t : Int} {H : Hp} {Q : VK} {E : XK} (h0 : -(10 ^ 65) ≤ t) (h1 : t ≤ 10 ^ 64) (z : Q (.int (w - w % 65536 + (t + 32768) / 65536 % 65536)) H) : sp_HighRule_filled [x0, .int w, .int h, .int t] H Q E := ⟨x0, w, h, t, rfl, h0, h1, z⟩
local macro_rules | `(tactic| walk_at "s") => `(tactic| (with_reducible refine use_HighRule_filled (by omega) (by omega) ?_))
theorem ok_HighRule_filled (T : Txt K mg) : FnOk P w K mg base CX0 2 T.a_HighRule_filled T.d_HighRule_filled ["self", "word", "here", "there"] (sp_HighRule_filled) := by
  have G_with_field := ok_with_field (P := P) (w := w) (base := base) T
  refine T.F_HighRule_filled.ok sc_HighRule_filled (fun vs H Q E h => ?_) (fun cdv A outer s H vs Q E hr h => ?_)
  · obtain ⟨x0, w, h, t, rfl, h0, h1, k⟩ := h
    rfl
  · obtain ⟨x0, w, h, t, rfl, h0, h1, k⟩ := h
    have hu := hu_of hr
    refine ⟨_, (pss_one (ps_ret (pe_call (G_with_field) (hr.mono (by decide)) rfl T.m_with_field T.F_with_field.kp T.b_with_field .nil pass0 (pa_cons (pv 1) (pa_cons pe_int (pa_cons pe_int (pa_cons (pe_op op_fdiv (pe_op op_add (pv 3) pe_int) pe_int) pa_nil))))))), ?_⟩
    show (_ : TS) _ [some (x0), some (.int w), some (.int h), some (.int t)] H
    walk_at "w"
    rw [Jl.wf_16]
    exact k
/-! ### HighRule.read_back -/
def sp_HighRule_read_back : Sp := fun vs H Q _ => ∃ (x0 : V) (w h : Int), vs = [x0, .int w, .int h] ∧ Q (.int (65536 * (w % 65536))) H
theorem use_HighRule_read_back {x0 : V} {w h : Int} {H : Hp} {Q : VK} {E : XK} (z : Q (.int (65536 * (w % 65536))) H) : sp_HighRule_read_back [x0, .int w, .int h] H Q E := ⟨x0, w, h, rfl, z⟩
local macro_rules | `(tactic| walk_at "s") => `(tactic| (with_reducible refine use_HighRule_read_back ?_))
theorem ok_HighRule_read_back (T : Txt K mg) : FnOk P w K mg base CX0 2 T.a_HighRule_read_back T.d_HighRule_read_back ["self", "word", "here"] (sp_HighRule_read_back) := by
  have G_field := ok_field (P := P) (w := w) (base := base) T
  refine T.F_HighRule_read_back.ok sc_HighRule_read_back (fun vs H Q E h => ?_) (fun cdv A outer s H vs Q E hr h => ?_)
  · obtain ⟨x0, w, h, rfl, k⟩ := h
    rfl
  · obtain ⟨x0, w, h, rfl, k⟩ := h
    have hu := hu_of hr
    refine ⟨_, (pss_one (ps_ret (pe_op op_mul pe_int (pe_call (G_field) (hr.mono (by decide)) rfl T.m_field T.F_field.kp T.b_field .nil pass0 (pa_cons (pv 1) (pa_cons pe_int (pa_cons pe_int pa_nil))))))), ?_⟩
    show (_ : TS) _ [some (x0), some (.int w), some (.int h)] H
    walk_at "w"
    rw [Jl.f0_16]
    exact k
/-! ### LowRule.filled -/
def sp_LowRule_filled : Sp := fun vs H Q _ => ∃ (x0 : V) (w h t : Int), vs = [x0, .int w, .int h, .int t] ∧ -(10 ^ 65) ≤ t ∧ t ≤ 10 ^ 64 ∧ Q (.int (w - w % 65536 + t % 65536)) H
theorem use_LowRule_filled {x0 : V} {w h t : Int} {H : Hp} {Q : VK} {E : XK} (h0 : -(10 ^ 65) ≤ t) (h1 : t ≤ 10 ^ 64) (z : Q (.int (w - w % 65536 + t % 65536)) H) : sp_LowRule_filled [x0, .int w, .int h, .int t] H Q E := ⟨x0, w, h, t, rfl, h0, h1, z⟩
local macro_rules | `(tactic| walk_at "s") => `(tactic| (with_reducible refine use_LowRule_filled (by omega) (by omega) ?_))
theorem ok_LowRule_filled (T : Txt K mg) : FnOk P w K mg base CX0 2 T.a_LowRule_filled T.d_LowRule_filled ["self", "word", "here", "there"] (sp_LowRule_filled) := by
  have G_with_field := ok_with_field (P := P) (w := w) (base := base) T
  refine T.F_LowRule_filled.ok sc_LowRule_filled (fun vs H Q E h => ?_) (fun cdv A outer s H vs Q E hr h => ?_)
  · obtain ⟨x0, w, h, t, rfl, h0, h1, k⟩ := h
    rfl
  · obtain ⟨x0, w, h, t, rfl, h0, h1, k⟩ := h
    have hu := hu_of hr
    refine ⟨_, (pss_one (ps_ret (pe_call (G_with_field) (hr.mono (by decide)) rfl T.m_with_field T.F_with_field.kp T.b_with_field .nil pass0 (pa_cons (pv 1) (pa_cons pe_int (pa_cons pe_int (pa_cons (pv 3) pa_nil))))))), ?_⟩
    show (_ : TS) _ [some (x0), some (.int w), some (.int h), some (.int t)] H
    walk_at "w"
    rw [Jl.wf_16]
    exact k
/-! ### LowRule.read_back -/
def sp_LowRule_read_back : Sp := fun vs H Q _ => ∃ (x0 : V) (w h : Int), vs = [x0, .int w, .int h] ∧ Q (.int ((w + 32768) % 65536 - 32768)) H
theorem use_LowRule_read_back {x0 : V} {w h : Int} {H : Hp} {Q : VK} {E : XK} (z : Q (.int ((w + 32768) % 65536 - 32768)) H) : sp_LowRule_read_back [x0, .int w, .int h] H Q E := ⟨x0, w, h, rfl, z⟩
local macro_rules | `(tactic| walk_at "s") => `(tactic| (with_reducible refine use_LowRule_read_back ?_))
theorem ok_LowRule_read_back (T : Txt K mg) : FnOk P w K mg base CX0 2 T.a_LowRule_read_back T.d_LowRule_read_back ["self", "word", "here"] (sp_LowRule_read_back) := by
  have G_signed := ok_signed (P := P) (w := w) (base := base) T
  refine T.F_LowRule_read_back.ok sc_LowRule_read_back (fun vs H Q E h => ?_) (fun cdv A outer s H vs Q E hr h => ?_)
  · obtain ⟨x0, w, h, rfl, k⟩ := h
    rfl
  · obtain ⟨x0, w, h, rfl, k⟩ := h
    have hu := hu_of hr
    refine ⟨_, (pss_one (ps_ret (pe_call (G_signed) (hr.mono (by decide)) rfl T.m_signed T.F_signed.kp T.b_signed .nil pass0 (pa_cons (pv 1) (pa_cons pe_int pa_nil))))), ?_⟩
    show (_ : TS) _ [some (x0), some (.int w), some (.int h)] H
    walk_at "w"
    exact k
/-! ### rule_of -/
def sp_rule_of (T : Txt K mg) : Sp := fun vs H Q _ => ∃ (t : Str) (C : Addr), vs = [.str t] ∧ ((t = "whole" ∧ C = T.a_Rule) ∨ (t = "high" ∧ C = T.a_HighRule) ∨ (t = "low" ∧ C = T.a_LowRule) ∨ (t = "near" ∧ C = T.a_NearRule) ∨ (t = "split" ∧ C = T.a_SplitRule)) ∧ ∀ p H', Same H H' → H p = none → Jl.RuleAt H' p C t → Q (.ref p) H'
theorem use_rule_whole {T : Txt K mg} {H : Hp} {Q : VK} {E : XK} (z : ∀ p H', Same H H' → H p = none → Jl.RuleAt H' p T.a_Rule "whole" → Q (.ref p) H') : sp_rule_of T [.str "whole"] H Q E := ⟨_, _, rfl, .inl ⟨rfl, rfl⟩, z⟩
theorem use_rule_high {T : Txt K mg} {H : Hp} {Q : VK} {E : XK} (z : ∀ p H', Same H H' → H p = none → Jl.RuleAt H' p T.a_HighRule "high" → Q (.ref p) H') : sp_rule_of T [.str "high"] H Q E := ⟨_, _, rfl, .inr (.inl ⟨rfl, rfl⟩), z⟩
theorem use_rule_low {T : Txt K mg} {H : Hp} {Q : VK} {E : XK} (z : ∀ p H', Same H H' → H p = none → Jl.RuleAt H' p T.a_LowRule "low" → Q (.ref p) H') : sp_rule_of T [.str "low"] H Q E := ⟨_, _, rfl, .inr (.inr (.inl ⟨rfl, rfl⟩)), z⟩
theorem use_rule_near {T : Txt K mg} {H : Hp} {Q : VK} {E : XK} (z : ∀ p H', Same H H' → H p = none → Jl.RuleAt H' p T.a_NearRule "near" → Q (.ref p) H') : sp_rule_of T [.str "near"] H Q E := ⟨_, _, rfl, .inr (.inr (.inr (.inl ⟨rfl, rfl⟩))), z⟩
theorem use_rule_split {T : Txt K mg} {H : Hp} {Q : VK} {E : XK} (z : ∀ p H', Same H H' → H p = none → Jl.RuleAt H' p T.a_SplitRule "split" → Q (.ref p) H') : sp_rule_of T [.str "split"] H Q E := ⟨_, _, rfl, .inr (.inr (.inr (.inr (⟨rfl, rfl⟩)))), z⟩
local macro_rules | `(tactic| walk_at "s") => `(tactic| (first | with_reducible refine use_rule_whole (fun p H' s1 np hR => ?_) | with_reducible refine use_rule_high (fun p H' s1 np hR => ?_) | with_reducible refine use_rule_low (fun p H' s1 np hR => ?_) | with_reducible refine use_rule_near (fun p H' s1 np hR => ?_) | with_reducible refine use_rule_split (fun p H' s1 np hR => ?_)))
theorem ok_rule_of (T : Txt K mg) : FnOk P w K mg base CX0 3 T.a_rule_of T.d_rule_of ["title"] (sp_rule_of T) := by
  have G_Rule___init__ := ok_Rule___init__ (P := P) (w := w) (base := base) T
  refine T.F_rule_of.ok sc_rule_of (fun vs H Q E h => ?_) (fun cdv A outer s H vs Q E hr h => ?_)
  · obtain ⟨t, C, rfl, ht, k⟩ := h
    rfl
  · obtain ⟨t, C, rfl, ht, k⟩ := h
    have hu := hu_of hr
    refine ⟨_, (pss_cons (ps_if (pt_cmpR op_eq (pv 0) pe_str (nomark _)) (pss_one (ps_ret (pe_make T.k_Rule (G_Rule___init__) (hr.mono (by decide)) rfl T.g_Rule T.b_Rule___init__ .nil pass0 (pa_cons (pv 0) pa_nil)))) pss_nil)
      (pss_cons (ps_if (pt_cmpR op_eq (pv 0) pe_str (nomark _)) (pss_one (ps_ret (pe_make T.k_HighRule (G_Rule___init__) (hr.mono (by decide)) rfl T.g_HighRule T.b_Rule___init__ .nil pass0 (pa_cons (pv 0) pa_nil)))) pss_nil)
      (pss_cons (ps_if (pt_cmpR op_eq (pv 0) pe_str (nomark _)) (pss_one (ps_ret (pe_make T.k_LowRule (G_Rule___init__) (hr.mono (by decide)) rfl T.g_LowRule T.b_Rule___init__ .nil pass0 (pa_cons (pv 0) pa_nil)))) pss_nil)
      (pss_cons (ps_if (pt_cmpR op_eq (pv 0) pe_str (nomark _)) (pss_one (ps_ret (pe_make T.k_NearRule (G_Rule___init__) (hr.mono (by decide)) rfl T.g_NearRule T.b_Rule___init__ .nil pass0 (pa_cons (pv 0) pa_nil)))) pss_nil)
      (pss_cons (ps_if (pt_cmpR op_eq (pv 0) pe_str (nomark _)) (pss_one (ps_ret (pe_make T.k_SplitRule (G_Rule___init__) (hr.mono (by decide)) rfl T.g_SplitRule T.b_Rule___init__ .nil pass0 (pa_cons (pv 0) pa_nil)))) pss_nil)
      (pss_one ps_never)))))), ?_⟩
    show (_ : TS) _ [some (.str t)] H
    rcases ht with ⟨rfl, rfl⟩ | ⟨rfl, rfl⟩ | ⟨rfl, rfl⟩ | ⟨rfl, rfl⟩ | ⟨rfl, rfl⟩
    all_goals
      repeat (first | walk_at "s" | with_reducible refine Jl.s_iteDt (by decide +kernel) ?_ | with_reducible refine Jl.s_iteDf (by decide +kernel) ?_)
    · intro x dx nx ndx ne
      exact ⟨x, T.a_Rule, dx, _, rfl, upd_same, T.c_Rule, T.na_Rule_title, rfl, k x _ (Jl.same_made nx ndx) nx ⟨dx, upd_same⟩⟩
    · intro x dx nx ndx ne
      exact ⟨x, T.a_HighRule, dx, _, rfl, upd_same, T.c_HighRule, T.na_HighRule_title, rfl, k x _ (Jl.same_made nx ndx) nx ⟨dx, upd_same⟩⟩
    · intro x dx nx ndx ne
      exact ⟨x, T.a_LowRule, dx, _, rfl, upd_same, T.c_LowRule, T.na_LowRule_title, rfl, k x _ (Jl.same_made nx ndx) nx ⟨dx, upd_same⟩⟩
    · intro x dx nx ndx ne
      exact ⟨x, T.a_NearRule, dx, _, rfl, upd_same, T.c_NearRule, T.na_NearRule_title, rfl, k x _ (Jl.same_made nx ndx) nx ⟨dx, upd_same⟩⟩
    · intro x dx nx ndx ne
      exact ⟨x, T.a_SplitRule, dx, _, rfl, upd_same, T.c_SplitRule, T.na_SplitRule_title, rfl, k x _ (Jl.same_made nx ndx) nx ⟨dx, upd_same⟩⟩
/-! ### _law_whole -/
def sp_law_whole : Sp := fun vs H Q _ => ∃ n : Int, vs = [.int n] ∧ Q (.bl true) H
theorem use_whole {n : Int} {H : Hp} {Q : VK} {E : XK} (z : Q (.bl true) H) : sp_law_whole [.int n] H Q E := ⟨n, rfl, z⟩
local macro_rules | `(tactic| walk_at "s") => `(tactic| (with_reducible refine use_whole ?_))
theorem ok_law_whole (T : Txt K mg) : FnOk P w K mg base CX0 1 T.a_law_whole T.d_law_whole ["_law_found"] (sp_law_whole) := by
  refine T.F_law_whole.ok sc_law_whole (fun vs H Q E h => ?_) (fun cdv A outer s H vs Q E hr h => ?_)
  · obtain ⟨n, rfl, k⟩ := h
    rfl
  · obtain ⟨n, rfl, k⟩ := h
    have hu := hu_of hr
    refine ⟨_, (pss_one (ps_ret (pe_and (pe_callB call_isi (by rfl) T.n_isinstance (by decide +kernel) (pa_cons (pv 0) (pa_cons (pe_bltn (v := .ty "int") (u := .type "int") (by rfl) T.n_int (by decide +kernel) rfl) pa_nil))) (pe_one (pe_not (pe_callB call_isi (by rfl) T.n_isinstance (by decide +kernel) (pa_cons (pv 0) (pa_cons (pe_bltn (v := .ty "bool") (u := .type "bool") (by rfl) T.n_bool (by decide +kernel) rfl) pa_nil)))))))), ?_⟩
    show (_ : TS) _ [some (.int n)] H
    walk_at "w"
    exact k
/-! ### _law_place_by -/
def sp_law_place_by : Sp := fun vs H Q _ => ∃ c : Int, vs = [.int c] ∧ (∀ n : Int, -(10 ^ 61) ≤ n → n ≤ 10 ^ 61 → Q (.int n) H)
theorem use_place_by {c : Int} {H : Hp} {Q : VK} {E : XK} (z : ∀ n : Int, -(10 ^ 61) ≤ n → n ≤ 10 ^ 61 → Q (.int n) H) : sp_law_place_by [.int c] H Q E := ⟨c, rfl, z⟩
local macro_rules | `(tactic| walk_at "s") => `(tactic| (with_reducible refine use_place_by (fun n hn hn2 => ?_)))
theorem ok_law_place_by (T : Txt K mg) : FnOk P w K mg base CX0 1 T.a_law_place_by T.d_law_place_by ["_law_cell"] (sp_law_place_by) := by
  refine T.F_law_place_by.ok sc_law_place_by (fun vs H Q E h => ?_) (fun cdv A outer s H vs Q E hr h => ?_)
  · obtain ⟨c, rfl, k⟩ := h
    rfl
  · obtain ⟨c, rfl, k⟩ := h
    have hu := hu_of hr
    refine ⟨_, (pss_cons (ps_if (pt_cmpR op_eq (pe_op op_mod (pv 0) pe_int) pe_int (nomark _)) (pss_one (ps_ret (pe_op op_sub (pe_op op_mod (pe_op op_fdiv (pv 0) pe_int) pe_int) pe_int))) pss_nil)
      (pss_cons (ps_if (pt_cmpR op_eq (pe_op op_mod (pv 0) pe_int) pe_int (nomark _)) (pss_one (ps_ret (pe_op op_sub (pe_op op_mod (pe_op op_mul (pe_op op_fdiv (pv 0) pe_int) pe_int) (pe_op op_sub (pe_op op_mul pe_int (pe_op op_pow pe_int pe_int)) pe_int)) (pe_op op_sub (pe_op op_pow pe_int pe_int) pe_int)))) pss_nil)
      (pss_one (ps_ret (pe_op op_sub (pe_op op_add (pe_op op_mul (pe_op op_sub (pe_op op_mod (pe_op op_mul (pv 0) pe_int) pe_int) pe_int) pe_int) (pe_op op_mod (pe_op op_fdiv (pv 0) pe_int) pe_int)) pe_int))))), ?_⟩
    show (_ : TS) _ [some (.int c)] H
    walk_at "all"
    all_goals refine k _ ?_ ?_
    · omega
    · omega
    · have := Int.emod_nonneg (c / 4 * 982451653) (show (2 * 10 ^ (60 : Int).toNat - 1 : Int) ≠ 0 by decide +kernel)
      have e : (10 : Int) ^ (60 : Int).toNat = 10 ^ 60 := rfl
      rw [e] at *
      omega
    · have := Int.emod_lt_of_pos (c / 4 * 982451653) (show (0 : Int) < (2 * 10 ^ (60 : Int).toNat - 1) by decide +kernel)
      have e : (10 : Int) ^ (60 : Int).toNat = 10 ^ 60 := rfl
      rw [e] at *
      omega
    · omega
    · omega
/-! ### _law_word -/
def sp_law_word : Sp := fun vs H Q _ => ∃ (n : Int), vs = [.int n] ∧ 0 ≤ n ∧ n ≤ 4294967295 ∧ Q (.bl true) H
theorem use_law_word {n : Int} {H : Hp} {Q : VK} {E : XK} (h0 : 0 ≤ n) (h1 : n ≤ 4294967295) (z : Q (.bl true) H) : sp_law_word [.int n] H Q E := ⟨n, rfl, h0, h1, z⟩
local macro_rules | `(tactic| walk_at "s") => `(tactic| (with_reducible refine use_law_word (by omega) (by omega) ?_))
theorem ok_law_word (T : Txt K mg) : FnOk P w K mg base CX0 2 T.a_law_word T.d_law_word ["_law_found"] (sp_law_word) := by
  have G_law_whole := ok_law_whole (P := P) (w := w) (base := base) T
  refine T.F_law_word.ok sc_law_word (fun vs H Q E h => ?_) (fun cdv A outer s H vs Q E hr h => ?_)
  · obtain ⟨n, rfl, h0, h1, k⟩ := h
    rfl
  · obtain ⟨n, rfl, h0, h1, k⟩ := h
    have hu := hu_of hr
    refine ⟨_, (pss_one (ps_ret (pe_and (pe_call (G_law_whole) (hr.mono (by decide)) rfl T.m_law_whole T.F_law_whole.kp T.b_law_whole .nil pass0 (pa_cons (pv 0) pa_nil)) (pe_one (pe_chain op_le op_le pe_int (pv 0) pe_int))))), ?_⟩
    show (_ : TS) _ [some (.int n)] H
    walk_at "wd"
    exact Jl.fin_dec k (by assumption)
/-! ### _law_by_whole -/
def sp_law_by_whole (K : PySem.W.Frag) : Sp := fun vs H Q _ => ∃ w h t : Int, vs = [.int w, .int h, .int t] ∧ 0 ≤ w ∧ w ≤ 4294967295 ∧ -(10 ^ 61) ≤ t ∧ t ≤ 10 ^ 61 ∧ ∀ H', Same H H' → Q (.bl true) H'
theorem use_by_whole {K : PySem.W.Frag} {w h t : Int} {H : Hp} {Q : VK} {E : XK} (h0 : 0 ≤ w) (h1 : w ≤ 4294967295) (h2 : -(10 ^ 61) ≤ t) (h3 : t ≤ 10 ^ 61) (z : ∀ H', Same H H' → Q (.bl true) H') : sp_law_by_whole K [.int w, .int h, .int t] H Q E := ⟨w, h, t, rfl, h0, h1, h2, h3, z⟩
local macro_rules | `(tactic| walk_at "s") => `(tactic| (with_reducible refine use_by_whole (by omega) (by omega) (by omega) (by omega) (fun H' s1 => ?_)))
theorem ok_law_by_whole (T : Txt K mg) : FnOk P w K mg base CX0 4 T.a_law_by_whole T.d_law_by_whole ["_law_word_here", "_law_here", "_law_there"] (sp_law_by_whole K) := by
  have G_Rule_fits := ok_Rule_fits (P := P) (w := w) (base := base) T
  have G_Rule_filled := ok_Rule_filled (P := P) (w := w) (base := base) T
  have G_Rule_read_back := ok_Rule_read_back (P := P) (w := w) (base := base) T
  have G_rule_of := ok_rule_of (P := P) (w := w) (base := base) T
  have G_law_whole := ok_law_whole (P := P) (w := w) (base := base) T
  have G_law_word := ok_law_word (P := P) (w := w) (base := base) T
  refine T.F_law_by_whole.ok sc_law_by_whole (fun vs H Q E h => ?_) (fun cdv A outer s H vs Q E hr h => ?_)
  · obtain ⟨w, h, t, rfl, h0, h1, h2, h3, k⟩ := h
    rfl
  · obtain ⟨w, h, t, rfl, h0, h1, h2, h3, k⟩ := h
    have hu := hu_of hr
    refine ⟨_, (pss_cons (ps_set (i := 3) sc_law_by_whole.nd rfl (Or.inl rfl) (pe_call (G_rule_of) (hr.mono (by decide)) rfl T.m_rule_of T.F_rule_of.kp T.b_rule_of .nil pass0 (pa_cons pe_str pa_nil)))
      (pss_cons (ps_set (i := 4) sc_law_by_whole.nd rfl (Or.inl rfl) (pe_meth (pv 3) T.c_Rule T.me_Rule_filled (G_Rule_filled) (hr.mono (by decide)) T.b_Rule_filled .nil pass0 (pa_cons (pv 0) (pa_cons (pv 1) (pa_cons (pv 2) pa_nil)))))
      (pss_cons (ps_if (PW.pt (pw_or (pt_not (pt_val (pe_call (G_law_word) (hr.mono (by decide)) rfl T.m_law_word T.F_law_word.kp T.b_law_word .nil pass0 (pa_cons (pv 4) pa_nil)))) (pw_or1 (pt_cmpR op_ne (pe_op op_mod (pe_op op_sub (pv 4) (pv 2)) pe_int) pe_int (nomark _))))) (pss_one (ps_ret pe_bl)) pss_nil)
      (pss_cons (ps_set (i := 5) sc_law_by_whole.nd rfl (Or.inl rfl) (pe_meth (pv 3) T.c_Rule T.me_Rule_read_back (G_Rule_read_back) (hr.mono (by decide)) T.b_Rule_read_back .nil pass0 (pa_cons (pv 0) (pa_cons (pv 1) pa_nil))))
      (pss_one (ps_ret (pe_and (pe_cmpR op_isBl (pe_meth (pv 3) T.c_Rule T.me_Rule_fits (G_Rule_fits) (hr.mono (by decide)) T.b_Rule_fits .nil pass0 (pa_cons (pv 1) (pa_cons (pv 2) pa_nil))) pe_bl (nomark _)) (pe_and (pe_call (G_law_whole) (hr.mono (by decide)) rfl T.m_law_whole T.F_law_whole.kp T.b_law_whole .nil pass0 (pa_cons (pv 5) pa_nil)) (pe_one (pe_cmpR op_eq (pv 5) (pv 0) (nomark _))))))))))), ?_⟩
    show (_ : TS) _ [some (.int w), some (.int h), some (.int t), none, none, none] H
    walk_at "wd"
    exact Jl.fin_dec (k _ (by walk_at "same")) (by omega)
/-! ### _law_by_low -/
def sp_law_by_low (K : PySem.W.Frag) : Sp := fun vs H Q _ => ∃ w h t : Int, vs = [.int w, .int h, .int t] ∧ 0 ≤ w ∧ w ≤ 4294967295 ∧ -(10 ^ 61) ≤ t ∧ t ≤ 10 ^ 61 ∧ ∀ H', Same H H' → Q (.bl true) H'
theorem use_by_low {K : PySem.W.Frag} {w h t : Int} {H : Hp} {Q : VK} {E : XK} (h0 : 0 ≤ w) (h1 : w ≤ 4294967295) (h2 : -(10 ^ 61) ≤ t) (h3 : t ≤ 10 ^ 61) (z : ∀ H', Same H H' → Q (.bl true) H') : sp_law_by_low K [.int w, .int h, .int t] H Q E := ⟨w, h, t, rfl, h0, h1, h2, h3, z⟩
local macro_rules | `(tactic| walk_at "s") => `(tactic| (with_reducible refine use_by_low (by omega) (by omega) (by omega) (by omega) (fun H' s1 => ?_)))
theorem ok_law_by_low (T : Txt K mg) : FnOk P w K mg base CX0 4 T.a_law_by_low T.d_law_by_low ["_law_word_here", "_law_here", "_law_there"] (sp_law_by_low K) := by
  have G_Rule_fits := ok_Rule_fits (P := P) (w := w) (base := base) T
  have G_LowRule_filled := ok_LowRule_filled (P := P) (w := w) (base := base) T
  have G_LowRule_read_back := ok_LowRule_read_back (P := P) (w := w) (base := base) T
  have G_rule_of := ok_rule_of (P := P) (w := w) (base := base) T
  have G_law_whole := ok_law_whole (P := P) (w := w) (base := base) T
  have G_law_word := ok_law_word (P := P) (w := w) (base := base) T
  refine T.F_law_by_low.ok sc_law_by_low (fun vs H Q E h => ?_) (fun cdv A outer s H vs Q E hr h => ?_)
  · obtain ⟨w, h, t, rfl, h0, h1, h2, h3, k⟩ := h
    rfl
  · obtain ⟨w, h, t, rfl, h0, h1, h2, h3, k⟩ := h
    have hu := hu_of hr
    refine ⟨_, (pss_cons (ps_set (i := 3) sc_law_by_low.nd rfl (Or.inl rfl) (pe_call (G_rule_of) (hr.mono (by decide)) rfl T.m_rule_of T.F_rule_of.kp T.b_rule_of .nil pass0 (pa_cons pe_str pa_nil)))
      (pss_cons (ps_set (i := 4) sc_law_by_low.nd rfl (Or.inl rfl) (pe_meth (pv 3) T.c_LowRule T.me_LowRule_filled (G_LowRule_filled) (hr.mono (by decide)) T.b_LowRule_filled .nil pass0 (pa_cons (pv 0) (pa_cons (pv 1) (pa_cons (pv 2) pa_nil)))))
      (pss_cons (ps_if (PW.pt (pw_or (pt_not (pt_val (pe_call (G_law_word) (hr.mono (by decide)) rfl T.m_law_word T.F_law_word.kp T.b_law_word .nil pass0 (pa_cons (pv 4) pa_nil)))) (pw_or (pt_cmpR op_ne (pe_op op_fdiv (pv 4) pe_int) (pe_op op_fdiv (pv 0) pe_int) (nomark _)) (pw_or1 (pt_cmpR op_ne (pe_op op_mod (pe_op op_sub (pv 4) (pv 2)) pe_int) pe_int (nomark _)))))) (pss_one (ps_ret pe_bl)) pss_nil)
      (pss_cons (ps_set (i := 5) sc_law_by_low.nd rfl (Or.inl rfl) (pe_meth (pv 3) T.c_LowRule T.me_LowRule_read_back (G_LowRule_read_back) (hr.mono (by decide)) T.b_LowRule_read_back .nil pass0 (pa_cons (pv 0) (pa_cons (pv 1) pa_nil))))
      (pss_cons (ps_if (PW.pt (pw_or (pt_not (pt_val (pe_call (G_law_whole) (hr.mono (by decide)) rfl T.m_law_whole T.F_law_whole.kp T.b_law_whole .nil pass0 (pa_cons (pv 5) pa_nil)))) (pw_or1 (pt_not (pt_chain op_le op_lt (pe_un un_neg pe_int) (pv 5) pe_int))))) (pss_one (ps_ret pe_bl)) pss_nil)
      (pss_one (ps_ret (pe_and (pe_cmpR op_isBl (pe_meth (pv 3) T.c_LowRule T.me_LowRule_fits (G_Rule_fits) (hr.mono (by decide)) T.b_Rule_fits .nil pass0 (pa_cons (pv 1) (pa_cons (pv 2) pa_nil))) pe_bl (nomark _)) (pe_one (pe_cmpR op_eq (pe_op op_mod (pe_op op_sub (pv 0) (pv 5)) pe_int) pe_int (nomark _))))))))))), ?_⟩
    show (_ : TS) _ [some (.int w), some (.int h), some (.int t), none, none, none] H
    walk_at "wd"
    exact Jl.fin_dec (k _ (by walk_at "same")) (by omega)
/-! ### _law_by_high -/
def sp_law_by_high (K : PySem.W.Frag) : Sp := fun vs H Q _ => ∃ w h t : Int, vs = [.int w, .int h, .int t] ∧ 0 ≤ w ∧ w ≤ 4294967295 ∧ -(10 ^ 61) ≤ t ∧ t ≤ 10 ^ 61 ∧ ∀ H', Same H H' → Q (.bl true) H'
theorem use_by_high {K : PySem.W.Frag} {w h t : Int} {H : Hp} {Q : VK} {E : XK} (h0 : 0 ≤ w) (h1 : w ≤ 4294967295) (h2 : -(10 ^ 61) ≤ t) (h3 : t ≤ 10 ^ 61) (z : ∀ H', Same H H' → Q (.bl true) H') : sp_law_by_high K [.int w, .int h, .int t] H Q E := ⟨w, h, t, rfl, h0, h1, h2, h3, z⟩
local macro_rules | `(tactic| walk_at "s") => `(tactic| (with_reducible refine use_by_high (by omega) (by omega) (by omega) (by omega) (fun H' s1 => ?_)))
theorem ok_law_by_high (T : Txt K mg) : FnOk P w K mg base CX0 4 T.a_law_by_high T.d_law_by_high ["_law_word_here", "_law_here", "_law_there"] (sp_law_by_high K) := by
  have G_Rule_fits := ok_Rule_fits (P := P) (w := w) (base := base) T
  have G_HighRule_filled := ok_HighRule_filled (P := P) (w := w) (base := base) T
  have G_HighRule_read_back := ok_HighRule_read_back (P := P) (w := w) (base := base) T
  have G_rule_of := ok_rule_of (P := P) (w := w) (base := base) T
  have G_law_whole := ok_law_whole (P := P) (w := w) (base := base) T
  have G_law_word := ok_law_word (P := P) (w := w) (base := base) T
  refine T.F_law_by_high.ok sc_law_by_high (fun vs H Q E h => ?_) (fun cdv A outer s H vs Q E hr h => ?_)
  · obtain ⟨w, h, t, rfl, h0, h1, h2, h3, k⟩ := h
    rfl
  · obtain ⟨w, h, t, rfl, h0, h1, h2, h3, k⟩ := h
    have hu := hu_of hr
    refine ⟨_, (pss_cons (ps_set (i := 3) sc_law_by_high.nd rfl (Or.inl rfl) (pe_call (G_rule_of) (hr.mono (by decide)) rfl T.m_rule_of T.F_rule_of.kp T.b_rule_of .nil pass0 (pa_cons pe_str pa_nil)))
      (pss_cons (ps_set (i := 4) sc_law_by_high.nd rfl (Or.inl rfl) (pe_meth (pv 3) T.c_HighRule T.me_HighRule_filled (G_HighRule_filled) (hr.mono (by decide)) T.b_HighRule_filled .nil pass0 (pa_cons (pv 0) (pa_cons (pv 1) (pa_cons (pv 2) pa_nil)))))
      (pss_cons (ps_if (PW.pt (pw_or (pt_not (pt_val (pe_call (G_law_word) (hr.mono (by decide)) rfl T.m_law_word T.F_law_word.kp T.b_law_word .nil pass0 (pa_cons (pv 4) pa_nil)))) (pw_or1 (pt_cmpR op_ne (pe_op op_fdiv (pv 4) pe_int) (pe_op op_fdiv (pv 0) pe_int) (nomark _))))) (pss_one (ps_ret pe_bl)) pss_nil)
      (pss_cons (ps_if (pt_cmpR op_ge (pe_op op_mod (pe_op op_add (pe_op op_sub (pv 2) (pe_op op_mul pe_int (pe_op op_mod (pv 4) pe_int))) pe_int) pe_int) pe_int (nomark _)) (pss_one (ps_ret pe_bl)) pss_nil)
      (pss_cons (ps_set (i := 5) sc_law_by_high.nd rfl (Or.inl rfl) (pe_meth (pv 3) T.c_HighRule T.me_HighRule_read_back (G_HighRule_read_back) (hr.mono (by decide)) T.b_HighRule_read_back .nil pass0 (pa_cons (pv 0) (pa_cons (pv 1) pa_nil))))
      (pss_one (ps_ret (pe_and (pe_cmpR op_isBl (pe_meth (pv 3) T.c_HighRule T.me_HighRule_fits (G_Rule_fits) (hr.mono (by decide)) T.b_Rule_fits .nil pass0 (pa_cons (pv 1) (pa_cons (pv 2) pa_nil))) pe_bl (nomark _)) (pe_and (pe_call (G_law_whole) (hr.mono (by decide)) rfl T.m_law_whole T.F_law_whole.kp T.b_law_whole .nil pass0 (pa_cons (pv 5) pa_nil)) (pe_one (pe_cmpR op_eq (pv 5) (pe_op op_mul pe_int (pe_op op_mod (pv 0) pe_int)) (nomark _)))))))))))), ?_⟩
    show (_ : TS) _ [some (.int w), some (.int h), some (.int t), none, none, none] H
    walk_at "wd"
    exact Jl.fin_dec (k _ (by walk_at "same")) (by omega)
/-! ### _law_holds -/
def sp_law_holds : Sp := fun vs H Q _ => ∃ c d : Int, vs = [.int c, .int d] ∧ ∀ H', Same H H' → Q (.bl true) H'
theorem use_holds {c d : Int} {H : Hp} {Q : VK} {E : XK} (z : ∀ H', Same H H' → Q (.bl true) H') : sp_law_holds [.int c, .int d] H Q E := ⟨c, d, rfl, z⟩
local macro_rules | `(tactic| walk_at "s") => `(tactic| (with_reducible refine use_holds (fun H' s3 => ?_)))
theorem ok_law_holds (T : Txt K mg) : FnOk P w K mg base CX0 5 T.a_law_holds T.d_law_holds ["_law_cell", "_law_other"] (sp_law_holds) := by
  have G_law_place_by := ok_law_place_by (P := P) (w := w) (base := base) T
  have G_law_by_whole := ok_law_by_whole (P := P) (w := w) (base := base) T
  have G_law_by_low := ok_law_by_low (P := P) (w := w) (base := base) T
  have G_law_by_high := ok_law_by_high (P := P) (w := w) (base := base) T
  refine T.F_law_holds.ok sc_law_holds (fun vs H Q E h => ?_) (fun cdv A outer s H vs Q E hr h => ?_)
  · obtain ⟨c, d, rfl, k⟩ := h
    rfl
  · obtain ⟨c, d, rfl, k⟩ := h
    have hu := hu_of hr
    refine ⟨_, (pss_cons (ps_set (i := 2) sc_law_holds.nd rfl (Or.inl rfl) (pe_op op_mod (pe_op op_mul (pv 0) pe_int) pe_int))
      (pss_cons (ps_set (i := 3) sc_law_holds.nd rfl (Or.inl rfl) (pe_call (G_law_place_by) (hr.mono (by decide)) rfl T.m_law_place_by T.F_law_place_by.kp T.b_law_place_by .nil pass0 (pa_cons (pv 1) pa_nil)))
      (pss_cons (ps_set (i := 4) sc_law_holds.nd rfl (Or.inl rfl) (pe_call (G_law_place_by) (hr.mono (by decide)) rfl T.m_law_place_by T.F_law_place_by.kp T.b_law_place_by .nil pass0 (pa_cons (pe_op op_fdiv (pv 0) pe_int) pa_nil)))
      (pss_cons (ps_if (PW.pt (pw_or (pt_not (pt_val (pe_call (G_law_by_whole) (hr.mono (by decide)) rfl T.m_law_by_whole T.F_law_by_whole.kp T.b_law_by_whole .nil pass0 (pa_cons (pv 2) (pa_cons (pv 3) (pa_cons (pv 4) pa_nil)))))) (pw_or1 (pt_not (pt_val (pe_call (G_law_by_low) (hr.mono (by decide)) rfl T.m_law_by_low T.F_law_by_low.kp T.b_law_by_low .nil pass0 (pa_cons (pv 2) (pa_cons (pv 3) (pa_cons (pv 4) pa_nil))))))))) (pss_one (ps_ret pe_bl)) pss_nil)
      (pss_one (ps_ret (pe_call (G_law_by_high) (hr.mono (by decide)) rfl T.m_law_by_high T.F_law_by_high.kp T.b_law_by_high .nil pass0 (pa_cons (pv 2) (pa_cons (pv 3) (pa_cons (pv 4) pa_nil)))))))))), ?_⟩
    show (_ : TS) _ [some (.int c), some (.int d), none, none, none] H
    walk_at "wd"
    exact k _ (by walk_at "same")
/-! ### law -/
def sp_law (K : PySem.W.Frag) : Sp := fun vs H Q _ => ∃ (a : Addr) (ns : List Int), vs = [.ref a] ∧ SqL K H a (ns.map V.int) ∧ ns.length ≤ 63 ∧ ∀ H', Q (.bl true) H'
theorem ok_law (T : Txt K mg) : FnOk P w K mg base CX0 6 T.a_law T.d_law ["_law_script"] (sp_law K) := by
  have G_law_holds := ok_law_holds (P := P) (w := w) (base := base) T
  refine T.F_law.ok sc_law (fun vs H Q E h => ?_) (fun cdv A outer s H vs Q E hr h => ?_)
  · obtain ⟨a, ns, rfl, hS, hlen, k⟩ := h
    rfl
  · obtain ⟨a, ns, rfl, hS, hlen, k⟩ := h
    have hu := hu_of hr
    refine ⟨_, (pss_cons (ps_set (i := 1) sc_law.nd rfl (Or.inl rfl) (pe_op (r := Jl.rCatS K) Jl.op_catS (pv 0) (pe_lst (pa_cons pe_int pa_nil))))
      (pss_cons (ps_for PassesOwn.never rfl (pi_range1 (by rfl) T.n_range (pa_cons (pe_callB call_len_seq (by rfl) T.n_len (by decide +kernel) (pa_cons (pv 1) pa_nil)) pa_nil)) (pg_name (i := 2) sc_law.nd rfl (Or.inl rfl)) (pss_one (ps_if (pt_not (pt_val (pe_call (G_law_holds) (hr.mono (by decide)) rfl T.m_law_holds T.F_law_holds.kp T.b_law_holds .nil pass0 (pa_cons (pe_ix (r := rIxL K) ix_list (pv 1) (pv 2) (fun _ _ => rfl)) (pa_cons (pe_ix (r := rIxL K) ix_list (pv 1) (pe_op op_sub (pv 2) pe_int) (fun _ _ => rfl)) pa_nil))))) (pss_one (ps_ret pe_bl)) pss_nil)))
      (pss_one (ps_ret pe_bl)))), ?_⟩
    show (_ : TS) _ [some (.ref a), none, none] H
    refine Jl.s_seq_assoc (Jl.law1 (ms := [0]) hS hlen (by decide) (fun R z => ?_) (fun p H1 R hp z => ?_) (fun p i N H1 s1 hc h0 h1 hN => ?_) (fun p v H1 s1 => ?_))
    · walk_at "w"
      exact ⟨by decide, z⟩
    · walk_at "w"
      refine ⟨p, _, rfl, .inl hp, ?_⟩
      rw [List.length_map]
      walk_at "w"
      exact z
    · have e := List.length_append (as := ns) (bs := [0])
      obtain ⟨z0, e0⟩ := Jl.atI_any (ns := ns ++ [0]) (i := i) (by omega) (by omega)
      obtain ⟨z1, e1⟩ := Jl.atI_any (ns := ns ++ [0]) (i := i - 1) (by rw [List.length_append]; show -((ns.length + 1 : Nat) : Int) ≤ _; omega) (by omega)
      walk_at "w"; refine Jl.s_ixL hc e0 ?_; walk_at "w"; refine Jl.s_ixL hc e1 ?_
      walk_at "w"
      exact hN _ _ (by assumption)
    · walk_at "w"
      exact k _
end
theorem all_mk {l : PySem.W.OpenLaw} {w : World} {K : PySem.W.Frag} {h : Heap} {mg : Str → Option Value} {fa a_Rule a_HighRule a_LowRule a_NearRule a_SplitRule a_wrapped a_field a_with_field a_signed a_Rule___init__ a_Rule_fits a_Rule_filled a_Rule_read_back a_HighRule_filled a_HighRule_read_back a_LowRule_filled a_LowRule_read_back a_rule_of a_law_whole a_law_place_by a_law_word a_law_by_whole a_law_by_low a_law_by_high a_law_holds a_law : Addr} (X : K.In h) (G : h.Ns mainGlobals mg) (hfa : mg "law" = some (.ref fa))
    {od_wrapped an_wrapped : Option Addr} {sl_wrapped : Array (Option Value)} {oc_wrapped kV_wrapped dc_wrapped pm_wrapped cd_wrapped ct_wrapped : Value}
    {od_field an_field : Option Addr} {sl_field : Array (Option Value)} {oc_field kV_field dc_field pm_field cd_field ct_field : Value}
    {od_with_field an_with_field : Option Addr} {sl_with_field : Array (Option Value)} {oc_with_field kV_with_field dc_with_field pm_with_field cd_with_field ct_with_field : Value}
    {od_signed an_signed : Option Addr} {sl_signed : Array (Option Value)} {oc_signed kV_signed dc_signed pm_signed cd_signed ct_signed : Value}
    {od_Rule___init__ an_Rule___init__ : Option Addr} {sl_Rule___init__ : Array (Option Value)} {oc_Rule___init__ kV_Rule___init__ dc_Rule___init__ pm_Rule___init__ cd_Rule___init__ ct_Rule___init__ : Value}
    {od_Rule_fits an_Rule_fits : Option Addr} {sl_Rule_fits : Array (Option Value)} {oc_Rule_fits kV_Rule_fits dc_Rule_fits pm_Rule_fits cd_Rule_fits ct_Rule_fits : Value}
    {od_Rule_filled an_Rule_filled : Option Addr} {sl_Rule_filled : Array (Option Value)} {oc_Rule_filled kV_Rule_filled dc_Rule_filled pm_Rule_filled cd_Rule_filled ct_Rule_filled : Value}
    {od_Rule_read_back an_Rule_read_back : Option Addr} {sl_Rule_read_back : Array (Option Value)} {oc_Rule_read_back kV_Rule_read_back dc_Rule_read_back pm_Rule_read_back cd_Rule_read_back ct_Rule_read_back : Value}
    {od_HighRule_filled an_HighRule_filled : Option Addr} {sl_HighRule_filled : Array (Option Value)} {oc_HighRule_filled kV_HighRule_filled dc_HighRule_filled pm_HighRule_filled cd_HighRule_filled ct_HighRule_filled : Value}
    {od_HighRule_read_back an_HighRule_read_back : Option Addr} {sl_HighRule_read_back : Array (Option Value)} {oc_HighRule_read_back kV_HighRule_read_back dc_HighRule_read_back pm_HighRule_read_back cd_HighRule_read_back ct_HighRule_read_back : Value}
    {od_LowRule_filled an_LowRule_filled : Option Addr} {sl_LowRule_filled : Array (Option Value)} {oc_LowRule_filled kV_LowRule_filled dc_LowRule_filled pm_LowRule_filled cd_LowRule_filled ct_LowRule_filled : Value}
    {od_LowRule_read_back an_LowRule_read_back : Option Addr} {sl_LowRule_read_back : Array (Option Value)} {oc_LowRule_read_back kV_LowRule_read_back dc_LowRule_read_back pm_LowRule_read_back cd_LowRule_read_back ct_LowRule_read_back : Value}
    {od_rule_of an_rule_of : Option Addr} {sl_rule_of : Array (Option Value)} {oc_rule_of kV_rule_of dc_rule_of pm_rule_of cd_rule_of ct_rule_of : Value}
    {od_law_whole an_law_whole : Option Addr} {sl_law_whole : Array (Option Value)} {oc_law_whole kV_law_whole dc_law_whole pm_law_whole cd_law_whole ct_law_whole : Value}
    {od_law_place_by an_law_place_by : Option Addr} {sl_law_place_by : Array (Option Value)} {oc_law_place_by kV_law_place_by dc_law_place_by pm_law_place_by cd_law_place_by ct_law_place_by : Value}
    {od_law_word an_law_word : Option Addr} {sl_law_word : Array (Option Value)} {oc_law_word kV_law_word dc_law_word pm_law_word cd_law_word ct_law_word : Value}
    {od_law_by_whole an_law_by_whole : Option Addr} {sl_law_by_whole : Array (Option Value)} {oc_law_by_whole kV_law_by_whole dc_law_by_whole pm_law_by_whole cd_law_by_whole ct_law_by_whole : Value}
    {od_law_by_low an_law_by_low : Option Addr} {sl_law_by_low : Array (Option Value)} {oc_law_by_low kV_law_by_low dc_law_by_low pm_law_by_low cd_law_by_low ct_law_by_low : Value}
    {od_law_by_high an_law_by_high : Option Addr} {sl_law_by_high : Array (Option Value)} {oc_law_by_high kV_law_by_high dc_law_by_high pm_law_by_high cd_law_by_high ct_law_by_high : Value}
    {od_law_holds an_law_holds : Option Addr} {sl_law_holds : Array (Option Value)} {oc_law_holds kV_law_holds dc_law_holds pm_law_holds cd_law_holds ct_law_holds : Value}
    {od_law an_law : Option Addr} {sl_law : Array (Option Value)} {oc_law kV_law dc_law pm_law cd_law ct_law : Value}
    {t_MANY : Tok}
    (ns_Rule : PySem.W.nsIn K mainGlobals "Rule" = some (some (.ref a_Rule)))
    (ns_HighRule : PySem.W.nsIn K mainGlobals "HighRule" = some (some (.ref a_HighRule)))
    (ns_LowRule : PySem.W.nsIn K mainGlobals "LowRule" = some (some (.ref a_LowRule)))
    (ns_NearRule : PySem.W.nsIn K mainGlobals "NearRule" = some (some (.ref a_NearRule)))
    (ns_SplitRule : PySem.W.nsIn K mainGlobals "SplitRule" = some (some (.ref a_SplitRule)))
    (fi_Rule___init__ : PySem.W.findIn K (.ref a_Rule) "__init__" = some (some (.ref a_Rule___init__)))
    (fi_Rule_fits : PySem.W.findIn K (.ref a_Rule) "fits" = some (some (.ref a_Rule_fits)))
    (fi_Rule_filled : PySem.W.findIn K (.ref a_Rule) "filled" = some (some (.ref a_Rule_filled)))
    (fi_Rule_read_back : PySem.W.findIn K (.ref a_Rule) "read_back" = some (some (.ref a_Rule_read_back)))
    (fi_HighRule___init__ : PySem.W.findIn K (.ref a_HighRule) "__init__" = some (some (.ref a_Rule___init__)))
    (fi_HighRule_fits : PySem.W.findIn K (.ref a_HighRule) "fits" = some (some (.ref a_Rule_fits)))
    (fi_HighRule_filled : PySem.W.findIn K (.ref a_HighRule) "filled" = some (some (.ref a_HighRule_filled)))
    (fi_HighRule_read_back : PySem.W.findIn K (.ref a_HighRule) "read_back" = some (some (.ref a_HighRule_read_back)))
    (fi_LowRule___init__ : PySem.W.findIn K (.ref a_LowRule) "__init__" = some (some (.ref a_Rule___init__)))
    (fi_LowRule_fits : PySem.W.findIn K (.ref a_LowRule) "fits" = some (some (.ref a_Rule_fits)))
    (fi_LowRule_filled : PySem.W.findIn K (.ref a_LowRule) "filled" = some (some (.ref a_LowRule_filled)))
    (fi_LowRule_read_back : PySem.W.findIn K (.ref a_LowRule) "read_back" = some (some (.ref a_LowRule_read_back)))
    (fi_NearRule___init__ : PySem.W.findIn K (.ref a_NearRule) "__init__" = some (some (.ref a_Rule___init__)))
    (fi_SplitRule___init__ : PySem.W.findIn K (.ref a_SplitRule) "__init__" = some (some (.ref a_Rule___init__)))
    (ns_wrapped : PySem.W.nsIn K mainGlobals "wrapped" = some (some (.ref a_wrapped)))
    (ns_field : PySem.W.nsIn K mainGlobals "field" = some (some (.ref a_field)))
    (ns_with_field : PySem.W.nsIn K mainGlobals "with_field" = some (some (.ref a_with_field)))
    (ns_signed : PySem.W.nsIn K mainGlobals "signed" = some (some (.ref a_signed)))
    (ns_rule_of : PySem.W.nsIn K mainGlobals "rule_of" = some (some (.ref a_rule_of)))
    (ns_law_whole : PySem.W.nsIn K mainGlobals "_law_whole" = some (some (.ref a_law_whole)))
    (ns_law_place_by : PySem.W.nsIn K mainGlobals "_law_place_by" = some (some (.ref a_law_place_by)))
    (ns_law_word : PySem.W.nsIn K mainGlobals "_law_word" = some (some (.ref a_law_word)))
    (ns_law_by_whole : PySem.W.nsIn K mainGlobals "_law_by_whole" = some (some (.ref a_law_by_whole)))
    (ns_law_by_low : PySem.W.nsIn K mainGlobals "_law_by_low" = some (some (.ref a_law_by_low)))
    (ns_law_by_high : PySem.W.nsIn K mainGlobals "_law_by_high" = some (some (.ref a_law_by_high)))
    (ns_law_holds : PySem.W.nsIn K mainGlobals "_law_holds" = some (some (.ref a_law_holds)))
    (ns_law : PySem.W.nsIn K mainGlobals "law" = some (some (.ref a_law)))
    (lk_wrapped : K.lookup a_wrapped = some ⟨oc_wrapped, od_wrapped, .func (PySem.W.fnOf "wrapped" "wrapped" (defArgs s_wrapped) (defBody s_wrapped) (defScope s_wrapped) .none kV_wrapped dc_wrapped pm_wrapped an_wrapped cd_wrapped ct_wrapped), sl_wrapped⟩)
    (cd_is_wrapped : PySem.W.codeIn K cd_wrapped "wrapped" = true)
    (kp_wrapped : PySem.W.keepIn K (.ref a_wrapped) = true)
    (lk_field : K.lookup a_field = some ⟨oc_field, od_field, .func (PySem.W.fnOf "field" "field" (defArgs s_field) (defBody s_field) (defScope s_field) .none kV_field dc_field pm_field an_field cd_field ct_field), sl_field⟩)
    (cd_is_field : PySem.W.codeIn K cd_field "field" = true)
    (kp_field : PySem.W.keepIn K (.ref a_field) = true)
    (lk_with_field : K.lookup a_with_field = some ⟨oc_with_field, od_with_field, .func (PySem.W.fnOf "with_field" "with_field" (defArgs s_with_field) (defBody s_with_field) (defScope s_with_field) .none kV_with_field dc_with_field pm_with_field an_with_field cd_with_field ct_with_field), sl_with_field⟩)
    (cd_is_with_field : PySem.W.codeIn K cd_with_field "with_field" = true)
    (kp_with_field : PySem.W.keepIn K (.ref a_with_field) = true)
    (lk_signed : K.lookup a_signed = some ⟨oc_signed, od_signed, .func (PySem.W.fnOf "signed" "signed" (defArgs s_signed) (defBody s_signed) (defScope s_signed) .none kV_signed dc_signed pm_signed an_signed cd_signed ct_signed), sl_signed⟩)
    (cd_is_signed : PySem.W.codeIn K cd_signed "signed" = true)
    (kp_signed : PySem.W.keepIn K (.ref a_signed) = true)
    (lk_Rule___init__ : K.lookup a_Rule___init__ = some ⟨oc_Rule___init__, od_Rule___init__, .func (PySem.W.fnOf "__init__" "Rule.__init__" (defArgs s_Rule___init__) (defBody s_Rule___init__) (defScope s_Rule___init__) .none kV_Rule___init__ dc_Rule___init__ pm_Rule___init__ an_Rule___init__ cd_Rule___init__ ct_Rule___init__), sl_Rule___init__⟩)
    (cd_is_Rule___init__ : PySem.W.codeIn K cd_Rule___init__ "Rule.__init__" = true)
    (kp_Rule___init__ : PySem.W.keepIn K (.ref a_Rule___init__) = true)
    (isf_Rule___init__ : PySem.W.isFn K (.ref a_Rule___init__) = true)
    (lk_Rule_fits : K.lookup a_Rule_fits = some ⟨oc_Rule_fits, od_Rule_fits, .func (PySem.W.fnOf "fits" "Rule.fits" (defArgs s_Rule_fits) (defBody s_Rule_fits) (defScope s_Rule_fits) .none kV_Rule_fits dc_Rule_fits pm_Rule_fits an_Rule_fits cd_Rule_fits ct_Rule_fits), sl_Rule_fits⟩)
    (cd_is_Rule_fits : PySem.W.codeIn K cd_Rule_fits "Rule.fits" = true)
    (kp_Rule_fits : PySem.W.keepIn K (.ref a_Rule_fits) = true)
    (isf_Rule_fits : PySem.W.isFn K (.ref a_Rule_fits) = true)
    (lk_Rule_filled : K.lookup a_Rule_filled = some ⟨oc_Rule_filled, od_Rule_filled, .func (PySem.W.fnOf "filled" "Rule.filled" (defArgs s_Rule_filled) (defBody s_Rule_filled) (defScope s_Rule_filled) .none kV_Rule_filled dc_Rule_filled pm_Rule_filled an_Rule_filled cd_Rule_filled ct_Rule_filled), sl_Rule_filled⟩)
    (cd_is_Rule_filled : PySem.W.codeIn K cd_Rule_filled "Rule.filled" = true)
    (kp_Rule_filled : PySem.W.keepIn K (.ref a_Rule_filled) = true)
    (isf_Rule_filled : PySem.W.isFn K (.ref a_Rule_filled) = true)
    (lk_Rule_read_back : K.lookup a_Rule_read_back = some ⟨oc_Rule_read_back, od_Rule_read_back, .func (PySem.W.fnOf "read_back" "Rule.read_back" (defArgs s_Rule_read_back) (defBody s_Rule_read_back) (defScope s_Rule_read_back) .none kV_Rule_read_back dc_Rule_read_back pm_Rule_read_back an_Rule_read_back cd_Rule_read_back ct_Rule_read_back), sl_Rule_read_back⟩)
    (cd_is_Rule_read_back : PySem.W.codeIn K cd_Rule_read_back "Rule.read_back" = true)
    (kp_Rule_read_back : PySem.W.keepIn K (.ref a_Rule_read_back) = true)
    (isf_Rule_read_back : PySem.W.isFn K (.ref a_Rule_read_back) = true)
    (lk_HighRule_filled : K.lookup a_HighRule_filled = some ⟨oc_HighRule_filled, od_HighRule_filled, .func (PySem.W.fnOf "filled" "HighRule.filled" (defArgs s_HighRule_filled) (defBody s_HighRule_filled) (defScope s_HighRule_filled) .none kV_HighRule_filled dc_HighRule_filled pm_HighRule_filled an_HighRule_filled cd_HighRule_filled ct_HighRule_filled), sl_HighRule_filled⟩)
    (cd_is_HighRule_filled : PySem.W.codeIn K cd_HighRule_filled "HighRule.filled" = true)
    (kp_HighRule_filled : PySem.W.keepIn K (.ref a_HighRule_filled) = true)
    (isf_HighRule_filled : PySem.W.isFn K (.ref a_HighRule_filled) = true)
    (lk_HighRule_read_back : K.lookup a_HighRule_read_back = some ⟨oc_HighRule_read_back, od_HighRule_read_back, .func (PySem.W.fnOf "read_back" "HighRule.read_back" (defArgs s_HighRule_read_back) (defBody s_HighRule_read_back) (defScope s_HighRule_read_back) .none kV_HighRule_read_back dc_HighRule_read_back pm_HighRule_read_back an_HighRule_read_back cd_HighRule_read_back ct_HighRule_read_back), sl_HighRule_read_back⟩)
    (cd_is_HighRule_read_back : PySem.W.codeIn K cd_HighRule_read_back "HighRule.read_back" = true)
    (kp_HighRule_read_back : PySem.W.keepIn K (.ref a_HighRule_read_back) = true)
    (isf_HighRule_read_back : PySem.W.isFn K (.ref a_HighRule_read_back) = true)
    (lk_LowRule_filled : K.lookup a_LowRule_filled = some ⟨oc_LowRule_filled, od_LowRule_filled, .func (PySem.W.fnOf "filled" "LowRule.filled" (defArgs s_LowRule_filled) (defBody s_LowRule_filled) (defScope s_LowRule_filled) .none kV_LowRule_filled dc_LowRule_filled pm_LowRule_filled an_LowRule_filled cd_LowRule_filled ct_LowRule_filled), sl_LowRule_filled⟩)
    (cd_is_LowRule_filled : PySem.W.codeIn K cd_LowRule_filled "LowRule.filled" = true)
    (kp_LowRule_filled : PySem.W.keepIn K (.ref a_LowRule_filled) = true)
    (isf_LowRule_filled : PySem.W.isFn K (.ref a_LowRule_filled) = true)
    (lk_LowRule_read_back : K.lookup a_LowRule_read_back = some ⟨oc_LowRule_read_back, od_LowRule_read_back, .func (PySem.W.fnOf "read_back" "LowRule.read_back" (defArgs s_LowRule_read_back) (defBody s_LowRule_read_back) (defScope s_LowRule_read_back) .none kV_LowRule_read_back dc_LowRule_read_back pm_LowRule_read_back an_LowRule_read_back cd_LowRule_read_back ct_LowRule_read_back), sl_LowRule_read_back⟩)
    (cd_is_LowRule_read_back : PySem.W.codeIn K cd_LowRule_read_back "LowRule.read_back" = true)
    (kp_LowRule_read_back : PySem.W.keepIn K (.ref a_LowRule_read_back) = true)
    (isf_LowRule_read_back : PySem.W.isFn K (.ref a_LowRule_read_back) = true)
    (lk_rule_of : K.lookup a_rule_of = some ⟨oc_rule_of, od_rule_of, .func (PySem.W.fnOf "rule_of" "rule_of" (defArgs s_rule_of) (defBody s_rule_of) (defScope s_rule_of) .none kV_rule_of dc_rule_of pm_rule_of an_rule_of cd_rule_of ct_rule_of), sl_rule_of⟩)
    (cd_is_rule_of : PySem.W.codeIn K cd_rule_of "rule_of" = true)
    (kp_rule_of : PySem.W.keepIn K (.ref a_rule_of) = true)
    (lk_law_whole : K.lookup a_law_whole = some ⟨oc_law_whole, od_law_whole, .func (PySem.W.fnOf "_law_whole" "_law_whole" (defArgs s_law_whole) (defBody s_law_whole) (defScope s_law_whole) .none kV_law_whole dc_law_whole pm_law_whole an_law_whole cd_law_whole ct_law_whole), sl_law_whole⟩)
    (cd_is_law_whole : PySem.W.codeIn K cd_law_whole "_law_whole" = true)
    (kp_law_whole : PySem.W.keepIn K (.ref a_law_whole) = true)
    (lk_law_place_by : K.lookup a_law_place_by = some ⟨oc_law_place_by, od_law_place_by, .func (PySem.W.fnOf "_law_place_by" "_law_place_by" (defArgs s_law_place_by) (defBody s_law_place_by) (defScope s_law_place_by) .none kV_law_place_by dc_law_place_by pm_law_place_by an_law_place_by cd_law_place_by ct_law_place_by), sl_law_place_by⟩)
    (cd_is_law_place_by : PySem.W.codeIn K cd_law_place_by "_law_place_by" = true)
    (kp_law_place_by : PySem.W.keepIn K (.ref a_law_place_by) = true)
    (lk_law_word : K.lookup a_law_word = some ⟨oc_law_word, od_law_word, .func (PySem.W.fnOf "_law_word" "_law_word" (defArgs s_law_word) (defBody s_law_word) (defScope s_law_word) .none kV_law_word dc_law_word pm_law_word an_law_word cd_law_word ct_law_word), sl_law_word⟩)
    (cd_is_law_word : PySem.W.codeIn K cd_law_word "_law_word" = true)
    (kp_law_word : PySem.W.keepIn K (.ref a_law_word) = true)
    (lk_law_by_whole : K.lookup a_law_by_whole = some ⟨oc_law_by_whole, od_law_by_whole, .func (PySem.W.fnOf "_law_by_whole" "_law_by_whole" (defArgs s_law_by_whole) (defBody s_law_by_whole) (defScope s_law_by_whole) .none kV_law_by_whole dc_law_by_whole pm_law_by_whole an_law_by_whole cd_law_by_whole ct_law_by_whole), sl_law_by_whole⟩)
    (cd_is_law_by_whole : PySem.W.codeIn K cd_law_by_whole "_law_by_whole" = true)
    (kp_law_by_whole : PySem.W.keepIn K (.ref a_law_by_whole) = true)
    (lk_law_by_low : K.lookup a_law_by_low = some ⟨oc_law_by_low, od_law_by_low, .func (PySem.W.fnOf "_law_by_low" "_law_by_low" (defArgs s_law_by_low) (defBody s_law_by_low) (defScope s_law_by_low) .none kV_law_by_low dc_law_by_low pm_law_by_low an_law_by_low cd_law_by_low ct_law_by_low), sl_law_by_low⟩)
    (cd_is_law_by_low : PySem.W.codeIn K cd_law_by_low "_law_by_low" = true)
    (kp_law_by_low : PySem.W.keepIn K (.ref a_law_by_low) = true)
    (lk_law_by_high : K.lookup a_law_by_high = some ⟨oc_law_by_high, od_law_by_high, .func (PySem.W.fnOf "_law_by_high" "_law_by_high" (defArgs s_law_by_high) (defBody s_law_by_high) (defScope s_law_by_high) .none kV_law_by_high dc_law_by_high pm_law_by_high an_law_by_high cd_law_by_high ct_law_by_high), sl_law_by_high⟩)
    (cd_is_law_by_high : PySem.W.codeIn K cd_law_by_high "_law_by_high" = true)
    (kp_law_by_high : PySem.W.keepIn K (.ref a_law_by_high) = true)
    (lk_law_holds : K.lookup a_law_holds = some ⟨oc_law_holds, od_law_holds, .func (PySem.W.fnOf "_law_holds" "_law_holds" (defArgs s_law_holds) (defBody s_law_holds) (defScope s_law_holds) .none kV_law_holds dc_law_holds pm_law_holds an_law_holds cd_law_holds ct_law_holds), sl_law_holds⟩)
    (cd_is_law_holds : PySem.W.codeIn K cd_law_holds "_law_holds" = true)
    (kp_law_holds : PySem.W.keepIn K (.ref a_law_holds) = true)
    (lk_law : K.lookup a_law = some ⟨oc_law, od_law, .func (PySem.W.fnOf "law" "law" (defArgs s_law) (defBody s_law) (defScope s_law) .none kV_law dc_law pm_law an_law cd_law ct_law), sl_law⟩)
    (cd_is_law : PySem.W.codeIn K cd_law "law" = true)
    (kp_law : PySem.W.keepIn K (.ref a_law) = true)
    (pg_Rule : PySem.W.plainGet K a_Rule Str.empty = true)
    (hd_Rule : PySem.W.hasDictIn K a_Rule = true)
    (po_Rule : PySem.W.plainOver K a_Rule = true)
    (sa_Rule : PySem.W.findIn K (.ref a_Rule) "__setattr__" = some (some (.builtin "object.__setattr__")))
    (mkk_Rule : PySem.W.makesIn K a_Rule = true)
    (kpc_Rule : PySem.W.keepIn K (.ref a_Rule) = true)
    (nat_Rule_title : PySem.W.findIn K (.ref a_Rule) "title" = some none)
    (pg_HighRule : PySem.W.plainGet K a_HighRule Str.empty = true)
    (hd_HighRule : PySem.W.hasDictIn K a_HighRule = true)
    (po_HighRule : PySem.W.plainOver K a_HighRule = true)
    (sa_HighRule : PySem.W.findIn K (.ref a_HighRule) "__setattr__" = some (some (.builtin "object.__setattr__")))
    (mkk_HighRule : PySem.W.makesIn K a_HighRule = true)
    (kpc_HighRule : PySem.W.keepIn K (.ref a_HighRule) = true)
    (nat_HighRule_title : PySem.W.findIn K (.ref a_HighRule) "title" = some none)
    (pg_LowRule : PySem.W.plainGet K a_LowRule Str.empty = true)
    (hd_LowRule : PySem.W.hasDictIn K a_LowRule = true)
    (po_LowRule : PySem.W.plainOver K a_LowRule = true)
    (sa_LowRule : PySem.W.findIn K (.ref a_LowRule) "__setattr__" = some (some (.builtin "object.__setattr__")))
    (mkk_LowRule : PySem.W.makesIn K a_LowRule = true)
    (kpc_LowRule : PySem.W.keepIn K (.ref a_LowRule) = true)
    (nat_LowRule_title : PySem.W.findIn K (.ref a_LowRule) "title" = some none)
    (pg_NearRule : PySem.W.plainGet K a_NearRule Str.empty = true)
    (hd_NearRule : PySem.W.hasDictIn K a_NearRule = true)
    (po_NearRule : PySem.W.plainOver K a_NearRule = true)
    (sa_NearRule : PySem.W.findIn K (.ref a_NearRule) "__setattr__" = some (some (.builtin "object.__setattr__")))
    (mkk_NearRule : PySem.W.makesIn K a_NearRule = true)
    (kpc_NearRule : PySem.W.keepIn K (.ref a_NearRule) = true)
    (nat_NearRule_title : PySem.W.findIn K (.ref a_NearRule) "title" = some none)
    (pg_SplitRule : PySem.W.plainGet K a_SplitRule Str.empty = true)
    (hd_SplitRule : PySem.W.hasDictIn K a_SplitRule = true)
    (po_SplitRule : PySem.W.plainOver K a_SplitRule = true)
    (sa_SplitRule : PySem.W.findIn K (.ref a_SplitRule) "__setattr__" = some (some (.builtin "object.__setattr__")))
    (mkk_SplitRule : PySem.W.makesIn K a_SplitRule = true)
    (kpc_SplitRule : PySem.W.keepIn K (.ref a_SplitRule) = true)
    (nat_SplitRule_title : PySem.W.findIn K (.ref a_SplitRule) "title" = some none)
    (ns_MANY : PySem.W.nsIn K mainGlobals "MANY" = some (some (.int 4294967296 t_MANY)))
    (ns_bool : PySem.W.nsIn K mainGlobals "bool" = some none)
    (ns_int : PySem.W.nsIn K mainGlobals "int" = some none)
    (ns_isinstance : PySem.W.nsIn K mainGlobals "isinstance" = some none)
    (ns_len : PySem.W.nsIn K mainGlobals "len" = some none)
    (ns_range : PySem.W.nsIn K mainGlobals "range" = some none)
    : ∃ fd : FuncData, (∀ (s : Shared) (v : Value), BindsTo s fd ⟨[v], []⟩ [("_law_script", v)]) ∧ ∀ base : Heap, K.In base → base.Ns mainGlobals mg → FnOk l.prog w K mg base CX0 6 fa fd ["_law_script"] (sp_law K) := by
  have e := hfa.symm.trans (PySem.W.mg_of X G ns_law)
  cases e
  exact ⟨_, fun s v => .of_eq rfl, fun base _ _ => ok_law (P := l.prog) (w := w) (base := base) (T := {
    a_wrapped := _, d_wrapped := _, F_wrapped := fun_mk (st := s_wrapped) lk_wrapped cd_is_wrapped kp_wrapped,
    m_wrapped := PySem.W.mg_of X G ns_wrapped,
    b_wrapped := (fun_mk (st := s_wrapped) lk_wrapped cd_is_wrapped kp_wrapped).binds (ps := ["number"]) fun _ _ _ _ _ _ us hl => match us, hl with | [_], _ => rfl,
    a_field := _, d_field := _, F_field := fun_mk (st := s_field) lk_field cd_is_field kp_field,
    m_field := PySem.W.mg_of X G ns_field,
    b_field := (fun_mk (st := s_field) lk_field cd_is_field kp_field).binds (ps := ["word", "low", "many"]) fun _ _ _ _ _ _ us hl => match us, hl with | [_, _, _], _ => rfl,
    a_with_field := _, d_with_field := _, F_with_field := fun_mk (st := s_with_field) lk_with_field cd_is_with_field kp_with_field,
    m_with_field := PySem.W.mg_of X G ns_with_field,
    b_with_field := (fun_mk (st := s_with_field) lk_with_field cd_is_with_field kp_with_field).binds (ps := ["word", "low", "many", "number"]) fun _ _ _ _ _ _ us hl => match us, hl with | [_, _, _, _], _ => rfl,
    a_signed := _, d_signed := _, F_signed := fun_mk (st := s_signed) lk_signed cd_is_signed kp_signed,
    m_signed := PySem.W.mg_of X G ns_signed,
    b_signed := (fun_mk (st := s_signed) lk_signed cd_is_signed kp_signed).binds (ps := ["number", "many"]) fun _ _ _ _ _ _ us hl => match us, hl with | [_, _], _ => rfl,
    a_Rule___init__ := _, d_Rule___init__ := _, F_Rule___init__ := fun_mk (st := s_Rule___init__) lk_Rule___init__ cd_is_Rule___init__ kp_Rule___init__,
    b_Rule___init__ := (fun_mk (st := s_Rule___init__) lk_Rule___init__ cd_is_Rule___init__ kp_Rule___init__).binds (ps := ["self", "title"]) fun _ _ _ _ _ _ us hl => match us, hl with | [_, _], _ => rfl,
    a_Rule_fits := _, d_Rule_fits := _, F_Rule_fits := fun_mk (st := s_Rule_fits) lk_Rule_fits cd_is_Rule_fits kp_Rule_fits,
    b_Rule_fits := (fun_mk (st := s_Rule_fits) lk_Rule_fits cd_is_Rule_fits kp_Rule_fits).binds (ps := ["self", "here", "there"]) fun _ _ _ _ _ _ us hl => match us, hl with | [_, _, _], _ => rfl,
    a_Rule_filled := _, d_Rule_filled := _, F_Rule_filled := fun_mk (st := s_Rule_filled) lk_Rule_filled cd_is_Rule_filled kp_Rule_filled,
    b_Rule_filled := (fun_mk (st := s_Rule_filled) lk_Rule_filled cd_is_Rule_filled kp_Rule_filled).binds (ps := ["self", "word", "here", "there"]) fun _ _ _ _ _ _ us hl => match us, hl with | [_, _, _, _], _ => rfl,
    a_Rule_read_back := _, d_Rule_read_back := _, F_Rule_read_back := fun_mk (st := s_Rule_read_back) lk_Rule_read_back cd_is_Rule_read_back kp_Rule_read_back,
    b_Rule_read_back := (fun_mk (st := s_Rule_read_back) lk_Rule_read_back cd_is_Rule_read_back kp_Rule_read_back).binds (ps := ["self", "word", "here"]) fun _ _ _ _ _ _ us hl => match us, hl with | [_, _, _], _ => rfl,
    a_HighRule_filled := _, d_HighRule_filled := _, F_HighRule_filled := fun_mk (st := s_HighRule_filled) lk_HighRule_filled cd_is_HighRule_filled kp_HighRule_filled,
    b_HighRule_filled := (fun_mk (st := s_HighRule_filled) lk_HighRule_filled cd_is_HighRule_filled kp_HighRule_filled).binds (ps := ["self", "word", "here", "there"]) fun _ _ _ _ _ _ us hl => match us, hl with | [_, _, _, _], _ => rfl,
    a_HighRule_read_back := _, d_HighRule_read_back := _, F_HighRule_read_back := fun_mk (st := s_HighRule_read_back) lk_HighRule_read_back cd_is_HighRule_read_back kp_HighRule_read_back,
    b_HighRule_read_back := (fun_mk (st := s_HighRule_read_back) lk_HighRule_read_back cd_is_HighRule_read_back kp_HighRule_read_back).binds (ps := ["self", "word", "here"]) fun _ _ _ _ _ _ us hl => match us, hl with | [_, _, _], _ => rfl,
    a_LowRule_filled := _, d_LowRule_filled := _, F_LowRule_filled := fun_mk (st := s_LowRule_filled) lk_LowRule_filled cd_is_LowRule_filled kp_LowRule_filled,
    b_LowRule_filled := (fun_mk (st := s_LowRule_filled) lk_LowRule_filled cd_is_LowRule_filled kp_LowRule_filled).binds (ps := ["self", "word", "here", "there"]) fun _ _ _ _ _ _ us hl => match us, hl with | [_, _, _, _], _ => rfl,
    a_LowRule_read_back := _, d_LowRule_read_back := _, F_LowRule_read_back := fun_mk (st := s_LowRule_read_back) lk_LowRule_read_back cd_is_LowRule_read_back kp_LowRule_read_back,
    b_LowRule_read_back := (fun_mk (st := s_LowRule_read_back) lk_LowRule_read_back cd_is_LowRule_read_back kp_LowRule_read_back).binds (ps := ["self", "word", "here"]) fun _ _ _ _ _ _ us hl => match us, hl with | [_, _, _], _ => rfl,
    a_rule_of := _, d_rule_of := _, F_rule_of := fun_mk (st := s_rule_of) lk_rule_of cd_is_rule_of kp_rule_of,
    m_rule_of := PySem.W.mg_of X G ns_rule_of,
    b_rule_of := (fun_mk (st := s_rule_of) lk_rule_of cd_is_rule_of kp_rule_of).binds (ps := ["title"]) fun _ _ _ _ _ _ us hl => match us, hl with | [_], _ => rfl,
    a_law_whole := _, d_law_whole := _, F_law_whole := fun_mk (st := s_law_whole) lk_law_whole cd_is_law_whole kp_law_whole,
    m_law_whole := PySem.W.mg_of X G ns_law_whole,
    b_law_whole := (fun_mk (st := s_law_whole) lk_law_whole cd_is_law_whole kp_law_whole).binds (ps := ["_law_found"]) fun _ _ _ _ _ _ us hl => match us, hl with | [_], _ => rfl,
    a_law_place_by := _, d_law_place_by := _, F_law_place_by := fun_mk (st := s_law_place_by) lk_law_place_by cd_is_law_place_by kp_law_place_by,
    m_law_place_by := PySem.W.mg_of X G ns_law_place_by,
    b_law_place_by := (fun_mk (st := s_law_place_by) lk_law_place_by cd_is_law_place_by kp_law_place_by).binds (ps := ["_law_cell"]) fun _ _ _ _ _ _ us hl => match us, hl with | [_], _ => rfl,
    a_law_word := _, d_law_word := _, F_law_word := fun_mk (st := s_law_word) lk_law_word cd_is_law_word kp_law_word,
    m_law_word := PySem.W.mg_of X G ns_law_word,
    b_law_word := (fun_mk (st := s_law_word) lk_law_word cd_is_law_word kp_law_word).binds (ps := ["_law_found"]) fun _ _ _ _ _ _ us hl => match us, hl with | [_], _ => rfl,
    a_law_by_whole := _, d_law_by_whole := _, F_law_by_whole := fun_mk (st := s_law_by_whole) lk_law_by_whole cd_is_law_by_whole kp_law_by_whole,
    m_law_by_whole := PySem.W.mg_of X G ns_law_by_whole,
    b_law_by_whole := (fun_mk (st := s_law_by_whole) lk_law_by_whole cd_is_law_by_whole kp_law_by_whole).binds (ps := ["_law_word_here", "_law_here", "_law_there"]) fun _ _ _ _ _ _ us hl => match us, hl with | [_, _, _], _ => rfl,
    a_law_by_low := _, d_law_by_low := _, F_law_by_low := fun_mk (st := s_law_by_low) lk_law_by_low cd_is_law_by_low kp_law_by_low,
    m_law_by_low := PySem.W.mg_of X G ns_law_by_low,
    b_law_by_low := (fun_mk (st := s_law_by_low) lk_law_by_low cd_is_law_by_low kp_law_by_low).binds (ps := ["_law_word_here", "_law_here", "_law_there"]) fun _ _ _ _ _ _ us hl => match us, hl with | [_, _, _], _ => rfl,
    a_law_by_high := _, d_law_by_high := _, F_law_by_high := fun_mk (st := s_law_by_high) lk_law_by_high cd_is_law_by_high kp_law_by_high,
    m_law_by_high := PySem.W.mg_of X G ns_law_by_high,
    b_law_by_high := (fun_mk (st := s_law_by_high) lk_law_by_high cd_is_law_by_high kp_law_by_high).binds (ps := ["_law_word_here", "_law_here", "_law_there"]) fun _ _ _ _ _ _ us hl => match us, hl with | [_, _, _], _ => rfl,
    a_law_holds := _, d_law_holds := _, F_law_holds := fun_mk (st := s_law_holds) lk_law_holds cd_is_law_holds kp_law_holds,
    m_law_holds := PySem.W.mg_of X G ns_law_holds,
    b_law_holds := (fun_mk (st := s_law_holds) lk_law_holds cd_is_law_holds kp_law_holds).binds (ps := ["_law_cell", "_law_other"]) fun _ _ _ _ _ _ us hl => match us, hl with | [_, _], _ => rfl,
    a_law := _, d_law := _, F_law := fun_mk (st := s_law) lk_law cd_is_law kp_law,
    m_law := PySem.W.mg_of X G ns_law,
    b_law := (fun_mk (st := s_law) lk_law cd_is_law kp_law).binds (ps := ["_law_script"]) fun _ _ _ _ _ _ us hl => match us, hl with | [_], _ => rfl,
    a_Rule := _, c_Rule := ⟨pg_Rule, hd_Rule, po_Rule, sa_Rule⟩, g_Rule := PySem.W.mg_of X G ns_Rule,
    k_Rule := ⟨mkk_Rule, fi_Rule___init__, isf_Rule___init__, kpc_Rule⟩,
    na_Rule_title := nat_Rule_title,
    me_Rule_fits := ⟨fi_Rule_fits, isf_Rule_fits, kp_Rule_fits⟩,
    me_Rule_filled := ⟨fi_Rule_filled, isf_Rule_filled, kp_Rule_filled⟩,
    me_Rule_read_back := ⟨fi_Rule_read_back, isf_Rule_read_back, kp_Rule_read_back⟩,
    a_HighRule := _, c_HighRule := ⟨pg_HighRule, hd_HighRule, po_HighRule, sa_HighRule⟩, g_HighRule := PySem.W.mg_of X G ns_HighRule,
    k_HighRule := ⟨mkk_HighRule, fi_HighRule___init__, isf_Rule___init__, kpc_HighRule⟩,
    na_HighRule_title := nat_HighRule_title,
    me_HighRule_fits := ⟨fi_HighRule_fits, isf_Rule_fits, kp_Rule_fits⟩,
    me_HighRule_filled := ⟨fi_HighRule_filled, isf_HighRule_filled, kp_HighRule_filled⟩,
    me_HighRule_read_back := ⟨fi_HighRule_read_back, isf_HighRule_read_back, kp_HighRule_read_back⟩,
    a_LowRule := _, c_LowRule := ⟨pg_LowRule, hd_LowRule, po_LowRule, sa_LowRule⟩, g_LowRule := PySem.W.mg_of X G ns_LowRule,
    k_LowRule := ⟨mkk_LowRule, fi_LowRule___init__, isf_Rule___init__, kpc_LowRule⟩,
    na_LowRule_title := nat_LowRule_title,
    me_LowRule_fits := ⟨fi_LowRule_fits, isf_Rule_fits, kp_Rule_fits⟩,
    me_LowRule_filled := ⟨fi_LowRule_filled, isf_LowRule_filled, kp_LowRule_filled⟩,
    me_LowRule_read_back := ⟨fi_LowRule_read_back, isf_LowRule_read_back, kp_LowRule_read_back⟩,
    a_NearRule := _, c_NearRule := ⟨pg_NearRule, hd_NearRule, po_NearRule, sa_NearRule⟩, g_NearRule := PySem.W.mg_of X G ns_NearRule,
    k_NearRule := ⟨mkk_NearRule, fi_NearRule___init__, isf_Rule___init__, kpc_NearRule⟩,
    na_NearRule_title := nat_NearRule_title,
    a_SplitRule := _, c_SplitRule := ⟨pg_SplitRule, hd_SplitRule, po_SplitRule, sa_SplitRule⟩, g_SplitRule := PySem.W.mg_of X G ns_SplitRule,
    k_SplitRule := ⟨mkk_SplitRule, fi_SplitRule___init__, isf_Rule___init__, kpc_SplitRule⟩,
    na_SplitRule_title := nat_SplitRule_title,
    t_MANY := t_MANY, g_MANY := PySem.W.mg_of X G ns_MANY,
    n_bool := PySem.W.mg_none_of X G ns_bool,
    n_int := PySem.W.mg_none_of X G ns_int,
    n_isinstance := PySem.W.mg_none_of X G ns_isinstance,
    n_len := PySem.W.mg_none_of X G ns_len,
    n_range := PySem.W.mg_none_of X G ns_range })⟩
theorem walk {l : PySem.W.OpenLaw} {q : Program} {loose : List Str} {XP : (Str → Option Value) → Heap → Prop} {YP : World → Heap → Prop} {d : DefRec} {K : Params → PySem.W.Frag} (hn : l.most = some 63) (hdf : d.params.defaults = [])
    (hY : ∀ (w : World) (h : Heap), YP w h → (K w.params).In h)
    (F : ∀ (w : World) (mg : Str → Option Value) (fa : Addr) (h : Heap), (K w.params).In h → h.Ns mainGlobals mg → mg d.name = some (.ref fa) →
      ∃ fd : FuncData, (∀ (s : Shared) (u : Value), BindsTo s fd ⟨[u], []⟩ [("_law_script", u)]) ∧ ∀ base : Heap, (K w.params).In base → base.Ns mainGlobals mg → FnOk l.prog w (K w.params) mg base CX0 6 fa fd ["_law_script"] (sp_law (K w.params))) :
    PySem.W.WalkO q loose XP YP l.row.toRowW d [] (fun f vs => PySem.call f vs) :=
  L2.walk_of (n := 63) (k := 6) (x := "_law_script") (CX := fun _ => CX0) (sp := fun w => sp_law (K w.params)) hn (by decide) hdf ⟨rfl, by decide, by decide⟩ hY F (fun _ _ a ns hl _ hS => ⟨a, ns, rfl, hS, hl, fun _ => rfl⟩) fun _ _ _ _ _ z => z
end Jw
open PySem PySem.W PyProof.Rows
set_option maxRecDepth 100000 in
set_option maxHeartbeats 0 in
theorem PySem.Challenge.cw_joinload_k05_filled_by_halves_holds : PySem.Challenge.rw_joinload_k05_filled_by_halves.Holds := by
  w_on; o_law; k_head; (case hw => w_witness2)
  k_fill
  refine Jw.walk (l := PySem.Challenge.rw_joinload_k05_filled_by_halves) rfl rfl (fun w h Y => PySem.W.kIn_of Y) ?F
  case F =>
    intro w mg fa h KX G hmg
    refine' Jw.all_mk KX G hmg ?ns_Rule ?ns_HighRule ?ns_LowRule ?ns_NearRule ?ns_SplitRule ?fi_Rule___init__ ?fi_Rule_fits ?fi_Rule_filled ?fi_Rule_read_back ?fi_HighRule___init__ ?fi_HighRule_fits ?fi_HighRule_filled ?fi_HighRule_read_back ?fi_LowRule___init__ ?fi_LowRule_fits ?fi_LowRule_filled ?fi_LowRule_read_back ?fi_NearRule___init__ ?fi_SplitRule___init__ ?ns_wrapped ?ns_field ?ns_with_field ?ns_signed ?ns_rule_of ?ns_law_whole ?ns_law_place_by ?ns_law_word ?ns_law_by_whole ?ns_law_by_low ?ns_law_by_high ?ns_law_holds ?ns_law ?lk_wrapped ?cd_is_wrapped ?kp_wrapped ?lk_field ?cd_is_field ?kp_field ?lk_with_field ?cd_is_with_field ?kp_with_field ?lk_signed ?cd_is_signed ?kp_signed ?lk_Rule___init__ ?cd_is_Rule___init__ ?kp_Rule___init__ ?isf_Rule___init__ ?lk_Rule_fits ?cd_is_Rule_fits ?kp_Rule_fits ?isf_Rule_fits ?lk_Rule_filled ?cd_is_Rule_filled ?kp_Rule_filled ?isf_Rule_filled ?lk_Rule_read_back ?cd_is_Rule_read_back ?kp_Rule_read_back ?isf_Rule_read_back ?lk_HighRule_filled ?cd_is_HighRule_filled ?kp_HighRule_filled ?isf_HighRule_filled ?lk_HighRule_read_back ?cd_is_HighRule_read_back ?kp_HighRule_read_back ?isf_HighRule_read_back ?lk_LowRule_filled ?cd_is_LowRule_filled ?kp_LowRule_filled ?isf_LowRule_filled ?lk_LowRule_read_back ?cd_is_LowRule_read_back ?kp_LowRule_read_back ?isf_LowRule_read_back ?lk_rule_of ?cd_is_rule_of ?kp_rule_of ?lk_law_whole ?cd_is_law_whole ?kp_law_whole ?lk_law_place_by ?cd_is_law_place_by ?kp_law_place_by ?lk_law_word ?cd_is_law_word ?kp_law_word ?lk_law_by_whole ?cd_is_law_by_whole ?kp_law_by_whole ?lk_law_by_low ?cd_is_law_by_low ?kp_law_by_low ?lk_law_by_high ?cd_is_law_by_high ?kp_law_by_high ?lk_law_holds ?cd_is_law_holds ?kp_law_holds ?lk_law ?cd_is_law ?kp_law ?pg_Rule ?hd_Rule ?po_Rule ?sa_Rule ?mkk_Rule ?kpc_Rule ?nat_Rule_title ?pg_HighRule ?hd_HighRule ?po_HighRule ?sa_HighRule ?mkk_HighRule ?kpc_HighRule ?nat_HighRule_title ?pg_LowRule ?hd_LowRule ?po_LowRule ?sa_LowRule ?mkk_LowRule ?kpc_LowRule ?nat_LowRule_title ?pg_NearRule ?hd_NearRule ?po_NearRule ?sa_NearRule ?mkk_NearRule ?kpc_NearRule ?nat_NearRule_title ?pg_SplitRule ?hd_SplitRule ?po_SplitRule ?sa_SplitRule ?mkk_SplitRule ?kpc_SplitRule ?nat_SplitRule_title ?ns_MANY ?ns_bool ?ns_int ?ns_isinstance ?ns_len ?ns_range
    (case ns_Rule => k_is)
    (case ns_HighRule => k_is)
    (case ns_LowRule => k_is)
    (case ns_NearRule => k_is)
    (case ns_SplitRule => k_is)
    (case fi_Rule___init__ => k_is)
    (case fi_Rule_fits => k_is)
    (case fi_Rule_filled => k_is)
    (case fi_Rule_read_back => k_is)
    (case fi_HighRule___init__ => k_is)
    (case fi_HighRule_fits => k_is)
    (case fi_HighRule_filled => k_is)
    (case fi_HighRule_read_back => k_is)
    (case fi_LowRule___init__ => k_is)
    (case fi_LowRule_fits => k_is)
    (case fi_LowRule_filled => k_is)
    (case fi_LowRule_read_back => k_is)
    (case fi_NearRule___init__ => k_is)
    (case fi_SplitRule___init__ => k_is)
    (case ns_wrapped => k_is)
    (case ns_field => k_is)
    (case ns_with_field => k_is)
    (case ns_signed => k_is)
    (case ns_rule_of => k_is)
    (case ns_law_whole => k_is)
    (case ns_law_place_by => k_is)
    (case ns_law_word => k_is)
    (case ns_law_by_whole => k_is)
    (case ns_law_by_low => k_is)
    (case ns_law_by_high => k_is)
    (case ns_law_holds => k_is)
    (case ns_law => k_is)
    (case lk_wrapped => k_is)
    (case cd_is_wrapped => k_is)
    (case kp_wrapped => k_is)
    (case lk_field => k_is)
    (case cd_is_field => k_is)
    (case kp_field => k_is)
    (case lk_with_field => k_is)
    (case cd_is_with_field => k_is)
    (case kp_with_field => k_is)
    (case lk_signed => k_is)
    (case cd_is_signed => k_is)
    (case kp_signed => k_is)
    (case lk_Rule___init__ => k_is)
    (case cd_is_Rule___init__ => k_is)
    (case kp_Rule___init__ => k_is)
    (case isf_Rule___init__ => k_is)
    (case lk_Rule_fits => k_is)
    (case cd_is_Rule_fits => k_is)
    (case kp_Rule_fits => k_is)
    (case isf_Rule_fits => k_is)
    (case lk_Rule_filled => k_is)
    (case cd_is_Rule_filled => k_is)
    (case kp_Rule_filled => k_is)
    (case isf_Rule_filled => k_is)
    (case lk_Rule_read_back => k_is)
    (case cd_is_Rule_read_back => k_is)
    (case kp_Rule_read_back => k_is)
    (case isf_Rule_read_back => k_is)
    (case lk_HighRule_filled => k_is)
    (case cd_is_HighRule_filled => k_is)
    (case kp_HighRule_filled => k_is)
    (case isf_HighRule_filled => k_is)
    (case lk_HighRule_read_back => k_is)
    (case cd_is_HighRule_read_back => k_is)
    (case kp_HighRule_read_back => k_is)
    (case isf_HighRule_read_back => k_is)
    (case lk_LowRule_filled => k_is)
    (case cd_is_LowRule_filled => k_is)
    (case kp_LowRule_filled => k_is)
    (case isf_LowRule_filled => k_is)
    (case lk_LowRule_read_back => k_is)
    (case cd_is_LowRule_read_back => k_is)
    (case kp_LowRule_read_back => k_is)
    (case isf_LowRule_read_back => k_is)
    (case lk_rule_of => k_is)
    (case cd_is_rule_of => k_is)
    (case kp_rule_of => k_is)
    (case lk_law_whole => k_is)
    (case cd_is_law_whole => k_is)
    (case kp_law_whole => k_is)
    (case lk_law_place_by => k_is)
    (case cd_is_law_place_by => k_is)
    (case kp_law_place_by => k_is)
    (case lk_law_word => k_is)
    (case cd_is_law_word => k_is)
    (case kp_law_word => k_is)
    (case lk_law_by_whole => k_is)
    (case cd_is_law_by_whole => k_is)
    (case kp_law_by_whole => k_is)
    (case lk_law_by_low => k_is)
    (case cd_is_law_by_low => k_is)
    (case kp_law_by_low => k_is)
    (case lk_law_by_high => k_is)
    (case cd_is_law_by_high => k_is)
    (case kp_law_by_high => k_is)
    (case lk_law_holds => k_is)
    (case cd_is_law_holds => k_is)
    (case kp_law_holds => k_is)
    (case lk_law => k_is)
    (case cd_is_law => k_is)
    (case kp_law => k_is)
    (case pg_Rule => k_is)
    (case hd_Rule => k_is)
    (case po_Rule => k_is)
    (case sa_Rule => k_is)
    (case mkk_Rule => k_is)
    (case kpc_Rule => k_is)
    (case nat_Rule_title => k_is)
    (case pg_HighRule => k_is)
    (case hd_HighRule => k_is)
    (case po_HighRule => k_is)
    (case sa_HighRule => k_is)
    (case mkk_HighRule => k_is)
    (case kpc_HighRule => k_is)
    (case nat_HighRule_title => k_is)
    (case pg_LowRule => k_is)
    (case hd_LowRule => k_is)
    (case po_LowRule => k_is)
    (case sa_LowRule => k_is)
    (case mkk_LowRule => k_is)
    (case kpc_LowRule => k_is)
    (case nat_LowRule_title => k_is)
    (case pg_NearRule => k_is)
    (case hd_NearRule => k_is)
    (case po_NearRule => k_is)
    (case sa_NearRule => k_is)
    (case mkk_NearRule => k_is)
    (case kpc_NearRule => k_is)
    (case nat_NearRule_title => k_is)
    (case pg_SplitRule => k_is)
    (case hd_SplitRule => k_is)
    (case po_SplitRule => k_is)
    (case sa_SplitRule => k_is)
    (case mkk_SplitRule => k_is)
    (case kpc_SplitRule => k_is)
    (case nat_SplitRule_title => k_is)
    (case ns_MANY => k_is)
    (case ns_bool => k_is)
    (case ns_int => k_is)
    (case ns_isinstance => k_is)
    (case ns_len => k_is)
    (case ns_range => k_is)
