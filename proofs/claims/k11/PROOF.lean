import PyProof.Rows.All
import Wide.All
import OpenK.AllK
import Wide.FinOn
import HandS.ForMost
import HandS.IsInst
import HandS.Wide
import HandS.WideBits
import HandS.Style
import HandS.Replace
import KE.IntTextLaws
import PyProof.StrOps2
import PySem.Challenge.RW_joinload_k11_numbers_known
set_option Elab.async false
set_option linter.all false
set_option maxRecDepth 100000
set_option maxHeartbeats 4000000
set_option maxHeartbeats 4000000
/-! Bits of whole numbers of any size: & and ^ by halves; a field put in. -/
namespace Jl
open PySem PyProof.Rows
theorem nat_and_rec (a b : Nat) : (a &&& b) = 2 * (a / 2 &&& b / 2) + (if a % 2 = 1 ∧ b % 2 = 1 then 1 else 0) := by
  have e : (a &&& b) / 2 = a / 2 &&& b / 2 := Nat.and_div_two
  have o := @Nat.and_mod_two_eq_one a b
  split <;> rename_i h
  · have := o.mpr h; omega
  · have : ¬ (a &&& b) % 2 = 1 := fun z => h (o.mp z)
    omega
theorem nat_or_rec (a b : Nat) : (a ||| b) = 2 * (a / 2 ||| b / 2) + (if a % 2 = 1 ∨ b % 2 = 1 then 1 else 0) := by
  have e : (a ||| b) / 2 = a / 2 ||| b / 2 := Nat.or_div_two
  have o := @Nat.or_mod_two_eq_one a b
  split <;> rename_i h
  · have := o.mpr h; omega
  · have : ¬ (a ||| b) % 2 = 1 := fun z => h (o.mp z)
    omega
theorem toNat_half {x : Int} (h : 0 ≤ x) : x.toNat / 2 = (x / 2).toNat := by omega
theorem not_half (x : Int) : Builtin.bitNot x / 2 = Builtin.bitNot (x / 2) := by unfold Builtin.bitNot; omega
/-- & by halves -/
theorem and_rec (x y : Int) : Builtin.bitAnd x y = 2 * Builtin.bitAnd (x / 2) (y / 2) + (if x % 2 = 1 ∧ y % 2 = 1 then 1 else 0) := by
  by_cases hx : 0 ≤ x
  · have hx' : 0 ≤ x / 2 := by omega
    by_cases hy : 0 ≤ y
    · have hy' : 0 ≤ y / 2 := by omega
      rw [bitAnd_pp hx hy, bitAnd_pp hx' hy', nat_and_rec, toNat_half hx, toNat_half hy]
      split <;> split <;> omega
    · have hy' : ¬ 0 ≤ y / 2 := by omega
      have hn : 0 ≤ Builtin.bitNot y := by unfold Builtin.bitNot; omega
      rw [bitAnd_comm x y, bitAnd_comm (x / 2), bitAnd_np hy hx, bitAnd_np hy' hx', nat_and_rec, toNat_half hx, toNat_half hn, not_half]
      have e1 : x.toNat % 2 = 1 ↔ x % 2 = 1 := by omega
      have e2 : (Builtin.bitNot y).toNat % 2 = 1 ↔ ¬ y % 2 = 1 := by unfold Builtin.bitNot at *; omega
      split <;> split <;> omega
  · have hx' : ¬ 0 ≤ x / 2 := by omega
    have hnx : 0 ≤ Builtin.bitNot x := by unfold Builtin.bitNot; omega
    have e2 : (Builtin.bitNot x).toNat % 2 = 1 ↔ ¬ x % 2 = 1 := by unfold Builtin.bitNot at *; omega
    by_cases hy : 0 ≤ y
    · have hy' : 0 ≤ y / 2 := by omega
      rw [bitAnd_np hx hy, bitAnd_np hx' hy', nat_and_rec, toNat_half hy, toNat_half hnx, not_half]
      have e1 : y.toNat % 2 = 1 ↔ y % 2 = 1 := by omega
      split <;> split <;> omega
    · have hy' : ¬ 0 ≤ y / 2 := by omega
      have hny : 0 ≤ Builtin.bitNot y := by unfold Builtin.bitNot; omega
      have e3 : (Builtin.bitNot y).toNat % 2 = 1 ↔ ¬ y % 2 = 1 := by unfold Builtin.bitNot at *; omega
      rw [bitAnd_nn hx hy, bitAnd_nn hx' hy', nat_or_rec, toNat_half hnx, toNat_half hny, not_half, not_half]
      have u : ∀ z : Int, Builtin.bitNot z = -z - 1 := fun _ => rfl
      rw [u (_ : Nat), u (_ : Nat)]
      split <;> split <;> omega
/-- ^ by halves -/
theorem xor_rec (x y : Int) : Builtin.bitXor x y = 2 * Builtin.bitXor (x / 2) (y / 2) + (x + y) % 2 := by
  rw [bitXor_and, bitXor_and, and_rec]
  split <;> omega
theorem and_two (x y : Int) (c d : Int) (hc : c = 0 ∨ c = 1) (hd : d = 0 ∨ d = 1) : Builtin.bitAnd (2 * x + c) (2 * y + d) = 2 * Builtin.bitAnd x y + c * d := by
  rw [and_rec]
  have e1 : (2 * x + c) / 2 = x := by omega
  have e2 : (2 * y + d) / 2 = y := by omega
  rw [e1, e2]
  rcases hc with rfl | rfl <;> rcases hd with rfl | rfl <;> (split <;> omega)
theorem xor_two (x y : Int) (c d : Int) (hc : c = 0 ∨ c = 1) (hd : d = 0 ∨ d = 1) : Builtin.bitXor (2 * x + c) (2 * y + d) = 2 * Builtin.bitXor x y + (c + d) % 2 := by
  rw [xor_rec]
  have e1 : (2 * x + c) / 2 = x := by omega
  have e2 : (2 * y + d) / 2 = y := by omega
  rw [e1, e2]
  omega
theorem two_pow_pos (k : Nat) : (0 : Int) < 2 ^ k := Int.pow_pos (by decide)
theorem pow_succ2 (k : Nat) : (2 : Int) ^ (k + 1) = 2 * 2 ^ k := by rw [Int.pow_succ]; omega
theorem emod_two_mul (a : Int) {m : Int} (hm : 0 < m) : a % (2 * m) = 2 * (a / 2 % m) + a % 2 := by
  have h1 : a / 2 = m * (a / 2 / m) + a / 2 % m := (Int.mul_ediv_add_emod (a / 2) m).symm
  have h2 := Int.emod_nonneg (a / 2) (show m ≠ 0 by omega)
  have h3 := Int.emod_lt_of_pos (a / 2) hm
  have h4 : a = (2 * (a / 2 % m) + a % 2) + (2 * m) * (a / 2 / m) := by
    have : (2 * m) * (a / 2 / m) = 2 * (m * (a / 2 / m)) := Int.mul_assoc ..
    omega
  have h5 : a % (2 * m) = (2 * (a / 2 % m) + a % 2) % (2 * m) := by
    conv => lhs; rw [h4]
    rw [Int.add_mul_emod_self_left]
  rw [h5, Int.emod_eq_of_lt (by omega) (by omega)]
theorem ediv_two_pow (a : Int) (k : Nat) : a / 2 ^ (k + 1) = a / 2 / 2 ^ k := by
  rw [pow_succ2, Int.ediv_ediv_of_nonneg (by decide)]
/-- x & (2 ** k - 1), x any number -/
theorem and_mask (k : Nat) : ∀ x : Int, Builtin.bitAnd x (2 ^ k - 1) = x % 2 ^ k := by
  induction k with
  | zero => intro x; show Builtin.bitAnd x 0 = x % 1; rw [bitAnd_zero]; omega
  | succ k ih =>
    intro x
    have e : (2 : Int) ^ (k + 1) - 1 = 2 * (2 ^ k - 1) + 1 := by rw [pow_succ2]; omega
    have hx : x = 2 * (x / 2) + x % 2 := by omega
    rw [e]
    conv => lhs; rw [hx]
    rw [and_two _ _ _ _ (by omega) (by omega), ih, pow_succ2, emod_two_mul _ (two_pow_pos k)]
    omega
/-- the field put in: what with_field reckons -/
theorem put_low (many : Nat) : ∀ w n : Int, Builtin.bitXor w (Builtin.bitAnd (Builtin.bitXor w n) (2 ^ many - 1)) = w - w % 2 ^ many + n % 2 ^ many := by
  induction many with
  | zero => intro w n; show Builtin.bitXor w (Builtin.bitAnd (Builtin.bitXor w n) 0) = w - w % 1 + n % 1; rw [bitAnd_zero, bitXor_zero]; omega
  | succ k ih =>
    intro w n
    have e : (2 : Int) ^ (k + 1) - 1 = 2 * (2 ^ k - 1) + 1 := by rw [pow_succ2]; omega
    have hw : w = 2 * (w / 2) + w % 2 := by omega
    have hn : n = 2 * (n / 2) + n % 2 := by omega
    have i := ih (w / 2) (n / 2)
    have q1 := emod_two_mul w (two_pow_pos k)
    have q2 := emod_two_mul n (two_pow_pos k)
    rw [e]
    conv => lhs; rw [hw, hn]
    rw [xor_two _ _ _ _ (by omega) (by omega), and_two _ _ _ _ (by omega) (by omega), xor_two _ _ _ _ (by omega) (by omega), i, pow_succ2, q1, q2]
    omega
theorem put_at (low many : Nat) : ∀ w n : Int, Builtin.bitXor w (Builtin.bitAnd (Builtin.bitXor w (n * 2 ^ low)) ((2 ^ many - 1) * 2 ^ low)) =
    w - (w / 2 ^ low % 2 ^ many) * 2 ^ low + (n % 2 ^ many) * 2 ^ low := by
  induction low with
  | zero => intro w n; simp only [Int.pow_zero, Int.mul_one, Int.ediv_one]; exact put_low many w n
  | succ k ih =>
    intro w n
    have hw : w = 2 * (w / 2) + w % 2 := by omega
    have e1 : n * 2 ^ (k + 1) = 2 * (n * 2 ^ k) + 0 := by rw [pow_succ2, Int.mul_left_comm]; omega
    have e2 : ((2 : Int) ^ many - 1) * 2 ^ (k + 1) = 2 * ((2 ^ many - 1) * 2 ^ k) + 0 := by rw [pow_succ2, Int.mul_left_comm]; omega
    have i := ih (w / 2) n
    rw [e1, e2, ediv_two_pow, pow_succ2]
    conv => lhs; rw [hw]
    rw [xor_two _ _ _ _ (by omega) (by omega), and_two _ _ _ _ (by omega) (by omega), xor_two _ _ _ _ (by omega) (by omega), i]
    rw [Int.mul_left_comm _ 2, Int.mul_left_comm _ 2]
    omega
/-- what with_field(word, low, many, number) reckons -/
def wf (w low many n : Int) : Int := w - (w / 2 ^ low.toNat % 2 ^ many.toNat) * 2 ^ low.toNat + (n % 2 ^ many.toNat) * 2 ^ low.toNat
end Jl
namespace Jl
/-- signed(number, many) -/
def sgn (n : Int) (m : Nat) : Int := (n + 2 ^ (m - 1)) % (2 ^ (m - 1) * 2) - 2 ^ (m - 1)
theorem sgn_facts (n : Int) {m : Nat} (h : 1 ≤ m) : -(2 ^ (m - 1)) ≤ sgn n m ∧ sgn n m < 2 ^ (m - 1) ∧ (n - sgn n m) % 2 ^ m = 0 := by
  obtain ⟨k, rfl⟩ : ∃ k, m = k + 1 := ⟨m - 1, by omega⟩
  have hp := two_pow_pos k
  have e : k + 1 - 1 = k := by omega
  unfold sgn
  rw [e, pow_succ2]
  have h1 := Int.emod_nonneg (n + 2 ^ k) (show (2 : Int) ^ k * 2 ≠ 0 by omega)
  have h2 := Int.emod_lt_of_pos (n + 2 ^ k) (show (0 : Int) < 2 ^ k * 2 by omega)
  refine ⟨by omega, by omega, ?_⟩
  have h3 := Int.mul_ediv_add_emod (n + 2 ^ k) (2 ^ k * 2)
  have h4 : n - ((n + 2 ^ k) % (2 ^ k * 2) - 2 ^ k) = (2 * 2 ^ k) * ((n + 2 ^ k) / (2 ^ k * 2)) := by
    have : (2 * 2 ^ k) * ((n + 2 ^ k) / (2 ^ k * 2)) = 2 ^ k * 2 * ((n + 2 ^ k) / (2 ^ k * 2)) := by rw [Int.mul_comm 2]
    omega
  rw [h4]
  exact Int.mul_emod_right _ _
end Jl
namespace Jl
theorem pow_lt {m : Nat} (h : m ≤ 99) : ((2 : Int) ^ m - 1).natAbs < 2 ^ 100 := by
  have e : ((2 : Int) ^ m) = ((2 ^ m : Nat) : Int) := by simp
  have h2 : (2 : Nat) ^ m ≤ 2 ^ 99 := Nat.pow_le_pow_right (by decide) h
  have h3 : (2 : Nat) ^ 99 < 2 ^ 100 := by decide
  have h4 : 0 < (2 : Nat) ^ m := Nat.two_pow_pos m
  rw [e]
  omega
theorem pow_lt' {m : Nat} (h : m ≤ 99) : ((2 : Int) ^ m).natAbs < 2 ^ 100 := by
  have e : ((2 : Int) ^ m) = ((2 ^ m : Nat) : Int) := by simp
  have h2 : (2 : Nat) ^ m ≤ 2 ^ 99 := Nat.pow_le_pow_right (by decide) h
  have h3 : (2 : Nat) ^ 99 < 2 ^ 100 := by decide
  rw [e, Int.natAbs_natCast]
  omega
/-- what lies within sixty figures (and some more) -/
theorem big_of {n : Int} (h : -(10 ^ 65) ≤ n) (h2 : n ≤ 10 ^ 65) : n.natAbs < 2 ^ 250 := by
  have e : (10 : Nat) ^ 65 < 2 ^ 250 := by decide
  omega
end Jl
namespace Jl
theorem half_pow {m : Nat} (h : 1 ≤ m) : (2 : Int) ^ m / 2 = 2 ^ (m - 1) := by
  obtain ⟨k, rfl⟩ : ∃ k, m = k + 1 := ⟨m - 1, by omega⟩
  rw [pow_succ2, Nat.add_sub_cancel]
  omega
end Jl
namespace Jl
theorem half_more (a : Int) (k : Nat) : a / 2 ^ k / 2 = a / 2 ^ (k + 1) := by
  rw [Int.pow_succ, Int.ediv_ediv_of_nonneg (Int.le_of_lt (two_pow_pos k))]
theorem dbl_more (k : Nat) : (2 : Int) ^ k * 2 = 2 ^ (k + 1) := by rw [Int.pow_succ]
end Jl
namespace Jl
theorem mod_bit (x : Int) : ∀ (j m : Nat), j < m → (x % 2 ^ m) / 2 ^ j % 2 = x / 2 ^ j % 2 := by
  intro j
  induction j generalizing x with
  | zero =>
    intro m h
    obtain ⟨k, rfl⟩ : ∃ k, m = k + 1 := ⟨m - 1, by omega⟩
    rw [pow_succ2, emod_two_mul _ (two_pow_pos k)]
    simp only [Int.pow_zero, Int.ediv_one]
    omega
  | succ j ih =>
    intro m h
    obtain ⟨k, rfl⟩ : ∃ k, m = k + 1 := ⟨m - 1, by omega⟩
    have e : x % 2 ^ (k + 1) / 2 = x / 2 % 2 ^ k := by
      rw [pow_succ2, emod_two_mul _ (two_pow_pos k)]
      omega
    rw [ediv_two_pow, ediv_two_pow, e]
    exact ih (x / 2) k (by omega)
theorem pow_add2 (a b : Nat) : (2 : Int) ^ (a + b) = 2 ^ a * 2 ^ b := Int.pow_add ..
theorem div_more (x : Int) (a b : Nat) : x / 2 ^ (a + b) = x / 2 ^ a / 2 ^ b := by
  rw [pow_add2, Int.ediv_ediv_of_nonneg (Int.le_of_lt (two_pow_pos a))]
def wfN (w : Int) (low many : Nat) (n : Int) : Int := w - (w / 2 ^ low % 2 ^ many) * 2 ^ low + (n % 2 ^ many) * 2 ^ low
theorem wf_parts (w : Int) (low many : Nat) (n : Int) : wfN w low many n / 2 ^ low = 2 ^ many * (w / 2 ^ low / 2 ^ many) + n % 2 ^ many ∧ wfN w low many n % 2 ^ low = w % 2 ^ low := by
  have hp := two_pow_pos low
  have e1 := Int.mul_ediv_add_emod w (2 ^ low)
  have e2 := Int.mul_ediv_add_emod (w / 2 ^ low) (2 ^ many)
  have r1 := Int.emod_nonneg w (show (2 : Int) ^ low ≠ 0 by omega)
  have r2 := Int.emod_lt_of_pos w hp
  have e3 : wfN w low many n = 2 ^ low * (2 ^ many * (w / 2 ^ low / 2 ^ many) + n % 2 ^ many) + w % 2 ^ low := by
    unfold wfN
    generalize w / 2 ^ low % 2 ^ many = f at *
    generalize w % 2 ^ low = r at *
    generalize n % 2 ^ many = g at *
    generalize w / 2 ^ low / 2 ^ many = A at *
    have e4 : 2 ^ low * (w / 2 ^ low) = 2 ^ low * (2 ^ many * A) + f * 2 ^ low := by
      rw [Int.mul_comm f, ← Int.mul_add, e2]
    have e5 : (2 : Int) ^ low * (2 ^ many * A + g) = 2 ^ low * (2 ^ many * A) + g * 2 ^ low := by
      rw [Int.mul_add, Int.mul_comm g]
    omega
  rw [e3]
  constructor
  · rw [Int.add_comm (2 ^ low * _), Int.add_mul_ediv_left _ _ (by omega), Int.ediv_eq_zero_of_lt r1 r2]
    omega
  · rw [Int.add_comm (2 ^ low * _), Int.add_mul_emod_self_left, Int.emod_eq_of_lt r1 r2]
theorem wf_field (w : Int) (low many : Nat) (n : Int) : wfN w low many n / 2 ^ low % 2 ^ many = n % 2 ^ many := by
  rw [(wf_parts w low many n).1, Int.add_comm, Int.add_mul_emod_self_left, Int.emod_emod]
theorem wf_high (w : Int) (low many : Nat) (n : Int) : wfN w low many n / 2 ^ (low + many) = w / 2 ^ (low + many) := by
  have hp := two_pow_pos many
  have r1 := Int.emod_nonneg n (show (2 : Int) ^ many ≠ 0 by omega)
  have r2 := Int.emod_lt_of_pos n hp
  rw [div_more, div_more, (wf_parts w low many n).1, Int.add_comm, Int.add_mul_ediv_left _ _ (by omega), Int.ediv_eq_zero_of_lt r1 r2]
  omega
theorem wf_bit (w : Int) (low many : Nat) (n : Int) (i : Nat) : wfN w low many n / 2 ^ i % 2 = if low ≤ i ∧ i < low + many then n / 2 ^ (i - low) % 2 else w / 2 ^ i % 2 := by
  by_cases h : i < low
  · rw [if_neg (by omega), ← mod_bit _ i low h, (wf_parts w low many n).2, mod_bit _ i low h]
  · by_cases h2 : i < low + many
    · rw [if_pos ⟨by omega, h2⟩]
      obtain ⟨j, rfl⟩ : ∃ j, i = low + j := ⟨i - low, by omega⟩
      rw [div_more, Nat.add_sub_cancel_left, ← mod_bit (wfN w low many n / 2 ^ low) j many (by omega), wf_field, mod_bit _ j many (by omega)]
    · rw [if_neg (by omega)]
      obtain ⟨j, rfl⟩ : ∃ j, i = (low + many) + j := ⟨i - (low + many), by omega⟩
      rw [div_more, wf_high, ← div_more]
/-- two numbers in a word's range, by their parts -/
theorem lt_pow_of_div {x : Int} {a b : Nat} (h0 : 0 ≤ x / 2 ^ a) (h : x / 2 ^ a < 2 ^ b) : 0 ≤ x ∧ x < 2 ^ (a + b) := by
  have hp := two_pow_pos a
  have e1 := Int.mul_ediv_add_emod x (2 ^ a)
  have r1 := Int.emod_nonneg x (show (2 : Int) ^ a ≠ 0 by omega)
  have r2 := Int.emod_lt_of_pos x hp
  have m0 := Int.mul_nonneg (Int.le_of_lt hp) h0
  have m1 : (2 : Int) ^ a * (x / 2 ^ a + 1) ≤ 2 ^ a * 2 ^ b := Int.mul_le_mul_of_nonneg_left (by omega) (Int.le_of_lt hp)
  rw [pow_add2]
  rw [Int.mul_add] at m1
  omega
theorem div_lt_pow {x : Int} {a b : Nat} (h0 : 0 ≤ x) (h : x < 2 ^ (a + b)) : 0 ≤ x / 2 ^ a ∧ x / 2 ^ a < 2 ^ b := by
  have hp := two_pow_pos a
  refine ⟨Int.ediv_nonneg h0 (Int.le_of_lt hp), ?_⟩
  refine Int.ediv_lt_of_lt_mul hp ?_
  rw [Int.mul_comm, ← pow_add2]
  exact h
theorem wf_range (w : Int) (low many k : Nat) (n : Int) (hk : low + many ≤ k) (h0 : 0 ≤ w) (h : w < 2 ^ k) : 0 ≤ wfN w low many n ∧ wfN w low many n < 2 ^ k := by
  obtain ⟨j, rfl⟩ : ∃ j, k = (low + many) + j := ⟨k - (low + many), by omega⟩
  obtain ⟨a, b⟩ := div_lt_pow h0 h
  rw [← wf_high w low many n] at a b
  exact lt_pow_of_div a b
theorem wf_is (w low many n : Int) : wf w low many n = wfN w low.toNat many.toNat n := rfl
end Jl
namespace Jl
/-- the lowest n bits, the lowest one first -/
def bitsOf (w : Int) (n : Nat) : List Int := (List.range n).map fun i => w / 2 ^ i % 2
end Jl
namespace Jl
theorem turn_bits (w : Int) (h0 : 0 ≤ w) (h1 : w < 2 ^ 32) (m : Nat) (hm : m ≤ 32) (i : Nat) (hi : i < 32) :
    ((w / 2 ^ m + w * 2 ^ (32 - m)) % 2 ^ 32) / 2 ^ i % 2 = w / 2 ^ (if i + m < 32 then i + m else i + m - 32) % 2 := by
  rw [mod_bit _ i 32 hi]
  have hp := two_pow_pos (32 - m)
  have ha : 0 ≤ w / 2 ^ m ∧ w / 2 ^ m < 2 ^ (32 - m) := div_lt_pow h0 (by rw [show m + (32 - m) = 32 by omega]; exact h1)
  by_cases h : i + m < 32
  · rw [if_pos h, ← mod_bit _ i (32 - m) (by omega), Int.mul_comm w, Int.add_mul_emod_self_left, Int.emod_eq_of_lt ha.1 ha.2, ← div_more, Nat.add_comm m]
  · rw [if_neg h]
    obtain ⟨j, rfl⟩ : ∃ j, i = (32 - m) + j := ⟨i - (32 - m), by omega⟩
    rw [div_more, Int.mul_comm w, Int.add_mul_ediv_left _ _ (by omega), Int.ediv_eq_zero_of_lt ha.1 ha.2, Int.zero_add, show 32 - m + j + m - 32 = j by omega]
theorem bitsOf_get (w : Int) {n i : Nat} (h : i < n) : (bitsOf w n)[i]? = some (w / 2 ^ i % 2) := by
  unfold bitsOf
  rw [List.getElem?_map, List.getElem?_range h]; rfl
theorem bitsOf_succ (w : Int) (n : Nat) : bitsOf w (n + 1) = bitsOf w n ++ [w / 2 ^ n % 2] := by
  unfold bitsOf
  rw [List.range_succ, List.map_append]; rfl
theorem bitsOf_len (w : Int) (n : Nat) : (bitsOf w n).length = n := by
  unfold bitsOf
  rw [List.length_map, List.length_range]
end Jl
namespace Jl
theorem f0_16 (w : Int) : w / 2 ^ (0 : Int).toNat % 2 ^ (16 : Int).toNat = w % 65536 := by
  show w / 1 % 65536 = _
  rw [Int.ediv_one]
theorem f0_7 (w : Int) : w / 2 ^ (0 : Int).toNat % 2 ^ (7 : Int).toNat = w % 128 := by
  show w / 1 % 128 = _
  rw [Int.ediv_one]
theorem f14_5 (w : Int) : w / 2 ^ (14 : Int).toNat % 2 ^ (5 : Int).toNat = w / 16384 % 32 := rfl
theorem wf_16 (w n : Int) : wf w 0 16 n = w - w % 65536 + n % 65536 := by
  show w - (w / 1 % 65536) * 1 + (n % 65536) * 1 = _
  rw [Int.ediv_one]; omega
theorem wf_19 (w n : Int) : wf w 0 19 n = w - w % 524288 + n % 524288 := by
  show w - (w / 1 % 524288) * 1 + (n % 524288) * 1 = _
  rw [Int.ediv_one]; omega
theorem wf_7 (w n : Int) : wf w 0 7 n = w - w % 128 + n % 128 := by
  show w - (w / 1 % 128) * 1 + (n % 128) * 1 = _
  rw [Int.ediv_one]; omega
theorem wf_14 (w n : Int) : wf w 14 5 n = w - w / 16384 % 32 * 16384 + n % 32 * 16384 := rfl
theorem sgn_16 (w : Int) : sgn w (16 : Int).toNat = (w + 32768) % 65536 - 32768 := rfl
theorem sgn_19 (w : Int) : sgn w (19 : Int).toNat = (w + 262144) % 524288 - 262144 := rfl
theorem sgn_12 (w : Int) : sgn w (12 : Int).toNat = (w + 2048) % 4096 - 2048 := rfl
end Jl
namespace Jl
/-- what the fill of split makes of a word -/
def sf (w y : Int) : Int := 524288 * (w / 524288) + 16384 * (y / 128 % 32) + 128 * (w / 128 % 128) + y % 128
theorem sf_is (w y : Int) : (w - w % 128 + y % 128) - (w - w % 128 + y % 128) / 16384 % 32 * 16384 + y / 128 % 32 * 16384 = sf w y := by
  unfold sf
  have h1 : (w - w % 128 + y % 128) / 16384 = w / 16384 := by omega
  have h2 : w / 16384 = 32 * (w / 524288) + w / 16384 % 32 := by omega
  have h3 : w / 128 = 128 * (w / 16384) + w / 128 % 128 := by omega
  rw [h1]
  omega
theorem sf_parts (w y : Int) : sf w y / 524288 = w / 524288 ∧ sf w y / 128 % 128 = w / 128 % 128 ∧ sf w y % 128 = y % 128 ∧ sf w y / 16384 % 32 = y / 128 % 32 := by
  have a1 := Int.emod_nonneg (y / 128) (show (32 : Int) ≠ 0 by decide)
  have a2 := Int.emod_lt_of_pos (y / 128) (show (0 : Int) < 32 by decide)
  have b1 := Int.emod_nonneg (w / 128) (show (128 : Int) ≠ 0 by decide)
  have b2 := Int.emod_lt_of_pos (w / 128) (show (0 : Int) < 128 by decide)
  have c1 := Int.emod_nonneg y (show (128 : Int) ≠ 0 by decide)
  have c2 := Int.emod_lt_of_pos y (show (0 : Int) < 128 by decide)
  unfold sf
  generalize y / 128 % 32 = a at *
  generalize w / 128 % 128 = b at *
  generalize y % 128 = c at *
  generalize w / 524288 = d at *
  refine ⟨by omega, by omega, by omega, by omega⟩
theorem sf_again (w y z : Int) : sf (sf w y) z = sf w z := by
  have h := sf_parts w y
  unfold sf at *
  omega
theorem low12 (y : Int) : y % 128 + y / 128 % 32 * 128 = y % 4096 := by omega
end Jl

/-! Steps: one lemma for each reading, to be walked from the left. -/
namespace Jl
open PySem L2
section
variable {X : Cx}
/-- a list + a list, each to be read (the script, too) -/
def rCatS (K : PySem.W.Frag) : R2 := fun x y H Q => ∃ l b xs zs, x = .ref l ∧ y = .ref b ∧ SqL K H l xs ∧ SqL K H b zs ∧ xs.length + zs.length ≤ sizeLine ∧ ∀ p, H p = none → Q (.ref p) (upd H p (.lst (xs ++ zs)))
theorem op_catS : OpR X (binaryOp .Add) (rCatS X.K) := by
  intro pins s σ H x y v u Q I rx ry h
  obtain ⟨l, b, xs, zs, rfl, rfl, hH, hB, hz, q⟩ := h
  cases rx
  cases ry
  obtain ⟨its, r, p, _⟩ := I.list hH
  obtain ⟨its2, r2, p2, _⟩ := I.list hB
  have hl := p.isList
  have hb := p2.isList
  have hsz : its.length + its2.length ≤ sizeLine := by rw [← r.length, ← r2.length]; exact hz
  obtain ⟨⟨cls, dd, data, sl⟩, ho, hc, n, hd⟩ := id hl
  obtain ⟨⟨cls2, dd2, data2, sl2⟩, ho2, hc2, n2, hd2⟩ := id hb
  simp only at hc hd hc2 hd2
  subst hc hd hc2 hd2
  have e : its.toArray ++ its2.toArray = (its ++ its2).toArray := by simp
  refine PySem.concat_meets ⟨_, ho, rfl⟩ ⟨_, ho2, rfl⟩ PySem.noFill_list_add PySem.seq_list_add PySem.F.slot_list_add PySem.F.entry_list_add (PySem.F.args_list_add_2 _ _) (PyProof.Rows.list_addW l b its.toArray its2.toArray n n2 dd dd2 sl sl2 (by simpa using hsz)) ⟨ho, ho2, ?_⟩
  rw [e]
  exact ⟨.ref _, _, I.lnew (t' := s.toks) (r.append r2) (by rw [List.length_append]; omega), rfl, q _ I.fresh⟩
end
section
variable {K : PySem.W.Frag} {σ : L2.St} {H : Hp} {Q : VK} {ta tb tc te : TE} {tt t1 t2 : TT} {tr : TA} {i j : Int} {x y v : V} {b c : Bool} {p q A B : Prop} {nx bk ct : L2.St → Hp → Prop} {rt : VK} {ts tu tw : TS} {g : Int → Int → V} {R : List V → Hp → Prop} {T : Bool → Hp → Prop} {E : XK} {sp : Sp}
theorem s_var {k : Nat} (h : σ[k]? = some (some v)) (z : Q v H) : tVar k σ H Q := ⟨v, h, z⟩
theorem s_c (z : Q v H) : tC v σ H Q := z
theorem s_op {r : R2} (z : ta σ H fun x H1 => tb σ H1 fun y H2 => r x y H2 Q) : tOp r ta tb σ H Q := z
theorem s_un {r : V → Hp → VK → Prop} (z : ta σ H fun x H1 => r x H1 Q) : tUn r ta σ H Q := z
theorem s_I0 (z : Q (g i j) H) : rI0 g (.int i) (.int j) H Q := ⟨i, j, rfl, rfl, z⟩
theorem s_I {C : Int → Int → Prop} (hc : C i j) (z : Q (g i j) H) : rI C g (.int i) (.int j) H Q := ⟨i, j, rfl, rfl, hc, z⟩
theorem s_U {f : Int → V} (z : Q (f i) H) : rU f (.int i) H Q := ⟨i, rfl, z⟩
theorem s_eqI (z : Q (.bl (decide (i = j))) H) : rEq (.int i) (.int j) H Q := ⟨rfl, by
  have e : decide (V.int i = V.int j) = decide (i = j) := by rw [Bool.eq_iff_iff]; simp
  rw [e]; exact z⟩
theorem s_neI (z : Q (.bl (!decide (i = j))) H) : rNe (.int i) (.int j) H Q := ⟨rfl, by
  have e : decide (V.int i = V.int j) = decide (i = j) := by rw [Bool.eq_iff_iff]; simp
  rw [e]; exact z⟩
theorem s_eqS {z w : Str} (k : Q (.bl (decide (z = w))) H) : rEq (.str z) (.str w) H Q := ⟨rfl, by
  have e : decide (V.str z = V.str w) = decide (z = w) := by rw [Bool.eq_iff_iff]; simp
  rw [e]; exact k⟩
theorem s_neS {z w : Str} (k : Q (.bl (!decide (z = w))) H) : rNe (.str z) (.str w) H Q := ⟨rfl, by
  have e : decide (V.str z = V.str w) = decide (z = w) := by rw [Bool.eq_iff_iff]; simp
  rw [e]; exact k⟩
theorem s_eqB (k : Q (.bl (decide (b = c))) H) : rEq (.bl b) (.bl c) H Q := ⟨rfl, by
  have e : decide (V.bl b = V.bl c) = decide (b = c) := by rw [Bool.eq_iff_iff]; simp
  rw [e]; exact k⟩
theorem s_neB (k : Q (.bl (!decide (b = c))) H) : rNe (.bl b) (.bl c) H Q := ⟨rfl, by
  have e : decide (V.bl b = V.bl c) = decide (b = c) := by rw [Bool.eq_iff_iff]; simp
  rw [e]; exact k⟩
theorem s_isB (k : Q (.bl (decide (b = c))) H) : rIsB (.bl b) (.bl c) H Q := ⟨b, c, rfl, rfl, k⟩
theorem s_notB (k : Q (.bl (!decide (b = c))) H) : rNotB (.bl b) (.bl c) H Q := ⟨b, c, rfl, rfl, k⟩
theorem s_test {t : TE} (z : t σ H fun x H' => ∃ k, x = .bl k ∧ T k H') : tTest t σ H T := z
theorem s_tB {t : TE} (z : t σ H fun x H' => ∃ k, x = .bl k ∧ T k H') : tB t σ H T := z
theorem s_chain {r r' : R2} (z : ta σ H fun x H1 => tb σ H1 fun y H2 => r x y H2 fun z H3 => ∃ k, z = .bl k ∧ (if k = true then tc σ H3 fun w' H4 => r' y w' H4 Q else Q (.bl false) H3)) : tChain r r' ta tb tc σ H Q := z
theorem s_and (z : t1 σ H fun c H1 => if c = true then t2 σ H1 T else T false H1) : tAnd t1 t2 σ H T := z
theorem s_or (z : t1 σ H fun c H1 => if c = true then T true H1 else t2 σ H1 T) : tOr t1 t2 σ H T := z
theorem s_not (z : t1 σ H fun c H1 => T (!c) H1) : tNot t1 σ H T := z
theorem s_andV (z : ta σ H fun x H1 => ∃ c, x = .bl c ∧ if c = true then tb σ H1 Q else Q (.bl false) H1) : tAndV ta tb σ H Q := z
theorem s_orV (z : ta σ H fun x H1 => ∃ c, x = .bl c ∧ if c = true then Q (.bl true) H1 else tb σ H1 Q) : tOrV ta tb σ H Q := z
theorem s_notV (z : ta σ H fun x H1 => ∃ c, x = .bl c ∧ Q (.bl (!c)) H1) : tNotV ta σ H Q := z
theorem s_ifE (z : tt σ H fun c H1 => if c = true then ta σ H1 Q else tb σ H1 Q) : tIf tt ta tb σ H Q := z
theorem s_exbl {P : Bool → Prop} (z : P b) : ∃ k, V.bl b = V.bl k ∧ P k := ⟨b, rfl, z⟩
theorem s_next (z : nx σ H) : tNext ⟨nx, rt, bk, ct⟩ σ H := z
theorem s_seq (z : ts ⟨tu ⟨nx, rt, bk, ct⟩, rt, bk, ct⟩ σ H) : tSeq ts tu ⟨nx, rt, bk, ct⟩ σ H := z
theorem s_seq_assoc (z : tSeq ts tu ⟨tw ⟨nx, rt, bk, ct⟩, rt, bk, ct⟩ σ H) : tSeq ts (tSeq tu tw) ⟨nx, rt, bk, ct⟩ σ H := z
theorem s_drop (z : te σ H fun _ H1 => nx σ H1) : tDrop te ⟨nx, rt, bk, ct⟩ σ H := z
theorem s_ret (z : te σ H rt) : tRet te ⟨nx, rt, bk, ct⟩ σ H := z
theorem s_break (z : bk σ H) : tBreak ⟨nx, rt, bk, ct⟩ σ H := z
theorem s_cont (z : ct σ H) : tCont ⟨nx, rt, bk, ct⟩ σ H := z
theorem s_ifS (z : tt σ H fun b H1 => if b = true then ts ⟨nx, rt, bk, ct⟩ σ H1 else tu ⟨nx, rt, bk, ct⟩ σ H1) : tIfS tt ts tu ⟨nx, rt, bk, ct⟩ σ H := z
theorem s_asg {gg : TG} (z : te σ H fun x H1 => gg x σ H1 nx) : tAsg te gg ⟨nx, rt, bk, ct⟩ σ H := z
theorem s_name {k : Nat} {W : L2.St → Hp → Prop} (z : W (σ.set k (some v)) H) : gName k v σ H W := z
theorem s_nil (z : R [] H) : tNil σ H R := z
theorem s_cons (z : ta σ H fun x H1 => tr σ H1 fun xs H2 => R (x :: xs) H2) : tCons ta tr σ H R := z
theorem s_call {t : TA} (z : t σ H fun vs H1 => sp vs H1 Q E) : tCall sp [] E t σ H Q := by
  have e : (fun vs H1 => sp vs H1 Q E) = (fun vs H1 => sp (vs ++ []) H1 Q E) := by
    funext vs H1
    rw [List.append_nil]
  unfold tCall
  rw [← e]
  exact z
theorem s_CB {r : List V → Hp → VK → Prop} {t : TA} (z : t σ H fun vs H1 => r vs H1 Q) : tCB r t σ H Q := z
theorem s_iteT (z : A) : if true = true then A else B := by rw [if_pos rfl]; exact z
theorem s_iteF (z : B) : if false = true then A else B := by rw [if_neg Bool.false_ne_true]; exact z
theorem s_iteD [Decidable p] (h1 : p → A) (h2 : ¬ p → B) : if decide p = true then A else B := by
  by_cases h : p
  · rw [if_pos (decide_eq_true h)]; exact h1 h
  · rw [if_neg (by rw [decide_eq_false h]; exact Bool.false_ne_true)]; exact h2 h
theorem s_iteN [Decidable p] (h1 : ¬ p → A) (h2 : p → B) : if (!decide p) = true then A else B := by
  by_cases h : p
  · rw [if_neg (by rw [decide_eq_true h]; exact Bool.false_ne_true)]; exact h2 h
  · rw [if_pos (by rw [decide_eq_false h]; rfl)]; exact h1 h
theorem s_iteNN [Decidable p] (h1 : p → A) (h2 : ¬ p → B) : if (!!decide p) = true then A else B := by rw [Bool.not_not]; exact s_iteD h1 h2
theorem s_iteNT (z : B) : if (!true) = true then A else B := by rw [if_neg (by decide)]; exact z
theorem s_iteNF (z : A) : if (!false) = true then A else B := by rw [if_pos (by decide)]; exact z
theorem s_iteB (h1 : b = true → A) (h2 : b = false → B) : if b = true then A else B := by
  cases b with
  | true => exact s_iteT (h1 rfl)
  | false => exact s_iteF (h2 rfl)
theorem s_iteNB (h1 : b = false → A) (h2 : b = true → B) : if (!b) = true then A else B := by
  cases b with
  | false => exact s_iteNF (h1 rfl)
  | true => exact s_iteNT (h2 rfl)
theorem s_isi {xs : V} {cn : String} {k : Bool} {t : Value} (ty : TyX K H xs t) (hk : PySem.W.kitOne K t (.type cn) = some k) (z : Q (.bl k) H) : rIsi K [xs, .ty cn] H Q := ⟨xs, .ty cn, t, .type cn, k, rfl, .ty cn, ty, hk, z⟩
theorem s_isi_ii (z : Q (.bl true) H) : rIsi K [.int i, .ty "int"] H Q := s_isi (.base (.int i)) (kit_ty (by decide +kernel)) z
theorem s_isi_ib (z : Q (.bl false) H) : rIsi K [.int i, .ty "bool"] H Q := s_isi (.base (.int i)) (kit_ty (by decide +kernel)) z
theorem s_isi_bb (z : Q (.bl true) H) : rIsi K [.bl b, .ty "bool"] H Q := s_isi (.base (.bl b)) (kit_ty (by decide +kernel)) z
theorem s_isi_bi (z : Q (.bl true) H) : rIsi K [.bl b, .ty "int"] H Q := s_isi (.base (.bl b)) (kit_ty (by decide +kernel)) z
theorem s_isi_ss {w : Str} (z : Q (.bl true) H) : rIsi K [.str w, .ty "str"] H Q := s_isi (.base (.str w)) (kit_ty (by decide +kernel)) z
theorem s_isN (z : Q (.bl (decide (x = .non))) H) : (fun x y H Q => y = V.non ∧ Q (.bl (decide (x = .non))) H : R2) x .non H Q := ⟨rfl, z⟩
theorem c_div (h : 0 < j) (h2 : j < 1073741824) : CDiv i j := ⟨h, h2⟩
theorem c_mulR (h : -(2 ^ 64) < j) (h2 : j < 2 ^ 64) : CMul i j := .inr ⟨h, h2⟩
theorem c_mulL (h : -(2 ^ 64) < i) (h2 : i < 2 ^ 64) : CMul i j := .inl ⟨h, h2⟩
theorem c_pow (h : 0 ≤ j) (h1 : j ≤ 1000000) (h2 : i.natAbs < 2 ^ 64) : CPow i j := ⟨h, h1, h2⟩
/-! the ends -/
theorem fin_int (z : Q (.int i) H) (e : i = j) : Q (.int j) H := by rw [← e]; exact z
theorem fin_bl (z : Q (.bl b) H) (e : b = c) : Q (.bl c) H := by rw [← e]; exact z
theorem fin_dec [Decidable p] (z : Q (.bl true) H) (h : p) : Q (.bl (decide p)) H := by rw [decide_eq_true h]; exact z
theorem fin_ndec [Decidable p] (z : Q (.bl true) H) (h : ¬ p) : Q (.bl (!decide p)) H := by rw [decide_eq_false h]; exact z
theorem dec_t (h : p) [Decidable p] : decide p = true := decide_eq_true h
theorem s_iteDt [Decidable p] (h : p) (z : A) : if decide p = true then A else B := s_iteD (fun _ => z) fun n => absurd h n
theorem s_iteDf [Decidable p] (h : ¬ p) (z : B) : if decide p = true then A else B := s_iteD (fun n => absurd n h) fun _ => z
theorem s_iteNt [Decidable p] (h : p) (z : B) : if (!decide p) = true then A else B := s_iteN (fun n => absurd h n) fun _ => z
theorem s_iteNf [Decidable p] (h : ¬ p) (z : A) : if (!decide p) = true then A else B := s_iteN (fun _ => z) fun n => absurd n h
/-- a test by itself: its outcome -/
theorem s_ifS_f (h : ∀ T : Bool → Hp → Prop, T false H → tt σ H T) (z : tu ⟨nx, rt, bk, ct⟩ σ H) : tIfS tt ts tu ⟨nx, rt, bk, ct⟩ σ H := h _ (s_iteF z)
theorem s_ifS_t (h : ∀ T : Bool → Hp → Prop, T true H → tt σ H T) (z : ts ⟨nx, rt, bk, ct⟩ σ H) : tIfS tt ts tu ⟨nx, rt, bk, ct⟩ σ H := h _ (s_iteT z)
theorem s_ifS_d (p : Prop) [Decidable p] (h : ∀ T : Bool → Hp → Prop, T (decide p) H → tt σ H T) (z1 : p → ts ⟨nx, rt, bk, ct⟩ σ H) (z2 : ¬ p → tu ⟨nx, rt, bk, ct⟩ σ H) : tIfS tt ts tu ⟨nx, rt, bk, ct⟩ σ H := h _ (s_iteD z1 z2)
/-- a shift to the left -/
theorem shl_ok (a : Nat) (h : i.natAbs < 2 ^ a) (h0 : 0 ≤ j) (hj : j ≤ 1000000) (ha : a ≤ 1000000) : CShl i j := by
  refine ⟨h0, ?_⟩
  have b : Builtin.Int.intBits i ≤ i.natAbs.log2 + 1 := by
    unfold Builtin.Int.intBits
    split <;> omega
  have h2 : i.natAbs.log2 ≤ a := by
    by_cases z : i.natAbs = 0
    · rw [z]; simp
    · have := (Nat.log2_lt z).mpr h; omega
  have e : (2 : Int) ^ 27 = 134217728 := by decide
  rw [e]
  omega
/-! lists -/
theorem s_tup {t : TA} (z : t σ H fun xs H1 => xs.length ≤ sizeLine ∧ ∀ p, H1 p = none → Q (.ref p) (upd H1 p (.tup xs))) : tTup t σ H Q := z
theorem s_lst {t : TA} (z : t σ H fun xs H1 => xs.length ≤ sizeLine ∧ ∀ p, H1 p = none → Q (.ref p) (upd H1 p (.lst xs))) : tLst t σ H Q := z
theorem s_ixL {l : Addr} {xs : List V} (h : SqL K H l xs) (ha : atI xs i = some v) (z : Q v H) : rIxL K (.ref l) (.int i) H Q := ⟨l, xs, i, v, rfl, rfl, h, ha, z⟩
theorem s_ixT {l : Addr} {xs : List V} (h : SqT K H l xs) (ha : atI xs i = some v) (z : Q v H) : rIxT K (.ref l) (.int i) H Q := ⟨l, xs, i, v, rfl, rfl, h, ha, z⟩
theorem s_len {l : Addr} {xs : List V} (h : SqL K H l xs) (z : Q (.int xs.length) H) : (fun xs H Q => ∃ p ys, xs = [V.ref p] ∧ (SqL K H p ys ∨ SqT K H p ys) ∧ Q (.int ys.length) H : List V → Hp → VK → Prop) [.ref l] H Q := ⟨l, xs, rfl, .inl h, z⟩
theorem sqU {l : Addr} {xs : List V} : SqL K (upd H l (.lst xs)) l xs := .inl (.inl upd_same)
theorem same_upd {l : Addr} {o : HO} (h : H l = none) : Same H (upd H l o) := fun b u e => by
  rw [upd_ne (ne_of_none e h)]
  exact e
/-- range(n): what holds ahead of each turn -/
theorem s_forR1 {k : Nat} {ta : TA} (n : Int) (Pv : Nat → L2.St → Hp → Prop) (ha : ∀ R : List V → Hp → Prop, R [.int n] H → ta σ H R) (hn : -(2 ^ 62) ≤ n ∧ n < 2 ^ 62) (h0 : Pv 0 σ H)
    (hs : ∀ (i : Nat) σ' H', (i : Int) < n → Pv i σ' H' → tu ⟨Pv (i + 1), rt, nx, Pv (i + 1)⟩ (σ'.set k (some (.int (i : Int)))) H') (hd : ∀ σ' H', Pv n.toNat σ' H' → nx σ' H') : tFor (iRng1 ta) (gName k) tu ⟨nx, rt, bk, ct⟩ σ H := by
  refine ha _ ⟨n, rfl, hn.1, hn.2, ?_⟩
  refine for_range (lo := 0) (n := n.toNat) Pv h0 (fun i σ' H' hi h => ?_) hd
  show tu _ (σ'.set k (some (.int ((0 : Int) + (i : Int))))) H'
  rw [Int.zero_add]
  exact hs i σ' H' (by omega) h
/-- a list of known items -/
theorem s_forL {k : Nat} {tl : TE} {a : Addr} {xs : List V} (Pv : Nat → L2.St → Hp → Prop) (H1 : Hp) (ha : ∀ R : VK, R (.ref a) H1 → tl σ H R) (hx : SqL K H1 a xs) (h0 : Pv 0 σ H1)
    (hl : ∀ i σ' H', i ≤ xs.length → Pv i σ' H' → SqL K H' a xs)
    (hs : ∀ (i : Nat) x σ' H', xs[i]? = some x → Pv i σ' H' → tu ⟨Pv (i + 1), rt, nx, Pv (i + 1)⟩ (σ'.set k (some x)) H') (hd : ∀ σ' H', Pv xs.length σ' H' → nx σ' H') : tFor (iList K tl) (gName k) tu ⟨nx, rt, bk, ct⟩ σ H := by
  refine ha _ ⟨a, rfl, ⟨xs, hx⟩, ?_⟩
  exact for_list (xs := xs) Pv h0 hl (fun i x σ' H' hi h => hs i x σ' H' hi h) hd
theorem ints_get {ns : List Int} {k : Nat} {x : V} (h : (ns.map V.int)[k]? = some x) : ∃ z, ns[k]? = some z ∧ x = .int z := by
  rw [List.getElem?_map] at h
  cases e : ns[k]? with
  | none => rw [e] at h; cases h
  | some z => rw [e] at h; exact ⟨z, rfl, (Option.some.inj h).symm⟩
theorem atI_int {ns : List Int} {i : Int} {k : Nat} {z : Int} (h : ns[k]? = some z) (e : i = k) : atI (ns.map V.int) i = some (.int z) := by
  subst e
  refine atI_nat ?_
  rw [List.getElem?_map, h]; rfl
theorem atI_any {ns : List Int} {i : Int} (h1 : -(ns.length : Int) ≤ i) (h2 : i < ns.length) : ∃ z, atI (ns.map V.int) i = some (.int z) := by
  unfold atI ixN
  rw [List.length_map]
  by_cases h : 0 ≤ i
  · rw [if_pos h, if_pos h2]
    obtain ⟨z, hz⟩ : ∃ z, ns[i.toNat]? = some z := ⟨_, List.getElem?_eq_getElem (by omega)⟩
    refine ⟨z, ?_⟩
    show (ns.map V.int)[i.toNat]? = _
    rw [List.getElem?_map, hz]; rfl
  · rw [if_neg h, if_pos h1]
    obtain ⟨z, hz⟩ : ∃ z, ns[(i + ns.length).toNat]? = some z := ⟨_, List.getElem?_eq_getElem (by omega)⟩
    refine ⟨z, ?_⟩
    show (ns.map V.int)[(i + ns.length).toNat]? = _
    rw [List.getElem?_map, hz]; rfl
theorem small63 {n m : Nat} (h : n ≤ 63) (h2 : m ≤ 100) : n + m ≤ sizeLine := Nat.le_trans (by omega : n + m ≤ 200) (by decide)
/-- for cell in [0] + script: .. -/
theorem law0 {a : Addr} {ns : List Int} (hS : SqL K H a (ns.map V.int)) (hn : ns.length ≤ 63)
    (hb : ∀ (c : Int) (N : L2.St → Hp → Prop) H1, Same H H1 → (∀ v H2, Same H1 H2 → N [some (.ref a), v] H2) → tu ⟨N, rt, nx, N⟩ [some (.ref a), some (.int c)] H1)
    (hd : ∀ v H1, Same H H1 → nx [some (.ref a), v] H1) :
    tFor (iList K (tOp (rCatS K) (tLst (tCons (tC (.int 0)) tNil)) (tVar 0))) (gName 1) tu ⟨nx, rt, bk, ct⟩ [some (.ref a), none] H := by
  show _ ∧ ∀ _, _
  refine ⟨by decide, fun p hp => ?_⟩
  refine ⟨_, rfl, p, a, [.int 0], ns.map V.int, rfl, rfl, sqU, (same_upd hp).seq hS, (by rw [List.length_map]; show 1 + ns.length ≤ _; rw [Nat.add_comm]; exact small63 hn (by decide)), fun q hq => ?_⟩
  have s1 : Same H (upd (upd H p (.lst [.int 0])) q (.lst ([.int 0] ++ ns.map V.int))) := (same_upd hp).trans (same_upd hq)
  refine ⟨q, rfl, ⟨_, sqU⟩, ?_⟩
  refine for_list (xs := [.int 0] ++ ns.map V.int) (fun i σ H' => (∃ v, σ = [some (.ref a), v]) ∧ Same (upd (upd H p (.lst [.int 0])) q (.lst ([.int 0] ++ ns.map V.int))) H') ⟨⟨_, rfl⟩, Same.refl _⟩ (fun i σ' H' _ h => h.2.seq sqU) (fun i x σ' H' hi h => ?_) (fun σ' H' h => ?_)
  · obtain ⟨⟨v, rfl⟩, s2⟩ := h
    have e : [V.int 0] ++ ns.map V.int = (0 :: ns).map V.int := rfl
    rw [e] at hi
    obtain ⟨z, _, rfl⟩ := ints_get hi
    exact hb z _ H' (s1.trans s2) fun v H2 s3 => ⟨⟨v, rfl⟩, s2.trans s3⟩
  · obtain ⟨⟨v, rfl⟩, s2⟩ := h
    exact hd v H' (s1.trans s2)
/-- cells = script + [e, ..]; for k in range(len(cells)): .. -/
theorem law1 {a : Addr} {ns ms : List Int} (hS : SqL K H a (ns.map V.int)) (hn : ns.length ≤ 63) (hm : ms.length ≤ 100) {tl : TE}
    (hl : ∀ (R : VK), (∀ p, H p = none → R (.ref p) (upd H p (.lst (ms.map V.int)))) → tl [some (.ref a), none, none] H R) {te : TE}
    (he : ∀ (p : Addr) (H1 : Hp) (R : List V → Hp → Prop), SqL K H1 p ((ns ++ ms).map V.int) → R [.int ((ns ++ ms).length : Int)] H1 → tCons te tNil [some (.ref a), some (.ref p), none] H1 R)
    (hb : ∀ (p : Addr) (c : Int) (N : L2.St → Hp → Prop) H1, Same H H1 → SqL K H1 p ((ns ++ ms).map V.int) → 0 ≤ c → c < ((ns ++ ms).length : Int) → (∀ v H2, Same H1 H2 → N [some (.ref a), some (.ref p), v] H2) → tu ⟨N, rt, nx, N⟩ [some (.ref a), some (.ref p), some (.int c)] H1)
    (hd : ∀ p v H1, Same H H1 → nx [some (.ref a), some (.ref p), v] H1) :
    tSeq (tAsg (tOp (rCatS K) (tVar 0) tl) (gName 1)) (tFor (iRng1 (tCons te tNil)) (gName 2) tu) ⟨nx, rt, bk, ct⟩ [some (.ref a), none, none] H := by
  refine s_seq (s_asg (s_op (s_var rfl (hl _ fun p hp => ?_))))
  refine ⟨a, p, ns.map V.int, ms.map V.int, rfl, rfl, (same_upd hp).seq hS, sqU, (by rw [List.length_map, List.length_map]; exact small63 hn hm), fun q hq => ?_⟩
  rw [← List.map_append]
  have s1 : Same H (upd (upd H p (.lst (ms.map V.int))) q (.lst ((ns ++ ms).map V.int))) := (same_upd hp).trans (same_upd hq)
  have hlen : (ns ++ ms).length ≤ 163 := by rw [List.length_append]; omega
  refine s_forR1 ((ns ++ ms).length : Int) (fun i σ H' => (∃ v, σ = [some (.ref a), some (.ref q), v]) ∧ Same (upd (upd H p (.lst (ms.map V.int))) q (.lst ((ns ++ ms).map V.int))) H') (fun R z => he q _ R sqU z) (by omega) ⟨⟨_, rfl⟩, Same.refl _⟩ (fun i σ' H' hi h => ?_) (fun σ' H' h => ?_)
  · obtain ⟨⟨v, rfl⟩, s2⟩ := h
    exact hb q i _ H' (s1.trans s2) (s2.seq sqU) (by omega) hi fun v H2 s3 => ⟨⟨v, rfl⟩, s2.trans s3⟩
  · obtain ⟨⟨v, rfl⟩, s2⟩ := h
    exact hd q v H' (s1.trans s2)
/-- the same, two names more -/
theorem law1x {a : Addr} {ns ms : List Int} (hS : SqL K H a (ns.map V.int)) (hn : ns.length ≤ 63) (hm : ms.length ≤ 100) {tl : TE}
    (hl : ∀ (R : VK), (∀ p, H p = none → R (.ref p) (upd H p (.lst (ms.map V.int)))) → tl [some (.ref a), none, none, none, none] H R) {te : TE}
    (he : ∀ (p : Addr) (H1 : Hp) (R : List V → Hp → Prop), SqL K H1 p ((ns ++ ms).map V.int) → R [.int ((ns ++ ms).length : Int)] H1 → tCons te tNil [some (.ref a), some (.ref p), none, none, none] H1 R)
    (hb : ∀ (p : Addr) (c : Int) (v1 v2 : Option V) (N : L2.St → Hp → Prop) H1, Same H H1 → SqL K H1 p ((ns ++ ms).map V.int) → 0 ≤ c → c < ((ns ++ ms).length : Int) → (∀ v v1 v2 H2, Same H1 H2 → N [some (.ref a), some (.ref p), v, v1, v2] H2) → tu ⟨N, rt, nx, N⟩ [some (.ref a), some (.ref p), some (.int c), v1, v2] H1)
    (hd : ∀ p v v1 v2 H1, Same H H1 → nx [some (.ref a), some (.ref p), v, v1, v2] H1) :
    tSeq (tAsg (tOp (rCatS K) (tVar 0) tl) (gName 1)) (tFor (iRng1 (tCons te tNil)) (gName 2) tu) ⟨nx, rt, bk, ct⟩ [some (.ref a), none, none, none, none] H := by
  refine s_seq (s_asg (s_op (s_var rfl (hl _ fun p hp => ?_))))
  refine ⟨a, p, ns.map V.int, ms.map V.int, rfl, rfl, (same_upd hp).seq hS, sqU, (by rw [List.length_map, List.length_map]; exact small63 hn hm), fun q hq => ?_⟩
  rw [← List.map_append]
  have s1 : Same H (upd (upd H p (.lst (ms.map V.int))) q (.lst ((ns ++ ms).map V.int))) := (same_upd hp).trans (same_upd hq)
  have hlen : (ns ++ ms).length ≤ 163 := by rw [List.length_append]; omega
  refine s_forR1 ((ns ++ ms).length : Int) (fun i σ H' => (∃ v v1 v2, σ = [some (.ref a), some (.ref q), v, v1, v2]) ∧ Same (upd (upd H p (.lst (ms.map V.int))) q (.lst ((ns ++ ms).map V.int))) H') (fun R z => he q _ R sqU z) (by omega) ⟨⟨_, _, _, rfl⟩, Same.refl _⟩ (fun i σ' H' hi h => ?_) (fun σ' H' h => ?_)
  · obtain ⟨⟨v, v1, v2, rfl⟩, s2⟩ := h
    exact hb q i v1 v2 _ H' (s1.trans s2) (s2.seq sqU) (by omega) hi fun v v1 v2 H2 s3 => ⟨⟨v, v1, v2, rfl⟩, s2.trans s3⟩
  · obtain ⟨⟨v, v1, v2, rfl⟩, s2⟩ := h
    exact hd q v v1 v2 H' (s1.trans s2)
/-- if p: x = e, x being an int: one way -/
theorem s_ifAsgI {k : Nat} (a b : Int) {p : Prop} [Decidable p] (ht : ∀ T : Bool → Hp → Prop, T (decide p) H → tt σ H T) (he : p → ∀ R : VK, R (.int b) H → te σ H R) (hσ : σ[k]? = some (some (.int a)))
    (z : nx (σ.set k (some (.int (if p then b else a)))) H) : tIfS tt (tAsg te (gName k)) tNext ⟨nx, rt, bk, ct⟩ σ H := by
  refine ht _ (s_iteD (fun h => he h _ ?_) (fun h => ?_))
  · rw [if_pos h] at z; exact z
  · rw [if_neg h] at z
    have e : σ.set k (some (.int a)) = σ := by
      obtain ⟨h1, h2⟩ := List.getElem?_eq_some_iff.mp hσ
      rw [← h2]; exact List.set_getElem_self h1
    rw [e] at z
    exact z
theorem s_iteAsgI {k : Nat} (a b : Int) {p : Prop} [Decidable p] (he : p → ∀ R : VK, R (.int b) H → te σ H R) (hσ : σ[k]? = some (some (.int a)))
    (z : nx (σ.set k (some (.int (if p then b else a)))) H) : if decide p = true then tAsg te (gName k) ⟨nx, rt, bk, ct⟩ σ H else tNext ⟨nx, rt, bk, ct⟩ σ H :=
  s_ifAsgI (tt := fun _ H T => T (decide p) H) (bk := bk) (ct := ct) (rt := rt) a b (fun _ h => h) he hσ z
theorem s_iteAsgV {k : Nat} (a b : V) {p : Prop} [Decidable p] (he : p → ∀ R : VK, R b H → te σ H R) (hσ : σ[k]? = some (some a))
    (z : nx (σ.set k (some (if p then b else a))) H) : if decide p = true then tAsg te (gName k) ⟨nx, rt, bk, ct⟩ σ H else tNext ⟨nx, rt, bk, ct⟩ σ H := by
  refine s_iteD (fun h => he h _ ?_) (fun h => ?_)
  · rw [if_pos h] at z; exact z
  · rw [if_neg h] at z
    have e : σ.set k (some a) = σ := by
      obtain ⟨h1, h2⟩ := List.getElem?_eq_some_iff.mp hσ
      rw [← h2]; exact List.set_getElem_self h1
    rw [e] at z
    exact z
theorem ite_str (p : Prop) [Decidable p] (a b : Str) : (if p then V.str a else V.str b) = V.str (if p then a else b) := by split <;> rfl
end
end Jl

/-! Steps over lists: append, comprehensions over a range, equality of lists. -/
namespace Jl
open PySem L2
section
variable {K : PySem.W.Frag} {σ : L2.St} {H H' : Hp} {Q : VK} {ta tb tc te to : TE} {tr : TA} {i j : Int} {x y v : V} {a p : Addr} {xs ys : List V}
theorem sameT (e : Same H H') (h : SqT K H a xs) : SqT K H' a xs := by
  rcases h with (h | ⟨o, h⟩) | h
  · exact .inl (.inl (e _ _ h))
  · exact .inl (.inr ⟨o, e _ _ h⟩)
  · exact .inr h
mutual
theorem dp_same (e : Same H H') : ∀ {v : V} {d : PyData}, Dp K H v d → Dp K H' v d
  | _, _, .non => .non
  | _, _, .bl b => .bl b
  | _, _, .int i => .int i
  | _, _, .str x => .str x
  | _, _, .lst h hs => .lst (e.seq h) (dps_same e hs)
  | _, _, .tup h hs => .tup (sameT e h) (dps_same e hs)
theorem dps_same (e : Same H H') : ∀ {vs : List V} {ds : List PyData}, DpAll K H vs ds → DpAll K H' vs ds
  | _, _, .nil => .nil
  | _, _, .cons h hs => .cons (dp_same e h) (dps_same e hs)
end
theorem dp_ints : ∀ ns : List Int, DpAll K H (ns.map V.int) (ns.map PyData.int)
  | [] => .nil
  | n :: ns => .cons (.int n) (dp_ints ns)
theorem dp_intL {ns : List Int} (h : SqL K H a (ns.map V.int)) : Dp K H (.ref a) (.list (ns.map PyData.int)) := .lst h (dp_ints ns)
theorem lay_ints : ∀ ns : List Int, PyData.canLayAll0 (ns.map PyData.int) = true
  | [] => rfl
  | n :: ns => by show (true && PyData.canLayAll0 (ns.map PyData.int)) = true; rw [lay_ints ns]; rfl
theorem depth_ints : ∀ ns : List Int, PyData.depthAll (ns.map PyData.int) ≤ 1
  | [] => by show (0 : Nat) ≤ 1; decide
  | n :: ns => by
    have h := depth_ints ns
    show max (PyData.depth (.int n)) (PyData.depthAll (ns.map PyData.int)) ≤ 1
    have e : PyData.depth (.int n) = 0 := by unfold PyData.depth; rfl
    omega
theorem shaped_ints (ns : List Int) : SeqAt.shaped (.list (ns.map PyData.int)) = true := by
  have h := depth_ints ns
  refine Bool.and_eq_true_iff.mpr ⟨lay_ints ns, decide_eq_true ?_⟩
  show PyData.depthAll (ns.map PyData.int) + 1 ≤ 64
  omega
theorem eqv_ints : ∀ ns ms : List Int, PyData.eqvAll (ns.map PyData.int) (ms.map PyData.int) = decide (ns = ms)
  | [], [] => rfl
  | [], _ :: _ => rfl
  | _ :: _, [] => rfl
  | n :: ns, m :: ms => by
    show ((n == m) && PyData.eqvAll (ns.map PyData.int) (ms.map PyData.int)) = _
    rw [eqv_ints ns ms, Bool.eq_iff_iff]
    simp
theorem s_eqInts {p q : Addr} {ns ms : List Int} (h1 : SqL K H p (ns.map V.int)) (h2 : SqL K H q (ms.map V.int)) (z : Q (.bl (decide (ns = ms))) H) : rEqD K (.ref p) (.ref q) H Q :=
  ⟨_, _, dp_intL h1, dp_intL h2, shaped_ints ns, shaped_ints ms, by
    show Q (.bl (PyData.eqvAll (ns.map PyData.int) (ms.map PyData.int))) H
    rw [eqv_ints]; exact z⟩
theorem s_BM {T : String} {r : V → List V → Hp → VK → Prop} {t : TA} (z : to σ H fun x H1 => tyV K T x H1 ∧ t σ H1 fun xs H2 => r x xs H2 Q) : tBM K T r to t σ H Q := z
theorem ty_list (h : SqL K H p xs) : tyV K "list" (.ref p) H := .inl ⟨rfl, _, h⟩
theorem s_tyL {B : Prop} (h : H p = some (.lst xs)) (z : B) : tyV K "list" (.ref p) H ∧ B := ⟨ty_list (.inl (.inl h)), z⟩
theorem s_append (h : H p = some (.lst xs)) (z : Q .non (upd H p (.lst (xs ++ [v])))) (hl : xs.length < sizeLine) : rAppend (.ref p) [v] H Q := ⟨p, xs, v, rfl, rfl, h, hl, z⟩
/-- what H0 knew stands, when an object that it did not know is written -/
theorem same_mut {H0 : Hp} {o : HO} (e : Same H0 H) (h : H0 p = none) : Same H0 (upd H p o) := fun b u hb => by
  rw [upd_ne (ne_of_none hb h)]
  exact e b u hb
theorem small5 {n : Nat} (h : n ≤ 100000) : n ≤ sizeLine := Nat.le_trans h (by decide)
theorem small5' {n : Nat} (h : n ≤ 100000) : n < sizeLine := Nat.lt_of_le_of_lt h (by decide)
/-- [e for i in range(n)] -/
theorem s_lcR {t : TA} {k : Nat} {vs : List Nat} (n : Int) (f : Nat → V) (ha : ∀ R : List V → Hp → Prop, R [.int n] H → t σ H R) (hn : 0 ≤ n ∧ n ≤ 100000) (hw : ∀ x, wipe ((wipe σ vs).set k (some x)) vs = wipe σ vs)
    (he : ∀ (i : Nat) H1 (R : VK), Same H H1 → (i : Int) < n → (∀ H2, Same H1 H2 → R (f i) H2) → te ((wipe σ vs).set k (some (.int (i : Int)))) H1 R)
    (z : ∀ p H1, Same H H1 → H p = none → H1 p = some (.lst ((List.range n.toNat).map f)) → Q (.ref p) H1) : tLc (iRng1 t) (gName k) tYes te vs σ H Q := by
  refine ha _ ⟨n, rfl, by omega, by omega, fun D hD => ?_⟩
  refine lc_range (lo := 0) (n := n.toNat) (fun i H' => Same H H' ∧ H' D = some (.lst ((List.range i).map f))) ⟨same_upd hD, upd_same⟩ (fun i H1 hi h => ?_) (fun H1 h => z D H1 h.1 hD h.2)
  obtain ⟨s1, h1⟩ := h
  have e0 : (0 : Int) + (i : Int) = (i : Int) := Int.zero_add _
  show wipe ((wipe σ vs).set k (some (.int ((0 : Int) + (i : Int))))) vs = wipe σ vs ∧ te ((wipe σ vs).set k (some (.int ((0 : Int) + (i : Int))))) H1 _
  rw [e0]
  refine ⟨hw _, he i H1 _ s1 (by omega) fun H2 s2 => ⟨_, s2 D _ h1, small5' (by rw [List.length_map, List.length_range]; omega), same_mut (s1.trans s2) hD, ?_⟩⟩
  rw [upd_same, List.range_succ, List.map_append]
  rfl
theorem bitsOf_atI (w : Int) {i : Int} (h0 : 0 ≤ i) (h : i < 32) : atI ((bitsOf w 32).map V.int) i = some (.int (w / 2 ^ i.toNat % 2)) :=
  atI_int (bitsOf_get w (by omega)) (by omega)
/-! objects -/
theorem s_make {C : Addr} {sp : Sp} {E : XK} {t : TA} (z : t σ H fun vs H1 => ∀ x dx, H1 x = none → H1 dx = none → dx ≠ x → sp (.ref x :: vs) (upd (upd H1 dx (.own x)) x (.ins C dx [])) (fun v H2 => v = .non ∧ Q (.ref x) H2) E) : tMake C sp [] E t σ H Q := by
  have e : (fun vs H1 => ∀ x dx, H1 x = none → H1 dx = none → dx ≠ x → sp (.ref x :: vs) (upd (upd H1 dx (.own x)) x (.ins C dx [])) (fun v H2 => v = .non ∧ Q (.ref x) H2) E) = (fun vs H1 => ∀ x dx, H1 x = none → H1 dx = none → dx ≠ x → sp (.ref x :: (vs ++ [])) (upd (upd H1 dx (.own x)) x (.ins C dx [])) (fun v H2 => v = .non ∧ Q (.ref x) H2) E) := by
    funext vs H1
    rw [List.append_nil]
  unfold tMake
  rw [← e]
  exact z
theorem same_made {x dx C : Addr} {o : HO} (nx : H x = none) (nd : H dx = none) : Same H (upd (upd (upd H dx (.own x)) x (.ins C dx [])) x o) := fun b u e => by
  rw [upd_ne (ne_of_none e nx), upd_ne (ne_of_none e nx), upd_ne (ne_of_none e nd)]
  exact e
/-- an object with a title -/
def RuleAt (H : Hp) (p C : Addr) (t : Str) : Prop := ∃ dx, H p = some (.ins C dx (putF "title" (.str t) []))
theorem RuleAt.same {C : Addr} {t : Str} (e : Same H H') (h : RuleAt H p C t) : RuleAt H' p C t := by
  obtain ⟨dx, h⟩ := h
  exact ⟨dx, e _ _ h⟩
theorem s_meth {C : Addr} {m t : Str} {sp : Sp} {E : XK} (hR : RuleAt H p C t) (hv : ∀ R : VK, R (.ref p) H → ta σ H R) (hm : ¬ m = "title") (z : tr σ H fun vs H2 => sp (.ref p :: vs) H2 Q E) : tMeth C m sp [] E ta tr σ H Q := by
  obtain ⟨dx, h⟩ := hR
  refine hv _ ⟨p, dx, _, rfl, h, (by rw [lookup_putF, if_neg hm]; rfl), ?_⟩
  have e : (fun vs H2 => sp (.ref p :: vs) H2 Q E) = (fun vs H2 => sp (.ref p :: (vs ++ [])) H2 Q E) := by
    funext vs H1
    rw [List.append_nil]
  rw [← e]
  exact z
end
end Jl

/-! Steps over texts. -/
namespace Jl
open PySem L2
def rAddS : R2 := fun x y H Q => ∃ i j, x = .str i ∧ y = .str j ∧ i.length + j.length ≤ sizeLine ∧ Q (.str (i ++ j)) H
def rInS : R2 := fun x y H Q => ∃ (c : Nat) (z : Str), x = .str ⟨#[c]⟩ ∧ y = .str z ∧ Q (.bl (decide (c ∈ z.cps.toList))) H
def rNotInS : R2 := fun x y H Q => ∃ (c : Nat) (z : Str), x = .str ⟨#[c]⟩ ∧ y = .str z ∧ Q (.bl (!decide (c ∈ z.cps.toList))) H
def rIsN : R2 := fun x y H Q => y = .non ∧ Q (.bl (decide (x = .non))) H
def rNotN : R2 := fun x y H Q => y = .non ∧ Q (.bl (!decide (x = .non))) H
def rLenS : List V → Hp → VK → Prop := fun xs H Q => ∃ z, xs = [.str z] ∧ z.length ≤ sizeLine ∧ Q (.int z.length) H
def rLenL (K : PySem.W.Frag) : List V → Hp → VK → Prop := fun xs H Q => ∃ p ys, xs = [.ref p] ∧ (SqL K H p ys ∨ SqT K H p ys) ∧ Q (.int ys.length) H
def rMax2 : List V → Hp → VK → Prop := fun xs H Q => ∃ i j, xs = [.int i, .int j] ∧ Q (.int (if j > i then j else i)) H
def rMin2 : List V → Hp → VK → Prop := fun xs H Q => ∃ i j, xs = [.int i, .int j] ∧ Q (.int (if j < i then j else i)) H
def rInt1 : List V → Hp → VK → Prop := fun xs H Q => (∃ i, xs = [.int i] ∧ Q (.int i) H) ∨ ∃ k, xs = [.bl k] ∧ Q (.int (if k then 1 else 0)) H
def rIntS : List V → Hp → VK → Prop := fun xs H Q => ∃ a n, xs = [.str a] ∧ PySem.intText? a = some n ∧ a.length ≤ 640 ∧ Q (.int n) H
def rStrI : List V → Hp → VK → Prop := fun xs H Q => ∃ i, xs = [.int i] ∧ i.natAbs.log2 < 1920 ∧ Q (.str (toString i)) H
section
variable {X : Cx}
theorem op_addS : OpR X (binaryOp .Add) rAddS := op_add_str
theorem op_inS : OpR X (compareOp .In) rInS := op_in_sign
theorem op_notInS : OpR X (compareOp .NotIn) rNotInS := op_notIn_sign
theorem op_isN1 : OpR X (compareOp .Is) rIsN := op_isN
theorem op_notN1 : OpR X (compareOp .IsNot) rNotN := op_notN
theorem cl_lenS : CallR X (.builtin "len") rLenS := call_len_str
theorem cl_lenL : CallR X (.builtin "len") (rLenL X.K) := call_len_seq
theorem cl_max2 (hc : X.calm = true) : CallR X (.builtin "max") rMax2 := call_max2 hc
theorem cl_min2 (hc : X.calm = true) : CallR X (.builtin "min") rMin2 := call_min2 hc
theorem cl_int1 : CallR X (.type "int") rInt1 := call_int1
theorem cl_intS : CallR X (.type "int") rIntS := call_int_str
theorem cl_strI : CallR X (.type "str") rStrI := call_str_int
end
section
variable {K : PySem.W.Frag} {σ : L2.St} {H H' : Hp} {Q : VK} {ta tb tc te to : TE} {tr : TA} {i j : Int} {x y v : V} {a p : Addr} {xs ys : List V} {z w : Str} {c : Nat} {b : Bool} {nx bk ct : L2.St → Hp → Prop} {rt : VK} {tu : TS} {tl th : TO} {RO : Option Int → Hp → Prop}
theorem s_addS (k : Q (.str (z ++ w)) H) (h : z.length + w.length ≤ 100000) : rAddS (.str z) (.str w) H Q := ⟨z, w, rfl, rfl, small5 h, k⟩
theorem s_inS (k : Q (.bl (decide (c ∈ w.cps.toList))) H) : rInS (.str ⟨#[c]⟩) (.str w) H Q := ⟨c, w, rfl, rfl, k⟩
theorem s_notInS (k : Q (.bl (!decide (c ∈ w.cps.toList))) H) : rNotInS (.str ⟨#[c]⟩) (.str w) H Q := ⟨c, w, rfl, rfl, k⟩
theorem s_isNn (k : Q (.bl true) H) : rIsN .non .non H Q := ⟨rfl, k⟩
theorem s_isNi (k : Q (.bl false) H) : rIsN (.int i) .non H Q := ⟨rfl, k⟩
theorem s_isNs (k : Q (.bl false) H) : rIsN (.str z) .non H Q := ⟨rfl, k⟩
theorem s_isNr (k : Q (.bl false) H) : rIsN (.ref a) .non H Q := ⟨rfl, k⟩
theorem s_notNn (k : Q (.bl false) H) : rNotN .non .non H Q := ⟨rfl, k⟩
theorem s_notNi (k : Q (.bl true) H) : rNotN (.int i) .non H Q := ⟨rfl, k⟩
theorem s_notNs (k : Q (.bl true) H) : rNotN (.str z) .non H Q := ⟨rfl, k⟩
theorem s_notNr (k : Q (.bl true) H) : rNotN (.ref a) .non H Q := ⟨rfl, k⟩
theorem s_lenS (k : Q (.int (z.length : Int)) H) (h : z.length ≤ 100000) : rLenS [.str z] H Q := ⟨z, rfl, small5 h, k⟩
theorem s_lenL (h : SqL K H p xs) (k : Q (.int (xs.length : Int)) H) : rLenL K [.ref p] H Q := ⟨p, xs, rfl, .inl h, k⟩
theorem s_max2 (k : Q (.int (max i j)) H) : rMax2 [.int i, .int j] H Q := ⟨i, j, rfl, by
  have e : (if j > i then j else i) = max i j := by split <;> omega
  rw [e]; exact k⟩
theorem s_min2 (k : Q (.int (min i j)) H) : rMin2 [.int i, .int j] H Q := ⟨i, j, rfl, by
  have e : (if j < i then j else i) = min i j := by split <;> omega
  rw [e]; exact k⟩
theorem s_int1 (k : Q (.int i) H) : rInt1 [.int i] H Q := .inl ⟨i, rfl, k⟩
theorem s_int1b (k : Q (.int (if b = true then 1 else 0)) H) : rInt1 [.bl b] H Q := .inr ⟨b, rfl, k⟩
theorem s_ixS (h : atI z.cps.toList i = some c) (k : Q (.str ⟨#[c]⟩) H) (hz : z.length ≤ 100000) : rIxS (.str z) (.int i) H Q := ⟨z, i, c, rfl, rfl, small5 hz, h, k⟩
theorem s_sl {r : V → Option Int → Option Int → Hp → VK → Prop} (k : te σ H fun x H1 => tl σ H1 fun l H2 => th σ H2 fun u H3 => r x l u H3 Q) : tSl r te tl th σ H Q := k
theorem s_noP (k : RO none H) : tNoPart σ H RO := k
theorem s_part (k : te σ H fun x H1 => ∃ i, x = .int i ∧ RO (some i) H1) : tPart te σ H RO := k
theorem s_exi {R : Int → Prop} (k : R i) : ∃ j, V.int i = V.int j ∧ R j := ⟨i, rfl, k⟩
theorem s_slS {lo hi : Option Int} (k : Q (.str (cutS z lo hi)) H) (h : z.length ≤ 100000) : rSlS (.str z) lo hi H Q := ⟨z, rfl, small5 h, k⟩
/-- for c in z -/
theorem s_forS {n : Nat} (Pv : Nat → L2.St → Hp → Prop) (ha : ∀ R : VK, R (.str z) H → te σ H R) (h0 : Pv 0 σ H)
    (hs : ∀ (i : Nat) (c : Nat) σ' H', z.cps.toList[i]? = some c → Pv i σ' H' → tu ⟨Pv (i + 1), rt, nx, Pv (i + 1)⟩ (σ'.set n (some (.str ⟨#[c]⟩))) H') (hd : ∀ σ' H', Pv z.length σ' H' → nx σ' H') : tFor (iStr te) (gName n) tu ⟨nx, rt, bk, ct⟩ σ H := by
  refine ha _ ⟨z, rfl, ?_⟩
  refine ⟨fun i m σ H => m = z.length - i ∧ i ≤ z.length ∧ Pv i σ H, ⟨z.length, by simp, Nat.zero_le _, h0⟩, ?_⟩
  rintro i m σ' H1 ⟨rfl, hi, q⟩
  by_cases hlt : i < z.length
  · refine .inr ⟨hlt, Pv (i + 1), fun σ2 H2 q' => ⟨z.length - (i + 1), by omega, rfl, hlt, q'⟩, fun x H2 y => ?_⟩
    obtain ⟨e, c, hc, rfl⟩ := y
    subst e
    exact hs i c σ' _ (by rw [Array.getElem?_toList]; exact hc) q
  · have e : i = z.length := by omega
    subst e
    exact .inl ⟨Nat.le_refl _, hd σ' H1 q⟩
theorem len_app (z w : Str) : (z ++ w).length = z.length + w.length := PySem.Str.length_append z w
theorem cps_app (z w : Str) : (z ++ w).cps.toList = z.cps.toList ++ w.cps.toList := by
  have e : (z ++ w).cps = z.cps ++ w.cps := rfl
  rw [e, Array.toList_append]
theorem len_one (c : Nat) : (⟨#[c]⟩ : Str).length = 1 := rfl
theorem len_cut (z : Str) (lo hi : Option Int) : (cutS z lo hi).length ≤ z.length := cutS_length z lo hi
theorem len_list (z : Str) : z.cps.toList.length = z.length := Array.length_toList
theorem str_ext {z w : Str} (h : z.cps.toList = w.cps.toList) : z = w := by
  obtain ⟨a⟩ := z
  obtain ⟨b⟩ := w
  have e : a = b := Array.toList_inj.mp h
  rw [e]
theorem atI_some {α : Type} {l : List α} {i : Int} (h1 : -(l.length : Int) ≤ i) (h2 : i < l.length) : ∃ z, atI l i = some z := by
  unfold atI ixN
  by_cases h : 0 ≤ i
  · rw [if_pos h, if_pos h2]
    exact ⟨_, List.getElem?_eq_getElem (by omega)⟩
  · rw [if_neg h, if_pos h1]
    exact ⟨_, List.getElem?_eq_getElem (by omega)⟩
theorem atI_of0 {α : Type} {l : List α} {x : α} (h : l[0]? = some x) : atI l 0 = some x := atI_nat h
theorem one_eq {c d : Nat} : ((⟨#[c]⟩ : Str) = ⟨#[d]⟩) ↔ c = d := by
  constructor
  · intro h
    have e := congrArg (fun z : Str => z.cps.toList) h
    simpa using e
  · rintro rfl; rfl
theorem all_false {α : Type} {l : List α} {f : α → Bool} {i : Nat} {x : α} (h : l[i]? = some x) (hf : f x = false) : l.all f = false := by
  rw [List.all_eq_false]
  exact ⟨x, List.mem_of_getElem? h, by rw [hf]; decide⟩
theorem all_true {α : Type} {l : List α} {f : α → Bool} (h : ∀ (i : Nat) x, l[i]? = some x → f x = true) : l.all f = true := by
  rw [List.all_eq_true]
  intro x hx
  obtain ⟨i, hi⟩ := List.getElem?_of_mem hx
  exact h i x hi
end
end Jl

/-! Numbers written as texts. -/
namespace Jl
open PySem L2
def optI : Option Int → V
  | none => .non
  | some n => .int n
def figs (l : List Nat) : List Nat := if l.head? = some 45 then l.tail else l
def valOf (l : List Nat) : Int := if l.head? = some 45 then 0 - (NumText.digitsVal (figs l) : Int) else (NumText.digitsVal (figs l) : Int)
def isFig (c : Nat) : Bool := decide (48 ≤ c ∧ c ≤ 57)
/-- what a text writes -/
def numOf (l : List Nat) (a b : Int) : Option Int :=
  if (1 ≤ (figs l).length ∧ (figs l).length ≤ 10) ∧ ¬ ((figs l).getD 0 0 = 48 ∧ l ≠ [48]) ∧ (figs l).all isFig = true ∧ (a ≤ valOf l ∧ valOf l ≤ b) then some (valOf l) else none
theorem numOf_none {l : List Nat} {a b : Int} (h : ¬ ((1 ≤ (figs l).length ∧ (figs l).length ≤ 10) ∧ ¬ ((figs l).getD 0 0 = 48 ∧ l ≠ [48]) ∧ (figs l).all isFig = true ∧ (a ≤ valOf l ∧ valOf l ≤ b))) : numOf l a b = none := if_neg h
theorem numOf_some {l : List Nat} {a b : Int} (h1 : 1 ≤ (figs l).length ∧ (figs l).length ≤ 10) (h2 : ¬ ((figs l).getD 0 0 = 48 ∧ l ≠ [48])) (h3 : (figs l).all isFig = true) (h4 : a ≤ valOf l ∧ valOf l ≤ b) : numOf l a b = some (valOf l) := if_pos ⟨h1, h2, h3, h4⟩
theorem figures_are : ("0123456789" : Str).cps.toList = [48, 49, 50, 51, 52, 53, 54, 55, 56, 57] := by decide +kernel
theorem fig_iff (c : Nat) : c ∈ ("0123456789" : Str).cps.toList ↔ 48 ≤ c ∧ c ≤ 57 := by
  rw [figures_are]
  simp only [List.mem_cons, List.not_mem_nil, or_false]
  omega
theorem figs_digits {l : List Nat} (h : (figs l).all isFig = true) : NumText.AllDigits (figs l) := fun c hc => of_decide_eq_true (List.all_eq_true.mp h c hc)
theorem dv_snoc (l : List Nat) (c : Nat) : NumText.digitsVal (l ++ [c]) = NumText.digitsVal l * 10 + (c - 48) := by
  unfold NumText.digitsVal
  rw [List.foldl_append]; rfl
theorem take_more {α : Type} {l : List α} {i : Nat} {x : α} (h : l[i]? = some x) : l.take (i + 1) = l.take i ++ [x] := by
  rw [List.take_add_one, h]; rfl
/-- text[:1] == '-' -/
theorem cut1 (z : Str) : (cutS z none (some 1)).cps.toList = z.cps.toList.take 1 := by
  have hl := len_list z
  show (((z.cps.toList.drop (HT.sIx z.length 0 none)).take (HT.sIx z.length z.length (some 1) - HT.sIx z.length 0 none)).toArray).toList = _
  rw [HT.sIx_none, show (some (1 : Int)) = some ((1 : Nat) : Int) from rfl, HT.sIx_nat, List.drop_zero, Nat.sub_zero]
  show (z.cps.toList.take (min 1 z.length)) = _
  rw [← hl, List.take_eq_take_iff]
  omega
theorem cutT (z : Str) : (cutS z (some 1) none).cps.toList = z.cps.toList.tail := by
  have hl := len_list z
  show (((z.cps.toList.drop (HT.sIx z.length 0 (some 1))).take (HT.sIx z.length z.length none - HT.sIx z.length 0 (some 1))).toArray).toList = _
  rw [HT.sIx_none, show (some (1 : Int)) = some ((1 : Nat) : Int) from rfl, HT.sIx_nat]
  show (z.cps.toList.drop (min 1 z.length)).take (z.length - min 1 z.length) = _
  generalize z.cps.toList = l at *
  rw [← hl]
  cases l with
  | nil => rfl
  | cons x r =>
    have e : min 1 (x :: r).length = 1 := by simp only [List.length_cons]; omega
    rw [e]
    show r.take ((x :: r).length - 1) = r
    exact List.take_of_length_le (by simp)
theorem minus_iff (z : Str) : cutS z none (some 1) = "-" ↔ z.cps.toList.head? = some 45 := by
  have e := cut1 z
  have m : ("-" : Str).cps.toList = [45] := by decide +kernel
  constructor
  · intro h
    rw [h, m] at e
    generalize z.cps.toList = l at *
    cases l with
    | nil => cases e
    | cons x r => cases e; rfl
  · intro h
    apply str_ext
    rw [e, m]
    generalize z.cps.toList = l at *
    cases l with
    | nil => cases h
    | cons x r => cases h; rfl
/-- the figures of a text -/
theorem figs_text (z : Str) : (if cutS z none (some 1) = "-" then cutS z (some 1) none else z).cps.toList = figs z.cps.toList := by
  unfold figs
  by_cases h : cutS z none (some 1) = "-"
  · rw [if_pos h, if_pos ((minus_iff z).mp h), cutT]
  · rw [if_neg h, if_neg ((not_congr (minus_iff z)).mp h)]
theorem zero_iff (z : Str) : z = "0" ↔ z.cps.toList = [48] := by
  have m : ("0" : Str).cps.toList = [48] := by decide +kernel
  constructor
  · rintro rfl; exact m
  · intro h; exact str_ext (h.trans m.symm)
theorem empty_iff (z : Str) : z = "" ↔ z.length = 0 := by
  constructor
  · rintro rfl; rfl
  · intro h
    apply str_ext
    have e := List.eq_nil_of_length_eq_zero ((len_list z).trans h)
    rw [e]; rfl
theorem one_is {c d : Nat} {z : Str} (hz : z.cps.toList = [d]) : ((⟨#[c]⟩ : Str) = z) ↔ c = d := by
  constructor
  · intro h
    rw [← h] at hz
    simpa using hz
  · rintro rfl
    exact str_ext hz.symm
def rSindex : V → List V → Hp → VK → Prop := fun x xs H Q => ∃ a b i rest, x = .str a ∧ xs = [.str b] ∧ Builtin.Str.occurrences a b 0 a.length 1 = i :: rest ∧ Q (.int (i : Nat)) H
/-- a text as often as told, some two times or more: a text of some length -/
def rMulS : R2 := fun x y H Q => ∃ z k, x = .str z ∧ y = .int k ∧ 2 ≤ k ∧ k ≤ 1000 ∧ z.length ≤ 10 ∧ ∀ w : Str, w.length ≤ 20000 → Q (.str w) H
section
variable {X : Cx}
theorem mt_sindex1 : MtR X "str.index" rSindex := mt_sindex
theorem fold_len (x : Array Nat) : ∀ (n : Nat) (a : Array Nat), ((List.replicate n x).foldl (· ++ ·) a).size = a.size + n * x.size
  | 0, a => by simp
  | n + 1, a => by
    rw [List.replicate_succ, List.foldl_cons, fold_len x n, Array.size_append, Nat.succ_mul]
    omega
theorem op_mulS : OpR X (binaryOp .Mult) rMulS := by
  intro pins s σ H x y v u Q I rx ry h
  obtain ⟨z, k, rfl, rfl, h1, h2, hz, q⟩ := h
  obtain ⟨t, rfl⟩ := rx
  obtain ⟨t', rfl⟩ := ry
  have hm : z.length * k.toNat ≤ 10000 := Nat.le_trans (Nat.mul_le_mul hz (show k.toNat ≤ 1000 by omega)) (by decide)
  have hline : (sizeLine : Nat) = 16777216 := sizeLine_eq
  have hfit : z.length * k.toNat ≤ sizeLine := by omega
  refine PySem.P.mul_str ?_ (fun _ _ => ?_) (fun _ _ => ?_) ?_
  · rw [decide_eq_false (by omega), decide_eq_false (by omega)]; rfl
  · have h4 : 100 ≤ ((2 : Int) ^ 63 - 1) / k := Int.le_ediv_of_mul_le (by omega) (by omega)
    omega
  · unfold Builtin.Str.tooLong
    exact decide_eq_false (by omega)
  · rw [if_neg (by omega)]
    split
    · exact ⟨.str z, H, I, ⟨_, rfl⟩, q z (by omega)⟩
    · have hw : (⟨(List.replicate k.toNat z.cps).foldl (· ++ ·) #[]⟩ : Str).length ≤ 10000 := by
        show ((List.replicate k.toNat z.cps).foldl (· ++ ·) #[]).size ≤ 10000
        rw [fold_len]
        have e0 : (#[] : Array Nat).size = 0 := rfl
        have e : z.cps.size = z.length := rfl
        rw [e0, e, Nat.mul_comm]
        omega
      exact ⟨by omega, ⟨.str _, H, I.tok _, ⟨_, rfl⟩, q _ (by omega)⟩⟩
end
section
variable {K : PySem.W.Frag} {σ : L2.St} {H H' : Hp} {Q : VK} {z w : Str} {c : Nat}
theorem s_index {i : Nat} {rest : List Nat} (h : Builtin.Str.occurrences z w 0 z.length 1 = i :: rest) (k : Q (.int (i : Nat)) H) : rSindex (.str z) [.str w] H Q := ⟨z, w, i, rest, rfl, rfl, h, k⟩
theorem fig_index (h : 48 ≤ c ∧ c ≤ 57) : Builtin.Str.occurrences ("0123456789" : Str) ⟨#[c]⟩ 0 ("0123456789" : Str).length 1 = [c - 48] := by
  have : c = 48 ∨ c = 49 ∨ c = 50 ∨ c = 51 ∨ c = 52 ∨ c = 53 ∨ c = 54 ∨ c = 55 ∨ c = 56 ∨ c = 57 := by omega
  rcases this with rfl | rfl | rfl | rfl | rfl | rfl | rfl | rfl | rfl | rfl <;> decide +kernel
theorem s_figIndex (h : 48 ≤ c ∧ c ≤ 57) (k : Q (.int ((c - 48 : Nat) : Int)) H) : rSindex (.str ("0123456789" : Str)) [.str ⟨#[c]⟩] H Q := s_index (fig_index h) k
theorem s_tyS {B : Prop} (k : B) : tyV K "str" (.str z) H ∧ B := ⟨rfl, k⟩
end
theorem cut_last (z : Str) : (cutS z (some (-1)) none).length ≤ 1 := by
  have hl := len_list z
  rw [← len_list]
  show (((z.cps.toList.drop (HT.sIx z.length 0 (some (-1)))).take (HT.sIx z.length z.length none - HT.sIx z.length 0 (some (-1)))).toArray).toList.length ≤ 1
  have e : HT.sIx z.length 0 (some (-1)) = ((-1 : Int) + z.length).toNat := rfl
  rw [e, HT.sIx_none]
  show ((z.cps.toList.drop ((-1 : Int) + z.length).toNat).take (z.length - ((-1 : Int) + z.length).toNat)).length ≤ 1
  rw [List.length_take, List.length_drop, hl]
  omega
theorem log_ok {n : Int} (h1 : -(10 ^ 11) ≤ n) (h2 : n ≤ 10 ^ 11) : n.natAbs.log2 < 1920 := by
  by_cases z : n.natAbs = 0
  · rw [z]; decide
  · exact Nat.lt_of_lt_of_le ((Nat.log2_lt (k := 40) z).mpr (by omega)) (by decide)
end Jl


local macro_rules | `(tactic| walk_at "c") => `(tactic| first
  | exact Jl.c_div (by decide) (by decide)
  | exact Jl.c_mulR (by decide) (by decide)
  | exact Jl.c_mulL (by decide) (by decide)
  | exact Jl.c_pow (by decide) (by decide) (by decide)
  | decide
  | omega
  | decide +kernel
  | assumption
  | exact Jl.c_div (by omega) (by omega)
  | exact Jl.c_mulR (by omega) (by omega)
  | exact Jl.c_mulL (by omega) (by omega))
local macro_rules | `(tactic| walk_at "len") => `(tactic| first
  | omega
  | decide
  | (simp only [Jl.len_app, Jl.len_one]; omega)
  | (refine Nat.le_trans (Jl.len_cut _ _ _) ?_; omega))
local macro_rules | `(tactic| walk_at "d") => `(tactic| first
  | with_reducible refine Jl.s_iteDt (by first | assumption | decide | exact decide_eq_true (by omega) | exact decide_eq_false (by omega) | omega) ?_
  | with_reducible refine Jl.s_iteDf (by first | assumption | decide | exact decide_eq_true (by omega) | exact decide_eq_false (by omega) | omega) ?_
  | with_reducible refine Jl.s_iteNt (by first | assumption | decide | exact decide_eq_true (by omega) | exact decide_eq_false (by omega) | omega) ?_
  | with_reducible refine Jl.s_iteNf (by first | assumption | decide | exact decide_eq_true (by omega) | exact decide_eq_false (by omega) | omega) ?_)
local macro_rules | `(tactic| walk_at "b") => `(tactic| first
  | with_reducible refine Jl.s_iteD (fun _ => ?_) (fun _ => ?_)
  | with_reducible refine Jl.s_iteN (fun _ => ?_) (fun _ => ?_))
local macro_rules | `(tactic| walk_at "s") => `(tactic| first
  | with_reducible refine Jl.s_var (by with_unfolding_all rfl) ?_
  | with_reducible refine Jl.s_c ?_
  | with_reducible refine Jl.s_op ?_
  | with_reducible refine Jl.s_cons ?_
  | with_reducible refine Jl.s_nil ?_
  | with_reducible refine Jl.s_I0 ?_
  | with_reducible refine Jl.s_I (by walk_at "c") ?_
  | with_reducible refine Jl.s_exbl ?_
  | with_reducible refine Jl.s_seq ?_
  | with_reducible refine Jl.s_asg ?_
  | (with_reducible refine Jl.s_name ?_; try simp only [List.set_cons_zero, List.set_cons_succ])
  | with_reducible refine Jl.s_ifS ?_
  | with_reducible refine Jl.s_test ?_
  | with_reducible refine Jl.s_tB ?_
  | with_reducible refine Jl.s_chain ?_
  | with_reducible refine Jl.s_and ?_
  | with_reducible refine Jl.s_or ?_
  | with_reducible refine Jl.s_not ?_
  | with_reducible refine Jl.s_iteT ?_
  | with_reducible refine Jl.s_iteF ?_
  | with_reducible refine Jl.s_iteNT ?_
  | with_reducible refine Jl.s_iteNF ?_
  | with_reducible refine Jl.s_ret ?_
  | with_reducible refine Jl.s_next ?_
  | with_reducible refine Jl.s_call ?_
  | with_reducible refine Jl.s_CB ?_
  | with_reducible refine Jl.s_eqI ?_
  | with_reducible refine Jl.s_neI ?_
  | with_reducible refine Jl.s_eqS ?_
  | with_reducible refine Jl.s_neS ?_
  | with_reducible refine Jl.s_eqB ?_
  | with_reducible refine Jl.s_neB ?_
  | with_reducible refine Jl.s_isB ?_
  | with_reducible refine Jl.s_notB ?_
  | with_reducible refine Jl.s_un ?_
  | with_reducible refine Jl.s_U ?_
  | with_reducible refine Jl.s_andV ?_
  | with_reducible refine Jl.s_orV ?_
  | with_reducible refine Jl.s_notV ?_
  | with_reducible refine Jl.s_ifE ?_
  | with_reducible refine Jl.s_drop ?_
  | with_reducible refine Jl.s_break ?_
  | with_reducible refine Jl.s_cont ?_
  | with_reducible refine Jl.s_isi_ii ?_
  | with_reducible refine Jl.s_isi_ib ?_
  | with_reducible refine Jl.s_isi_bb ?_
  | with_reducible refine Jl.s_isi_bi ?_
  | with_reducible refine Jl.s_isi_ss ?_
  | with_reducible refine Jl.s_BM ?_
  | with_reducible refine Jl.s_tyL (by assumption) ?_
  | with_reducible refine Jl.s_append (by assumption) ?_ ?_
  | with_reducible refine Jl.s_make ?_
  | with_reducible refine Jl.s_meth (by first | assumption | exact Jl.RuleAt.same (by assumption) (by assumption)) (fun R z => Jl.s_var (by with_unfolding_all rfl) z) (by decide +kernel) ?_
  | with_reducible refine Jl.s_addS ?_ (by walk_at "len")
  | with_reducible refine Jl.s_inS ?_
  | with_reducible refine Jl.s_notInS ?_
  | with_reducible refine Jl.s_isNn ?_
  | with_reducible refine Jl.s_isNi ?_
  | with_reducible refine Jl.s_isNs ?_
  | with_reducible refine Jl.s_isNr ?_
  | with_reducible refine Jl.s_notNn ?_
  | with_reducible refine Jl.s_notNi ?_
  | with_reducible refine Jl.s_notNs ?_
  | with_reducible refine Jl.s_notNr ?_
  | with_reducible refine Jl.s_lenS ?_ (by walk_at "len")
  | with_reducible refine Jl.s_lenL (by assumption) ?_
  | with_reducible refine Jl.s_max2 ?_
  | with_reducible refine Jl.s_min2 ?_
  | with_reducible refine Jl.s_int1 ?_
  | with_reducible refine Jl.s_int1b ?_
  | with_reducible refine Jl.s_sl ?_
  | with_reducible refine Jl.s_noP ?_
  | with_reducible refine Jl.s_part ?_
  | with_reducible refine Jl.s_exi ?_
  | with_reducible refine Jl.s_slS ?_ (by walk_at "len")
  | with_reducible refine Jl.s_tup ?_
  | with_reducible refine Jl.s_lst ?_)
local macro_rules | `(tactic| walk_at "same") => `(tactic| first
  | exact L2.Same.refl _
  | assumption
  | (refine L2.Same.trans ?_ (by assumption); walk_at "same"))
local macro_rules | `(tactic| walk_at "w") => `(tactic| repeat walk_at "s")
local macro_rules | `(tactic| walk_at "wd") => `(tactic| repeat (first | walk_at "s" | walk_at "d"))
local macro_rules | `(tactic| walk_at "all") => `(tactic| repeat' (first | walk_at "s" | walk_at "d" | walk_at "b"))
namespace Jw
open PySem L2
def top (i : Nat) : Stmt := PySem.Challenge.pw_joinload_k11_numbers_known.main.body.getD i (.Pass ⟨0, 0, 0, 0⟩)
abbrev s_number_of : Stmt := top 2
abbrev N_number_of : List Str := ["text", "least", "most", "figures", "sign", "number"]
theorem sc_number_of : FnScope N_number_of ["text", "least", "most"] (defScope s_number_of) := ⟨rfl, rfl, rfl, by decide +kernel, rfl, by decide +kernel, by decide +kernel⟩
abbrev s_law_whole : Stmt := top 4
abbrev N_law_whole : List Str := ["_law_found"]
theorem sc_law_whole : FnScope N_law_whole ["_law_found"] (defScope s_law_whole) := ⟨rfl, rfl, rfl, by decide +kernel, rfl, by decide +kernel, by decide +kernel⟩
abbrev s_law_sign_by : Stmt := top 5
abbrev N_law_sign_by : List Str := ["_law_cell", "_law_some"]
theorem sc_law_sign_by : FnScope N_law_sign_by ["_law_cell"] (defScope s_law_sign_by) := ⟨rfl, rfl, rfl, by decide +kernel, rfl, by decide +kernel, by decide +kernel⟩
abbrev s_law_number_by : Stmt := top 6
abbrev N_law_number_by : List Str := ["_law_cell"]
theorem sc_law_number_by : FnScope N_law_number_by ["_law_cell"] (defScope s_law_number_by) := ⟨rfl, rfl, rfl, by decide +kernel, rfl, by decide +kernel, by decide +kernel⟩
abbrev s_law_text_by : Stmt := top 7
abbrev N_law_text_by : List Str := ["_law_number", "_law_cell", "_law_text", "_law_way", "_law_at"]
theorem sc_law_text_by : FnScope N_law_text_by ["_law_number", "_law_cell"] (defScope s_law_text_by) := ⟨rfl, rfl, rfl, by decide +kernel, rfl, by decide +kernel, by decide +kernel⟩
abbrev s_law_edge_by : Stmt := top 8
abbrev N_law_edge_by : List Str := ["_law_number", "_law_cell", "_law_some", "_law_edge"]
theorem sc_law_edge_by : FnScope N_law_edge_by ["_law_number", "_law_cell"] (defScope s_law_edge_by) := ⟨rfl, rfl, rfl, by decide +kernel, rfl, by decide +kernel, by decide +kernel⟩
abbrev s_law_due : Stmt := top 9
abbrev N_law_due : List Str := ["_law_text", "_law_least", "_law_most", "_law_figures", "_law_number", "_law_sign"]
theorem sc_law_due : FnScope N_law_due ["_law_text", "_law_least", "_law_most"] (defScope s_law_due) := ⟨rfl, rfl, rfl, by decide +kernel, rfl, by decide +kernel, by decide +kernel⟩
abbrev s_law_holds : Stmt := top 10
abbrev N_law_holds : List Str := ["_law_cell", "_law_other", "_law_number", "_law_text", "_law_least", "_law_most", "_law_due_here", "_law_found"]
theorem sc_law_holds : FnScope N_law_holds ["_law_cell", "_law_other"] (defScope s_law_holds) := ⟨rfl, rfl, rfl, by decide +kernel, rfl, by decide +kernel, by decide +kernel⟩
abbrev s_law : Stmt := top 11
abbrev N_law : List Str := ["_law_script", "_law_cells", "_law_k"]
theorem sc_law : FnScope N_law ["_law_script"] (defScope s_law) := ⟨rfl, rfl, rfl, by decide +kernel, rfl, by decide +kernel, by decide +kernel⟩
structure Txt (K : PySem.W.Frag) (mg : Str → Option Value) where
  a_number_of : Addr
  d_number_of : FuncData
  F_number_of : Fun K "number_of" "number_of" s_number_of a_number_of d_number_of
  b_number_of : Binds K d_number_of ["text", "least", "most"] []
  m_number_of : mg "number_of" = some (.ref a_number_of)
  a_law_whole : Addr
  d_law_whole : FuncData
  F_law_whole : Fun K "_law_whole" "_law_whole" s_law_whole a_law_whole d_law_whole
  b_law_whole : Binds K d_law_whole ["_law_found"] []
  m_law_whole : mg "_law_whole" = some (.ref a_law_whole)
  a_law_sign_by : Addr
  d_law_sign_by : FuncData
  F_law_sign_by : Fun K "_law_sign_by" "_law_sign_by" s_law_sign_by a_law_sign_by d_law_sign_by
  b_law_sign_by : Binds K d_law_sign_by ["_law_cell"] []
  m_law_sign_by : mg "_law_sign_by" = some (.ref a_law_sign_by)
  a_law_number_by : Addr
  d_law_number_by : FuncData
  F_law_number_by : Fun K "_law_number_by" "_law_number_by" s_law_number_by a_law_number_by d_law_number_by
  b_law_number_by : Binds K d_law_number_by ["_law_cell"] []
  m_law_number_by : mg "_law_number_by" = some (.ref a_law_number_by)
  a_law_text_by : Addr
  d_law_text_by : FuncData
  F_law_text_by : Fun K "_law_text_by" "_law_text_by" s_law_text_by a_law_text_by d_law_text_by
  b_law_text_by : Binds K d_law_text_by ["_law_number", "_law_cell"] []
  m_law_text_by : mg "_law_text_by" = some (.ref a_law_text_by)
  a_law_edge_by : Addr
  d_law_edge_by : FuncData
  F_law_edge_by : Fun K "_law_edge_by" "_law_edge_by" s_law_edge_by a_law_edge_by d_law_edge_by
  b_law_edge_by : Binds K d_law_edge_by ["_law_number", "_law_cell"] []
  m_law_edge_by : mg "_law_edge_by" = some (.ref a_law_edge_by)
  a_law_due : Addr
  d_law_due : FuncData
  F_law_due : Fun K "_law_due" "_law_due" s_law_due a_law_due d_law_due
  b_law_due : Binds K d_law_due ["_law_text", "_law_least", "_law_most"] []
  m_law_due : mg "_law_due" = some (.ref a_law_due)
  a_law_holds : Addr
  d_law_holds : FuncData
  F_law_holds : Fun K "_law_holds" "_law_holds" s_law_holds a_law_holds d_law_holds
  b_law_holds : Binds K d_law_holds ["_law_cell", "_law_other"] []
  m_law_holds : mg "_law_holds" = some (.ref a_law_holds)
  a_law : Addr
  d_law : FuncData
  F_law : Fun K "law" "law" s_law a_law d_law
  b_law : Binds K d_law ["_law_script"] []
  m_law : mg "law" = some (.ref a_law)
  t_FIGURES : Tok
  g_FIGURES : mg "FIGURES" = some (.str "0123456789" t_FIGURES)
  n_bool : mg "bool" = none
  n_int : mg "int" = none
  n_isinstance : mg "isinstance" = none
  n_len : mg "len" = none
  n_max : mg "max" = none
  n_min : mg "min" = none
  n_range : mg "range" = none
  n_str : mg "str" = none
section
variable {P : Program} {w : World} {K : PySem.W.Frag} {mg : Str → Option Value} {base : Heap}
/-! ### number_of -/
def sp_number_of : Sp := fun vs H Q _ => ∃ (z : Str) (a b : Int), vs = [.str z, .int a, .int b] ∧ z.length ≤ 100000 ∧ Q (Jl.optI (Jl.numOf z.cps.toList a b)) H
theorem use_number_of {z : Str} {a b : Int} {H : Hp} {Q : VK} {E : XK} (hz : z.length ≤ 100000) (k : Q (Jl.optI (Jl.numOf z.cps.toList a b)) H) : sp_number_of [.str z, .int a, .int b] H Q E := ⟨z, a, b, rfl, hz, k⟩
local macro_rules | `(tactic| walk_at "s") => `(tactic| (with_reducible refine use_number_of (by omega) ?_))
theorem ok_number_of (T : Txt K mg) : FnOk P w K mg base CX0 1 T.a_number_of T.d_number_of ["text", "least", "most"] (sp_number_of) := by
  refine T.F_number_of.ok sc_number_of (fun vs H Q E h => ?_) (fun cdv A outer s H vs Q E hr h => ?_)
  · obtain ⟨z, a, b, rfl, hz, k⟩ := h
    rfl
  · obtain ⟨z, a, b, rfl, hz, k⟩ := h
    have hu := hu_of hr
    refine ⟨_, (pss_cons (ps_set (i := 3) sc_number_of.nd rfl (Or.inl rfl) (pv 0))
      (pss_cons (ps_if (pt_cmpR op_eq (pe_slice (r := rSlS) sl_str (pv 0) po_none (po_some pe_int)) pe_str (nomark _)) (pss_one (ps_set (i := 3) sc_number_of.nd rfl (Or.inl rfl) (pe_slice (r := rSlS) sl_str (pv 0) (po_some pe_int) po_none))) pss_nil)
      (pss_cons (ps_if (PW.pt (pw_or (pt_not (pt_chain op_le op_le pe_int (pe_callB Jl.cl_lenS (by rfl) T.n_len (by decide +kernel) (pa_cons (pv 3) pa_nil)) pe_int)) (pw_or1 (PW.pt (pw_and (pt_cmpR op_eq (pe_ix ix_str (pv 3) pe_int (fun _ _ => rfl)) pe_str (nomark _)) (pw_and1 (pt_cmpR op_ne (pv 0) pe_str (nomark _)))))))) (pss_one (ps_ret pe_non)) pss_nil)
      (pss_cons (ps_for PassesOwn.never rfl (pi_str (pv 3)) (pg_name (i := 4) sc_number_of.nd rfl (Or.inl rfl)) (pss_one (ps_if (pt_cmpR Jl.op_notInS (pv 4) (pe_glob (v := .str "0123456789") rfl T.g_FIGURES ⟨_, rfl⟩) rfl) (pss_one (ps_ret pe_non)) pss_nil)))
      (pss_cons (ps_set (i := 5) sc_number_of.nd rfl (Or.inl rfl) (pe_callTy Jl.cl_intS (by rfl) T.n_int (by decide +kernel) (pa_cons (pv 3) pa_nil)))
      (pss_cons (ps_if (pt_cmpR op_eq (pe_ix ix_str (pv 0) pe_int (fun _ _ => rfl)) pe_str (nomark _)) (pss_one (ps_set (i := 5) sc_number_of.nd rfl (Or.inl rfl) (pe_op op_sub pe_int (pv 5)))) pss_nil)
      (pss_cons (ps_if (pt_not (pt_chain op_le op_le (pv 1) (pv 5) (pv 2))) (pss_one (ps_ret pe_non)) pss_nil)
      (pss_one (ps_ret (pv 5)))))))))), ?_⟩
    show (_ : TS) _ [some (.str z), some (.int a), some (.int b), none, none, none] H
    have hl := Jl.len_list z
    walk_at "w"
    refine Jl.s_iteAsgV (.str z) (.str (cutS z (some 1) none)) (fun _ R h => ?_) rfl ?_
    · walk_at "w"; exact h
    rw [Jl.ite_str]
    simp only [List.set_cons_zero, List.set_cons_succ]
    have hf := Jl.figs_text z
    have hfz : (if cutS z none (some 1) = "-" then cutS z (some 1) none else z).length ≤ z.length := by
      split
      · exact Jl.len_cut _ _ _
      · exact Nat.le_refl _
    generalize (if cutS z none (some 1) = "-" then cutS z (some 1) none else z) = f at *
    have hfl : (Jl.figs z.cps.toList).length = f.length := by rw [← hf]; exact Jl.len_list f
    by_cases hr : 1 ≤ f.length ∧ f.length ≤ 10
    rotate_left
    · rw [Jl.numOf_none (fun q => hr (by have := q.1; omega))] at k
      walk_at "all"
      all_goals exact k
    obtain ⟨r1, r2⟩ := hr
    obtain ⟨c0, hc0⟩ : ∃ c, f.cps.toList[0]? = some c := ⟨_, List.getElem?_eq_getElem (by rw [Jl.len_list]; omega)⟩
    obtain ⟨c1, hc1⟩ : ∃ c, z.cps.toList[0]? = some c := ⟨_, List.getElem?_eq_getElem (by omega)⟩
    have hD : (Jl.figs z.cps.toList).getD 0 0 = c0 := by rw [← hf, List.getD_eq_getElem?_getD, hc0]; rfl
    have hh : z.cps.toList.head? = some c1 := by rw [List.head?_eq_getElem?, hc1]
    have z0 : (⟨#[c0]⟩ : Str) = "0" ↔ c0 = 48 := Jl.one_is (by decide +kernel)
    have z1 : (⟨#[c1]⟩ : Str) = "-" ↔ c1 = 45 := Jl.one_is (by decide +kernel)
    have hnz : f ≠ "" := (not_congr (Jl.empty_iff f)).mpr (by omega)
    walk_at "wd"
    refine Jl.s_ixS (Jl.atI_of0 hc0) ?_ (by omega)
    walk_at "wd"
    refine Jl.s_iteD (fun h0 => ?_) (fun h0 => ?_)
    rotate_left
    · have good : ¬ ((Jl.figs z.cps.toList).getD 0 0 = 48 ∧ z.cps.toList ≠ [48]) := fun q => h0 (z0.mpr (by rw [← hD]; exact q.1))
      walk_at "w"
      refine Jl.s_forS (z := f) (fun i σ H' => (∃ v, σ = [some (.str z), some (.int a), some (.int b), some (.str f), v, none]) ∧ H' = H ∧ ∀ j x, j < i → f.cps.toList[j]? = some x → Jl.isFig x = true) (fun R h => ?_) ⟨⟨_, rfl⟩, rfl, fun j x hj => by omega⟩ ?_ ?_
      · walk_at "w"; exact h
      · rintro i c σ H' hc ⟨⟨v, rfl⟩, rfl, ha⟩
        simp only [List.set_cons_zero, List.set_cons_succ]
        walk_at "w"
        refine Jl.s_iteN (fun g1 => ?_) (fun g1 => ?_)
        · rw [Jl.numOf_none (fun q => g1 ((Jl.fig_iff c).mpr (of_decide_eq_true (List.all_eq_true.mp q.2.2.1 c (by rw [← hf]; exact List.mem_of_getElem? hc)))))] at k
          walk_at "w"; exact k
        · walk_at "w"
          refine ⟨⟨_, rfl⟩, by trivial, fun j x hj hx => ?_⟩
          by_cases q : j = i
          · subst q; rw [hc] at hx; cases hx; exact decide_eq_true ((Jl.fig_iff c).mp g1)
          · exact ha j x (by omega) hx
      · rintro σ H' ⟨⟨v, rfl⟩, rfl, ha⟩
        have hall : (Jl.figs z.cps.toList).all Jl.isFig = true := by
          rw [← hf]
          exact Jl.all_true fun i x hx => ha i x (by rw [← Jl.len_list]; exact (List.getElem?_eq_some_iff.mp hx).1) hx
        have hint : PySem.intText? f = some ((NumText.digitsVal (Jl.figs z.cps.toList) : Nat) : Int) := by
          rw [← hf]
          refine PySem.intText_digits (by rw [hf]; exact Jl.figs_digits hall) (fun q => ?_) (by omega)
          rw [q] at hc0; cases hc0
        walk_at "w"
        refine ⟨f, _, rfl, hint, by omega, ?_⟩
        walk_at "w"
        refine Jl.s_ixS (Jl.atI_of0 hc1) ?_ (by omega)
        walk_at "w"
        refine Jl.s_iteAsgI ((NumText.digitsVal (Jl.figs z.cps.toList) : Nat) : Int) (0 - ((NumText.digitsVal (Jl.figs z.cps.toList) : Nat) : Int)) (fun _ R h => ?_) rfl ?_
        · walk_at "w"; exact h
        simp only [List.set_cons_zero, List.set_cons_succ]
        have ev : (if (⟨#[c1]⟩ : Str) = "-" then 0 - ((NumText.digitsVal (Jl.figs z.cps.toList) : Nat) : Int) else ((NumText.digitsVal (Jl.figs z.cps.toList) : Nat) : Int)) = Jl.valOf z.cps.toList := by
          unfold Jl.valOf
          rw [hh]
          by_cases q : c1 = 45
          · rw [if_pos (z1.mpr q), if_pos (by rw [q])]
          · rw [if_neg (fun y => q (z1.mp y)), if_neg (fun y => q (Option.some.inj y))]
        rw [ev]
        by_cases hin : a ≤ Jl.valOf z.cps.toList ∧ Jl.valOf z.cps.toList ≤ b
        · rw [Jl.numOf_some ⟨by omega, by omega⟩ good hall hin] at k
          obtain ⟨i1, i2⟩ := hin
          walk_at "wd"; exact k
        · rw [Jl.numOf_none (fun q => hin q.2.2.2)] at k
          walk_at "all"
          all_goals exact k
    · walk_at "w"
      refine Jl.s_iteN (fun h2 => ?_) (fun h2 => ?_)
      · rw [Jl.numOf_none (fun q => q.2.1 ⟨by rw [hD]; exact z0.mp h0, (not_congr (Jl.zero_iff z)).mp h2⟩)] at k
        walk_at "w"; exact k
      · have good : ¬ ((Jl.figs z.cps.toList).getD 0 0 = 48 ∧ z.cps.toList ≠ [48]) := fun q => q.2 ((Jl.zero_iff z).mp h2)
        walk_at "w"
        refine Jl.s_forS (z := f) (fun i σ H' => (∃ v, σ = [some (.str z), some (.int a), some (.int b), some (.str f), v, none]) ∧ H' = H ∧ ∀ j x, j < i → f.cps.toList[j]? = some x → Jl.isFig x = true) (fun R h => ?_) ⟨⟨_, rfl⟩, rfl, fun j x hj => by omega⟩ ?_ ?_
        · walk_at "w"; exact h
        · rintro i c σ H' hc ⟨⟨v, rfl⟩, rfl, ha⟩
          simp only [List.set_cons_zero, List.set_cons_succ]
          walk_at "w"
          refine Jl.s_iteN (fun g1 => ?_) (fun g1 => ?_)
          · rw [Jl.numOf_none (fun q => g1 ((Jl.fig_iff c).mpr (of_decide_eq_true (List.all_eq_true.mp q.2.2.1 c (by rw [← hf]; exact List.mem_of_getElem? hc)))))] at k
            walk_at "w"; exact k
          · walk_at "w"
            refine ⟨⟨_, rfl⟩, by trivial, fun j x hj hx => ?_⟩
            by_cases q : j = i
            · subst q; rw [hc] at hx; cases hx; exact decide_eq_true ((Jl.fig_iff c).mp g1)
            · exact ha j x (by omega) hx
        · rintro σ H' ⟨⟨v, rfl⟩, rfl, ha⟩
          have hall : (Jl.figs z.cps.toList).all Jl.isFig = true := by
            rw [← hf]
            exact Jl.all_true fun i x hx => ha i x (by rw [← Jl.len_list]; exact (List.getElem?_eq_some_iff.mp hx).1) hx
          have hint : PySem.intText? f = some ((NumText.digitsVal (Jl.figs z.cps.toList) : Nat) : Int) := by
            rw [← hf]
            refine PySem.intText_digits (by rw [hf]; exact Jl.figs_digits hall) (fun q => ?_) (by omega)
            rw [q] at hc0; cases hc0
          walk_at "w"
          refine ⟨f, _, rfl, hint, by omega, ?_⟩
          walk_at "w"
          refine Jl.s_ixS (Jl.atI_of0 hc1) ?_ (by omega)
          walk_at "w"
          refine Jl.s_iteAsgI ((NumText.digitsVal (Jl.figs z.cps.toList) : Nat) : Int) (0 - ((NumText.digitsVal (Jl.figs z.cps.toList) : Nat) : Int)) (fun _ R h => ?_) rfl ?_
          · walk_at "w"; exact h
          simp only [List.set_cons_zero, List.set_cons_succ]
          have ev : (if (⟨#[c1]⟩ : Str) = "-" then 0 - ((NumText.digitsVal (Jl.figs z.cps.toList) : Nat) : Int) else ((NumText.digitsVal (Jl.figs z.cps.toList) : Nat) : Int)) = Jl.valOf z.cps.toList := by
            unfold Jl.valOf
            rw [hh]
            by_cases q : c1 = 45
            · rw [if_pos (z1.mpr q), if_pos (by rw [q])]
            · rw [if_neg (fun y => q (z1.mp y)), if_neg (fun y => q (Option.some.inj y))]
          rw [ev]
          by_cases hin : a ≤ Jl.valOf z.cps.toList ∧ Jl.valOf z.cps.toList ≤ b
          · rw [Jl.numOf_some ⟨by omega, by omega⟩ good hall hin] at k
            obtain ⟨i1, i2⟩ := hin
            walk_at "wd"; exact k
          · rw [Jl.numOf_none (fun q => hin q.2.2.2)] at k
            walk_at "all"
            all_goals exact k
/-! ### _law_whole -/
def sp_law_whole : Sp := fun vs H Q _ => ∃ n : Int, vs = [.int n] ∧ Q (.bl true) H
theorem use_whole {n : Int} {H : Hp} {Q : VK} {E : XK} (z : Q (.bl true) H) : sp_law_whole [.int n] H Q E := ⟨n, rfl, z⟩
local macro_rules | `(tactic| walk_at "s") => `(tactic| (with_reducible refine use_whole ?_))
theorem ok_law_whole (T : Txt K mg) : FnOk P w K mg base CX0 1 T.a_law_whole T.d_law_whole ["_law_found"] (sp_law_whole) := by
  refine T.F_law_whole.ok sc_law_whole (fun vs H Q E h => ?_) (fun cdv A outer s H vs Q E hr h => ?_)
  · obtain ⟨n, rfl, k⟩ := h
    rfl
  · obtain ⟨n, rfl, k⟩ := h
    have hu := hu_of hr
    refine ⟨_, (pss_one (ps_ret (pe_and (pe_callB call_isi (by rfl) T.n_isinstance (by decide +kernel) (pa_cons (pv 0) (pa_cons (pe_bltn (v := .ty "int") (u := .type "int") (by rfl) T.n_int (by decide +kernel) rfl) pa_nil))) (pe_one (pe_not (pe_callB call_isi (by rfl) T.n_isinstance (by decide +kernel) (pa_cons (pv 0) (pa_cons (pe_bltn (v := .ty "bool") (u := .type "bool") (by rfl) T.n_bool (by decide +kernel) rfl) pa_nil)))))))), ?_⟩
    show (_ : TS) _ [some (.int n)] H
    walk_at "w"
    exact k
/-! ### _law_sign_by -/
def sp_law_sign_by : Sp := fun vs H Q _ => ∃ c : Int, vs = [.int c] ∧ (∀ s : Nat, Q (.str ⟨#[s]⟩) H)
theorem use_sign_by {c : Int} {H : Hp} {Q : VK} {E : XK} (z : ∀ s : Nat, Q (.str ⟨#[s]⟩) H) : sp_law_sign_by [.int c] H Q E := ⟨c, rfl, z⟩
local macro_rules | `(tactic| walk_at "s") => `(tactic| (with_reducible refine use_sign_by (fun s => ?_)))
theorem ok_law_sign_by (T : Txt K mg) : FnOk P w K mg base CX0 1 T.a_law_sign_by T.d_law_sign_by ["_law_cell"] (sp_law_sign_by) := by
  refine T.F_law_sign_by.ok sc_law_sign_by (fun vs H Q E h => ?_) (fun cdv A outer s H vs Q E hr h => ?_)
  · obtain ⟨c, rfl, k⟩ := h
    rfl
  · obtain ⟨c, rfl, k⟩ := h
    have hu := hu_of hr
    refine ⟨_, (pss_cons (ps_set (i := 1) sc_law_sign_by.nd rfl (Or.inl rfl) pe_str)
      (pss_one (ps_ret (pe_ix ix_str (pv 1) (pe_op op_mod (pv 0) (pe_callB Jl.cl_lenS (by rfl) T.n_len (by decide +kernel) (pa_cons (pv 1) pa_nil))) (fun _ _ => rfl))))), ?_⟩
    show (_ : TS) _ [some (.int c), none] H
    walk_at "w"
    generalize hS : (Str.ofString "0123456789-+ _ abcdefghijklmnopqrstuvwxyz!\"#$&'()*,./:;<=>?@ABCDEFGHIJKLMNOPQRSTUVWXYZ[\\]^`{|}~\n") = S at *
    have hp : 0 < (S.length : Int) ∧ S.length ≤ 100 := by rw [← hS]; decide +kernel
    have h1 := Int.emod_nonneg c (show (S.length : Int) ≠ 0 by omega)
    have h2 := Int.emod_lt_of_pos c hp.1
    obtain ⟨s', hs⟩ := Jl.atI_some (l := S.cps.toList) (i := c % S.length) (by omega) (by rw [Jl.len_list]; exact h2)
    exact Jl.s_ixS hs (k s') (by omega)
/-! ### _law_number_by -/
def sp_law_number_by (K : PySem.W.Frag) : Sp := fun vs H Q _ => ∃ c : Int, vs = [.int c] ∧ (∀ (n : Int) H', Same H H' → -(10 ^ 11) ≤ n → n ≤ 10 ^ 11 → Q (.int n) H')
theorem use_number_by {K : PySem.W.Frag} {c : Int} {H : Hp} {Q : VK} {E : XK} (z : ∀ (n : Int) H', Same H H' → -(10 ^ 11) ≤ n → n ≤ 10 ^ 11 → Q (.int n) H') : sp_law_number_by K [.int c] H Q E := ⟨c, rfl, z⟩
local macro_rules | `(tactic| walk_at "s") => `(tactic| (with_reducible refine use_number_by (fun n H' s1 h1 h2 => ?_)))
theorem ok_law_number_by (T : Txt K mg) : FnOk P w K mg base CX0 1 T.a_law_number_by T.d_law_number_by ["_law_cell"] (sp_law_number_by K) := by
  refine T.F_law_number_by.ok sc_law_number_by (fun vs H Q E h => ?_) (fun cdv A outer s H vs Q E hr h => ?_)
  · obtain ⟨c, rfl, k⟩ := h
    rfl
  · obtain ⟨c, rfl, k⟩ := h
    have hu := hu_of hr
    refine ⟨_, (pss_cons (ps_if (pt_cmpR op_eq (pe_op op_mod (pv 0) pe_int) pe_int (nomark _)) (pss_one (ps_ret (pe_op op_sub (pe_op op_mod (pe_op op_fdiv (pv 0) pe_int) pe_int) pe_int))) pss_nil)
      (pss_cons (ps_if (pt_cmpR op_eq (pe_op op_mod (pv 0) pe_int) pe_int (nomark _)) (pss_one (ps_ret (pe_op op_sub (pe_op op_add (pe_ix (r := rIxL K) ix_list (pe_lst (pa_cons (pe_un un_neg pe_int) (pa_cons pe_int (pa_cons pe_int (pa_cons pe_int (pa_cons (pe_un un_neg pe_int) pa_nil)))))) (pe_op op_mod (pe_op op_fdiv (pv 0) pe_int) pe_int) (fun _ _ => rfl)) (pe_op op_mod (pe_op op_fdiv (pv 0) pe_int) pe_int)) pe_int))) pss_nil)
      (pss_one (ps_ret (pe_op op_sub (pe_op op_mod (pe_op op_mul (pv 0) pe_int) pe_int) pe_int))))), ?_⟩
    show (_ : TS) _ [some (.int c)] H
    walk_at "w"
    refine Jl.s_iteD (fun h => ?_) (fun h => ?_)
    · walk_at "w"; exact k _ _ (Same.refl _) (by omega) (by omega)
    · walk_at "w"
      refine Jl.s_iteD (fun h => ?_) (fun h => ?_)
      · walk_at "w"
        refine ⟨(by show 5 ≤ sizeLine; decide), fun p np => ?_⟩
        walk_at "w"
        have hc : c / 3 % 5 = 0 ∨ c / 3 % 5 = 1 ∨ c / 3 % 5 = 2 ∨ c / 3 % 5 = 3 ∨ c / 3 % 5 = 4 := by omega
        rcases hc with hc | hc | hc | hc | hc
        all_goals
          rw [hc]
          refine Jl.s_ixL Jl.sqU rfl ?_
          walk_at "w"
          exact k _ _ (Jl.same_upd np) (by omega) (by omega)
      · walk_at "w"
        exact k _ _ (Same.refl _) (by omega) (by omega)
/-! ### _law_text_by -/
def sp_law_text_by (K : PySem.W.Frag) : Sp := fun vs H Q _ => ∃ n c : Int, vs = [.int n, .int c] ∧ -(10 ^ 11) ≤ n ∧ n ≤ 10 ^ 11 ∧ (∀ (z : Str) H', Same H H' → z.length ≤ 50000 → Q (.str z) H')
theorem use_text_by {K : PySem.W.Frag} {n c : Int} {H : Hp} {Q : VK} {E : XK} (h1 : -(10 ^ 11) ≤ n) (h2 : n ≤ 10 ^ 11) (z : ∀ (z : Str) H', Same H H' → z.length ≤ 50000 → Q (.str z) H') : sp_law_text_by K [.int n, .int c] H Q E := ⟨n, c, rfl, h1, h2, z⟩
local macro_rules | `(tactic| walk_at "s") => `(tactic| (with_reducible refine use_text_by (by omega) (by omega) (fun z H' s1 hz => ?_)))
theorem ok_law_text_by (T : Txt K mg) : FnOk P w K mg base CX0 2 T.a_law_text_by T.d_law_text_by ["_law_number", "_law_cell"] (sp_law_text_by K) := by
  have G_law_sign_by := ok_law_sign_by (P := P) (w := w) (base := base) T
  refine T.F_law_text_by.ok sc_law_text_by (fun vs H Q E h => ?_) (fun cdv A outer s H vs Q E hr h => ?_)
  · obtain ⟨n, c, rfl, h1, h2, k⟩ := h
    rfl
  · obtain ⟨n, c, rfl, h1, h2, k⟩ := h
    have hu := hu_of hr
    refine ⟨_, (pss_cons (ps_set (i := 2) sc_law_text_by.nd rfl (Or.inl rfl) (pe_callTy Jl.cl_strI (by rfl) T.n_str (by decide +kernel) (pa_cons (pv 0) pa_nil)))
      (pss_cons (ps_set (i := 3) sc_law_text_by.nd rfl (Or.inl rfl) (pe_op op_mod (pv 1) pe_int))
      (pss_cons (ps_set (i := 4) sc_law_text_by.nd rfl (Or.inl rfl) (pe_op op_mod (pe_op op_fdiv (pv 1) pe_int) (pe_op op_add (pe_callB Jl.cl_lenS (by rfl) T.n_len (by decide +kernel) (pa_cons (pv 2) pa_nil)) pe_int)))
      (pss_cons (ps_if (pt_cmpR op_eq (pv 3) pe_int (nomark _)) (pss_one (ps_ret (pe_op Jl.op_addS pe_str (pv 2)))) pss_nil)
      (pss_cons (ps_if (pt_cmpR op_eq (pv 3) pe_int (nomark _)) (pss_one (ps_ret (pe_op Jl.op_addS pe_str (pv 2)))) pss_nil)
      (pss_cons (ps_if (pt_cmpR op_eq (pv 3) pe_int (nomark _)) (pss_one (ps_ret (pe_op Jl.op_addS (pe_op Jl.op_addS (pe_slice (r := rSlS) sl_str (pv 2) po_none (po_some (pv 4))) (pe_call (G_law_sign_by) (hr.mono (by decide)) rfl T.m_law_sign_by T.F_law_sign_by.kp T.b_law_sign_by .nil pass0 (pa_cons (pe_op op_fdiv (pv 1) pe_int) pa_nil))) (pe_slice (r := rSlS) sl_str (pv 2) (po_some (pv 4)) po_none)))) pss_nil)
      (pss_cons (ps_if (pt_cmpR op_eq (pv 3) pe_int (nomark _)) (pss_one (ps_ret (pe_op Jl.op_addS (pe_slice (r := rSlS) sl_str (pv 2) po_none (po_some (pv 4))) (pe_slice (r := rSlS) sl_str (pv 2) (po_some (pe_op op_add (pv 4) pe_int)) po_none)))) pss_nil)
      (pss_cons (ps_if (pt_cmpR op_eq (pv 3) pe_int (nomark _)) (pss_one (ps_ret (pe_ix (r := rIxL K) ix_list (pe_lst (pa_cons pe_str (pa_cons pe_str (pa_cons pe_str (pa_cons pe_str pa_nil))))) (pe_op op_mod (pe_op op_fdiv (pv 1) pe_int) pe_int) (fun _ _ => rfl)))) pss_nil)
      (pss_cons (ps_if (pt_cmpR op_eq (pv 3) pe_int (nomark _)) (pss_one (ps_ret (pe_op Jl.op_mulS (pe_slice (r := rSlS) sl_str (pv 2) (po_some (pe_un un_neg pe_int)) po_none) (pe_op op_add pe_int (pe_op op_mod (pe_op op_fdiv (pv 1) pe_int) pe_int))))) pss_nil)
      (pss_one (ps_ret (pv 2)))))))))))), ?_⟩
    show (_ : TS) _ [some (.int n), some (.int c), none, none, none] H
    walk_at "w"
    refine ⟨n, rfl, Jl.log_ok h1 h2, ?_⟩
    have ht := PyProof.Rows.int_text_len_1921 (Jl.log_ok h1 h2)
    generalize (Str.ofString (toString n)) = t at *
    walk_at "w"
    refine Jl.s_iteD (fun h => ?_) (fun h => ?_)
    · repeat (first | walk_at "s" | refine Jl.s_addS ?_ (by rw [show ("0" : Str).length = 1 from rfl]; omega))
      exact k _ _ (Same.refl _) (by rw [Jl.len_app, show ("0" : Str).length = 1 from rfl]; omega)
    walk_at "w"
    refine Jl.s_iteD (fun h => ?_) (fun h => ?_)
    · repeat (first | walk_at "s" | refine Jl.s_addS ?_ (by rw [show ("-" : Str).length = 1 from rfl]; omega))
      exact k _ _ (Same.refl _) (by rw [Jl.len_app, show ("-" : Str).length = 1 from rfl]; omega)
    walk_at "w"
    generalize c / 9 % ((t.length : Int) + 1) = at' at *
    refine Jl.s_iteD (fun h => ?_) (fun h => ?_)
    · have l1 := Jl.len_cut t none (some at')
      have l2 := Jl.len_cut t (some at') none
      repeat (first | walk_at "s" | refine Jl.s_addS ?_ (by rw [Jl.len_one]; omega) | refine Jl.s_addS ?_ (by rw [Jl.len_app, Jl.len_one]; omega))
      exact k _ _ (Same.refl _) (by rw [Jl.len_app, Jl.len_app, Jl.len_one]; omega)
    walk_at "w"
    refine Jl.s_iteD (fun h => ?_) (fun h => ?_)
    · have l1 := Jl.len_cut t none (some at')
      have l2 := Jl.len_cut t (some (at' + 1)) none
      repeat (first | walk_at "s" | refine Jl.s_addS ?_ (by omega))
      exact k _ _ (Same.refl _) (by rw [Jl.len_app]; omega)
    walk_at "w"
    refine Jl.s_iteD (fun h => ?_) (fun h => ?_)
    · walk_at "w"
      refine ⟨(by show 4 ≤ sizeLine; decide), fun p np => ?_⟩
      walk_at "w"
      have hc : c / 9 % 4 = 0 ∨ c / 9 % 4 = 1 ∨ c / 9 % 4 = 2 ∨ c / 9 % 4 = 3 := by omega
      rcases hc with hc | hc | hc | hc
      all_goals
        rw [hc]
        refine Jl.s_ixL Jl.sqU rfl ?_
        exact k _ _ (Jl.same_upd np) (by decide +kernel)
    walk_at "w"
    refine Jl.s_iteD (fun h => ?_) (fun h => ?_)
    · walk_at "w"
      have l1 := Jl.cut_last t
      refine ⟨_, _, rfl, rfl, by omega, by omega, by omega, fun w' hw' => ?_⟩
      exact k _ _ (Same.refl _) (by omega)
    · walk_at "w"
      exact k _ _ (Same.refl _) (by omega)
/-! ### _law_edge_by -/
def sp_law_edge_by (K : PySem.W.Frag) : Sp := fun vs H Q _ => ∃ n c : Int, vs = [.int n, .int c] ∧ (∀ (e : Int) H', Same H H' → Q (.int e) H')
theorem use_edge_by {K : PySem.W.Frag} {n c : Int} {H : Hp} {Q : VK} {E : XK} (z : ∀ (e : Int) H', Same H H' → Q (.int e) H') : sp_law_edge_by K [.int n, .int c] H Q E := ⟨n, c, rfl, z⟩
local macro_rules | `(tactic| walk_at "s") => `(tactic| (with_reducible refine use_edge_by (fun e H' s1 => ?_)))
theorem ok_law_edge_by (T : Txt K mg) : FnOk P w K mg base CX0 1 T.a_law_edge_by T.d_law_edge_by ["_law_number", "_law_cell"] (sp_law_edge_by K) := by
  refine T.F_law_edge_by.ok sc_law_edge_by (fun vs H Q E h => ?_) (fun cdv A outer s H vs Q E hr h => ?_)
  · obtain ⟨n, c, rfl, k⟩ := h
    rfl
  · obtain ⟨n, c, rfl, k⟩ := h
    have hu := hu_of hr
    refine ⟨_, (pss_cons (ps_set (i := 2) sc_law_edge_by.nd rfl (Or.inl rfl) (pe_lst (pa_cons pe_int (pa_cons pe_int (pa_cons (pe_un un_neg pe_int) (pa_cons pe_int (pa_cons (pe_un un_neg pe_int) (pa_cons pe_int pa_nil))))))))
      (pss_cons (ps_set (i := 3) sc_law_edge_by.nd rfl (Or.inl rfl) (pe_ix (r := rIxL K) ix_list (pe_op (r := Jl.rCatS K) Jl.op_catS (pv 2) (pe_lst (pa_cons (pe_op op_sub (pv 0) pe_int) (pa_cons (pe_op op_sub (pv 0) pe_int) (pa_cons (pv 0) (pa_cons (pv 0) (pa_cons (pe_op op_add (pv 0) pe_int) (pa_cons (pe_op op_add (pv 0) pe_int) pa_nil)))))))) (pe_op op_mod (pv 1) pe_int) (fun _ _ => rfl)))
      (pss_one (ps_ret (pe_callB (Jl.cl_max2 rfl) (by rfl) T.n_max (by decide +kernel) (pa_cons (pe_un un_neg pe_int) (pa_cons (pe_callB (Jl.cl_min2 rfl) (by rfl) T.n_min (by decide +kernel) (pa_cons pe_int (pa_cons (pv 3) pa_nil))) pa_nil))))))), ?_⟩
    show (_ : TS) _ [some (.int n), some (.int c), none, none] H
    walk_at "w"
    refine ⟨(by show 6 ≤ sizeLine; decide), fun p np => ?_⟩
    walk_at "w"
    refine ⟨(by show 6 ≤ sizeLine; decide), fun q nq => ?_⟩
    refine ⟨p, q, [0, 4294967295, -2147483648, 2147483647, -9999999999, 9999999999].map V.int, [n - 2, n - 1, n, n, n + 1, n + 2].map V.int, rfl, rfl, (Jl.same_upd nq).seq Jl.sqU, Jl.sqU, (by show 12 ≤ sizeLine; decide), fun r nr => ?_⟩
    rw [← List.map_append]
    walk_at "w"
    obtain ⟨z, hz⟩ := Jl.atI_any (ns := [0, 4294967295, -2147483648, 2147483647, -9999999999, 9999999999] ++ [n - 2, n - 1, n, n, n + 1, n + 2]) (i := c % 12) (by show (-12 : Int) ≤ _; omega) (by show _ < (12 : Int); omega)
    refine Jl.s_ixL Jl.sqU hz ?_
    walk_at "w"
    exact k _ _ ((Jl.same_upd np).trans ((Jl.same_upd nq).trans (Jl.same_upd nr)))
/-! ### _law_due -/
def sp_law_due : Sp := fun vs H Q _ => ∃ (z : Str) (a b : Int), vs = [.str z, .int a, .int b] ∧ z.length ≤ 100000 ∧ Q (Jl.optI (Jl.numOf z.cps.toList a b)) H
theorem use_law_due {z : Str} {a b : Int} {H : Hp} {Q : VK} {E : XK} (hz : z.length ≤ 100000) (k : Q (Jl.optI (Jl.numOf z.cps.toList a b)) H) : sp_law_due [.str z, .int a, .int b] H Q E := ⟨z, a, b, rfl, hz, k⟩
local macro_rules | `(tactic| walk_at "s") => `(tactic| (with_reducible refine use_law_due (by omega) ?_))
theorem ok_law_due (T : Txt K mg) : FnOk P w K mg base CX0 1 T.a_law_due T.d_law_due ["_law_text", "_law_least", "_law_most"] (sp_law_due) := by
  refine T.F_law_due.ok sc_law_due (fun vs H Q E h => ?_) (fun cdv A outer s H vs Q E hr h => ?_)
  · obtain ⟨z, a, b, rfl, hz, k⟩ := h
    rfl
  · obtain ⟨z, a, b, rfl, hz, k⟩ := h
    have hu := hu_of hr
    refine ⟨_, (pss_cons (ps_set (i := 3) sc_law_due.nd rfl (Or.inl rfl) (pv 0))
      (pss_cons (ps_if (pt_cmpR op_eq (pe_slice (r := rSlS) sl_str (pv 0) po_none (po_some pe_int)) pe_str (nomark _)) (pss_one (ps_set (i := 3) sc_law_due.nd rfl (Or.inl rfl) (pe_slice (r := rSlS) sl_str (pv 0) (po_some pe_int) po_none))) pss_nil)
      (pss_cons (ps_if (PW.pt (pw_or (pt_cmpR op_eq (pv 3) pe_str (nomark _)) (pw_or (pt_cmpR op_gt (pe_callB Jl.cl_lenS (by rfl) T.n_len (by decide +kernel) (pa_cons (pv 3) pa_nil)) pe_int (nomark _)) (pw_or1 (PW.pt (pw_and (pt_cmpR op_eq (pe_ix ix_str (pv 3) pe_int (fun _ _ => rfl)) pe_str (nomark _)) (pw_and1 (pt_cmpR op_ne (pv 0) pe_str (nomark _))))))))) (pss_one (ps_ret pe_non)) pss_nil)
      (pss_cons (ps_set (i := 4) sc_law_due.nd rfl (Or.inl rfl) pe_int)
      (pss_cons (ps_for PassesOwn.never rfl (pi_str (pv 3)) (pg_name (i := 5) sc_law_due.nd rfl (Or.inl rfl)) (pss_cons (ps_if (pt_cmpR Jl.op_notInS (pv 5) pe_str rfl) (pss_one (ps_ret pe_non)) pss_nil)
      (pss_one (ps_set (i := 4) sc_law_due.nd rfl (Or.inl rfl) (pe_op op_add (pe_op op_mul pe_int (pv 4)) (pe_bm PySem.F.plainAttrs_str PySem.F.slot_str_index PySem.F.type_str_index Jl.mt_sindex1 pe_str (pa_cons (pv 5) pa_nil)))))))
      (pss_cons (ps_if (pt_cmpR op_eq (pe_ix ix_str (pv 0) pe_int (fun _ _ => rfl)) pe_str (nomark _)) (pss_one (ps_set (i := 4) sc_law_due.nd rfl (Or.inl rfl) (pe_op op_sub pe_int (pv 4)))) pss_nil)
      (pss_cons (ps_if (PW.pt (pw_or (pt_cmpR op_lt (pv 4) (pv 1) (nomark _)) (pw_or1 (pt_cmpR op_gt (pv 4) (pv 2) (nomark _))))) (pss_one (ps_ret pe_non)) pss_nil)
      (pss_one (ps_ret (pv 4)))))))))), ?_⟩
    show (_ : TS) _ [some (.str z), some (.int a), some (.int b), none, none, none] H
    have hl := Jl.len_list z
    walk_at "w"
    refine Jl.s_iteAsgV (.str z) (.str (cutS z (some 1) none)) (fun _ R h => ?_) rfl ?_
    · walk_at "w"; exact h
    rw [Jl.ite_str]
    simp only [List.set_cons_zero, List.set_cons_succ]
    have hf := Jl.figs_text z
    have hfz : (if cutS z none (some 1) = "-" then cutS z (some 1) none else z).length ≤ z.length := by
      split
      · exact Jl.len_cut _ _ _
      · exact Nat.le_refl _
    generalize (if cutS z none (some 1) = "-" then cutS z (some 1) none else z) = f at *
    have hfl : (Jl.figs z.cps.toList).length = f.length := by rw [← hf]; exact Jl.len_list f
    by_cases hr : 1 ≤ f.length ∧ f.length ≤ 10
    rotate_left
    · rw [Jl.numOf_none (fun q => hr (by have := q.1; omega))] at k
      walk_at "w"
      refine Jl.s_iteD (fun h => ?_) (fun h => ?_)
      · walk_at "w"; exact k
      · have := (not_congr (Jl.empty_iff f)).mp h
        walk_at "wd"
        exact k
    obtain ⟨r1, r2⟩ := hr
    obtain ⟨c0, hc0⟩ : ∃ c, f.cps.toList[0]? = some c := ⟨_, List.getElem?_eq_getElem (by rw [Jl.len_list]; omega)⟩
    obtain ⟨c1, hc1⟩ : ∃ c, z.cps.toList[0]? = some c := ⟨_, List.getElem?_eq_getElem (by omega)⟩
    have hD : (Jl.figs z.cps.toList).getD 0 0 = c0 := by rw [← hf, List.getD_eq_getElem?_getD, hc0]; rfl
    have hh : z.cps.toList.head? = some c1 := by rw [List.head?_eq_getElem?, hc1]
    have z0 : (⟨#[c0]⟩ : Str) = "0" ↔ c0 = 48 := Jl.one_is (by decide +kernel)
    have z1 : (⟨#[c1]⟩ : Str) = "-" ↔ c1 = 45 := Jl.one_is (by decide +kernel)
    have hnz : f ≠ "" := (not_congr (Jl.empty_iff f)).mpr (by omega)
    walk_at "wd"
    refine Jl.s_ixS (Jl.atI_of0 hc0) ?_ (by omega)
    walk_at "wd"
    refine Jl.s_iteD (fun h0 => ?_) (fun h0 => ?_)
    rotate_left
    · have good : ¬ ((Jl.figs z.cps.toList).getD 0 0 = 48 ∧ z.cps.toList ≠ [48]) := fun q => h0 (z0.mpr (by rw [← hD]; exact q.1))
      walk_at "w"
      refine Jl.s_forS (z := f) (fun i σ H' => (∃ v, σ = [some (.str z), some (.int a), some (.int b), some (.str f), some (.int ((NumText.digitsVal (f.cps.toList.take i) : Nat) : Int)), v]) ∧ H' = H ∧ ∀ j x, j < i → f.cps.toList[j]? = some x → Jl.isFig x = true) (fun R h => ?_) ⟨⟨_, rfl⟩, rfl, fun j x hj => by omega⟩ ?_ ?_
      · walk_at "w"; exact h
      · rintro i c σ H' hc ⟨⟨v, rfl⟩, rfl, ha⟩
        simp only [List.set_cons_zero, List.set_cons_succ]
        walk_at "w"
        refine Jl.s_iteN (fun g1 => ?_) (fun g1 => ?_)
        · rw [Jl.numOf_none (fun q => g1 ((Jl.fig_iff c).mpr (of_decide_eq_true (List.all_eq_true.mp q.2.2.1 c (by rw [← hf]; exact List.mem_of_getElem? hc)))))] at k
          walk_at "w"; exact k
        · have g2 := (Jl.fig_iff c).mp g1
          walk_at "w"
          refine Jl.s_tyS ?_
          walk_at "w"
          refine Jl.s_figIndex g2 ?_
          walk_at "w"
          refine ⟨⟨some (.str ⟨#[c]⟩), ?_⟩, by trivial, fun j x hj hx => ?_⟩
          · rw [Jl.take_more hc, Jl.dv_snoc]
            rw [show ((NumText.digitsVal (f.cps.toList.take i) * 10 + (c - 48) : Nat) : Int) = 10 * ((NumText.digitsVal (f.cps.toList.take i) : Nat) : Int) + ((c - 48 : Nat) : Int) by omega]
          · by_cases q : j = i
            · subst q; rw [hc] at hx; cases hx; exact decide_eq_true g2
            · exact ha j x (by omega) hx
      · rintro σ H' ⟨⟨v, rfl⟩, rfl, ha⟩
        have hall : (Jl.figs z.cps.toList).all Jl.isFig = true := by
          rw [← hf]
          exact Jl.all_true fun i x hx => ha i x (by rw [← Jl.len_list]; exact (List.getElem?_eq_some_iff.mp hx).1) hx
        rw [show f.cps.toList.take f.length = Jl.figs z.cps.toList by rw [← hf]; exact List.take_of_length_le (by rw [Jl.len_list]; omega)]
        walk_at "w"
        refine Jl.s_ixS (Jl.atI_of0 hc1) ?_ (by omega)
        walk_at "w"
        refine Jl.s_iteAsgI ((NumText.digitsVal (Jl.figs z.cps.toList) : Nat) : Int) (0 - ((NumText.digitsVal (Jl.figs z.cps.toList) : Nat) : Int)) (fun _ R h => ?_) rfl ?_
        · walk_at "w"; exact h
        simp only [List.set_cons_zero, List.set_cons_succ]
        have ev : (if (⟨#[c1]⟩ : Str) = "-" then 0 - ((NumText.digitsVal (Jl.figs z.cps.toList) : Nat) : Int) else ((NumText.digitsVal (Jl.figs z.cps.toList) : Nat) : Int)) = Jl.valOf z.cps.toList := by
          unfold Jl.valOf
          rw [hh]
          by_cases q : c1 = 45
          · rw [if_pos (z1.mpr q), if_pos (by rw [q])]
          · rw [if_neg (fun y => q (z1.mp y)), if_neg (fun y => q (Option.some.inj y))]
        rw [ev]
        by_cases hin : a ≤ Jl.valOf z.cps.toList ∧ Jl.valOf z.cps.toList ≤ b
        · rw [Jl.numOf_some ⟨by omega, by omega⟩ good hall hin] at k
          obtain ⟨i1, i2⟩ := hin
          walk_at "wd"; exact k
        · rw [Jl.numOf_none (fun q => hin q.2.2.2)] at k
          walk_at "all"
          all_goals exact k
    · walk_at "w"
      refine Jl.s_iteN (fun h2 => ?_) (fun h2 => ?_)
      · rw [Jl.numOf_none (fun q => q.2.1 ⟨by rw [hD]; exact z0.mp h0, (not_congr (Jl.zero_iff z)).mp h2⟩)] at k
        walk_at "w"; exact k
      · have good : ¬ ((Jl.figs z.cps.toList).getD 0 0 = 48 ∧ z.cps.toList ≠ [48]) := fun q => q.2 ((Jl.zero_iff z).mp h2)
        walk_at "w"
        refine Jl.s_forS (z := f) (fun i σ H' => (∃ v, σ = [some (.str z), some (.int a), some (.int b), some (.str f), some (.int ((NumText.digitsVal (f.cps.toList.take i) : Nat) : Int)), v]) ∧ H' = H ∧ ∀ j x, j < i → f.cps.toList[j]? = some x → Jl.isFig x = true) (fun R h => ?_) ⟨⟨_, rfl⟩, rfl, fun j x hj => by omega⟩ ?_ ?_
        · walk_at "w"; exact h
        · rintro i c σ H' hc ⟨⟨v, rfl⟩, rfl, ha⟩
          simp only [List.set_cons_zero, List.set_cons_succ]
          walk_at "w"
          refine Jl.s_iteN (fun g1 => ?_) (fun g1 => ?_)
          · rw [Jl.numOf_none (fun q => g1 ((Jl.fig_iff c).mpr (of_decide_eq_true (List.all_eq_true.mp q.2.2.1 c (by rw [← hf]; exact List.mem_of_getElem? hc)))))] at k
            walk_at "w"; exact k
          · have g2 := (Jl.fig_iff c).mp g1
            walk_at "w"
            refine Jl.s_tyS ?_
            walk_at "w"
            refine Jl.s_figIndex g2 ?_
            walk_at "w"
            refine ⟨⟨some (.str ⟨#[c]⟩), ?_⟩, by trivial, fun j x hj hx => ?_⟩
            · rw [Jl.take_more hc, Jl.dv_snoc]
              rw [show ((NumText.digitsVal (f.cps.toList.take i) * 10 + (c - 48) : Nat) : Int) = 10 * ((NumText.digitsVal (f.cps.toList.take i) : Nat) : Int) + ((c - 48 : Nat) : Int) by omega]
            · by_cases q : j = i
              · subst q; rw [hc] at hx; cases hx; exact decide_eq_true g2
              · exact ha j x (by omega) hx
        · rintro σ H' ⟨⟨v, rfl⟩, rfl, ha⟩
          have hall : (Jl.figs z.cps.toList).all Jl.isFig = true := by
            rw [← hf]
            exact Jl.all_true fun i x hx => ha i x (by rw [← Jl.len_list]; exact (List.getElem?_eq_some_iff.mp hx).1) hx
          rw [show f.cps.toList.take f.length = Jl.figs z.cps.toList by rw [← hf]; exact List.take_of_length_le (by rw [Jl.len_list]; omega)]
          walk_at "w"
          refine Jl.s_ixS (Jl.atI_of0 hc1) ?_ (by omega)
          walk_at "w"
          refine Jl.s_iteAsgI ((NumText.digitsVal (Jl.figs z.cps.toList) : Nat) : Int) (0 - ((NumText.digitsVal (Jl.figs z.cps.toList) : Nat) : Int)) (fun _ R h => ?_) rfl ?_
          · walk_at "w"; exact h
          simp only [List.set_cons_zero, List.set_cons_succ]
          have ev : (if (⟨#[c1]⟩ : Str) = "-" then 0 - ((NumText.digitsVal (Jl.figs z.cps.toList) : Nat) : Int) else ((NumText.digitsVal (Jl.figs z.cps.toList) : Nat) : Int)) = Jl.valOf z.cps.toList := by
            unfold Jl.valOf
            rw [hh]
            by_cases q : c1 = 45
            · rw [if_pos (z1.mpr q), if_pos (by rw [q])]
            · rw [if_neg (fun y => q (z1.mp y)), if_neg (fun y => q (Option.some.inj y))]
          rw [ev]
          by_cases hin : a ≤ Jl.valOf z.cps.toList ∧ Jl.valOf z.cps.toList ≤ b
          · rw [Jl.numOf_some ⟨by omega, by omega⟩ good hall hin] at k
            obtain ⟨i1, i2⟩ := hin
            walk_at "wd"; exact k
          · rw [Jl.numOf_none (fun q => hin q.2.2.2)] at k
            walk_at "all"
            all_goals exact k
/-! ### _law_holds -/
def sp_law_holds : Sp := fun vs H Q _ => ∃ c d : Int, vs = [.int c, .int d] ∧ ∀ H', Same H H' → Q (.bl true) H'
theorem use_holds {c d : Int} {H : Hp} {Q : VK} {E : XK} (z : ∀ H', Same H H' → Q (.bl true) H') : sp_law_holds [.int c, .int d] H Q E := ⟨c, d, rfl, z⟩
local macro_rules | `(tactic| walk_at "s") => `(tactic| (with_reducible refine use_holds (fun H' s3 => ?_)))
theorem ok_law_holds (T : Txt K mg) : FnOk P w K mg base CX0 3 T.a_law_holds T.d_law_holds ["_law_cell", "_law_other"] (sp_law_holds) := by
  have G_number_of := ok_number_of (P := P) (w := w) (base := base) T
  have G_law_whole := ok_law_whole (P := P) (w := w) (base := base) T
  have G_law_number_by := ok_law_number_by (P := P) (w := w) (base := base) T
  have G_law_text_by := ok_law_text_by (P := P) (w := w) (base := base) T
  have G_law_edge_by := ok_law_edge_by (P := P) (w := w) (base := base) T
  have G_law_due := ok_law_due (P := P) (w := w) (base := base) T
  refine T.F_law_holds.ok sc_law_holds (fun vs H Q E h => ?_) (fun cdv A outer s H vs Q E hr h => ?_)
  · obtain ⟨c, d, rfl, k⟩ := h
    rfl
  · obtain ⟨c, d, rfl, k⟩ := h
    have hu := hu_of hr
    refine ⟨_, (pss_cons (ps_set (i := 2) sc_law_holds.nd rfl (Or.inl rfl) (pe_call (G_law_number_by) (hr.mono (by decide)) rfl T.m_law_number_by T.F_law_number_by.kp T.b_law_number_by .nil pass0 (pa_cons (pv 0) pa_nil)))
      (pss_cons (ps_set (i := 3) sc_law_holds.nd rfl (Or.inl rfl) (pe_call (G_law_text_by) (hr.mono (by decide)) rfl T.m_law_text_by T.F_law_text_by.kp T.b_law_text_by .nil pass0 (pa_cons (pv 2) (pa_cons (pv 1) pa_nil))))
      (pss_cons (ps_set (i := 4) sc_law_holds.nd rfl (Or.inl rfl) (pe_call (G_law_edge_by) (hr.mono (by decide)) rfl T.m_law_edge_by T.F_law_edge_by.kp T.b_law_edge_by .nil pass0 (pa_cons (pv 2) (pa_cons (pe_op op_add (pe_op op_fdiv (pv 1) pe_int) (pv 0)) pa_nil))))
      (pss_cons (ps_set (i := 5) sc_law_holds.nd rfl (Or.inl rfl) (pe_call (G_law_edge_by) (hr.mono (by decide)) rfl T.m_law_edge_by T.F_law_edge_by.kp T.b_law_edge_by .nil pass0 (pa_cons (pv 2) (pa_cons (pe_op op_fdiv (pv 1) pe_int) pa_nil))))
      (pss_cons (ps_set (i := 6) sc_law_holds.nd rfl (Or.inl rfl) (pe_call (G_law_due) (hr.mono (by decide)) rfl T.m_law_due T.F_law_due.kp T.b_law_due .nil pass0 (pa_cons (pv 3) (pa_cons (pv 4) (pa_cons (pv 5) pa_nil)))))
      (pss_cons (ps_set (i := 7) sc_law_holds.nd rfl (Or.inl rfl) (pe_call (G_number_of) (hr.mono (by decide)) rfl T.m_number_of T.F_number_of.kp T.b_number_of .nil pass0 (pa_cons (pv 3) (pa_cons (pv 4) (pa_cons (pv 5) pa_nil)))))
      (pss_cons (ps_if (pt_cmpR Jl.op_isN1 (pv 6) pe_non (nomark _)) (pss_one (ps_ret (pe_cmpR Jl.op_isN1 (pv 7) pe_non (nomark _)))) pss_nil)
      (pss_one (ps_ret (pe_and (pe_call (G_law_whole) (hr.mono (by decide)) rfl T.m_law_whole T.F_law_whole.kp T.b_law_whole .nil pass0 (pa_cons (pv 7) pa_nil)) (pe_one (pe_cmpR op_eq (pv 7) (pv 6) (nomark _))))))))))))), ?_⟩
    show (_ : TS) _ [some (.int c), some (.int d), none, none, none, none, none, none] H
    walk_at "w"
    generalize Jl.numOf _ _ _ = o at *
    cases o with
    | none =>
      simp only [Jl.optI]
      walk_at "w"
      exact k _ (by walk_at "same")
    | some n =>
      simp only [Jl.optI]
      walk_at "w"
      exact Jl.fin_dec (k _ (by walk_at "same")) rfl
/-! ### law -/
def sp_law (K : PySem.W.Frag) : Sp := fun vs H Q _ => ∃ (a : Addr) (ns : List Int), vs = [.ref a] ∧ SqL K H a (ns.map V.int) ∧ ns.length ≤ 63 ∧ ∀ H', Q (.bl true) H'
theorem ok_law (T : Txt K mg) : FnOk P w K mg base CX0 4 T.a_law T.d_law ["_law_script"] (sp_law K) := by
  have G_law_holds := ok_law_holds (P := P) (w := w) (base := base) T
  refine T.F_law.ok sc_law (fun vs H Q E h => ?_) (fun cdv A outer s H vs Q E hr h => ?_)
  · obtain ⟨a, ns, rfl, hS, hlen, k⟩ := h
    rfl
  · obtain ⟨a, ns, rfl, hS, hlen, k⟩ := h
    have hu := hu_of hr
    refine ⟨_, (pss_cons (ps_set (i := 1) sc_law.nd rfl (Or.inl rfl) (pe_op (r := Jl.rCatS K) Jl.op_catS (pv 0) (pe_lst (pa_cons pe_int pa_nil))))
      (pss_cons (ps_for PassesOwn.never rfl (pi_range1 (by rfl) T.n_range (pa_cons (pe_callB (r := Jl.rLenL K) Jl.cl_lenL (by rfl) T.n_len (by decide +kernel) (pa_cons (pv 1) pa_nil)) pa_nil)) (pg_name (i := 2) sc_law.nd rfl (Or.inl rfl)) (pss_one (ps_if (pt_not (pt_val (pe_call (G_law_holds) (hr.mono (by decide)) rfl T.m_law_holds T.F_law_holds.kp T.b_law_holds .nil pass0 (pa_cons (pe_ix (r := rIxL K) ix_list (pv 1) (pv 2) (fun _ _ => rfl)) (pa_cons (pe_ix (r := rIxL K) ix_list (pv 1) (pe_op op_sub (pv 2) pe_int) (fun _ _ => rfl)) pa_nil))))) (pss_one (ps_ret pe_bl)) pss_nil)))
      (pss_one (ps_ret pe_bl)))), ?_⟩
    show (_ : TS) _ [some (.ref a), none, none] H
    refine Jl.s_seq_assoc (Jl.law1 (ms := [0]) hS hlen (by decide) (fun R z => ?_) (fun p H1 R hp z => ?_) (fun p i N H1 s1 hc h0 h1 hN => ?_) (fun p v H1 s1 => ?_))
    · walk_at "w"
      exact ⟨by decide, z⟩
    · walk_at "w"
      first
        | (refine ⟨p, _, rfl, .inl hp, ?_⟩; rw [List.length_map]; walk_at "w"; exact z)
        | (rw [List.length_map]; exact z)
    · have e := List.length_append (as := ns) (bs := [0])
      obtain ⟨z0, e0⟩ := Jl.atI_any (ns := ns ++ [0]) (i := i) (by omega) (by omega)
      obtain ⟨z1, e1⟩ := Jl.atI_any (ns := ns ++ [0]) (i := i - 1) (by rw [List.length_append]; show -((ns.length + 1 : Nat) : Int) ≤ _; omega) (by omega)
      walk_at "w"; refine Jl.s_ixL hc e0 ?_; walk_at "w"; refine Jl.s_ixL hc e1 ?_
      walk_at "w"
      exact hN _ _ (by assumption)
    · walk_at "w"
      exact k _
end
theorem all_mk {l : PySem.W.OpenLaw} {w : World} {K : PySem.W.Frag} {h : Heap} {mg : Str → Option Value} {fa a_number_of a_law_whole a_law_sign_by a_law_number_by a_law_text_by a_law_edge_by a_law_due a_law_holds a_law : Addr} (X : K.In h) (G : h.Ns mainGlobals mg) (hfa : mg "law" = some (.ref fa))
    {od_number_of an_number_of : Option Addr} {sl_number_of : Array (Option Value)} {oc_number_of kV_number_of dc_number_of pm_number_of cd_number_of ct_number_of : Value}
    {od_law_whole an_law_whole : Option Addr} {sl_law_whole : Array (Option Value)} {oc_law_whole kV_law_whole dc_law_whole pm_law_whole cd_law_whole ct_law_whole : Value}
    {od_law_sign_by an_law_sign_by : Option Addr} {sl_law_sign_by : Array (Option Value)} {oc_law_sign_by kV_law_sign_by dc_law_sign_by pm_law_sign_by cd_law_sign_by ct_law_sign_by : Value}
    {od_law_number_by an_law_number_by : Option Addr} {sl_law_number_by : Array (Option Value)} {oc_law_number_by kV_law_number_by dc_law_number_by pm_law_number_by cd_law_number_by ct_law_number_by : Value}
    {od_law_text_by an_law_text_by : Option Addr} {sl_law_text_by : Array (Option Value)} {oc_law_text_by kV_law_text_by dc_law_text_by pm_law_text_by cd_law_text_by ct_law_text_by : Value}
    {od_law_edge_by an_law_edge_by : Option Addr} {sl_law_edge_by : Array (Option Value)} {oc_law_edge_by kV_law_edge_by dc_law_edge_by pm_law_edge_by cd_law_edge_by ct_law_edge_by : Value}
    {od_law_due an_law_due : Option Addr} {sl_law_due : Array (Option Value)} {oc_law_due kV_law_due dc_law_due pm_law_due cd_law_due ct_law_due : Value}
    {od_law_holds an_law_holds : Option Addr} {sl_law_holds : Array (Option Value)} {oc_law_holds kV_law_holds dc_law_holds pm_law_holds cd_law_holds ct_law_holds : Value}
    {od_law an_law : Option Addr} {sl_law : Array (Option Value)} {oc_law kV_law dc_law pm_law cd_law ct_law : Value}
    {t_FIGURES : Tok}
    (ns_number_of : PySem.W.nsIn K mainGlobals "number_of" = some (some (.ref a_number_of)))
    (ns_law_whole : PySem.W.nsIn K mainGlobals "_law_whole" = some (some (.ref a_law_whole)))
    (ns_law_sign_by : PySem.W.nsIn K mainGlobals "_law_sign_by" = some (some (.ref a_law_sign_by)))
    (ns_law_number_by : PySem.W.nsIn K mainGlobals "_law_number_by" = some (some (.ref a_law_number_by)))
    (ns_law_text_by : PySem.W.nsIn K mainGlobals "_law_text_by" = some (some (.ref a_law_text_by)))
    (ns_law_edge_by : PySem.W.nsIn K mainGlobals "_law_edge_by" = some (some (.ref a_law_edge_by)))
    (ns_law_due : PySem.W.nsIn K mainGlobals "_law_due" = some (some (.ref a_law_due)))
    (ns_law_holds : PySem.W.nsIn K mainGlobals "_law_holds" = some (some (.ref a_law_holds)))
    (ns_law : PySem.W.nsIn K mainGlobals "law" = some (some (.ref a_law)))
    (lk_number_of : K.lookup a_number_of = some ⟨oc_number_of, od_number_of, .func (PySem.W.fnOf "number_of" "number_of" (defArgs s_number_of) (defBody s_number_of) (defScope s_number_of) .none kV_number_of dc_number_of pm_number_of an_number_of cd_number_of ct_number_of), sl_number_of⟩)
    (cd_is_number_of : PySem.W.codeIn K cd_number_of "number_of" = true)
    (kp_number_of : PySem.W.keepIn K (.ref a_number_of) = true)
    (lk_law_whole : K.lookup a_law_whole = some ⟨oc_law_whole, od_law_whole, .func (PySem.W.fnOf "_law_whole" "_law_whole" (defArgs s_law_whole) (defBody s_law_whole) (defScope s_law_whole) .none kV_law_whole dc_law_whole pm_law_whole an_law_whole cd_law_whole ct_law_whole), sl_law_whole⟩)
    (cd_is_law_whole : PySem.W.codeIn K cd_law_whole "_law_whole" = true)
    (kp_law_whole : PySem.W.keepIn K (.ref a_law_whole) = true)
    (lk_law_sign_by : K.lookup a_law_sign_by = some ⟨oc_law_sign_by, od_law_sign_by, .func (PySem.W.fnOf "_law_sign_by" "_law_sign_by" (defArgs s_law_sign_by) (defBody s_law_sign_by) (defScope s_law_sign_by) .none kV_law_sign_by dc_law_sign_by pm_law_sign_by an_law_sign_by cd_law_sign_by ct_law_sign_by), sl_law_sign_by⟩)
    (cd_is_law_sign_by : PySem.W.codeIn K cd_law_sign_by "_law_sign_by" = true)
    (kp_law_sign_by : PySem.W.keepIn K (.ref a_law_sign_by) = true)
    (lk_law_number_by : K.lookup a_law_number_by = some ⟨oc_law_number_by, od_law_number_by, .func (PySem.W.fnOf "_law_number_by" "_law_number_by" (defArgs s_law_number_by) (defBody s_law_number_by) (defScope s_law_number_by) .none kV_law_number_by dc_law_number_by pm_law_number_by an_law_number_by cd_law_number_by ct_law_number_by), sl_law_number_by⟩)
    (cd_is_law_number_by : PySem.W.codeIn K cd_law_number_by "_law_number_by" = true)
    (kp_law_number_by : PySem.W.keepIn K (.ref a_law_number_by) = true)
    (lk_law_text_by : K.lookup a_law_text_by = some ⟨oc_law_text_by, od_law_text_by, .func (PySem.W.fnOf "_law_text_by" "_law_text_by" (defArgs s_law_text_by) (defBody s_law_text_by) (defScope s_law_text_by) .none kV_law_text_by dc_law_text_by pm_law_text_by an_law_text_by cd_law_text_by ct_law_text_by), sl_law_text_by⟩)
    (cd_is_law_text_by : PySem.W.codeIn K cd_law_text_by "_law_text_by" = true)
    (kp_law_text_by : PySem.W.keepIn K (.ref a_law_text_by) = true)
    (lk_law_edge_by : K.lookup a_law_edge_by = some ⟨oc_law_edge_by, od_law_edge_by, .func (PySem.W.fnOf "_law_edge_by" "_law_edge_by" (defArgs s_law_edge_by) (defBody s_law_edge_by) (defScope s_law_edge_by) .none kV_law_edge_by dc_law_edge_by pm_law_edge_by an_law_edge_by cd_law_edge_by ct_law_edge_by), sl_law_edge_by⟩)
    (cd_is_law_edge_by : PySem.W.codeIn K cd_law_edge_by "_law_edge_by" = true)
    (kp_law_edge_by : PySem.W.keepIn K (.ref a_law_edge_by) = true)
    (lk_law_due : K.lookup a_law_due = some ⟨oc_law_due, od_law_due, .func (PySem.W.fnOf "_law_due" "_law_due" (defArgs s_law_due) (defBody s_law_due) (defScope s_law_due) .none kV_law_due dc_law_due pm_law_due an_law_due cd_law_due ct_law_due), sl_law_due⟩)
    (cd_is_law_due : PySem.W.codeIn K cd_law_due "_law_due" = true)
    (kp_law_due : PySem.W.keepIn K (.ref a_law_due) = true)
    (lk_law_holds : K.lookup a_law_holds = some ⟨oc_law_holds, od_law_holds, .func (PySem.W.fnOf "_law_holds" "_law_holds" (defArgs s_law_holds) (defBody s_law_holds) (defScope s_law_holds) .none kV_law_holds dc_law_holds pm_law_holds an_law_holds cd_law_holds ct_law_holds), sl_law_holds⟩)
    (cd_is_law_holds : PySem.W.codeIn K cd_law_holds "_law_holds" = true)
    (kp_law_holds : PySem.W.keepIn K (.ref a_law_holds) = true)
    (lk_law : K.lookup a_law = some ⟨oc_law, od_law, .func (PySem.W.fnOf "law" "law" (defArgs s_law) (defBody s_law) (defScope s_law) .none kV_law dc_law pm_law an_law cd_law ct_law), sl_law⟩)
    (cd_is_law : PySem.W.codeIn K cd_law "law" = true)
    (kp_law : PySem.W.keepIn K (.ref a_law) = true)
    (ns_FIGURES : PySem.W.nsIn K mainGlobals "FIGURES" = some (some (.str "0123456789" t_FIGURES)))
    (ns_bool : PySem.W.nsIn K mainGlobals "bool" = some none)
    (ns_int : PySem.W.nsIn K mainGlobals "int" = some none)
    (ns_isinstance : PySem.W.nsIn K mainGlobals "isinstance" = some none)
    (ns_len : PySem.W.nsIn K mainGlobals "len" = some none)
    (ns_max : PySem.W.nsIn K mainGlobals "max" = some none)
    (ns_min : PySem.W.nsIn K mainGlobals "min" = some none)
    (ns_range : PySem.W.nsIn K mainGlobals "range" = some none)
    (ns_str : PySem.W.nsIn K mainGlobals "str" = some none)
    : ∃ fd : FuncData, (∀ (s : Shared) (v : Value), BindsTo s fd ⟨[v], []⟩ [("_law_script", v)]) ∧ ∀ base : Heap, K.In base → base.Ns mainGlobals mg → FnOk l.prog w K mg base CX0 4 fa fd ["_law_script"] (sp_law K) := by
  have e := hfa.symm.trans (PySem.W.mg_of X G ns_law)
  cases e
  exact ⟨_, fun s v => .of_eq rfl, fun base _ _ => ok_law (P := l.prog) (w := w) (base := base) (T := {
    a_number_of := _, d_number_of := _, F_number_of := fun_mk (st := s_number_of) lk_number_of cd_is_number_of kp_number_of,
    m_number_of := PySem.W.mg_of X G ns_number_of,
    b_number_of := (fun_mk (st := s_number_of) lk_number_of cd_is_number_of kp_number_of).binds (ps := ["text", "least", "most"]) fun _ _ _ _ _ _ us hl => match us, hl with | [_, _, _], _ => rfl,
    a_law_whole := _, d_law_whole := _, F_law_whole := fun_mk (st := s_law_whole) lk_law_whole cd_is_law_whole kp_law_whole,
    m_law_whole := PySem.W.mg_of X G ns_law_whole,
    b_law_whole := (fun_mk (st := s_law_whole) lk_law_whole cd_is_law_whole kp_law_whole).binds (ps := ["_law_found"]) fun _ _ _ _ _ _ us hl => match us, hl with | [_], _ => rfl,
    a_law_sign_by := _, d_law_sign_by := _, F_law_sign_by := fun_mk (st := s_law_sign_by) lk_law_sign_by cd_is_law_sign_by kp_law_sign_by,
    m_law_sign_by := PySem.W.mg_of X G ns_law_sign_by,
    b_law_sign_by := (fun_mk (st := s_law_sign_by) lk_law_sign_by cd_is_law_sign_by kp_law_sign_by).binds (ps := ["_law_cell"]) fun _ _ _ _ _ _ us hl => match us, hl with | [_], _ => rfl,
    a_law_number_by := _, d_law_number_by := _, F_law_number_by := fun_mk (st := s_law_number_by) lk_law_number_by cd_is_law_number_by kp_law_number_by,
    m_law_number_by := PySem.W.mg_of X G ns_law_number_by,
    b_law_number_by := (fun_mk (st := s_law_number_by) lk_law_number_by cd_is_law_number_by kp_law_number_by).binds (ps := ["_law_cell"]) fun _ _ _ _ _ _ us hl => match us, hl with | [_], _ => rfl,
    a_law_text_by := _, d_law_text_by := _, F_law_text_by := fun_mk (st := s_law_text_by) lk_law_text_by cd_is_law_text_by kp_law_text_by,
    m_law_text_by := PySem.W.mg_of X G ns_law_text_by,
    b_law_text_by := (fun_mk (st := s_law_text_by) lk_law_text_by cd_is_law_text_by kp_law_text_by).binds (ps := ["_law_number", "_law_cell"]) fun _ _ _ _ _ _ us hl => match us, hl with | [_, _], _ => rfl,
    a_law_edge_by := _, d_law_edge_by := _, F_law_edge_by := fun_mk (st := s_law_edge_by) lk_law_edge_by cd_is_law_edge_by kp_law_edge_by,
    m_law_edge_by := PySem.W.mg_of X G ns_law_edge_by,
    b_law_edge_by := (fun_mk (st := s_law_edge_by) lk_law_edge_by cd_is_law_edge_by kp_law_edge_by).binds (ps := ["_law_number", "_law_cell"]) fun _ _ _ _ _ _ us hl => match us, hl with | [_, _], _ => rfl,
    a_law_due := _, d_law_due := _, F_law_due := fun_mk (st := s_law_due) lk_law_due cd_is_law_due kp_law_due,
    m_law_due := PySem.W.mg_of X G ns_law_due,
    b_law_due := (fun_mk (st := s_law_due) lk_law_due cd_is_law_due kp_law_due).binds (ps := ["_law_text", "_law_least", "_law_most"]) fun _ _ _ _ _ _ us hl => match us, hl with | [_, _, _], _ => rfl,
    a_law_holds := _, d_law_holds := _, F_law_holds := fun_mk (st := s_law_holds) lk_law_holds cd_is_law_holds kp_law_holds,
    m_law_holds := PySem.W.mg_of X G ns_law_holds,
    b_law_holds := (fun_mk (st := s_law_holds) lk_law_holds cd_is_law_holds kp_law_holds).binds (ps := ["_law_cell", "_law_other"]) fun _ _ _ _ _ _ us hl => match us, hl with | [_, _], _ => rfl,
    a_law := _, d_law := _, F_law := fun_mk (st := s_law) lk_law cd_is_law kp_law,
    m_law := PySem.W.mg_of X G ns_law,
    b_law := (fun_mk (st := s_law) lk_law cd_is_law kp_law).binds (ps := ["_law_script"]) fun _ _ _ _ _ _ us hl => match us, hl with | [_], _ => rfl,
    t_FIGURES := t_FIGURES, g_FIGURES := PySem.W.mg_of X G ns_FIGURES,
    n_bool := PySem.W.mg_none_of X G ns_bool,
    n_int := PySem.W.mg_none_of X G ns_int,
    n_isinstance := PySem.W.mg_none_of X G ns_isinstance,
    n_len := PySem.W.mg_none_of X G ns_len,
    n_max := PySem.W.mg_none_of X G ns_max,
    n_min := PySem.W.mg_none_of X G ns_min,
    n_range := PySem.W.mg_none_of X G ns_range,
    n_str := PySem.W.mg_none_of X G ns_str })⟩
theorem walk {l : PySem.W.OpenLaw} {q : Program} {loose : List Str} {XP : (Str → Option Value) → Heap → Prop} {YP : World → Heap → Prop} {d : DefRec} {K : Params → PySem.W.Frag} (hn : l.most = some 63) (hdf : d.params.defaults = [])
    (hY : ∀ (w : World) (h : Heap), YP w h → (K w.params).In h)
    (F : ∀ (w : World) (mg : Str → Option Value) (fa : Addr) (h : Heap), (K w.params).In h → h.Ns mainGlobals mg → mg d.name = some (.ref fa) →
      ∃ fd : FuncData, (∀ (s : Shared) (u : Value), BindsTo s fd ⟨[u], []⟩ [("_law_script", u)]) ∧ ∀ base : Heap, (K w.params).In base → base.Ns mainGlobals mg → FnOk l.prog w (K w.params) mg base CX0 4 fa fd ["_law_script"] (sp_law (K w.params))) :
    PySem.W.WalkO q loose XP YP l.row.toRowW d [] (fun f vs => PySem.call f vs) :=
  L2.walk_of (n := 63) (k := 4) (x := "_law_script") (CX := fun _ => CX0) (sp := fun w => sp_law (K w.params)) hn (by decide) hdf ⟨rfl, by decide, by decide⟩ hY F (fun _ _ a ns hl _ hS => ⟨a, ns, rfl, hS, hl, fun _ => rfl⟩) fun _ _ _ _ _ z => z
end Jw
open PySem PySem.W PyProof.Rows
set_option maxRecDepth 100000 in
set_option maxHeartbeats 0 in
theorem PySem.Challenge.cw_joinload_k11_numbers_known_holds : PySem.Challenge.rw_joinload_k11_numbers_known.Holds := by
  w_on; o_law; k_head; (case hw => w_witness2)
  k_fill
  refine Jw.walk (l := PySem.Challenge.rw_joinload_k11_numbers_known) rfl rfl (fun w h Y => PySem.W.kIn_of Y) ?F
  case F =>
    intro w mg fa h KX G hmg
    refine' Jw.all_mk KX G hmg ?ns_number_of ?ns_law_whole ?ns_law_sign_by ?ns_law_number_by ?ns_law_text_by ?ns_law_edge_by ?ns_law_due ?ns_law_holds ?ns_law ?lk_number_of ?cd_is_number_of ?kp_number_of ?lk_law_whole ?cd_is_law_whole ?kp_law_whole ?lk_law_sign_by ?cd_is_law_sign_by ?kp_law_sign_by ?lk_law_number_by ?cd_is_law_number_by ?kp_law_number_by ?lk_law_text_by ?cd_is_law_text_by ?kp_law_text_by ?lk_law_edge_by ?cd_is_law_edge_by ?kp_law_edge_by ?lk_law_due ?cd_is_law_due ?kp_law_due ?lk_law_holds ?cd_is_law_holds ?kp_law_holds ?lk_law ?cd_is_law ?kp_law ?ns_FIGURES ?ns_bool ?ns_int ?ns_isinstance ?ns_len ?ns_max ?ns_min ?ns_range ?ns_str
    (case ns_number_of => k_is)
    (case ns_law_whole => k_is)
    (case ns_law_sign_by => k_is)
    (case ns_law_number_by => k_is)
    (case ns_law_text_by => k_is)
    (case ns_law_edge_by => k_is)
    (case ns_law_due => k_is)
    (case ns_law_holds => k_is)
    (case ns_law => k_is)
    (case lk_number_of => k_is)
    (case cd_is_number_of => k_is)
    (case kp_number_of => k_is)
    (case lk_law_whole => k_is)
    (case cd_is_law_whole => k_is)
    (case kp_law_whole => k_is)
    (case lk_law_sign_by => k_is)
    (case cd_is_law_sign_by => k_is)
    (case kp_law_sign_by => k_is)
    (case lk_law_number_by => k_is)
    (case cd_is_law_number_by => k_is)
    (case kp_law_number_by => k_is)
    (case lk_law_text_by => k_is)
    (case cd_is_law_text_by => k_is)
    (case kp_law_text_by => k_is)
    (case lk_law_edge_by => k_is)
    (case cd_is_law_edge_by => k_is)
    (case kp_law_edge_by => k_is)
    (case lk_law_due => k_is)
    (case cd_is_law_due => k_is)
    (case kp_law_due => k_is)
    (case lk_law_holds => k_is)
    (case cd_is_law_holds => k_is)
    (case kp_law_holds => k_is)
    (case lk_law => k_is)
    (case cd_is_law => k_is)
    (case kp_law => k_is)
    (case ns_FIGURES => k_is)
    (case ns_bool => k_is)
    (case ns_int => k_is)
    (case ns_isinstance => k_is)
    (case ns_len => k_is)
    (case ns_max => k_is)
    (case ns_min => k_is)
    (case ns_range => k_is)
    (case ns_str => k_is)
