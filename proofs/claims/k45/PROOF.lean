import PyProof.Rows.All
import Wide.All
import OpenK.AllK
import Wide.FinOn
import HandS.WordsExc
import KE.RegKIsAll
import HandS.DictComp
import HandS.ForMost
import HandS.IsInst
import HandS.Wide
import HandS.WideBits
import HandS.Style
import PyProof.Rows.BitMore
import KE.BitLaws
import PyProof.Rows.All
import Wide.All
import OpenK.AllK
import Wide.FinOn
import HandS.ForMost
import HandS.IsInst
import HandS.Wide
import HandS.WideBits
import HandS.Style
import HandS.More
import HandS.Replace
import KE.IntTextLaws
import PyProof.StrOps2
import HandS.Exc
import HandS.ExcOwn
import HandS.ExcValue
import HandS.ExcIs
import HandS.ExcField
import HandS.ExcInit
import HandS.Text
import KE.KExcIs
import HandS.Finally
import PySem.Challenge.RW_joinload_k45_loaded_words
set_option Elab.async false
set_option linter.all false
set_option maxRecDepth 100000
set_option maxHeartbeats 4000000
set_option maxHeartbeats 4000000
/-! Bits of whole numbers of any size: & and ^ by halves; a field put in. -/
namespace Jl
open PySem PyProof.Rows
theorem nat_and_rec (a b : Nat) : (a &&& b) = 2 * (a / 2 &&& b / 2) + (if a % 2 = 1 ∧ b % 2 = 1 then 1 else 0) := by
  have e : (a &&& b) / 2 = a / 2 &&& b / 2 := Nat.and_div_two
  have o := @Nat.and_mod_two_eq_one a b
  split <;> rename_i h
  · have := o.mpr h; omega
  · have : ¬ (a &&& b) % 2 = 1 := fun z => h (o.mp z)
    omega
theorem nat_or_rec (a b : Nat) : (a ||| b) = 2 * (a / 2 ||| b / 2) + (if a % 2 = 1 ∨ b % 2 = 1 then 1 else 0) := by
  have e : (a ||| b) / 2 = a / 2 ||| b / 2 := Nat.or_div_two
  have o := @Nat.or_mod_two_eq_one a b
  split <;> rename_i h
  · have := o.mpr h; omega
  · have : ¬ (a ||| b) % 2 = 1 := fun z => h (o.mp z)
    omega
theorem toNat_half {x : Int} (h : 0 ≤ x) : x.toNat / 2 = (x / 2).toNat := by omega
theorem not_half (x : Int) : Builtin.bitNot x / 2 = Builtin.bitNot (x / 2) := by unfold Builtin.bitNot; omega
/-- & by halves -/
theorem and_rec (x y : Int) : Builtin.bitAnd x y = 2 * Builtin.bitAnd (x / 2) (y / 2) + (if x % 2 = 1 ∧ y % 2 = 1 then 1 else 0) := by
  by_cases hx : 0 ≤ x
  · have hx' : 0 ≤ x / 2 := by omega
    by_cases hy : 0 ≤ y
    · have hy' : 0 ≤ y / 2 := by omega
      rw [bitAnd_pp hx hy, bitAnd_pp hx' hy', nat_and_rec, toNat_half hx, toNat_half hy]
      split <;> split <;> omega
    · have hy' : ¬ 0 ≤ y / 2 := by omega
      have hn : 0 ≤ Builtin.bitNot y := by unfold Builtin.bitNot; omega
      rw [bitAnd_comm x y, bitAnd_comm (x / 2), bitAnd_np hy hx, bitAnd_np hy' hx', nat_and_rec, toNat_half hx, toNat_half hn, not_half]
      have e1 : x.toNat % 2 = 1 ↔ x % 2 = 1 := by omega
      have e2 : (Builtin.bitNot y).toNat % 2 = 1 ↔ ¬ y % 2 = 1 := by unfold Builtin.bitNot at *; omega
      split <;> split <;> omega
  · have hx' : ¬ 0 ≤ x / 2 := by omega
    have hnx : 0 ≤ Builtin.bitNot x := by unfold Builtin.bitNot; omega
    have e2 : (Builtin.bitNot x).toNat % 2 = 1 ↔ ¬ x % 2 = 1 := by unfold Builtin.bitNot at *; omega
    by_cases hy : 0 ≤ y
    · have hy' : 0 ≤ y / 2 := by omega
      rw [bitAnd_np hx hy, bitAnd_np hx' hy', nat_and_rec, toNat_half hy, toNat_half hnx, not_half]
      have e1 : y.toNat % 2 = 1 ↔ y % 2 = 1 := by omega
      split <;> split <;> omega
    · have hy' : ¬ 0 ≤ y / 2 := by omega
      have hny : 0 ≤ Builtin.bitNot y := by unfold Builtin.bitNot; omega
      have e3 : (Builtin.bitNot y).toNat % 2 = 1 ↔ ¬ y % 2 = 1 := by unfold Builtin.bitNot at *; omega
      rw [bitAnd_nn hx hy, bitAnd_nn hx' hy', nat_or_rec, toNat_half hnx, toNat_half hny, not_half, not_half]
      have u : ∀ z : Int, Builtin.bitNot z = -z - 1 := fun _ => rfl
      rw [u (_ : Nat), u (_ : Nat)]
      split <;> split <;> omega
/-- ^ by halves -/
theorem xor_rec (x y : Int) : Builtin.bitXor x y = 2 * Builtin.bitXor (x / 2) (y / 2) + (x + y) % 2 := by
  rw [bitXor_and, bitXor_and, and_rec]
  split <;> omega
theorem and_two (x y : Int) (c d : Int) (hc : c = 0 ∨ c = 1) (hd : d = 0 ∨ d = 1) : Builtin.bitAnd (2 * x + c) (2 * y + d) = 2 * Builtin.bitAnd x y + c * d := by
  rw [and_rec]
  have e1 : (2 * x + c) / 2 = x := by omega
  have e2 : (2 * y + d) / 2 = y := by omega
  rw [e1, e2]
  rcases hc with rfl | rfl <;> rcases hd with rfl | rfl <;> (split <;> omega)
theorem xor_two (x y : Int) (c d : Int) (hc : c = 0 ∨ c = 1) (hd : d = 0 ∨ d = 1) : Builtin.bitXor (2 * x + c) (2 * y + d) = 2 * Builtin.bitXor x y + (c + d) % 2 := by
  rw [xor_rec]
  have e1 : (2 * x + c) / 2 = x := by omega
  have e2 : (2 * y + d) / 2 = y := by omega
  rw [e1, e2]
  omega
theorem two_pow_pos (k : Nat) : (0 : Int) < 2 ^ k := Int.pow_pos (by decide)
theorem pow_succ2 (k : Nat) : (2 : Int) ^ (k + 1) = 2 * 2 ^ k := by rw [Int.pow_succ]; omega
theorem emod_two_mul (a : Int) {m : Int} (hm : 0 < m) : a % (2 * m) = 2 * (a / 2 % m) + a % 2 := by
  have h1 : a / 2 = m * (a / 2 / m) + a / 2 % m := (Int.mul_ediv_add_emod (a / 2) m).symm
  have h2 := Int.emod_nonneg (a / 2) (show m ≠ 0 by omega)
  have h3 := Int.emod_lt_of_pos (a / 2) hm
  have h4 : a = (2 * (a / 2 % m) + a % 2) + (2 * m) * (a / 2 / m) := by
    have : (2 * m) * (a / 2 / m) = 2 * (m * (a / 2 / m)) := Int.mul_assoc ..
    omega
  have h5 : a % (2 * m) = (2 * (a / 2 % m) + a % 2) % (2 * m) := by
    conv => lhs; rw [h4]
    rw [Int.add_mul_emod_self_left]
  rw [h5, Int.emod_eq_of_lt (by omega) (by omega)]
theorem ediv_two_pow (a : Int) (k : Nat) : a / 2 ^ (k + 1) = a / 2 / 2 ^ k := by
  rw [pow_succ2, Int.ediv_ediv_of_nonneg (by decide)]
/-- x & (2 ** k - 1), x any number -/
theorem and_mask (k : Nat) : ∀ x : Int, Builtin.bitAnd x (2 ^ k - 1) = x % 2 ^ k := by
  induction k with
  | zero => intro x; show Builtin.bitAnd x 0 = x % 1; rw [bitAnd_zero]; omega
  | succ k ih =>
    intro x
    have e : (2 : Int) ^ (k + 1) - 1 = 2 * (2 ^ k - 1) + 1 := by rw [pow_succ2]; omega
    have hx : x = 2 * (x / 2) + x % 2 := by omega
    rw [e]
    conv => lhs; rw [hx]
    rw [and_two _ _ _ _ (by omega) (by omega), ih, pow_succ2, emod_two_mul _ (two_pow_pos k)]
    omega
/-- the field put in: what with_field reckons -/
theorem put_low (many : Nat) : ∀ w n : Int, Builtin.bitXor w (Builtin.bitAnd (Builtin.bitXor w n) (2 ^ many - 1)) = w - w % 2 ^ many + n % 2 ^ many := by
  induction many with
  | zero => intro w n; show Builtin.bitXor w (Builtin.bitAnd (Builtin.bitXor w n) 0) = w - w % 1 + n % 1; rw [bitAnd_zero, bitXor_zero]; omega
  | succ k ih =>
    intro w n
    have e : (2 : Int) ^ (k + 1) - 1 = 2 * (2 ^ k - 1) + 1 := by rw [pow_succ2]; omega
    have hw : w = 2 * (w / 2) + w % 2 := by omega
    have hn : n = 2 * (n / 2) + n % 2 := by omega
    have i := ih (w / 2) (n / 2)
    have q1 := emod_two_mul w (two_pow_pos k)
    have q2 := emod_two_mul n (two_pow_pos k)
    rw [e]
    conv => lhs; rw [hw, hn]
    rw [xor_two _ _ _ _ (by omega) (by omega), and_two _ _ _ _ (by omega) (by omega), xor_two _ _ _ _ (by omega) (by omega), i, pow_succ2, q1, q2]
    omega
theorem put_at (low many : Nat) : ∀ w n : Int, Builtin.bitXor w (Builtin.bitAnd (Builtin.bitXor w (n * 2 ^ low)) ((2 ^ many - 1) * 2 ^ low)) =
    w - (w / 2 ^ low % 2 ^ many) * 2 ^ low + (n % 2 ^ many) * 2 ^ low := by
  induction low with
  | zero => intro w n; simp only [Int.pow_zero, Int.mul_one, Int.ediv_one]; exact put_low many w n
  | succ k ih =>
    intro w n
    have hw : w = 2 * (w / 2) + w % 2 := by omega
    have e1 : n * 2 ^ (k + 1) = 2 * (n * 2 ^ k) + 0 := by rw [pow_succ2, Int.mul_left_comm]; omega
    have e2 : ((2 : Int) ^ many - 1) * 2 ^ (k + 1) = 2 * ((2 ^ many - 1) * 2 ^ k) + 0 := by rw [pow_succ2, Int.mul_left_comm]; omega
    have i := ih (w / 2) n
    rw [e1, e2, ediv_two_pow, pow_succ2]
    conv => lhs; rw [hw]
    rw [xor_two _ _ _ _ (by omega) (by omega), and_two _ _ _ _ (by omega) (by omega), xor_two _ _ _ _ (by omega) (by omega), i]
    rw [Int.mul_left_comm _ 2, Int.mul_left_comm _ 2]
    omega
/-- what with_field(word, low, many, number) reckons -/
def wf (w low many n : Int) : Int := w - (w / 2 ^ low.toNat % 2 ^ many.toNat) * 2 ^ low.toNat + (n % 2 ^ many.toNat) * 2 ^ low.toNat
end Jl
namespace Jl
/-- signed(number, many) -/
def sgn (n : Int) (m : Nat) : Int := (n + 2 ^ (m - 1)) % (2 ^ (m - 1) * 2) - 2 ^ (m - 1)
theorem sgn_facts (n : Int) {m : Nat} (h : 1 ≤ m) : -(2 ^ (m - 1)) ≤ sgn n m ∧ sgn n m < 2 ^ (m - 1) ∧ (n - sgn n m) % 2 ^ m = 0 := by
  obtain ⟨k, rfl⟩ : ∃ k, m = k + 1 := ⟨m - 1, by omega⟩
  have hp := two_pow_pos k
  have e : k + 1 - 1 = k := by omega
  unfold sgn
  rw [e, pow_succ2]
  have h1 := Int.emod_nonneg (n + 2 ^ k) (show (2 : Int) ^ k * 2 ≠ 0 by omega)
  have h2 := Int.emod_lt_of_pos (n + 2 ^ k) (show (0 : Int) < 2 ^ k * 2 by omega)
  refine ⟨by omega, by omega, ?_⟩
  have h3 := Int.mul_ediv_add_emod (n + 2 ^ k) (2 ^ k * 2)
  have h4 : n - ((n + 2 ^ k) % (2 ^ k * 2) - 2 ^ k) = (2 * 2 ^ k) * ((n + 2 ^ k) / (2 ^ k * 2)) := by
    have : (2 * 2 ^ k) * ((n + 2 ^ k) / (2 ^ k * 2)) = 2 ^ k * 2 * ((n + 2 ^ k) / (2 ^ k * 2)) := by rw [Int.mul_comm 2]
    omega
  rw [h4]
  exact Int.mul_emod_right _ _
end Jl
namespace Jl
theorem pow_lt {m : Nat} (h : m ≤ 99) : ((2 : Int) ^ m - 1).natAbs < 2 ^ 100 := by
  have e : ((2 : Int) ^ m) = ((2 ^ m : Nat) : Int) := by simp
  have h2 : (2 : Nat) ^ m ≤ 2 ^ 99 := Nat.pow_le_pow_right (by decide) h
  have h3 : (2 : Nat) ^ 99 < 2 ^ 100 := by decide
  have h4 : 0 < (2 : Nat) ^ m := Nat.two_pow_pos m
  rw [e]
  omega
theorem pow_lt' {m : Nat} (h : m ≤ 99) : ((2 : Int) ^ m).natAbs < 2 ^ 100 := by
  have e : ((2 : Int) ^ m) = ((2 ^ m : Nat) : Int) := by simp
  have h2 : (2 : Nat) ^ m ≤ 2 ^ 99 := Nat.pow_le_pow_right (by decide) h
  have h3 : (2 : Nat) ^ 99 < 2 ^ 100 := by decide
  rw [e, Int.natAbs_natCast]
  omega
/-- what lies within sixty figures (and some more) -/
theorem big_of {n : Int} (h : -(10 ^ 65) ≤ n) (h2 : n ≤ 10 ^ 65) : n.natAbs < 2 ^ 250 := by
  have e : (10 : Nat) ^ 65 < 2 ^ 250 := by decide
  omega
end Jl
namespace Jl
theorem half_pow {m : Nat} (h : 1 ≤ m) : (2 : Int) ^ m / 2 = 2 ^ (m - 1) := by
  obtain ⟨k, rfl⟩ : ∃ k, m = k + 1 := ⟨m - 1, by omega⟩
  rw [pow_succ2, Nat.add_sub_cancel]
  omega
end Jl
namespace Jl
theorem half_more (a : Int) (k : Nat) : a / 2 ^ k / 2 = a / 2 ^ (k + 1) := by
  rw [Int.pow_succ, Int.ediv_ediv_of_nonneg (Int.le_of_lt (two_pow_pos k))]
theorem dbl_more (k : Nat) : (2 : Int) ^ k * 2 = 2 ^ (k + 1) := by rw [Int.pow_succ]
end Jl
namespace Jl
theorem mod_bit (x : Int) : ∀ (j m : Nat), j < m → (x % 2 ^ m) / 2 ^ j % 2 = x / 2 ^ j % 2 := by
  intro j
  induction j generalizing x with
  | zero =>
    intro m h
    obtain ⟨k, rfl⟩ : ∃ k, m = k + 1 := ⟨m - 1, by omega⟩
    rw [pow_succ2, emod_two_mul _ (two_pow_pos k)]
    simp only [Int.pow_zero, Int.ediv_one]
    omega
  | succ j ih =>
    intro m h
    obtain ⟨k, rfl⟩ : ∃ k, m = k + 1 := ⟨m - 1, by omega⟩
    have e : x % 2 ^ (k + 1) / 2 = x / 2 % 2 ^ k := by
      rw [pow_succ2, emod_two_mul _ (two_pow_pos k)]
      omega
    rw [ediv_two_pow, ediv_two_pow, e]
    exact ih (x / 2) k (by omega)
theorem pow_add2 (a b : Nat) : (2 : Int) ^ (a + b) = 2 ^ a * 2 ^ b := Int.pow_add ..
theorem div_more (x : Int) (a b : Nat) : x / 2 ^ (a + b) = x / 2 ^ a / 2 ^ b := by
  rw [pow_add2, Int.ediv_ediv_of_nonneg (Int.le_of_lt (two_pow_pos a))]
def wfN (w : Int) (low many : Nat) (n : Int) : Int := w - (w / 2 ^ low % 2 ^ many) * 2 ^ low + (n % 2 ^ many) * 2 ^ low
theorem wf_parts (w : Int) (low many : Nat) (n : Int) : wfN w low many n / 2 ^ low = 2 ^ many * (w / 2 ^ low / 2 ^ many) + n % 2 ^ many ∧ wfN w low many n % 2 ^ low = w % 2 ^ low := by
  have hp := two_pow_pos low
  have e1 := Int.mul_ediv_add_emod w (2 ^ low)
  have e2 := Int.mul_ediv_add_emod (w / 2 ^ low) (2 ^ many)
  have r1 := Int.emod_nonneg w (show (2 : Int) ^ low ≠ 0 by omega)
  have r2 := Int.emod_lt_of_pos w hp
  have e3 : wfN w low many n = 2 ^ low * (2 ^ many * (w / 2 ^ low / 2 ^ many) + n % 2 ^ many) + w % 2 ^ low := by
    unfold wfN
    generalize w / 2 ^ low % 2 ^ many = f at *
    generalize w % 2 ^ low = r at *
    generalize n % 2 ^ many = g at *
    generalize w / 2 ^ low / 2 ^ many = A at *
    have e4 : 2 ^ low * (w / 2 ^ low) = 2 ^ low * (2 ^ many * A) + f * 2 ^ low := by
      rw [Int.mul_comm f, ← Int.mul_add, e2]
    have e5 : (2 : Int) ^ low * (2 ^ many * A + g) = 2 ^ low * (2 ^ many * A) + g * 2 ^ low := by
      rw [Int.mul_add, Int.mul_comm g]
    omega
  rw [e3]
  constructor
  · rw [Int.add_comm (2 ^ low * _), Int.add_mul_ediv_left _ _ (by omega), Int.ediv_eq_zero_of_lt r1 r2]
    omega
  · rw [Int.add_comm (2 ^ low * _), Int.add_mul_emod_self_left, Int.emod_eq_of_lt r1 r2]
theorem wf_field (w : Int) (low many : Nat) (n : Int) : wfN w low many n / 2 ^ low % 2 ^ many = n % 2 ^ many := by
  rw [(wf_parts w low many n).1, Int.add_comm, Int.add_mul_emod_self_left, Int.emod_emod]
theorem wf_high (w : Int) (low many : Nat) (n : Int) : wfN w low many n / 2 ^ (low + many) = w / 2 ^ (low + many) := by
  have hp := two_pow_pos many
  have r1 := Int.emod_nonneg n (show (2 : Int) ^ many ≠ 0 by omega)
  have r2 := Int.emod_lt_of_pos n hp
  rw [div_more, div_more, (wf_parts w low many n).1, Int.add_comm, Int.add_mul_ediv_left _ _ (by omega), Int.ediv_eq_zero_of_lt r1 r2]
  omega
theorem wf_bit (w : Int) (low many : Nat) (n : Int) (i : Nat) : wfN w low many n / 2 ^ i % 2 = if low ≤ i ∧ i < low + many then n / 2 ^ (i - low) % 2 else w / 2 ^ i % 2 := by
  by_cases h : i < low
  · rw [if_neg (by omega), ← mod_bit _ i low h, (wf_parts w low many n).2, mod_bit _ i low h]
  · by_cases h2 : i < low + many
    · rw [if_pos ⟨by omega, h2⟩]
      obtain ⟨j, rfl⟩ : ∃ j, i = low + j := ⟨i - low, by omega⟩
      rw [div_more, Nat.add_sub_cancel_left, ← mod_bit (wfN w low many n / 2 ^ low) j many (by omega), wf_field, mod_bit _ j many (by omega)]
    · rw [if_neg (by omega)]
      obtain ⟨j, rfl⟩ : ∃ j, i = (low + many) + j := ⟨i - (low + many), by omega⟩
      rw [div_more, wf_high, ← div_more]
/-- two numbers in a word's range, by their parts -/
theorem lt_pow_of_div {x : Int} {a b : Nat} (h0 : 0 ≤ x / 2 ^ a) (h : x / 2 ^ a < 2 ^ b) : 0 ≤ x ∧ x < 2 ^ (a + b) := by
  have hp := two_pow_pos a
  have e1 := Int.mul_ediv_add_emod x (2 ^ a)
  have r1 := Int.emod_nonneg x (show (2 : Int) ^ a ≠ 0 by omega)
  have r2 := Int.emod_lt_of_pos x hp
  have m0 := Int.mul_nonneg (Int.le_of_lt hp) h0
  have m1 : (2 : Int) ^ a * (x / 2 ^ a + 1) ≤ 2 ^ a * 2 ^ b := Int.mul_le_mul_of_nonneg_left (by omega) (Int.le_of_lt hp)
  rw [pow_add2]
  rw [Int.mul_add] at m1
  omega
theorem div_lt_pow {x : Int} {a b : Nat} (h0 : 0 ≤ x) (h : x < 2 ^ (a + b)) : 0 ≤ x / 2 ^ a ∧ x / 2 ^ a < 2 ^ b := by
  have hp := two_pow_pos a
  refine ⟨Int.ediv_nonneg h0 (Int.le_of_lt hp), ?_⟩
  refine Int.ediv_lt_of_lt_mul hp ?_
  rw [Int.mul_comm, ← pow_add2]
  exact h
theorem wf_range (w : Int) (low many k : Nat) (n : Int) (hk : low + many ≤ k) (h0 : 0 ≤ w) (h : w < 2 ^ k) : 0 ≤ wfN w low many n ∧ wfN w low many n < 2 ^ k := by
  obtain ⟨j, rfl⟩ : ∃ j, k = (low + many) + j := ⟨k - (low + many), by omega⟩
  obtain ⟨a, b⟩ := div_lt_pow h0 h
  rw [← wf_high w low many n] at a b
  exact lt_pow_of_div a b
theorem wf_is (w low many n : Int) : wf w low many n = wfN w low.toNat many.toNat n := rfl
end Jl
namespace Jl
/-- the lowest n bits, the lowest one first -/
def bitsOf (w : Int) (n : Nat) : List Int := (List.range n).map fun i => w / 2 ^ i % 2
end Jl
namespace Jl
theorem turn_bits (w : Int) (h0 : 0 ≤ w) (h1 : w < 2 ^ 32) (m : Nat) (hm : m ≤ 32) (i : Nat) (hi : i < 32) :
    ((w / 2 ^ m + w * 2 ^ (32 - m)) % 2 ^ 32) / 2 ^ i % 2 = w / 2 ^ (if i + m < 32 then i + m else i + m - 32) % 2 := by
  rw [mod_bit _ i 32 hi]
  have hp := two_pow_pos (32 - m)
  have ha : 0 ≤ w / 2 ^ m ∧ w / 2 ^ m < 2 ^ (32 - m) := div_lt_pow h0 (by rw [show m + (32 - m) = 32 by omega]; exact h1)
  by_cases h : i + m < 32
  · rw [if_pos h, ← mod_bit _ i (32 - m) (by omega), Int.mul_comm w, Int.add_mul_emod_self_left, Int.emod_eq_of_lt ha.1 ha.2, ← div_more, Nat.add_comm m]
  · rw [if_neg h]
    obtain ⟨j, rfl⟩ : ∃ j, i = (32 - m) + j := ⟨i - (32 - m), by omega⟩
    rw [div_more, Int.mul_comm w, Int.add_mul_ediv_left _ _ (by omega), Int.ediv_eq_zero_of_lt ha.1 ha.2, Int.zero_add, show 32 - m + j + m - 32 = j by omega]
theorem bitsOf_get (w : Int) {n i : Nat} (h : i < n) : (bitsOf w n)[i]? = some (w / 2 ^ i % 2) := by
  unfold bitsOf
  rw [List.getElem?_map, List.getElem?_range h]; rfl
theorem bitsOf_succ (w : Int) (n : Nat) : bitsOf w (n + 1) = bitsOf w n ++ [w / 2 ^ n % 2] := by
  unfold bitsOf
  rw [List.range_succ, List.map_append]; rfl
theorem bitsOf_len (w : Int) (n : Nat) : (bitsOf w n).length = n := by
  unfold bitsOf
  rw [List.length_map, List.length_range]
end Jl
namespace Jl
theorem f0_16 (w : Int) : w / 2 ^ (0 : Int).toNat % 2 ^ (16 : Int).toNat = w % 65536 := by
  show w / 1 % 65536 = _
  rw [Int.ediv_one]
theorem f0_7 (w : Int) : w / 2 ^ (0 : Int).toNat % 2 ^ (7 : Int).toNat = w % 128 := by
  show w / 1 % 128 = _
  rw [Int.ediv_one]
theorem f14_5 (w : Int) : w / 2 ^ (14 : Int).toNat % 2 ^ (5 : Int).toNat = w / 16384 % 32 := rfl
theorem wf_16 (w n : Int) : wf w 0 16 n = w - w % 65536 + n % 65536 := by
  show w - (w / 1 % 65536) * 1 + (n % 65536) * 1 = _
  rw [Int.ediv_one]; omega
theorem wf_19 (w n : Int) : wf w 0 19 n = w - w % 524288 + n % 524288 := by
  show w - (w / 1 % 524288) * 1 + (n % 524288) * 1 = _
  rw [Int.ediv_one]; omega
theorem wf_7 (w n : Int) : wf w 0 7 n = w - w % 128 + n % 128 := by
  show w - (w / 1 % 128) * 1 + (n % 128) * 1 = _
  rw [Int.ediv_one]; omega
theorem wf_14 (w n : Int) : wf w 14 5 n = w - w / 16384 % 32 * 16384 + n % 32 * 16384 := rfl
theorem sgn_16 (w : Int) : sgn w (16 : Int).toNat = (w + 32768) % 65536 - 32768 := rfl
theorem sgn_19 (w : Int) : sgn w (19 : Int).toNat = (w + 262144) % 524288 - 262144 := rfl
theorem sgn_12 (w : Int) : sgn w (12 : Int).toNat = (w + 2048) % 4096 - 2048 := rfl
end Jl
namespace Jl
/-- what the fill of split makes of a word -/
def sf (w y : Int) : Int := 524288 * (w / 524288) + 16384 * (y / 128 % 32) + 128 * (w / 128 % 128) + y % 128
theorem sf_is (w y : Int) : (w - w % 128 + y % 128) - (w - w % 128 + y % 128) / 16384 % 32 * 16384 + y / 128 % 32 * 16384 = sf w y := by
  unfold sf
  have h1 : (w - w % 128 + y % 128) / 16384 = w / 16384 := by omega
  have h2 : w / 16384 = 32 * (w / 524288) + w / 16384 % 32 := by omega
  have h3 : w / 128 = 128 * (w / 16384) + w / 128 % 128 := by omega
  rw [h1]
  omega
theorem sf_parts (w y : Int) : sf w y / 524288 = w / 524288 ∧ sf w y / 128 % 128 = w / 128 % 128 ∧ sf w y % 128 = y % 128 ∧ sf w y / 16384 % 32 = y / 128 % 32 := by
  have a1 := Int.emod_nonneg (y / 128) (show (32 : Int) ≠ 0 by decide)
  have a2 := Int.emod_lt_of_pos (y / 128) (show (0 : Int) < 32 by decide)
  have b1 := Int.emod_nonneg (w / 128) (show (128 : Int) ≠ 0 by decide)
  have b2 := Int.emod_lt_of_pos (w / 128) (show (0 : Int) < 128 by decide)
  have c1 := Int.emod_nonneg y (show (128 : Int) ≠ 0 by decide)
  have c2 := Int.emod_lt_of_pos y (show (0 : Int) < 128 by decide)
  unfold sf
  generalize y / 128 % 32 = a at *
  generalize w / 128 % 128 = b at *
  generalize y % 128 = c at *
  generalize w / 524288 = d at *
  refine ⟨by omega, by omega, by omega, by omega⟩
theorem sf_again (w y z : Int) : sf (sf w y) z = sf w z := by
  have h := sf_parts w y
  unfold sf at *
  omega
theorem low12 (y : Int) : y % 128 + y / 128 % 32 * 128 = y % 4096 := by omega
end Jl

/-! Steps: one lemma for each reading, to be walked from the left. -/
namespace Jl
open PySem L2
section
variable {X : Cx}
/-- a list + a list, each to be read (the script, too) -/
def rCatS (K : PySem.W.Frag) : R2 := fun x y H Q => ∃ l b xs zs, x = .ref l ∧ y = .ref b ∧ SqL K H l xs ∧ SqL K H b zs ∧ xs.length + zs.length ≤ sizeLine ∧ ∀ p, H p = none → Q (.ref p) (upd H p (.lst (xs ++ zs)))
theorem op_catS : OpR X (binaryOp .Add) (rCatS X.K) := by
  intro pins s σ H x y v u Q I rx ry h
  obtain ⟨l, b, xs, zs, rfl, rfl, hH, hB, hz, q⟩ := h
  cases rx
  cases ry
  obtain ⟨its, r, p, _⟩ := I.list hH
  obtain ⟨its2, r2, p2, _⟩ := I.list hB
  have hl := p.isList
  have hb := p2.isList
  have hsz : its.length + its2.length ≤ sizeLine := by rw [← r.length, ← r2.length]; exact hz
  obtain ⟨⟨cls, dd, data, sl⟩, ho, hc, n, hd⟩ := id hl
  obtain ⟨⟨cls2, dd2, data2, sl2⟩, ho2, hc2, n2, hd2⟩ := id hb
  simp only at hc hd hc2 hd2
  subst hc hd hc2 hd2
  have e : its.toArray ++ its2.toArray = (its ++ its2).toArray := by simp
  refine PySem.concat_meets ⟨_, ho, rfl⟩ ⟨_, ho2, rfl⟩ PySem.noFill_list_add PySem.seq_list_add PySem.F.slot_list_add PySem.F.entry_list_add (PySem.F.args_list_add_2 _ _) (PyProof.Rows.list_addW l b its.toArray its2.toArray n n2 dd dd2 sl sl2 (by simpa using hsz)) ⟨ho, ho2, ?_⟩
  rw [e]
  exact ⟨.ref _, _, I.lnew (t' := s.toks) (r.append r2) (by rw [List.length_append]; omega), rfl, q _ I.fresh⟩
end
section
variable {K : PySem.W.Frag} {σ : L2.St} {H : Hp} {Q : VK} {ta tb tc te : TE} {tt t1 t2 : TT} {tr : TA} {i j : Int} {x y v : V} {b c : Bool} {p q A B : Prop} {nx bk ct : L2.St → Hp → Prop} {rt : VK} {ts tu tw : TS} {g : Int → Int → V} {R : List V → Hp → Prop} {T : Bool → Hp → Prop} {E : XK} {sp : Sp}
theorem s_var {k : Nat} (h : σ[k]? = some (some v)) (z : Q v H) : tVar k σ H Q := ⟨v, h, z⟩
theorem s_c (z : Q v H) : tC v σ H Q := z
theorem s_op {r : R2} (z : ta σ H fun x H1 => tb σ H1 fun y H2 => r x y H2 Q) : tOp r ta tb σ H Q := z
theorem s_un {r : V → Hp → VK → Prop} (z : ta σ H fun x H1 => r x H1 Q) : tUn r ta σ H Q := z
theorem s_I0 (z : Q (g i j) H) : rI0 g (.int i) (.int j) H Q := ⟨i, j, rfl, rfl, z⟩
theorem s_I {C : Int → Int → Prop} (hc : C i j) (z : Q (g i j) H) : rI C g (.int i) (.int j) H Q := ⟨i, j, rfl, rfl, hc, z⟩
theorem s_U {f : Int → V} (z : Q (f i) H) : rU f (.int i) H Q := ⟨i, rfl, z⟩
theorem s_eqI (z : Q (.bl (decide (i = j))) H) : rEq (.int i) (.int j) H Q := ⟨rfl, by
  have e : decide (V.int i = V.int j) = decide (i = j) := by rw [Bool.eq_iff_iff]; simp
  rw [e]; exact z⟩
theorem s_neI (z : Q (.bl (!decide (i = j))) H) : rNe (.int i) (.int j) H Q := ⟨rfl, by
  have e : decide (V.int i = V.int j) = decide (i = j) := by rw [Bool.eq_iff_iff]; simp
  rw [e]; exact z⟩
theorem s_eqS {z w : Str} (k : Q (.bl (decide (z = w))) H) : rEq (.str z) (.str w) H Q := ⟨rfl, by
  have e : decide (V.str z = V.str w) = decide (z = w) := by rw [Bool.eq_iff_iff]; simp
  rw [e]; exact k⟩
theorem s_neS {z w : Str} (k : Q (.bl (!decide (z = w))) H) : rNe (.str z) (.str w) H Q := ⟨rfl, by
  have e : decide (V.str z = V.str w) = decide (z = w) := by rw [Bool.eq_iff_iff]; simp
  rw [e]; exact k⟩
theorem s_eqB (k : Q (.bl (decide (b = c))) H) : rEq (.bl b) (.bl c) H Q := ⟨rfl, by
  have e : decide (V.bl b = V.bl c) = decide (b = c) := by rw [Bool.eq_iff_iff]; simp
  rw [e]; exact k⟩
theorem s_neB (k : Q (.bl (!decide (b = c))) H) : rNe (.bl b) (.bl c) H Q := ⟨rfl, by
  have e : decide (V.bl b = V.bl c) = decide (b = c) := by rw [Bool.eq_iff_iff]; simp
  rw [e]; exact k⟩
theorem s_isB (k : Q (.bl (decide (b = c))) H) : rIsB (.bl b) (.bl c) H Q := ⟨b, c, rfl, rfl, k⟩
theorem s_notB (k : Q (.bl (!decide (b = c))) H) : rNotB (.bl b) (.bl c) H Q := ⟨b, c, rfl, rfl, k⟩
theorem s_test {t : TE} (z : t σ H fun x H' => ∃ k, x = .bl k ∧ T k H') : tTest t σ H T := z
theorem s_tB {t : TE} (z : t σ H fun x H' => ∃ k, x = .bl k ∧ T k H') : tB t σ H T := z
theorem s_chain {r r' : R2} (z : ta σ H fun x H1 => tb σ H1 fun y H2 => r x y H2 fun z H3 => ∃ k, z = .bl k ∧ (if k = true then tc σ H3 fun w' H4 => r' y w' H4 Q else Q (.bl false) H3)) : tChain r r' ta tb tc σ H Q := z
theorem s_and (z : t1 σ H fun c H1 => if c = true then t2 σ H1 T else T false H1) : tAnd t1 t2 σ H T := z
theorem s_or (z : t1 σ H fun c H1 => if c = true then T true H1 else t2 σ H1 T) : tOr t1 t2 σ H T := z
theorem s_not (z : t1 σ H fun c H1 => T (!c) H1) : tNot t1 σ H T := z
theorem s_andV (z : ta σ H fun x H1 => ∃ c, x = .bl c ∧ if c = true then tb σ H1 Q else Q (.bl false) H1) : tAndV ta tb σ H Q := z
theorem s_orV (z : ta σ H fun x H1 => ∃ c, x = .bl c ∧ if c = true then Q (.bl true) H1 else tb σ H1 Q) : tOrV ta tb σ H Q := z
theorem s_notV (z : ta σ H fun x H1 => ∃ c, x = .bl c ∧ Q (.bl (!c)) H1) : tNotV ta σ H Q := z
theorem s_ifE (z : tt σ H fun c H1 => if c = true then ta σ H1 Q else tb σ H1 Q) : tIf tt ta tb σ H Q := z
theorem s_exbl {P : Bool → Prop} (z : P b) : ∃ k, V.bl b = V.bl k ∧ P k := ⟨b, rfl, z⟩
theorem s_next (z : nx σ H) : tNext ⟨nx, rt, bk, ct⟩ σ H := z
theorem s_seq (z : ts ⟨tu ⟨nx, rt, bk, ct⟩, rt, bk, ct⟩ σ H) : tSeq ts tu ⟨nx, rt, bk, ct⟩ σ H := z
theorem s_seq_assoc (z : tSeq ts tu ⟨tw ⟨nx, rt, bk, ct⟩, rt, bk, ct⟩ σ H) : tSeq ts (tSeq tu tw) ⟨nx, rt, bk, ct⟩ σ H := z
theorem s_drop (z : te σ H fun _ H1 => nx σ H1) : tDrop te ⟨nx, rt, bk, ct⟩ σ H := z
theorem s_ret (z : te σ H rt) : tRet te ⟨nx, rt, bk, ct⟩ σ H := z
theorem s_break (z : bk σ H) : tBreak ⟨nx, rt, bk, ct⟩ σ H := z
theorem s_cont (z : ct σ H) : tCont ⟨nx, rt, bk, ct⟩ σ H := z
theorem s_ifS (z : tt σ H fun b H1 => if b = true then ts ⟨nx, rt, bk, ct⟩ σ H1 else tu ⟨nx, rt, bk, ct⟩ σ H1) : tIfS tt ts tu ⟨nx, rt, bk, ct⟩ σ H := z
theorem s_asg {gg : TG} (z : te σ H fun x H1 => gg x σ H1 nx) : tAsg te gg ⟨nx, rt, bk, ct⟩ σ H := z
theorem s_name {k : Nat} {W : L2.St → Hp → Prop} (z : W (σ.set k (some v)) H) : gName k v σ H W := z
theorem s_nil (z : R [] H) : tNil σ H R := z
theorem s_cons (z : ta σ H fun x H1 => tr σ H1 fun xs H2 => R (x :: xs) H2) : tCons ta tr σ H R := z
theorem s_call {t : TA} (z : t σ H fun vs H1 => sp vs H1 Q E) : tCall sp [] E t σ H Q := by
  have e : (fun vs H1 => sp vs H1 Q E) = (fun vs H1 => sp (vs ++ []) H1 Q E) := by
    funext vs H1
    rw [List.append_nil]
  unfold tCall
  rw [← e]
  exact z
theorem s_CB {r : List V → Hp → VK → Prop} {t : TA} (z : t σ H fun vs H1 => r vs H1 Q) : tCB r t σ H Q := z
theorem s_iteT (z : A) : if true = true then A else B := by rw [if_pos rfl]; exact z
theorem s_iteF (z : B) : if false = true then A else B := by rw [if_neg Bool.false_ne_true]; exact z
theorem s_iteD [Decidable p] (h1 : p → A) (h2 : ¬ p → B) : if decide p = true then A else B := by
  by_cases h : p
  · rw [if_pos (decide_eq_true h)]; exact h1 h
  · rw [if_neg (by rw [decide_eq_false h]; exact Bool.false_ne_true)]; exact h2 h
theorem s_iteN [Decidable p] (h1 : ¬ p → A) (h2 : p → B) : if (!decide p) = true then A else B := by
  by_cases h : p
  · rw [if_neg (by rw [decide_eq_true h]; exact Bool.false_ne_true)]; exact h2 h
  · rw [if_pos (by rw [decide_eq_false h]; rfl)]; exact h1 h
theorem s_iteNN [Decidable p] (h1 : p → A) (h2 : ¬ p → B) : if (!!decide p) = true then A else B := by rw [Bool.not_not]; exact s_iteD h1 h2
theorem s_iteNT (z : B) : if (!true) = true then A else B := by rw [if_neg (by decide)]; exact z
theorem s_iteNF (z : A) : if (!false) = true then A else B := by rw [if_pos (by decide)]; exact z
theorem s_iteB (h1 : b = true → A) (h2 : b = false → B) : if b = true then A else B := by
  cases b with
  | true => exact s_iteT (h1 rfl)
  | false => exact s_iteF (h2 rfl)
theorem s_iteNB (h1 : b = false → A) (h2 : b = true → B) : if (!b) = true then A else B := by
  cases b with
  | false => exact s_iteNF (h1 rfl)
  | true => exact s_iteNT (h2 rfl)
theorem s_isi {xs : V} {cn : String} {k : Bool} {t : Value} (ty : TyX K H xs t) (hk : PySem.W.kitOne K t (.type cn) = some k) (z : Q (.bl k) H) : rIsi K [xs, .ty cn] H Q := ⟨xs, .ty cn, t, .type cn, k, rfl, .ty cn, ty, hk, z⟩
theorem s_isi_ii (z : Q (.bl true) H) : rIsi K [.int i, .ty "int"] H Q := s_isi (.base (.int i)) (kit_ty (by decide +kernel)) z
theorem s_isi_ib (z : Q (.bl false) H) : rIsi K [.int i, .ty "bool"] H Q := s_isi (.base (.int i)) (kit_ty (by decide +kernel)) z
theorem s_isi_bb (z : Q (.bl true) H) : rIsi K [.bl b, .ty "bool"] H Q := s_isi (.base (.bl b)) (kit_ty (by decide +kernel)) z
theorem s_isi_bi (z : Q (.bl true) H) : rIsi K [.bl b, .ty "int"] H Q := s_isi (.base (.bl b)) (kit_ty (by decide +kernel)) z
theorem s_isi_ss {w : Str} (z : Q (.bl true) H) : rIsi K [.str w, .ty "str"] H Q := s_isi (.base (.str w)) (kit_ty (by decide +kernel)) z
theorem s_isN (z : Q (.bl (decide (x = .non))) H) : (fun x y H Q => y = V.non ∧ Q (.bl (decide (x = .non))) H : R2) x .non H Q := ⟨rfl, z⟩
theorem c_div (h : 0 < j) (h2 : j < 1073741824) : CDiv i j := ⟨h, h2⟩
theorem c_mulR (h : -(2 ^ 64) < j) (h2 : j < 2 ^ 64) : CMul i j := .inr ⟨h, h2⟩
theorem c_mulL (h : -(2 ^ 64) < i) (h2 : i < 2 ^ 64) : CMul i j := .inl ⟨h, h2⟩
theorem c_pow (h : 0 ≤ j) (h1 : j ≤ 1000000) (h2 : i.natAbs < 2 ^ 64) : CPow i j := ⟨h, h1, h2⟩
/-! the ends -/
theorem fin_int (z : Q (.int i) H) (e : i = j) : Q (.int j) H := by rw [← e]; exact z
theorem fin_bl (z : Q (.bl b) H) (e : b = c) : Q (.bl c) H := by rw [← e]; exact z
theorem fin_dec [Decidable p] (z : Q (.bl true) H) (h : p) : Q (.bl (decide p)) H := by rw [decide_eq_true h]; exact z
theorem fin_ndec [Decidable p] (z : Q (.bl true) H) (h : ¬ p) : Q (.bl (!decide p)) H := by rw [decide_eq_false h]; exact z
theorem dec_t (h : p) [Decidable p] : decide p = true := decide_eq_true h
theorem s_iteDt [Decidable p] (h : p) (z : A) : if decide p = true then A else B := s_iteD (fun _ => z) fun n => absurd h n
theorem s_iteDf [Decidable p] (h : ¬ p) (z : B) : if decide p = true then A else B := s_iteD (fun n => absurd n h) fun _ => z
theorem s_iteNt [Decidable p] (h : p) (z : B) : if (!decide p) = true then A else B := s_iteN (fun n => absurd h n) fun _ => z
theorem s_iteNf [Decidable p] (h : ¬ p) (z : A) : if (!decide p) = true then A else B := s_iteN (fun _ => z) fun n => absurd n h
/-- a test by itself: its outcome -/
theorem s_ifS_f (h : ∀ T : Bool → Hp → Prop, T false H → tt σ H T) (z : tu ⟨nx, rt, bk, ct⟩ σ H) : tIfS tt ts tu ⟨nx, rt, bk, ct⟩ σ H := h _ (s_iteF z)
theorem s_ifS_t (h : ∀ T : Bool → Hp → Prop, T true H → tt σ H T) (z : ts ⟨nx, rt, bk, ct⟩ σ H) : tIfS tt ts tu ⟨nx, rt, bk, ct⟩ σ H := h _ (s_iteT z)
theorem s_ifS_d (p : Prop) [Decidable p] (h : ∀ T : Bool → Hp → Prop, T (decide p) H → tt σ H T) (z1 : p → ts ⟨nx, rt, bk, ct⟩ σ H) (z2 : ¬ p → tu ⟨nx, rt, bk, ct⟩ σ H) : tIfS tt ts tu ⟨nx, rt, bk, ct⟩ σ H := h _ (s_iteD z1 z2)
/-- a shift to the left -/
theorem shl_ok (a : Nat) (h : i.natAbs < 2 ^ a) (h0 : 0 ≤ j) (hj : j ≤ 1000000) (ha : a ≤ 1000000) : CShl i j := by
  refine ⟨h0, ?_⟩
  have b : Builtin.Int.intBits i ≤ i.natAbs.log2 + 1 := by
    unfold Builtin.Int.intBits
    split <;> omega
  have h2 : i.natAbs.log2 ≤ a := by
    by_cases z : i.natAbs = 0
    · rw [z]; simp
    · have := (Nat.log2_lt z).mpr h; omega
  have e : (2 : Int) ^ 27 = 134217728 := by decide
  rw [e]
  omega
/-! lists -/
theorem s_tup {t : TA} (z : t σ H fun xs H1 => xs.length ≤ sizeLine ∧ ∀ p, H1 p = none → Q (.ref p) (upd H1 p (.tup xs))) : tTup t σ H Q := z
theorem s_lst {t : TA} (z : t σ H fun xs H1 => xs.length ≤ sizeLine ∧ ∀ p, H1 p = none → Q (.ref p) (upd H1 p (.lst xs))) : tLst t σ H Q := z
theorem s_ixL {l : Addr} {xs : List V} (h : SqL K H l xs) (ha : atI xs i = some v) (z : Q v H) : rIxL K (.ref l) (.int i) H Q := ⟨l, xs, i, v, rfl, rfl, h, ha, z⟩
theorem s_ixT {l : Addr} {xs : List V} (h : SqT K H l xs) (ha : atI xs i = some v) (z : Q v H) : rIxT K (.ref l) (.int i) H Q := ⟨l, xs, i, v, rfl, rfl, h, ha, z⟩
theorem s_len {l : Addr} {xs : List V} (h : SqL K H l xs) (z : Q (.int xs.length) H) : (fun xs H Q => ∃ p ys, xs = [V.ref p] ∧ (SqL K H p ys ∨ SqT K H p ys) ∧ Q (.int ys.length) H : List V → Hp → VK → Prop) [.ref l] H Q := ⟨l, xs, rfl, .inl h, z⟩
theorem sqU {l : Addr} {xs : List V} : SqL K (upd H l (.lst xs)) l xs := .inl (.inl upd_same)
theorem same_upd {l : Addr} {o : HO} (h : H l = none) : Same H (upd H l o) := fun b u e => by
  rw [upd_ne (ne_of_none e h)]
  exact e
/-- range(n): what holds ahead of each turn -/
theorem s_forR1 {k : Nat} {ta : TA} (n : Int) (Pv : Nat → L2.St → Hp → Prop) (ha : ∀ R : List V → Hp → Prop, R [.int n] H → ta σ H R) (hn : -(2 ^ 62) ≤ n ∧ n < 2 ^ 62) (h0 : Pv 0 σ H)
    (hs : ∀ (i : Nat) σ' H', (i : Int) < n → Pv i σ' H' → tu ⟨Pv (i + 1), rt, nx, Pv (i + 1)⟩ (σ'.set k (some (.int (i : Int)))) H') (hd : ∀ σ' H', Pv n.toNat σ' H' → nx σ' H') : tFor (iRng1 ta) (gName k) tu ⟨nx, rt, bk, ct⟩ σ H := by
  refine ha _ ⟨n, rfl, hn.1, hn.2, ?_⟩
  refine for_range (lo := 0) (n := n.toNat) Pv h0 (fun i σ' H' hi h => ?_) hd
  show tu _ (σ'.set k (some (.int ((0 : Int) + (i : Int))))) H'
  rw [Int.zero_add]
  exact hs i σ' H' (by omega) h
/-- a list of known items -/
theorem s_forL {k : Nat} {tl : TE} {a : Addr} {xs : List V} (Pv : Nat → L2.St → Hp → Prop) (H1 : Hp) (ha : ∀ R : VK, R (.ref a) H1 → tl σ H R) (hx : SqL K H1 a xs) (h0 : Pv 0 σ H1)
    (hl : ∀ i σ' H', i ≤ xs.length → Pv i σ' H' → SqL K H' a xs)
    (hs : ∀ (i : Nat) x σ' H', xs[i]? = some x → Pv i σ' H' → tu ⟨Pv (i + 1), rt, nx, Pv (i + 1)⟩ (σ'.set k (some x)) H') (hd : ∀ σ' H', Pv xs.length σ' H' → nx σ' H') : tFor (iList K tl) (gName k) tu ⟨nx, rt, bk, ct⟩ σ H := by
  refine ha _ ⟨a, rfl, ⟨xs, hx⟩, ?_⟩
  exact for_list (xs := xs) Pv h0 hl (fun i x σ' H' hi h => hs i x σ' H' hi h) hd
theorem ints_get {ns : List Int} {k : Nat} {x : V} (h : (ns.map V.int)[k]? = some x) : ∃ z, ns[k]? = some z ∧ x = .int z := by
  rw [List.getElem?_map] at h
  cases e : ns[k]? with
  | none => rw [e] at h; cases h
  | some z => rw [e] at h; exact ⟨z, rfl, (Option.some.inj h).symm⟩
theorem atI_int {ns : List Int} {i : Int} {k : Nat} {z : Int} (h : ns[k]? = some z) (e : i = k) : atI (ns.map V.int) i = some (.int z) := by
  subst e
  refine atI_nat ?_
  rw [List.getElem?_map, h]; rfl
theorem atI_any {ns : List Int} {i : Int} (h1 : -(ns.length : Int) ≤ i) (h2 : i < ns.length) : ∃ z, atI (ns.map V.int) i = some (.int z) := by
  unfold atI ixN
  rw [List.length_map]
  by_cases h : 0 ≤ i
  · rw [if_pos h, if_pos h2]
    obtain ⟨z, hz⟩ : ∃ z, ns[i.toNat]? = some z := ⟨_, List.getElem?_eq_getElem (by omega)⟩
    refine ⟨z, ?_⟩
    show (ns.map V.int)[i.toNat]? = _
    rw [List.getElem?_map, hz]; rfl
  · rw [if_neg h, if_pos h1]
    obtain ⟨z, hz⟩ : ∃ z, ns[(i + ns.length).toNat]? = some z := ⟨_, List.getElem?_eq_getElem (by omega)⟩
    refine ⟨z, ?_⟩
    show (ns.map V.int)[(i + ns.length).toNat]? = _
    rw [List.getElem?_map, hz]; rfl
theorem small63 {n m : Nat} (h : n ≤ 63) (h2 : m ≤ 100) : n + m ≤ sizeLine := Nat.le_trans (by omega : n + m ≤ 200) (by decide)
/-- for cell in [0] + script: .. -/
theorem law0 {a : Addr} {ns : List Int} (hS : SqL K H a (ns.map V.int)) (hn : ns.length ≤ 63)
    (hb : ∀ (c : Int) (N : L2.St → Hp → Prop) H1, Same H H1 → (∀ v H2, Same H1 H2 → N [some (.ref a), v] H2) → tu ⟨N, rt, nx, N⟩ [some (.ref a), some (.int c)] H1)
    (hd : ∀ v H1, Same H H1 → nx [some (.ref a), v] H1) :
    tFor (iList K (tOp (rCatS K) (tLst (tCons (tC (.int 0)) tNil)) (tVar 0))) (gName 1) tu ⟨nx, rt, bk, ct⟩ [some (.ref a), none] H := by
  show _ ∧ ∀ _, _
  refine ⟨by decide, fun p hp => ?_⟩
  refine ⟨_, rfl, p, a, [.int 0], ns.map V.int, rfl, rfl, sqU, (same_upd hp).seq hS, (by rw [List.length_map]; show 1 + ns.length ≤ _; rw [Nat.add_comm]; exact small63 hn (by decide)), fun q hq => ?_⟩
  have s1 : Same H (upd (upd H p (.lst [.int 0])) q (.lst ([.int 0] ++ ns.map V.int))) := (same_upd hp).trans (same_upd hq)
  refine ⟨q, rfl, ⟨_, sqU⟩, ?_⟩
  refine for_list (xs := [.int 0] ++ ns.map V.int) (fun i σ H' => (∃ v, σ = [some (.ref a), v]) ∧ Same (upd (upd H p (.lst [.int 0])) q (.lst ([.int 0] ++ ns.map V.int))) H') ⟨⟨_, rfl⟩, Same.refl _⟩ (fun i σ' H' _ h => h.2.seq sqU) (fun i x σ' H' hi h => ?_) (fun σ' H' h => ?_)
  · obtain ⟨⟨v, rfl⟩, s2⟩ := h
    have e : [V.int 0] ++ ns.map V.int = (0 :: ns).map V.int := rfl
    rw [e] at hi
    obtain ⟨z, _, rfl⟩ := ints_get hi
    exact hb z _ H' (s1.trans s2) fun v H2 s3 => ⟨⟨v, rfl⟩, s2.trans s3⟩
  · obtain ⟨⟨v, rfl⟩, s2⟩ := h
    exact hd v H' (s1.trans s2)
/-- cells = script + [e, ..]; for k in range(len(cells)): .. -/
theorem law1 {a : Addr} {ns ms : List Int} (hS : SqL K H a (ns.map V.int)) (hn : ns.length ≤ 63) (hm : ms.length ≤ 100) {tl : TE}
    (hl : ∀ (R : VK), (∀ p, H p = none → R (.ref p) (upd H p (.lst (ms.map V.int)))) → tl [some (.ref a), none, none] H R) {te : TE}
    (he : ∀ (p : Addr) (H1 : Hp) (R : List V → Hp → Prop), SqL K H1 p ((ns ++ ms).map V.int) → R [.int ((ns ++ ms).length : Int)] H1 → tCons te tNil [some (.ref a), some (.ref p), none] H1 R)
    (hb : ∀ (p : Addr) (c : Int) (N : L2.St → Hp → Prop) H1, Same H H1 → SqL K H1 p ((ns ++ ms).map V.int) → 0 ≤ c → c < ((ns ++ ms).length : Int) → (∀ v H2, Same H1 H2 → N [some (.ref a), some (.ref p), v] H2) → tu ⟨N, rt, nx, N⟩ [some (.ref a), some (.ref p), some (.int c)] H1)
    (hd : ∀ p v H1, Same H H1 → nx [some (.ref a), some (.ref p), v] H1) :
    tSeq (tAsg (tOp (rCatS K) (tVar 0) tl) (gName 1)) (tFor (iRng1 (tCons te tNil)) (gName 2) tu) ⟨nx, rt, bk, ct⟩ [some (.ref a), none, none] H := by
  refine s_seq (s_asg (s_op (s_var rfl (hl _ fun p hp => ?_))))
  refine ⟨a, p, ns.map V.int, ms.map V.int, rfl, rfl, (same_upd hp).seq hS, sqU, (by rw [List.length_map, List.length_map]; exact small63 hn hm), fun q hq => ?_⟩
  rw [← List.map_append]
  have s1 : Same H (upd (upd H p (.lst (ms.map V.int))) q (.lst ((ns ++ ms).map V.int))) := (same_upd hp).trans (same_upd hq)
  have hlen : (ns ++ ms).length ≤ 163 := by rw [List.length_append]; omega
  refine s_forR1 ((ns ++ ms).length : Int) (fun i σ H' => (∃ v, σ = [some (.ref a), some (.ref q), v]) ∧ Same (upd (upd H p (.lst (ms.map V.int))) q (.lst ((ns ++ ms).map V.int))) H') (fun R z => he q _ R sqU z) (by omega) ⟨⟨_, rfl⟩, Same.refl _⟩ (fun i σ' H' hi h => ?_) (fun σ' H' h => ?_)
  · obtain ⟨⟨v, rfl⟩, s2⟩ := h
    exact hb q i _ H' (s1.trans s2) (s2.seq sqU) (by omega) hi fun v H2 s3 => ⟨⟨v, rfl⟩, s2.trans s3⟩
  · obtain ⟨⟨v, rfl⟩, s2⟩ := h
    exact hd q v H' (s1.trans s2)
/-- the same, two names more -/
theorem law1x {a : Addr} {ns ms : List Int} (hS : SqL K H a (ns.map V.int)) (hn : ns.length ≤ 63) (hm : ms.length ≤ 100) {tl : TE}
    (hl : ∀ (R : VK), (∀ p, H p = none → R (.ref p) (upd H p (.lst (ms.map V.int)))) → tl [some (.ref a), none, none, none, none] H R) {te : TE}
    (he : ∀ (p : Addr) (H1 : Hp) (R : List V → Hp → Prop), SqL K H1 p ((ns ++ ms).map V.int) → R [.int ((ns ++ ms).length : Int)] H1 → tCons te tNil [some (.ref a), some (.ref p), none, none, none] H1 R)
    (hb : ∀ (p : Addr) (c : Int) (v1 v2 : Option V) (N : L2.St → Hp → Prop) H1, Same H H1 → SqL K H1 p ((ns ++ ms).map V.int) → 0 ≤ c → c < ((ns ++ ms).length : Int) → (∀ v v1 v2 H2, Same H1 H2 → N [some (.ref a), some (.ref p), v, v1, v2] H2) → tu ⟨N, rt, nx, N⟩ [some (.ref a), some (.ref p), some (.int c), v1, v2] H1)
    (hd : ∀ p v v1 v2 H1, Same H H1 → nx [some (.ref a), some (.ref p), v, v1, v2] H1) :
    tSeq (tAsg (tOp (rCatS K) (tVar 0) tl) (gName 1)) (tFor (iRng1 (tCons te tNil)) (gName 2) tu) ⟨nx, rt, bk, ct⟩ [some (.ref a), none, none, none, none] H := by
  refine s_seq (s_asg (s_op (s_var rfl (hl _ fun p hp => ?_))))
  refine ⟨a, p, ns.map V.int, ms.map V.int, rfl, rfl, (same_upd hp).seq hS, sqU, (by rw [List.length_map, List.length_map]; exact small63 hn hm), fun q hq => ?_⟩
  rw [← List.map_append]
  have s1 : Same H (upd (upd H p (.lst (ms.map V.int))) q (.lst ((ns ++ ms).map V.int))) := (same_upd hp).trans (same_upd hq)
  have hlen : (ns ++ ms).length ≤ 163 := by rw [List.length_append]; omega
  refine s_forR1 ((ns ++ ms).length : Int) (fun i σ H' => (∃ v v1 v2, σ = [some (.ref a), some (.ref q), v, v1, v2]) ∧ Same (upd (upd H p (.lst (ms.map V.int))) q (.lst ((ns ++ ms).map V.int))) H') (fun R z => he q _ R sqU z) (by omega) ⟨⟨_, _, _, rfl⟩, Same.refl _⟩ (fun i σ' H' hi h => ?_) (fun σ' H' h => ?_)
  · obtain ⟨⟨v, v1, v2, rfl⟩, s2⟩ := h
    exact hb q i v1 v2 _ H' (s1.trans s2) (s2.seq sqU) (by omega) hi fun v v1 v2 H2 s3 => ⟨⟨v, v1, v2, rfl⟩, s2.trans s3⟩
  · obtain ⟨⟨v, v1, v2, rfl⟩, s2⟩ := h
    exact hd q v v1 v2 H' (s1.trans s2)
/-- if p: x = e, x being an int: one way -/
theorem s_ifAsgI {k : Nat} (a b : Int) {p : Prop} [Decidable p] (ht : ∀ T : Bool → Hp → Prop, T (decide p) H → tt σ H T) (he : p → ∀ R : VK, R (.int b) H → te σ H R) (hσ : σ[k]? = some (some (.int a)))
    (z : nx (σ.set k (some (.int (if p then b else a)))) H) : tIfS tt (tAsg te (gName k)) tNext ⟨nx, rt, bk, ct⟩ σ H := by
  refine ht _ (s_iteD (fun h => he h _ ?_) (fun h => ?_))
  · rw [if_pos h] at z; exact z
  · rw [if_neg h] at z
    have e : σ.set k (some (.int a)) = σ := by
      obtain ⟨h1, h2⟩ := List.getElem?_eq_some_iff.mp hσ
      rw [← h2]; exact List.set_getElem_self h1
    rw [e] at z
    exact z
theorem s_iteAsgI {k : Nat} (a b : Int) {p : Prop} [Decidable p] (he : p → ∀ R : VK, R (.int b) H → te σ H R) (hσ : σ[k]? = some (some (.int a)))
    (z : nx (σ.set k (some (.int (if p then b else a)))) H) : if decide p = true then tAsg te (gName k) ⟨nx, rt, bk, ct⟩ σ H else tNext ⟨nx, rt, bk, ct⟩ σ H :=
  s_ifAsgI (tt := fun _ H T => T (decide p) H) (bk := bk) (ct := ct) (rt := rt) a b (fun _ h => h) he hσ z
theorem s_iteAsgV {k : Nat} (a b : V) {p : Prop} [Decidable p] (he : p → ∀ R : VK, R b H → te σ H R) (hσ : σ[k]? = some (some a))
    (z : nx (σ.set k (some (if p then b else a))) H) : if decide p = true then tAsg te (gName k) ⟨nx, rt, bk, ct⟩ σ H else tNext ⟨nx, rt, bk, ct⟩ σ H := by
  refine s_iteD (fun h => he h _ ?_) (fun h => ?_)
  · rw [if_pos h] at z; exact z
  · rw [if_neg h] at z
    have e : σ.set k (some a) = σ := by
      obtain ⟨h1, h2⟩ := List.getElem?_eq_some_iff.mp hσ
      rw [← h2]; exact List.set_getElem_self h1
    rw [e] at z
    exact z
theorem ite_str (p : Prop) [Decidable p] (a b : Str) : (if p then V.str a else V.str b) = V.str (if p then a else b) := by split <;> rfl
end
end Jl

/-! Steps over lists: append, comprehensions over a range, equality of lists. -/
namespace Jl
open PySem L2
section
variable {K : PySem.W.Frag} {σ : L2.St} {H H' : Hp} {Q : VK} {ta tb tc te to : TE} {tr : TA} {i j : Int} {x y v : V} {a p : Addr} {xs ys : List V}
theorem sameT (e : Same H H') (h : SqT K H a xs) : SqT K H' a xs := by
  rcases h with (h | ⟨o, h⟩) | h
  · exact .inl (.inl (e _ _ h))
  · exact .inl (.inr ⟨o, e _ _ h⟩)
  · exact .inr h
mutual
theorem dp_same (e : Same H H') : ∀ {v : V} {d : PyData}, Dp K H v d → Dp K H' v d
  | _, _, .non => .non
  | _, _, .bl b => .bl b
  | _, _, .int i => .int i
  | _, _, .str x => .str x
  | _, _, .lst h hs => .lst (e.seq h) (dps_same e hs)
  | _, _, .tup h hs => .tup (sameT e h) (dps_same e hs)
theorem dps_same (e : Same H H') : ∀ {vs : List V} {ds : List PyData}, DpAll K H vs ds → DpAll K H' vs ds
  | _, _, .nil => .nil
  | _, _, .cons h hs => .cons (dp_same e h) (dps_same e hs)
end
theorem dp_ints : ∀ ns : List Int, DpAll K H (ns.map V.int) (ns.map PyData.int)
  | [] => .nil
  | n :: ns => .cons (.int n) (dp_ints ns)
theorem dp_intL {ns : List Int} (h : SqL K H a (ns.map V.int)) : Dp K H (.ref a) (.list (ns.map PyData.int)) := .lst h (dp_ints ns)
theorem lay_ints : ∀ ns : List Int, PyData.canLayAll0 (ns.map PyData.int) = true
  | [] => rfl
  | n :: ns => by show (true && PyData.canLayAll0 (ns.map PyData.int)) = true; rw [lay_ints ns]; rfl
theorem depth_ints : ∀ ns : List Int, PyData.depthAll (ns.map PyData.int) ≤ 1
  | [] => by show (0 : Nat) ≤ 1; decide
  | n :: ns => by
    have h := depth_ints ns
    show max (PyData.depth (.int n)) (PyData.depthAll (ns.map PyData.int)) ≤ 1
    have e : PyData.depth (.int n) = 0 := by unfold PyData.depth; rfl
    omega
theorem shaped_ints (ns : List Int) : SeqAt.shaped (.list (ns.map PyData.int)) = true := by
  have h := depth_ints ns
  refine Bool.and_eq_true_iff.mpr ⟨lay_ints ns, decide_eq_true ?_⟩
  show PyData.depthAll (ns.map PyData.int) + 1 ≤ 64
  omega
theorem eqv_ints : ∀ ns ms : List Int, PyData.eqvAll (ns.map PyData.int) (ms.map PyData.int) = decide (ns = ms)
  | [], [] => rfl
  | [], _ :: _ => rfl
  | _ :: _, [] => rfl
  | n :: ns, m :: ms => by
    show ((n == m) && PyData.eqvAll (ns.map PyData.int) (ms.map PyData.int)) = _
    rw [eqv_ints ns ms, Bool.eq_iff_iff]
    simp
theorem s_eqInts {p q : Addr} {ns ms : List Int} (h1 : SqL K H p (ns.map V.int)) (h2 : SqL K H q (ms.map V.int)) (z : Q (.bl (decide (ns = ms))) H) : rEqD K (.ref p) (.ref q) H Q :=
  ⟨_, _, dp_intL h1, dp_intL h2, shaped_ints ns, shaped_ints ms, by
    show Q (.bl (PyData.eqvAll (ns.map PyData.int) (ms.map PyData.int))) H
    rw [eqv_ints]; exact z⟩
theorem s_BM {T : String} {r : V → List V → Hp → VK → Prop} {t : TA} (z : to σ H fun x H1 => tyV K T x H1 ∧ t σ H1 fun xs H2 => r x xs H2 Q) : tBM K T r to t σ H Q := z
theorem ty_list (h : SqL K H p xs) : tyV K "list" (.ref p) H := .inl ⟨rfl, _, h⟩
theorem s_tyL {B : Prop} (h : H p = some (.lst xs)) (z : B) : tyV K "list" (.ref p) H ∧ B := ⟨ty_list (.inl (.inl h)), z⟩
theorem s_append (h : H p = some (.lst xs)) (z : Q .non (upd H p (.lst (xs ++ [v])))) (hl : xs.length < sizeLine) : rAppend (.ref p) [v] H Q := ⟨p, xs, v, rfl, rfl, h, hl, z⟩
/-- what H0 knew stands, when an object that it did not know is written -/
theorem same_mut {H0 : Hp} {o : HO} (e : Same H0 H) (h : H0 p = none) : Same H0 (upd H p o) := fun b u hb => by
  rw [upd_ne (ne_of_none hb h)]
  exact e b u hb
theorem small5 {n : Nat} (h : n ≤ 100000) : n ≤ sizeLine := Nat.le_trans h (by decide)
theorem small5' {n : Nat} (h : n ≤ 100000) : n < sizeLine := Nat.lt_of_le_of_lt h (by decide)
/-- [e for i in range(n)] -/
theorem s_lcR {t : TA} {k : Nat} {vs : List Nat} (n : Int) (f : Nat → V) (ha : ∀ R : List V → Hp → Prop, R [.int n] H → t σ H R) (hn : 0 ≤ n ∧ n ≤ 100000) (hw : ∀ x, wipe ((wipe σ vs).set k (some x)) vs = wipe σ vs)
    (he : ∀ (i : Nat) H1 (R : VK), Same H H1 → (i : Int) < n → (∀ H2, Same H1 H2 → R (f i) H2) → te ((wipe σ vs).set k (some (.int (i : Int)))) H1 R)
    (z : ∀ p H1, Same H H1 → H p = none → H1 p = some (.lst ((List.range n.toNat).map f)) → Q (.ref p) H1) : tLc (iRng1 t) (gName k) tYes te vs σ H Q := by
  refine ha _ ⟨n, rfl, by omega, by omega, fun D hD => ?_⟩
  refine lc_range (lo := 0) (n := n.toNat) (fun i H' => Same H H' ∧ H' D = some (.lst ((List.range i).map f))) ⟨same_upd hD, upd_same⟩ (fun i H1 hi h => ?_) (fun H1 h => z D H1 h.1 hD h.2)
  obtain ⟨s1, h1⟩ := h
  have e0 : (0 : Int) + (i : Int) = (i : Int) := Int.zero_add _
  show wipe ((wipe σ vs).set k (some (.int ((0 : Int) + (i : Int))))) vs = wipe σ vs ∧ te ((wipe σ vs).set k (some (.int ((0 : Int) + (i : Int))))) H1 _
  rw [e0]
  refine ⟨hw _, he i H1 _ s1 (by omega) fun H2 s2 => ⟨_, s2 D _ h1, small5' (by rw [List.length_map, List.length_range]; omega), same_mut (s1.trans s2) hD, ?_⟩⟩
  rw [upd_same, List.range_succ, List.map_append]
  rfl
theorem bitsOf_atI (w : Int) {i : Int} (h0 : 0 ≤ i) (h : i < 32) : atI ((bitsOf w 32).map V.int) i = some (.int (w / 2 ^ i.toNat % 2)) :=
  atI_int (bitsOf_get w (by omega)) (by omega)
/-! objects -/
theorem s_make {C : Addr} {sp : Sp} {E : XK} {t : TA} (z : t σ H fun vs H1 => ∀ x dx, H1 x = none → H1 dx = none → dx ≠ x → sp (.ref x :: vs) (upd (upd H1 dx (.own x)) x (.ins C dx [])) (fun v H2 => v = .non ∧ Q (.ref x) H2) E) : tMake C sp [] E t σ H Q := by
  have e : (fun vs H1 => ∀ x dx, H1 x = none → H1 dx = none → dx ≠ x → sp (.ref x :: vs) (upd (upd H1 dx (.own x)) x (.ins C dx [])) (fun v H2 => v = .non ∧ Q (.ref x) H2) E) = (fun vs H1 => ∀ x dx, H1 x = none → H1 dx = none → dx ≠ x → sp (.ref x :: (vs ++ [])) (upd (upd H1 dx (.own x)) x (.ins C dx [])) (fun v H2 => v = .non ∧ Q (.ref x) H2) E) := by
    funext vs H1
    rw [List.append_nil]
  unfold tMake
  rw [← e]
  exact z
theorem same_made {x dx C : Addr} {o : HO} (nx : H x = none) (nd : H dx = none) : Same H (upd (upd (upd H dx (.own x)) x (.ins C dx [])) x o) := fun b u e => by
  rw [upd_ne (ne_of_none e nx), upd_ne (ne_of_none e nx), upd_ne (ne_of_none e nd)]
  exact e
/-- an object with a title -/
def RuleAt (H : Hp) (p C : Addr) (t : Str) : Prop := ∃ dx, H p = some (.ins C dx (putF "title" (.str t) []))
theorem RuleAt.same {C : Addr} {t : Str} (e : Same H H') (h : RuleAt H p C t) : RuleAt H' p C t := by
  obtain ⟨dx, h⟩ := h
  exact ⟨dx, e _ _ h⟩
theorem s_meth {C : Addr} {m t : Str} {sp : Sp} {E : XK} (hR : RuleAt H p C t) (hv : ∀ R : VK, R (.ref p) H → ta σ H R) (hm : ¬ m = "title") (z : tr σ H fun vs H2 => sp (.ref p :: vs) H2 Q E) : tMeth C m sp [] E ta tr σ H Q := by
  obtain ⟨dx, h⟩ := hR
  refine hv _ ⟨p, dx, _, rfl, h, (by rw [lookup_putF, if_neg hm]; rfl), ?_⟩
  have e : (fun vs H2 => sp (.ref p :: vs) H2 Q E) = (fun vs H2 => sp (.ref p :: (vs ++ [])) H2 Q E) := by
    funext vs H1
    rw [List.append_nil]
  rw [← e]
  exact z
/-! an if at which the walk stops: its ways joined -/
def tIfK (c : TT) (t u : TS) : TS := tIfS c t u
theorem s_ifKw {k : Nat} {nx bk ct : L2.St → Hp → Prop} {rt : VK} {tt : TT} {P : Prop} (a0 : V) (M : V → Hp → Prop) (hσ : σ[k]? = some (some a0)) (ht : ∀ T : Bool → Hp → Prop, (P → T true H) → (¬ P → T false H) → tt σ H T)
    (h1 : P → ∀ R : VK, (∀ v H', M v H' → R v H') → te σ H R) (h2 : ¬ P → M a0 H) (z : ∀ v H', M v H' → nx (σ.set k (some v)) H') : tIfK tt (tAsg te (gName k)) tNext ⟨nx, rt, bk, ct⟩ σ H := by
  refine ht _ (fun hp => ?_) (fun hp => ?_)
  · exact s_iteT (h1 hp _ fun v H' hm => z v H' hm)
  · refine s_iteF ?_
    have q := z a0 H (h2 hp)
    have e : σ.set k (some a0) = σ := by
      obtain ⟨h1, h2⟩ := List.getElem?_eq_some_iff.mp hσ
      rw [← h2]; exact List.set_getElem_self h1
    rw [e] at q
    exact q
/-- the same, the ways being statements: what holds behind -/
theorem s_ifKs {nx bk ct : L2.St → Hp → Prop} {rt : VK} {tt : TT} {ts tu : TS} {P : Prop} (M : L2.St → Hp → Prop) (ht : ∀ T : Bool → Hp → Prop, (P → T true H) → (¬ P → T false H) → tt σ H T)
    (h1 : P → ∀ N : L2.St → Hp → Prop, (∀ σ' H', M σ' H' → N σ' H') → ts ⟨N, rt, bk, ct⟩ σ H) (h2 : ¬ P → ∀ N : L2.St → Hp → Prop, (∀ σ' H', M σ' H' → N σ' H') → tu ⟨N, rt, bk, ct⟩ σ H) (z : ∀ σ' H', M σ' H' → nx σ' H') : tIfK tt ts tu ⟨nx, rt, bk, ct⟩ σ H := by
  refine ht _ (fun hp => ?_) (fun hp => ?_)
  · exact s_iteT (h1 hp _ z)
  · exact s_iteF (h2 hp _ z)
end
theorem ps_ifK {X : Cx} {c : Expr} {a b : List Stmt} {tc : TT} {t u : TS} {pos : Pos} (hc : PT X c tc) (ha : PSs X a t) (hb : PSs X b u) : PS X (.If c a b pos) (tIfK tc t u) := ps_if hc ha hb
end Jl

/-! Steps over texts. -/
namespace Jl
open PySem L2
def rAddS : R2 := fun x y H Q => ∃ i j, x = .str i ∧ y = .str j ∧ i.length + j.length ≤ sizeLine ∧ Q (.str (i ++ j)) H
def rInS : R2 := fun x y H Q => ∃ (c : Nat) (z : Str), x = .str ⟨#[c]⟩ ∧ y = .str z ∧ Q (.bl (decide (c ∈ z.cps.toList))) H
def rNotInS : R2 := fun x y H Q => ∃ (c : Nat) (z : Str), x = .str ⟨#[c]⟩ ∧ y = .str z ∧ Q (.bl (!decide (c ∈ z.cps.toList))) H
def rIsN : R2 := fun x y H Q => y = .non ∧ Q (.bl (decide (x = .non))) H
def rNotN : R2 := fun x y H Q => y = .non ∧ Q (.bl (!decide (x = .non))) H
def rLenS : List V → Hp → VK → Prop := fun xs H Q => ∃ z, xs = [.str z] ∧ z.length ≤ sizeLine ∧ Q (.int z.length) H
def rLenL (K : PySem.W.Frag) : List V → Hp → VK → Prop := fun xs H Q => ∃ p ys, xs = [.ref p] ∧ (SqL K H p ys ∨ SqT K H p ys) ∧ Q (.int ys.length) H
def rMax2 : List V → Hp → VK → Prop := fun xs H Q => ∃ i j, xs = [.int i, .int j] ∧ Q (.int (if j > i then j else i)) H
def rMin2 : List V → Hp → VK → Prop := fun xs H Q => ∃ i j, xs = [.int i, .int j] ∧ Q (.int (if j < i then j else i)) H
def rInt1 : List V → Hp → VK → Prop := fun xs H Q => (∃ i, xs = [.int i] ∧ Q (.int i) H) ∨ ∃ k, xs = [.bl k] ∧ Q (.int (if k then 1 else 0)) H
def rIntS : List V → Hp → VK → Prop := fun xs H Q => ∃ a n, xs = [.str a] ∧ PySem.intText? a = some n ∧ a.length ≤ 640 ∧ Q (.int n) H
def rStrI : List V → Hp → VK → Prop := fun xs H Q => ∃ i, xs = [.int i] ∧ i.natAbs.log2 < 1920 ∧ Q (.str (toString i)) H
section
variable {X : Cx}
theorem op_addS : OpR X (binaryOp .Add) rAddS := op_add_str
theorem op_inS : OpR X (compareOp .In) rInS := op_in_sign
theorem op_notInS : OpR X (compareOp .NotIn) rNotInS := op_notIn_sign
theorem op_isN1 : OpR X (compareOp .Is) rIsN := op_isN
theorem op_notN1 : OpR X (compareOp .IsNot) rNotN := op_notN
theorem cl_lenS : CallR X (.builtin "len") rLenS := call_len_str
theorem cl_lenL : CallR X (.builtin "len") (rLenL X.K) := call_len_seq
theorem cl_max2 (hc : X.calm = true) : CallR X (.builtin "max") rMax2 := call_max2 hc
theorem cl_min2 (hc : X.calm = true) : CallR X (.builtin "min") rMin2 := call_min2 hc
theorem cl_int1 : CallR X (.type "int") rInt1 := call_int1
theorem cl_intS : CallR X (.type "int") rIntS := call_int_str
theorem cl_strI : CallR X (.type "str") rStrI := call_str_int
end
section
variable {K : PySem.W.Frag} {σ : L2.St} {H H' : Hp} {Q : VK} {ta tb tc te to : TE} {tr : TA} {i j : Int} {x y v : V} {a p : Addr} {xs ys : List V} {z w : Str} {c : Nat} {b : Bool} {nx bk ct : L2.St → Hp → Prop} {rt : VK} {tu : TS} {tl th : TO} {RO : Option Int → Hp → Prop}
theorem s_addS (k : Q (.str (z ++ w)) H) (h : z.length + w.length ≤ 100000) : rAddS (.str z) (.str w) H Q := ⟨z, w, rfl, rfl, small5 h, k⟩
theorem s_inS (k : Q (.bl (decide (c ∈ w.cps.toList))) H) : rInS (.str ⟨#[c]⟩) (.str w) H Q := ⟨c, w, rfl, rfl, k⟩
theorem s_notInS (k : Q (.bl (!decide (c ∈ w.cps.toList))) H) : rNotInS (.str ⟨#[c]⟩) (.str w) H Q := ⟨c, w, rfl, rfl, k⟩
theorem s_isNn (k : Q (.bl true) H) : rIsN .non .non H Q := ⟨rfl, k⟩
theorem s_isNi (k : Q (.bl false) H) : rIsN (.int i) .non H Q := ⟨rfl, k⟩
theorem s_isNs (k : Q (.bl false) H) : rIsN (.str z) .non H Q := ⟨rfl, k⟩
theorem s_isNr (k : Q (.bl false) H) : rIsN (.ref a) .non H Q := ⟨rfl, k⟩
theorem s_notNn (k : Q (.bl false) H) : rNotN .non .non H Q := ⟨rfl, k⟩
theorem s_notNi (k : Q (.bl true) H) : rNotN (.int i) .non H Q := ⟨rfl, k⟩
theorem s_notNs (k : Q (.bl true) H) : rNotN (.str z) .non H Q := ⟨rfl, k⟩
theorem s_notNr (k : Q (.bl true) H) : rNotN (.ref a) .non H Q := ⟨rfl, k⟩
theorem s_lenS (k : Q (.int (z.length : Int)) H) (h : z.length ≤ 100000) : rLenS [.str z] H Q := ⟨z, rfl, small5 h, k⟩
theorem s_lenL (h : SqL K H p xs) (k : Q (.int (xs.length : Int)) H) : rLenL K [.ref p] H Q := ⟨p, xs, rfl, .inl h, k⟩
theorem s_max2 (k : Q (.int (max i j)) H) : rMax2 [.int i, .int j] H Q := ⟨i, j, rfl, by
  have e : (if j > i then j else i) = max i j := by split <;> omega
  rw [e]; exact k⟩
theorem s_min2 (k : Q (.int (min i j)) H) : rMin2 [.int i, .int j] H Q := ⟨i, j, rfl, by
  have e : (if j < i then j else i) = min i j := by split <;> omega
  rw [e]; exact k⟩
theorem s_int1 (k : Q (.int i) H) : rInt1 [.int i] H Q := .inl ⟨i, rfl, k⟩
theorem s_int1b (k : Q (.int (if b = true then 1 else 0)) H) : rInt1 [.bl b] H Q := .inr ⟨b, rfl, k⟩
theorem s_ixS (h : atI z.cps.toList i = some c) (k : Q (.str ⟨#[c]⟩) H) (hz : z.length ≤ 100000) : rIxS (.str z) (.int i) H Q := ⟨z, i, c, rfl, rfl, small5 hz, h, k⟩
theorem s_sl {r : V → Option Int → Option Int → Hp → VK → Prop} (k : te σ H fun x H1 => tl σ H1 fun l H2 => th σ H2 fun u H3 => r x l u H3 Q) : tSl r te tl th σ H Q := k
theorem s_noP (k : RO none H) : tNoPart σ H RO := k
theorem s_part (k : te σ H fun x H1 => ∃ i, x = .int i ∧ RO (some i) H1) : tPart te σ H RO := k
theorem s_exi {R : Int → Prop} (k : R i) : ∃ j, V.int i = V.int j ∧ R j := ⟨i, rfl, k⟩
theorem s_slS {lo hi : Option Int} (k : Q (.str (cutS z lo hi)) H) (h : z.length ≤ 100000) : rSlS (.str z) lo hi H Q := ⟨z, rfl, small5 h, k⟩
/-- for c in z -/
theorem s_forS {n : Nat} (Pv : Nat → L2.St → Hp → Prop) (ha : ∀ R : VK, R (.str z) H → te σ H R) (h0 : Pv 0 σ H)
    (hs : ∀ (i : Nat) (c : Nat) σ' H', z.cps.toList[i]? = some c → Pv i σ' H' → tu ⟨Pv (i + 1), rt, nx, Pv (i + 1)⟩ (σ'.set n (some (.str ⟨#[c]⟩))) H') (hd : ∀ σ' H', Pv z.length σ' H' → nx σ' H') : tFor (iStr te) (gName n) tu ⟨nx, rt, bk, ct⟩ σ H := by
  refine ha _ ⟨z, rfl, ?_⟩
  refine ⟨fun i m σ H => m = z.length - i ∧ i ≤ z.length ∧ Pv i σ H, ⟨z.length, by simp, Nat.zero_le _, h0⟩, ?_⟩
  rintro i m σ' H1 ⟨rfl, hi, q⟩
  by_cases hlt : i < z.length
  · refine .inr ⟨hlt, Pv (i + 1), fun σ2 H2 q' => ⟨z.length - (i + 1), by omega, rfl, hlt, q'⟩, fun x H2 y => ?_⟩
    obtain ⟨e, c, hc, rfl⟩ := y
    subst e
    exact hs i c σ' _ (by rw [Array.getElem?_toList]; exact hc) q
  · have e : i = z.length := by omega
    subst e
    exact .inl ⟨Nat.le_refl _, hd σ' H1 q⟩
theorem len_app (z w : Str) : (z ++ w).length = z.length + w.length := PySem.Str.length_append z w
theorem cps_app (z w : Str) : (z ++ w).cps.toList = z.cps.toList ++ w.cps.toList := by
  have e : (z ++ w).cps = z.cps ++ w.cps := rfl
  rw [e, Array.toList_append]
theorem len_one (c : Nat) : (⟨#[c]⟩ : Str).length = 1 := rfl
theorem len_cut (z : Str) (lo hi : Option Int) : (cutS z lo hi).length ≤ z.length := cutS_length z lo hi
theorem len_list (z : Str) : z.cps.toList.length = z.length := Array.length_toList
theorem str_ext {z w : Str} (h : z.cps.toList = w.cps.toList) : z = w := by
  obtain ⟨a⟩ := z
  obtain ⟨b⟩ := w
  have e : a = b := Array.toList_inj.mp h
  rw [e]
theorem atI_some {α : Type} {l : List α} {i : Int} (h1 : -(l.length : Int) ≤ i) (h2 : i < l.length) : ∃ z, atI l i = some z := by
  unfold atI ixN
  by_cases h : 0 ≤ i
  · rw [if_pos h, if_pos h2]
    exact ⟨_, List.getElem?_eq_getElem (by omega)⟩
  · rw [if_neg h, if_pos h1]
    exact ⟨_, List.getElem?_eq_getElem (by omega)⟩
theorem atI_of0 {α : Type} {l : List α} {x : α} (h : l[0]? = some x) : atI l 0 = some x := atI_nat h
theorem one_eq {c d : Nat} : ((⟨#[c]⟩ : Str) = ⟨#[d]⟩) ↔ c = d := by
  constructor
  · intro h
    have e := congrArg (fun z : Str => z.cps.toList) h
    simpa using e
  · rintro rfl; rfl
theorem all_false {α : Type} {l : List α} {f : α → Bool} {i : Nat} {x : α} (h : l[i]? = some x) (hf : f x = false) : l.all f = false := by
  rw [List.all_eq_false]
  exact ⟨x, List.mem_of_getElem? h, by rw [hf]; decide⟩
theorem all_true {α : Type} {l : List α} {f : α → Bool} (h : ∀ (i : Nat) x, l[i]? = some x → f x = true) : l.all f = true := by
  rw [List.all_eq_true]
  intro x hx
  obtain ⟨i, hi⟩ := List.getElem?_of_mem hx
  exact h i x hi
end
end Jl

/-! The machine over words: what it is, what a step makes of it; steps over objects, tuples, dicts. -/
namespace Jl
open PySem L2
def opI (w : Int) : Int := w / 268435456 % 16
def fA (w : Int) : Int := w / 33554432 % 8
def fB (w : Int) : Int := w / 4194304 % 8
def fC (w : Int) : Int := w / 524288 % 8
def fN (w : Int) : Int := w % 65536
def nearI (w : Int) : Int := (w + 262144) % 524288 - 262144
def splitI (w : Int) : Int := (w % 128 + 128 * (w / 16384 % 32) + 2048) % 4096 - 2048
def s16 (n : Int) : Int := (n + 32768) % 65536 - 32768
def turnI (w b : Int) : Int := (w / 2 ^ (b % 32).toNat + w * 2 ^ (32 - (b % 32).toNat)) % 4294967296
def reckI (op l r n : Int) : Int :=
  if op = 2 then n else if op = 3 then 65536 * n else if op = 4 then (l + s16 n) % 4294967296 else if op = 7 then (l + r) % 4294967296
  else if op = 8 then (l - r) % 4294967296 else if op = 9 then Builtin.bitAnd l r else if op = 10 then Builtin.bitXor l r else turnI l r
def reg (l : List Int) (i : Int) : Int := l.getD i.toNat 0
structure MSt where
  mem : Int → Option Int
  spot : Int
  regs : List Int
  outs : List Int
  fin : Bool
def thereI (s : MSt) (w : Int) : Int := (reg s.regs (fB w) + s16 (fN w)) % 4294967296
def nextI (s : MSt) : Int := (s.spot + 1) % 4294967296
def goneI (s : MSt) (w : Int) : Int :=
  if opI w = 15 then reg s.regs (fA w) else if opI w = 14 then (s.spot + 1 + nearI w) % 4294967296
  else if (opI w = 12 ∧ reg s.regs (fA w) = reg s.regs (fB w)) ∨ (opI w = 13 ∧ reg s.regs (fA w) < reg s.regs (fB w)) then (s.spot + 1 + splitI w) % 4294967296 else nextI s
def memPut (f : Int → Option Int) (a w : Int) : Int → Option Int := fun x => if x = a then some w else f x
def stepI (s : MSt) (w : Int) : MSt :=
  if opI w = 0 then { s with fin := true }
  else if opI w = 1 then { s with outs := s.outs ++ [reg s.regs (fA w)], spot := nextI s }
  else if opI w = 5 then { s with regs := s.regs.set (fA w).toNat ((s.mem (thereI s w)).getD 0), spot := nextI s }
  else if opI w = 6 then { s with mem := memPut s.mem (thereI s w) (reg s.regs (fA w)), spot := nextI s }
  else if opI w > 11 then { s with regs := if opI w = 14 then s.regs.set (fA w).toNat (nextI s) else s.regs, spot := goneI s w }
  else { s with regs := s.regs.set (fA w).toNat (reckI (opI w) (reg s.regs (fB w)) (reg s.regs (fC w)) (fN w)), spot := nextI s }
/-! the fields -/
def mf (m s r o e : V) : List (Str × V) := putF "ended" e (putF "outputs" o (putF "registers" r (putF "spot" s (putF "memory" m []))))
theorem putF_ne {f g : Str} {v x : V} {r : List (Str × V)} (h : ¬ g = f) : putF f v ((g, x) :: r) = (g, x) :: putF f v r := if_neg h
theorem putF_eq {f : Str} {v x : V} {r : List (Str × V)} : putF f v ((f, x) :: r) = (f, v) :: r := if_pos rfl
theorem mf_is (m s r o e : V) : mf m s r o e = ([("memory", m), ("spot", s), ("registers", r), ("outputs", o), ("ended", e)] : List (Str × V)) := by
  have e0 : putF "memory" m [] = ([("memory", m)] : List (Str × V)) := rfl
  have e1 : putF "spot" s ([("memory", m)] : List (Str × V)) = ([("memory", m), ("spot", s)] : List (Str × V)) := putF_ne (by decide +kernel)
  have e2 : putF "registers" r ([("memory", m), ("spot", s)] : List (Str × V)) = ([("memory", m), ("spot", s), ("registers", r)] : List (Str × V)) := by
    rw [putF_ne (by decide +kernel), putF_ne (by decide +kernel)]; rfl
  have e3 : putF "outputs" o ([("memory", m), ("spot", s), ("registers", r)] : List (Str × V)) = ([("memory", m), ("spot", s), ("registers", r), ("outputs", o)] : List (Str × V)) := by
    rw [putF_ne (by decide +kernel), putF_ne (by decide +kernel), putF_ne (by decide +kernel)]; rfl
  unfold mf
  rw [e0, e1, e2, e3, putF_ne (by decide +kernel), putF_ne (by decide +kernel), putF_ne (by decide +kernel), putF_ne (by decide +kernel)]
  rfl
theorem mf_memory (m s r o e : V) : (mf m s r o e).lookup ("memory" : Str) = some m := by
  unfold mf
  rw [lookup_putF, if_neg (by decide +kernel), lookup_putF, if_neg (by decide +kernel), lookup_putF, if_neg (by decide +kernel), lookup_putF, if_neg (by decide +kernel), lookup_putF, if_pos rfl]
theorem mf_spot (m s r o e : V) : (mf m s r o e).lookup ("spot" : Str) = some s := by
  unfold mf
  rw [lookup_putF, if_neg (by decide +kernel), lookup_putF, if_neg (by decide +kernel), lookup_putF, if_neg (by decide +kernel), lookup_putF, if_pos rfl]
theorem mf_registers (m s r o e : V) : (mf m s r o e).lookup ("registers" : Str) = some r := by
  unfold mf
  rw [lookup_putF, if_neg (by decide +kernel), lookup_putF, if_neg (by decide +kernel), lookup_putF, if_pos rfl]
theorem mf_outputs (m s r o e : V) : (mf m s r o e).lookup ("outputs" : Str) = some o := by
  unfold mf
  rw [lookup_putF, if_neg (by decide +kernel), lookup_putF, if_pos rfl]
theorem mf_ended (m s r o e : V) : (mf m s r o e).lookup ("ended" : Str) = some e := by
  unfold mf
  rw [lookup_putF, if_pos rfl]
theorem mf_no (m s r o e : V) {f : Str} (h1 : ¬ f = "ended") (h2 : ¬ f = "outputs") (h3 : ¬ f = "registers") (h4 : ¬ f = "spot") (h5 : ¬ f = "memory") : (mf m s r o e).lookup f = none := by
  unfold mf
  rw [lookup_putF, if_neg h1, lookup_putF, if_neg h2, lookup_putF, if_neg h3, lookup_putF, if_neg h4, lookup_putF, if_neg h5]
  rfl
theorem mf_len (m s r o e : V) : (mf m s r o e).length < 1000 := by rw [mf_is]; show 5 < 1000; decide
theorem mf_putSpot (m s r o e v : V) : putF "spot" v (mf m s r o e) = mf m v r o e := by
  rw [mf_is, mf_is, putF_ne (by decide +kernel), putF_eq]
theorem mf_putEnded (m s r o e v : V) : putF "ended" v (mf m s r o e) = mf m s r o v := by
  rw [mf_is, mf_is, putF_ne (by decide +kernel), putF_ne (by decide +kernel), putF_ne (by decide +kernel), putF_ne (by decide +kernel), putF_eq]
/-! a machine in the heap -/
structure MachAt (C : Addr) (H : Hp) (p dx m r o : Addr) (s : MSt) : Prop where
  ob : H p = some (.ins C dx (mf (.ref m) (.int s.spot) (.ref r) (.ref o) (.bl s.fin)))
  dc : ∃ kvs, H m = some (.dK kvs) ∧ kvs.length ≤ 100000 ∧ ∀ a : Int, valV kvs (Sum.inl a : Key) = (s.mem a).map V.int
  rg : H r = some (.lst (s.regs.map V.int))
  ou : H o = some (.lst (s.outs.map V.int))
  ne : r ≠ o
theorem MachAt.same {C : Addr} {H H' : Hp} {p dx m r o : Addr} {s : MSt} (e : Same H H') (h : MachAt C H p dx m r o s) : MachAt C H' p dx m r o s := by
  obtain ⟨kvs, h1, h2, h3⟩ := h.dc
  exact ⟨e _ _ h.ob, ⟨kvs, e _ _ h1, h2, h3⟩, e _ _ h.rg, e _ _ h.ou, h.ne⟩
/-- all but a machine's own cells stands -/
def Keep (H H' : Hp) (p m r o : Addr) : Prop := ∀ b v, H b = some v → b ≠ p → b ≠ m → b ≠ r → b ≠ o → H' b = some v
theorem Keep.same {B H H' : Hp} {p m r o : Addr} (k : Keep H H' p m r o) (e : Same B H) (h1 : B p = none) (h2 : B m = none) (h3 : B r = none) (h4 : B o = none) : Same B H' := fun b v hb =>
  k b v (e b v hb) (ne_of_none hb h1) (ne_of_none hb h2) (ne_of_none hb h3) (ne_of_none hb h4)
theorem Keep.of {H H' : Hp} {p m r o : Addr} (e : Same H H') : Keep H H' p m r o := fun b v h _ _ _ _ => e b v h
theorem Keep.trans {H H1 H2 : Hp} {p m r o : Addr} (a : Keep H H1 p m r o) (b : Keep H1 H2 p m r o) : Keep H H2 p m r o := fun c v h h1 h2 h3 h4 => b c v (a c v h h1 h2 h3 h4) h1 h2 h3 h4
section
variable {K : PySem.W.Frag} {σ : L2.St} {H H' : Hp} {Q : VK} {ta tb tc te to tv td ty : TE} {tr : TA} {i j : Int} {x y v : V} {a p dx C m r o : Addr} {xs ys : List V} {f : Str} {fs : List (Str × V)} {nx bk ct : L2.St → Hp → Prop} {rt : VK} {W : L2.St → Hp → Prop} {s : MSt}
theorem s_fld (hv : ∀ R : VK, R (.ref p) H → ta σ H R) (h : H p = some (.ins C dx fs)) (c : Cls K C) (n : NoAttr K C f) (l : fs.lookup f = some v) (z : Q v H) : tFld K ta f σ H Q := hv _ ⟨p, C, dx, fs, v, rfl, h, c, n, l, z⟩
theorem s_sFld (z : tv σ H fun y H1 => ta σ H1 fun x H2 => ∃ a C dx fs, x = .ref a ∧ H2 a = some (.ins C dx fs) ∧ Cls K C ∧ NoAttr K C f ∧ fs.length < 1000 ∧ nx σ (upd H2 a (.ins C dx (putF f y fs)))) : sFld K ta tv f ⟨nx, rt, bk, ct⟩ σ H := z
theorem s_setF (h : H p = some (.ins C dx fs)) (c : Cls K C) (n : NoAttr K C f) (hl : fs.length < 1000) (z : nx σ (upd H p (.ins C dx (putF f y fs)))) :
    ∃ a C dx fs, V.ref p = .ref a ∧ H a = some (.ins C dx fs) ∧ Cls K C ∧ NoAttr K C f ∧ fs.length < 1000 ∧ nx σ (upd H a (.ins C dx (putF f y fs))) := ⟨p, C, dx, fs, rfl, h, c, n, hl, z⟩
theorem s_gTup {n : Nat} {t : TGs} (h : SqT K H p xs) (hl : xs.length = n) (z : t xs σ H W) : gTup K n t (.ref p) σ H W := ⟨p, xs, rfl, h, hl, z⟩
theorem s_gTupA {n : Nat} {t : TGs} (h : H p = some (.tup xs)) (hl : xs.length = n) (z : t xs σ H W) : gTup K n t (.ref p) σ H W := ⟨p, xs, rfl, .inl (.inl h), hl, z⟩
theorem s_gCons {t : TG} {u : TGs} (z : t v σ H fun σ' H' => u xs σ' H' W) : gCons t u (v :: xs) σ H W := ⟨v, xs, rfl, z⟩
theorem s_gNil (z : W σ H) : gNil [] σ H W := ⟨rfl, z⟩
theorem s_gSub {t : TSet} (z : to σ H fun o H1 => te σ H1 fun i H2 => t o i v H2 fun H3 => W σ H3) : gSub to te t v σ H W := z
theorem s_setL {Z : Hp → Prop} {k : Nat} (h : H p = some (.lst xs)) (hi : ixN xs.length i = some k) (z : Z (upd H p (.lst (xs.set k v)))) : rSetL (.ref p) (.int i) v H Z := ⟨p, xs, i, k, rfl, rfl, h, hi, z⟩
theorem ixN_ok {n : Nat} (h0 : 0 ≤ i) (h : i < n) : ixN n i = some i.toNat := by
  unfold ixN
  rw [if_pos h0, if_pos h]
theorem atI_reg {l : List Int} {n : Nat} (hl : l.length = n) (h0 : 0 ≤ i) (h : i < n) : atI (l.map V.int) i = some (.int (reg l i)) := by
  have hi : i.toNat < l.length := by omega
  refine atI_int (k := i.toNat) ?_ (by omega)
  unfold reg
  rw [List.getD_eq_getElem?_getD, List.getElem?_eq_getElem hi]; rfl
theorem map_set {l : List Int} {n : Nat} {z : Int} : (l.map V.int).set n (.int z) = (l.set n z).map V.int := by rw [List.map_set]
theorem tup_at {i : Nat} {v : V} (h : H p = some (.tup xs)) (hv : xs[i]? = some v) (z : Q v H) : rIxT K (.ref p) (.int (i : Int)) H Q := s_ixT (.inl (.inl h)) (atI_nat hv) z
theorem s_methO {sp : Sp} {E : XK} (hv : ∀ R : VK, R (.ref p) H → ta σ H R) (h : H p = some (.ins C dx fs)) (hm : fs.lookup f = none) (z : tr σ H fun vs H2 => sp (.ref p :: vs) H2 Q E) : tMeth C f sp [] E ta tr σ H Q := by
  refine hv _ ⟨p, dx, _, rfl, h, hm, ?_⟩
  have e : (fun vs H2 => sp (.ref p :: vs) H2 Q E) = (fun vs H2 => sp (.ref p :: (vs ++ [])) H2 Q E) := by
    funext vs H1
    rw [List.append_nil]
  rw [← e]
  exact z
/-! dicts and copies -/
theorem s_dnotin (z : ty σ H fun y H1 => td σ H1 fun x H2 => ∃ a o, x = .ref a ∧ DGet H2 a y o ∧ Q (.bl (!o.isSome)) H2) : tDNotIn ty td σ H Q := z
theorem s_din (z : ty σ H fun y H1 => td σ H1 fun x H2 => ∃ a o, x = .ref a ∧ DGet H2 a y o ∧ Q (.bl o.isSome) H2) : tDIn ty td σ H Q := z
theorem s_dgetR (z : td σ H fun x H1 => ty σ H1 fun y H2 => ∃ a v, x = .ref a ∧ DGet H2 a y (some v) ∧ Q v H2) : tDGet td ty σ H Q := z
theorem s_dput (z : tv σ H fun v H1 => td σ H1 fun x H2 => ty σ H2 fun y H3 => ∃ a H4, x = .ref a ∧ DPut H3 a y v H4 ∧ nx σ H4) : sDPut td ty tv ⟨nx, rt, bk, ct⟩ σ H := z
theorem s_dget1 (z : td σ H fun x H1 => ∃ a, x = .ref a ∧ IsD H1 a ∧ ty σ H1 fun y H2 => ∃ o, DGet H2 a y o ∧ Q (o.getD .non) H2) : tDGet1 td ty σ H Q := z
end
def rDictD : List V → Hp → VK → Prop := fun xs H Q => ∃ (a : Addr) (kvs : List (Key × V)), xs = [.ref a] ∧ Rd H a (.dK kvs) ∧ ∀ p, H p = none → Q (.ref p) (upd H p (.dK kvs))
def rListO (K : PySem.W.Frag) : List V → Hp → VK → Prop := fun xs H Q => ∃ p ys, xs = [.ref p] ∧ (SqL K H p ys ∨ SqT K H p ys) ∧ ∀ l, H l = none → Q (.ref l) (upd H l (.lst ys))
theorem cl_dictD {X : Cx} : CallR X (.type "dict") rDictD := call_dictD
theorem cl_listO {X : Cx} : CallR X (.type "list") (rListO X.K) := call_list_of
theorem s_dictD {H : Hp} {Q : VK} {a : Addr} {kvs : List (Key × V)} (h : H a = some (.dK kvs)) (z : ∀ p, H p = none → Q (.ref p) (upd H p (.dK kvs))) : rDictD [.ref a] H Q := ⟨a, kvs, rfl, .inl h, z⟩
theorem s_listO {K : PySem.W.Frag} {H : Hp} {Q : VK} {a : Addr} {xs : List V} (h : SqL K H a xs) (z : ∀ p, H p = none → Q (.ref p) (upd H p (.lst xs))) : rListO K [.ref a] H Q := ⟨a, xs, rfl, .inl h, z⟩
/-- the key of an int -/
def kI (a : Int) : Key := Sum.inl a
/-- all but one object stands -/
def But (H H' : Hp) (p : Addr) : Prop := ∀ b v, H b = some v → b ≠ p → H' b = some v
theorem But.refl (H : Hp) (p : Addr) : But H H p := fun _ _ h _ => h
theorem But.at {H H' : Hp} {p : Addr} {o : HO} (e : But H H' p) : But H (upd H' p o) p := fun b v h n => by
  rw [upd_ne n]; exact e b v h n
theorem But.new {H H' : Hp} {p q : Addr} {o : HO} (e : But H H' p) (hq : H q = none) : But H (upd H' q o) p := fun b v h n => by
  rw [upd_ne (ne_of_none h hq)]; exact e b v h n
theorem But.sq {K : PySem.W.Frag} {H H' : Hp} {p dx C a : Addr} {fs : List (Str × V)} {xs : List V} (e : But H H' p) (hp : H p = some (.ins C dx fs)) (h : SqL K H a xs) : SqL K H' a xs := by
  rcases h with (h | ⟨o, h⟩) | h
  · exact .inl (.inl (e _ _ h (ne_of h hp (by intro z; cases z))))
  · exact .inl (.inr ⟨o, e _ _ h (ne_of h hp (by intro z; cases z))⟩)
  · exact .inr h
theorem But.free {H H' : Hp} {p q dx C : Addr} {fs : List (Str × V)} (e : But H H' p) (hp : H p = some (.ins C dx fs)) (h' : ∃ v, H' p = some v) (h : H' q = none) : H q = none := by
  cases z : H q with
  | none => rfl
  | some v =>
    by_cases hq : q = p
    · subst hq
      obtain ⟨v, hv⟩ := h'
      rw [hv] at h; cases h
    · rw [e q v z hq] at h; cases h
theorem lp1 {f : Str} {v : V} {fs : List (Str × V)} {n : Nat} (h : fs.length ≤ n) : (putF f v fs).length ≤ n + 1 := Nat.le_trans (length_putF f v fs) (by omega)
theorem lp {n : Nat} {fs : List (Str × V)} (h : fs.length ≤ n) (hn : n ≤ 100) : fs.length < 1000 := by omega
theorem nil0 : ([] : List (Str × V)).length ≤ 0 := Nat.le_refl 0
section
variable {C p dx m r o : Addr} {H H' : Hp} {s : MSt}
theorem MachAt.pm (M : MachAt C H p dx m r o s) : p ≠ m := by obtain ⟨k, h, _⟩ := M.dc; exact ne_of M.ob h (by intro z; cases z)
theorem MachAt.pr (M : MachAt C H p dx m r o s) : p ≠ r := ne_of M.ob M.rg (by intro z; cases z)
theorem MachAt.po (M : MachAt C H p dx m r o s) : p ≠ o := ne_of M.ob M.ou (by intro z; cases z)
theorem MachAt.rm (M : MachAt C H p dx m r o s) : r ≠ m := by obtain ⟨k, h, _⟩ := M.dc; exact ne_of M.rg h (by intro z; cases z)
theorem MachAt.om (M : MachAt C H p dx m r o s) : o ≠ m := by obtain ⟨k, h, _⟩ := M.dc; exact ne_of M.ou h (by intro z; cases z)
theorem MachAt.setSpot (M : MachAt C H p dx m r o s) (v : Int) : MachAt C (upd H p (.ins C dx (putF "spot" (.int v) (mf (.ref m) (.int s.spot) (.ref r) (.ref o) (.bl s.fin))))) p dx m r o { s with spot := v } := by
  obtain ⟨kvs, h1, h2, h3⟩ := M.dc
  rw [mf_putSpot]
  exact ⟨upd_same, ⟨kvs, by rw [upd_ne M.pm.symm]; exact h1, h2, h3⟩, by rw [upd_ne M.pr.symm]; exact M.rg, by rw [upd_ne M.po.symm]; exact M.ou, M.ne⟩
theorem MachAt.setEnded (M : MachAt C H p dx m r o s) (v : Bool) : MachAt C (upd H p (.ins C dx (putF "ended" (.bl v) (mf (.ref m) (.int s.spot) (.ref r) (.ref o) (.bl s.fin))))) p dx m r o { s with fin := v } := by
  obtain ⟨kvs, h1, h2, h3⟩ := M.dc
  rw [mf_putEnded]
  exact ⟨upd_same, ⟨kvs, by rw [upd_ne M.pm.symm]; exact h1, h2, h3⟩, by rw [upd_ne M.pr.symm]; exact M.rg, by rw [upd_ne M.po.symm]; exact M.ou, M.ne⟩
theorem MachAt.setReg (M : MachAt C H p dx m r o s) (i : Nat) (v : Int) : MachAt C (upd H r (.lst ((s.regs.map V.int).set i (.int v)))) p dx m r o { s with regs := s.regs.set i v } := by
  obtain ⟨kvs, h1, h2, h3⟩ := M.dc
  refine ⟨by rw [upd_ne M.pr]; exact M.ob, ⟨kvs, by rw [upd_ne M.rm.symm]; exact h1, h2, h3⟩, ?_, by rw [upd_ne M.ne.symm]; exact M.ou, M.ne⟩
  rw [map_set]; exact upd_same
theorem MachAt.app (M : MachAt C H p dx m r o s) (v : Int) : MachAt C (upd H o (.lst (s.outs.map V.int ++ [.int v]))) p dx m r o { s with outs := s.outs ++ [v] } := by
  obtain ⟨kvs, h1, h2, h3⟩ := M.dc
  refine ⟨by rw [upd_ne M.po]; exact M.ob, ⟨kvs, by rw [upd_ne M.om.symm]; exact h1, h2, h3⟩, by rw [upd_ne M.ne]; exact M.rg, ?_, M.ne⟩
  have e : (s.outs ++ [v]).map V.int = s.outs.map V.int ++ [.int v] := by rw [List.map_append]; rfl
  rw [e]; exact upd_same
theorem Keep.atP {v : HO} (k : Keep H H' p m r o) : Keep H (upd H' p v) p m r o := fun b u h h1 h2 h3 h4 => by rw [upd_ne h1]; exact k b u h h1 h2 h3 h4
theorem Keep.atR {v : HO} (k : Keep H H' p m r o) : Keep H (upd H' r v) p m r o := fun b u h h1 h2 h3 h4 => by rw [upd_ne h3]; exact k b u h h1 h2 h3 h4
theorem Keep.atO {v : HO} (k : Keep H H' p m r o) : Keep H (upd H' o v) p m r o := fun b u h h1 h2 h3 h4 => by rw [upd_ne h4]; exact k b u h h1 h2 h3 h4
theorem Keep.atM {H2 : Hp} (k : Keep H H' p m r o) (e : ∀ b, b ≠ m → H2 b = H' b) : Keep H H2 p m r o := fun b u h h1 h2 h3 h4 => by rw [e b h2]; exact k b u h h1 h2 h3 h4
theorem Keep.sm {H2 : Hp} (k : Keep H H' p m r o) (e : Same H' H2) : Keep H H2 p m r o := fun b u h h1 h2 h3 h4 => e b u (k b u h h1 h2 h3 h4)
end
/-- what a step asks -/
structure Goes (s : MSt) (w : Int) : Prop where
  run : s.fin = false
  here : s.mem s.spot = some w
  r8 : s.regs.length = 8
  rr : ∀ i, 0 ≤ i → i < 8 → 0 ≤ reg s.regs i ∧ reg s.regs i < 4294967296
  few : s.outs.length ≤ 1000
  has : opI w = 5 ∨ opI w = 6 → ∃ v, s.mem (thereI s w) = some v
def optW : Option Int → V
  | none => .non
  | some n => .int n
section
variable {K : PySem.W.Frag} {σ : L2.St} {H H' : Hp} {Q : VK} {ta tb tc te to tv td ty tl : TE} {tt : TT} {tr : TA} {i j : Int} {x y v : V} {a p q dx C m r o : Addr} {xs ys : List V}
theorem s_isi_tt {cn : String} {k : Bool} (h : H q = some (.tup xs)) (hk : kitB "tuple" cn = some k) (z : Q (.bl k) H) : rIsi K [.ref q, .ty cn] H Q := s_isi (.base (.tup h)) (kit_ty hk) z
/-- a machine's state as data -/
def stD (s : MSt) : PyData := .tuple [.int s.spot, .list (s.regs.map PyData.int), .list (s.outs.map PyData.int), .bool s.fin]
theorem dp_st {s : MSt} (h : H q = some (.tup [.int s.spot, .ref r, .ref o, .bl s.fin])) (hr : SqL K H r (s.regs.map V.int)) (ho : SqL K H o (s.outs.map V.int)) : Dp K H (.ref q) (stD s) :=
  .tup (.inl (.inl h)) (.cons (.int _) (.cons (dp_intL hr) (.cons (dp_intL ho) (.cons (.bl _) .nil))))
theorem shaped_st (s : MSt) : SeqAt.shaped (stD s) = true := by
  have h1 := depth_ints s.regs
  have h2 := depth_ints s.outs
  refine Bool.and_eq_true_iff.mpr ⟨?_, decide_eq_true ?_⟩
  · show (true && (PyData.canLayAll0 (s.regs.map PyData.int) && (PyData.canLayAll0 (s.outs.map PyData.int) && (true && true)))) = true
    rw [lay_ints, lay_ints]; rfl
  · show (max 0 (max (PyData.depthAll (s.regs.map PyData.int) + 1) (max (PyData.depthAll (s.outs.map PyData.int) + 1) (max 0 0)))) + 1 ≤ 64
    omega
theorem s_neSt {s : MSt} (h1 : Dp K H x (stD s)) (h2 : Dp K H y (stD s)) (z : Q (.bl false) H) : rNeD K x y H Q :=
  ⟨_, _, h1, h2, shaped_st s, shaped_st s, by
    rw [SeqAt.eqv_refl _ (SeqAt.canLay_of_shaped (shaped_st s))]; exact z⟩
/-- [e for x in xs if t], t false of each -/
theorem s_lcNo {k : Nat} {vs : List Nat} {xs : List V} (ha : ∀ R : VK, (∀ a H1, Same H H1 → SqL K H1 a xs → R (.ref a) H1) → tl σ H R) (hw : ∀ x, wipe ((wipe σ vs).set k (some x)) vs = wipe σ vs)
    (ht : ∀ (i : Nat) x H1 (T : Bool → Hp → Prop), xs[i]? = some x → Same H H1 → (∀ H2, Same H1 H2 → T false H2) → tt ((wipe σ vs).set k (some x)) H1 T)
    (z : ∀ p H1, Same H H1 → H1 p = some (.lst []) → Q (.ref p) H1) : tLc (iList K tl) (gName k) tt te vs σ H Q := by
  refine ha _ fun a H0 s0 hx => ⟨a, rfl, ⟨xs, hx⟩, fun D hD => ?_⟩
  refine lc_list (xs := xs) (fun i H' => Same H0 H' ∧ H' D = some (.lst [])) ⟨same_upd hD, upd_same⟩ (fun i H' _ h => h.1.seq hx) (fun i x H1 hi h => ?_) (fun H1 h => z D H1 (s0.trans h.1) h.2)
  obtain ⟨s1, h1⟩ := h
  refine ⟨hw _, ht i x H1 _ hi (s0.trans s1) fun H2 s2 => ?_⟩
  rw [if_neg Bool.false_ne_true]
  exact ⟨s1.trans s2, s2 D _ h1⟩
theorem s_eqNil (h1 : H p = some (.lst [])) (h2 : H q = some (.lst [])) (z : Q (.bl true) H) : rEqD K (.ref p) (.ref q) H Q :=
  s_eqInts (ns := []) (ms := []) (.inl (.inl h1)) (.inl (.inl h2)) z
end
theorem s_disp {trs : List (TE × TE)} {σ : L2.St} {H : Hp} {Q : VK} (z : ∀ p, H p = none → tPairs trs σ (upd H p (.dK [])) fun ps H2 => H2 p = some (.dK []) ∧ ∃ kvs : List (Key × V), ps = kvs.map (fun kv => (kV kv.1, kv.2)) ∧ kvs.length ≤ 15 ∧ Q (.ref p) (upd H2 p (.dK (mergeK [] kvs)))) : tDisp trs σ H Q := z
theorem s_tPc {tk tv : TE} {r : List (TE × TE)} {σ : L2.St} {H : Hp} {R : List (V × V) → Hp → Prop} (z : tk σ H fun x H1 => tv σ H1 fun y H2 => tPairs r σ H2 fun ps H3 => R ((x, y) :: ps) H3) : tPairs ((tk, tv) :: r) σ H R := z
theorem s_tPn {σ : L2.St} {H : Hp} {R : List (V × V) → Hp → Prop} (z : R [] H) : tPairs [] σ H R := z
/-- a word put together -/
theorem word_parts {op a b c low : Int} (h1 : 0 ≤ op ∧ op < 16) (h2 : 0 ≤ a ∧ a < 8) (h3 : 0 ≤ b ∧ b < 8) (h4 : 0 ≤ c ∧ c < 8) (h5 : 0 ≤ low ∧ low < 524288) :
    let w := op * 268435456 + a * 33554432 + b * 4194304 + c * 524288 + low
    (0 ≤ w ∧ w < 4294967296) ∧ opI w = op ∧ fA w = a ∧ fB w = b ∧ fC w = c ∧ fN w = low % 65536 ∧ nearI w = nearI low ∧ splitI w = splitI low := by
  intro w
  have hw : w = op * 268435456 + a * 33554432 + b * 4194304 + c * 524288 + low := rfl
  clear_value w
  unfold opI fA fB fC fN nearI splitI
  refine ⟨by omega, by omega, by omega, by omega, by omega, by omega, by omega, ?_⟩
  have e1 : w % 128 = low % 128 := by omega
  have e2 : w / 16384 % 32 = low / 16384 % 32 := by omega
  rw [e1, e2]
theorem near_low {low : Int} (h : 0 ≤ low ∧ low < 524288) : nearI low = if low > 262143 then low - 524288 else low := by
  unfold nearI; split <;> omega
theorem split_low (low : Int) : splitI low = if low % 128 + low / 16384 % 32 * 128 > 2047 then low % 128 + low / 16384 % 32 * 128 - 4096 else low % 128 + low / 16384 % 32 * 128 := by
  unfold splitI; split <;> omega
def onw (op one other beside low : Int) : Int :=
  if op = 15 then one else if op = 14 then (beside + nearI low) % 4294967296 else if (op = 12 ∧ one = other) ∨ (op = 13 ∧ one < other) then (beside + splitI low) % 4294967296 else beside
theorem reg_set {l : List Int} {i j v : Int} (h : i < l.length) (h0 : 0 ≤ i) (j0 : 0 ≤ j) : reg (l.set i.toNat v) j = if j = i then v else reg l j := by
  unfold reg
  rw [List.getD_eq_getElem?_getD, List.getElem?_set, List.getD_eq_getElem?_getD]
  by_cases e : j = i
  · rw [if_pos (by rw [e]), if_pos (by omega), if_pos e]; rfl
  · rw [if_neg (by omega), if_neg e]
/-- an object that is none of a machine's cells is written -/
theorem MachAt.off {C : Addr} {H : Hp} {p dx m r o q : Addr} {s : MSt} {v : HO} (M : MachAt C H p dx m r o s) (h1 : q ≠ p) (h2 : q ≠ m) (h3 : q ≠ r) (h4 : q ≠ o) : MachAt C (upd H q v) p dx m r o s := by
  obtain ⟨kvs, k1, k2, k3⟩ := M.dc
  exact ⟨by rw [upd_ne h1.symm]; exact M.ob, ⟨kvs, by rw [upd_ne h2.symm]; exact k1, k2, k3⟩, by rw [upd_ne h3.symm]; exact M.rg, by rw [upd_ne h4.symm]; exact M.ou, M.ne⟩
end Jl

namespace Jl
open PySem PyProof.Rows L2
theorem and_bit (i : Nat) : ∀ x y : Int, Builtin.bitAnd x y / 2 ^ i % 2 = if x / 2 ^ i % 2 = 1 ∧ y / 2 ^ i % 2 = 1 then 1 else 0 := by
  induction i with
  | zero =>
    intro x y
    rw [and_rec]
    simp only [Int.pow_zero, Int.ediv_one]
    split <;> omega
  | succ i ih =>
    intro x y
    rw [ediv_two_pow, ediv_two_pow, ediv_two_pow]
    have e : Builtin.bitAnd x y / 2 = Builtin.bitAnd (x / 2) (y / 2) := by
      rw [and_rec]; split <;> omega
    rw [e]
    exact ih (x / 2) (y / 2)
theorem xor_bit (i : Nat) : ∀ x y : Int, Builtin.bitXor x y / 2 ^ i % 2 = (x / 2 ^ i % 2 + y / 2 ^ i % 2) % 2 := by
  induction i with
  | zero =>
    intro x y
    rw [xor_rec]
    simp only [Int.pow_zero, Int.ediv_one]
    omega
  | succ i ih =>
    intro x y
    rw [ediv_two_pow, ediv_two_pow, ediv_two_pow]
    have e : Builtin.bitXor x y / 2 = Builtin.bitXor (x / 2) (y / 2) := by
      rw [xor_rec]; omega
    rw [e]
    exact ih (x / 2) (y / 2)
theorem mod_more (x : Int) (i : Nat) : x % 2 ^ (i + 1) = x % 2 ^ i + x / 2 ^ i % 2 * 2 ^ i := by
  have hp := two_pow_pos i
  have h1 := Int.mul_ediv_add_emod x (2 ^ i)
  have h2 := Int.mul_ediv_add_emod (x / 2 ^ i) 2
  have r1 := Int.emod_nonneg x (show (2 : Int) ^ i ≠ 0 by omega)
  have r2 := Int.emod_lt_of_pos x hp
  have r3 : x / 2 ^ i % 2 = 0 ∨ x / 2 ^ i % 2 = 1 := by omega
  have e : x = (x % 2 ^ i + x / 2 ^ i % 2 * 2 ^ i) + 2 ^ (i + 1) * (x / 2 ^ i / 2) := by
    have : (2 : Int) ^ (i + 1) * (x / 2 ^ i / 2) = 2 ^ i * (2 * (x / 2 ^ i / 2)) := by rw [Int.pow_succ, Int.mul_assoc]
    rw [this]
    have e3 : (2 : Int) ^ i * (x / 2 ^ i) = 2 ^ i * (2 * (x / 2 ^ i / 2)) + 2 ^ i * (x / 2 ^ i % 2) := by rw [← Int.mul_add, h2]
    have e4 : (2 : Int) ^ i * (x / 2 ^ i % 2) = x / 2 ^ i % 2 * 2 ^ i := Int.mul_comm ..
    omega
  have hr : 0 ≤ x % 2 ^ i + x / 2 ^ i % 2 * 2 ^ i ∧ x % 2 ^ i + x / 2 ^ i % 2 * 2 ^ i < 2 ^ (i + 1) := by
    rw [pow_succ2]
    rcases r3 with r3 | r3 <;> rw [r3] <;> omega
  conv => lhs; rw [e]
  rw [Int.add_mul_emod_self_left, Int.emod_eq_of_lt hr.1 hr.2]
theorem and_word {x y : Int} (_hx : 0 ≤ x) (hy : 0 ≤ y) (h : y < 2 ^ 32) : Builtin.bitAnd x y % 2 ^ 32 = Builtin.bitAnd x y := by
  have := bitAnd_range x hy
  exact Int.emod_eq_of_lt this.1 (by omega)
theorem xor_word {x y : Int} (hx : 0 ≤ x) (hy : 0 ≤ y) (h1 : x < 2 ^ 32) (h : y < 2 ^ 32) : Builtin.bitXor x y % 2 ^ 32 = Builtin.bitXor x y := by
  have h0 : 0 ≤ Builtin.bitXor x y := _root_.Bits.bitXor_nonneg hx hy
  refine Int.emod_eq_of_lt h0 ?_
  rw [_root_.Bits.bitXor_pp hx hy]
  have := Nat.xor_lt_two_pow (n := 32) (x := x.toNat) (y := y.toNat) (by omega) (by omega)
  omega
def rotI (w : Int) (m : Nat) : Int := w / 2 ^ m + w % 2 ^ m * 2 ^ (32 - m)
theorem rot_is {w : Int} (h0 : 0 ≤ w) (h1 : w < 2 ^ 32) {m : Nat} (hm : m ≤ 32) : (w / 2 ^ m + w * 2 ^ (32 - m)) % 2 ^ 32 = rotI w m ∧ 0 ≤ rotI w m ∧ rotI w m < 2 ^ 32 := by
  have hp := two_pow_pos m
  have hq := two_pow_pos (32 - m)
  have e32 : (2 : Int) ^ m * 2 ^ (32 - m) = 2 ^ 32 := by rw [← pow_add2, show m + (32 - m) = 32 by omega]
  have hA : 0 ≤ w / 2 ^ m ∧ w / 2 ^ m < 2 ^ (32 - m) := div_lt_pow h0 (by rw [show m + (32 - m) = 32 by omega]; exact h1)
  have r1 := Int.emod_nonneg w (show (2 : Int) ^ m ≠ 0 by omega)
  have r2 := Int.emod_lt_of_pos w hp
  have e1 := Int.mul_ediv_add_emod w (2 ^ m)
  have hb : 0 ≤ w % 2 ^ m * 2 ^ (32 - m) ∧ w % 2 ^ m * 2 ^ (32 - m) ≤ 2 ^ 32 - 2 ^ (32 - m) := by
    refine ⟨Int.mul_nonneg r1 (Int.le_of_lt hq), ?_⟩
    have : w % 2 ^ m * 2 ^ (32 - m) ≤ (2 ^ m - 1) * 2 ^ (32 - m) := Int.mul_le_mul_of_nonneg_right (by omega) (Int.le_of_lt hq)
    rw [Int.sub_mul, e32, Int.one_mul] at this
    exact this
  have e2 : w * 2 ^ (32 - m) = 2 ^ 32 * (w / 2 ^ m) + w % 2 ^ m * 2 ^ (32 - m) := by
    conv => lhs; rw [← e1]
    rw [Int.add_mul, Int.mul_right_comm, e32]
  have hr : 0 ≤ rotI w m ∧ rotI w m < 2 ^ 32 := by unfold rotI; omega
  refine ⟨?_, hr⟩
  have e3 : w / 2 ^ m + w * 2 ^ (32 - m) = rotI w m + 2 ^ 32 * (w / 2 ^ m) := by unfold rotI; omega
  rw [e3, Int.add_mul_emod_self_left, Int.emod_eq_of_lt hr.1 hr.2]
theorem rot_more {w : Int} {m : Nat} (hm : m < 32) : rotI w m / 2 + rotI w m % 2 * 2147483648 = rotI w (m + 1) := by
  unfold rotI
  obtain ⟨k, hk⟩ : ∃ k, 32 - m = k + 1 := ⟨31 - m, by omega⟩
  have hk2 : 32 - (m + 1) = k := by omega
  have e31 : (2 : Int) ^ m * 2 ^ k = 2147483648 := by rw [← pow_add2, show m + k = 31 by omega]; rfl
  rw [hk, hk2, ← half_more, mod_more w m, pow_succ2 k, Int.mul_left_comm]
  rw [Int.add_mul, Int.mul_assoc _ (2 ^ m), e31]
  generalize hB : w % 2 ^ m * 2 ^ k = B
  have h2 : w / 2 ^ m % 2 = 0 ∨ w / 2 ^ m % 2 = 1 := by omega
  omega
theorem turn_is {w : Int} (h0 : 0 ≤ w) (h1 : w < 4294967296) (b : Int) : turnI w b = rotI w (b % 32).toNat := by
  have := (rot_is h0 h1 (m := (b % 32).toNat) (by omega)).1
  exact this
theorem rot_zero (w : Int) : rotI w 0 = w := by
  unfold rotI
  rw [Int.pow_zero]; omega
theorem and_more (x y : Int) (i : Nat) : Builtin.bitAnd x y % 2 ^ (i + 1) = if x / 2 ^ i % 2 + y / 2 ^ i % 2 = 2 then Builtin.bitAnd x y % 2 ^ i + 2 ^ i else Builtin.bitAnd x y % 2 ^ i := by
  rw [mod_more, and_bit]
  have a := Int.emod_two_eq (x / 2 ^ i)
  have b := Int.emod_two_eq (y / 2 ^ i)
  by_cases h : x / 2 ^ i % 2 = 1 ∧ y / 2 ^ i % 2 = 1
  · rw [if_pos h, if_pos (by omega), Int.one_mul]
  · rw [if_neg h, if_neg (by omega), Int.zero_mul, Int.add_zero]
theorem xor_more (x y : Int) (i : Nat) : Builtin.bitXor x y % 2 ^ (i + 1) = if x / 2 ^ i % 2 + y / 2 ^ i % 2 = 1 then Builtin.bitXor x y % 2 ^ i + 2 ^ i else Builtin.bitXor x y % 2 ^ i := by
  rw [mod_more, xor_bit]
  have a := Int.emod_two_eq (x / 2 ^ i)
  have b := Int.emod_two_eq (y / 2 ^ i)
  by_cases h : x / 2 ^ i % 2 + y / 2 ^ i % 2 = 1
  · rw [if_pos h, h]; omega
  · rw [if_neg h]
    have e : (x / 2 ^ i % 2 + y / 2 ^ i % 2) % 2 = 0 := by omega
    rw [e]; omega
theorem cut_all {xs : List V} {n : Int} (h0 : 0 ≤ n) (h : (xs.length : Int) ≤ n) : cutV xs none (some n) = xs := by
  unfold cutV
  have e1 : HT.sIx xs.length 0 none = 0 := rfl
  have e2 : HT.sIx xs.length xs.length (some n) = xs.length := by
    show (if n < 0 then _ else min n.toNat xs.length) = _
    rw [if_neg (by omega)]; omega
  rw [e1, e2, List.drop_zero, Nat.sub_zero, List.take_length]
section
variable {K : PySem.W.Frag} {H : Hp} {nx bk ct : L2.St → Hp → Prop} {rt : VK} {tu : TS}
/-- cells = script[:63] + ms; a loop over its places -/
theorem law1S {a : Addr} {ns ms : List Int} (hS : SqL K H a (ns.map V.int)) (hn : ns.length ≤ 63) (hm : ms.length ≤ 100) {tf tl : TE} {te : TE}
    (hf : ∀ (R : VK), (∀ p, H p = none → R (.ref p) (upd H p (.lst (ns.map V.int)))) → tf [some (.ref a), none, none] H R)
    (hl : ∀ (H1 : Hp) (R : VK), (∀ p, H1 p = none → R (.ref p) (upd H1 p (.lst (ms.map V.int)))) → tl [some (.ref a), none, none] H1 R)
    (he : ∀ (p : Addr) (H1 : Hp) (R : List V → Hp → Prop), SqL K H1 p ((ns ++ ms).map V.int) → R [.int ((ns ++ ms).length : Int)] H1 → tCons te tNil [some (.ref a), some (.ref p), none] H1 R)
    (hb : ∀ (p : Addr) (c : Int) (N : L2.St → Hp → Prop) H1, Same H H1 → SqL K H1 p ((ns ++ ms).map V.int) → 0 ≤ c → c < ((ns ++ ms).length : Int) → (∀ v H2, Same H1 H2 → N [some (.ref a), some (.ref p), v] H2) → tu ⟨N, rt, nx, N⟩ [some (.ref a), some (.ref p), some (.int c)] H1)
    (hd : ∀ p v H1, Same H H1 → nx [some (.ref a), some (.ref p), v] H1) :
    tSeq (tAsg (tOp (rCatS K) tf tl) (gName 1)) (tFor (iRng1 (tCons te tNil)) (gName 2) tu) ⟨nx, rt, bk, ct⟩ [some (.ref a), none, none] H := by
  refine s_seq (s_asg (s_op (hf _ fun f hf => hl _ _ fun p hp => ?_)))
  refine ⟨f, p, ns.map V.int, ms.map V.int, rfl, rfl, (same_upd hp).seq sqU, sqU, (by rw [List.length_map, List.length_map]; exact small63 hn hm), fun q hq => ?_⟩
  rw [← List.map_append]
  have s0 : Same H (upd (upd H f (.lst (ns.map V.int))) p (.lst (ms.map V.int))) := (same_upd hf).trans (same_upd hp)
  have s1 := s0.trans (same_upd (o := .lst ((ns ++ ms).map V.int)) hq)
  have hlen : (ns ++ ms).length ≤ 163 := by rw [List.length_append]; omega
  refine s_forR1 ((ns ++ ms).length : Int) (fun i σ H' => (∃ v, σ = [some (.ref a), some (.ref q), v]) ∧ Same (upd (upd (upd H f (.lst (ns.map V.int))) p (.lst (ms.map V.int))) q (.lst ((ns ++ ms).map V.int))) H') (fun R z => he q _ R sqU z) (by omega) ⟨⟨_, rfl⟩, Same.refl _⟩ (fun i σ' H' hi h => ?_) (fun σ' H' h => ?_)
  · obtain ⟨⟨v, rfl⟩, s2⟩ := h
    exact hb q i _ H' (s1.trans s2) (s2.seq sqU) (by omega) hi fun v H2 s3 => ⟨⟨v, rfl⟩, s2.trans s3⟩
  · obtain ⟨⟨v, rfl⟩, s2⟩ := h
    exact hd q v H' (s1.trans s2)
end
theorem atI_in {ns : List Int} {i : Int} (h1 : -(ns.length : Int) ≤ i) (h2 : i < ns.length) : ∃ z ∈ ns, atI (ns.map V.int) i = some (.int z) := by
  by_cases h : 0 ≤ i
  · have hi : i.toNat < ns.length := by omega
    exact ⟨ns[i.toNat], List.getElem_mem hi, atI_int (List.getElem?_eq_getElem hi) (by omega)⟩
  · have hi : (i + ns.length).toNat < ns.length := by omega
    refine ⟨ns[(i + ns.length).toNat], List.getElem_mem hi, ?_⟩
    unfold atI ixN
    rw [List.length_map, if_neg h, if_pos h1]
    show (ns.map V.int)[(i + ns.length).toNat]? = _
    rw [List.getElem?_map, List.getElem?_eq_getElem hi]; rfl
theorem small15 {n : Nat} (h : n ≤ 15) : n ≤ 100000 := by omega
end Jl

/-! Numbers written as texts. -/
namespace Jl
open PySem L2
def optI : Option Int → V
  | none => .non
  | some n => .int n
def figs (l : List Nat) : List Nat := if l.head? = some 45 then l.tail else l
def valOf (l : List Nat) : Int := if l.head? = some 45 then 0 - (NumText.digitsVal (figs l) : Int) else (NumText.digitsVal (figs l) : Int)
def isFig (c : Nat) : Bool := decide (48 ≤ c ∧ c ≤ 57)
/-- what a text writes -/
def numOf (l : List Nat) (a b : Int) : Option Int :=
  if (1 ≤ (figs l).length ∧ (figs l).length ≤ 10) ∧ ¬ ((figs l).getD 0 0 = 48 ∧ l ≠ [48]) ∧ (figs l).all isFig = true ∧ (a ≤ valOf l ∧ valOf l ≤ b) then some (valOf l) else none
theorem numOf_none {l : List Nat} {a b : Int} (h : ¬ ((1 ≤ (figs l).length ∧ (figs l).length ≤ 10) ∧ ¬ ((figs l).getD 0 0 = 48 ∧ l ≠ [48]) ∧ (figs l).all isFig = true ∧ (a ≤ valOf l ∧ valOf l ≤ b))) : numOf l a b = none := if_neg h
theorem numOf_some {l : List Nat} {a b : Int} (h1 : 1 ≤ (figs l).length ∧ (figs l).length ≤ 10) (h2 : ¬ ((figs l).getD 0 0 = 48 ∧ l ≠ [48])) (h3 : (figs l).all isFig = true) (h4 : a ≤ valOf l ∧ valOf l ≤ b) : numOf l a b = some (valOf l) := if_pos ⟨h1, h2, h3, h4⟩
theorem figures_are : ("0123456789" : Str).cps.toList = [48, 49, 50, 51, 52, 53, 54, 55, 56, 57] := by decide +kernel
theorem fig_iff (c : Nat) : c ∈ ("0123456789" : Str).cps.toList ↔ 48 ≤ c ∧ c ≤ 57 := by
  rw [figures_are]
  simp only [List.mem_cons, List.not_mem_nil, or_false]
  omega
theorem figs_digits {l : List Nat} (h : (figs l).all isFig = true) : NumText.AllDigits (figs l) := fun c hc => of_decide_eq_true (List.all_eq_true.mp h c hc)
theorem dv_snoc (l : List Nat) (c : Nat) : NumText.digitsVal (l ++ [c]) = NumText.digitsVal l * 10 + (c - 48) := by
  unfold NumText.digitsVal
  rw [List.foldl_append]; rfl
theorem take_more {α : Type} {l : List α} {i : Nat} {x : α} (h : l[i]? = some x) : l.take (i + 1) = l.take i ++ [x] := by
  rw [List.take_add_one, h]; rfl
/-- text[:1] == '-' -/
theorem cut1 (z : Str) : (cutS z none (some 1)).cps.toList = z.cps.toList.take 1 := by
  have hl := len_list z
  show (((z.cps.toList.drop (HT.sIx z.length 0 none)).take (HT.sIx z.length z.length (some 1) - HT.sIx z.length 0 none)).toArray).toList = _
  rw [HT.sIx_none, show (some (1 : Int)) = some ((1 : Nat) : Int) from rfl, HT.sIx_nat, List.drop_zero, Nat.sub_zero]
  show (z.cps.toList.take (min 1 z.length)) = _
  rw [← hl, List.take_eq_take_iff]
  omega
theorem cutT (z : Str) : (cutS z (some 1) none).cps.toList = z.cps.toList.tail := by
  have hl := len_list z
  show (((z.cps.toList.drop (HT.sIx z.length 0 (some 1))).take (HT.sIx z.length z.length none - HT.sIx z.length 0 (some 1))).toArray).toList = _
  rw [HT.sIx_none, show (some (1 : Int)) = some ((1 : Nat) : Int) from rfl, HT.sIx_nat]
  show (z.cps.toList.drop (min 1 z.length)).take (z.length - min 1 z.length) = _
  generalize z.cps.toList = l at *
  rw [← hl]
  cases l with
  | nil => rfl
  | cons x r =>
    have e : min 1 (x :: r).length = 1 := by simp only [List.length_cons]; omega
    rw [e]
    show r.take ((x :: r).length - 1) = r
    exact List.take_of_length_le (by simp)
theorem minus_iff (z : Str) : cutS z none (some 1) = "-" ↔ z.cps.toList.head? = some 45 := by
  have e := cut1 z
  have m : ("-" : Str).cps.toList = [45] := by decide +kernel
  constructor
  · intro h
    rw [h, m] at e
    generalize z.cps.toList = l at *
    cases l with
    | nil => cases e
    | cons x r => cases e; rfl
  · intro h
    apply str_ext
    rw [e, m]
    generalize z.cps.toList = l at *
    cases l with
    | nil => cases h
    | cons x r => cases h; rfl
/-- the figures of a text -/
theorem figs_text (z : Str) : (if cutS z none (some 1) = "-" then cutS z (some 1) none else z).cps.toList = figs z.cps.toList := by
  unfold figs
  by_cases h : cutS z none (some 1) = "-"
  · rw [if_pos h, if_pos ((minus_iff z).mp h), cutT]
  · rw [if_neg h, if_neg ((not_congr (minus_iff z)).mp h)]
theorem zero_iff (z : Str) : z = "0" ↔ z.cps.toList = [48] := by
  have m : ("0" : Str).cps.toList = [48] := by decide +kernel
  constructor
  · rintro rfl; exact m
  · intro h; exact str_ext (h.trans m.symm)
theorem empty_iff (z : Str) : z = "" ↔ z.length = 0 := by
  constructor
  · rintro rfl; rfl
  · intro h
    apply str_ext
    have e := List.eq_nil_of_length_eq_zero ((len_list z).trans h)
    rw [e]; rfl
theorem one_is {c d : Nat} {z : Str} (hz : z.cps.toList = [d]) : ((⟨#[c]⟩ : Str) = z) ↔ c = d := by
  constructor
  · intro h
    rw [← h] at hz
    simpa using hz
  · rintro rfl
    exact str_ext hz.symm
def rSindex : V → List V → Hp → VK → Prop := fun x xs H Q => ∃ a b i rest, x = .str a ∧ xs = [.str b] ∧ Builtin.Str.occurrences a b 0 a.length 1 = i :: rest ∧ Q (.int (i : Nat)) H
/-- a text as often as told, some two times or more: a text of some length -/
def rMulS : R2 := fun x y H Q => ∃ z k, x = .str z ∧ y = .int k ∧ 2 ≤ k ∧ k ≤ 1000 ∧ z.length ≤ 10 ∧ ∀ w : Str, w.length ≤ 20000 → Q (.str w) H
section
variable {X : Cx}
theorem mt_sindex1 : MtR X "str.index" rSindex := mt_sindex
theorem fold_len (x : Array Nat) : ∀ (n : Nat) (a : Array Nat), ((List.replicate n x).foldl (· ++ ·) a).size = a.size + n * x.size
  | 0, a => by simp
  | n + 1, a => by
    rw [List.replicate_succ, List.foldl_cons, fold_len x n, Array.size_append, Nat.succ_mul]
    omega
theorem op_mulS : OpR X (binaryOp .Mult) rMulS := by
  intro pins s σ H x y v u Q I rx ry h
  obtain ⟨z, k, rfl, rfl, h1, h2, hz, q⟩ := h
  obtain ⟨t, rfl⟩ := rx
  obtain ⟨t', rfl⟩ := ry
  have hm : z.length * k.toNat ≤ 10000 := Nat.le_trans (Nat.mul_le_mul hz (show k.toNat ≤ 1000 by omega)) (by decide)
  have hline : (sizeLine : Nat) = 16777216 := sizeLine_eq
  have hfit : z.length * k.toNat ≤ sizeLine := by omega
  refine PySem.P.mul_str ?_ (fun _ _ => ?_) (fun _ _ => ?_) ?_
  · rw [decide_eq_false (by omega), decide_eq_false (by omega)]; rfl
  · have h4 : 100 ≤ ((2 : Int) ^ 63 - 1) / k := Int.le_ediv_of_mul_le (by omega) (by omega)
    omega
  · unfold Builtin.Str.tooLong
    exact decide_eq_false (by omega)
  · rw [if_neg (by omega)]
    split
    · exact ⟨.str z, H, I, ⟨_, rfl⟩, q z (by omega)⟩
    · have hw : (⟨(List.replicate k.toNat z.cps).foldl (· ++ ·) #[]⟩ : Str).length ≤ 10000 := by
        show ((List.replicate k.toNat z.cps).foldl (· ++ ·) #[]).size ≤ 10000
        rw [fold_len]
        have e0 : (#[] : Array Nat).size = 0 := rfl
        have e : z.cps.size = z.length := rfl
        rw [e0, e, Nat.mul_comm]
        omega
      exact ⟨by omega, ⟨.str _, H, I.tok _, ⟨_, rfl⟩, q _ (by omega)⟩⟩
end
section
variable {K : PySem.W.Frag} {σ : L2.St} {H H' : Hp} {Q : VK} {z w : Str} {c : Nat}
theorem s_index {i : Nat} {rest : List Nat} (h : Builtin.Str.occurrences z w 0 z.length 1 = i :: rest) (k : Q (.int (i : Nat)) H) : rSindex (.str z) [.str w] H Q := ⟨z, w, i, rest, rfl, rfl, h, k⟩
theorem fig_index (h : 48 ≤ c ∧ c ≤ 57) : Builtin.Str.occurrences ("0123456789" : Str) ⟨#[c]⟩ 0 ("0123456789" : Str).length 1 = [c - 48] := by
  have : c = 48 ∨ c = 49 ∨ c = 50 ∨ c = 51 ∨ c = 52 ∨ c = 53 ∨ c = 54 ∨ c = 55 ∨ c = 56 ∨ c = 57 := by omega
  rcases this with rfl | rfl | rfl | rfl | rfl | rfl | rfl | rfl | rfl | rfl <;> decide +kernel
theorem s_figIndex (h : 48 ≤ c ∧ c ≤ 57) (k : Q (.int ((c - 48 : Nat) : Int)) H) : rSindex (.str ("0123456789" : Str)) [.str ⟨#[c]⟩] H Q := s_index (fig_index h) k
theorem s_tyS {B : Prop} (k : B) : tyV K "str" (.str z) H ∧ B := ⟨rfl, k⟩
end
theorem cut_last (z : Str) : (cutS z (some (-1)) none).length ≤ 1 := by
  have hl := len_list z
  rw [← len_list]
  show (((z.cps.toList.drop (HT.sIx z.length 0 (some (-1)))).take (HT.sIx z.length z.length none - HT.sIx z.length 0 (some (-1)))).toArray).toList.length ≤ 1
  have e : HT.sIx z.length 0 (some (-1)) = ((-1 : Int) + z.length).toNat := rfl
  rw [e, HT.sIx_none]
  show ((z.cps.toList.drop ((-1 : Int) + z.length).toNat).take (z.length - ((-1 : Int) + z.length).toNat)).length ≤ 1
  rw [List.length_take, List.length_drop, hl]
  omega
theorem log_ok {n : Int} (h1 : -(10 ^ 11) ≤ n) (h2 : n ≤ 10 ^ 11) : n.natAbs.log2 < 1920 := by
  by_cases z : n.natAbs = 0
  · rw [z]; decide
  · exact Nat.lt_of_lt_of_le ((Nat.log2_lt (k := 40) z).mpr (by omega)) (by decide)
end Jl

/-! Exceptions that were caught and are held as values behind their clause. -/
namespace Jl
open PySem L2 PySem.Spec PyProof.Rows
/-- an exception, of class cls and with the dict d, held as a value -/
def XO (cls : Value) (d : Option Addr) (a : Addr) : HO := .ext fun h => ∃ u fl, h.get? a = some u ∧ Zc cls d u ∧ u.data = .fields fl
theorem xo_ok {P : Program} {w : World} {H : Hp} {h : Heap} {a : Addr} {cls : Value} {d : Option Addr} {u : Obj} {fl : Array Value} (e : h.get? a = some u) (z : Zc cls d u) (f : u.data = .fields fl) : ObjOk P w H h a (XO cls d a) :=
  ⟨⟨u, fl, e, z, f⟩, ⟨u, e⟩, fun _ _ ⟨u, fl, e, r⟩ k => ⟨u, fl, k u e, r⟩⟩
section
variable {X : Cx} {pins : List (Addr × Obj)} {σ : L2.St} {H : Hp} {s : Shared} {a : Addr} {o : HO}
/-- an object that stands, of which nothing was told, is told of -/
theorem track (I : Inv X pins σ H s) (n0 : X.s_0.heap.get? a = none) (hn : H a = none) (nL : a ≠ X.env.locals) (nC : ∀ y z, X.env.cells.lookup y = some z → z ≠ a) (nP : ∀ p ∈ X.pn ++ pins, p.1 ≠ a)
    (new : ObjOk X.prog X.w (upd H a o) s.heap a o) : Inv X pins σ (upd H a o) s := by
  have old : ∀ z u, X.s_0.heap.get? z = some u → z ≠ a := fun z u e q => by rw [q, n0] at e; cases e
  have far : ∀ z {u}, H z = some u → upd H a o z = some u := fun z {u} e => by rw [upd_ne (ne_of_none e hn)]; exact e
  refine { ok := I.ok, os := I.os, bare := I.bare, base := ?_, loc := I.loc, cell := I.cell, free := ?_, freeC := ?_, pin := ?_, hok := I.hok.laidN (fun _ _ z => z) hn new, len := I.len }
  · refine { keep := I.base.keep, slot := I.base.slot, there := I.base.there, free := ?_, tups := ?_, frzs := ?_, tbls := ?_ }
    · intro z u e n q
      rw [upd_ne (old z u e)]
      exact I.base.free z u e n q
    · intro z xs e
      exact far z (I.base.tups z xs e)
    · intro z u xs e
      exact far z (I.base.frzs z u xs e)
    · intro z ps e
      obtain ⟨m, q⟩ := I.base.tbls z ps e
      exact ⟨m, far z q⟩
  · rw [upd_ne nL.symm]; exact I.free
  · intro y z e
    rw [upd_ne (nC y z e)]
    exact I.freeC y z e
  · intro p hp
    obtain ⟨e, n, r⟩ := I.pin p hp
    exact ⟨e, by rw [upd_ne (nP p hp)]; exact n, r⟩
end
/-- the ends behind the clause: its name is gone, the exception is told of -/
def outE (i : Nat) (a : Addr) (cls : Value) (d : Option Addr) (D : Ends) : Ends where
  nx := fun σ H => D.nx (σ.set i none) (upd H a (XO cls d a))
  rt := fun v H => D.rt v (upd H a (XO cls d a))
  bk := fun σ H => D.bk (σ.set i none) (upd H a (XO cls d a))
  ct := fun σ H => D.ct (σ.set i none) (upd H a (XO cls d a))
/-- what the clause 'except x as n' wishes of an exception (n at slot i) that is to be held behind it -/
def wOut (K : PySem.W.Frag) (c : Value) (i : Nat) (ts : Addr → Value → Option Addr → TS) (Wo : WX) (D : Ends) : WX := fun cls d σ H =>
  ∃ yn, PySem.W.exmOne K cls c = some yn ∧ (yn = true → ∀ a, H a = none → ts a cls d (outE i a cls d D) (σ.set i (some (.ref a))) H) ∧ (yn = false → Wo cls d σ H)
/-- the clauses are looked at -/
def looked (X : Cx) (hds : List ExceptHandler) (S : Flow → Shared → Prop) (e : Value) (t : Shared) : Prop :=
  wpAny (model X.prog X.w) X.A (noteFrame e X.env) (fun _ t2 => wpAny (model X.prog X.w) X.A (setFlight e none) (fun _ t3 => wpAny (model X.prog X.w) X.A (handleBy e X.env hds) S X.xe t3) X.xe t2) X.xe t
section
variable {X : Cx} {x n : Str} {c : Value} {i : Nat} {body suite : List Stmt} {st0 : Stmt} {q1 q2 q3 : Pos} {tb : WX → TS} {ts : Addr → Value → Option Addr → TS} {Wo : WX}
theorem ps_caught (stk : X.stack = X.env :: X.outer) (frm : X.env.frame = some X.env.locals) (hex : X.ex = []) (nod : X.N.Nodup) (ix : X.N[i]? = some n) (loc : X.env.kindOf n = some .local) (nm : Names X x c) (tk : Takes X Wo)
    (hb : ∀ (W : WX) (pl : List (Addr × Obj)) (xe : Value → Shared → Prop), Takes (X.tr pl xe) W → PassesOwn (model X.prog X.w) X.A X.env xe → PSs (X.tr pl xe) body (tb W))
    (hu : ∀ (a : Addr) (u : Obj) (cls : Value) (d : Option Addr) (pl : List (Addr × Obj)), Zc cls d u → (∃ fl, u.data = .fields fl) → PSs (X.suite a ((a, u) :: pl)) (st0 :: suite) (ts a cls d)) :
    PS X (.Try body [.ExceptHandler (some (.Name x q1)) (some n) (st0 :: suite) q2] [] [] q3) (fun D σ H => tb (wOut X.K c i ts Wo D) D σ H) := by
  constructor
  intro pins s σ H D I h
  have frames : X.A.frames = some (X.env :: X.outer) := I.ok.frames.trans (congrArg some stk)
  have here : Loc X.env.scope n := Or.inl loc
  have catch_ : Takes (X.tr (X.pn ++ pins) (looked X [.ExceptHandler (some (.Name x q1)) (some n) (st0 :: suite) q2] (SP X pins D))) (wOut X.K c i ts Wo D) := by
    rintro w t ⟨a, B, tI, pl, σ1, H1, cls, d, rfl, J0, nb, up, sky, na, os, ag, yn, exm, yes, no⟩
    have J : Inv X pins σ1 H1 tI := J0.ofTry I.ok
    replace sky : Sky B (X.env :: X.outer) a (Zc cls d) X.env.locals t.heap := stk ▸ sky
    show wpAny (model X.prog X.w) X.A (noteFrame (.ref a) X.env) _ _ _
    refine Sky.land Zc.steady frames frm sky fun h3 F3 up3 => ?_
    have G3 : Inv X pins σ1 H1 { t with heap := h3 } := J.landed nb F3.1 (up.trans up3) os ag
    obtain ⟨u3, fl3, get3, z3, dat3⟩ := F3.there
    have away : a ∉ frs (X.env :: X.outer) := fun hm => by
      obtain ⟨_, u, e, nf⟩ := F3.2.2.1.mem hm
      cases get3.symm.trans e
      exact nf _ dat3
    have noL : a ≠ X.env.locals := fun z => away (List.mem_filterMap.mpr ⟨X.env, List.mem_cons_self, by rw [z]; exact frm⟩)
    have noF : a ∉ X.fs := fun hm => by
      obtain ⟨e, he, q⟩ := List.mem_filterMap.mp hm
      exact away (List.mem_filterMap.mpr ⟨e, List.mem_cons_of_mem _ he, q⟩)
    -- the exception is new to the state without it
    have lone : tI.heap.get? a = none := by
      cases e : tI.heap.get? a with
      | none => rfl
      | some u =>
        have q := nb a u e (by rw [stk]; exact away)
        rw [F3.2.1] at q; cases q
    have n0 : X.s_0.heap.get? a = none := by
      cases e : X.s_0.heap.get? a with
      | none => rfl
      | some u =>
        obtain ⟨u', q⟩ := J.base.there a u e (by rw [hex]; exact fun z => nomatch z)
        rw [lone] at q; cases q
    have apart : ∀ p ∈ X.pn ++ pins, p.1 ≠ a := fun p hp z => by
      have q := (J.pin p hp).1
      rw [z, lone] at q; cases q
    have T3 := G3.suite get3 dat3 na noL noF
    refine wpAny_handleBy_cons (codeAny_handlers_test ?_) (by intro z; cases z)
    have ty : PySem.W.Looks (model X.prog X.w) h3 (typeOf (.ref a)) cls := fun _ _ _ _ k q => wpAny_typeOf_ref (k _ _ get3) (z3.1.symm ▸ q)
    have matches_ := PySem.W.exm_one (M := model X.prog X.w) G3.kIn ty exm
    have asked : ∀ {Q E : Value → Shared → Prop}, Q c { t with heap := h3 } → wpAny (model X.prog X.w) (X.A.mark (some (.ref a))) (eval (.Name x q1) X.env) Q E { t with heap := h3 } := by
      intro Q E q
      rcases nm with ⟨gl, db, mg | ⟨mg, bl, nn⟩⟩
      · exact ld_glob T3 gl mg q db
      · exact ld_blt T3 gl mg bl q nn db
    refine asked (matches_.here ?_)
    cases yn with
    | false =>
      show wpAny _ X.A (handleBy (.ref a) X.env []) _ _ _
      refine wpAny_handleBy_nil ?_
      obtain ⟨_, _, _, _, _, T, _, _, e, _, f, f1, _⟩ := id F3
      unfold PySem.passOn
      refine wpAny_bind (wpAny_field e f f1 ?_)
      rw [if_neg (by simp)]
      have fly : wpAny (model X.prog X.w) X.A (setFlight (.ref a) X.env.frame) (fun _ t4 => wpAny (model X.prog X.w) X.A (throw (.ref a) : Sem Flow) (SP X pins D) X.xe t4) X.xe { t with heap := h3 } := by
        rw [frm]
        exact HandSPX.setFlight_upZ F3 fun h4 F4 up4 => wpAny_throw (tk _ _ ⟨a, B, tI, pins, σ1, H1, cls, d, rfl, J, nb, (up.trans up3).trans up4, .inr (.inr (stk ▸ F4)), na, os, ag, no rfl⟩)
      first
        | exact wpAny_bind (wpAny_pure (wpAny_bind fly))
        | exact wpAny_bind fly
    | true =>
      refine codeAny_handlers_suite_as (HandSPX.lands_againZ F3 fun h4 F4 up4 => ?_)
      have G4 : Inv X pins σ1 H1 { t with heap := h4 } := J.landed nb F4.1 ((up.trans up3).trans up4) os ag
      obtain ⟨u4, fl4, get4, z4, dat4⟩ := F4.there
      have T4 := G4.suite get4 dat4 na noL noF
      refine store_ok (X := X.suite a ((a, u4) :: (X.pn ++ pins))) (v := .ref a) T4 nod ix here rfl (fun t5 T5 => ?_) (Or.inr loc)
      refine wpAny_mono ((hu a u4 cls d (X.pn ++ pins) z4 ⟨_, dat4⟩).run [] t5 _ H1 _ T5 (yes rfl a na)) (fun f t6 r => ?_) (fun _ _ z => z.elim)
      have leave : ∀ {σ6 : L2.St} {H6 : Hp} {Q : Shared → Prop}, Inv (X.suite a ((a, u4) :: (X.pn ++ pins))) [] σ6 H6 t6 → (∀ t7, Inv X pins (σ6.set i none) (upd H6 a (XO cls d a)) t7 → Q t7) →
          wpAny (model X.prog X.w) X.A (do bindName X.env n .none; unbindBehindTheSuite X.env n q2) (fun _ t7 => Q t7) X.xe t6 := by
        intro σ6 H6 Q T6 hq
        obtain ⟨e6, n6, _⟩ := T6.pin (a, u4) (List.mem_append_left _ List.mem_cons_self)
        have cells : ∀ y z, X.env.cells.lookup y = some z → z ≠ a := fun y z e q => by
          obtain ⟨v, ob, e7, dc⟩ := T6.cell y z e
          rw [q] at e7
          cases e6.symm.trans e7
          rw [dat4] at dc; cases dc
        exact gone_ok (track (T6.unsuite I.ok) n0 n6 noL cells apart (xo_ok e6 z4 dat4)) nod ix loc hq
      cases f with
      | next => exact let ⟨σ6, H6, T6, q⟩ := r; leave T6 fun t7 J7 => ⟨_, _, J7, q⟩
      | brk => exact let ⟨σ6, H6, T6, q⟩ := r; leave T6 fun t7 J7 => ⟨_, _, J7, q⟩
      | cont => exact let ⟨σ6, H6, T6, q⟩ := r; leave T6 fun t7 J7 => ⟨_, _, J7, q⟩
      | ret v => exact let ⟨v6, σ6, H6, T6, rv, q⟩ := r; leave T6 fun t7 J7 => ⟨_, _, _, J7, rv, q⟩
  refine wpAny_Try_except (wpAny_mono ((hb (wOut X.K c i ts Wo D) (X.pn ++ pins) _ catch_ PassesOwn.looking).run [] s σ H D (I.toTry _) h) (fun f t r => ?_) fun _ _ z => z)
  cases f with
  | next => exact let ⟨σ6, H6, T6, q⟩ := r; wpAny_execs_nil ⟨σ6, H6, T6.ofTry I.ok, q⟩
  | brk => exact let ⟨σ6, H6, T6, q⟩ := r; ⟨σ6, H6, T6.ofTry I.ok, q⟩
  | cont => exact let ⟨σ6, H6, T6, q⟩ := r; ⟨σ6, H6, T6.ofTry I.ok, q⟩
  | ret v => exact let ⟨v6, σ6, H6, T6, rv, q⟩ := r; ⟨v6, σ6, H6, T6.ofTry I.ok, rv, q⟩
end
/-! isinstance and fields of such -/
/-- the exception's dict, if it has one, is told of -/
def XD (H : Hp) (d : Option Addr) : Prop := ∀ b, d = some b → ∃ fs, H b = some (.xd fs)
theorem xd_none {H : Hp} : XD H none := fun _ z => nomatch z
theorem xd_some {H : Hp} {b : Addr} {fs : List (Str × V)} (h : H b = some (.xd fs)) : XD H (some b) := fun c z => by cases z; exact ⟨fs, h⟩
theorem xo_inst {X : Cx} {pins : List (Addr × Obj)} {σ : L2.St} {H : Hp} {s : Shared} {a D : Addr} {d : Option Addr} (I : Inv X pins σ H s) (h : H a = some (XO (.ref D) d a)) (hd : XD H d) : ∃ u od, PySem.W.InstAt s.heap a u D od := by
  obtain ⟨⟨u, fl, e, z, f⟩, _, _⟩ := I.hok a _ h
  have nc : PySem.W.notCls u = true := by unfold PySem.W.notCls; rw [f]
  cases d with
  | none => exact ⟨u, none, e, z.1, nc, by rw [z.2]; trivial⟩
  | some b =>
    obtain ⟨fs, hb⟩ := hd b rfl
    obtain ⟨m, ns, _⟩ := I.hok b _ hb
    obtain ⟨o, ho, _⟩ := lookIn_ns ns
    exact ⟨u, some o, e, z.1, nc, by rw [z.2]; exact ho⟩
/-- isinstance(x, c), x such an exception -/
def rIsX (K : PySem.W.Frag) : List V → Hp → VK → Prop := fun xs H Q => ∃ (a D : Addr) (d : Option Addr) (c : V) (cv : Value) (yn : Bool), xs = [.ref a, c] ∧ H a = some (XO (.ref D) d a) ∧ XD H d ∧ ExcC K D ∧ ClsV c cv ∧ PySem.W.kitOne K (.ref D) cv = some yn ∧ Q (.bl yn) H
/-- isinstance(x, (c1, c2, ..)), x such an exception -/
def rIsXT (K : PySem.W.Frag) : List V → Hp → VK → Prop := fun xs H Q => ∃ (a D : Addr) (d : Option Addr) (tp : Addr) (cs : List V) (cvs : List Value) (yn : Bool), xs = [.ref a, .ref tp] ∧ H a = some (XO (.ref D) d a) ∧ XD H d ∧ ExcC K D ∧
  H tp = some (.tup cs) ∧ Paired ClsV cs cvs ∧ PySem.W.kitAny K (.ref D) cvs = some yn ∧ Q (.bl yn) H
theorem kit_x {K : PySem.W.Frag} {a D : Addr} {u : Obj} {od : Option Obj} (C : ExcC K D) : PySem.W.KitX K (.ref a) (.ref D) (fun h => PySem.W.InstAt h a u D od) := by
  refine PySem.W.kitx_exc ?_ C.hg C.hk C.hs C.ha C.hn C.ht C.hm
  obtain ⟨cd, e, _⟩ := PySem.W.any_some C.hd
  rw [e]; rfl
section
variable {X : Cx}
theorem cl_isX : CallR X (.builtin "isinstance") (rIsX X.K) := by
  intro pins s σ H xs us Q I r h
  obtain ⟨a, D, d, c, cv, yn, rfl, ha, hd, C, k, e, q⟩ := h
  obtain ⟨w1, w2, rfl, r1, r2⟩ := vals2 r
  cases k.eq r2
  cases (show w1 = Value.ref a from r1)
  obtain ⟨u, od, J⟩ := xo_inst I ha hd
  exact PySem.W.kia_one (kit_x C) I.kIn J e (fun z => nomatch z) fun tk => ⟨.bl yn, H, I.tok tk, rfl, q⟩
theorem cl_isXT : CallR X (.builtin "isinstance") (rIsXT X.K) := by
  intro pins s σ H xs us Q I r h
  obtain ⟨a, D, d, tp, cs, cvs, yn, rfl, ha, hd, C, ht, k, e, q⟩ := h
  obtain ⟨w1, w2, rfl, r1, r2⟩ := vals2 r
  cases (show w1 = Value.ref a from r1)
  cases (show w2 = Value.ref tp from r2)
  obtain ⟨u, od, J⟩ := xo_inst I ha hd
  obtain ⟨_, its, rv, ob, get, c1, n, c2⟩ := I.hok tp _ ht
  cases ClsV.all k rv
  obtain ⟨oc, odd, dt, sl⟩ := ob
  dsimp only at c1 c2
  subst c1 c2
  exact PySem.W.kia_tup (kit_x C) I.kIn J get e (fun z => nomatch z) fun tk => ⟨.bl yn, H, I.tok tk, rfl, q⟩
/-- x.f, x such an exception -/
def tXA (K : PySem.W.Frag) (f : Str) (te : TE) : TE := fun σ H Q => te σ H fun x H1 => ∃ (a D b : Addr) (fs : List (Str × V)) (v : V), x = .ref a ∧ H1 a = some (XO (.ref D) (some b) a) ∧ H1 b = some (.xd fs) ∧ fs.lookup f = some v ∧ XfC K D ∧ PySem.W.findIn K (.ref D) f = some none ∧ Q v H1
theorem pe_xa {e : Expr} {te : TE} {f : Str} {pos : Pos} (he : PE X e te) (hb : attributeBase e f X.env (eval e X.env) = eval e X.env := by rfl) : PE X (.Attribute e f pos) (tXA X.K f te) := by
  constructor
  intro pins s σ H Q I h
  refine attr_of hb (thn (he.run pins s σ H _ I h) fun u s1 z => ?_)
  obtain ⟨x, H1, I1, rx, a, D, b, fs, v, rfl, ha, hb, l, C, no, q⟩ := z
  cases (show u = Value.ref a from rx)
  obtain ⟨⟨u, fl, e, z, f⟩, _, _⟩ := I1.hok a _ ha
  obtain ⟨m, ns, rel⟩ := I1.hok b _ hb
  obtain ⟨o, ho, look⟩ := lookIn_ns ns
  have rl := rel ‹Str›
  rw [l] at rl
  obtain ⟨w, mw, rw_⟩ := RelO.some_of rl
  have J : PySem.W.InstAt s1.heap a u D (some o) := ⟨e, z.1, by unfold PySem.W.notCls; rw [f], by rw [z.2]; exact ho⟩
  exact HandSPX.exc_get I1.kIn J C.ga C.gg C.exC (PySem.W.findObj_own C.hdC no rfl (by rw [look, mw])) (handed_of rw_) ⟨v, H1, I1.tok _, rw_, q⟩
end
/-! calls of methods that may let an exception out, at the slots as they stand -/
def tMethX (C : Addr) (m : Str) (sp : Sp) (E : L2.St → XK) (ta : TE) (t : TA) : TE := fun σ H Q => ta σ H fun x H1 => ∃ a dx fs, x = .ref a ∧ H1 a = some (.ins C dx fs) ∧ fs.lookup m = none ∧ t σ H1 fun vs H2 => sp (.ref a :: vs) H2 Q (E σ)
section
variable {X : Cx} {Y : CXT} {k : Nat} {f C : Addr} {fd : FuncData} {ps : List Str} {sp : Sp} {E : L2.St → XK} {x m : Str} {p pos apos : Pos} {e o : Expr} {es : List Expr} {ta : TE} {t : TA} {pl : Sem Bool}
theorem pe_methX (he : PE X o ta) (c : Cls X.K C) (hm : Meth X.K C m f) (F : FnOk X.prog X.w X.K X.mg X.base Y k f fd ps sp) (hr : Room k X.A) (hb : Binds X.K fd ps []) (hx : ∀ σ, PassesAt Y X σ (E σ)) (ha : PA X (e :: es) t)
    (h1 : starEach (e :: es) X.env = (false, eval e X.env) :: starEach es X.env := by rfl) (h2 : (backTo pos (starEach es X.env)).any (·.1) = false := by rfl)
    (h3 : eval (.Call (.Attribute o m apos) (e :: es) [] pos) X.env = (do let v ← eval o X.env; standAt apos.atName; let (g, u) ← holding [v] (getMethod v m pl); callWith pos g u (backTo pos (starEach (e :: es) X.env)) (backToKw pos (keywordEach [] X.env))) := by rfl) :
    PE X (.Call (.Attribute o m apos) (e :: es) [] pos) (tMethX C m sp E ta t) := by
  constructor
  intro pins s σ H Q I h
  refine PySem.W.methodCall_KW (pl := pl) (thn (he.run pins s σ H _ I h) fun u t1 z => ?_) h3
  obtain ⟨y, H1, I1, ry, a, dx, fs, rfl, at_, no, z⟩ := z
  cases (show u = Value.ref a from ry)
  refine getmeth_ok I1 at_ c hm no (PySem.W.callWith_K (first := [.ref a]) (h₀ := X.base) I.ok.mod.kin hm.kp (thn (ha.run pos pins t1 σ H1 _ I1 z) fun us t2 y => ?_) h1 h2)
  obtain ⟨vs, H2, I2, r, q⟩ := y
  exact ⟨I2.kIn, run_fnS (us := .ref a :: us) (vs := .ref a :: vs) F hr hb (hx σ) I2 (.cons rfl r) q⟩
theorem pe_methX0 (he : PE X o ta) (c : Cls X.K C) (hm : Meth X.K C m f) (F : FnOk X.prog X.w X.K X.mg X.base Y k f fd ps sp) (hr : Room k X.A) (hb : Binds X.K fd ps []) (hx : ∀ σ, PassesAt Y X σ (E σ))
    (h3 : eval (.Call (.Attribute o m apos) [] [] pos) X.env = (do let v ← eval o X.env; standAt apos.atName; let (g, u) ← holding [v] (getMethod v m pl); callWith pos g u (backTo pos (starEach [] X.env)) (backToKw pos (keywordEach [] X.env))) := by rfl) :
    PE X (.Call (.Attribute o m apos) [] [] pos) (tMethX C m sp E ta tNil) := by
  constructor
  intro pins s σ H Q I h
  refine PySem.W.methodCall_KW (pl := pl) (thn (he.run pins s σ H _ I h) fun u t1 z => ?_) h3
  obtain ⟨y, H1, I1, ry, a, dx, fs, rfl, at_, no, z⟩ := z
  cases (show u = Value.ref a from ry)
  exact getmeth_ok I1 at_ c hm no (PySem.W.callWith_K0 (first := [.ref a]) I1.kIn hm.kp (run_fnS (us := [.ref a]) (vs := [.ref a]) F hr hb (hx σ) I1 (.cons rfl .nil) z))
theorem pe_callX0 (F : FnOk X.prog X.w X.K X.mg X.base Y k f fd ps sp) (hr : Room k X.A) (hg : Gl X x) (hm : X.mg x = some (.ref f)) (hk : PySem.W.keepIn X.K (.ref f) = true) (hb : Binds X.K fd ps []) (hx : ∀ σ, PassesAt Y X σ (E σ))
    (hd : (x == ("__debug__" : Str)) = false := by decide) : PE X (.Call (.Name x p) [] [] pos) (tCallS sp E tNil) := by
  constructor
  intro pins s σ H Q I h
  exact wpAny_Call_Name_kw (ld_glob I hg hm (PySem.W.callWith_K0 I.kIn hk (run_fnS (us := []) F hr hb (hx σ) I .nil h)) hd)
end
/-! steps -/
section
variable {K : PySem.W.Frag} {σ : L2.St} {H : Hp} {Q : VK} {ta te : TE} {tr t : TA} {sp : Sp} {E : L2.St → XK} {a b C D dx : Addr} {d : Option Addr} {fs : List (Str × V)} {f m : Str} {v c : V} {cv : Value} {yn : Bool} {cs : List V} {cvs : List Value} {W : WX}
theorem s_callS (z : t σ H fun vs H1 => sp vs H1 Q (E σ)) : tCallS sp E t σ H Q := z
theorem s_methX (hv : ∀ R : VK, R (.ref a) H → ta σ H R) (h : H a = some (.ins C dx fs)) (hm : fs.lookup m = none) (z : tr σ H fun vs H2 => sp (.ref a :: vs) H2 Q (E σ)) : tMethX C m sp E ta tr σ H Q := hv _ ⟨a, dx, fs, rfl, h, hm, z⟩
theorem s_isX (h : H a = some (XO (.ref D) d a)) (hd : XD H d) (C : ExcC K D) (hc : ClsV c cv) (e : PySem.W.kitOne K (.ref D) cv = some yn) (z : Q (.bl yn) H) : rIsX K [.ref a, c] H Q := ⟨a, D, d, c, cv, yn, rfl, h, hd, C, hc, e, z⟩
theorem s_isXT (h : H a = some (XO (.ref D) d a)) (hd : XD H d) (C : ExcC K D) (ht : H b = some (.tup cs)) (hc : Paired ClsV cs cvs) (e : PySem.W.kitAny K (.ref D) cvs = some yn) (z : Q (.bl yn) H) : rIsXT K [.ref a, .ref b] H Q := ⟨a, D, d, b, cs, cvs, yn, rfl, h, hd, C, ht, hc, e, z⟩
theorem s_xa (h : H a = some (XO (.ref D) (some b) a)) (hb : H b = some (.xd fs)) (l : fs.lookup f = some v) (C : XfC K D) (no : PySem.W.findIn K (.ref D) f = some none) (hv : ∀ R : VK, R (.ref a) H → te σ H R) (z : Q v H) : tXA K f te σ H Q :=
  hv _ ⟨a, D, b, fs, v, rfl, h, hb, l, C, no, z⟩
end
/-- a class of which none of some is an ancestor -/
theorem kitNone {K : PySem.W.Frag} {t : Value} : ∀ {cs : List Value}, (∀ c ∈ cs, PySem.W.kitOne K t c = some false) → PySem.W.kitAny K t cs = some false
  | [], _ => rfl
  | c :: cs, h => by
    unfold PySem.W.kitAny
    rw [h c List.mem_cons_self]
    exact kitNone fun z hz => h z (List.mem_cons_of_mem _ hz)
theorem own_all : ∀ l : List Addr, Paired ClsV (l.map V.ref) (l.map Value.ref)
  | [] => .nil
  | a :: l => .cons (.own a) (own_all l)
theorem kit_own {K : PySem.W.Frag} {D C : Addr} {yn : Bool} (hne : yn = false → D ≠ C) (hd : PySem.W.hasDictIn K C = true) (ht : PySem.W.typeIn K (.ref C) = some (.type "type")) (hs : PySem.W.subIn K (.ref D) (.ref C) = some yn) : PySem.W.kitOne K (.ref D) (.ref C) = some yn := by
  unfold PySem.W.kitOne
  by_cases e : D = C
  · rw [if_pos (by rw [e]; simp)]
    cases yn with
    | true => rfl
    | false => exact absurd e (hne rfl)
  · rw [if_neg (by simpa using e)]
    obtain ⟨cd, hc, _⟩ := PySem.W.any_some hd
    show (if _ then PySem.W.subIn K (.ref D) (.ref C) else none) = _
    rw [if_pos (by rw [hc, ht]; rfl)]
    exact hs
/-! one of several readings -/
def tEi (t u : TE) : TE := fun σ H Q => t σ H Q ∨ u σ H Q
theorem pe_ei {X : Cx} {e : Expr} {t u : TE} (h1 : PE X e t) (h2 : PE X e u) : PE X e (tEi t u) := ⟨fun pins s σ H Q I h => h.elim (h1.run pins s σ H Q I) (h2.run pins s σ H Q I)⟩
section
variable {K : PySem.W.Frag} {σ : L2.St} {H : Hp} {Q : VK} {t u te to : TE} {a p C dx : Addr} {fs : List (Str × V)} {cv : Value} {yn : Bool} {z : Str} {xs : List V} {ys : List Str}
theorem s_ei1 (h : t σ H Q) : tEi t u σ H Q := .inl h
theorem s_ei2 (h : u σ H Q) : tEi t u σ H Q := .inr h
theorem s_isiO (h : H p = some (.ins C dx fs)) (c : Cls K C) (ha : PySem.W.findIn K (.ref C) "__class__" = some (some (.builtin "object.__class__"))) (hn : PySem.W.specialIn K (.builtin "object.__class__") "__get__" = some (some (.builtin "getset_descriptor.__get__")))
    (ht : PySem.W.takesIn K (.builtin "object.__class__") = some true) (hm : PySem.W.mroIn K C (.type "object") = some true) {D : Addr} (e : PySem.W.kitOne K (.ref C) (.ref D) = some yn) (k : Q (.bl yn) H) : rIsi K [.ref p, .ref D] H Q :=
  ⟨_, _, _, _, yn, rfl, .own D, .base (.ins h c ha hn ht hm), e, k⟩
end
/-! join -/
def rJoin (K : PySem.W.Frag) : V → List V → Hp → VK → Prop := fun x xs H Q => ∃ a p, ∃ ys : List Str, x = .str a ∧ xs = [.ref p] ∧ (SqL K H p (ys.map V.str) ∨ SqT K H p (ys.map V.str)) ∧ (ys.map (·.length)).sum + ys.length * a.length ≤ 16777216 ∧ Q (.str (Txt.join a ys)) H
theorem mt_joinS {X : Cx} : MtR X "str.join" (rJoin X.K) := mt_join
theorem s_tM1 {σ : L2.St} {H : Hp} {Q : VK} {to te : TE} {r : V → List V → Hp → VK → Prop} {a : Str} (hv : ∀ R : VK, R (.str a) H → to σ H R) (z : te σ H fun y H2 => r (.str a) [y] H2 Q) : tM1 r to te σ H Q := hv _ ⟨⟨a, rfl⟩, z⟩
theorem s_join {K : PySem.W.Frag} {H : Hp} {Q : VK} {a : Str} {p : Addr} {ys : List Str} (h : SqL K H p (ys.map V.str)) (hl : (ys.map (·.length)).sum + ys.length * a.length ≤ 16777216) (z : ∀ w, w = Txt.join a ys → Q (.str w) H) : rJoin K (.str a) [.ref p] H Q := ⟨a, p, ys, rfl, rfl, .inl h, hl, z _ rfl⟩
theorem sum_le {m : Nat} : ∀ l : List Nat, (∀ x ∈ l, x ≤ m) → l.sum ≤ m * l.length
  | [], _ => by simp
  | x :: l, h => by
    have h1 := h x List.mem_cons_self
    have h2 := sum_le l fun y hy => h y (List.mem_cons_of_mem _ hy)
    rw [List.sum_cons, List.length_cons, Nat.mul_succ]
    omega
theorem s_outN {i : Nat} {a : Addr} {cls : Value} {d : Option Addr} {nx bk ct : L2.St → Hp → Prop} {rt : VK} {σ : L2.St} {H : Hp} (z : nx (σ.set i none) (upd H a (XO cls d a))) : (outE i a cls d ⟨nx, rt, bk, ct⟩).nx σ H := z
/-- an if whose test makes objects; the ways are joined -/
theorem s_ifKh {nx bk ct : L2.St → Hp → Prop} {rt : VK} {tt : TT} {ts tu : TS} {P : Prop} {σ : L2.St} {H : Hp} (M : L2.St → Hp → Prop) (ht : ∀ T : Bool → Hp → Prop, (∀ H', Same H H' → P → T true H') → (∀ H', Same H H' → ¬ P → T false H') → tt σ H T)
    (h1 : P → ∀ (H1 : Hp) (N : L2.St → Hp → Prop), Same H H1 → (∀ σ' H', M σ' H' → N σ' H') → ts ⟨N, rt, bk, ct⟩ σ H1) (h2 : ¬ P → ∀ (H1 : Hp) (N : L2.St → Hp → Prop), Same H H1 → (∀ σ' H', M σ' H' → N σ' H') → tu ⟨N, rt, bk, ct⟩ σ H1) (z : ∀ σ' H', M σ' H' → nx σ' H') : tIfK tt ts tu ⟨nx, rt, bk, ct⟩ σ H :=
  ht _ (fun H1 s hp => s_iteT (h1 hp H1 _ s z)) fun H1 s hp => s_iteF (h2 hp H1 _ s z)
/-! an exception with a field of its own is made -/
theorem oex_heap {H : Hp} {a d : Addr} {o1 o2 o3 o4 : HO} (ha : H a = none) (hd : d ≠ a) : upd (del (upd (upd (upd H a o1) d o2) a o3) a) d o4 = upd H d o4 := by
  funext b
  by_cases h : b = d
  · rw [h, upd_same, upd_same]
  · rw [upd_ne h, upd_ne h]
    by_cases g : b = a
    · rw [g, del_same, ha]
    · rw [del_ne g, upd_ne g, upd_ne h, upd_ne g]
/-- C(v), C's __init__ storing v as f -/
theorem s_mkO {C : Addr} {sp : Sp} {σ : L2.St} {H : Hp} {Q : XK} {t : TA} {f : Str} {v : V} (ht : ∀ R : List V → Hp → Prop, R [v] H → t σ H R)
    (hs : ∀ (a : Addr) (H' : Hp) (Q' : VK), H' a = some (exo a C none) → (∀ dx, H' dx = none → dx ≠ a → Q' .non (upd (upd H' dx (exd dx [(f, v)])) a (exo a C (some dx)))) → sp [.ref a, v] H' Q' (fun _ _ _ => False))
    (z : ∀ d, H d = none → Q (.ref C) (some d) (upd H d (.xd [(f, v)]))) : tMkO C sp [] t σ H Q := by
  refine ht _ ⟨by show 1 ≤ 1000; decide, fun a ha => ?_⟩
  refine hs a _ _ upd_same fun dx nd ne => ⟨rfl, dx, [(f, v)], upd_same, ?_, ?_, ?_⟩
  · rw [upd_ne ne, upd_same]
  · rw [upd_ne ne] at nd; exact nd
  · rw [upd_ne ne] at nd
    rw [oex_heap ha ne]
    exact z dx nd
theorem s_ost {K : PySem.W.Frag} {f : Str} {to te : TE} {nx bk ct : L2.St → Hp → Prop} {rt : VK} {σ : L2.St} {H : Hp} {a C : Addr} {v : V} (he : ∀ R : VK, R v H → te σ H R) (ho : ∀ R : VK, R (.ref a) H → to σ H R) (T : OexC K C) (no : PySem.W.findIn K (.ref C) f = some none) (h : H a = some (exo a C none))
    (z : ∀ dx, H dx = none → dx ≠ a → nx σ (upd (upd H dx (exd dx [(f, v)])) a (exo a C (some dx)))) : tOst K f to te ⟨nx, rt, bk, ct⟩ σ H := he _ (ho _ ⟨a, C, rfl, T, no, .inl ⟨h, z⟩⟩)
end Jl

/-! Data at any depth: read by its shape; made in cells that are still written (active) over a part that stands (frozen). -/
namespace Jl
open PySem L2
section
variable {K : PySem.W.Frag} {H H' Hf B : Hp} {x y v : V} {a b p : Addr} {o u : HO} {xs ys : List V} {d e : PyData} {ds es : List PyData} {A : List Addr}
theorem dp_list (h : Dp K H x (.list ds)) : ∃ a xs, x = .ref a ∧ SqL K H a xs ∧ DpAll K H xs ds := by
  cases h with
  | lst h1 h2 => exact ⟨_, _, rfl, h1, h2⟩
theorem dp_tup (h : Dp K H x (.tuple ds)) : ∃ a xs, x = .ref a ∧ SqT K H a xs ∧ DpAll K H xs ds := by
  cases h with
  | tup h1 h2 => exact ⟨_, _, rfl, h1, h2⟩
theorem dp_int {i : Int} (h : Dp K H x (.int i)) : x = .int i := by cases h; rfl
theorem dp_str {z : Str} (h : Dp K H x (.str z)) : x = .str z := by cases h; rfl
theorem dp_bl {c : Bool} (h : Dp K H x (.bool c)) : x = .bl c := by cases h; rfl
theorem dp_non (h : Dp K H x .none) : x = .non := by cases h; rfl
theorem da_nil (h : DpAll K H xs []) : xs = [] := by cases h; rfl
theorem da_cons (h : DpAll K H xs (d :: ds)) : ∃ v vs, xs = v :: vs ∧ Dp K H v d ∧ DpAll K H vs ds := by
  cases h with
  | cons h1 h2 => exact ⟨_, _, rfl, h1, h2⟩
theorem da_int {i : Int} (h : DpAll K H xs (.int i :: ds)) : ∃ vs, xs = .int i :: vs ∧ DpAll K H vs ds := by
  obtain ⟨v, vs, rfl, h1, h2⟩ := da_cons h
  cases dp_int h1
  exact ⟨vs, rfl, h2⟩
theorem da_str {i : Str} (h : DpAll K H xs (.str i :: ds)) : ∃ vs, xs = .str i :: vs ∧ DpAll K H vs ds := by
  obtain ⟨v, vs, rfl, h1, h2⟩ := da_cons h
  cases dp_str h1
  exact ⟨vs, rfl, h2⟩
theorem da_bl {i : Bool} (h : DpAll K H xs (.bool i :: ds)) : ∃ vs, xs = .bl i :: vs ∧ DpAll K H vs ds := by
  obtain ⟨v, vs, rfl, h1, h2⟩ := da_cons h
  cases dp_bl h1
  exact ⟨vs, rfl, h2⟩
theorem da_ref {d : PyData} (h : DpAll K H xs (d :: ds)) (hd : ∀ v, Dp K H v d → ∃ a, v = .ref a) : ∃ a vs, xs = .ref a :: vs ∧ Dp K H (.ref a) d ∧ DpAll K H vs ds := by
  obtain ⟨v, vs, rfl, h1, h2⟩ := da_cons h
  obtain ⟨a, rfl⟩ := hd v h1
  exact ⟨a, vs, rfl, h1, h2⟩
theorem da_len : ∀ {xs : List V} {ds : List PyData}, DpAll K H xs ds → xs.length = ds.length
  | _, [], h => by rw [da_nil h]; rfl
  | _, d :: ds, h => by
    obtain ⟨v, vs, rfl, _, h2⟩ := da_cons h
    rw [List.length_cons, List.length_cons, da_len h2]
theorem da_get : ∀ {xs : List V} {ds : List PyData} {i : Nat} {x : V}, DpAll K H xs ds → xs[i]? = some x → ∃ d, ds[i]? = some d ∧ Dp K H x d
  | _, [], i, x, h, e => by rw [da_nil h] at e; cases e
  | _, d :: ds, i, x, h, e => by
    obtain ⟨v, vs, rfl, h1, h2⟩ := da_cons h
    cases i with
    | zero => cases e; exact ⟨d, rfl, h1⟩
    | succ i => exact da_get (i := i) h2 e
theorem da_at : ∀ {xs : List V} {ds : List PyData} {i : Nat} {d : PyData}, DpAll K H xs ds → ds[i]? = some d → ∃ x, xs[i]? = some x ∧ Dp K H x d
  | _, [], i, d, h, e => by cases e
  | _, d' :: ds, i, d, h, e => by
    obtain ⟨v, vs, rfl, h1, h2⟩ := da_cons h
    cases i with
    | zero => cases e; exact ⟨v, rfl, h1⟩
    | succ i => exact da_at (i := i) h2 e
theorem da_app : ∀ {xs ys : List V} {ds es : List PyData}, DpAll K H xs ds → DpAll K H ys es → DpAll K H (xs ++ ys) (ds ++ es)
  | _, ys, [], es, h, h2 => by rw [da_nil h]; exact h2
  | _, ys, d :: ds, es, h, h2 => by
    obtain ⟨v, vs, rfl, h1, h3⟩ := da_cons h
    exact .cons h1 (da_app h3 h2)
theorem da_one (h : Dp K H x d) : DpAll K H [x] [d] := .cons h .nil
theorem da_split : ∀ {xs : List V} {ds es : List PyData}, DpAll K H xs (ds ++ es) → ∃ ys zs, xs = ys ++ zs ∧ DpAll K H ys ds ∧ DpAll K H zs es
  | xs, [], es, h => ⟨[], xs, rfl, .nil, h⟩
  | xs, d :: ds, es, h => by
    obtain ⟨v, vs, rfl, h1, h3⟩ := da_cons h
    obtain ⟨ys, zs, rfl, h4, h5⟩ := da_split h3
    exact ⟨v :: ys, zs, rfl, .cons h1 h4, h5⟩
theorem da_drop : ∀ {n : Nat} {xs : List V} {ds : List PyData}, DpAll K H xs ds → DpAll K H (xs.drop n) (ds.drop n)
  | 0, _, _, h => h
  | n + 1, xs, [], h => by rw [da_nil h]; exact .nil
  | n + 1, xs, d :: ds, h => by
    obtain ⟨v, vs, rfl, _, h3⟩ := da_cons h
    exact da_drop (n := n) h3
theorem da_take : ∀ {n : Nat} {xs : List V} {ds : List PyData}, DpAll K H xs ds → DpAll K H (xs.take n) (ds.take n)
  | 0, _, _, h => .nil
  | n + 1, xs, [], h => by rw [da_nil h]; exact .nil
  | n + 1, xs, d :: ds, h => by
    obtain ⟨v, vs, rfl, h1, h3⟩ := da_cons h
    exact .cons h1 (da_take (n := n) h3)
theorem da_ints : ∀ {xs : List V} {ns : List Int}, DpAll K H xs (ns.map PyData.int) → xs = ns.map V.int
  | _, [], h => da_nil h
  | _, n :: ns, h => by
    obtain ⟨vs, rfl, h2⟩ := da_int h
    rw [da_ints h2]; rfl
theorem da_strs : ∀ {xs : List V} {ns : List Str}, DpAll K H xs (ns.map PyData.str) → xs = ns.map V.str
  | _, [], h => da_nil h
  | _, n :: ns, h => by
    obtain ⟨vs, rfl, h2⟩ := da_str h
    rw [da_strs h2]; rfl
theorem dp_strs : ∀ ns : List Str, DpAll K H (ns.map V.str) (ns.map PyData.str)
  | [] => .nil
  | n :: ns => .cons (.str n) (dp_strs ns)
theorem dp_intl {ns : List Int} (h : Dp K H x (.list (ns.map PyData.int))) : ∃ a, x = .ref a ∧ SqL K H a (ns.map V.int) := by
  obtain ⟨a, xs, rfl, h1, h2⟩ := dp_list h
  rw [da_ints h2] at h1
  exact ⟨a, rfl, h1⟩
theorem dp_strl {ns : List Str} (h : Dp K H x (.list (ns.map PyData.str))) : ∃ a, x = .ref a ∧ SqL K H a (ns.map V.str) := by
  obtain ⟨a, xs, rfl, h1, h2⟩ := dp_list h
  rw [da_strs h2] at h1
  exact ⟨a, rfl, h1⟩
/-- data that stands in the part of a heap -/
theorem sqT_of (h : H a = some (.tup xs)) : SqT K H a xs := .inl (.inl h)
theorem sqL_of (h : H a = some (.lst xs)) : SqL K H a xs := .inl (.inl h)
/-! the shape of data -/
theorem shaped_of (h1 : d.canLay0 = true) (h2 : d.depth ≤ 64) : SeqAt.shaped d = true := Bool.and_eq_true_iff.mpr ⟨h1, decide_eq_true h2⟩
theorem lay_all {l : List PyData} : (∀ d ∈ l, d.canLay0 = true) → PyData.canLayAll0 l = true := by
  induction l with
  | nil => intro _; rfl
  | cons d l ih =>
    intro h
    show (d.canLay0 && PyData.canLayAll0 l) = true
    rw [h d List.mem_cons_self, ih fun z hz => h z (List.mem_cons_of_mem _ hz)]; rfl
theorem depth_all {n : Nat} {l : List PyData} : (∀ d ∈ l, d.depth ≤ n) → PyData.depthAll l ≤ n := by
  induction l with
  | nil => intro _; exact Nat.zero_le _
  | cons d l ih =>
    intro h
    show max d.depth (PyData.depthAll l) ≤ n
    have h1 := h d List.mem_cons_self
    have h2 := ih fun z hz => h z (List.mem_cons_of_mem _ hz)
    omega
theorem depth_list {n : Nat} {l : List PyData} (h : ∀ d ∈ l, d.depth ≤ n) : (PyData.list l).depth ≤ n + 1 := by
  have := depth_all h
  show PyData.depthAll l + 1 ≤ n + 1
  omega
theorem depth_tuple {n : Nat} {l : List PyData} (h : ∀ d ∈ l, d.depth ≤ n) : (PyData.tuple l).depth ≤ n + 1 := by
  have := depth_all h
  show PyData.depthAll l + 1 ≤ n + 1
  omega
theorem s_eqSame {Q : VK} (h1 : Dp K H x d) (h2 : Dp K H y d) (hs : SeqAt.shaped d = true) (z : Q (.bl true) H) : rEqD K x y H Q :=
  ⟨_, _, h1, h2, hs, hs, by rw [SeqAt.eqv_refl _ (SeqAt.canLay_of_shaped hs)]; exact z⟩
theorem s_neSame {Q : VK} (h1 : Dp K H x d) (h2 : Dp K H y d) (hs : SeqAt.shaped d = true) (z : Q (.bl false) H) : rNeD K x y H Q :=
  ⟨_, _, h1, h2, hs, hs, by rw [SeqAt.eqv_refl _ (SeqAt.canLay_of_shaped hs)]; exact z⟩
theorem eqv_strs : ∀ ns ms : List Str, PyData.eqvAll (ns.map PyData.str) (ms.map PyData.str) = decide (ns = ms)
  | [], [] => rfl
  | [], _ :: _ => rfl
  | _ :: _, [] => rfl
  | n :: ns, m :: ms => by
    show ((n == m) && PyData.eqvAll (ns.map PyData.str) (ms.map PyData.str)) = _
    rw [eqv_strs ns ms, Bool.eq_iff_iff]
    simp
theorem depth_strs : ∀ ns : List Str, PyData.depthAll (ns.map PyData.str) ≤ 0 := fun ns => depth_all fun d hd => by
  obtain ⟨s, _, rfl⟩ := List.mem_map.mp hd
  exact Nat.le_refl _
/-! cells that are still written -/
structure Act (B Hf H : Hp) (A : List Addr) : Prop where
  base : Same B Hf
  ext : Same Hf H
  free : ∀ a ∈ A, Hf a = none ∧ ∃ o, H a = some o
  nd : A.Nodup
theorem Act.start (H : Hp) : Act H H H [] := ⟨Same.refl _, Same.refl _, fun _ h => (by cases h), List.nodup_nil⟩
theorem Act.same (c : Act B Hf H A) : Same B H := c.base.trans c.ext
theorem Act.sm (c : Act B Hf H A) (s : Same H H') : Act B Hf H' A := ⟨c.base, c.ext.trans s, fun a ha => ⟨(c.free a ha).1, by obtain ⟨o, h⟩ := (c.free a ha).2; exact ⟨o, s _ _ h⟩⟩, c.nd⟩
theorem Act.upd (c : Act B Hf H A) (ha : a ∈ A) : Act B Hf (L2.upd H a o) A :=
  ⟨c.base, same_mut c.ext (c.free a ha).1, fun b hb => ⟨(c.free b hb).1, by
    by_cases e : b = a
    · rw [e, upd_same]; exact ⟨_, rfl⟩
    · rw [upd_ne e]; exact (c.free b hb).2⟩, c.nd⟩
theorem Act.out (c : Act B Hf H A) (hp : H p = none) : p ∉ A := fun h => by
  obtain ⟨o, e⟩ := (c.free p h).2
  rw [hp] at e; cases e
theorem Act.new (c : Act B Hf H A) (hp : H p = none) : Act B (L2.upd Hf p o) (L2.upd H p o) A := by
  have hf := c.ext.free hp
  refine ⟨c.base.trans (same_upd hf), fun b u e => ?_, fun b hb => ?_, c.nd⟩
  · by_cases q : b = p
    · rw [q, upd_same] at e ⊢; exact e
    · rw [upd_ne q] at e ⊢; exact c.ext b u e
  · have q : b ≠ p := fun q => c.out hp (q ▸ hb)
    rw [upd_ne q, upd_ne q]; exact c.free b hb
theorem Act.newA (c : Act B Hf H A) (hp : H p = none) : Act B Hf (L2.upd H p o) (p :: A) := by
  refine ⟨c.base, c.ext.trans (same_upd hp), fun b hb => ?_, List.nodup_cons.mpr ⟨c.out hp, c.nd⟩⟩
  rcases List.mem_cons.mp hb with rfl | hb
  · exact ⟨c.ext.free hp, _, upd_same⟩
  · have q : b ≠ p := fun q => c.out hp (q ▸ hb)
    rw [upd_ne q]; exact c.free b hb
theorem Act.fz (c : Act B Hf H (a :: A)) (e : H a = some o) : Act B (L2.upd Hf a o) H A := by
  have n := List.nodup_cons.mp c.nd
  refine ⟨c.base.trans (same_upd (c.free a List.mem_cons_self).1), fun b u h => ?_, fun b hb => ?_, n.2⟩
  · by_cases q : b = a
    · rw [q, upd_same] at h; rw [q, e]; exact h
    · rw [upd_ne q] at h; exact c.ext b u h
  · have q : b ≠ a := fun q => n.1 (q ▸ hb)
    rw [upd_ne q]; exact c.free b (List.mem_cons_of_mem _ hb)
theorem Act.fz_same (c : Act B Hf H (a :: A)) : Same Hf (L2.upd Hf a o) := same_upd (c.free a List.mem_cons_self).1
theorem Act.perm {A' : List Addr} (c : Act B Hf H A) (h : A.Perm A') : Act B Hf H A' := ⟨c.base, c.ext, fun a ha => c.free a (h.mem_iff.mpr ha), h.nodup_iff.mp c.nd⟩
theorem Act.sub {A' : List Addr} (c : Act B Hf H A) (h : A'.Sublist A) : Act B Hf H A' := ⟨c.base, c.ext, fun a ha => c.free a (h.subset ha), h.nodup c.nd⟩
theorem Act.frz (c : Act B Hf H A) (hp : H p = some o) (hA : p ∉ A) : ∃ Hg, Same Hf Hg ∧ Act B Hg H A ∧ Hg p = some o := by
  cases hf : Hf p with
  | some u =>
    have := c.ext _ _ hf
    rw [hp] at this
    cases this
    exact ⟨Hf, Same.refl _, c, hf⟩
  | none =>
    refine ⟨L2.upd Hf p o, same_upd hf, ⟨c.base.trans (same_upd hf), fun b u h => ?_, fun b hb => ?_, c.nd⟩, upd_same⟩
    · by_cases q : b = p
      · rw [q, upd_same] at h; rw [q, hp]; exact h
      · rw [upd_ne q] at h; exact c.ext b u h
    · have q : b ≠ p := fun q => hA (q ▸ hb)
      rw [upd_ne q]; exact c.free b hb
end
end Jl

/-! Dicts from ints to ints. -/
namespace Jl
open PySem L2
def DI (H : Hp) (m : Addr) (f : Int → Option Int) (n : Nat) : Prop := ∃ kvs : List (Key × V), H m = some (.dK kvs) ∧ kvs.length ≤ n ∧ ∀ a : Int, valV kvs (Sum.inl a : Key) = (f a).map V.int
section
variable {H H' : Hp} {m p : Addr} {f : Int → Option Int} {n : Nat}
theorem DI.same (s : Same H H') (D : DI H m f n) : DI H' m f n := by
  obtain ⟨k, h1, h2, h3⟩ := D
  exact ⟨k, s _ _ h1, h2, h3⟩
theorem DI.to (D : DI H m f n) (e : H' m = H m) : DI H' m f n := by
  obtain ⟨k, h1, h2, h3⟩ := D
  exact ⟨k, e.trans h1, h2, h3⟩
theorem DI.off {o : HO} (D : DI H m f n) (e : p ≠ m) : DI (upd H p o) m f n := D.to (upd_ne e.symm)
theorem DI.get (D : DI H m f n) (a : Int) : DGet H m (.int a) ((f a).map V.int) := by
  obtain ⟨k, h1, h2, h3⟩ := D
  rw [← h3 a]
  exact DGet.k (k := kI a) h1
theorem DI.some_ {a w : Int} (D : DI H m f n) (e : f a = some w) : DGet H m (.int a) (some (.int w)) := by
  have := D.get a
  rw [e] at this
  exact this
theorem DI.put (D : DI H m f n) (hn : n ≤ 99999) (a w : Int) : ∃ o, DPut H m (.int a) (.int w) (upd H m o) ∧ DI (upd H m o) m (memPut f a w) (n + 1) := by
  obtain ⟨k, h1, h2, h3⟩ := D
  refine ⟨_, DPut.k (k := kI a) (v := .int w) h1 (small5' (by omega)), _, upd_same, ?_, fun b => ?_⟩
  · have := length_putK k (kI a) (V.int w)
    omega
  · rw [valV_put]
    show _ = (memPut f a w b).map V.int
    unfold memPut
    by_cases q : b = a
    · rw [if_pos (by rw [q]; rfl), if_pos q]; rfl
    · rw [if_neg (show ¬ (Sum.inl b : Key) = kI a from fun y => q (Sum.inl.inj y)), if_neg q]; exact h3 b
theorem DI.new : DI (upd H m (.dK [])) m (fun _ => none) 0 := ⟨[], upd_same, Nat.le_refl _, fun a => rfl⟩
theorem DI.le {k : Nat} (D : DI H m f n) (h : n ≤ k) : DI H m f k := by
  obtain ⟨k', h1, h2, h3⟩ := D
  exact ⟨k', h1, Nat.le_trans h2 h, h3⟩
theorem memPut_eq {a w : Int} : memPut f a w a = some w := if_pos rfl
theorem memPut_ne {a w x : Int} (h : x ≠ a) : memPut f a w x = f x := if_neg h
end
section
variable {K : PySem.W.Frag} {σ : L2.St} {H : Hp} {Q : VK} {to : TE} {p : Addr} {xs : List V} {kvs : List (Key × V)} {T : String} {nx bk ct : L2.St → Hp → Prop} {rt : VK} {tl : TE} {tu : TS}
theorem s_BM0 {r : V → List V → Hp → VK → Prop} (z : to σ H fun x H1 => tyV K T x H1 ∧ r x [] H1 Q) : tBM0 K T r to σ H Q := z
theorem s_clear (h : H p = some (.lst xs)) (z : Q .non (upd H p (.lst []))) : rClear (.ref p) [] H Q := ⟨p, xs, rfl, rfl, h, z⟩
theorem s_dclear (h : H p = some (.dK kvs)) (z : Q .non (upd H p (.dK []))) : tyV K "dict" (.ref p) H ∧ rDClear (.ref p) [] H Q := ⟨.inr (.inr (.inl ⟨rfl, .inl ⟨kvs, h⟩⟩)), p, kvs, rfl, rfl, h, z⟩
/-- a loop over a list made for it -/
theorem s_forN {k : Nat} {xs : List V} (Pv : Addr → Nat → L2.St → Hp → Prop) (ha : ∀ R : VK, (∀ a, H a = none → R (.ref a) (upd H a (.lst xs))) → tl σ H R) (h0 : ∀ a, H a = none → Pv a 0 σ (upd H a (.lst xs)))
    (hl : ∀ a i σ' H', H a = none → i ≤ xs.length → Pv a i σ' H' → SqL K H' a xs)
    (hs : ∀ (a : Addr) (i : Nat) x σ' H', H a = none → xs[i]? = some x → Pv a i σ' H' → tu ⟨Pv a (i + 1), rt, nx, Pv a (i + 1)⟩ (σ'.set k (some x)) H') (hd : ∀ a σ' H', H a = none → Pv a xs.length σ' H' → nx σ' H') : tFor (iList K tl) (gName k) tu ⟨nx, rt, bk, ct⟩ σ H := by
  refine ha _ fun a na => ⟨a, rfl, ⟨xs, sqU⟩, ?_⟩
  exact for_list (xs := xs) (Pv a) (h0 a na) (fun i σ' H' hi z => hl a i σ' H' na hi z) (fun i x σ' H' hi h => hs a i x σ' H' na hi h) (fun σ' H' h => hd a σ' H' na h)
end
section
variable {B Hf H H' : Hp} {A : List Addr} {p : Addr}
theorem Act.call (c : Act B Hf H A) (s : Same H H') (hp : H p = none) {o : HO} (e : H' p = some o) : Act B Hf H' (p :: A) := by
  refine ⟨c.base, c.ext.trans s, fun b hb => ?_, List.nodup_cons.mpr ⟨c.out hp, c.nd⟩⟩
  rcases List.mem_cons.mp hb with rfl | hb
  · exact ⟨c.ext.free hp, _, e⟩
  · obtain ⟨h1, o, h2⟩ := c.free b hb
    exact ⟨h1, o, s _ _ h2⟩
theorem Act.chg {C : List Addr} (c : Act B Hf H A) (k : ∀ b v, H b = some v → b ∉ C → H' b = some v) (hC : ∀ b ∈ C, b ∈ A ∧ ∃ o, H' b = some o) : Act B Hf H' A := by
  refine ⟨c.base, fun b u h => ?_, fun b hb => ⟨(c.free b hb).1, ?_⟩, c.nd⟩
  · refine k b u (c.ext b u h) fun hb => ?_
    have := (c.free b (hC b hb).1).1
    rw [h] at this; cases this
  · by_cases q : b ∈ C
    · exact (hC b q).2
    · obtain ⟨o, h⟩ := (c.free b hb).2
      exact ⟨o, k b o h q⟩
theorem Act.mach {C dx m r o : Addr} {st : MSt} (c : Act B Hf H A) (s : Same H H') (np : H p = none) (nm : H m = none) (nr : H r = none) (no : H o = none) (M : MachAt C H' p dx m r o st) : Act B Hf H' (p :: m :: r :: o :: A) := by
  obtain ⟨kvs, hm, _⟩ := M.dc
  have h1 := M.pm; have h2 := M.pr; have h3 := M.po; have h4 := M.rm; have h5 := M.om; have h6 := M.ne
  refine ⟨c.base, c.ext.trans s, fun b hb => ?_, ?_⟩
  · simp only [List.mem_cons] at hb
    rcases hb with rfl | rfl | rfl | rfl | hb
    · exact ⟨c.ext.free np, _, M.ob⟩
    · exact ⟨c.ext.free nm, _, hm⟩
    · exact ⟨c.ext.free nr, _, M.rg⟩
    · exact ⟨c.ext.free no, _, M.ou⟩
    · obtain ⟨h1, o, h2⟩ := c.free b hb
      exact ⟨h1, o, s _ _ h2⟩
  · simp only [List.nodup_cons, List.mem_cons, not_or]
    exact ⟨⟨h1, h2, h3, c.out np⟩, ⟨h4.symm, h5.symm, c.out nm⟩, ⟨h6, c.out nr⟩, c.out no, c.nd⟩
end
/-- a machine, and what a law holds beside it -/
structure Gp where
  p : Addr
  dx : Addr
  m : Addr
  r : Addr
  o : Addr
  a : Addr
  t : Addr
def Gp.cells (g : Gp) : List Addr := [g.p, g.m, g.r, g.o, g.t, g.a]
structure One (C : Addr) (H : Hp) (g : Gp) (s : MSt) : Prop where
  M : MachAt C H g.p g.dx g.m g.r g.o s
  row : H g.a = some (.lst (s.regs.map V.int))
  told : H g.t = some (.lst (s.outs.map V.int))
  nd : g.cells.Nodup
section
variable {C : Addr} {H H' : Hp} {g g0 g1 : Gp} {s : MSt} {P P' : MSt → Prop} {i : Nat}
theorem One.keep (h : One C H g s) (k : ∀ b v, H b = some v → b ∈ g.cells → H' b = some v) : One C H' g s := by
  obtain ⟨kvs, h1, h2, h3⟩ := h.M.dc
  exact ⟨⟨k _ _ h.M.ob (by simp [Gp.cells]), ⟨kvs, k _ _ h1 (by simp [Gp.cells]), h2, h3⟩, k _ _ h.M.rg (by simp [Gp.cells]), k _ _ h.M.ou (by simp [Gp.cells]), h.M.ne⟩, k _ _ h.row (by simp [Gp.cells]), k _ _ h.told (by simp [Gp.cells]), h.nd⟩
theorem One.same (h : One C H g s) (e : Same H H') : One C H' g s := h.keep fun b v hb _ => e b v hb
theorem One.has (h : One C H g s) : ∀ b ∈ g.cells, ∃ o, H b = some o := by
  obtain ⟨kvs, h1, _⟩ := h.M.dc
  intro b hb
  simp only [Gp.cells, List.mem_cons, List.not_mem_nil, or_false] at hb
  rcases hb with rfl | rfl | rfl | rfl | rfl | rfl
  · exact ⟨_, h.M.ob⟩
  · exact ⟨_, h1⟩
  · exact ⟨_, h.M.rg⟩
  · exact ⟨_, h.M.ou⟩
  · exact ⟨_, h.told⟩
  · exact ⟨_, h.row⟩
/-- two of these, of which the first i have gone on -/
def Both (C : Addr) (g0 g1 : Gp) (P P' : MSt → Prop) (i : Nat) (H : Hp) : Prop := ∃ s0 s1, One C H g0 s0 ∧ One C H g1 s1 ∧ (if 0 < i then P' s0 else P s0) ∧ (if 1 < i then P' s1 else P s1)
theorem Both.same (h : Both C g0 g1 P P' i H) (e : Same H H') : Both C g0 g1 P P' i H' := by
  obtain ⟨s0, s1, a, b, c, d⟩ := h
  exact ⟨s0, s1, a.same e, b.same e, c, d⟩
theorem Both.turn (hd : ∀ b ∈ g0.cells, b ∉ g1.cells) (hi : i < 2) (h : Both C g0 g1 P P' i H) : ∃ g s, ((i = 0 ∧ g = g0) ∨ (i = 1 ∧ g = g1)) ∧ One C H g s ∧ P s ∧
    ∀ H' s', One C H' g s' → P' s' → (∀ b v, H b = some v → b ∉ g.cells → H' b = some v) → Both C g0 g1 P P' (i + 1) H' := by
  obtain ⟨s0, s1, a, b, c, d⟩ := h
  have hi' : i = 0 ∨ i = 1 := by omega
  rcases hi' with rfl | rfl
  · refine ⟨g0, s0, .inl ⟨rfl, rfl⟩, a, c, fun H' s' o p k => ⟨s', s1, o, b.keep fun x v hx hc => k x v hx fun z => hd x z hc, p, d⟩⟩
  · refine ⟨g1, s1, .inr ⟨rfl, rfl⟩, b, d, fun H' s' o p k => ⟨s0, s', a.keep fun x v hx hc => k x v hx (hd x hc), o, c, p⟩⟩
theorem Both.next {P'' : MSt → Prop} (h : Both C g0 g1 P P' 2 H) : Both C g0 g1 P' P'' 0 H := h
/-- a machine steps, the law's own row and list have gone ahead -/
theorem One.stepped {s' : MSt} {H1 H2 : Hp} (h : One C H g s) (hb : ∀ b, b ≠ g.a → b ≠ g.t → H1 b = H b) (hr : H1 g.a = some (.lst (s'.regs.map V.int))) (ht : H1 g.t = some (.lst (s'.outs.map V.int)))
    (k : Keep H1 H2 g.p g.m g.r g.o) (M : MachAt C H2 g.p g.dx g.m g.r g.o s') : One C H2 g s' ∧ ∀ b v, H b = some v → b ∉ g.cells → H2 b = some v := by
  have nd := h.nd
  simp only [Gp.cells, List.nodup_cons, List.mem_cons, List.not_mem_nil, or_false, not_or] at nd
  obtain ⟨⟨n1, n2, n3, n4, n5⟩, ⟨n6, n7, n8, n9⟩, ⟨n10, n11, n12⟩, ⟨n13, n14⟩, n15, -⟩ := nd
  refine ⟨⟨M, k _ _ hr (fun e => n5 e.symm) (fun e => n9 e.symm) (fun e => n12 e.symm) fun e => n14 e.symm, k _ _ ht (fun e => n4 e.symm) (fun e => n8 e.symm) (fun e => n11 e.symm) fun e => n13 e.symm, h.nd⟩, fun b v e hc => ?_⟩
  simp only [Gp.cells, List.mem_cons, List.not_mem_nil, or_false, not_or] at hc
  obtain ⟨c1, c2, c3, c4, c5, c6⟩ := hc
  refine k b v ?_ c1 c2 c3 c4
  rw [hb b c6 c5]; exact e
theorem One.ma {H1 : Hp} (h : One C H g s) (hb : ∀ b, b ≠ g.a → b ≠ g.t → H1 b = H b) : MachAt C H1 g.p g.dx g.m g.r g.o s := by
  have nd := h.nd
  simp only [Gp.cells, List.nodup_cons, List.mem_cons, List.not_mem_nil, or_false, not_or] at nd
  obtain ⟨⟨n1, n2, n3, n4, n5⟩, ⟨n6, n7, n8, n9⟩, ⟨n10, n11, n12⟩, ⟨n13, n14⟩, n15, -⟩ := nd
  obtain ⟨kvs, h1, h2, h3⟩ := h.M.dc
  exact ⟨by rw [hb _ n5 n4]; exact h.M.ob, ⟨kvs, by rw [hb _ n9 n8]; exact h1, h2, h3⟩, by rw [hb _ n12 n11]; exact h.M.rg, by rw [hb _ n14 n13]; exact h.M.ou, h.M.ne⟩
theorem One.at_ (h : One C H g s) : g.a ≠ g.t := by
  have nd := h.nd
  simp only [Gp.cells, List.nodup_cons, List.mem_cons, List.not_mem_nil, or_false, not_or] at nd
  obtain ⟨⟨n1, n2, n3, n4, n5⟩, ⟨n6, n7, n8, n9⟩, ⟨n10, n11, n12⟩, ⟨n13, n14⟩, n15, -⟩ := nd
  exact fun e => n15 e.symm
end
theorem cutV_mid {xs : List V} (i j : Nat) (h : i ≤ j) : cutV xs (some (i : Int)) (some (j : Int)) = (xs.drop i).take (j - i) := by
  unfold cutV
  have e1 : ∀ d k : Nat, HT.sIx xs.length d (some (k : Int)) = min k xs.length := fun d k => HT.sIx_nat _ _ _
  rw [e1, e1]
  rcases Nat.lt_or_ge i xs.length with hi | hi
  · rw [Nat.min_eq_left (Nat.le_of_lt hi)]
    rcases Nat.lt_or_ge j xs.length with hj | hj
    · rw [Nat.min_eq_left (Nat.le_of_lt hj)]
    · rw [Nat.min_eq_right hj, List.take_of_length_le (by rw [List.length_drop]; omega), List.take_of_length_le (by rw [List.length_drop]; omega)]
  · rw [Nat.min_eq_right hi, List.drop_of_length_le hi, List.drop_of_length_le (Nat.le_refl _), List.take_nil, List.take_nil]
theorem nd_ne {A : List Addr} (h : A.Nodup) (i j : Nat) (hij : i < j) {a b : Addr} (ha : A[i]? = some a) (hb : A[j]? = some b) : a ≠ b := by
  obtain ⟨hi, rfl⟩ := List.getElem?_eq_some_iff.mp ha
  obtain ⟨hj, rfl⟩ := List.getElem?_eq_some_iff.mp hb
  exact List.pairwise_iff_getElem.mp h i j hi hj hij
section
variable {K : PySem.W.Frag} {σ : L2.St} {H : Hp} {Q : VK} {p q : Addr} {ns ms : List Int} {ss : List Str} {i : Int} {z : Str} {nx bk ct : L2.St → Hp → Prop} {rt : VK} {tu : TS}
theorem inV_ints : ∀ ns : List Int, inV (.int i) (ns.map V.int) = decide (i ∈ ns)
  | [] => rfl
  | n :: ns => by
    show ((n == i) || inV (.int i) (ns.map V.int)) = _
    rw [inV_ints ns, Bool.eq_iff_iff, Bool.or_eq_true, beq_iff_eq, decide_eq_true_iff, decide_eq_true_iff, List.mem_cons]
    exact ⟨fun h => h.imp Eq.symm id, fun h => h.imp Eq.symm id⟩
theorem inV_strs : ∀ ns : List Str, inV (.str z) (ns.map V.str) = decide (z ∈ ns)
  | [] => rfl
  | n :: ns => by
    show ((n == z) || inV (.str z) (ns.map V.str)) = _
    rw [inV_strs ns, Bool.eq_iff_iff, Bool.or_eq_true, beq_iff_eq, decide_eq_true_iff, decide_eq_true_iff, List.mem_cons]
    exact ⟨fun h => h.imp Eq.symm id, fun h => h.imp Eq.symm id⟩
theorem flat_ints : ∀ ns : List Int, (ns.map V.int).all flatV = true
  | [] => rfl
  | n :: ns => by show (true && (ns.map V.int).all flatV) = true; rw [flat_ints ns]; rfl
theorem flat_strs : ∀ ns : List Str, (ns.map V.str).all flatV = true
  | [] => rfl
  | n :: ns => by show (true && (ns.map V.str).all flatV) = true; rw [flat_strs ns]; rfl
theorem s_inInts (h : SqL K H p (ns.map V.int)) (k : Q (.bl (decide (i ∈ ns))) H) : rIn K false (.int i) (.ref p) H Q := ⟨p, _, rfl, .inl h, rfl, flat_ints ns, by rw [if_neg Bool.false_ne_true, inV_ints]; exact k⟩
theorem s_notInInts (h : SqL K H p (ns.map V.int)) (k : Q (.bl (!decide (i ∈ ns))) H) : rIn K true (.int i) (.ref p) H Q := ⟨p, _, rfl, .inl h, rfl, flat_ints ns, by rw [if_pos rfl, inV_ints]; exact k⟩
theorem s_inStrs (h : SqL K H p (ss.map V.str)) (k : Q (.bl (decide (z ∈ ss))) H) : rIn K false (.str z) (.ref p) H Q := ⟨p, _, rfl, .inl h, rfl, flat_strs ss, by rw [if_neg Bool.false_ne_true, inV_strs]; exact k⟩
theorem s_notInStrs (h : SqL K H p (ss.map V.str)) (k : Q (.bl (!decide (z ∈ ss))) H) : rIn K true (.str z) (.ref p) H Q := ⟨p, _, rfl, .inl h, rfl, flat_strs ss, by rw [if_pos rfl, inV_strs]; exact k⟩
theorem s_neInts (h1 : SqL K H p (ns.map V.int)) (h2 : SqL K H q (ms.map V.int)) (k : Q (.bl (!decide (ns = ms))) H) : rNeD K (.ref p) (.ref q) H Q :=
  ⟨_, _, dp_intL h1, dp_intL h2, shaped_ints ns, shaped_ints ms, by
    show Q (.bl (!PyData.eqvAll (ns.map PyData.int) (ms.map PyData.int))) H
    rw [eqv_ints]; exact k⟩
/-- range(lo, hi) -/
theorem s_forR2 {k : Nat} {ta : TA} (lo hi : Int) (Pv : Nat → L2.St → Hp → Prop) (ha : ∀ R : List V → Hp → Prop, R [.int lo, .int hi] H → ta σ H R) (hb : -(2 ^ 62) ≤ lo ∧ lo < 2 ^ 62 ∧ -(2 ^ 62) ≤ hi ∧ hi < 2 ^ 62) (h0 : Pv 0 σ H)
    (hs : ∀ (i : Nat) σ' H', lo + (i : Int) < hi → Pv i σ' H' → tu ⟨Pv (i + 1), rt, nx, Pv (i + 1)⟩ (σ'.set k (some (.int (lo + (i : Int))))) H') (hd : ∀ σ' H', Pv (hi - lo).toNat σ' H' → nx σ' H') : tFor (iRng2 ta) (gName k) tu ⟨nx, rt, bk, ct⟩ σ H := by
  refine ha _ ⟨lo, hi, rfl, hb, ?_⟩
  refine for_range (lo := lo) (n := (hi - lo).toNat) Pv h0 (fun i σ' H' hi' h => ?_) hd
  exact hs i σ' H' (by omega) h
end
section
variable {K : PySem.W.Frag} {σ : L2.St} {H : Hp} {nx bk ct : L2.St → Hp → Prop} {rt : VK} {tu : TS}
/-- a list of known items, any target -/
theorem s_forLg {g : TG} {tl : TE} {a : Addr} {xs : List V} (Pv : Nat → L2.St → Hp → Prop) (H1 : Hp) (ha : ∀ R : VK, R (.ref a) H1 → tl σ H R) (hx : SqL K H1 a xs) (h0 : Pv 0 σ H1)
    (hl : ∀ i σ' H', i ≤ xs.length → Pv i σ' H' → SqL K H' a xs)
    (hs : ∀ (i : Nat) x σ' H', xs[i]? = some x → Pv i σ' H' → g x σ' H' fun σ2 H2 => tu ⟨Pv (i + 1), rt, nx, Pv (i + 1)⟩ σ2 H2) (hd : ∀ σ' H', Pv xs.length σ' H' → nx σ' H') : tFor (iList K tl) g tu ⟨nx, rt, bk, ct⟩ σ H := by
  refine ha _ ⟨a, rfl, ⟨xs, hx⟩, ?_⟩
  exact for_list (xs := xs) Pv h0 hl (fun i x σ' H' hi h => hs i x σ' H' hi h) hd
end
section
variable {K : PySem.W.Frag} {σ : L2.St} {H : Hp} {nx bk ct : L2.St → Hp → Prop} {rt : VK} {tu : TS}
/-- for (i, x) in enumerate(xs) -/
theorem s_forE {g : TG} {ta : TA} {a : Addr} {xs : List V} (Pv : Nat → L2.St → Hp → Prop) (H1 : Hp) (ha : ∀ R : List V → Hp → Prop, R [.ref a] H1 → ta σ H R) (hx : SqL K H1 a xs) (h0 : Pv 0 σ H1)
    (hl : ∀ i σ' H', i ≤ xs.length → Pv i σ' H' → SqL K H' a xs)
    (hs : ∀ (i : Nat) x σ' H' T, xs[i]? = some x → Pv i σ' H' → H' T = none → g (.ref T) σ' (upd H' T (.tup [.int (i : Int), x])) fun σ2 H2 => tu ⟨Pv (i + 1), rt, nx, Pv (i + 1)⟩ σ2 H2) (hd : ∀ σ' H', Pv xs.length σ' H' → nx σ' H') : tFor (iEnum K ta) g tu ⟨nx, rt, bk, ct⟩ σ H := by
  refine ha _ ⟨a, xs, rfl, hx, ?_⟩
  refine ⟨fun i m σ H => m = xs.length - i ∧ i ≤ xs.length ∧ Pv i σ H, ⟨xs.length, by simp, Nat.zero_le _, h0⟩, ?_⟩
  rintro i m σ' H2 ⟨rfl, hi, q⟩
  have hq := hl i σ' H2 hi q
  by_cases hlt : i < xs.length
  · refine .inr ⟨⟨xs, _, hq, List.getElem?_eq_getElem hlt⟩, Pv (i + 1), fun σ3 H3 q' => ⟨xs.length - (i + 1), by omega, rfl, hlt, q'⟩, fun v H3 y => ?_⟩
    obtain ⟨T, x, rfl, hT, rfl, hx⟩ := y
    exact hs i x σ' H2 T (hx xs hq) q hT
  · have e : i = xs.length := by omega
    subst e
    exact .inl ⟨⟨xs, hq, Nat.le_refl _⟩, hd σ' H2 q⟩
end
section
variable {K : PySem.W.Frag} {σ : L2.St} {H : Hp} {Q : VK}
/-- [e for g in xs if t]: what the items are, as data; D is the list in the making -/
theorem s_lcA {g : TG} {tt : TT} {te tl : TE} {vs : List Nat} {xs : List V} (d : Nat → Option PyData) (hl : xs.length ≤ 100000) (ha : ∀ R : VK, (∀ a H1, Same H H1 → SqL K H1 a xs → R (.ref a) H1) → tl σ H R)
    (hs : ∀ (i : Nat) x D F H1 (Rs : VK) (Rn : Hp → Prop), xs[i]? = some x → Act H F H1 [D] → (∀ v F' H2 dd, Same F F' → Act H F' H2 [D] → Same H1 H2 → d i = some dd → Dp K F' v dd → Rs v H2) → (∀ F' H2, Same F F' → Act H F' H2 [D] → Same H1 H2 → d i = none → Rn H2) →
      g x (wipe σ vs) H1 fun σ2 H2 => wipe σ2 vs = wipe σ vs ∧ tt σ2 H2 fun b H3 => if b = true then te σ2 H3 Rs else Rn H3)
    (z : ∀ p H1 us, Same H H1 → H p = none → H1 p = some (.lst us) → DpAll K H1 us ((List.range xs.length).filterMap d) → Q (.ref p) H1) : tLc (iList K tl) g tt te vs σ H Q := by
  refine ha _ fun a H0 s0 hx => ⟨a, rfl, ⟨xs, hx⟩, fun D hD => ?_⟩
  have c0 : Act H H0 (upd H0 D (.lst [])) [D] := ⟨s0, same_upd hD, fun b hb => by cases List.mem_singleton.mp hb; exact ⟨hD, _, upd_same⟩, List.nodup_cons.mpr ⟨List.not_mem_nil, List.nodup_nil⟩⟩
  refine lc_list (xs := xs) (fun i H' => i ≤ xs.length ∧ ∃ F us, Same H0 F ∧ Act H F H' [D] ∧ H' D = some (.lst us) ∧ us.length ≤ i ∧ DpAll K F us ((List.range i).filterMap d)) ⟨Nat.zero_le _, H0, [], Same.refl _, c0, upd_same, Nat.le_refl _, .nil⟩ (fun i H' _ h => ?_) (fun i x H1 hi h => ?_) (fun H1 h => ?_)
  · obtain ⟨_, F, us, sF, c, _⟩ := h
    exact c.ext.seq (sF.seq hx)
  · obtain ⟨_, F, us, sF, c, hus, hul, hda⟩ := h
    have hi' : i < xs.length := (List.getElem?_eq_some_iff.mp hi).1
    refine hs i x D F H1 _ _ hi c (fun v F' H2 dd sF' c' s12 hd hv => ?_) (fun F' H2 sF' c' s12 hd => ?_)
    · refine ⟨us, s12 _ _ hus, small5' (by omega), hi', F', us ++ [v], sF.trans sF', c'.upd (by simp), upd_same, by rw [List.length_append, List.length_singleton]; omega, ?_⟩
      rw [List.range_succ, List.filterMap_append]
      refine da_app (dps_same sF' hda) ?_
      show DpAll K F' [v] ([i].filterMap d)
      rw [List.filterMap_cons, hd]
      exact da_one hv
    · refine ⟨hi', F', us, sF.trans sF', c', s12 _ _ hus, by omega, ?_⟩
      rw [List.range_succ, List.filterMap_append]
      show DpAll K F' us (_ ++ [i].filterMap d)
      rw [List.filterMap_cons, hd]
      show DpAll K F' us (_ ++ [])
      rw [List.append_nil]
      exact dps_same sF' hda
  · obtain ⟨_, F, us, sF, c, hus, hul, hda⟩ := h
    exact z D H1 us c.same (s0.free hD) hus (dps_same c.ext hda)
/-- [e for g in xs if t]: what the items are, as data; D is the list in the making -/
theorem s_lcF {g : TG} {tt : TT} {te tl : TE} {vs : List Nat} {xs : List V} (d : Nat → Option PyData) (hl : xs.length ≤ 100000) (ha : ∀ R : VK, (∀ a H1, Same H H1 → SqL K H1 a xs → R (.ref a) H1) → tl σ H R)
    (hs : ∀ (i : Nat) x D F H1 (Rs : VK) (Rn : Hp → Prop), xs[i]? = some x → Act H F H1 [D] → (∀ v F' H2 dd, Same F F' → Act H F' H2 [D] → Same H1 H2 → d i = some dd → Dp K F' v dd → Rs v H2) → (∀ F' H2, Same F F' → Act H F' H2 [D] → Same H1 H2 → d i = none → Rn H2) →
      g x (wipe σ vs) H1 fun σ2 H2 => wipe σ2 vs = wipe σ vs ∧ tt σ2 H2 fun b H3 => if b = true then te σ2 H3 Rs else Rn H3)
    (z : ∀ p F H1 us, Act H F H1 [p] → H1 p = some (.lst us) → DpAll K F us ((List.range xs.length).filterMap d) → us.length ≤ xs.length → Q (.ref p) H1) : tLc (iList K tl) g tt te vs σ H Q := by
  refine ha _ fun a H0 s0 hx => ⟨a, rfl, ⟨xs, hx⟩, fun D hD => ?_⟩
  have c0 : Act H H0 (upd H0 D (.lst [])) [D] := ⟨s0, same_upd hD, fun b hb => by cases List.mem_singleton.mp hb; exact ⟨hD, _, upd_same⟩, List.nodup_cons.mpr ⟨List.not_mem_nil, List.nodup_nil⟩⟩
  refine lc_list (xs := xs) (fun i H' => i ≤ xs.length ∧ ∃ F us, Same H0 F ∧ Act H F H' [D] ∧ H' D = some (.lst us) ∧ us.length ≤ i ∧ DpAll K F us ((List.range i).filterMap d)) ⟨Nat.zero_le _, H0, [], Same.refl _, c0, upd_same, Nat.le_refl _, .nil⟩ (fun i H' _ h => ?_) (fun i x H1 hi h => ?_) (fun H1 h => ?_)
  · obtain ⟨_, F, us, sF, c, _⟩ := h
    exact c.ext.seq (sF.seq hx)
  · obtain ⟨_, F, us, sF, c, hus, hul, hda⟩ := h
    have hi' : i < xs.length := (List.getElem?_eq_some_iff.mp hi).1
    refine hs i x D F H1 _ _ hi c (fun v F' H2 dd sF' c' s12 hd hv => ?_) (fun F' H2 sF' c' s12 hd => ?_)
    · refine ⟨us, s12 _ _ hus, small5' (by omega), hi', F', us ++ [v], sF.trans sF', c'.upd (by simp), upd_same, by rw [List.length_append, List.length_singleton]; omega, ?_⟩
      rw [List.range_succ, List.filterMap_append]
      refine da_app (dps_same sF' hda) ?_
      show DpAll K F' [v] ([i].filterMap d)
      rw [List.filterMap_cons, hd]
      exact da_one hv
    · refine ⟨hi', F', us, sF.trans sF', c', s12 _ _ hus, by omega, ?_⟩
      rw [List.range_succ, List.filterMap_append]
      show DpAll K F' us (_ ++ [i].filterMap d)
      rw [List.filterMap_cons, hd]
      show DpAll K F' us (_ ++ [])
      rw [List.append_nil]
      exact dps_same sF' hda
  · obtain ⟨_, F, us, sF, c, hus, hul, hda⟩ := h
    exact z D F H1 us c hus hda hul
theorem range_bind {α β : Type} (xs : List α) (f : α → Option β) : ∀ n, (List.range n).filterMap (fun i => (xs[i]?).bind f) = (xs.take n).filterMap f
  | 0 => rfl
  | n + 1 => by
    rw [List.range_succ, List.filterMap_append, range_bind xs f n, List.take_add_one, List.filterMap_append]
    congr 1
    cases h : xs[n]? with
    | none => simp [h]
    | some x => cases hf : f x <;> simp [h, hf]
theorem range_items {α β : Type} (xs : List α) (f : α → Option β) : (List.range xs.length).filterMap (fun i => (xs[i]?).bind f) = xs.filterMap f := by
  rw [range_bind, List.take_length]
theorem filterMap_some {α β : Type} (xs : List α) (f : α → β) : xs.filterMap (fun x => some (f x)) = xs.map f := by
  induction xs with
  | nil => rfl
  | cons x xs ih => rw [List.filterMap_cons, ih]; rfl
end
section
variable {K : PySem.W.Frag} {σ : L2.St} {H : Hp} {nx bk ct : L2.St → Hp → Prop} {rt : VK} {tu : TS}
/-- a loop over a list that is made for it somehow -/
theorem s_forN2 {k : Nat} {tl : TE} {xs : List V} (Pv : Nat → L2.St → Hp → Prop) (ha : ∀ R : VK, (∀ a H1, Same H H1 → H a = none → H1 a = some (.lst xs) → R (.ref a) H1) → tl σ H R) (h0 : ∀ H1, Same H H1 → Pv 0 σ H1)
    (hs : ∀ (i : Nat) x σ' H', xs[i]? = some x → Pv i σ' H' → tu ⟨fun σ2 H2 => Same H' H2 ∧ Pv (i + 1) σ2 H2, rt, nx, fun σ2 H2 => Same H' H2 ∧ Pv (i + 1) σ2 H2⟩ (σ'.set k (some x)) H') (hd : ∀ σ' H', Pv xs.length σ' H' → nx σ' H') : tFor (iList K tl) (gName k) tu ⟨nx, rt, bk, ct⟩ σ H := by
  refine ha _ fun a H1 s1 na h1 => ⟨a, rfl, ⟨xs, .inl (.inl h1)⟩, ?_⟩
  refine ⟨fun i m σ' H' => m = xs.length - i ∧ i ≤ xs.length ∧ H' a = some (.lst xs) ∧ Pv i σ' H', ⟨xs.length, by simp, Nat.zero_le _, h1, h0 H1 s1⟩, ?_⟩
  rintro i m σ' H2 ⟨rfl, hi, hq, q⟩
  by_cases hlt : i < xs.length
  · refine .inr ⟨⟨xs, xs[i], .inl (.inl hq), by simp [hlt]⟩, fun σ2 H3 => Same H2 H3 ∧ Pv (i + 1) σ2 H3, fun σ3 H3 q' => ⟨xs.length - (i + 1), by omega, rfl, hlt, q'.1 _ _ hq, q'.2⟩, fun x H3 y => ?_⟩
    obtain ⟨rfl, hx⟩ := y
    exact hs i x σ' _ (hx xs (.inl (.inl hq))) q
  · have e : i = xs.length := by omega
    subst e
    exact .inl ⟨⟨xs, .inl (.inl hq), Nat.le_refl _⟩, hd σ' H2 q⟩
end
theorem s_yes {σ : L2.St} {H : Hp} {T : Bool → Hp → Prop} (z : T true H) : tYes σ H T := z
end Jl

/-! Wholes: what they are, how a law makes one. -/
namespace Jl
open PySem L2
abbrev Part := Int × List Int
abbrev Lea := Int × Str × Int
structure Wh where
  step : Int
  size : Int
  entry : Int
  parts : List Part
  leans : List Lea
def partD (p : Part) : PyData := .tuple [.int p.1, .list (p.2.map PyData.int)]
def leanD (l : Lea) : PyData := .tuple [.int l.1, .str l.2.1, .int l.2.2]
def whD (w : Wh) : PyData := .tuple [.int w.step, .int w.size, .int w.entry, .list (w.parts.map partD), .list (w.leans.map leanD)]
def isRule (t : Str) : Prop := t = "whole" ∨ t = "high" ∨ t = "low"
def posW (pl : Int) : List Int → List (Int × Int)
  | [] => []
  | w :: ws => (pl, w) :: posW (pl + 1) ws
def wordsAt (ps : List Part) : List (Int × Int) := ps.flatMap fun p => posW p.1 p.2
def endOf (ps : List Part) : Int := match ps.getLast? with
  | none => 0
  | some p => p.1 + (p.2.length : Int)
theorem posW_app (pl : Int) : ∀ a b : List Int, posW pl (a ++ b) = posW pl a ++ posW (pl + (a.length : Int)) b := by
  intro a
  induction a generalizing pl with
  | nil => intro b; show posW pl b = [] ++ posW (pl + 0) b; rw [Int.add_zero]; rfl
  | cons w a ih =>
    intro b
    show (pl, w) :: posW (pl + 1) (a ++ b) = (pl, w) :: (posW (pl + 1) a ++ posW (pl + ((a.length + 1 : Nat) : Int)) b)
    rw [ih, show pl + 1 + (a.length : Int) = pl + ((a.length + 1 : Nat) : Int) by omega]
theorem posW_len (pl : Int) : ∀ a : List Int, (posW pl a).length = a.length := by
  intro a
  induction a generalizing pl with
  | nil => rfl
  | cons w a ih => show (posW (pl + 1) a).length + 1 = a.length + 1; rw [ih]
theorem wordsAt_part (ps : List Part) (pl : Int) : wordsAt (ps ++ [(pl, [])]) = wordsAt ps := by
  unfold wordsAt
  rw [List.flatMap_append]
  show _ ++ [] = _
  rw [List.append_nil]
theorem wordsAt_word (ps : List Part) (pl w : Int) (ws : List Int) : wordsAt (ps ++ [(pl, ws ++ [w])]) = wordsAt (ps ++ [(pl, ws)]) ++ [(pl + (ws.length : Int), w)] := by
  unfold wordsAt
  rw [List.flatMap_append, List.flatMap_append]
  show _ ++ (posW pl (ws ++ [w]) ++ []) = _ ++ (posW pl ws ++ []) ++ _
  rw [posW_app, List.append_nil, List.append_nil, List.append_assoc]
  rfl
theorem endOf_app (ps : List Part) (pl : Int) (ws : List Int) : endOf (ps ++ [(pl, ws)]) = pl + (ws.length : Int) := by
  unfold endOf
  rw [List.getLast?_append]
  rfl
/-- what is so of the parts and the leans of a whole in the making, n numbers gone -/
structure Fit (n : Nat) (ps : List Part) (ls : List Lea) : Prop where
  inc : ((wordsAt ps).map (·.1)).Pairwise (· < ·)
  low : ∀ x ∈ wordsAt ps, 0 ≤ x.1 ∧ x.1 < endOf ps ∧ 0 ≤ x.2 ∧ x.2 < 4294967296
  end0 : 0 ≤ endOf ps
  end1 : endOf ps ≤ 10000001 * n
  linc : (ls.map (·.1)).Pairwise (· < ·)
  lat : ∀ l ∈ ls, l.1 ∈ (wordsAt ps).map (·.1)
  lok : ∀ l ∈ ls, isRule l.2.1 ∧ -(10 ^ 11) ≤ l.2.2 ∧ l.2.2 ≤ 10 ^ 11
  np : ps.length ≤ n
  nl : ls.length ≤ n
  nw : (wordsAt ps).length ≤ n
  ppos : ∀ p ∈ ps, 0 ≤ p.1
theorem Fit.nil : Fit 0 [] [] where
  inc := List.Pairwise.nil
  low := fun _ h => by simp [wordsAt] at h
  end0 := Int.le_refl _
  end1 := Int.le_refl _
  linc := List.Pairwise.nil
  lat := fun _ h => by cases h
  lok := fun _ h => by cases h
  np := Nat.le_refl _
  nl := Nat.le_refl _
  nw := Nat.le_refl _
  ppos := fun _ h => by cases h
theorem Fit.part {n : Nat} {ps : List Part} {ls : List Lea} (h : Fit n ps ls) {pl : Int} (h1 : endOf ps ≤ pl) (h2 : pl < endOf ps + 10000000) : Fit (n + 1) (ps ++ [(pl, [])]) ls := by
  have e := endOf_app ps pl []
  have e0 : (([] : List Int).length : Int) = 0 := rfl
  rw [e0] at e
  have h3 := h.end0
  have h4 := h.end1
  refine ⟨by rw [wordsAt_part]; exact h.inc, fun x hx => ?_, by omega, by omega, h.linc, by rw [wordsAt_part]; exact h.lat, h.lok, ?_, Nat.le_succ_of_le h.nl, by rw [wordsAt_part]; exact Nat.le_succ_of_le h.nw, fun p hp => ?_⟩
  · rw [wordsAt_part] at hx
    have := h.low x hx
    omega
  · rw [List.length_append]; exact Nat.succ_le_succ h.np
  · rcases List.mem_append.mp hp with hp | hp
    · exact h.ppos p hp
    · cases List.mem_singleton.mp hp
      show 0 ≤ pl
      omega
theorem Fit.word {n : Nat} {ps : List Part} {ls ls' : List Lea} {pl w : Int} {ws : List Int} (h : Fit n (ps ++ [(pl, ws)]) ls) (hw : 0 ≤ w ∧ w < 4294967296)
    (hl : ls' = ls ∨ ∃ t g, ls' = ls ++ [(endOf (ps ++ [(pl, ws)]), t, g)] ∧ isRule t ∧ -(10 ^ 11) ≤ g ∧ g ≤ 10 ^ 11) : Fit (n + 1) (ps ++ [(pl, ws ++ [w])]) ls' := by
  have e1 := endOf_app ps pl ws
  have e2 := endOf_app ps pl (ws ++ [w])
  rw [List.length_append] at e2
  have e3 : ([w] : List Int).length = 1 := rfl
  have h3 := h.end0
  have h4 := h.end1
  have hm : (wordsAt (ps ++ [(pl, ws ++ [w])])).map (·.1) = (wordsAt (ps ++ [(pl, ws)])).map (·.1) ++ [pl + (ws.length : Int)] := by rw [wordsAt_word, List.map_append]; rfl
  have hlt : ∀ x ∈ (wordsAt (ps ++ [(pl, ws)])).map (·.1), x < pl + (ws.length : Int) := fun x hx => by
    obtain ⟨y, hy, rfl⟩ := List.mem_map.mp hx
    have := (h.low y hy).2.1
    omega
  refine ⟨?_, fun x hx => ?_, by omega, by omega, ?_, fun l hl' => ?_, fun l hl' => ?_, ?_, ?_, ?_, fun p hp => ?_⟩
  · rw [hm, List.pairwise_append]
    exact ⟨h.inc, List.pairwise_singleton _ _, fun x hx y hy => by cases List.mem_singleton.mp hy; exact hlt x hx⟩
  · rw [wordsAt_word] at hx
    rcases List.mem_append.mp hx with hx | hx
    · have := h.low x hx
      omega
    · cases List.mem_singleton.mp hx
      show 0 ≤ pl + (ws.length : Int) ∧ pl + (ws.length : Int) < _ ∧ 0 ≤ w ∧ w < 4294967296
      omega
  · rcases hl with rfl | ⟨t, g, rfl, _⟩
    · exact h.linc
    · rw [List.map_append, List.pairwise_append]
      refine ⟨h.linc, List.pairwise_singleton _ _, fun x hx y hy => ?_⟩
      obtain ⟨l, hl, rfl⟩ := List.mem_map.mp hx
      cases List.mem_singleton.mp hy
      show l.1 < endOf (ps ++ [(pl, ws)])
      have := hlt _ (h.lat l hl)
      omega
  · rw [hm]
    rcases hl with rfl | ⟨t, g, rfl, _⟩
    · exact List.mem_append_left _ (h.lat l hl')
    · rcases List.mem_append.mp hl' with hl' | hl'
      · exact List.mem_append_left _ (h.lat l hl')
      · cases List.mem_singleton.mp hl'
        refine List.mem_append_right _ ?_
        show endOf (ps ++ [(pl, ws)]) ∈ _
        rw [e1]; exact List.mem_singleton.mpr rfl
  · rcases hl with rfl | ⟨t, g, rfl, h5⟩
    · exact h.lok l hl'
    · rcases List.mem_append.mp hl' with hl' | hl'
      · exact h.lok l hl'
      · cases List.mem_singleton.mp hl'
        exact h5
  · have := h.np
    rw [List.length_append] at this ⊢
    have e4 : ([(pl, ws)] : List Part).length = 1 := rfl
    have e5 : ([(pl, ws ++ [w])] : List Part).length = 1 := rfl
    omega
  · have := h.nl
    rcases hl with rfl | ⟨t, g, rfl, _⟩
    · omega
    · rw [List.length_append]
      have e4 : ([(endOf (ps ++ [(pl, ws)]), t, g)] : List Lea).length = 1 := rfl
      omega
  · have := h.nw
    rw [wordsAt_word, List.length_append]
    exact Nat.succ_le_succ this
  · rcases List.mem_append.mp hp with hp | hp
    · exact h.ppos p (List.mem_append_left _ hp)
    · cases List.mem_singleton.mp hp
      exact h.ppos (pl, ws) (List.mem_append_right _ (List.mem_singleton.mpr rfl))
/-- a whole that a law has made -/
structure Good (most : Int) (w : Wh) : Prop where
  fit : Fit 63 w.parts w.leans
  size0 : endOf w.parts ≤ w.size
  size1 : w.size ≤ most
  entry : 0 ≤ w.entry ∧ w.entry ≤ w.size
  step : ∃ k : Nat, k ≤ 16 ∧ w.step = 2 ^ k
/-! the shape of such data -/
theorem rule_lay {t : Str} (h : isRule t) : (PyData.str t).canLay0 = true := by
  rcases h with rfl | rfl | rfl <;> decide +kernel
theorem partD_ok (p : Part) : (partD p).canLay0 = true ∧ (partD p).depth ≤ 3 := by
  refine ⟨?_, ?_⟩
  · show (true && (PyData.canLayAll0 (p.2.map PyData.int) && true)) = true
    rw [lay_ints]; rfl
  · have := depth_ints p.2
    show max 0 (max (PyData.depthAll (p.2.map PyData.int) + 1) 0) + 1 ≤ 3
    omega
theorem leanD_ok {l : Lea} (h : isRule l.2.1) : (leanD l).canLay0 = true ∧ (leanD l).depth ≤ 3 := by
  refine ⟨?_, ?_⟩
  · show (true && ((PyData.str l.2.1).canLay0 && (true && true))) = true
    rw [rule_lay h]; rfl
  · show max 0 (max 0 (max 0 0)) + 1 ≤ 3
    omega
theorem parts_shaped (ps : List Part) : SeqAt.shaped (.list (ps.map partD)) = true := by
  refine shaped_of (lay_all fun d hd => ?_) (Nat.le_trans (depth_list (n := 3) fun d hd => ?_) (by decide))
  · obtain ⟨p, _, rfl⟩ := List.mem_map.mp hd
    exact (partD_ok p).1
  · obtain ⟨p, _, rfl⟩ := List.mem_map.mp hd
    exact (partD_ok p).2
theorem leans_shaped {ls : List Lea} (h : ∀ l ∈ ls, isRule l.2.1) : SeqAt.shaped (.list (ls.map leanD)) = true := by
  refine shaped_of (lay_all fun d hd => ?_) (Nat.le_trans (depth_list (n := 3) fun d hd => ?_) (by decide))
  · obtain ⟨p, hp, rfl⟩ := List.mem_map.mp hd
    exact (leanD_ok (h p hp)).1
  · obtain ⟨p, hp, rfl⟩ := List.mem_map.mp hd
    exact (leanD_ok (h p hp)).2
theorem whD_shaped {w : Wh} (h : ∀ l ∈ w.leans, isRule l.2.1) : SeqAt.shaped (whD w) = true := by
  have h1 := parts_shaped w.parts
  have h2 := leans_shaped h
  refine shaped_of ?_ (Nat.le_trans (depth_tuple (n := 63) fun d hd => ?_) (by decide))
  · show (true && (true && (true && ((PyData.list (w.parts.map partD)).canLay0 && ((PyData.list (w.leans.map leanD)).canLay0 && true))))) = true
    rw [SeqAt.canLay_of_shaped h1, SeqAt.canLay_of_shaped h2]; rfl
  · simp only [List.mem_cons, List.not_mem_nil, or_false] at hd
    rcases hd with rfl | rfl | rfl | rfl | rfl
    · exact Nat.zero_le _
    · exact Nat.zero_le _
    · exact Nat.zero_le _
    · refine Nat.le_trans (depth_list (n := 3) fun d hd => ?_) (by decide)
      obtain ⟨p, hp, rfl⟩ := List.mem_map.mp hd
      exact (partD_ok p).2
    · refine Nat.le_trans (depth_list (n := 3) fun d hd => ?_) (by decide)
      obtain ⟨p, hp, rfl⟩ := List.mem_map.mp hd
      exact (leanD_ok (h p hp)).2
section
variable {K : PySem.W.Frag} {H H' B F : Hp} {P L t : Addr} {X : List Addr} {ps : List Part} {ls : List Lea} {Q : VK} {p q : Addr} {ds : List PyData}
theorem s_eqNilD (h1 : Dp K H (.ref p) (.list ds)) (hs : SeqAt.shaped (.list ds) = true) (h2 : H q = some (.lst [])) (z : Q (.bl (decide (ds = []))) H) : rEqD K (.ref p) (.ref q) H Q := by
  refine ⟨_, .list [], h1, .lst (.inl (.inl h2)) .nil, hs, by decide +kernel, ?_⟩
  cases ds with
  | nil => exact z
  | cons d ds => exact z
/-- the parts and the leans in the making: P, L and the last part's words are still written -/
def BW (K : PySem.W.Frag) (B F H : Hp) (P L : Addr) (X : List Addr) (ps : List Part) (ls : List Lea) : Prop :=
  (∃ vs, H L = some (.lst vs) ∧ DpAll K F vs (ls.map leanD)) ∧
  ((ps = [] ∧ H P = some (.lst []) ∧ Act B F H (P :: L :: X)) ∨
    ∃ ps0 pl ws xs t W, ps = ps0 ++ [(pl, ws)] ∧ H P = some (.lst (xs ++ [.ref t])) ∧ F t = some (.tup [.int pl, .ref W]) ∧ H W = some (.lst (ws.map V.int)) ∧ DpAll K F xs (ps0.map partD) ∧ Act B F H (W :: P :: L :: X))
theorem BW.same (h : BW K B F H P L X ps ls) (e : Same H H') : BW K B F H' P L X ps ls := by
  obtain ⟨⟨vs, h1, h2⟩, h⟩ := h
  refine ⟨⟨vs, e _ _ h1, h2⟩, ?_⟩
  rcases h with ⟨rfl, h3, c⟩ | ⟨ps0, pl, ws, xs, t, W, rfl, h3, h4, h5, h6, c⟩
  · exact .inl ⟨rfl, e _ _ h3, c.sm e⟩
  · exact .inr ⟨ps0, pl, ws, xs, t, W, rfl, e _ _ h3, h4, e _ _ h5, h6, c.sm e⟩
theorem BW.ext (h : BW K B F H P L X ps ls) : Same F H := by
  rcases h.2 with ⟨_, _, c⟩ | ⟨_, _, _, _, _, _, _, _, _, _, _, c⟩ <;> exact c.ext
theorem BW.base (h : BW K B F H P L X ps ls) : Same B F := by
  rcases h.2 with ⟨_, _, c⟩ | ⟨_, _, _, _, _, _, _, _, _, _, _, c⟩ <;> exact c.base
theorem BW.dpP (h : BW K B F H P L X ps ls) : Dp K H (.ref P) (.list (ps.map partD)) := by
  have e := h.ext
  rcases h.2 with ⟨rfl, h3, c⟩ | ⟨ps0, pl, ws, xs, t, W, rfl, h3, h4, h5, h6, c⟩
  · exact .lst (.inl (.inl h3)) .nil
  · refine .lst (.inl (.inl h3)) ?_
    rw [List.map_append]
    refine da_app (dps_same e h6) (da_one ?_)
    exact .tup (.inl (.inl (e _ _ h4))) (.cons (.int _) (.cons (dp_intL (.inl (.inl h5))) .nil))
theorem BW.dpL (h : BW K B F H P L X ps ls) : Dp K H (.ref L) (.list (ls.map leanD)) := by
  obtain ⟨vs, h1, h2⟩ := h.1
  exact .lst (.inl (.inl h1)) (dps_same h.ext h2)
theorem same_old {H0 : Hp} {o : HO} (e : Same H0 H) (h : H0 p = none) : Same H0 (upd H p o) := same_mut e h
/-- a part is put behind -/
theorem BW.part (h : BW K B F H P L X ps ls) {W t : Addr} {pl : Int} (hW : H W = none) (ht : upd H W (.lst []) t = none) : ∃ vs, H P = some (.lst vs) ∧ vs.length = ps.length ∧ (upd (upd H W (.lst [])) t (.tup [.int pl, .ref W])) P = some (.lst vs) ∧
    ∃ F', Same F F' ∧ BW K B F' (upd (upd (upd H W (.lst [])) t (.tup [.int pl, .ref W])) P (.lst (vs ++ [.ref t]))) P L X (ps ++ [(pl, [])]) ls := by
  obtain ⟨⟨us, h1, h2⟩, h⟩ := h
  rcases h with ⟨rfl, h3, c⟩ | ⟨ps0, pl0, ws, xs, t0, W0, rfl, h3, h4, h5, h6, c⟩
  · have c1 := c.newA (o := .lst []) hW
    have c2 := c1.new (o := .tup [.int pl, .ref W]) ht
    have c3 := c2.upd (a := P) (o := .lst ([] ++ [.ref t])) (by simp)
    have hF := same_upd (o := .tup [.int pl, .ref W]) (c1.ext.free ht)
    have nd := c2.nd
    have f2 : (upd (upd H W (.lst [])) t (.tup [.int pl, .ref W])) P = some (.lst []) := Same.trans (same_upd hW) (same_upd ht) _ _ h3
    have g2 : (upd (upd H W (.lst [])) t (.tup [.int pl, .ref W])) L = some (.lst us) := Same.trans (same_upd hW) (same_upd ht) _ _ h1
    have w2 : (upd (upd H W (.lst [])) t (.tup [.int pl, .ref W])) W = some (.lst []) := same_upd ht _ _ upd_same
    refine ⟨[], h3, rfl, f2, _, hF, ⟨us, ?_, dps_same hF h2⟩, .inr ⟨[], pl, [], [], t, W, rfl, upd_same, upd_same, ?_, .nil, c3⟩⟩
    · rw [upd_ne (nd_ne nd 1 2 (by decide) rfl rfl).symm]; exact g2
    · rw [upd_ne (nd_ne nd 0 1 (by decide) rfl rfl)]; exact w2
  · have c0 := c.fz h5
    have hF0 := c.fz_same (o := .lst (ws.map V.int))
    have c1 := c0.newA (o := .lst []) hW
    have c2 := c1.new (o := .tup [.int pl, .ref W]) ht
    have c3 := c2.upd (a := P) (o := .lst (xs ++ [.ref t0] ++ [.ref t])) (by simp)
    have hF1 := same_upd (o := .tup [.int pl, .ref W]) (c1.ext.free ht)
    have hF := hF0.trans hF1
    have nd := c2.nd
    have f2 : (upd (upd H W (.lst [])) t (.tup [.int pl, .ref W])) P = some (.lst (xs ++ [.ref t0])) := Same.trans (same_upd hW) (same_upd ht) _ _ h3
    have g2 : (upd (upd H W (.lst [])) t (.tup [.int pl, .ref W])) L = some (.lst us) := Same.trans (same_upd hW) (same_upd ht) _ _ h1
    have w2 : (upd (upd H W (.lst [])) t (.tup [.int pl, .ref W])) W = some (.lst []) := same_upd ht _ _ upd_same
    refine ⟨xs ++ [.ref t0], h3, ?_, f2, _, hF, ⟨us, ?_, dps_same hF h2⟩, .inr ⟨ps0 ++ [(pl0, ws)], pl, [], xs ++ [.ref t0], t, W, rfl, upd_same, upd_same, ?_, ?_, c3⟩⟩
    · have := da_len h6
      rw [List.length_map] at this
      rw [List.length_append, List.length_append, this]; rfl
    · rw [upd_ne (nd_ne nd 1 2 (by decide) rfl rfl).symm]; exact g2
    · rw [upd_ne (nd_ne nd 0 1 (by decide) rfl rfl)]; exact w2
    · rw [List.map_append]
      refine da_app (dps_same hF h6) (da_one ?_)
      exact .tup (.inl (.inl (hF _ _ h4))) (.cons (.int _) (.cons (dp_intL (.inl (.inl (hF1 _ _ upd_same)))) .nil))
/-- a word is put behind -/
theorem BW.word {ps0 : List Part} {pl : Int} {ws : List Int} (h : BW K B F H P L X (ps0 ++ [(pl, ws)]) ls) : ∃ xs t W, H P = some (.lst (xs ++ [.ref t])) ∧ H t = some (.tup [.int pl, .ref W]) ∧ H W = some (.lst (ws.map V.int)) ∧
    ∀ w : Int, BW K B F (upd H W (.lst (ws.map V.int ++ [.int w]))) P L X (ps0 ++ [(pl, ws ++ [w])]) ls := by
  obtain ⟨⟨us, h1, h2⟩, h⟩ := h
  rcases h with ⟨e, _⟩ | ⟨ps1, pl1, ws1, xs, t0, W0, e, h3, h4, h5, h6, c⟩
  · cases ps0 <;> cases e
  · obtain ⟨rfl, e2⟩ := List.append_inj' e rfl
    cases e2
    refine ⟨xs, t0, W0, h3, c.ext _ _ h4, h5, fun w => ⟨⟨us, ?_, h2⟩, .inr ⟨ps0, pl, ws ++ [w], xs, t0, W0, rfl, ?_, h4, ?_, h6, c.upd (by simp)⟩⟩⟩
    · rw [upd_ne (nd_ne c.nd 0 2 (by decide) rfl rfl).symm]; exact h1
    · rw [upd_ne (nd_ne c.nd 0 1 (by decide) rfl rfl).symm]; exact h3
    · rw [upd_same, List.map_append]; rfl
/-- a lean is put behind -/
theorem BW.lean (h : BW K B F H P L X ps ls) {t : Addr} {a b : Int} {z : Str} (ht : H t = none) : ∃ vs, H L = some (.lst vs) ∧ vs.length = ls.length ∧ (upd H t (.tup [.int a, .str z, .int b])) L = some (.lst vs) ∧
    ∃ F', Same F F' ∧ F' t = some (.tup [.int a, .str z, .int b]) ∧ BW K B F' (upd (upd H t (.tup [.int a, .str z, .int b])) L (.lst (vs ++ [.ref t]))) P L X ps (ls ++ [(a, z, b)]) := by
  obtain ⟨⟨us, h1, h2⟩, h⟩ := h
  have hl := da_len h2
  rw [List.length_map] at hl
  have g2 : (upd H t (.tup [.int a, .str z, .int b])) L = some (.lst us) := same_upd ht _ _ h1
  rcases h with ⟨rfl, h3, c⟩ | ⟨ps0, pl0, ws, xs, t0, W0, rfl, h3, h4, h5, h6, c⟩
  · have c2 := c.new (o := .tup [.int a, .str z, .int b]) ht
    have c3 := c2.upd (a := L) (o := .lst (us ++ [.ref t])) (by simp)
    have hF := same_upd (o := .tup [.int a, .str z, .int b]) (c.ext.free ht)
    refine ⟨us, h1, hl, g2, _, hF, upd_same, ⟨_, upd_same, ?_⟩, .inl ⟨rfl, ?_, c3⟩⟩
    · rw [List.map_append]
      exact da_app (dps_same hF h2) (da_one (.tup (.inl (.inl upd_same)) (.cons (.int _) (.cons (.str _) (.cons (.int _) .nil)))))
    · rw [upd_ne (nd_ne c.nd 0 1 (by decide) rfl rfl)]; exact same_upd ht _ _ h3
  · have c2 := c.new (o := .tup [.int a, .str z, .int b]) ht
    have c3 := c2.upd (a := L) (o := .lst (us ++ [.ref t])) (by simp)
    have hF := same_upd (o := .tup [.int a, .str z, .int b]) (c.ext.free ht)
    refine ⟨us, h1, hl, g2, _, hF, upd_same, ⟨_, upd_same, ?_⟩, .inr ⟨ps0, pl0, ws, xs, t0, W0, rfl, ?_, hF _ _ h4, ?_, dps_same hF h6, c3⟩⟩
    · rw [List.map_append]
      exact da_app (dps_same hF h2) (da_one (.tup (.inl (.inl upd_same)) (.cons (.int _) (.cons (.str _) (.cons (.int _) .nil)))))
    · rw [upd_ne (nd_ne c.nd 1 2 (by decide) rfl rfl)]; exact same_upd ht _ _ h3
    · rw [upd_ne (nd_ne c.nd 0 2 (by decide) rfl rfl)]; exact same_upd ht _ _ h5
/-- an object beside is new, or one of X is written -/
theorem BW.new (h : BW K B F H P L X ps ls) {p : Addr} {o : HO} (hp : H p = none) : BW K B (upd F p o) (upd H p o) P L X ps ls ∧ Same F (upd F p o) := by
  have hF := same_upd (o := o) (h.ext.free hp)
  obtain ⟨⟨us, h1, h2⟩, h⟩ := h
  refine ⟨⟨⟨us, same_upd hp _ _ h1, dps_same hF h2⟩, ?_⟩, hF⟩
  rcases h with ⟨rfl, h3, c⟩ | ⟨ps0, pl0, ws, xs, t0, W0, rfl, h3, h4, h5, h6, c⟩
  · exact .inl ⟨rfl, same_upd hp _ _ h3, c.new hp⟩
  · exact .inr ⟨ps0, pl0, ws, xs, t0, W0, rfl, same_upd hp _ _ h3, hF _ _ h4, same_upd hp _ _ h5, dps_same hF h6, c.new hp⟩
theorem BW.newX (h : BW K B F H P L X ps ls) {p : Addr} {o : HO} (hp : H p = none) : BW K B F (upd H p o) P L (p :: X) ps ls := by
  obtain ⟨⟨us, h1, h2⟩, h⟩ := h
  refine ⟨⟨us, same_upd hp _ _ h1, h2⟩, ?_⟩
  rcases h with ⟨rfl, h3, c⟩ | ⟨ps0, pl0, ws, xs, t0, W0, rfl, h3, h4, h5, h6, c⟩
  · exact .inl ⟨rfl, same_upd hp _ _ h3, (c.newA hp).perm ((List.Perm.swap ..).trans ((List.Perm.swap ..).cons _))⟩
  · exact .inr ⟨ps0, pl0, ws, xs, t0, W0, rfl, same_upd hp _ _ h3, h4, same_upd hp _ _ h5, h6, (c.newA hp).perm ((List.Perm.swap ..).trans (((List.Perm.swap ..).trans ((List.Perm.swap ..).cons _)).cons _))⟩
theorem BW.updX (h : BW K B F H P L X ps ls) {p : Addr} {o : HO} (hp : p ∈ X) : BW K B F (upd H p o) P L X ps ls := by
  obtain ⟨⟨us, h1, h2⟩, h⟩ := h
  rcases h with ⟨rfl, h3, c⟩ | ⟨ps0, pl0, ws, xs, t0, W0, rfl, h3, h4, h5, h6, c⟩
  · have nd := c.nd
    simp only [List.nodup_cons, List.mem_cons, not_or] at nd
    refine ⟨⟨us, ?_, h2⟩, .inl ⟨rfl, ?_, c.upd (by simp [hp])⟩⟩
    · rw [upd_ne fun e => nd.2.1 (by rw [e]; exact hp)]; exact h1
    · rw [upd_ne fun e => nd.1.2 (by rw [e]; exact hp)]; exact h3
  · have nd := c.nd
    simp only [List.nodup_cons, List.mem_cons, not_or] at nd
    refine ⟨⟨us, ?_, h2⟩, .inr ⟨ps0, pl0, ws, xs, t0, W0, rfl, ?_, h4, ?_, h6, c.upd (by simp [hp])⟩⟩
    · rw [upd_ne fun e => nd.2.2.1 (by rw [e]; exact hp)]; exact h1
    · rw [upd_ne fun e => nd.2.1.2 (by rw [e]; exact hp)]; exact h3
    · rw [upd_ne fun e => nd.1.2.2 (by rw [e]; exact hp)]; exact h5
/-- one of X is written no more -/
theorem BW.fzX {p : Addr} {o : HO} (h : BW K B F H P L (p :: X) ps ls) (hp : H p = some o) : BW K B (upd F p o) H P L X ps ls ∧ Same F (upd F p o) := by
  obtain ⟨⟨us, h1, h2⟩, h⟩ := h
  rcases h with ⟨rfl, h3, c⟩ | ⟨ps0, pl0, ws, xs, t0, W0, rfl, h3, h4, h5, h6, c⟩
  · have c1 := c.perm (((List.Perm.swap p L X).cons P).trans (List.Perm.swap ..))
    have hF := c1.fz_same (o := o)
    exact ⟨⟨⟨us, h1, dps_same hF h2⟩, .inl ⟨rfl, h3, c1.fz hp⟩⟩, hF⟩
  · have c1 := c.perm ((((List.Perm.swap p L X).cons P).trans (List.Perm.swap ..)).cons W0 |>.trans (List.Perm.swap ..))
    have hF := c1.fz_same (o := o)
    exact ⟨⟨⟨us, h1, dps_same hF h2⟩, .inr ⟨ps0, pl0, ws, xs, t0, W0, rfl, h3, hF _ _ h4, h5, dps_same hF h6, c1.fz hp⟩⟩, hF⟩
end
/-! numbers as texts -/
theorem log_ok2 {n : Int} (h1 : -(10 ^ 70) ≤ n) (h2 : n ≤ 10 ^ 70) : n.natAbs.log2 < 1920 := by
  by_cases z : n.natAbs = 0
  · rw [z]; decide
  · exact Nat.lt_of_lt_of_le ((Nat.log2_lt (k := 240) z).mpr (by omega)) (by decide)
def numT (n : Int) : Str := Str.ofString (toString n)
theorem s_strN {n : Int} {H : Hp} {Q : VK} (h1 : -(10 ^ 70) ≤ n) (h2 : n ≤ 10 ^ 70) (z : (numT n).length ≤ 1921 → Q (.str (numT n)) H) : rStrI [.int n] H Q :=
  ⟨n, rfl, log_ok2 h1 h2, z (PyProof.Rows.int_text_len_1921 (log_ok2 h1 h2))⟩
theorem two_small {k : Nat} (h : k ≤ 16) : (0 : Int) < 2 ^ k ∧ (2 : Int) ^ k ≤ 65536 := by
  have : k = 0 ∨ k = 1 ∨ k = 2 ∨ k = 3 ∨ k = 4 ∨ k = 5 ∨ k = 6 ∨ k = 7 ∨ k = 8 ∨ k = 9 ∨ k = 10 ∨ k = 11 ∨ k = 12 ∨ k = 13 ∨ k = 14 ∨ k = 15 ∨ k = 16 := by omega
  rcases this with h | h | h | h | h | h | h | h | h | h | h | h | h | h | h | h | h <;> (rw [h]; decide)
theorem Good.stepOk {most : Int} {w : Wh} (g : Good most w) : 0 < w.step ∧ w.step ≤ 65536 := by
  obtain ⟨k, hk, e⟩ := g.step
  rw [e]; exact two_small hk
theorem cutV_ints (ns : List Int) (lo hi : Option Int) : ∃ ms : List Int, cutV (ns.map V.int) lo hi = ms.map V.int ∧ ms.length ≤ ns.length := by
  refine ⟨(ns.drop (HT.sIx (ns.map V.int).length 0 lo)).take (HT.sIx (ns.map V.int).length (ns.map V.int).length hi - HT.sIx (ns.map V.int).length 0 lo), ?_, ?_⟩
  · rw [List.map_take, List.map_drop]; rfl
  · rw [List.length_take, List.length_drop]; omega
end Jl

/-! A whole loaded at a base. -/
namespace Jl
open PySem L2
/-- a dict of ints, its entries in their order -/
def DL (H : Hp) (m : Addr) (L : List (Int × Int)) : Prop := H m = some (.dK (L.map fun x => ((Sum.inl x.1 : Key), V.int x.2)))
section
variable {H H' : Hp} {m p : Addr} {L : List (Int × Int)} {a w : Int}
theorem DL.same (e : Same H H') (D : DL H m L) : DL H' m L := e _ _ D
theorem valL_some : ∀ {L : List (Int × Int)}, (L.map (·.1)).Nodup → (a, w) ∈ L → valV (L.map fun x => ((Sum.inl x.1 : Key), V.int x.2)) (Sum.inl a) = some (.int w)
  | x :: L, nd, h => by
    rw [List.map_cons]
    by_cases e : x.1 = a
    · rw [valV_pos (show (Sum.inl x.1 : Key) = Sum.inl a by rw [e])]
      rcases List.mem_cons.mp h with h | h
      · rw [← h]
      · have := (List.nodup_cons.mp nd).1
        exact absurd (List.mem_map.mpr ⟨_, h, e.symm⟩) this
    · rw [valV_neg (show ¬ (Sum.inl x.1 : Key) = Sum.inl a from fun z => e (Sum.inl.inj z))]
      rcases List.mem_cons.mp h with h | h
      · rw [← h] at e; exact absurd rfl e
      · exact valL_some (List.nodup_cons.mp nd).2 h
theorem valL_none : ∀ {L : List (Int × Int)}, a ∉ L.map (·.1) → valV (L.map fun x => ((Sum.inl x.1 : Key), V.int x.2)) (Sum.inl a) = none
  | [], _ => rfl
  | x :: L, h => by
    rw [List.map_cons] at h ⊢
    rw [valV_neg (show ¬ (Sum.inl x.1 : Key) = Sum.inl a from fun z => h (by rw [← Sum.inl.inj z]; exact List.mem_cons_self))]
    exact valL_none fun z => h (List.mem_cons_of_mem _ z)
theorem DL.get (D : DL H m L) (nd : (L.map (·.1)).Nodup) (h : (a, w) ∈ L) : DGet H m (.int a) (some (.int w)) := by
  rw [← valL_some nd h]
  exact DGet.k (k := (Sum.inl a : Key)) D
theorem DL.no (D : DL H m L) (h : a ∉ L.map (·.1)) : DGet H m (.int a) none := by
  rw [← valL_none h]
  exact DGet.k (k := (Sum.inl a : Key)) D
theorem putK_new {κ : Type} [DecidableEq κ] {kvs : List (κ × V)} {k : κ} {v : V} (h : ∀ x ∈ kvs, x.1 ≠ k) : putK kvs k v = kvs ++ [(k, v)] := by
  unfold putK
  rw [if_neg]
  intro z
  obtain ⟨x, hx, e⟩ := List.any_eq_true.mp z
  exact h x hx (of_decide_eq_true e)
theorem putK_old {κ : Type} [DecidableEq κ] {kvs : List (κ × V)} {k : κ} {v : V} (h : ∃ x ∈ kvs, x.1 = k) : putK kvs k v = kvs.map fun x => if x.1 = k then (x.1, v) else x := by
  unfold putK
  rw [if_pos]
  obtain ⟨x, hx, e⟩ := h
  exact List.any_eq_true.mpr ⟨x, hx, decide_eq_true e⟩
theorem DL.put (D : DL H m L) (h : a ∉ L.map (·.1)) (hl : L.length ≤ 99999) : ∃ o, DPut H m (.int a) (.int w) (upd H m o) ∧ DL (upd H m o) m (L ++ [(a, w)]) := by
  refine ⟨_, DPut.k (k := (Sum.inl a : Key)) (v := .int w) D (small5' (by rw [List.length_map]; omega)), ?_⟩
  rw [putK_new]
  · unfold DL
    rw [upd_same, List.map_append]; rfl
  · intro x hx e
    obtain ⟨y, hy, rfl⟩ := List.mem_map.mp hx
    exact h (List.mem_map.mpr ⟨y, hy, Sum.inl.inj e⟩)
theorem DL.set (D : DL H m L) (h : a ∈ L.map (·.1)) (hl : L.length ≤ 99999) : ∃ o, DPut H m (.int a) (.int w) (upd H m o) ∧ DL (upd H m o) m (L.map fun x => if x.1 = a then (x.1, w) else x) := by
  refine ⟨_, DPut.k (k := (Sum.inl a : Key)) (v := .int w) D (small5' (by rw [List.length_map]; omega)), ?_⟩
  rw [putK_old]
  · unfold DL
    rw [upd_same, List.map_map, List.map_map]
    congr 3
    funext x
    show (if (Sum.inl x.1 : Key) = Sum.inl a then ((Sum.inl x.1 : Key), V.int w) else (Sum.inl x.1, V.int x.2)) = _
    by_cases e : x.1 = a
    · rw [if_pos (by rw [e])]
      show _ = ((Sum.inl (if x.1 = a then (x.1, w) else x).1 : Key), V.int (if x.1 = a then (x.1, w) else x).2)
      rw [if_pos e]
    · rw [if_neg (fun z => e (Sum.inl.inj z))]
      show _ = ((Sum.inl (if x.1 = a then (x.1, w) else x).1 : Key), V.int (if x.1 = a then (x.1, w) else x).2)
      rw [if_neg e]
  · obtain ⟨y, hy, e⟩ := List.mem_map.mp h
    exact ⟨_, List.mem_map.mpr ⟨y, hy, rfl⟩, by show (Sum.inl y.1 : Key) = _; rw [e]⟩
theorem DL.new : DL (upd H m (.dK [])) m [] := upd_same
end
theorem key_uniq {a u v : Int} : ∀ {L : List (Int × Int)}, (L.map (·.1)).Nodup → (a, u) ∈ L → (a, v) ∈ L → u = v
  | x :: L, nd, h1, h2 => by
    have n := List.nodup_cons.mp nd
    rcases List.mem_cons.mp h1 with h1 | h1
    · rcases List.mem_cons.mp h2 with h2 | h2
      · cases h1.trans h2.symm; rfl
      · exact absurd (List.mem_map.mpr ⟨_, h2, by rw [← h1]⟩) n.1
    · rcases List.mem_cons.mp h2 with h2 | h2
      · exact absurd (List.mem_map.mpr ⟨_, h1, by rw [← h2]⟩) n.1
      · exact key_uniq n.2 h1 h2
theorem s_methT {σ : L2.St} {H : Hp} {Q : VK} {ta : TE} {tr : TA} {C : Addr} {m : Str} {sp : Sp} {E : XK} (z : ta σ H fun x H1 => ∃ a dx fs, x = .ref a ∧ H1 a = some (.ins C dx fs) ∧ fs.lookup m = none ∧ tr σ H1 fun vs H2 => sp (x :: vs) H2 Q E) : tMeth C m sp [] E ta tr σ H Q := by
  unfold tMeth
  simp only [List.append_nil]
  exact z
def fillR (r : Str) (w t : Int) : Int := if r = "whole" then t % 4294967296 else if r = "high" then w - w % 65536 + (t + 32768) / 65536 % 65536 else w - w % 65536 + t % 65536
def filledW (ls : List Lea) (b : Int) (x : Int × Int) : Int := match ls.find? (fun l => l.1 == x.1) with
  | none => x.2
  | some l => fillR l.2.1 x.2 (b + l.2.2)
def memOf (w : Wh) (b : Int) : List (Int × Int) := (wordsAt w.parts).map fun x => (b + x.1, filledW w.leans b x)
def fitsAt (w : Wh) (b : Int) : Prop := 1 ≤ b ∧ b % w.step = 0 ∧ b + w.size < 4294967296
theorem nodup_inc {l : List Int} (h : l.Pairwise (· < ·)) : l.Nodup := h.imp (fun h e => by omega)
theorem filled_more {ls : List Lea} {l : Lea} {b : Int} {x : Int × Int} (h : ∀ k ∈ ls, k.1 < l.1) : filledW (ls ++ [l]) b x = if x.1 = l.1 then fillR l.2.1 x.2 (b + l.2.2) else filledW ls b x := by
  unfold filledW
  rw [List.find?_append]
  by_cases e : x.1 = l.1
  · rw [if_pos e]
    have e1 : ls.find? (fun k => k.1 == x.1) = none := List.find?_eq_none.mpr fun k hk => by
      have := h k hk
      rw [e]
      simp only [beq_iff_eq]
      omega
    rw [e1]
    have e2 : [l].find? (fun k => k.1 == x.1) = some l := by
      rw [List.find?_cons, e]
      simp
    rw [e2]; rfl
  · rw [if_neg e]
    have e2 : [l].find? (fun k => k.1 == x.1) = none := by
      rw [List.find?_cons]
      have : (l.1 == x.1) = false := by simp only [beq_eq_false_iff_ne]; exact fun z => e z.symm
      rw [this]; rfl
    rw [e2]
    cases ls.find? (fun k => k.1 == x.1) <;> rfl
theorem filled_none {ls : List Lea} {b : Int} {x : Int × Int} (h : ∀ k ∈ ls, k.1 ≠ x.1) : filledW ls b x = x.2 := by
  unfold filledW
  have e1 : ls.find? (fun k => k.1 == x.1) = none := List.find?_eq_none.mpr fun k hk => by
    have := h k hk
    simpa using this
  rw [e1]
/-- the memory, some leans gone -/
def memAt (ps : List Part) (ls : List Lea) (b : Int) : List (Int × Int) := (wordsAt ps).map fun x => (b + x.1, filledW ls b x)
theorem memAt_keys (ps : List Part) (ls : List Lea) (b : Int) : (memAt ps ls b).map (·.1) = ((wordsAt ps).map (·.1)).map (b + ·) := by
  unfold memAt
  rw [List.map_map, List.map_map]; rfl
theorem memAt_nodup {n : Nat} {ps : List Part} {ls ls' : List Lea} {b : Int} (f : Fit n ps ls') : ((memAt ps ls b).map (·.1)).Nodup := by
  rw [memAt_keys]
  refine nodup_inc (List.pairwise_map.mpr (f.inc.imp fun h => ?_))
  omega
theorem memAt_set {ps : List Part} {ls : List Lea} {l : Lea} {b wd : Int} (h : ∀ k ∈ ls, k.1 < l.1) (hw : ∀ x ∈ wordsAt ps, x.1 = l.1 → x.2 = wd) :
    (memAt ps ls b).map (fun x => if x.1 = b + l.1 then (x.1, fillR l.2.1 wd (b + l.2.2)) else x) = memAt ps (ls ++ [l]) b := by
  unfold memAt
  rw [List.map_map]
  refine List.map_congr_left fun x hx => ?_
  show (if b + x.1 = b + l.1 then (b + x.1, fillR l.2.1 wd (b + l.2.2)) else (b + x.1, filledW ls b x)) = (b + x.1, filledW (ls ++ [l]) b x)
  rw [filled_more h]
  by_cases e : x.1 = l.1
  · rw [if_pos (by rw [e]), if_pos e, hw x hx e]
  · rw [if_neg (by omega), if_neg e]
theorem memAt_nil (ps : List Part) (b : Int) : memAt ps [] b = (wordsAt ps).map fun x => (b + x.1, x.2) := rfl
section
variable {K : PySem.W.Frag} {H : Hp} {x : V} {w : Wh}
theorem dp_wh (h : Dp K H x (whD w)) : ∃ t p l xs ys, x = .ref t ∧ SqT K H t [.int w.step, .int w.size, .int w.entry, .ref p, .ref l] ∧ SqL K H p xs ∧ DpAll K H xs (w.parts.map partD) ∧ SqL K H l ys ∧ DpAll K H ys (w.leans.map leanD) := by
  obtain ⟨t, u0, e0, h1, g0⟩ := dp_tup h
  obtain ⟨u1, e1, g1⟩ := da_int g0
  obtain ⟨u2, e2, g2⟩ := da_int g1
  obtain ⟨u3, e3, g3⟩ := da_int g2
  obtain ⟨v, u4, e4, h3, g4⟩ := da_cons g3
  obtain ⟨p, xs, e5, h4, h5⟩ := dp_list h3
  obtain ⟨v2, u5, e6, h6, g5⟩ := da_cons g4
  obtain ⟨l, ys, e7, h7, h8⟩ := dp_list h6
  have e8 := da_nil g5
  subst e0 e1 e2 e3 e4 e5 e6 e7 e8
  exact ⟨t, p, l, xs, ys, rfl, h1, h4, h5, h7, h8⟩
theorem dp_part {q : Part} (h : Dp K H x (partD q)) : ∃ t W, x = .ref t ∧ SqT K H t [.int q.1, .ref W] ∧ SqL K H W (q.2.map V.int) := by
  obtain ⟨t, u0, e0, h1, g0⟩ := dp_tup h
  obtain ⟨u1, e1, g1⟩ := da_int g0
  obtain ⟨v, u2, e2, h3, g2⟩ := da_cons g1
  obtain ⟨W, e3, h4⟩ := dp_intl h3
  have e4 := da_nil g2
  subst e0 e1 e2 e3 e4
  exact ⟨t, W, rfl, h1, h4⟩
theorem dp_lean {q : Lea} (h : Dp K H x (leanD q)) : ∃ t, x = .ref t ∧ SqT K H t [.int q.1, .str q.2.1, .int q.2.2] := by
  obtain ⟨t, u0, e0, h1, g0⟩ := dp_tup h
  obtain ⟨u1, e1, g1⟩ := da_int g0
  obtain ⟨u2, e2, g2⟩ := da_str g1
  obtain ⟨u3, e3, g3⟩ := da_int g2
  have e4 := da_nil g3
  subst e0 e1 e2 e3 e4
  exact ⟨t, rfl, h1⟩
end
/-- a dict with int keys, its entries in their order -/
def DV (H : Hp) (m : Addr) (L : List (Int × V)) : Prop := H m = some (.dK (L.map fun x => ((Sum.inl x.1 : Key), x.2)))
theorem valV_find (a : Int) : ∀ L : List (Int × V), valV (L.map fun x => ((Sum.inl x.1 : Key), x.2)) (Sum.inl a) = (L.find? fun x => x.1 == a).map (·.2)
  | [] => rfl
  | x :: L => by
    rw [List.map_cons, List.find?_cons]
    by_cases e : x.1 = a
    · rw [valV_pos (show (Sum.inl x.1 : Key) = Sum.inl a by rw [e]), show (x.1 == a) = true from beq_iff_eq.mpr e]; rfl
    · rw [valV_neg (show ¬ (Sum.inl x.1 : Key) = Sum.inl a from fun z => e (Sum.inl.inj z)), show (x.1 == a) = false from beq_eq_false_iff_ne.mpr e]
      exact valV_find a L
section
variable {H H' : Hp} {m d : Addr} {L : List (Int × V)} {a : Int} {v : V}
theorem DV.get (D : DV H m L) (a : Int) : DGet H m (.int a) ((L.find? fun x => x.1 == a).map (·.2)) := by
  rw [← valV_find]
  exact DGet.k (k := (Sum.inl a : Key)) D
theorem DV.same' (D : DV H m L) (s : Same H H') : DV H' m L := s _ _ D
theorem DV.new : DV (upd H m (.dK [])) m [] := upd_same
theorem DV.put (D : DV H m L) (h : a ∉ L.map (·.1)) (hl : L.length ≤ 99999) : ∃ o, DPut H m (.int a) v (upd H m o) ∧ DV (upd H m o) m (L ++ [(a, v)]) := by
  refine ⟨_, DPut.k (k := (Sum.inl a : Key)) (v := v) D (small5' (by rw [List.length_map]; omega)), ?_⟩
  rw [putK_new]
  · unfold DV
    rw [upd_same, List.map_append]; rfl
  · intro x hx e
    obtain ⟨y, hy, rfl⟩ := List.mem_map.mp hx
    exact h (List.mem_map.mpr ⟨y, hy, Sum.inl.inj e⟩)
theorem lock_same {u : HO} {od : Obj} (hd : H d = some u) (s : Same (upd H d (.frz od u)) H') : Same H (upd H' d u) := fun b v e => by
  by_cases q : b = d
  · rw [q] at e ⊢
    rw [upd_same, ← e, hd]
  · rw [upd_ne q]
    exact s b v (by rw [upd_ne q]; exact e)
theorem same_lock {u : HO} {od : Obj} (s : Same (upd H d (.frz od u)) H') : H' d = some (.frz od u) := s _ _ upd_same
end
section
variable {K : PySem.W.Frag} {σ : L2.St} {H : Hp} {nx bk ct : L2.St → Hp → Prop} {rt : VK} {tu : TS} {td : TE}
/-- for k in d, the body making new things only -/
theorem s_forKeys {k : Nat} {d : Addr} {kvs : List (Key × V)} (Pv : Nat → L2.St → Prop) (hv : ∀ (H1 : Hp) (R : VK), R (.ref d) H1 → td σ H1 R) (hd : H d = some (.dK kvs)) (h0 : Pv 0 σ)
    (hs : ∀ (od : Obj) (i : Nat) key v σ' H', kvs[i]? = some (key, v) → Same (upd H d (.frz od (.dK kvs))) H' → Pv i σ' →
      tu ⟨fun σ2 H2 => Same H' H2 ∧ Pv (i + 1) σ2, fun w H2 => H2 d = some (.frz od (.dK kvs)) ∧ rt w (upd H2 d (.dK kvs)), fun σ2 H2 => H2 d = some (.frz od (.dK kvs)) ∧ nx σ2 (upd H2 d (.dK kvs)), fun σ2 H2 => Same H' H2 ∧ Pv (i + 1) σ2⟩ (σ'.set k (some (kV key))) H')
    (he : ∀ σ' H', Same H H' → Pv kvs.length σ' → nx σ' H') : tLock (tFor (iKeys td) (gName k) tu) ⟨nx, rt, bk, ct⟩ σ H := by
  refine ⟨d, .dK kvs, hd, trivial, fun od => ?_⟩
  refine hv _ _ ⟨d, od, rfl, .inl ⟨kvs, upd_same, ?_⟩⟩
  refine ⟨fun i m σ' H' => m = kvs.length - i ∧ i ≤ kvs.length ∧ Same (upd H d (.frz od (.dK kvs))) H' ∧ Pv i σ', ⟨kvs.length, by simp, Nat.zero_le _, Same.refl _, h0⟩, ?_⟩
  rintro i m σ' H2 ⟨rfl, hi, hq, q⟩
  by_cases hlt : i < kvs.length
  · refine .inr ⟨⟨same_lock hq, hlt⟩, fun σ2 H3 => Same H2 H3 ∧ Pv (i + 1) σ2, fun σ3 H3 q' => ⟨kvs.length - (i + 1), by omega, rfl, hlt, hq.trans q'.1, q'.2⟩, fun x H3 y => ?_⟩
    obtain ⟨rfl, key, v, hk, rfl⟩ := y
    exact hs od i key v σ' _ hk hq q
  · have e : i = kvs.length := by omega
    subst e
    exact .inl ⟨⟨same_lock hq, Nat.le_refl _⟩, same_lock hq, he σ' _ (lock_same hd hq) q⟩
end
end Jl


local macro_rules | `(tactic| walk_at "c") => `(tactic| first
  | exact Jl.c_div (by decide) (by decide)
  | exact Jl.c_mulR (by decide) (by decide)
  | exact Jl.c_mulL (by decide) (by decide)
  | exact Jl.c_pow (by decide) (by decide) (by decide)
  | decide
  | omega
  | decide +kernel
  | assumption
  | exact Jl.c_div (by omega) (by omega)
  | exact Jl.c_mulR (by omega) (by omega)
  | exact Jl.c_mulL (by omega) (by omega))
local macro_rules | `(tactic| walk_at "len") => `(tactic| first
  | omega
  | decide
  | (simp only [Jl.len_app, Jl.len_one]; omega)
  | (refine Nat.le_trans (Jl.len_cut _ _ _) ?_; omega))
local macro_rules | `(tactic| walk_at "d") => `(tactic| first
  | (focus (with_reducible apply Jl.s_iteDt; (focus (first | assumption | with_reducible rfl | decide | exact decide_eq_true (by omega) | exact decide_eq_false (by omega) | omega))))
  | (focus (with_reducible apply Jl.s_iteDf; (focus (first | assumption | with_reducible rfl | decide | exact decide_eq_true (by omega) | exact decide_eq_false (by omega) | omega))))
  | (focus (with_reducible apply Jl.s_iteNt; (focus (first | assumption | with_reducible rfl | decide | exact decide_eq_true (by omega) | exact decide_eq_false (by omega) | omega))))
  | (focus (with_reducible apply Jl.s_iteNf; (focus (first | assumption | with_reducible rfl | decide | exact decide_eq_true (by omega) | exact decide_eq_false (by omega) | omega)))))
local macro_rules | `(tactic| walk_at "b") => `(tactic| first
  | with_reducible refine Jl.s_iteD (fun _ => ?_) (fun _ => ?_)
  | with_reducible refine Jl.s_iteN (fun _ => ?_) (fun _ => ?_))
local macro_rules | `(tactic| walk_at "s") => `(tactic| first
  | (focus (with_reducible apply Jl.s_var; (focus (with_unfolding_all rfl))))
  | with_reducible refine Jl.s_c ?_
  | with_reducible refine Jl.s_op ?_
  | with_reducible refine Jl.s_cons ?_
  | with_reducible refine Jl.s_nil ?_
  | with_reducible refine Jl.s_I0 ?_
  | (focus (with_reducible refine Jl.s_I ?_ ?_; (focus (walk_at "c"))))
  | with_reducible refine Jl.s_exbl ?_
  | with_reducible refine Jl.s_seq ?_
  | with_reducible refine Jl.s_asg ?_
  | (with_reducible refine Jl.s_name ?_; try simp only [List.set_cons_zero, List.set_cons_succ])
  | with_reducible refine Jl.s_ifS ?_
  | with_reducible refine Jl.s_test ?_
  | with_reducible refine Jl.s_tB ?_
  | with_reducible refine Jl.s_chain ?_
  | with_reducible refine Jl.s_and ?_
  | with_reducible refine Jl.s_or ?_
  | with_reducible refine Jl.s_not ?_
  | with_reducible refine Jl.s_iteT ?_
  | with_reducible refine Jl.s_iteF ?_
  | with_reducible refine Jl.s_iteNT ?_
  | with_reducible refine Jl.s_iteNF ?_
  | with_reducible refine Jl.s_ret ?_
  | with_reducible refine Jl.s_next ?_
  | with_reducible refine Jl.s_call ?_
  | with_reducible refine Jl.s_CB ?_
  | with_reducible refine Jl.s_eqI ?_
  | with_reducible refine Jl.s_neI ?_
  | with_reducible refine Jl.s_eqS ?_
  | with_reducible refine Jl.s_neS ?_
  | with_reducible refine Jl.s_eqB ?_
  | with_reducible refine Jl.s_neB ?_
  | with_reducible refine Jl.s_isB ?_
  | with_reducible refine Jl.s_notB ?_
  | with_reducible refine Jl.s_un ?_
  | with_reducible refine Jl.s_U ?_
  | with_reducible refine Jl.s_andV ?_
  | with_reducible refine Jl.s_orV ?_
  | with_reducible refine Jl.s_notV ?_
  | with_reducible refine Jl.s_ifE ?_
  | with_reducible refine Jl.s_drop ?_
  | with_reducible refine Jl.s_break ?_
  | with_reducible refine Jl.s_cont ?_
  | with_reducible refine Jl.s_isi_ii ?_
  | with_reducible refine Jl.s_isi_ib ?_
  | with_reducible refine Jl.s_isi_bb ?_
  | with_reducible refine Jl.s_isi_bi ?_
  | with_reducible refine Jl.s_isi_ss ?_
  | with_reducible refine Jl.s_BM ?_
  | (focus (with_reducible apply Jl.s_tyL; (focus (with_reducible assumption))))
  | (focus (with_reducible apply Jl.s_append; (focus (with_reducible assumption)); rotate_left; rotate_left))
  | with_reducible refine Jl.s_make ?_
  | (focus (with_reducible apply Jl.s_meth; (focus (first | assumption | exact Jl.RuleAt.same (by assumption) (by assumption))); (focus (exact (fun R z => Jl.s_var (by with_unfolding_all rfl) z))); (focus (decide +kernel))))
  | (focus (with_reducible refine Jl.s_addS ?_ ?_; rotate_left; (focus (walk_at "len"))))
  | with_reducible refine Jl.s_inS ?_
  | with_reducible refine Jl.s_notInS ?_
  | with_reducible refine Jl.s_isNn ?_
  | with_reducible refine Jl.s_isNi ?_
  | with_reducible refine Jl.s_isNs ?_
  | with_reducible refine Jl.s_isNr ?_
  | with_reducible refine Jl.s_notNn ?_
  | with_reducible refine Jl.s_notNi ?_
  | with_reducible refine Jl.s_notNs ?_
  | with_reducible refine Jl.s_notNr ?_
  | (focus (with_reducible refine Jl.s_lenS ?_ ?_; rotate_left; (focus (walk_at "len"))))
  | (focus (with_reducible apply Jl.s_lenL; (focus (with_reducible assumption))))
  | with_reducible refine Jl.s_max2 ?_
  | with_reducible refine Jl.s_min2 ?_
  | with_reducible refine Jl.s_int1 ?_
  | with_reducible refine Jl.s_int1b ?_
  | with_reducible refine Jl.s_sl ?_
  | with_reducible refine Jl.s_noP ?_
  | with_reducible refine Jl.s_part ?_
  | with_reducible refine Jl.s_exi ?_
  | (focus (with_reducible refine Jl.s_slS ?_ ?_; rotate_left; (focus (walk_at "len"))))
  | (focus (with_reducible apply Jl.s_gTupA; (focus (with_reducible assumption)); (focus (with_unfolding_all rfl))))
  | with_reducible refine Jl.s_gCons ?_
  | with_reducible refine Jl.s_gNil ?_
  | with_reducible refine Jl.s_gSub ?_
  | with_reducible refine Jl.s_tPc ?_
  | with_reducible refine Jl.s_tPn ?_
  | with_reducible refine Jl.s_callS ?_
  | with_reducible refine Jl.s_tup ?_
  | with_reducible refine Jl.s_lst ?_
  | with_reducible refine Jl.s_BM0 ?_
  | with_reducible refine Jl.s_yes ?_
  | (focus (with_reducible apply Jl.s_clear; (focus (with_reducible assumption))))
  | (focus (with_reducible apply Jl.s_dclear; (focus (with_reducible assumption)))))
local macro_rules | `(tactic| walk_at "same") => `(tactic| first
  | exact L2.Same.refl _
  | assumption
  | (refine L2.Same.trans ?_ (by assumption); walk_at "same"))
local macro_rules | `(tactic| walk_at "w") => `(tactic| repeat walk_at "s")
local macro_rules | `(tactic| walk_at "wd") => `(tactic| repeat (first | walk_at "s" | walk_at "d"))
local macro_rules | `(tactic| walk_at "all") => `(tactic| repeat' (first | walk_at "s" | walk_at "d" | walk_at "b"))
namespace Jw
open PySem L2
def top (i : Nat) : Stmt := PySem.Challenge.pw_joinload_k45_loaded_words.main.body.getD i (.Pass ⟨0, 0, 0, 0⟩)
abbrev s_NoBase___init__ : Stmt := inClass (top 4) 0
abbrev N_NoBase___init__ : List Str := ["self", "base"]
theorem sc_NoBase___init__ : FnScope N_NoBase___init__ ["self", "base"] (defScope s_NoBase___init__) := ⟨rfl, rfl, rfl, by decide +kernel, rfl, by decide +kernel, by decide +kernel⟩
abbrev s_wrapped : Stmt := top 7
abbrev N_wrapped : List Str := ["number"]
theorem sc_wrapped : FnScope N_wrapped ["number"] (defScope s_wrapped) := ⟨rfl, rfl, rfl, by decide +kernel, rfl, by decide +kernel, by decide +kernel⟩
abbrev s_with_field : Stmt := top 8
abbrev N_with_field : List Str := ["word", "low", "many", "number", "mask"]
theorem sc_with_field : FnScope N_with_field ["word", "low", "many", "number"] (defScope s_with_field) := ⟨rfl, rfl, rfl, by decide +kernel, rfl, by decide +kernel, by decide +kernel⟩
abbrev s_Rule___init__ : Stmt := inClass (top 10) 0
abbrev N_Rule___init__ : List Str := ["self", "title"]
theorem sc_Rule___init__ : FnScope N_Rule___init__ ["self", "title"] (defScope s_Rule___init__) := ⟨rfl, rfl, rfl, by decide +kernel, rfl, by decide +kernel, by decide +kernel⟩
abbrev s_Rule_filled : Stmt := inClass (top 10) 2
abbrev N_Rule_filled : List Str := ["self", "word", "here", "there"]
theorem sc_Rule_filled : FnScope N_Rule_filled ["self", "word", "here", "there"] (defScope s_Rule_filled) := ⟨rfl, rfl, rfl, by decide +kernel, rfl, by decide +kernel, by decide +kernel⟩
abbrev s_HighRule_filled : Stmt := inClass (top 11) 0
abbrev N_HighRule_filled : List Str := ["self", "word", "here", "there"]
theorem sc_HighRule_filled : FnScope N_HighRule_filled ["self", "word", "here", "there"] (defScope s_HighRule_filled) := ⟨rfl, rfl, rfl, by decide +kernel, rfl, by decide +kernel, by decide +kernel⟩
abbrev s_LowRule_filled : Stmt := inClass (top 12) 0
abbrev N_LowRule_filled : List Str := ["self", "word", "here", "there"]
theorem sc_LowRule_filled : FnScope N_LowRule_filled ["self", "word", "here", "there"] (defScope s_LowRule_filled) := ⟨rfl, rfl, rfl, by decide +kernel, rfl, by decide +kernel, by decide +kernel⟩
abbrev s_rule_of : Stmt := top 15
abbrev N_rule_of : List Str := ["title"]
theorem sc_rule_of : FnScope N_rule_of ["title"] (defScope s_rule_of) := ⟨rfl, rfl, rfl, by decide +kernel, rfl, by decide +kernel, by decide +kernel⟩
abbrev s_need_base : Stmt := top 18
abbrev N_need_base : List Str := ["whole", "base"]
theorem sc_need_base : FnScope N_need_base ["whole", "base"] (defScope s_need_base) := ⟨rfl, rfl, rfl, by decide +kernel, rfl, by decide +kernel, by decide +kernel⟩
abbrev s_loaded : Stmt := top 19
abbrev N_loaded : List Str := ["whole", "base", "memory", "place", "words", "at", "word", "title", "target", "here"]
theorem sc_loaded : FnScope N_loaded ["whole", "base"] (defScope s_loaded) := ⟨rfl, rfl, rfl, by decide +kernel, rfl, by decide +kernel, by decide +kernel⟩
abbrev s_start_of : Stmt := top 20
abbrev N_start_of : List Str := ["whole", "base"]
theorem sc_start_of : FnScope N_start_of ["whole", "base"] (defScope s_start_of) := ⟨rfl, rfl, rfl, by decide +kernel, rfl, by decide +kernel, by decide +kernel⟩
abbrev s_law_whole : Stmt := top 22
abbrev N_law_whole : List Str := ["_law_found"]
theorem sc_law_whole : FnScope N_law_whole ["_law_found"] (defScope s_law_whole) := ⟨rfl, rfl, rfl, by decide +kernel, rfl, by decide +kernel, by decide +kernel⟩
abbrev s_law_cell_at : Stmt := top 23
abbrev N_law_cell_at : List Str := ["_law_script", "_law_k"]
theorem sc_law_cell_at : FnScope N_law_cell_at ["_law_script", "_law_k"] (defScope s_law_cell_at) := ⟨rfl, rfl, rfl, by decide +kernel, rfl, by decide +kernel, by decide +kernel⟩
abbrev s_law_target_by : Stmt := top 24
abbrev N_law_target_by : List Str := ["_law_number"]
theorem sc_law_target_by : FnScope N_law_target_by ["_law_number"] (defScope s_law_target_by) := ⟨rfl, rfl, rfl, by decide +kernel, rfl, by decide +kernel, by decide +kernel⟩
abbrev s_law_put : Stmt := top 25
abbrev N_law_put : List Str := ["_law_cell", "_law_parts", "_law_leans", "_law_end_here", "_law_number", "_law_place", "_law_word", "_law_rows", "_law_rule"]
theorem sc_law_put : FnScope N_law_put ["_law_cell", "_law_parts", "_law_leans", "_law_end_here"] (defScope s_law_put) := ⟨rfl, rfl, rfl, by decide +kernel, rfl, by decide +kernel, by decide +kernel⟩
abbrev s_law_end : Stmt := top 26
abbrev N_law_end : List Str := ["_law_parts"]
theorem sc_law_end : FnScope N_law_end ["_law_parts"] (defScope s_law_end) := ⟨rfl, rfl, rfl, by decide +kernel, rfl, by decide +kernel, by decide +kernel⟩
abbrev s_law_built : Stmt := top 27
abbrev N_law_built : List Str := ["_law_script", "_law_most", "_law_parts", "_law_leans", "_law_rows", "_law_cell", "_law_end_here", "_law_number", "_law_size", "_law_entry", "_law_step"]
theorem sc_law_built : FnScope N_law_built ["_law_script", "_law_most"] (defScope s_law_built) := ⟨rfl, rfl, rfl, by decide +kernel, rfl, by decide +kernel, by decide +kernel⟩
abbrev s_law_base_by : Stmt := top 28
abbrev N_law_base_by : List Str := ["_law_whole_here", "_law_cell", "_law_most"]
theorem sc_law_base_by : FnScope N_law_base_by ["_law_whole_here", "_law_cell"] (defScope s_law_base_by) := ⟨rfl, rfl, rfl, by decide +kernel, rfl, by decide +kernel, by decide +kernel⟩
abbrev s_law_copy : Stmt := top 29
abbrev N_law_copy : List Str := ["_law_whole_here", "_law_parts", "_law_place", "_law_words"]
theorem sc_law_copy : FnScope N_law_copy ["_law_whole_here"] (defScope s_law_copy) := ⟨rfl, rfl, rfl, by decide +kernel, rfl, by decide +kernel, by decide +kernel⟩
abbrev s_law_filled_so : Stmt := top 30
abbrev N_law_filled_so : List Str := ["_law_rule", "_law_word", "_law_there", "_law_found"]
theorem sc_law_filled_so : FnScope N_law_filled_so ["_law_rule", "_law_word", "_law_there", "_law_found"] (defScope s_law_filled_so) := ⟨rfl, rfl, rfl, by decide +kernel, rfl, by decide +kernel, by decide +kernel⟩
abbrev s_law_due_words : Stmt := top 31
abbrev N_law_due_words : List Str := ["_law_whole_here", "_law_due", "_law_place", "_law_words", "_law_k"]
theorem sc_law_due_words : FnScope N_law_due_words ["_law_whole_here"] (defScope s_law_due_words) := ⟨rfl, rfl, rfl, by decide +kernel, rfl, by decide +kernel, by decide +kernel⟩
abbrev s_law_loaded_so : Stmt := top 32
abbrev N_law_loaded_so : List Str := ["_law_found", "_law_whole_here", "_law_base", "_law_due", "_law_leaned", "_law_place", "_law_rule", "_law_target", "_law_here", "_law_there"]
theorem sc_law_loaded_so : FnScope N_law_loaded_so ["_law_found", "_law_whole_here", "_law_base"] (defScope s_law_loaded_so) := ⟨rfl, rfl, rfl, by decide +kernel, rfl, by decide +kernel, by decide +kernel⟩
abbrev s_law : Stmt := top 33
abbrev N_law : List Str := ["_law_script", "_law_rows", "_law_whole_here", "_law_base", "_law_handed", "_law_found", "_law_start", "_law_kept"]
theorem sc_law : FnScope N_law ["_law_script"] (defScope s_law) := ⟨rfl, rfl, rfl, by decide +kernel, rfl, by decide +kernel, by decide +kernel⟩
structure Txt (K : PySem.W.Frag) (mg : Str → Option Value) where
  a_NoBase___init__ : Addr
  d_NoBase___init__ : FuncData
  F_NoBase___init__ : Fun K "__init__" "NoBase.__init__" s_NoBase___init__ a_NoBase___init__ d_NoBase___init__
  b_NoBase___init__ : Binds K d_NoBase___init__ ["self", "base"] []
  a_wrapped : Addr
  d_wrapped : FuncData
  F_wrapped : Fun K "wrapped" "wrapped" s_wrapped a_wrapped d_wrapped
  b_wrapped : Binds K d_wrapped ["number"] []
  m_wrapped : mg "wrapped" = some (.ref a_wrapped)
  a_with_field : Addr
  d_with_field : FuncData
  F_with_field : Fun K "with_field" "with_field" s_with_field a_with_field d_with_field
  b_with_field : Binds K d_with_field ["word", "low", "many", "number"] []
  m_with_field : mg "with_field" = some (.ref a_with_field)
  a_Rule___init__ : Addr
  d_Rule___init__ : FuncData
  F_Rule___init__ : Fun K "__init__" "Rule.__init__" s_Rule___init__ a_Rule___init__ d_Rule___init__
  b_Rule___init__ : Binds K d_Rule___init__ ["self", "title"] []
  a_Rule_filled : Addr
  d_Rule_filled : FuncData
  F_Rule_filled : Fun K "filled" "Rule.filled" s_Rule_filled a_Rule_filled d_Rule_filled
  b_Rule_filled : Binds K d_Rule_filled ["self", "word", "here", "there"] []
  a_HighRule_filled : Addr
  d_HighRule_filled : FuncData
  F_HighRule_filled : Fun K "filled" "HighRule.filled" s_HighRule_filled a_HighRule_filled d_HighRule_filled
  b_HighRule_filled : Binds K d_HighRule_filled ["self", "word", "here", "there"] []
  a_LowRule_filled : Addr
  d_LowRule_filled : FuncData
  F_LowRule_filled : Fun K "filled" "LowRule.filled" s_LowRule_filled a_LowRule_filled d_LowRule_filled
  b_LowRule_filled : Binds K d_LowRule_filled ["self", "word", "here", "there"] []
  a_rule_of : Addr
  d_rule_of : FuncData
  F_rule_of : Fun K "rule_of" "rule_of" s_rule_of a_rule_of d_rule_of
  b_rule_of : Binds K d_rule_of ["title"] []
  m_rule_of : mg "rule_of" = some (.ref a_rule_of)
  a_need_base : Addr
  d_need_base : FuncData
  F_need_base : Fun K "need_base" "need_base" s_need_base a_need_base d_need_base
  b_need_base : Binds K d_need_base ["whole", "base"] []
  m_need_base : mg "need_base" = some (.ref a_need_base)
  a_loaded : Addr
  d_loaded : FuncData
  F_loaded : Fun K "loaded" "loaded" s_loaded a_loaded d_loaded
  b_loaded : Binds K d_loaded ["whole", "base"] []
  m_loaded : mg "loaded" = some (.ref a_loaded)
  a_start_of : Addr
  d_start_of : FuncData
  F_start_of : Fun K "start_of" "start_of" s_start_of a_start_of d_start_of
  b_start_of : Binds K d_start_of ["whole", "base"] []
  m_start_of : mg "start_of" = some (.ref a_start_of)
  a_law_whole : Addr
  d_law_whole : FuncData
  F_law_whole : Fun K "_law_whole" "_law_whole" s_law_whole a_law_whole d_law_whole
  b_law_whole : Binds K d_law_whole ["_law_found"] []
  m_law_whole : mg "_law_whole" = some (.ref a_law_whole)
  a_law_cell_at : Addr
  d_law_cell_at : FuncData
  F_law_cell_at : Fun K "_law_cell_at" "_law_cell_at" s_law_cell_at a_law_cell_at d_law_cell_at
  b_law_cell_at : Binds K d_law_cell_at ["_law_script", "_law_k"] []
  m_law_cell_at : mg "_law_cell_at" = some (.ref a_law_cell_at)
  a_law_target_by : Addr
  d_law_target_by : FuncData
  F_law_target_by : Fun K "_law_target_by" "_law_target_by" s_law_target_by a_law_target_by d_law_target_by
  b_law_target_by : Binds K d_law_target_by ["_law_number"] []
  m_law_target_by : mg "_law_target_by" = some (.ref a_law_target_by)
  a_law_put : Addr
  d_law_put : FuncData
  F_law_put : Fun K "_law_put" "_law_put" s_law_put a_law_put d_law_put
  b_law_put : Binds K d_law_put ["_law_cell", "_law_parts", "_law_leans", "_law_end_here"] []
  m_law_put : mg "_law_put" = some (.ref a_law_put)
  a_law_end : Addr
  d_law_end : FuncData
  F_law_end : Fun K "_law_end" "_law_end" s_law_end a_law_end d_law_end
  b_law_end : Binds K d_law_end ["_law_parts"] []
  m_law_end : mg "_law_end" = some (.ref a_law_end)
  a_law_built : Addr
  d_law_built : FuncData
  F_law_built : Fun K "_law_built" "_law_built" s_law_built a_law_built d_law_built
  b_law_built : Binds K d_law_built ["_law_script", "_law_most"] []
  m_law_built : mg "_law_built" = some (.ref a_law_built)
  a_law_base_by : Addr
  d_law_base_by : FuncData
  F_law_base_by : Fun K "_law_base_by" "_law_base_by" s_law_base_by a_law_base_by d_law_base_by
  b_law_base_by : Binds K d_law_base_by ["_law_whole_here", "_law_cell"] []
  m_law_base_by : mg "_law_base_by" = some (.ref a_law_base_by)
  a_law_copy : Addr
  d_law_copy : FuncData
  F_law_copy : Fun K "_law_copy" "_law_copy" s_law_copy a_law_copy d_law_copy
  b_law_copy : Binds K d_law_copy ["_law_whole_here"] []
  m_law_copy : mg "_law_copy" = some (.ref a_law_copy)
  a_law_filled_so : Addr
  d_law_filled_so : FuncData
  F_law_filled_so : Fun K "_law_filled_so" "_law_filled_so" s_law_filled_so a_law_filled_so d_law_filled_so
  b_law_filled_so : Binds K d_law_filled_so ["_law_rule", "_law_word", "_law_there", "_law_found"] []
  m_law_filled_so : mg "_law_filled_so" = some (.ref a_law_filled_so)
  a_law_due_words : Addr
  d_law_due_words : FuncData
  F_law_due_words : Fun K "_law_due_words" "_law_due_words" s_law_due_words a_law_due_words d_law_due_words
  b_law_due_words : Binds K d_law_due_words ["_law_whole_here"] []
  m_law_due_words : mg "_law_due_words" = some (.ref a_law_due_words)
  a_law_loaded_so : Addr
  d_law_loaded_so : FuncData
  F_law_loaded_so : Fun K "_law_loaded_so" "_law_loaded_so" s_law_loaded_so a_law_loaded_so d_law_loaded_so
  b_law_loaded_so : Binds K d_law_loaded_so ["_law_found", "_law_whole_here", "_law_base"] []
  m_law_loaded_so : mg "_law_loaded_so" = some (.ref a_law_loaded_so)
  a_law : Addr
  d_law : FuncData
  F_law : Fun K "law" "law" s_law a_law d_law
  b_law : Binds K d_law ["_law_script"] []
  m_law : mg "law" = some (.ref a_law)
  a_Rule : Addr
  c_Rule : Cls K a_Rule
  g_Rule : mg "Rule" = some (.ref a_Rule)
  k_Rule : Mk K a_Rule a_Rule___init__
  na_Rule_title : NoAttr K a_Rule "title"
  me_Rule_filled : Meth K a_Rule "filled" a_Rule_filled
  a_HighRule : Addr
  c_HighRule : Cls K a_HighRule
  g_HighRule : mg "HighRule" = some (.ref a_HighRule)
  k_HighRule : Mk K a_HighRule a_Rule___init__
  na_HighRule_title : NoAttr K a_HighRule "title"
  me_HighRule_filled : Meth K a_HighRule "filled" a_HighRule_filled
  a_LowRule : Addr
  c_LowRule : Cls K a_LowRule
  g_LowRule : mg "LowRule" = some (.ref a_LowRule)
  k_LowRule : Mk K a_LowRule a_Rule___init__
  na_LowRule_title : NoAttr K a_LowRule "title"
  me_LowRule_filled : Meth K a_LowRule "filled" a_LowRule_filled
  a_NearRule : Addr
  c_NearRule : Cls K a_NearRule
  g_NearRule : mg "NearRule" = some (.ref a_NearRule)
  k_NearRule : Mk K a_NearRule a_Rule___init__
  na_NearRule_title : NoAttr K a_NearRule "title"
  a_SplitRule : Addr
  c_SplitRule : Cls K a_SplitRule
  g_SplitRule : mg "SplitRule" = some (.ref a_SplitRule)
  k_SplitRule : Mk K a_SplitRule a_Rule___init__
  na_SplitRule_title : NoAttr K a_SplitRule "title"
  a_NoRule : Addr
  g_NoRule : mg "NoRule" = some (.ref a_NoRule)
  a_NoBase : Addr
  g_NoBase : mg "NoBase" = some (.ref a_NoBase)
  be_NoBase : PySem.W.subIn K (.ref a_NoBase) (.type "BaseException") = some true
  ty_NoBase : PySem.W.typeIn K (.ref a_NoBase) = some (.type "type")
  kc_NoBase : PySem.W.keepIn K (.ref a_NoBase) = true
  ec_NoBase : L2.ExcC K a_NoBase
  ve_NoBase : PySem.W.kitOne K (.ref a_NoBase) (.type "ValueError") = some true
  o_NoBase : L2.OexC K a_NoBase
  i_NoBase : PySem.W.findIn K (.ref a_NoBase) "__init__" = some (some (.ref a_NoBase___init__))
  t_NoBase : PySem.W.typeIn K (.ref a_NoBase___init__) = some (.type "function")
  xf_NoBase : L2.XfC K a_NoBase
  no_NoBase_base : PySem.W.findIn K (.ref a_NoBase) "base" = some none
  kit_NoBase_NoRule : PySem.W.kitOne K (.ref a_NoBase) (.ref a_NoRule) = some false
  kit_NoBase_NoBase : PySem.W.kitOne K (.ref a_NoBase) (.ref a_NoBase) = some true
  t_MANY : Tok
  g_MANY : mg "MANY" = some (.int 4294967296 t_MANY)
  t_END : Tok
  g_END : mg "END" = some (.int 4294967296 t_END)
  n_bool : mg "bool" = none
  n_dict : mg "dict" = none
  n_enumerate : mg "enumerate" = none
  n_int : mg "int" = none
  n_isinstance : mg "isinstance" = none
  n_len : mg "len" = none
  n_list : mg "list" = none
  n_range : mg "range" = none
  n_str : mg "str" = none
section
variable {P : Program} {w : World} {K : PySem.W.Frag} {mg : Str → Option Value} {base : Heap}
/-! ### NoBase.__init__ -/
def sp_NoBase___init__ (T : Txt K mg) : Sp := fun vs H Q _ => ∃ (a : Addr) (v : V), vs = [.ref a, v] ∧ H a = some (L2.exo a T.a_NoBase none) ∧ ∀ dx, H dx = none → dx ≠ a → Q .non (upd (upd H dx (L2.exd dx [("base", v)])) a (L2.exo a T.a_NoBase (some dx)))
theorem ok_NoBase___init__ (T : Txt K mg) : FnOk P w K mg base CX0 1 T.a_NoBase___init__ T.d_NoBase___init__ ["self", "base"] (sp_NoBase___init__ T) := by
  refine T.F_NoBase___init__.ok sc_NoBase___init__ (fun vs H Q E h => ?_) (fun cdv A outer s H vs Q E hr h => ?_)
  · obtain ⟨a, v, rfl, h, k⟩ := h
    rfl
  · obtain ⟨a, v, rfl, h, k⟩ := h
    have hu := hu_of hr
    refine ⟨_, (pss_one (ps_ost (pv 0) (pv 1))), ?_⟩
    show (_ : TS) _ [some (.ref a), some (v)] H
    refine Jl.s_ost (fun R z => Jl.s_var (by with_unfolding_all rfl) z) (fun R z => Jl.s_var (by with_unfolding_all rfl) z) T.o_NoBase T.no_NoBase_base h (fun dx nd ne => ?_)
    exact k dx nd ne
/-! ### wrapped -/
def sp_wrapped : Sp := fun vs H Q _ => ∃ n : Int, vs = [.int n] ∧ Q (.int (n % 4294967296)) H
theorem use_wrapped {n : Int} {H : Hp} {Q : VK} {E : XK} (z : Q (.int (n % 4294967296)) H) : sp_wrapped [.int n] H Q E := ⟨n, rfl, z⟩
local macro_rules | `(tactic| walk_at "s") => `(tactic| (with_reducible refine use_wrapped ?_))
theorem ok_wrapped (T : Txt K mg) : FnOk P w K mg base CX0 1 T.a_wrapped T.d_wrapped ["number"] (sp_wrapped) := by
  refine T.F_wrapped.ok sc_wrapped (fun vs H Q E h => ?_) (fun cdv A outer s H vs Q E hr h => ?_)
  · obtain ⟨n, rfl, k⟩ := h
    rfl
  · obtain ⟨n, rfl, k⟩ := h
    have hu := hu_of hr
    refine ⟨_, (pss_one (ps_ret (pe_op op_mod (pv 0) (pe_glob (v := .int 4294967296) rfl T.g_MANY ⟨_, rfl⟩)))), ?_⟩
    show (_ : TS) _ [some (.int n)] H
    walk_at "w"
    exact k
/-! ### with_field -/
def sp_with_field : Sp := fun vs H Q _ => ∃ (w l m n : Int), vs = [.int w, .int l, .int m, .int n] ∧ 0 ≤ l ∧ l ≤ 64 ∧ 0 ≤ m ∧ m ≤ 64 ∧ -(10 ^ 65) ≤ n ∧ n ≤ 10 ^ 65 ∧ Q (.int (Jl.wf w l m n)) H
theorem use_with_field {w l m n : Int} {H : Hp} {Q : VK} {E : XK} (h1 : 0 ≤ l) (h2 : l ≤ 64) (h3 : 0 ≤ m) (h4 : m ≤ 64) (h5 : -(10 ^ 65) ≤ n) (h6 : n ≤ 10 ^ 65) (z : Q (.int (Jl.wf w l m n)) H) : sp_with_field [.int w, .int l, .int m, .int n] H Q E := ⟨w, l, m, n, rfl, h1, h2, h3, h4, h5, h6, z⟩
local macro_rules | `(tactic| walk_at "s") => `(tactic| ((focus (with_reducible refine use_with_field ?_ ?_ ?_ ?_ ?_ ?_ ?_; (focus (omega)); (focus (omega)); (focus (omega)); (focus (omega)); (focus (omega)); (focus (omega))))))
theorem ok_with_field (T : Txt K mg) : FnOk P w K mg base CX0 1 T.a_with_field T.d_with_field ["word", "low", "many", "number"] (sp_with_field) := by
  refine T.F_with_field.ok sc_with_field (fun vs H Q E h => ?_) (fun cdv A outer s H vs Q E hr h => ?_)
  · obtain ⟨w, l, m, n, rfl, h1, h2, h3, h4, h5, h6, k⟩ := h
    rfl
  · obtain ⟨w, l, m, n, rfl, h1, h2, h3, h4, h5, h6, k⟩ := h
    have hu := hu_of hr
    refine ⟨_, (pss_cons (ps_set (i := 4) sc_with_field.nd rfl (Or.inl rfl) (pe_op op_shlW (pe_op op_sub (pe_op op_shlW pe_int (pv 2)) pe_int) (pv 1)))
      (pss_one (ps_ret (pe_op op_xor (pv 0) (pe_op op_and (pe_op op_xor (pv 0) (pe_op op_shlW (pv 3) (pv 1))) (pv 4)))))), ?_⟩
    show (_ : TS) _ [some (.int w), some (.int l), some (.int m), some (.int n), none] H
    walk_at "w"
    refine Jl.s_I (Jl.shl_ok 1 (by decide) h3 (by omega) (by omega)) ?_
    walk_at "w"
    refine Jl.s_I (Jl.shl_ok 100 ?_ h1 (by omega) (by omega)) ?_
    · rw [Int.one_mul]
      exact Jl.pow_lt (by omega)
    walk_at "w"
    refine Jl.s_I (Jl.shl_ok 250 (Jl.big_of h5 h6) h1 (by omega) (by omega)) ?_
    walk_at "w"
    rw [Int.one_mul, Jl.put_at]
    exact k
/-! ### Rule.__init__ -/
def sp_Rule___init__ (K : PySem.W.Frag) : Sp := fun vs H Q _ => ∃ (p C dx : Addr) (t : Str), vs = [.ref p, .str t] ∧ H p = some (.ins C dx []) ∧ Cls K C ∧ NoAttr K C "title" ∧ Q .non (upd H p (.ins C dx (putF "title" (.str t) [])))
theorem ok_Rule___init__ (T : Txt K mg) : FnOk P w K mg base CX0 1 T.a_Rule___init__ T.d_Rule___init__ ["self", "title"] (sp_Rule___init__ K) := by
  refine T.F_Rule___init__.ok sc_Rule___init__ (fun vs H Q E h => ?_) (fun cdv A outer s H vs Q E hr h => ?_)
  · obtain ⟨p, C, dx, t, rfl, hp, hc, hn, k⟩ := h
    rfl
  · obtain ⟨p, C, dx, t, rfl, hp, hc, hn, k⟩ := h
    have hu := hu_of hr
    refine ⟨_, (pss_one (ps_fld (pv 0) (pv 1) rfl)), ?_⟩
    show (_ : TS) _ [some (.ref p), some (.str t)] H
    refine ⟨_, rfl, _, rfl, p, C, dx, [], rfl, hp, hc, hn, (by decide), ?_⟩
    exact k
/-! ### Rule.filled -/
def sp_Rule_filled : Sp := fun vs H Q _ => ∃ (x0 : V) (w h t : Int), vs = [x0, .int w, .int h, .int t] ∧ Q (.int (t % 4294967296)) H
theorem use_Rule_filled {x0 : V} {w h t : Int} {H : Hp} {Q : VK} {E : XK} (z : Q (.int (t % 4294967296)) H) : sp_Rule_filled [x0, .int w, .int h, .int t] H Q E := ⟨x0, w, h, t, rfl, z⟩
local macro_rules | `(tactic| walk_at "s") => `(tactic| (with_reducible refine use_Rule_filled ?_))
theorem ok_Rule_filled (T : Txt K mg) : FnOk P w K mg base CX0 2 T.a_Rule_filled T.d_Rule_filled ["self", "word", "here", "there"] (sp_Rule_filled) := by
  have G_wrapped := ok_wrapped (P := P) (w := w) (base := base) T
  refine T.F_Rule_filled.ok sc_Rule_filled (fun vs H Q E h => ?_) (fun cdv A outer s H vs Q E hr h => ?_)
  · obtain ⟨x0, w, h, t, rfl, k⟩ := h
    rfl
  · obtain ⟨x0, w, h, t, rfl, k⟩ := h
    have hu := hu_of hr
    refine ⟨_, (pss_one (ps_ret (pe_call (G_wrapped) (hr.mono (by decide)) rfl T.m_wrapped T.F_wrapped.kp T.b_wrapped .nil pass0 (pa_cons (pv 3) pa_nil)))), ?_⟩
    show (_ : TS) _ [some (x0), some (.int w), some (.int h), some (.int t)] H
    walk_at "w"
    exact k
/-! ### HighRule.filled -/
def sp_HighRule_filled : Sp := fun vs H Q _ => ∃ (x0 : V) (w h t : Int), vs = [x0, .int w, .int h, .int t] ∧ -(10 ^ 65) ≤ t ∧ t ≤ 10 ^ 64 ∧ Q (.int (w - w % 65536 + (t + 32768) / 65536 % 65536)) H
theorem use_HighRule_filled {x0 : V} {w h t : Int} {H : Hp} {Q : VK} {E : XK} (h0 : -(10 ^ 65) ≤ t) (h1 : t ≤ 10 ^ 64) (z : Q (.int (w - w % 65536 + (t + 32768) / 65536 % 65536)) H) : sp_HighRule_filled [x0, .int w, .int h, .int t] H Q E := ⟨x0, w, h, t, rfl, h0, h1, z⟩
local macro_rules | `(tactic| walk_at "s") => `(tactic| ((focus (with_reducible refine use_HighRule_filled ?_ ?_ ?_; (focus (omega)); (focus (omega))))))
theorem ok_HighRule_filled (T : Txt K mg) : FnOk P w K mg base CX0 2 T.a_HighRule_filled T.d_HighRule_filled ["self", "word", "here", "there"] (sp_HighRule_filled) := by
  have G_with_field := ok_with_field (P := P) (w := w) (base := base) T
  refine T.F_HighRule_filled.ok sc_HighRule_filled (fun vs H Q E h => ?_) (fun cdv A outer s H vs Q E hr h => ?_)
  · obtain ⟨x0, w, h, t, rfl, h0, h1, k⟩ := h
    rfl
  · obtain ⟨x0, w, h, t, rfl, h0, h1, k⟩ := h
    have hu := hu_of hr
    refine ⟨_, (pss_one (ps_ret (pe_call (G_with_field) (hr.mono (by decide)) rfl T.m_with_field T.F_with_field.kp T.b_with_field .nil pass0 (pa_cons (pv 1) (pa_cons pe_int (pa_cons pe_int (pa_cons (pe_op op_fdiv (pe_op op_add (pv 3) pe_int) pe_int) pa_nil))))))), ?_⟩
    show (_ : TS) _ [some (x0), some (.int w), some (.int h), some (.int t)] H
    walk_at "w"
    rw [Jl.wf_16]
    exact k
/-! ### LowRule.filled -/
def sp_LowRule_filled : Sp := fun vs H Q _ => ∃ (x0 : V) (w h t : Int), vs = [x0, .int w, .int h, .int t] ∧ -(10 ^ 65) ≤ t ∧ t ≤ 10 ^ 64 ∧ Q (.int (w - w % 65536 + t % 65536)) H
theorem use_LowRule_filled {x0 : V} {w h t : Int} {H : Hp} {Q : VK} {E : XK} (h0 : -(10 ^ 65) ≤ t) (h1 : t ≤ 10 ^ 64) (z : Q (.int (w - w % 65536 + t % 65536)) H) : sp_LowRule_filled [x0, .int w, .int h, .int t] H Q E := ⟨x0, w, h, t, rfl, h0, h1, z⟩
local macro_rules | `(tactic| walk_at "s") => `(tactic| ((focus (with_reducible refine use_LowRule_filled ?_ ?_ ?_; (focus (omega)); (focus (omega))))))
theorem ok_LowRule_filled (T : Txt K mg) : FnOk P w K mg base CX0 2 T.a_LowRule_filled T.d_LowRule_filled ["self", "word", "here", "there"] (sp_LowRule_filled) := by
  have G_with_field := ok_with_field (P := P) (w := w) (base := base) T
  refine T.F_LowRule_filled.ok sc_LowRule_filled (fun vs H Q E h => ?_) (fun cdv A outer s H vs Q E hr h => ?_)
  · obtain ⟨x0, w, h, t, rfl, h0, h1, k⟩ := h
    rfl
  · obtain ⟨x0, w, h, t, rfl, h0, h1, k⟩ := h
    have hu := hu_of hr
    refine ⟨_, (pss_one (ps_ret (pe_call (G_with_field) (hr.mono (by decide)) rfl T.m_with_field T.F_with_field.kp T.b_with_field .nil pass0 (pa_cons (pv 1) (pa_cons pe_int (pa_cons pe_int (pa_cons (pv 3) pa_nil))))))), ?_⟩
    show (_ : TS) _ [some (x0), some (.int w), some (.int h), some (.int t)] H
    walk_at "w"
    rw [Jl.wf_16]
    exact k
/-! ### rule_of -/
def sp_rule_of (T : Txt K mg) : Sp := fun vs H Q _ => ∃ (t : Str) (C : Addr), vs = [.str t] ∧ ((t = "whole" ∧ C = T.a_Rule) ∨ (t = "high" ∧ C = T.a_HighRule) ∨ (t = "low" ∧ C = T.a_LowRule) ∨ (t = "near" ∧ C = T.a_NearRule) ∨ (t = "split" ∧ C = T.a_SplitRule)) ∧ ∀ p H', Same H H' → H p = none → Jl.RuleAt H' p C t → Q (.ref p) H'
theorem use_rule_whole {T : Txt K mg} {H : Hp} {Q : VK} {E : XK} (z : ∀ p H', Same H H' → H p = none → Jl.RuleAt H' p T.a_Rule "whole" → Q (.ref p) H') : sp_rule_of T [.str "whole"] H Q E := ⟨_, _, rfl, .inl ⟨rfl, rfl⟩, z⟩
theorem use_rule_high {T : Txt K mg} {H : Hp} {Q : VK} {E : XK} (z : ∀ p H', Same H H' → H p = none → Jl.RuleAt H' p T.a_HighRule "high" → Q (.ref p) H') : sp_rule_of T [.str "high"] H Q E := ⟨_, _, rfl, .inr (.inl ⟨rfl, rfl⟩), z⟩
theorem use_rule_low {T : Txt K mg} {H : Hp} {Q : VK} {E : XK} (z : ∀ p H', Same H H' → H p = none → Jl.RuleAt H' p T.a_LowRule "low" → Q (.ref p) H') : sp_rule_of T [.str "low"] H Q E := ⟨_, _, rfl, .inr (.inr (.inl ⟨rfl, rfl⟩)), z⟩
theorem use_rule_near {T : Txt K mg} {H : Hp} {Q : VK} {E : XK} (z : ∀ p H', Same H H' → H p = none → Jl.RuleAt H' p T.a_NearRule "near" → Q (.ref p) H') : sp_rule_of T [.str "near"] H Q E := ⟨_, _, rfl, .inr (.inr (.inr (.inl ⟨rfl, rfl⟩))), z⟩
theorem use_rule_split {T : Txt K mg} {H : Hp} {Q : VK} {E : XK} (z : ∀ p H', Same H H' → H p = none → Jl.RuleAt H' p T.a_SplitRule "split" → Q (.ref p) H') : sp_rule_of T [.str "split"] H Q E := ⟨_, _, rfl, .inr (.inr (.inr (.inr (⟨rfl, rfl⟩)))), z⟩
local macro_rules | `(tactic| walk_at "s") => `(tactic| (first | with_reducible refine use_rule_whole (fun p H' s1 np hR => ?_) | with_reducible refine use_rule_high (fun p H' s1 np hR => ?_) | with_reducible refine use_rule_low (fun p H' s1 np hR => ?_) | with_reducible refine use_rule_near (fun p H' s1 np hR => ?_) | with_reducible refine use_rule_split (fun p H' s1 np hR => ?_)))
theorem ok_rule_of (T : Txt K mg) : FnOk P w K mg base CX0 3 T.a_rule_of T.d_rule_of ["title"] (sp_rule_of T) := by
  have G_Rule___init__ := ok_Rule___init__ (P := P) (w := w) (base := base) T
  refine T.F_rule_of.ok sc_rule_of (fun vs H Q E h => ?_) (fun cdv A outer s H vs Q E hr h => ?_)
  · obtain ⟨t, C, rfl, ht, k⟩ := h
    rfl
  · obtain ⟨t, C, rfl, ht, k⟩ := h
    have hu := hu_of hr
    refine ⟨_, (pss_cons (ps_if (pt_cmpR op_eq (pv 0) pe_str (nomark _)) (pss_one (ps_ret (pe_make T.k_Rule (G_Rule___init__) (hr.mono (by decide)) rfl T.g_Rule T.b_Rule___init__ .nil pass0 (pa_cons (pv 0) pa_nil)))) pss_nil)
      (pss_cons (ps_if (pt_cmpR op_eq (pv 0) pe_str (nomark _)) (pss_one (ps_ret (pe_make T.k_HighRule (G_Rule___init__) (hr.mono (by decide)) rfl T.g_HighRule T.b_Rule___init__ .nil pass0 (pa_cons (pv 0) pa_nil)))) pss_nil)
      (pss_cons (ps_if (pt_cmpR op_eq (pv 0) pe_str (nomark _)) (pss_one (ps_ret (pe_make T.k_LowRule (G_Rule___init__) (hr.mono (by decide)) rfl T.g_LowRule T.b_Rule___init__ .nil pass0 (pa_cons (pv 0) pa_nil)))) pss_nil)
      (pss_cons (ps_if (pt_cmpR op_eq (pv 0) pe_str (nomark _)) (pss_one (ps_ret (pe_make T.k_NearRule (G_Rule___init__) (hr.mono (by decide)) rfl T.g_NearRule T.b_Rule___init__ .nil pass0 (pa_cons (pv 0) pa_nil)))) pss_nil)
      (pss_cons (ps_if (pt_cmpR op_eq (pv 0) pe_str (nomark _)) (pss_one (ps_ret (pe_make T.k_SplitRule (G_Rule___init__) (hr.mono (by decide)) rfl T.g_SplitRule T.b_Rule___init__ .nil pass0 (pa_cons (pv 0) pa_nil)))) pss_nil)
      (pss_one ps_never)))))), ?_⟩
    show (_ : TS) _ [some (.str t)] H
    rcases ht with ⟨rfl, rfl⟩ | ⟨rfl, rfl⟩ | ⟨rfl, rfl⟩ | ⟨rfl, rfl⟩ | ⟨rfl, rfl⟩
    all_goals
      repeat (first | walk_at "s" | with_reducible refine Jl.s_iteDt (by decide +kernel) ?_ | with_reducible refine Jl.s_iteDf (by decide +kernel) ?_)
    · intro x dx nx ndx ne
      exact ⟨x, T.a_Rule, dx, _, rfl, upd_same, T.c_Rule, T.na_Rule_title, rfl, k x _ (Jl.same_made nx ndx) nx ⟨dx, upd_same⟩⟩
    · intro x dx nx ndx ne
      exact ⟨x, T.a_HighRule, dx, _, rfl, upd_same, T.c_HighRule, T.na_HighRule_title, rfl, k x _ (Jl.same_made nx ndx) nx ⟨dx, upd_same⟩⟩
    · intro x dx nx ndx ne
      exact ⟨x, T.a_LowRule, dx, _, rfl, upd_same, T.c_LowRule, T.na_LowRule_title, rfl, k x _ (Jl.same_made nx ndx) nx ⟨dx, upd_same⟩⟩
    · intro x dx nx ndx ne
      exact ⟨x, T.a_NearRule, dx, _, rfl, upd_same, T.c_NearRule, T.na_NearRule_title, rfl, k x _ (Jl.same_made nx ndx) nx ⟨dx, upd_same⟩⟩
    · intro x dx nx ndx ne
      exact ⟨x, T.a_SplitRule, dx, _, rfl, upd_same, T.c_SplitRule, T.na_SplitRule_title, rfl, k x _ (Jl.same_made nx ndx) nx ⟨dx, upd_same⟩⟩
/-! ### need_base -/
def sp_need_base (T : Txt K mg) : Sp := fun vs H Q E => ∃ (x : V) (w : Jl.Wh) (b : Int), vs = [x, .int b] ∧ Dp K H x (Jl.whD w) ∧ 0 < w.step ∧ ((Jl.fitsAt w b ∧ Q .non H) ∨ (¬ Jl.fitsAt w b ∧ ∀ d, H d = none → E (.ref T.a_NoBase) (some d) (upd H d (.xd [("base", .int b)]))))
theorem use_need_ok {T : Txt K mg} {x : V} {w : Jl.Wh} {b : Int} {H : Hp} {Q : VK} {E : XK} (hd : Dp K H x (Jl.whD w)) (hst : 0 < w.step) (f : Jl.fitsAt w b) (z : Q .non H) : sp_need_base T [x, .int b] H Q E := ⟨x, w, b, rfl, hd, hst, .inl ⟨f, z⟩⟩
theorem use_need_no {T : Txt K mg} {x : V} {w : Jl.Wh} {b : Int} {H : Hp} {Q : VK} {E : XK} (hd : Dp K H x (Jl.whD w)) (hst : 0 < w.step) (f : ¬ Jl.fitsAt w b) (z : ∀ d, H d = none → E (.ref T.a_NoBase) (some d) (upd H d (.xd [("base", .int b)]))) : sp_need_base T [x, .int b] H Q E := ⟨x, w, b, rfl, hd, hst, .inr ⟨f, z⟩⟩
theorem ok_need_base (T : Txt K mg) : FnOk P w K mg base (L2.CX P w) 3 T.a_need_base T.d_need_base ["whole", "base"] (sp_need_base T) := by
  have G_NoBase___init__ := ok_NoBase___init__ (P := P) (w := w) (base := base) T
  refine T.F_need_base.okX sc_need_base (fun vs H Q E h => ?_) (fun cdv A outer s H vs Q E hr h => ?_)
  · obtain ⟨x, w, b, rfl, hd, hst, k⟩ := h
    rfl
  · obtain ⟨x, w, b, rfl, hd, hst, k⟩ := h
    have hu := hu_of hr
    refine ⟨_, (pss_one (ps_if (PW.pt (pw_or (pt_cmpR op_lt (pv 1) pe_int (nomark _)) (pw_or (pt_cmpR op_ne (pe_op op_mod (pv 1) (pe_ix (r := rIxT K) ix_tup (pv 0) pe_int (fun _ _ => rfl))) pe_int (nomark _)) (pw_or1 (pt_cmpR op_ge (pe_op op_add (pv 1) (pe_ix (r := rIxT K) ix_tup (pv 0) pe_int (fun _ _ => rfl))) (pe_glob (v := .int 4294967296) rfl T.g_END ⟨_, rfl⟩) (nomark _)))))) (pss_one (ps_raise rfl (takes_of rfl rfl rfl rfl) (pmk_oex T.o_NoBase T.i_NoBase T.t_NoBase G_NoBase___init__ (hr.mono (by decide)) T.b_NoBase___init__ .nil pass0 rfl T.g_NoBase (pa_cons (pv 1) pa_nil)))) pss_nil)), ?_⟩
    show (_ : TS) _ [some (x), some (.int b)] H
    obtain ⟨t, p, l, xs, ys, rfl, ht, -⟩ := Jl.dp_wh hd
    walk_at "w"
    refine Jl.s_iteD (fun g1 => ?_) (fun g1 => ?_)
    · rcases k with ⟨f, _⟩ | ⟨_, k⟩
      · have := f.1; omega
      · walk_at "w"
        refine Jl.s_mkO (fun R z => ?_) (fun x H' Q' hx hq => ⟨x, .int b, rfl, hx, hq⟩) k
        walk_at "w"
        exact z
    walk_at "w"
    refine Jl.s_ixT ht (i := 0) rfl ?_
    walk_at "w"
    refine Jl.s_iteN (fun g2 => ?_) (fun g2 => ?_)
    · rcases k with ⟨f, _⟩ | ⟨_, k⟩
      · exact absurd f.2.1 g2
      · walk_at "w"
        refine Jl.s_mkO (fun R z => ?_) (fun x H' Q' hx hq => ⟨x, .int b, rfl, hx, hq⟩) k
        walk_at "w"
        exact z
    walk_at "w"
    refine Jl.s_ixT ht (i := 1) rfl ?_
    walk_at "w"
    refine Jl.s_iteD (fun g3 => ?_) (fun g3 => ?_)
    · rcases k with ⟨f, _⟩ | ⟨_, k⟩
      · have := f.2.2; omega
      · walk_at "w"
        refine Jl.s_mkO (fun R z => ?_) (fun x H' Q' hx hq => ⟨x, .int b, rfl, hx, hq⟩) k
        walk_at "w"
        exact z
    walk_at "w"
    rcases k with ⟨_, k⟩ | ⟨nf, _⟩
    · exact k
    · exact absurd ⟨by omega, g2, by omega⟩ nf
/-! ### loaded -/
theorem pos_next {ps : List Jl.Part} {i j : Nat} {pl wj : Int} {ws : List Int} (h : ((Jl.wordsAt ps).map (·.1)).Pairwise (· < ·)) (hi : ps[i]? = some (pl, ws)) (hj : ws[j]? = some wj) :
    Jl.posW pl (ws.take (j + 1)) = Jl.posW pl (ws.take j) ++ [(pl + (j : Int), wj)] ∧ pl + (j : Int) ∉ (Jl.wordsAt (ps.take i) ++ Jl.posW pl (ws.take j)).map (·.1) ∧ (Jl.wordsAt (ps.take i) ++ Jl.posW pl (ws.take j)).length ≤ (Jl.wordsAt ps).length := by
  have hjl : j < ws.length := (List.getElem?_eq_some_iff.mp hj).1
  have e1 : Jl.posW pl (ws.take (j + 1)) = Jl.posW pl (ws.take j) ++ [(pl + (j : Int), wj)] := by
    rw [List.take_add_one, hj]
    show Jl.posW pl (ws.take j ++ [wj]) = _
    rw [Jl.posW_app, List.length_take, Nat.min_eq_left (Nat.le_of_lt hjl)]
    rfl
  have e2 : Jl.wordsAt ps = (Jl.wordsAt (ps.take i) ++ Jl.posW pl (ws.take (j + 1))) ++ (Jl.posW (pl + ((ws.take (j + 1)).length : Int)) (ws.drop (j + 1)) ++ Jl.wordsAt (ps.drop (i + 1))) := by
    have hil : i < ps.length := (List.getElem?_eq_some_iff.mp hi).1
    have e3 : ps = ps.take i ++ ((pl, ws) :: ps.drop (i + 1)) := by
      have := (List.getElem?_eq_some_iff.mp hi).2
      rw [← this, List.getElem_cons_drop, List.take_append_drop]
    conv => lhs; rw [e3]
    unfold Jl.wordsAt
    rw [List.flatMap_append, List.flatMap_cons]
    show _ ++ (Jl.posW pl ws ++ _) = _
    conv => lhs; rw [← List.take_append_drop (j + 1) ws]
    rw [Jl.posW_app]
    simp only [List.append_assoc]
  refine ⟨e1, fun hm => ?_, ?_⟩
  · have e4 : Jl.wordsAt ps = (Jl.wordsAt (ps.take i) ++ Jl.posW pl (ws.take j) ++ [(pl + (j : Int), wj)]) ++ (Jl.posW (pl + ((ws.take (j + 1)).length : Int)) (ws.drop (j + 1)) ++ Jl.wordsAt (ps.drop (i + 1))) := by
      rw [e2, e1]; simp only [List.append_assoc]
    have h2 := h.sublist ((List.sublist_append_left (Jl.wordsAt (ps.take i) ++ Jl.posW pl (ws.take j) ++ [(pl + (j : Int), wj)]) _).map (·.1) |>.trans (by rw [← e4]; exact List.Sublist.refl _))
    rw [List.map_append, List.pairwise_append] at h2
    have := h2.2.2 _ hm _ (List.mem_singleton.mpr rfl)
    exact absurd this (Int.lt_irrefl _)
  · rw [e2, e1]
    simp only [List.length_append]
    omega
theorem wordsAt_next {ps : List Jl.Part} {i : Nat} {pl : Int} {ws : List Int} (hi : ps[i]? = some (pl, ws)) : Jl.wordsAt (ps.take (i + 1)) = Jl.wordsAt (ps.take i) ++ Jl.posW pl ws := by
  rw [List.take_add_one, hi]
  unfold Jl.wordsAt
  rw [List.flatMap_append]
  show _ ++ (Jl.posW pl ws ++ []) = _
  rw [List.append_nil]
def sh (b : Int) (l : List (Int × Int)) : List (Int × Int) := l.map fun x => (b + x.1, x.2)
theorem sh_key {b a : Int} {l : List (Int × Int)} (h : a ∉ l.map (·.1)) : b + a ∉ (sh b l).map (·.1) := by
  intro z
  obtain ⟨y, hy, e⟩ := List.mem_map.mp z
  obtain ⟨x, hx, rfl⟩ := List.mem_map.mp hy
  have e : b + x.1 = b + a := e
  exact h (List.mem_map.mpr ⟨x, hx, by omega⟩)
def sp_loaded (T : Txt K mg) : Sp := fun vs H Q E => ∃ (x : V) (w : Jl.Wh) (b : Int) (n : Nat), vs = [x, .int b] ∧ Dp K H x (Jl.whD w) ∧ 0 < w.step ∧ Jl.Fit n w.parts w.leans ∧ n ≤ 90000 ∧ ((Jl.fitsAt w b ∧ 0 ≤ w.size ∧ ∀ m H', Same H H' → H m = none → Jl.DL H' m (Jl.memOf w b) → Q (.ref m) H') ∨ (¬ Jl.fitsAt w b ∧ ∀ d, H d = none → E (.ref T.a_NoBase) (some d) (upd H d (.xd [("base", .int b)]))))
theorem use_loaded {T : Txt K mg} {x : V} {w : Jl.Wh} {b : Int} {n : Nat} {H : Hp} {Q : VK} {E : XK} (hd : Dp K H x (Jl.whD w)) (hst : 0 < w.step) (f : Jl.Fit n w.parts w.leans) (hn : n ≤ 90000) (hf : Jl.fitsAt w b) (hs : 0 ≤ w.size) (z : ∀ m H', Same H H' → H m = none → Jl.DL H' m (Jl.memOf w b) → Q (.ref m) H') : sp_loaded T [x, .int b] H Q E := ⟨x, w, b, n, rfl, hd, hst, f, hn, .inl ⟨hf, hs, z⟩⟩
theorem use_load_no {T : Txt K mg} {x : V} {w : Jl.Wh} {b : Int} {n : Nat} {H : Hp} {Q : VK} {E : XK} (hd : Dp K H x (Jl.whD w)) (hst : 0 < w.step) (f : Jl.Fit n w.parts w.leans) (hn : n ≤ 90000) (hf : ¬ Jl.fitsAt w b) (z : ∀ d, H d = none → E (.ref T.a_NoBase) (some d) (upd H d (.xd [("base", .int b)]))) : sp_loaded T [x, .int b] H Q E := ⟨x, w, b, n, rfl, hd, hst, f, hn, .inr ⟨hf, z⟩⟩
theorem ok_loaded (T : Txt K mg) : FnOk P w K mg base (L2.CX P w) 4 T.a_loaded T.d_loaded ["whole", "base"] (sp_loaded T) := by
  have G_Rule_filled := ok_Rule_filled (P := P) (w := w) (base := base) T
  have G_HighRule_filled := ok_HighRule_filled (P := P) (w := w) (base := base) T
  have G_LowRule_filled := ok_LowRule_filled (P := P) (w := w) (base := base) T
  have G_rule_of := ok_rule_of (P := P) (w := w) (base := base) T
  have G_need_base := ok_need_base (P := P) (w := w) (base := base) T
  refine T.F_loaded.okX sc_loaded (fun vs H Q E h => ?_) (fun cdv A outer s H vs Q E hr h => ?_)
  · obtain ⟨x, w, b, n, rfl, hd, hst, f, hn, k⟩ := h
    rfl
  · obtain ⟨x, w, b, n, rfl, hd, hst, f, hn, k⟩ := h
    have hu := hu_of hr
    refine ⟨_, (pss_cons (ps_expr (pe_callS (G_need_base) (hr.mono (by decide)) rfl T.m_need_base T.F_need_base.kp T.b_need_base (fun σ => passAt (takes_of rfl rfl rfl rfl) σ) (pa_cons (pv 0) (pa_cons (pv 1) pa_nil))))
      (pss_cons (ps_set (i := 2) sc_loaded.nd rfl (Or.inl rfl) pe_dnewK)
      (pss_cons (ps_for (passes_of rfl) rfl (pi_list (pe_ix (r := rIxT K) ix_tup (pv 0) pe_int (fun _ _ => rfl))) (pg_tup rfl (pgs_cons (pg_name (i := 3) sc_loaded.nd rfl (Or.inl rfl)) (pgs_cons (pg_name (i := 4) sc_loaded.nd rfl (Or.inl rfl)) pgs_nil))) (pss_one (ps_for (passes_of rfl) rfl (pi_enum (by rfl) T.n_enumerate (pa_cons (pv 4) pa_nil)) (pg_tup rfl (pgs_cons (pg_name (i := 5) sc_loaded.nd rfl (Or.inl rfl)) (pgs_cons (pg_name (i := 6) sc_loaded.nd rfl (Or.inl rfl)) pgs_nil))) (pss_one (ps_dput hu (pv 2) (pe_op op_add (pe_op op_add (pv 1) (pv 3)) (pv 5)) (pv 6) rfl)))))
      (pss_cons (ps_for (passes_of rfl) rfl (pi_list (pe_ix (r := rIxT K) ix_tup (pv 0) pe_int (fun _ _ => rfl))) (pg_tup rfl (pgs_cons (pg_name (i := 3) sc_loaded.nd rfl (Or.inl rfl)) (pgs_cons (pg_name (i := 7) sc_loaded.nd rfl (Or.inl rfl)) (pgs_cons (pg_name (i := 8) sc_loaded.nd rfl (Or.inl rfl)) pgs_nil)))) (pss_cons (ps_set (i := 9) sc_loaded.nd rfl (Or.inl rfl) (pe_op op_add (pv 1) (pv 3)))
      (pss_one (ps_dput hu (pv 2) (pv 9) (Jl.pe_ei (pe_meth (pe_call (G_rule_of) (hr.mono (by decide)) rfl T.m_rule_of T.F_rule_of.kp T.b_rule_of .nil pass0 (pa_cons (pv 7) pa_nil)) T.c_Rule T.me_Rule_filled (G_Rule_filled) (hr.mono (by decide)) T.b_Rule_filled .nil pass0 (pa_cons (pe_dget hu (pv 2) (pv 9) (fun _ _ => rfl)) (pa_cons (pv 9) (pa_cons (pe_op op_add (pv 1) (pv 8)) pa_nil)))) (Jl.pe_ei (pe_meth (pe_call (G_rule_of) (hr.mono (by decide)) rfl T.m_rule_of T.F_rule_of.kp T.b_rule_of .nil pass0 (pa_cons (pv 7) pa_nil)) T.c_HighRule T.me_HighRule_filled (G_HighRule_filled) (hr.mono (by decide)) T.b_HighRule_filled .nil pass0 (pa_cons (pe_dget hu (pv 2) (pv 9) (fun _ _ => rfl)) (pa_cons (pv 9) (pa_cons (pe_op op_add (pv 1) (pv 8)) pa_nil)))) (pe_meth (pe_call (G_rule_of) (hr.mono (by decide)) rfl T.m_rule_of T.F_rule_of.kp T.b_rule_of .nil pass0 (pa_cons (pv 7) pa_nil)) T.c_LowRule T.me_LowRule_filled (G_LowRule_filled) (hr.mono (by decide)) T.b_LowRule_filled .nil pass0 (pa_cons (pe_dget hu (pv 2) (pv 9) (fun _ _ => rfl)) (pa_cons (pv 9) (pa_cons (pe_op op_add (pv 1) (pv 8)) pa_nil)))))) rfl))))
      (pss_one (ps_ret (pv 2))))))), ?_⟩
    show (_ : TS) _ [some (x), some (.int b), none, none, none, none, none, none, none, none] H
    walk_at "w"
    rcases k with ⟨hf, hsz, k⟩ | ⟨nf, k⟩
    rotate_left
    · exact use_need_no hd hst nf k
    refine use_need_ok hd hst hf ?_
    obtain ⟨t, p, l, xs, ys, rfl, ht, hp, hxs, hl, hys⟩ := Jl.dp_wh hd
    have hb : 1 ≤ b ∧ b < 4294967296 := by have := hf.1; have := hf.2.2; omega
    walk_at "w"
    refine fun m nm => ?_
    walk_at "w"
    refine Jl.s_seq (Jl.s_forLg (xs := xs) (fun i σ' H' => Same H H' ∧ Jl.DL H' m (sh b (Jl.wordsAt (w.parts.take i))) ∧ ∃ v3 v4 v5 v6, σ' = [some (.ref t), some (.int b), some (.ref m), v3, v4, v5, v6, none, none, none]) (upd H m (.dK [])) (fun R z => ?_) ((Jl.same_upd nm).seq hp) ⟨Jl.same_upd nm, Jl.DL.new, none, none, none, none, rfl⟩ (fun i σ' H' _ h => h.1.seq hp) (fun i x σ' H' hi h => ?_) (fun σ' H' h => ?_))
    · walk_at "w"
      exact Jl.s_ixT (Jl.sameT (Jl.same_upd nm) ht) (i := 3) rfl z
    · obtain ⟨s1, D, v3, v4, v5, v6, rfl⟩ := h
      obtain ⟨dq, hdq, hx⟩ := Jl.da_get hxs hi
      rw [List.getElem?_map] at hdq
      obtain ⟨⟨pl, ws⟩, hq, rfl⟩ : ∃ q, w.parts[i]? = some q ∧ Jl.partD q = dq := by
        cases h : w.parts[i]? with
        | none => rw [h] at hdq; cases hdq
        | some q => rw [h] at hdq; exact ⟨q, rfl, Option.some.inj hdq⟩
      obtain ⟨tq, W, rfl, htq, hW⟩ := Jl.dp_part hx
      refine Jl.s_gTup (Jl.sameT s1 htq) rfl ?_
      walk_at "w"
      refine Jl.s_forE (xs := ws.map V.int) (fun j σ' H2 => Same H H2 ∧ Jl.DL H2 m (sh b (Jl.wordsAt (w.parts.take i) ++ Jl.posW pl (ws.take j))) ∧ ∃ v5 v6, σ' = [some (.ref t), some (.int b), some (.ref m), some (.int pl), some (.ref W), v5, v6, none, none, none]) H' (fun R z => ?_) (s1.seq hW) ⟨s1, ?_, v5, v6, rfl⟩ (fun j σ' H2 _ h => h.1.seq hW) (fun j y σ' H2 T hy h nT => ?_) (fun σ' H2 h => ?_)
      · walk_at "w"
        exact z
      · rw [List.take_zero]
        show Jl.DL H' m (sh b (_ ++ []))
        rw [List.append_nil]
        exact D
      · obtain ⟨s2, D2, w5, w6, rfl⟩ := h
        obtain ⟨wj, hwj, rfl⟩ := Jl.ints_get hy
        obtain ⟨e1, e2, e3⟩ := pos_next f.inc hq hwj
        have sT := Jl.same_upd (o := .tup [.int (j : Int), .int wj]) nT
        refine Jl.s_gTup (.inl (.inl upd_same)) rfl ?_
        walk_at "w"
        refine Jl.s_dput ?_
        walk_at "w"
        obtain ⟨o, P, D3⟩ := (D2.same sT).put (a := b + pl + (j : Int)) (w := wj) (by rw [Int.add_assoc]; exact sh_key e2) (by
          unfold sh
          rw [List.length_map]
          have := f.nw
          omega)
        refine ⟨m, _, rfl, P, Jl.same_mut (s2.trans sT) nm, ?_, _, _, rfl⟩
        · rw [e1]
          show Jl.DL _ m (sh b (_ ++ (_ ++ [_])))
          rw [← List.append_assoc]
          have e4 : sh b (Jl.wordsAt (w.parts.take i) ++ Jl.posW pl (ws.take j) ++ [(pl + (j : Int), wj)]) = sh b (Jl.wordsAt (w.parts.take i) ++ Jl.posW pl (ws.take j)) ++ [(b + pl + (j : Int), wj)] := by
            unfold sh
            rw [List.map_append, Int.add_assoc]; rfl
          rw [e4]
          exact D3
      · obtain ⟨s2, D2, w5, w6, rfl⟩ := h
        refine ⟨s2, ?_, _, _, _, _, rfl⟩
        rw [wordsAt_next hq]
        rw [List.length_map, List.take_length] at D2
        exact D2
    obtain ⟨s1, D, v3, v4, v5, v6, rfl⟩ := h
    have hxl := Jl.da_len hxs
    rw [List.length_map] at hxl
    rw [hxl, List.take_length] at D
    have D : Jl.DL H' m (Jl.memAt w.parts (w.leans.take 0) b) := D
    refine Jl.s_seq (Jl.s_forLg (xs := ys) (fun i σ' H' => Same H H' ∧ Jl.DL H' m (Jl.memAt w.parts (w.leans.take i) b) ∧ ∃ v3 v7 v8 v9, σ' = [some (.ref t), some (.int b), some (.ref m), v3, v4, v5, v6, v7, v8, v9]) H' (fun R z => ?_) (s1.seq hl) ⟨s1, D, _, _, _, _, rfl⟩ (fun i σ' H' _ h => h.1.seq hl) (fun i x σ' H2 hi h => ?_) (fun σ' H2 h => ?_))
    · walk_at "w"
      exact Jl.s_ixT (Jl.sameT s1 ht) (i := 4) rfl z
    · obtain ⟨s2, D2, w3, w7, w8, w9, rfl⟩ := h
      obtain ⟨dq, hdq, hx⟩ := Jl.da_get hys hi
      rw [List.getElem?_map] at hdq
      obtain ⟨⟨pl, r, g⟩, hq, rfl⟩ : ∃ q, w.leans[i]? = some q ∧ Jl.leanD q = dq := by
        cases h : w.leans[i]? with
        | none => rw [h] at hdq; cases hdq
        | some q => rw [h] at hdq; exact ⟨q, rfl, Option.some.inj hdq⟩
      obtain ⟨tq, rfl, htq⟩ := Jl.dp_lean hx
      have hmem := List.mem_of_getElem? hq
      obtain ⟨hr, hg1, hg2⟩ := f.lok _ hmem
      obtain ⟨⟨pl', wd⟩, hwd, epl⟩ := List.mem_map.mp (f.lat _ hmem)
      have epl : pl' = pl := epl
      subst epl
      have hlt : ∀ k ∈ w.leans.take i, k.1 < pl' := fun k hk => by
        obtain ⟨j, hj, e⟩ := List.getElem_of_mem hk
        have hji : j < i := by rw [List.length_take] at hj; omega
        have hil : i < w.leans.length := (List.getElem?_eq_some_iff.mp hq).1
        rw [List.getElem_take] at e
        have h2 := List.pairwise_iff_getElem.mp f.linc j i (by rw [List.length_map]; omega) (by rw [List.length_map]; exact hil) hji
        rw [List.getElem_map, List.getElem_map, e, (List.getElem?_eq_some_iff.mp hq).2] at h2
        exact h2
      have hg1 : -(10 ^ 11) ≤ g := hg1
      have hg2 : g ≤ 10 ^ 11 := hg2
      have huniq : ∀ x ∈ Jl.wordsAt w.parts, x.1 = pl' → x.2 = wd := fun x hxw e => by
        obtain ⟨x1, x2⟩ := x
        have e : x1 = pl' := e
        subst e
        exact Jl.key_uniq (Jl.nodup_inc f.inc) hxw hwd
      have hcur : (b + pl', wd) ∈ Jl.memAt w.parts (w.leans.take i) b := by
        refine List.mem_map.mpr ⟨(pl', wd), hwd, ?_⟩
        show (b + pl', Jl.filledW (w.leans.take i) b (pl', wd)) = (b + pl', wd)
        rw [Jl.filled_none fun k hk => by have := hlt k hk; show k.1 ≠ pl'; omega]
      have hnd := Jl.memAt_nodup (ls := w.leans.take i) (b := b) f
      have hkey : b + pl' ∈ (Jl.memAt w.parts (w.leans.take i) b).map (·.1) := List.mem_map.mpr ⟨_, hcur, rfl⟩
      have hlen : (Jl.memAt w.parts (w.leans.take i) b).length ≤ 99999 := by
        unfold Jl.memAt
        rw [List.length_map]
        have := f.nw
        omega
      have e3 : w.leans.take (i + 1) = w.leans.take i ++ [(pl', r, g)] := by rw [List.take_add_one, hq]; rfl
      refine Jl.s_gTup (Jl.sameT s2 htq) rfl ?_
      walk_at "w"
      refine Jl.s_dput ?_
      rcases hr with rfl | rfl | rfl
      · refine Jl.s_ei1 ?_
        refine Jl.s_methT ?_
        walk_at "w"
        rename_i pr H3 s3 npr hR
        obtain ⟨drx, hR⟩ := hR
        refine ⟨pr, drx, _, rfl, hR, (by rw [lookup_putF, if_neg (by decide +kernel)]; rfl), ?_⟩
        walk_at "w"
        refine Jl.s_dgetR ?_
        walk_at "w"
        refine ⟨m, .int wd, rfl, (D2.same s3).get hnd hcur, ?_⟩
        walk_at "w"
        obtain ⟨o, P, D4⟩ := (D2.same s3).set (w := (b + g) % 4294967296) hkey hlen
        refine ⟨m, _, rfl, P, Jl.same_mut (s2.trans s3) nm, ?_, _, _, _, _, rfl⟩
        rw [e3, ← Jl.memAt_set hlt huniq]
        exact D4
      · refine Jl.s_ei2 (Jl.s_ei1 ?_)
        refine Jl.s_methT ?_
        walk_at "w"
        rename_i pr H3 s3 npr hR
        obtain ⟨drx, hR⟩ := hR
        refine ⟨pr, drx, _, rfl, hR, (by rw [lookup_putF, if_neg (by decide +kernel)]; rfl), ?_⟩
        walk_at "w"
        refine Jl.s_dgetR ?_
        walk_at "w"
        refine ⟨m, .int wd, rfl, (D2.same s3).get hnd hcur, ?_⟩
        walk_at "w"
        obtain ⟨o, P, D4⟩ := (D2.same s3).set (w := wd - wd % 65536 + (b + g + 32768) / 65536 % 65536) hkey hlen
        refine ⟨m, _, rfl, P, Jl.same_mut (s2.trans s3) nm, ?_, _, _, _, _, rfl⟩
        rw [e3, ← Jl.memAt_set hlt huniq]
        exact D4
      · refine Jl.s_ei2 (Jl.s_ei2 ?_)
        refine Jl.s_methT ?_
        walk_at "w"
        rename_i pr H3 s3 npr hR
        obtain ⟨drx, hR⟩ := hR
        refine ⟨pr, drx, _, rfl, hR, (by rw [lookup_putF, if_neg (by decide +kernel)]; rfl), ?_⟩
        walk_at "w"
        refine Jl.s_dgetR ?_
        walk_at "w"
        refine ⟨m, .int wd, rfl, (D2.same s3).get hnd hcur, ?_⟩
        walk_at "w"
        obtain ⟨o, P, D4⟩ := (D2.same s3).set (w := wd - wd % 65536 + (b + g) % 65536) hkey hlen
        refine ⟨m, _, rfl, P, Jl.same_mut (s2.trans s3) nm, ?_, _, _, _, _, rfl⟩
        rw [e3, ← Jl.memAt_set hlt huniq]
        exact D4
    obtain ⟨s2, D2, w3, w7, w8, w9, rfl⟩ := h
    have hyl := Jl.da_len hys
    rw [List.length_map] at hyl
    rw [hyl, List.take_length] at D2
    walk_at "w"
    exact k m _ s2 nm D2
/-! ### start_of -/
def sp_start_of (T : Txt K mg) : Sp := fun vs H Q E => ∃ (x : V) (w : Jl.Wh) (b : Int), vs = [x, .int b] ∧ Dp K H x (Jl.whD w) ∧ 0 < w.step ∧ ((Jl.fitsAt w b ∧ Q (.int (b + w.entry)) H) ∨ (¬ Jl.fitsAt w b ∧ ∀ d, H d = none → E (.ref T.a_NoBase) (some d) (upd H d (.xd [("base", .int b)]))))
theorem use_start_ok {T : Txt K mg} {x : V} {w : Jl.Wh} {b : Int} {H : Hp} {Q : VK} {E : XK} (hd : Dp K H x (Jl.whD w)) (hst : 0 < w.step) (f : Jl.fitsAt w b) (z : Q (.int (b + w.entry)) H) : sp_start_of T [x, .int b] H Q E := ⟨x, w, b, rfl, hd, hst, .inl ⟨f, z⟩⟩
theorem use_start_no {T : Txt K mg} {x : V} {w : Jl.Wh} {b : Int} {H : Hp} {Q : VK} {E : XK} (hd : Dp K H x (Jl.whD w)) (hst : 0 < w.step) (f : ¬ Jl.fitsAt w b) (z : ∀ d, H d = none → E (.ref T.a_NoBase) (some d) (upd H d (.xd [("base", .int b)]))) : sp_start_of T [x, .int b] H Q E := ⟨x, w, b, rfl, hd, hst, .inr ⟨f, z⟩⟩
theorem ok_start_of (T : Txt K mg) : FnOk P w K mg base (L2.CX P w) 4 T.a_start_of T.d_start_of ["whole", "base"] (sp_start_of T) := by
  have G_need_base := ok_need_base (P := P) (w := w) (base := base) T
  refine T.F_start_of.okX sc_start_of (fun vs H Q E h => ?_) (fun cdv A outer s H vs Q E hr h => ?_)
  · obtain ⟨x, w, b, rfl, hd, hst, k⟩ := h
    rfl
  · obtain ⟨x, w, b, rfl, hd, hst, k⟩ := h
    have hu := hu_of hr
    refine ⟨_, (pss_cons (ps_expr (pe_callS (G_need_base) (hr.mono (by decide)) rfl T.m_need_base T.F_need_base.kp T.b_need_base (fun σ => passAt (takes_of rfl rfl rfl rfl) σ) (pa_cons (pv 0) (pa_cons (pv 1) pa_nil))))
      (pss_one (ps_ret (pe_op op_add (pv 1) (pe_ix (r := rIxT K) ix_tup (pv 0) pe_int (fun _ _ => rfl)))))), ?_⟩
    show (_ : TS) _ [some (x), some (.int b)] H
    walk_at "w"
    rcases k with ⟨f, k⟩ | ⟨nf, k⟩
    rotate_left
    · exact use_need_no hd hst nf k
    refine use_need_ok hd hst f ?_
    obtain ⟨t, p, l, xs, ys, rfl, ht, -⟩ := Jl.dp_wh hd
    walk_at "w"
    refine Jl.s_ixT ht (i := 2) rfl ?_
    walk_at "w"
    exact k
/-! ### _law_whole -/
def sp_law_whole : Sp := fun vs H Q _ => ∃ n : Int, vs = [.int n] ∧ Q (.bl true) H
theorem use_whole {n : Int} {H : Hp} {Q : VK} {E : XK} (z : Q (.bl true) H) : sp_law_whole [.int n] H Q E := ⟨n, rfl, z⟩
local macro_rules | `(tactic| walk_at "s") => `(tactic| (with_reducible refine use_whole ?_))
theorem ok_law_whole (T : Txt K mg) : FnOk P w K mg base CX0 1 T.a_law_whole T.d_law_whole ["_law_found"] (sp_law_whole) := by
  refine T.F_law_whole.ok sc_law_whole (fun vs H Q E h => ?_) (fun cdv A outer s H vs Q E hr h => ?_)
  · obtain ⟨n, rfl, k⟩ := h
    rfl
  · obtain ⟨n, rfl, k⟩ := h
    have hu := hu_of hr
    refine ⟨_, (pss_one (ps_ret (pe_and (pe_callB call_isi (by rfl) T.n_isinstance (by decide +kernel) (pa_cons (pv 0) (pa_cons (pe_bltn (v := .ty "int") (u := .type "int") (by rfl) T.n_int (by decide +kernel) rfl) pa_nil))) (pe_one (pe_not (pe_callB call_isi (by rfl) T.n_isinstance (by decide +kernel) (pa_cons (pv 0) (pa_cons (pe_bltn (v := .ty "bool") (u := .type "bool") (by rfl) T.n_bool (by decide +kernel) rfl) pa_nil)))))))), ?_⟩
    show (_ : TS) _ [some (.int n)] H
    walk_at "w"
    exact k
/-! ### _law_cell_at -/
def sp_law_cell_at (K : PySem.W.Frag) : Sp := fun vs H Q _ => ∃ (a : Addr) (ns : List Int) (i : Int), vs = [.ref a, .int i] ∧ SqL K H a (ns.map V.int) ∧ 0 ≤ i ∧ Q (.int (ns.getD i.toNat 0)) H
theorem use_cell_at {K : PySem.W.Frag} {a : Addr} {ns : List Int} {i : Int} {H : Hp} {Q : VK} {E : XK} (hS : SqL K H a (ns.map V.int)) (h0 : 0 ≤ i) (z : Q (.int (ns.getD i.toNat 0)) H) : sp_law_cell_at K [.ref a, .int i] H Q E := ⟨a, ns, i, rfl, hS, h0, z⟩
theorem ok_law_cell_at (T : Txt K mg) : FnOk P w K mg base CX0 1 T.a_law_cell_at T.d_law_cell_at ["_law_script", "_law_k"] (sp_law_cell_at K) := by
  refine T.F_law_cell_at.ok sc_law_cell_at (fun vs H Q E h => ?_) (fun cdv A outer s H vs Q E hr h => ?_)
  · obtain ⟨a, ns, i, rfl, hS, h0, k⟩ := h
    rfl
  · obtain ⟨a, ns, i, rfl, hS, h0, k⟩ := h
    have hu := hu_of hr
    refine ⟨_, (pss_cons (ps_if (pt_cmpR op_lt (pv 1) (pe_callB (r := Jl.rLenL K) Jl.cl_lenL (by rfl) T.n_len (by decide +kernel) (pa_cons (pv 0) pa_nil)) (nomark _)) (pss_one (ps_ret (pe_ix (r := rIxL K) ix_list (pv 0) (pv 1) (fun _ _ => rfl)))) pss_nil)
      (pss_one (ps_ret pe_int))), ?_⟩
    show (_ : TS) _ [some (.ref a), some (.int i)] H
    walk_at "w"
    rw [List.length_map]
    refine Jl.s_iteD (fun h => ?_) (fun h => ?_)
    · walk_at "w"
      refine Jl.s_ixL hS (Jl.atI_int (k := i.toNat) (List.getElem?_eq_getElem (by omega)) (by omega)) ?_
      rw [List.getD_eq_getElem?_getD, List.getElem?_eq_getElem (by omega)] at k
      exact k
    · walk_at "w"
      rw [List.getD_eq_getElem?_getD, List.getElem?_eq_none (by omega)] at k
      exact k
/-! ### _law_target_by -/
def sp_law_target_by : Sp := fun vs H Q _ => ∃ n : Int, vs = [.int n] ∧ 0 ≤ n ∧ n < 2147483647 ∧ ∀ t : Int, -(10 ^ 11) ≤ t → t ≤ 10 ^ 11 → Q (.int t) H
theorem use_target_by {n : Int} {H : Hp} {Q : VK} {E : XK} (h0 : 0 ≤ n) (h1 : n < 2147483647) (z : ∀ t : Int, -(10 ^ 11) ≤ t → t ≤ 10 ^ 11 → Q (.int t) H) : sp_law_target_by [.int n] H Q E := ⟨n, rfl, h0, h1, z⟩
theorem ok_law_target_by (T : Txt K mg) : FnOk P w K mg base CX0 1 T.a_law_target_by T.d_law_target_by ["_law_number"] (sp_law_target_by) := by
  refine T.F_law_target_by.ok sc_law_target_by (fun vs H Q E h => ?_) (fun cdv A outer s H vs Q E hr h => ?_)
  · obtain ⟨n, rfl, h0, h1, k⟩ := h
    rfl
  · obtain ⟨n, rfl, h0, h1, k⟩ := h
    have hu := hu_of hr
    refine ⟨_, (pss_cons (ps_if (pt_cmpR op_eq (pe_op op_mod (pv 0) pe_int) pe_int (nomark _)) (pss_one (ps_ret (pe_op op_sub (pe_op op_mod (pe_op op_fdiv (pv 0) pe_int) pe_int) pe_int))) pss_nil)
      (pss_cons (ps_if (pt_cmpR op_eq (pe_op op_mod (pv 0) pe_int) pe_int (nomark _)) (pss_one (ps_ret (pe_op op_sub (pe_op op_mod (pe_op op_mul (pv 0) pe_int) pe_int) pe_int))) pss_nil)
      (pss_one (ps_ret (pe_op op_sub (pe_op op_add (pe_op op_mul (pe_op op_sub (pe_op op_mod (pe_op op_fdiv (pv 0) pe_int) pe_int) pe_int) pe_int) (pe_op op_mod (pe_op op_fdiv (pv 0) pe_int) pe_int)) pe_int))))), ?_⟩
    show (_ : TS) _ [some (.int n)] H
    walk_at "w"
    refine Jl.s_iteD (fun h => ?_) (fun h => ?_)
    · walk_at "w"
      exact k _ (by omega) (by omega)
    walk_at "w"
    refine Jl.s_iteD (fun h => ?_) (fun h => ?_)
    · walk_at "w"
      exact k _ (by omega) (by omega)
    walk_at "w"
    exact k _ (by omega) (by omega)
/-! ### _law_put -/
def sp_law_put (K : PySem.W.Frag) : Sp := fun vs H Q _ => ∃ (B F : Hp) (P L : Addr) (n : Nat) (ps : List Jl.Part) (ls : List Jl.Lea) (c e : Int), vs = [.int c, .ref P, .ref L, .int e] ∧ e = Jl.endOf ps ∧ Jl.BW K B F H P L [] ps ls ∧ Jl.Fit n ps ls ∧ n ≤ 200 ∧ ∀ (H' F' : Hp) (R : Addr) (ps' : List Jl.Part) (ls' : List Jl.Lea) (rows : List Str), Same F F' → Jl.BW K B F' H' P L [] ps' ls' → Jl.Fit (n + 1) ps' ls' → F' R = some (.lst (rows.map V.str)) → rows.length ≤ 2 → Q (.ref R) H'
theorem use_law_put {K : PySem.W.Frag} {B F : Hp} {P L : Addr} {n : Nat} {ps : List Jl.Part} {ls : List Jl.Lea} {c : Int} {H : Hp} {Q : VK} {E : XK} (b : Jl.BW K B F H P L [] ps ls) (f : Jl.Fit n ps ls) (hn : n ≤ 200) (z : ∀ (H' F' : Hp) (R : Addr) (ps' : List Jl.Part) (ls' : List Jl.Lea) (rows : List Str), Same F F' → Jl.BW K B F' H' P L [] ps' ls' → Jl.Fit (n + 1) ps' ls' → F' R = some (.lst (rows.map V.str)) → rows.length ≤ 2 → Q (.ref R) H') : sp_law_put K [.int c, .ref P, .ref L, .int (Jl.endOf ps)] H Q E := ⟨B, F, P, L, n, ps, ls, c, _, rfl, rfl, b, f, hn, z⟩
theorem ok_law_put (T : Txt K mg) : FnOk P w K mg base CX0 2 T.a_law_put T.d_law_put ["_law_cell", "_law_parts", "_law_leans", "_law_end_here"] (sp_law_put K) := by
  have G_law_target_by := ok_law_target_by (P := P) (w := w) (base := base) T
  refine T.F_law_put.ok sc_law_put (fun vs H Q E h => ?_) (fun cdv A outer s H vs Q E hr h => ?_)
  · obtain ⟨B, F, P, L, n, ps, ls, c, e, rfl, he, b, f, hn, k⟩ := h
    rfl
  · obtain ⟨B, F, P, L, n, ps, ls, c, e, rfl, he, b, f, hn, k⟩ := h
    have hu := hu_of hr
    refine ⟨_, (pss_cons (ps_set (i := 4) sc_law_put.nd rfl (Or.inl rfl) (pe_op op_mod (pe_op op_mul (pv 0) pe_int) pe_int))
      (pss_cons (Jl.ps_ifK (PW.pt (pw_or (pt_cmpR (op_eqD hr.units) (pv 1) (pe_lst pa_nil) (nomark _)) (pw_or1 (pt_cmpR op_eq (pe_op op_mod (pv 0) pe_int) pe_int (nomark _))))) (pss_cons (ps_set (i := 5) sc_law_put.nd rfl (Or.inl rfl) (pe_op op_add (pv 3) (pe_op op_mod (pv 4) pe_int)))
      (pss_cons (ps_if (pt_cmpR op_eq (pe_op op_mod (pe_op op_fdiv (pv 0) pe_int) pe_int) pe_int (nomark _)) (pss_one (ps_set (i := 5) sc_law_put.nd rfl (Or.inl rfl) (pe_op op_add (pv 3) (pe_op op_mod (pv 4) pe_int)))) pss_nil)
      (pss_cons (ps_expr (pe_bm PySem.F.plainAttrs_list PySem.F.slot_list_append PySem.F.type_list_append mt_append (pv 1) (pa_cons (pe_tup (pa_cons (pv 5) (pa_cons (pe_lst pa_nil) pa_nil))) pa_nil)))
      (pss_one (ps_ret (pe_lst (pa_cons (pe_op Jl.op_addS pe_str (pe_callTy Jl.cl_strI (by rfl) T.n_str (by decide +kernel) (pa_cons (pv 5) pa_nil))) pa_nil))))))) pss_nil)
      (pss_cons (ps_set (i := 6) sc_law_put.nd rfl (Or.inl rfl) (pe_op op_mod (pe_op op_mul (pv 0) pe_int) pe_int))
      (pss_cons (Jl.ps_ifK (pt_cmpR op_eq (pe_op op_mod (pe_op op_fdiv (pv 0) pe_int) pe_int) pe_int (nomark _)) (pss_one (ps_set (i := 6) sc_law_put.nd rfl (Or.inl rfl) (pe_ix (r := rIxL K) ix_list (pe_lst (pa_cons pe_int (pa_cons pe_int pa_nil))) (pe_op op_mod (pe_op op_fdiv (pv 0) pe_int) pe_int) (fun _ _ => rfl)))) pss_nil)
      (pss_cons (ps_set (i := 7) sc_law_put.nd rfl (Or.inl rfl) (pe_lst (pa_cons (pe_op Jl.op_addS pe_str (pe_callTy Jl.cl_strI (by rfl) T.n_str (by decide +kernel) (pa_cons (pv 6) pa_nil))) pa_nil)))
      (pss_cons (Jl.ps_ifK (pt_cmpR op_gt (pe_op op_mod (pv 0) pe_int) pe_int (nomark _)) (pss_cons (ps_set (i := 8) sc_law_put.nd rfl (Or.inl rfl) (pe_ix (r := rIxL K) ix_list (pe_lst (pa_cons pe_str (pa_cons pe_str (pa_cons pe_str pa_nil)))) (pe_op op_mod (pv 4) pe_int) (fun _ _ => rfl)))
      (pss_cons (ps_expr (pe_bm PySem.F.plainAttrs_list PySem.F.slot_list_append PySem.F.type_list_append mt_append (pv 2) (pa_cons (pe_tup (pa_cons (pv 3) (pa_cons (pv 8) (pa_cons (pe_call (G_law_target_by) (hr.mono (by decide)) rfl T.m_law_target_by T.F_law_target_by.kp T.b_law_target_by .nil pass0 (pa_cons (pe_op op_fdiv (pv 4) pe_int) pa_nil)) pa_nil)))) pa_nil)))
      (pss_one (ps_expr (pe_bm PySem.F.plainAttrs_list PySem.F.slot_list_append PySem.F.type_list_append mt_append (pv 7) (pa_cons (pe_op Jl.op_addS (pe_op Jl.op_addS (pe_op Jl.op_addS pe_str (pv 8)) pe_str) (pe_callTy Jl.cl_strI (by rfl) T.n_str (by decide +kernel) (pa_cons (pe_ix (r := rIxT K) ix_tup (pe_ix (r := rIxL K) ix_list (pv 2) (pe_un un_neg pe_int) (fun _ _ => rfl)) pe_int (fun _ _ => rfl)) pa_nil))) pa_nil)))))) pss_nil)
      (pss_cons (ps_expr (pe_bm PySem.F.plainAttrs_list PySem.F.slot_list_append PySem.F.type_list_append mt_append (pe_ix (r := rIxT K) ix_tup (pe_ix (r := rIxL K) ix_list (pv 1) (pe_un un_neg pe_int) (fun _ _ => rfl)) pe_int (fun _ _ => rfl)) (pa_cons (pv 6) pa_nil)))
      (pss_one (ps_ret (pv 7)))))))))), ?_⟩
    show (_ : TS) _ [some (.int c), some (.ref P), some (.ref L), some (.int e), none, none, none, none, none] H
    walk_at "w"
    have hnum : 0 ≤ c * 1583458089 % 2147483647 ∧ c * 1583458089 % 2147483647 < 2147483647 := by omega
    generalize c * 1583458089 % 2147483647 = num at *
    have he0 := f.end0
    have he1 := f.end1
    rw [← he] at he0 he1
    refine Jl.s_seq (Jl.s_ifKh (P := ps = [] ∨ c % 6 = 0) (fun σ' H' => σ' = [some (.int c), some (.ref P), some (.ref L), some (.int e), some (.int num), none, none, none, none] ∧ Same H H' ∧ ¬ ps = []) (fun T t1 t2 => ?_) (fun _ H1 N s1 hN => ?_) (fun g H1 N s1 hN => ?_) (fun σ' H1 hM => ?_))
    · walk_at "w"
      refine ⟨by decide, fun q nq => ?_⟩
      have s1 := Jl.same_upd (o := .lst []) nq
      refine Jl.s_eqNilD (Jl.dp_same s1 b.dpP) (Jl.parts_shaped ps) upd_same ?_
      walk_at "w"
      refine Jl.s_iteD (fun g => ?_) (fun g => ?_)
      · exact t1 _ s1 (.inl (List.map_eq_nil_iff.mp g))
      · walk_at "w"
        by_cases g2 : c % 6 = 0
        · rw [decide_eq_true g2]; exact t1 _ s1 (.inr g2)
        · rw [decide_eq_false g2]; exact t2 _ s1 fun z => z.elim (fun z => g (by rw [z]; rfl)) g2
    · have b1 := b.same s1
      walk_at "w"
      refine Jl.s_iteAsgI (e + num % 9) (e + num % 10000000) (fun _ R z => ?_) rfl ?_
      · walk_at "w"; exact z
      simp only [List.set_cons_zero, List.set_cons_succ]
      have hpl : e ≤ (if c / 6 % 4 = 1 then e + num % 10000000 else e + num % 9) ∧ (if c / 6 % 4 = 1 then e + num % 10000000 else e + num % 9) < e + 10000000 := by split <;> omega
      generalize (if c / 6 % 4 = 1 then e + num % 10000000 else e + num % 9) = pl at *
      obtain ⟨vs0, hvs0, -⟩ : ∃ vs, H1 P = some (.lst vs) ∧ True := by
        obtain ⟨a, xs, e1, h1, h2⟩ := Jl.dp_list b1.dpP
        rcases b1.2 with ⟨_, h, _⟩ | ⟨_, _, _, _, _, _, _, h, _⟩ <;> exact ⟨_, h, trivial⟩
      walk_at "w"
      refine ⟨by decide, fun W nW => ?_⟩
      walk_at "w"
      refine ⟨(by show 2 ≤ sizeLine; decide), fun t nt => ?_⟩
      obtain ⟨vs, hP, hvl, hP2, F', sF, b2⟩ := b1.part (pl := pl) nW nt
      refine Jl.s_nil ?_
      refine Jl.s_append hP2 ?_ (Jl.small5' (by rw [hvl]; have := f.np; omega))
      generalize upd (upd (upd H1 W (.lst [])) t (.tup [.int pl, .ref W])) P (.lst (vs ++ [.ref t])) = H2 at *
      walk_at "w"
      refine Jl.s_strN (by omega) (by omega) (fun hl => ?_)
      refine Jl.s_addS ?_ (by show 5 + _ ≤ _; omega)
      walk_at "w"
      refine ⟨(by show 1 ≤ sizeLine; decide), fun R nR => ?_⟩
      obtain ⟨b3, sF2⟩ := b2.new (o := .lst [.str ("part " ++ Jl.numT pl)]) nR
      exact k _ _ R _ _ ["part " ++ Jl.numT pl] (sF.trans sF2) b3 (f.part (by rw [← he]; exact hpl.1) (by rw [← he]; exact hpl.2)) upd_same (by show 1 ≤ 2; decide)
    · walk_at "w"
      exact hN _ _ ⟨rfl, s1, fun z => g (.inl z)⟩
    obtain ⟨rfl, s1, hne⟩ := hM
    have b1 := b.same s1
    rcases List.eq_nil_or_concat ps with rfl | ⟨ps0, ⟨pl, ws⟩, rfl⟩
    · exact absurd rfl hne
    rw [List.concat_eq_append] at *
    clear hne
    walk_at "w"
    have hw0 : 0 ≤ c * 48271 % 4294967296 ∧ c * 48271 % 4294967296 < 4294967296 := by omega
    generalize c * 48271 % 4294967296 = w0 at *
    refine Jl.s_seq (Jl.s_ifKw (P := c / 6 % 5 = 0) (.int w0) (fun x H' => (∃ w : Int, x = .int w ∧ 0 ≤ w ∧ w < 4294967296) ∧ Same H1 H') rfl (fun T t1 t2 => ?_) (fun g R hR => ?_) (fun _ => ⟨⟨w0, rfl, hw0⟩, Same.refl _⟩) (fun x H2 hM => ?_))
    · walk_at "w"
      by_cases g : c / 6 % 5 = 0
      · rw [decide_eq_true g]; exact t1 g
      · rw [decide_eq_false g]; exact t2 g
    · walk_at "w"
      refine ⟨(by show 2 ≤ sizeLine; decide), fun p np => ?_⟩
      walk_at "w"
      have hc : c / 30 % 2 = 0 ∨ c / 30 % 2 = 1 := by omega
      rcases hc with hc | hc
      all_goals
        rw [hc]
        refine Jl.s_ixL Jl.sqU rfl ?_
        exact hR _ _ ⟨⟨_, rfl, by decide⟩, Jl.same_upd np⟩
    obtain ⟨⟨w, rfl, hw⟩, s2⟩ := hM
    simp only [List.set_cons_zero, List.set_cons_succ]
    have b2 := b1.same s2
    walk_at "w"
    refine Jl.s_strN (by omega) (by omega) (fun hl => ?_)
    refine Jl.s_addS ?_ (by show 5 + _ ≤ _; omega)
    walk_at "w"
    refine ⟨(by show 1 ≤ sizeLine; decide), fun R nR => ?_⟩
    have b3 := b2.newX (o := .lst [.str ("word " ++ Jl.numT w)]) nR
    have hR0 : (upd H2 R (.lst [.str ("word " ++ Jl.numT w)])) R = some (.lst (["word " ++ Jl.numT w].map V.str)) := upd_same
    generalize upd H2 R (.lst [.str ("word " ++ Jl.numT w)]) = H3 at *
    walk_at "w"
    refine Jl.s_seq (Jl.s_ifKs (P := c % 6 > 3) (fun σ' H' => ∃ (v : Option V) (F' : Hp) (ls' : List Jl.Lea) (rows : List Str), σ' = [some (.int c), some (.ref P), some (.ref L), some (.int e), some (.int num), none, some (.int w), some (.ref R), v] ∧ Same F F' ∧ Jl.BW K B F' H' P L [R] (ps0 ++ [(pl, ws)]) ls' ∧ (ls' = ls ∨ ∃ t g, ls' = ls ++ [(Jl.endOf (ps0 ++ [(pl, ws)]), t, g)] ∧ Jl.isRule t ∧ -(10 ^ 11) ≤ g ∧ g ≤ 10 ^ 11) ∧ H' R = some (.lst (rows.map V.str)) ∧ rows.length ≤ 2) (fun T t1 t2 => ?_) (fun g N hN => ?_) (fun _ N hN => ?_) (fun σ' H4 hM => ?_))
    · walk_at "w"
      by_cases g : 3 < c % 6
      · rw [decide_eq_true g]; exact t1 g
      · rw [decide_eq_false g]; exact t2 g
    · walk_at "w"
      refine ⟨(by show 3 ≤ sizeLine; decide), fun p np => ?_⟩
      walk_at "w"
      obtain ⟨rt, hrt, hrok⟩ : ∃ rt : Str, atI [V.str "whole", V.str "high", V.str "low"] (num % 3) = some (.str rt) ∧ Jl.isRule rt := by
        have hc : num % 3 = 0 ∨ num % 3 = 1 ∨ num % 3 = 2 := by omega
        rcases hc with hc | hc | hc
        · rw [hc]; exact ⟨_, rfl, .inl rfl⟩
        · rw [hc]; exact ⟨_, rfl, .inr (.inl rfl)⟩
        · rw [hc]; exact ⟨_, rfl, .inr (.inr rfl)⟩
      refine Jl.s_ixL Jl.sqU hrt ?_
      have s4 := Jl.same_upd (o := .lst [.str "whole", .str "high", .str "low"]) np
      have b4 := b3.same s4
      have hR4 := s4 _ _ hR0
      generalize upd H3 p (.lst [.str "whole", .str "high", .str "low"]) = H4 at *
      walk_at "w"
      obtain ⟨us, hus, -⟩ := b4.1
      refine Jl.s_tyL hus ?_
      walk_at "w"
      refine use_target_by (by omega) (by omega) (fun g hg1 hg2 => ?_)
      walk_at "w"
      refine ⟨(by show 3 ≤ sizeLine; decide), fun t nt => ?_⟩
      obtain ⟨vs, hL, hvl, hL2, F', sF, hFt, b5⟩ := b4.lean (a := e) (z := rt) (b := g) nt
      refine Jl.s_nil ?_
      refine Jl.s_append hL2 ?_ (Jl.small5' (by rw [hvl]; have := f.nl; omega))
      have ht5 := b5.ext _ _ hFt
      have hL5 : (upd (upd H4 t (.tup [.int e, .str rt, .int g])) L (.lst (vs ++ [.ref t]))) L = some (.lst (vs ++ [.ref t])) := upd_same
      have hLR : R ≠ L := by
        intro z
        rcases b4.2 with ⟨_, _, c⟩ | ⟨_, _, _, _, _, _, _, _, _, _, _, c⟩
        · exact (Jl.nd_ne c.nd 1 2 (by decide) rfl rfl) z.symm
        · exact (Jl.nd_ne c.nd 2 3 (by decide) rfl rfl) z.symm
      have hR5 : (upd (upd H4 t (.tup [.int e, .str rt, .int g])) L (.lst (vs ++ [.ref t]))) R = some (.lst (["word " ++ Jl.numT w].map V.str)) := by
        rw [upd_ne hLR]
        exact Jl.same_upd nt _ _ hR4
      generalize upd (upd H4 t (.tup [.int e, .str rt, .int g])) L (.lst (vs ++ [.ref t])) = H5 at *
      have hrl : rt.length ≤ 5 := by
        rcases hrok with rfl | rfl | rfl <;> decide +kernel
      walk_at "w"
      refine Jl.s_addS ?_ (by show 5 + _ ≤ _; omega)
      walk_at "w"
      refine Jl.s_addS ?_ (by rw [Jl.len_app]; show 5 + _ + 1 ≤ _; omega)
      walk_at "w"
      refine Jl.s_ixL (.inl (.inl hL5)) (atI_last _ _) ?_
      walk_at "w"
      refine Jl.tup_at (i := 2) ht5 rfl ?_
      walk_at "w"
      refine Jl.s_strN (by omega) (by omega) (fun hl2 => ?_)
      walk_at "w"
      refine Jl.s_addS ?_ (by rw [Jl.len_app, Jl.len_app]; show 5 + _ + 1 + _ ≤ _; omega)
      walk_at "w"
      · refine hN _ _ ⟨_, F', _, ["word " ++ Jl.numT w, "lean " ++ rt ++ " " ++ Jl.numT g], rfl, sF, b5.updX (by simp), .inr ⟨rt, g, by rw [he], hrok, hg1, hg2⟩, ?_, by show 2 ≤ 2; decide⟩
        rw [upd_same]; rfl
      · exact Jl.small5' (by show 1 ≤ 100000; decide)
    · walk_at "w"
      exact hN _ _ ⟨_, F, ls, _, rfl, Same.refl _, b3, .inl rfl, hR0, by show 1 ≤ 2; decide⟩
    obtain ⟨v, F', ls', rows, rfl, sF, b4, hls, hR4, hrl⟩ := hM
    obtain ⟨xs, t, W, hP, ht, hW, bw⟩ := b4.word
    walk_at "w"
    refine Jl.s_ixL (.inl (.inl hP)) (atI_last _ _) ?_
    walk_at "w"
    refine Jl.tup_at (i := 1) ht rfl ?_
    walk_at "w"
    · have b5 := bw w
      have hWR : R ≠ W := fun z => by
        subst z
        rcases b4.2 with ⟨e, _⟩ | ⟨ps1, pl1, ws1, xs1, t1, W1, e, h3, h4, h5, h6, c⟩
        · cases ps0 <;> cases e
        · rw [hP] at h3
          have e3 : xs ++ [V.ref t] = xs1 ++ [V.ref t1] := by injection h3 with h3; injection h3
          obtain ⟨-, e4⟩ := List.append_inj' e3 rfl
          cases e4
          have h4 := c.ext _ _ h4
          rw [ht] at h4
          cases h4
          exact Jl.nd_ne c.nd 0 3 (by decide) rfl rfl rfl
      have hR5 : (upd H4 W (.lst (ws.map V.int ++ [.int w]))) R = some (.lst (rows.map V.str)) := by rw [upd_ne hWR]; exact hR4
      obtain ⟨b6, sF2⟩ := b5.fzX hR5
      exact k _ _ R _ _ rows (sF.trans sF2) b6 (f.word hw hls) upd_same hrl
    · rw [List.length_map]
      refine Jl.small5' ?_
      have := f.nw
      have h2 : ws.length ≤ (Jl.wordsAt (ps0 ++ [(pl, ws)])).length := by
        unfold Jl.wordsAt
        rw [List.flatMap_append, List.length_append]
        show _ ≤ _ + (Jl.posW pl ws ++ []).length
        rw [List.append_nil, Jl.posW_len]; omega
      omega
/-! ### _law_end -/
def sp_law_end (K : PySem.W.Frag) : Sp := fun vs H Q _ => ∃ (B F : Hp) (P L : Addr) (X : List Addr) (ps : List Jl.Part) (ls : List Jl.Lea), vs = [.ref P] ∧ Jl.BW K B F H P L X ps ls ∧ ∀ H', Same H H' → Q (.int (Jl.endOf ps)) H'
theorem use_law_end {K : PySem.W.Frag} {B F : Hp} {P L : Addr} {X : List Addr} {ps : List Jl.Part} {ls : List Jl.Lea} {H : Hp} {Q : VK} {E : XK} (b : Jl.BW K B F H P L X ps ls) (z : ∀ H', Same H H' → Q (.int (Jl.endOf ps)) H') : sp_law_end K [.ref P] H Q E := ⟨B, F, P, L, X, ps, ls, rfl, b, z⟩
theorem ok_law_end (T : Txt K mg) : FnOk P w K mg base CX0 1 T.a_law_end T.d_law_end ["_law_parts"] (sp_law_end K) := by
  refine T.F_law_end.ok sc_law_end (fun vs H Q E h => ?_) (fun cdv A outer s H vs Q E hr h => ?_)
  · obtain ⟨B, F, P, L, X, ps, ls, rfl, b, k⟩ := h
    rfl
  · obtain ⟨B, F, P, L, X, ps, ls, rfl, b, k⟩ := h
    have hu := hu_of hr
    refine ⟨_, (pss_cons (ps_if (pt_cmpR (op_eqD hr.units) (pv 0) (pe_lst pa_nil) (nomark _)) (pss_one (ps_ret pe_int)) pss_nil)
      (pss_one (ps_ret (pe_op op_add (pe_ix (r := rIxT K) ix_tup (pe_ix (r := rIxL K) ix_list (pv 0) (pe_un un_neg pe_int) (fun _ _ => rfl)) pe_int (fun _ _ => rfl)) (pe_callB (r := Jl.rLenL K) Jl.cl_lenL (by rfl) T.n_len (by decide +kernel) (pa_cons (pe_ix (r := rIxT K) ix_tup (pe_ix (r := rIxL K) ix_list (pv 0) (pe_un un_neg pe_int) (fun _ _ => rfl)) pe_int (fun _ _ => rfl)) pa_nil)))))), ?_⟩
    show (_ : TS) _ [some (.ref P)] H
    walk_at "w"
    refine ⟨by decide, fun q nq => ?_⟩
    have s1 := Jl.same_upd (o := .lst []) nq
    refine Jl.s_eqNilD (Jl.dp_same s1 b.dpP) (Jl.parts_shaped ps) upd_same ?_
    walk_at "w"
    rcases List.eq_nil_or_concat ps with rfl | ⟨ps0, ⟨pl, ws⟩, rfl⟩
    · refine Jl.s_iteDt rfl ?_
      walk_at "w"
      exact k _ s1
    · rw [List.concat_eq_append] at *
      refine Jl.s_iteDf (by intro h; cases ps0 <;> cases h) ?_
      obtain ⟨xs, t, W, hP, ht, hW, -⟩ := b.word
      have hP := s1 _ _ hP
      have ht := s1 _ _ ht
      have hW := s1 _ _ hW
      walk_at "w"
      refine Jl.s_ixL (.inl (.inl hP)) (atI_last _ _) ?_
      walk_at "w"
      refine Jl.tup_at (i := 0) ht rfl ?_
      walk_at "w"
      refine Jl.s_ixL (.inl (.inl hP)) (atI_last _ _) ?_
      walk_at "w"
      refine Jl.tup_at (i := 1) ht rfl ?_
      walk_at "w"
      refine Jl.s_lenL (.inl (.inl hW)) ?_
      rw [List.length_map]
      walk_at "w"
      rw [Jl.endOf_app] at k
      exact k _ s1
/-! ### _law_built -/
def sp_law_built (K : PySem.W.Frag) : Sp := fun vs H Q _ => ∃ (a : Addr) (ns : List Int) (most : Int), vs = [.ref a, .int most] ∧ SqL K H a (ns.map V.int) ∧ ns.length ≤ 63 ∧ 1700000000 ≤ most ∧ most ≤ 4294967295 ∧ ∀ (H' : Hp) (t R wa : Addr) (w : Jl.Wh) (rows : List Str), Same H H' → H' t = some (.tup [.ref R, .ref wa]) → SqL K H' R (rows.map V.str) → Dp K H' (.ref wa) (Jl.whD w) → Jl.Good most w → Q (.ref t) H'
theorem use_built {K : PySem.W.Frag} {a : Addr} {ns : List Int} {most : Int} {H : Hp} {Q : VK} {E : XK} (hS : SqL K H a (ns.map V.int)) (hlen : ns.length ≤ 63) (hm1 : 1700000000 ≤ most) (hm2 : most ≤ 4294967295) (z : ∀ (H' : Hp) (t R wa : Addr) (w : Jl.Wh) (rows : List Str), Same H H' → H' t = some (.tup [.ref R, .ref wa]) → SqL K H' R (rows.map V.str) → Dp K H' (.ref wa) (Jl.whD w) → Jl.Good most w → Q (.ref t) H') : sp_law_built K [.ref a, .int most] H Q E := ⟨a, ns, most, rfl, hS, hlen, hm1, hm2, z⟩
theorem ok_law_built (T : Txt K mg) : FnOk P w K mg base CX0 3 T.a_law_built T.d_law_built ["_law_script", "_law_most"] (sp_law_built K) := by
  have G_law_cell_at := ok_law_cell_at (P := P) (w := w) (base := base) T
  have G_law_put := ok_law_put (P := P) (w := w) (base := base) T
  have G_law_end := ok_law_end (P := P) (w := w) (base := base) T
  refine T.F_law_built.ok sc_law_built (fun vs H Q E h => ?_) (fun cdv A outer s H vs Q E hr h => ?_)
  · obtain ⟨a, ns, most, rfl, hS, hlen, hm1, hm2, k⟩ := h
    rfl
  · obtain ⟨a, ns, most, rfl, hS, hlen, hm1, hm2, k⟩ := h
    have hu := hu_of hr
    refine ⟨_, (pss_cons (ps_set (i := 2) sc_law_built.nd rfl (Or.inl rfl) (pe_lst pa_nil))
      (pss_cons (ps_set (i := 3) sc_law_built.nd rfl (Or.inl rfl) (pe_lst pa_nil))
      (pss_cons (ps_set (i := 4) sc_law_built.nd rfl (Or.inl rfl) (pe_lst pa_nil))
      (pss_cons (ps_for PassesOwn.never rfl (pi_list (pe_slice (r := rSlL K) sl_list (pv 0) (po_some pe_int) (po_some pe_int))) (pg_name (i := 5) sc_law_built.nd rfl (Or.inl rfl)) (pss_one (ps_set (i := 4) sc_law_built.nd rfl (Or.inl rfl) (pe_op (r := Jl.rCatS K) Jl.op_catS (pv 4) (pe_call (G_law_put) (hr.mono (by decide)) rfl T.m_law_put T.F_law_put.kp T.b_law_put .nil pass0 (pa_cons (pv 5) (pa_cons (pv 2) (pa_cons (pv 3) (pa_cons (pe_call (G_law_end) (hr.mono (by decide)) rfl T.m_law_end T.F_law_end.kp T.b_law_end .nil pass0 (pa_cons (pv 2) pa_nil)) pa_nil)))))))))
      (pss_cons (ps_set (i := 6) sc_law_built.nd rfl (Or.inl rfl) (pe_call (G_law_end) (hr.mono (by decide)) rfl T.m_law_end T.F_law_end.kp T.b_law_end .nil pass0 (pa_cons (pv 2) pa_nil)))
      (pss_cons (ps_set (i := 7) sc_law_built.nd rfl (Or.inl rfl) (pe_op op_mod (pe_op op_mul (pe_call (G_law_cell_at) (hr.mono (by decide)) rfl T.m_law_cell_at T.F_law_cell_at.kp T.b_law_cell_at .nil pass0 (pa_cons (pv 0) (pa_cons pe_int pa_nil))) pe_int) pe_int))
      (pss_cons (ps_set (i := 8) sc_law_built.nd rfl (Or.inl rfl) (pe_op op_add (pv 6) (pe_ix (r := rIxL K) ix_list (pe_lst (pa_cons pe_int (pa_cons pe_int (pa_cons (pe_op op_mod (pe_op op_fdiv (pv 7) pe_int) pe_int) (pa_cons (pe_op op_mod (pe_op op_fdiv (pv 7) pe_int) pe_int) (pa_cons (pe_op op_sub (pv 1) (pv 6)) pa_nil)))))) (pe_op op_mod (pv 7) pe_int) (fun _ _ => rfl))))
      (pss_cons (ps_set (i := 9) sc_law_built.nd rfl (Or.inl rfl) (pe_ix (r := rIxL K) ix_list (pe_lst (pa_cons pe_int (pa_cons (pv 8) (pa_cons (pe_op op_mod (pe_op op_fdiv (pv 7) pe_int) (pe_op op_add (pv 8) pe_int)) pa_nil)))) (pe_op op_mod (pe_call (G_law_cell_at) (hr.mono (by decide)) rfl T.m_law_cell_at T.F_law_cell_at.kp T.b_law_cell_at .nil pass0 (pa_cons (pv 0) (pa_cons pe_int pa_nil))) pe_int) (fun _ _ => rfl)))
      (pss_cons (ps_set (i := 10) sc_law_built.nd rfl (Or.inl rfl) (pe_op op_shlW pe_int (pe_op op_mod (pe_op op_fdiv (pe_call (G_law_cell_at) (hr.mono (by decide)) rfl T.m_law_cell_at T.F_law_cell_at.kp T.b_law_cell_at .nil pass0 (pa_cons (pv 0) (pa_cons pe_int pa_nil))) pe_int) pe_int)))
      (pss_cons (ps_set (i := 4) sc_law_built.nd rfl (Or.inl rfl) (pe_op (r := Jl.rCatS K) Jl.op_catS (pe_lst (pa_cons (pe_op Jl.op_addS (pe_op Jl.op_addS (pe_op Jl.op_addS (pe_op Jl.op_addS (pe_op Jl.op_addS pe_str (pe_callTy Jl.cl_strI (by rfl) T.n_str (by decide +kernel) (pa_cons (pv 10) pa_nil))) pe_str) (pe_callTy Jl.cl_strI (by rfl) T.n_str (by decide +kernel) (pa_cons (pv 8) pa_nil))) pe_str) (pe_callTy Jl.cl_strI (by rfl) T.n_str (by decide +kernel) (pa_cons (pv 9) pa_nil))) pa_nil)) (pv 4)))
      (pss_one (ps_ret (pe_tup (pa_cons (pv 4) (pa_cons (pe_tup (pa_cons (pv 10) (pa_cons (pv 8) (pa_cons (pv 9) (pa_cons (pv 2) (pa_cons (pv 3) pa_nil)))))) pa_nil))))))))))))))), ?_⟩
    show (_ : TS) _ [some (.ref a), some (.int most), none, none, none, none, none, none, none, none, none] H
    walk_at "w"
    refine ⟨by decide, fun P nP => ?_⟩
    have c1 := (Jl.Act.start H).newA (o := .lst []) nP
    walk_at "w"
    refine ⟨by decide, fun L nL => ?_⟩
    have c2 := (c1.newA (o := .lst []) nL).perm (List.Perm.swap ..)
    have b0 : Jl.BW K H H (upd (upd H P (.lst [])) L (.lst [])) P L [] [] [] := ⟨⟨[], upd_same, .nil⟩, .inl ⟨rfl, Jl.same_upd nL _ _ upd_same, c2⟩⟩
    generalize upd (upd H P (.lst [])) L (.lst []) = H2 at *
    walk_at "w"
    refine ⟨by decide, fun R0 nR0 => ?_⟩
    obtain ⟨b1, sF1⟩ := b0.new (o := .lst []) nR0
    have hR1 : (upd H R0 (.lst [])) R0 = some (.lst (([] : List Str).map V.str)) := upd_same
    generalize upd H R0 (.lst []) = F1 at *
    generalize upd H2 R0 (.lst []) = H3 at *
    walk_at "w"
    have ecs : cutV (ns.map V.int) (some 2) (some 202) = (((ns.drop 2).take 200).map V.int) := by
      rw [List.map_take, List.map_drop]
      exact Jl.cutV_mid 2 202 (by decide)
    have hcl : ((ns.drop 2).take 200).length ≤ 63 := by rw [List.length_take, List.length_drop]; omega
    refine Jl.s_seq (Jl.s_forN (xs := ((ns.drop 2).take 200).map V.int) (fun pc i σ' H' => ∃ (F : Hp) (ps : List Jl.Part) (ls : List Jl.Lea) (Rw : Addr) (rows : List Str) (v : Option V), σ' = [some (.ref a), some (.int most), some (.ref P), some (.ref L), some (.ref Rw), v, none, none, none, none, none] ∧ Jl.BW K H F H' P L [] ps ls ∧ Jl.Fit i ps ls ∧ F pc = some (.lst (((ns.drop 2).take 200).map V.int)) ∧ F Rw = some (.lst (rows.map V.str)) ∧ rows.length ≤ 2 * i) (fun R z => ?_) (fun pc npc => ?_) (fun pc i σ' H' npc hi h => ?_) (fun pc i x σ' H4 npc hx h => ?_) (fun pc σ' H4 npc h => ?_))
    · walk_at "w"
      refine ⟨a, _, rfl, b1.ext.seq (b1.base.seq hS), fun p np => ?_⟩
      rw [ecs]
      exact z p np
    · obtain ⟨b2, sF2⟩ := b1.new (o := .lst (((ns.drop 2).take 200).map V.int)) npc
      exact ⟨_, [], [], R0, [], none, rfl, b2, Jl.Fit.nil, upd_same, sF2 _ _ hR1, Nat.le_refl _⟩
    · obtain ⟨F, ps, ls, Rw, rows, v, rfl, b, f, hpc, hrw, hrl⟩ := h
      exact .inl (.inl (b.ext _ _ hpc))
    · obtain ⟨F, ps, ls, Rw, rows, v, rfl, b, f, hpc, hrw, hrl⟩ := h
      have hi : i < ((ns.drop 2).take 200).length := by
        have := (List.getElem?_eq_some_iff.mp hx).1
        rw [List.length_map] at this; exact this
      obtain ⟨c, _, rfl⟩ := Jl.ints_get hx
      simp only [List.set_cons_zero, List.set_cons_succ]
      walk_at "w"
      refine use_law_end b (fun H5 s5 => ?_)
      walk_at "w"
      refine use_law_put (b.same s5) f (by omega) (fun H6 F6 R6 ps6 ls6 rows6 sF6 b6 f6 hR6 hrl6 => ?_)
      refine ⟨Rw, R6, _, _, rfl, rfl, .inl (.inl (b6.ext _ _ (sF6 _ _ hrw))), .inl (.inl (b6.ext _ _ hR6)), ?_, fun p np => ?_⟩
      · rw [List.length_map, List.length_map]; exact Jl.small5 (by omega)
      rw [← List.map_append]
      obtain ⟨b7, sF7⟩ := b6.new (o := .lst ((rows ++ rows6).map V.str)) np
      walk_at "w"
      exact ⟨_, ps6, ls6, p, rows ++ rows6, _, rfl, b7, f6, sF7 _ _ (sF6 _ _ hpc), upd_same, by rw [List.length_append]; omega⟩
    obtain ⟨F, ps, ls, Rw, rows, v, rfl, b, f, hpc, hrw, hrl⟩ := h
    rw [List.length_map] at f hrl
    walk_at "w"
    refine use_law_end b (fun H5 s5 => ?_)
    have b5 := b.same s5
    have f : Jl.Fit 63 ps ls := ⟨f.inc, f.low, f.end0, by have := f.end1; omega, f.linc, f.lat, f.lok, Nat.le_trans f.np hcl, Nat.le_trans f.nl hcl, Nat.le_trans f.nw hcl, f.ppos⟩
    have he0 := f.end0
    have he1 := f.end1
    have sH5 : Same H H5 := b5.base.trans b5.ext
    walk_at "w"
    refine use_cell_at (sH5.seq hS) (by decide) ?_
    generalize ns.getD (0 : Int).toNat 0 = c0
    walk_at "w"
    have hnum : 0 ≤ c0 * 1583458089 % 2147483647 ∧ c0 * 1583458089 % 2147483647 < 2147483647 := by omega
    generalize c0 * 1583458089 % 2147483647 = num at *
    refine ⟨(by show 5 ≤ sizeLine; decide), fun p1 np1 => ?_⟩
    walk_at "w"
    obtain ⟨sz, szm, hsz⟩ := Jl.atI_in (ns := [0, 1, num / 5 % 1000, num / 5 % 1000000000, most - Jl.endOf ps]) (i := num % 5) (by show (-5 : Int) ≤ _; omega) (by show _ < (5 : Int); omega)
    have hsz0 : sz = 0 ∨ sz = 1 ∨ sz = num / 5 % 1000 ∨ sz = num / 5 % 1000000000 ∨ sz = most - Jl.endOf ps := by simpa using szm
    refine Jl.s_ixL (xs := [0, 1, num / 5 % 1000, num / 5 % 1000000000, most - Jl.endOf ps].map V.int) Jl.sqU hsz ?_
    have hsize : Jl.endOf ps ≤ Jl.endOf ps + sz ∧ Jl.endOf ps + sz ≤ most := by omega
    have s6 := s5.trans (Jl.same_upd (o := .lst [.int 0, .int 1, .int (num / 5 % 1000), .int (num / 5 % 1000000000), .int (most - Jl.endOf ps)]) np1)
    generalize upd H5 p1 (.lst [.int 0, .int 1, .int (num / 5 % 1000), .int (num / 5 % 1000000000), .int (most - Jl.endOf ps)]) = H6 at *
    clear szm hsz hsz0
    walk_at "w"
    generalize Jl.endOf ps + sz = size at *
    have sH6 : Same H H6 := b.base.trans (b.ext.trans s6)
    refine ⟨(by show 3 ≤ sizeLine; decide), fun p2 np2 => ?_⟩
    walk_at "w"
    have s7 := s6.trans (Jl.same_upd (o := .lst [.int 0, .int size, .int (num / 7 % (size + 1))]) np2)
    refine use_cell_at ((b.base.trans (b.ext.trans s7)).seq hS) (by decide) ?_
    obtain ⟨c1, hc1⟩ : ∃ c1, ns.getD (1 : Int).toNat 0 = c1 := ⟨_, rfl⟩
    rw [hc1]
    walk_at "w"
    obtain ⟨en, enm, hen⟩ := Jl.atI_in (ns := [0, size, num / 7 % (size + 1)]) (i := c1 % 3) (by show (-3 : Int) ≤ _; omega) (by show _ < (3 : Int); omega)
    have hen0 : en = 0 ∨ en = size ∨ en = num / 7 % (size + 1) := by simpa using enm
    have hent : 0 ≤ en ∧ en ≤ size := by
      have h1 := Int.emod_nonneg (num / 7) (show size + 1 ≠ 0 by omega)
      have h2 := Int.emod_lt_of_pos (num / 7) (show 0 < size + 1 by omega)
      omega
    refine Jl.s_ixL (xs := [0, size, num / 7 % (size + 1)].map V.int) Jl.sqU hen ?_
    generalize upd H6 p2 (.lst [.int 0, .int size, .int (num / 7 % (size + 1))]) = H7 at *
    clear enm hen hen0
    walk_at "w"
    refine use_cell_at ((b.base.trans (b.ext.trans s7)).seq hS) (by decide) ?_
    rw [hc1]
    walk_at "w"
    have hk : 0 ≤ c1 / 3 % 17 ∧ c1 / 3 % 17 < 17 := by omega
    refine Jl.s_I (Jl.shl_ok 1 (by decide) hk.1 (by omega) (by omega)) ?_
    rw [Int.one_mul]
    obtain ⟨kk, hkk⟩ : ∃ kk : Nat, kk = (c1 / 3 % 17).toNat := ⟨_, rfl⟩
    rw [← hkk]
    have hkl : kk ≤ 16 := by omega
    have hst : (0 : Int) < 2 ^ kk ∧ (2 : Int) ^ kk ≤ 65536 := by
      have h1 := Jl.two_pow_pos kk
      refine ⟨h1, ?_⟩
      have : kk = 0 ∨ kk = 1 ∨ kk = 2 ∨ kk = 3 ∨ kk = 4 ∨ kk = 5 ∨ kk = 6 ∨ kk = 7 ∨ kk = 8 ∨ kk = 9 ∨ kk = 10 ∨ kk = 11 ∨ kk = 12 ∨ kk = 13 ∨ kk = 14 ∨ kk = 15 ∨ kk = 16 := by omega
      rcases this with h | h | h | h | h | h | h | h | h | h | h | h | h | h | h | h | h <;> (rw [h]; decide)
    clear hk
    walk_at "w"
    refine Jl.s_strN (by omega) (by omega) (fun hl1 => ?_)
    refine Jl.s_addS ?_ (by show 6 + _ ≤ _; omega)
    walk_at "w"
    refine Jl.s_addS ?_ (by rw [Jl.len_app]; show 6 + _ + 1 ≤ _; omega)
    walk_at "w"
    refine Jl.s_strN (by omega) (by omega) (fun hl2 => ?_)
    refine Jl.s_addS ?_ (by rw [Jl.len_app, Jl.len_app]; show 6 + _ + 1 + _ ≤ _; omega)
    walk_at "w"
    refine Jl.s_addS ?_ (by rw [Jl.len_app, Jl.len_app, Jl.len_app]; show 6 + _ + 1 + _ + 1 ≤ _; omega)
    walk_at "w"
    refine Jl.s_strN (by omega) (by omega) (fun hl3 => ?_)
    refine Jl.s_addS ?_ (by rw [Jl.len_app, Jl.len_app, Jl.len_app, Jl.len_app]; show 6 + _ + 1 + _ + 1 + _ ≤ _; omega)
    generalize ("whole " : Str) ++ Jl.numT (2 ^ kk) ++ " " ++ Jl.numT size ++ " " ++ Jl.numT en = hd
    walk_at "w"
    refine ⟨(by show 1 ≤ sizeLine; decide), fun p3 np3 => ?_⟩
    walk_at "w"
    have s8 := s7.trans (Jl.same_upd (o := .lst [.str hd]) np3)
    refine ⟨p3, Rw, [.str hd], _, rfl, rfl, Jl.sqU, .inl (.inl (s8 _ _ (b.ext _ _ hrw))), ?_, fun p4 np4 => ?_⟩
    · rw [List.length_map]; exact Jl.small5 (by show 1 + _ ≤ _; omega)
    have s9 := s8.trans (Jl.same_upd (o := .lst ([.str hd] ++ rows.map V.str)) np4)
    have hp4 : (upd (upd H7 p3 (.lst [.str hd])) p4 (.lst ([.str hd] ++ rows.map V.str))) p4 = some (.lst ((hd :: rows).map V.str)) := upd_same
    generalize upd (upd H7 p3 (.lst [.str hd])) p4 (.lst ([.str hd] ++ rows.map V.str)) = H9 at *
    walk_at "w"
    refine ⟨(by show 5 ≤ sizeLine; decide), fun p5 np5 => ?_⟩
    walk_at "w"
    refine ⟨(by show 2 ≤ sizeLine; decide), fun p6 np6 => ?_⟩
    have sA := Jl.same_upd (o := .tup [.int (2 ^ kk), .int size, .int en, .ref P, .ref L]) np5
    have sB := Jl.same_upd (o := .tup [.ref p4, .ref p5]) np6
    have s9B := s9.trans (sA.trans sB)
    refine k _ p6 p4 p5 ⟨2 ^ kk, size, en, ps, ls⟩ (hd :: rows) (b.base.trans (b.ext.trans s9B)) upd_same (.inl (.inl (sB _ _ (sA _ _ hp4)))) ?_ ⟨f, hsize.1, hsize.2, hent, kk, hkl, rfl⟩
    exact .tup (.inl (.inl (sB _ _ upd_same))) (.cons (.int _) (.cons (.int _) (.cons (.int _) (.cons (Jl.dp_same s9B b.dpP) (.cons (Jl.dp_same s9B b.dpL) .nil)))))
/-! ### _law_base_by -/
def sp_law_base_by (K : PySem.W.Frag) : Sp := fun vs H Q _ => ∃ (x : V) (w : Jl.Wh) (c : Int), vs = [x, .int c] ∧ Dp K H x (Jl.whD w) ∧ (0 < w.step ∧ w.step ≤ 65536) ∧ (0 ≤ w.size ∧ w.size ≤ 3000000000) ∧ ∀ (b : Int) H', Same H H' → Jl.fitsAt w b → Q (.int b) H'
theorem use_base_by {K : PySem.W.Frag} {x : V} {w : Jl.Wh} {c : Int} {H : Hp} {Q : VK} {E : XK} (hd : Dp K H x (Jl.whD w)) (hst : 0 < w.step ∧ w.step ≤ 65536) (hsz : 0 ≤ w.size ∧ w.size ≤ 3000000000) (z : ∀ (b : Int) H', Same H H' → Jl.fitsAt w b → Q (.int b) H') : sp_law_base_by K [x, .int c] H Q E := ⟨x, w, c, rfl, hd, hst, hsz, z⟩
theorem ok_law_base_by (T : Txt K mg) : FnOk P w K mg base CX0 1 T.a_law_base_by T.d_law_base_by ["_law_whole_here", "_law_cell"] (sp_law_base_by K) := by
  refine T.F_law_base_by.ok sc_law_base_by (fun vs H Q E h => ?_) (fun cdv A outer s H vs Q E hr h => ?_)
  · obtain ⟨x, w, c, rfl, hd, hst, hsz, k⟩ := h
    rfl
  · obtain ⟨x, w, c, rfl, hd, hst, hsz, k⟩ := h
    have hu := hu_of hr
    refine ⟨_, (pss_cons (ps_set (i := 2) sc_law_base_by.nd rfl (Or.inl rfl) (pe_op op_fdiv (pe_op op_sub pe_int (pe_ix (r := rIxT K) ix_tup (pv 0) pe_int (fun _ _ => rfl))) (pe_ix (r := rIxT K) ix_tup (pv 0) pe_int (fun _ _ => rfl))))
      (pss_one (ps_ret (pe_op op_mul (pe_ix (r := rIxT K) ix_tup (pv 0) pe_int (fun _ _ => rfl)) (pe_ix (r := rIxL K) ix_list (pe_lst (pa_cons pe_int (pa_cons (pv 2) (pa_cons (pe_op op_add pe_int (pe_op op_mod (pe_op op_fdiv (pv 1) pe_int) (pv 2))) pa_nil)))) (pe_op op_mod (pv 1) pe_int) (fun _ _ => rfl)))))), ?_⟩
    show (_ : TS) _ [some (x), some (.int c), none] H
    obtain ⟨t, p, l, xs, ys, rfl, ht, -⟩ := Jl.dp_wh hd
    walk_at "w"
    refine Jl.s_ixT ht (i := 1) rfl ?_
    walk_at "w"
    refine Jl.s_ixT ht (i := 0) rfl ?_
    walk_at "w"
    have h1 : (4294967295 - w.size) / w.step * w.step ≤ 4294967295 - w.size := Int.ediv_mul_le _ (by omega)
    have h2 : 1 ≤ (4294967295 - w.size) / w.step := Int.le_ediv_of_mul_le hst.1 (by omega)
    have h3 : (4294967295 - w.size) / w.step ≤ 4294967295 := Int.le_trans (Int.ediv_le_self _ (by omega)) (by omega)
    generalize (4294967295 - w.size) / w.step = mo at *
    refine Jl.s_ixT ht (i := 0) rfl ?_
    walk_at "w"
    refine ⟨(by show 3 ≤ sizeLine; decide), fun p1 np1 => ?_⟩
    walk_at "w"
    obtain ⟨kk, kkm, hkk⟩ := Jl.atI_in (ns := [1, mo, 1 + c / 3 % mo]) (i := c % 3) (by show (-3 : Int) ≤ _; omega) (by show _ < (3 : Int); omega)
    have hk0 : kk = 1 ∨ kk = mo ∨ kk = 1 + c / 3 % mo := by simpa using kkm
    have h4 := Int.emod_nonneg (c / 3) (show mo ≠ 0 by omega)
    have h5 := Int.emod_lt_of_pos (c / 3) (show 0 < mo by omega)
    have hk : 1 ≤ kk ∧ kk ≤ mo := by omega
    refine Jl.s_ixL (xs := [1, mo, 1 + c / 3 % mo].map V.int) Jl.sqU hkk ?_
    walk_at "w"
    have h6 : w.step * kk ≤ w.step * mo := Int.mul_le_mul_of_nonneg_left hk.2 (by omega)
    have h7 : w.step * 1 ≤ w.step * kk := Int.mul_le_mul_of_nonneg_left hk.1 (by omega)
    rw [Int.mul_comm mo] at h1
    refine k _ _ (Jl.same_upd np1) ⟨by omega, Int.mul_emod_right _ _, by omega⟩
/-! ### _law_copy -/
def sp_law_copy (K : PySem.W.Frag) : Sp := fun vs H Q _ => ∃ (x : V) (w : Jl.Wh) (n : Nat), vs = [x] ∧ Dp K H x (Jl.whD w) ∧ Jl.Fit n w.parts w.leans ∧ n ≤ 90000 ∧ ∀ (H' F : Hp) (t P L : Addr) (us vs : List V), Jl.Act H F H' [P, L] → F t = some (.tup [.int w.step, .int w.size, .int w.entry, .ref P, .ref L]) → H' P = some (.lst us) → DpAll K F us (w.parts.map Jl.partD) → H' L = some (.lst vs) → DpAll K F vs (w.leans.map Jl.leanD) → Q (.ref t) H'
theorem use_copy {K : PySem.W.Frag} {x : V} {w : Jl.Wh} {n : Nat} {H : Hp} {Q : VK} {E : XK} (hd : Dp K H x (Jl.whD w)) (f : Jl.Fit n w.parts w.leans) (hn : n ≤ 90000) (z : ∀ (H' F : Hp) (t P L : Addr) (us vs : List V), Jl.Act H F H' [P, L] → F t = some (.tup [.int w.step, .int w.size, .int w.entry, .ref P, .ref L]) → H' P = some (.lst us) → DpAll K F us (w.parts.map Jl.partD) → H' L = some (.lst vs) → DpAll K F vs (w.leans.map Jl.leanD) → Q (.ref t) H') : sp_law_copy K [x] H Q E := ⟨x, w, n, rfl, hd, f, hn, z⟩
theorem ok_law_copy (T : Txt K mg) : FnOk P w K mg base CX0 1 T.a_law_copy T.d_law_copy ["_law_whole_here"] (sp_law_copy K) := by
  refine T.F_law_copy.ok sc_law_copy (fun vs H Q E h => ?_) (fun cdv A outer s H vs Q E hr h => ?_)
  · obtain ⟨x, w, n, rfl, hd, f, hn, k⟩ := h
    rfl
  · obtain ⟨x, w, n, rfl, hd, f, hn, k⟩ := h
    have hu := hu_of hr
    refine ⟨_, (pss_cons (ps_setLc (i := 1) (own := [("_law_place", 2), ("_law_words", 3)]) (g := gTup K 2 (gCons (gName 2) (gCons (gName 3) gNil))) (tt := tYes) (by rfl) sc_law_copy.nd rfl rfl (sw_true rfl rfl rfl (by decide +kernel)) (pi_list (pe_ix (r := rIxT K) ix_tup (pv 0) pe_int (fun _ _ => rfl))) (blkOk_by (own := [("_law_place", 2), ("_law_words", 3)]) (N := N_law_copy) (sc := defScope s_law_copy) (by decide +kernel)) (fun _ _ _ _ _ => pg_tup rfl (pgs_cons (pg_name (i := 2) sc_law_copy.nd rfl (Or.inl rfl)) (pgs_cons (pg_name (i := 3) sc_law_copy.nd rfl (Or.inl rfl)) pgs_nil))) (fun _ _ _ _ _ => pts_nil) (fun _ _ _ _ _ => (pe_tup (pa_cons (pv 2) (pa_cons (pe_callTy (r := Jl.rListO K) Jl.cl_listO (by rfl) T.n_list (by decide +kernel) (pa_cons (pv 3) pa_nil)) pa_nil)))))
      (pss_one (ps_ret (pe_op op_catT (pe_slice sl_tup (pv 0) po_none (po_some pe_int)) (pe_tup (pa_cons (pv 1) (pa_cons (pe_callTy (r := Jl.rListO K) Jl.cl_listO (by rfl) T.n_list (by decide +kernel) (pa_cons (pe_ix (r := rIxT K) ix_tup (pv 0) pe_int (fun _ _ => rfl)) pa_nil)) pa_nil))))))), ?_⟩
    show (_ : TS) _ [some (x), none, none, none] H
    obtain ⟨t, p, l, xs, ys, rfl, ht, hp, hxs, hl, hys⟩ := Jl.dp_wh hd
    have hxl := Jl.da_len hxs
    rw [List.length_map] at hxl
    walk_at "w"
    refine Jl.s_lcF (xs := xs) (fun i => (w.parts[i]?).bind fun q => some (Jl.partD q)) (by rw [hxl]; have := f.np; omega) (fun R z => ?_) (fun i y D F H1 Rs Rn hi c hRs hRn => ?_) (fun P F H1 us c hP hda hul => ?_)
    · walk_at "w"
      refine Jl.s_ixT ht (i := 3) rfl ?_
      exact z _ _ (Same.refl _) hp
    · obtain ⟨dq, hdq, hy⟩ := Jl.da_get (Jl.dps_same c.same hxs) hi
      rw [List.getElem?_map] at hdq
      obtain ⟨q, hq, rfl⟩ : ∃ q, w.parts[i]? = some q ∧ Jl.partD q = dq := by
        cases h : w.parts[i]? with
        | none => rw [h] at hdq; cases hdq
        | some q => rw [h] at hdq; exact ⟨q, rfl, Option.some.inj hdq⟩
      obtain ⟨tq, W, rfl, htq, hW⟩ := Jl.dp_part hy
      refine Jl.s_gTup htq rfl ?_
      show gCons (gName _) _ _ [_, _, _, _] H1 _
      walk_at "w"
      refine ⟨rfl, ?_⟩
      walk_at "w"
      refine Jl.s_listO hW (fun W2 nW2 => ?_)
      have c2 := c.new (o := .lst (q.2.map V.int)) nW2
      walk_at "w"
      refine ⟨(by show 2 ≤ sizeLine; decide), fun t2 nt2 => ?_⟩
      have c3 := c2.new (o := .tup [.int q.1, .ref W2]) nt2
      have f2 := Jl.same_upd (o := .lst (q.2.map V.int)) (c.ext.free nW2)
      have f3 := Jl.same_upd (o := .tup [.int q.1, .ref W2]) (c2.ext.free nt2)
      refine hRs _ _ _ (Jl.partD q) (f2.trans f3) c3 ((Jl.same_upd nW2).trans (Jl.same_upd nt2)) (by rw [hq]; rfl) ?_
      exact .tup (.inl (.inl upd_same)) (.cons (.int _) (.cons (Jl.dp_intL (.inl (.inl (f3 _ _ upd_same)))) .nil))
    rw [hxl, Jl.range_items, Jl.filterMap_some] at hda
    walk_at "w"
    refine ⟨t, _, rfl, Jl.sameT c.same ht, (fun h => absurd (show (3 : Nat) = 5 from h.2) (by decide)), fun p1 np1 => ?_⟩
    have ecut : cutV [.int w.step, .int w.size, .int w.entry, .ref p, .ref l] none (some 3) = [.int w.step, .int w.size, .int w.entry] := rfl
    rw [ecut]
    have c1 := c.sm (Jl.same_upd (o := .tup [.int w.step, .int w.size, .int w.entry]) np1)
    have s1 := Jl.same_upd (o := .tup [.int w.step, .int w.size, .int w.entry]) np1
    have hP := s1 _ _ hP
    have hp1 : (upd H1 p1 (.tup [.int w.step, .int w.size, .int w.entry])) p1 = some (.tup [.int w.step, .int w.size, .int w.entry]) := upd_same
    generalize upd H1 p1 (.tup [.int w.step, .int w.size, .int w.entry]) = H2 at *
    walk_at "w"
    refine Jl.s_ixT (Jl.sameT c1.same ht) (i := 4) rfl ?_
    walk_at "w"
    refine Jl.s_listO (c1.same.seq hl) (fun L nL => ?_)
    have c2 := c1.newA (o := .lst ys) nL
    have s2 := Jl.same_upd (o := .lst ys) nL
    have hL : (upd H2 L (.lst ys)) L = some (.lst ys) := upd_same
    have hP := s2 _ _ hP
    have hp1 := s2 _ _ hp1
    generalize upd H2 L (.lst ys) = H3 at *
    walk_at "w"
    refine ⟨(by show 2 ≤ sizeLine; decide), fun p2 np2 => ?_⟩
    have c3 := c2.sm (Jl.same_upd (o := .tup [.ref P, .ref L]) np2)
    have s3 := Jl.same_upd (o := .tup [.ref P, .ref L]) np2
    refine ⟨p1, p2, _, _, rfl, rfl, .inl (.inl (s3 _ _ hp1)), .inl (.inl upd_same), (by intro h; cases h), (by show 5 ≤ sizeLine; decide), (fun h => by cases h), fun _ p3 np3 => ?_⟩
    have c4 := c3.new (o := .tup ([.int w.step, .int w.size, .int w.entry] ++ [.ref P, .ref L])) np3
    have f4 := Jl.same_upd (o := .tup ([.int w.step, .int w.size, .int w.entry] ++ [.ref P, .ref L])) (c3.ext.free np3)
    have s34 := s3.trans (Jl.same_upd (o := .tup ([.int w.step, .int w.size, .int w.entry] ++ [.ref P, .ref L])) np3)
    exact k _ _ p3 P L us ys (c4.perm (List.Perm.swap ..)) upd_same (s34 _ _ hP) (Jl.dps_same f4 hda) (s34 _ _ hL) (Jl.dps_same c4.base hys)
/-! ### _law_filled_so -/
def sp_law_filled_so : Sp := fun vs H Q _ => ∃ (r : Str) (wd t g : Int), vs = [.str r, .int wd, .int t, .int g] ∧ Jl.isRule r ∧ g = Jl.fillR r wd t ∧ Q (.bl true) H
theorem use_filled_so {r : Str} {wd t g : Int} {H : Hp} {Q : VK} {E : XK} (hr : Jl.isRule r) (hg : g = Jl.fillR r wd t) (z : Q (.bl true) H) : sp_law_filled_so [.str r, .int wd, .int t, .int g] H Q E := ⟨r, wd, t, g, rfl, hr, hg, z⟩
theorem ok_law_filled_so (T : Txt K mg) : FnOk P w K mg base CX0 1 T.a_law_filled_so T.d_law_filled_so ["_law_rule", "_law_word", "_law_there", "_law_found"] (sp_law_filled_so) := by
  refine T.F_law_filled_so.ok sc_law_filled_so (fun vs H Q E h => ?_) (fun cdv A outer s H vs Q E hr h => ?_)
  · obtain ⟨r, wd, t, g, rfl, hrr, hg, k⟩ := h
    rfl
  · obtain ⟨r, wd, t, g, rfl, hrr, hg, k⟩ := h
    have hu := hu_of hr
    refine ⟨_, (pss_cons (ps_if (pt_cmpR op_eq (pv 0) pe_str (nomark _)) (pss_one (ps_ret (pe_cmpR op_eq (pe_op op_mod (pe_op op_sub (pv 3) (pv 2)) pe_int) pe_int (nomark _)))) pss_nil)
      (pss_cons (ps_if (pt_cmpR op_ne (pe_op op_fdiv (pv 3) pe_int) (pe_op op_fdiv (pv 1) pe_int) (nomark _)) (pss_one (ps_ret pe_bl)) pss_nil)
      (pss_cons (ps_if (pt_cmpR op_eq (pv 0) pe_str (nomark _)) (pss_one (ps_ret (pe_cmpR op_eq (pe_op op_mod (pe_op op_sub (pv 3) (pv 2)) pe_int) pe_int (nomark _)))) pss_nil)
      (pss_one (ps_ret (pe_cmpR op_lt (pe_op op_mod (pe_op op_add (pe_op op_sub (pv 2) (pe_op op_mul pe_int (pe_op op_mod (pv 3) pe_int))) pe_int) pe_int) pe_int (nomark _))))))), ?_⟩
    show (_ : TS) _ [some (.str r), some (.int wd), some (.int t), some (.int g)] H
    subst hg
    rcases hrr with rfl | rfl | rfl
    · have e1 : Jl.fillR "whole" wd t = t % 4294967296 := rfl
      rw [e1]
      walk_at "wd"
      exact Jl.fin_dec k (by omega)
    · have e1 : Jl.fillR "high" wd t = wd - wd % 65536 + (t + 32768) / 65536 % 65536 := rfl
      rw [e1]
      repeat (first | walk_at "s" | with_reducible refine Jl.s_iteDf (by decide +kernel) ?_ | walk_at "d")
      exact Jl.fin_dec k (by omega)
    · have e1 : Jl.fillR "low" wd t = wd - wd % 65536 + t % 65536 := rfl
      rw [e1]
      repeat (first | walk_at "s" | with_reducible refine Jl.s_iteDf (by decide +kernel) ?_ | walk_at "d")
      exact Jl.fin_dec k (by omega)
/-! ### _law_due_words -/
theorem sum_nat : ∀ ps : List Jl.Part, (ps.map fun p => p.2.length).sum = (Jl.wordsAt ps).length
  | [] => rfl
  | p :: ps => by
    rw [List.map_cons, List.sum_cons, sum_nat ps]
    unfold Jl.wordsAt
    rw [List.flatMap_cons, List.length_append, Jl.posW_len]
theorem le_sum_nat : ∀ {ps : List Jl.Part} {q : Jl.Part}, q ∈ ps → q.2.length ≤ (ps.map fun p => p.2.length).sum
  | p :: ps, q, h => by
    rw [List.map_cons, List.sum_cons]
    rcases List.mem_cons.mp h with rfl | h
    · omega
    · have := le_sum_nat h
      omega
def sp_law_due_words (K : PySem.W.Frag) : Sp := fun vs H Q _ => ∃ (x : V) (w : Jl.Wh) (n : Nat), vs = [x] ∧ Dp K H x (Jl.whD w) ∧ Jl.Fit n w.parts w.leans ∧ n ≤ 90000 ∧ ∀ m H', Same H H' → H m = none → Jl.DL H' m (Jl.wordsAt w.parts) → Q (.ref m) H'
theorem use_due_words {K : PySem.W.Frag} {x : V} {w : Jl.Wh} {n : Nat} {H : Hp} {Q : VK} {E : XK} (hd : Dp K H x (Jl.whD w)) (f : Jl.Fit n w.parts w.leans) (hn : n ≤ 90000) (z : ∀ m H', Same H H' → H m = none → Jl.DL H' m (Jl.wordsAt w.parts) → Q (.ref m) H') : sp_law_due_words K [x] H Q E := ⟨x, w, n, rfl, hd, f, hn, z⟩
theorem ok_law_due_words (T : Txt K mg) : FnOk P w K mg base CX0 1 T.a_law_due_words T.d_law_due_words ["_law_whole_here"] (sp_law_due_words K) := by
  refine T.F_law_due_words.ok sc_law_due_words (fun vs H Q E h => ?_) (fun cdv A outer s H vs Q E hr h => ?_)
  · obtain ⟨x, w, n, rfl, hd, f, hn, k⟩ := h
    rfl
  · obtain ⟨x, w, n, rfl, hd, f, hn, k⟩ := h
    have hu := hu_of hr
    refine ⟨_, (pss_cons (ps_set (i := 1) sc_law_due_words.nd rfl (Or.inl rfl) pe_dnewK)
      (pss_cons (ps_for PassesOwn.never rfl (pi_list (pe_ix (r := rIxT K) ix_tup (pv 0) pe_int (fun _ _ => rfl))) (pg_tup rfl (pgs_cons (pg_name (i := 2) sc_law_due_words.nd rfl (Or.inl rfl)) (pgs_cons (pg_name (i := 3) sc_law_due_words.nd rfl (Or.inl rfl)) pgs_nil))) (pss_one (ps_for PassesOwn.never rfl (pi_range1 (by rfl) T.n_range (pa_cons (pe_callB (r := Jl.rLenL K) Jl.cl_lenL (by rfl) T.n_len (by decide +kernel) (pa_cons (pv 3) pa_nil)) pa_nil)) (pg_name (i := 4) sc_law_due_words.nd rfl (Or.inl rfl)) (pss_one (ps_dput hu (pv 1) (pe_op op_add (pv 2) (pv 4)) (pe_ix (r := rIxL K) ix_list (pv 3) (pv 4) (fun _ _ => rfl)) rfl)))))
      (pss_one (ps_ret (pv 1))))), ?_⟩
    show (_ : TS) _ [some (x), none, none, none, none] H
    obtain ⟨t, p, l, xs, ys, rfl, ht, hp, hxs, hl, hys⟩ := Jl.dp_wh hd
    walk_at "w"
    refine fun m nm => ?_
    walk_at "w"
    refine Jl.s_seq (Jl.s_forLg (xs := xs) (fun i σ' H' => Same H H' ∧ Jl.DL H' m (Jl.wordsAt (w.parts.take i)) ∧ ∃ v3 v4 v5, σ' = [some (.ref t), some (.ref m), v3, v4, v5]) (upd H m (.dK [])) (fun R z => ?_) ((Jl.same_upd nm).seq hp) ⟨Jl.same_upd nm, Jl.DL.new, none, none, none, rfl⟩ (fun i σ' H' _ h => h.1.seq hp) (fun i x σ' H' hi h => ?_) (fun σ' H' h => ?_))
    · walk_at "w"
      exact Jl.s_ixT (Jl.sameT (Jl.same_upd nm) ht) (i := 3) rfl z
    · obtain ⟨s1, D, v3, v4, v5, rfl⟩ := h
      obtain ⟨dq, hdq, hx⟩ := Jl.da_get hxs hi
      rw [List.getElem?_map] at hdq
      obtain ⟨⟨pl, ws⟩, hq, rfl⟩ : ∃ q, w.parts[i]? = some q ∧ Jl.partD q = dq := by
        cases h : w.parts[i]? with
        | none => rw [h] at hdq; cases hdq
        | some q => rw [h] at hdq; exact ⟨q, rfl, Option.some.inj hdq⟩
      obtain ⟨tq, W, rfl, htq, hW⟩ := Jl.dp_part hx
      refine Jl.s_gTup (Jl.sameT s1 htq) rfl ?_
      walk_at "w"
      have hwl : ws.length ≤ 90000 := by
        have h1 := f.nw
        have h2 : ws.length ≤ (Jl.wordsAt w.parts).length := by
          rw [← sum_nat]
          exact le_sum_nat (List.mem_of_getElem? hq)
        omega
      refine Jl.s_forR1 (ws.length : Int) (fun j σ' H2 => Same H H2 ∧ Jl.DL H2 m (Jl.wordsAt (w.parts.take i) ++ Jl.posW pl (ws.take j)) ∧ ∃ v5, σ' = [some (.ref t), some (.ref m), some (.int pl), some (.ref W), v5]) (fun R z => ?_) (by omega) ⟨s1, ?_, v5, rfl⟩ (fun j σ' H2 hj h => ?_) (fun σ' H2 h => ?_)
      · walk_at "w"
        refine Jl.s_lenL (s1.seq hW) ?_
        rw [List.length_map]
        walk_at "w"
        exact z
      · rw [List.take_zero]
        show Jl.DL H' m (_ ++ [])
        rw [List.append_nil]
        exact D
      · obtain ⟨s2, D2, w5, rfl⟩ := h
        simp only [List.set_cons_zero, List.set_cons_succ]
        obtain ⟨wj, hwj⟩ : ∃ wj, ws[j]? = some wj := ⟨_, List.getElem?_eq_getElem (by omega)⟩
        obtain ⟨e1, e2, e3⟩ := pos_next f.inc hq hwj
        refine Jl.s_dput ?_
        walk_at "w"
        refine Jl.s_ixL (s2.seq hW) (Jl.atI_int hwj rfl) ?_
        walk_at "w"
        obtain ⟨o, P, D3⟩ := D2.put (a := pl + (j : Int)) (w := wj) e2 (by have := f.nw; omega)
        refine ⟨m, _, rfl, P, Jl.same_mut s2 nm, ?_, _, rfl⟩
        rw [e1, ← List.append_assoc]
        exact D3
      · obtain ⟨s2, D2, w5, rfl⟩ := h
        refine ⟨s2, ?_, _, _, _, rfl⟩
        rw [wordsAt_next hq]
        rw [show ((ws.length : Int)).toNat = ws.length from rfl, List.take_length] at D2
        exact D2
    obtain ⟨s1, D, v3, v4, v5, rfl⟩ := h
    have hxl := Jl.da_len hxs
    rw [List.length_map] at hxl
    rw [hxl, List.take_length] at D
    walk_at "w"
    exact k m _ s1 nm D
/-! ### _law_loaded_so -/
theorem leans_lt {ls : List Jl.Lea} {i : Nat} {q : Jl.Lea} (h : (ls.map (·.1)).Pairwise (· < ·)) (hq : ls[i]? = some q) : ∀ k ∈ ls.take i, k.1 < q.1 := fun k hk => by
  obtain ⟨j, hj, e⟩ := List.getElem_of_mem hk
  have hji : j < i := by rw [List.length_take] at hj; omega
  have hil : i < ls.length := (List.getElem?_eq_some_iff.mp hq).1
  rw [List.getElem_take] at e
  have h2 := List.pairwise_iff_getElem.mp h j i (by rw [List.length_map]; omega) (by rw [List.length_map]; exact hil) hji
  rw [List.getElem_map, List.getElem_map, e, (List.getElem?_eq_some_iff.mp hq).2] at h2
  exact h2
/-- what the law holds of the leans -/
def Lnd (H : Hp) (b : Int) (L : List (Int × V)) (ls : List Jl.Lea) : Prop := ∀ pl, (∀ l, ls.find? (fun l => l.1 == pl) = some l → ∃ t, (L.find? fun x => x.1 == pl) = some (pl, .ref t) ∧ H t = some (.tup [.str l.2.1, .int (b + l.2.2)])) ∧ (ls.find? (fun l => l.1 == pl) = none → (L.find? fun x => x.1 == pl) = none)
theorem Lnd.same {H H' : Hp} {b : Int} {L : List (Int × V)} {ls : List Jl.Lea} (s : Same H H') (h : Lnd H b L ls) : Lnd H' b L ls := fun pl => ⟨fun l hl => by
  obtain ⟨t, h1, h2⟩ := (h pl).1 l hl
  exact ⟨t, h1, s _ _ h2⟩, (h pl).2⟩
theorem Lnd.nil {H : Hp} {b : Int} : Lnd H b [] [] := fun pl => ⟨fun l hl => (by cases hl), fun _ => rfl⟩
theorem Lnd.more {H : Hp} {b : Int} {L : List (Int × V)} {ls : List Jl.Lea} {q : Jl.Lea} {t : Addr} (h : Lnd H b L ls) (ht : H t = some (.tup [.str q.2.1, .int (b + q.2.2)])) (hlt : ∀ k ∈ ls, k.1 < q.1) : Lnd H b (L ++ [(q.1, .ref t)]) (ls ++ [q]) := fun pl => by
  rw [List.find?_append, List.find?_append]
  by_cases e : q.1 = pl
  · subst e
    have e1 : ls.find? (fun l => l.1 == q.1) = none := List.find?_eq_none.mpr fun k hk => by
      have := hlt k hk
      simp only [beq_iff_eq]
      omega
    have e2 := (h q.1).2 e1
    have e3 : [q].find? (fun l : Jl.Lea => l.1 == q.1) = some q := by rw [List.find?_cons]; simp
    have e4 : [(q.1, V.ref t)].find? (fun x : Int × V => x.1 == q.1) = some (q.1, .ref t) := by rw [List.find?_cons]; simp
    rw [e1, e2, e3, e4]
    refine ⟨fun l hl => ?_, fun hl => by cases hl⟩
    cases (Option.some.inj hl)
    exact ⟨t, rfl, ht⟩
  · have hb : (q.1 == pl) = false := beq_eq_false_iff_ne.mpr e
    have e3 : [q].find? (fun l : Jl.Lea => l.1 == pl) = none := by rw [List.find?_cons, hb]; rfl
    have e4 : [(q.1, V.ref t)].find? (fun x : Int × V => x.1 == pl) = none := by rw [List.find?_cons]; show (match (q.1 == pl) with | true => _ | false => _) = _; rw [hb]; rfl
    rw [e3, e4, Option.or_none, Option.or_none]
    exact h pl
theorem fill_word {r : Str} {w t : Int} (hr : Jl.isRule r) (hw : 0 ≤ w ∧ w < 4294967296) : 0 ≤ Jl.fillR r w t ∧ Jl.fillR r w t < 4294967296 := by
  rcases hr with rfl | rfl | rfl
  · have e1 : Jl.fillR "whole" w t = t % 4294967296 := rfl
    rw [e1]; omega
  · have e1 : Jl.fillR "high" w t = w - w % 65536 + (t + 32768) / 65536 % 65536 := rfl
    rw [e1]; omega
  · have e1 : Jl.fillR "low" w t = w - w % 65536 + t % 65536 := rfl
    rw [e1]; omega
def sp_law_loaded_so (K : PySem.W.Frag) : Sp := fun vs H Q _ => ∃ (m1 : Addr) (x : V) (w : Jl.Wh) (b : Int), vs = [.ref m1, x, .int b] ∧ Jl.DL H m1 (Jl.memOf w b) ∧ Dp K H x (Jl.whD w) ∧ Jl.Fit 63 w.parts w.leans ∧ -(10 ^ 50) ≤ b ∧ b ≤ 10 ^ 50 ∧ ∀ H', Same H H' → Q (.bl true) H'
theorem use_loaded_so {K : PySem.W.Frag} {m1 : Addr} {x : V} {w : Jl.Wh} {b : Int} {H : Hp} {Q : VK} {E : XK} (D1 : Jl.DL H m1 (Jl.memOf w b)) (hd : Dp K H x (Jl.whD w)) (f : Jl.Fit 63 w.parts w.leans) (h1 : -(10 ^ 50) ≤ b) (h2 : b ≤ 10 ^ 50) (z : ∀ H', Same H H' → Q (.bl true) H') : sp_law_loaded_so K [.ref m1, x, .int b] H Q E := ⟨m1, x, w, b, rfl, D1, hd, f, h1, h2, z⟩
theorem ok_law_loaded_so (T : Txt K mg) : FnOk P w K mg base CX0 2 T.a_law_loaded_so T.d_law_loaded_so ["_law_found", "_law_whole_here", "_law_base"] (sp_law_loaded_so K) := by
  have G_law_whole := ok_law_whole (P := P) (w := w) (base := base) T
  have G_law_filled_so := ok_law_filled_so (P := P) (w := w) (base := base) T
  have G_law_due_words := ok_law_due_words (P := P) (w := w) (base := base) T
  refine T.F_law_loaded_so.ok sc_law_loaded_so (fun vs H Q E h => ?_) (fun cdv A outer s H vs Q E hr h => ?_)
  · obtain ⟨m1, x, w, b, rfl, D1, hd, f, hf, k⟩ := h
    rfl
  · obtain ⟨m1, x, w, b, rfl, D1, hd, f, hf, k⟩ := h
    have hu := hu_of hr
    refine ⟨_, (pss_cons (ps_set (i := 3) sc_law_loaded_so.nd rfl (Or.inl rfl) (pe_call (G_law_due_words) (hr.mono (by decide)) rfl T.m_law_due_words T.F_law_due_words.kp T.b_law_due_words .nil pass0 (pa_cons (pv 1) pa_nil)))
      (pss_cons (ps_if (PW.pt (pw_or (pt_not (pt_val (pe_callB call_isi (by rfl) T.n_isinstance (by decide +kernel) (pa_cons (pv 0) (pa_cons (pe_bltn (v := .ty "dict") (u := .type "dict") (by rfl) T.n_dict (by decide +kernel) rfl) pa_nil))))) (pw_or1 (pt_cmpR op_ne (pe_callB call_lenD (by rfl) T.n_len (by decide +kernel) (pa_cons (pv 0) pa_nil)) (pe_callB call_lenD (by rfl) T.n_len (by decide +kernel) (pa_cons (pv 3) pa_nil)) (nomark _))))) (pss_one (ps_ret pe_bl)) pss_nil)
      (pss_cons (ps_set (i := 4) sc_law_loaded_so.nd rfl (Or.inl rfl) pe_dnewK)
      (pss_cons (ps_for PassesOwn.never rfl (pi_list (pe_ix (r := rIxT K) ix_tup (pv 1) pe_int (fun _ _ => rfl))) (pg_tup rfl (pgs_cons (pg_name (i := 5) sc_law_loaded_so.nd rfl (Or.inl rfl)) (pgs_cons (pg_name (i := 6) sc_law_loaded_so.nd rfl (Or.inl rfl)) (pgs_cons (pg_name (i := 7) sc_law_loaded_so.nd rfl (Or.inl rfl)) pgs_nil)))) (pss_one (ps_dput hu (pv 4) (pv 5) (pe_tup (pa_cons (pv 6) (pa_cons (pe_op op_add (pv 2) (pv 7)) pa_nil))) rfl)))
      (pss_cons (ps_lock (ps_for PassesOwn.never rfl (pi_keys (pv 3)) (pg_name (i := 5) sc_law_loaded_so.nd rfl (Or.inl rfl)) (pss_cons (ps_set (i := 8) sc_law_loaded_so.nd rfl (Or.inl rfl) (pe_dget1 hu (pv 0) (pe_op op_add (pv 2) (pv 5)) ⟨rfl, rfl, rfl, rfl⟩))
      (pss_cons (ps_if (PW.pt (pw_or (pt_not (pt_val (pe_call (G_law_whole) (hr.mono (by decide)) rfl T.m_law_whole T.F_law_whole.kp T.b_law_whole .nil pass0 (pa_cons (pv 8) pa_nil)))) (pw_or1 (pt_not (pt_chain op_le op_le pe_int (pv 8) pe_int))))) (pss_one (ps_ret pe_bl)) pss_nil)
      (pss_cons (ps_if (pt_cmp (pc_dnotin hu (pv 5) (pv 4))) (pss_cons (ps_if (pt_cmpR op_ne (pv 8) (pe_dget hu (pv 3) (pv 5) (fun _ _ => rfl)) (nomark _)) (pss_one (ps_ret pe_bl)) pss_nil)
      (pss_one ps_continue)) pss_nil)
      (pss_cons (ps_asg (pe_dget hu (pv 4) (pv 5) (fun _ _ => rfl)) (pg_tup rfl (pgs_cons (pg_name (i := 6) sc_law_loaded_so.nd rfl (Or.inl rfl)) (pgs_cons (pg_name (i := 9) sc_law_loaded_so.nd rfl (Or.inl rfl)) pgs_nil))))
      (pss_one (ps_if (pt_not (pt_val (pe_call (G_law_filled_so) (hr.mono (by decide)) rfl T.m_law_filled_so T.F_law_filled_so.kp T.b_law_filled_so .nil pass0 (pa_cons (pv 6) (pa_cons (pe_dget hu (pv 3) (pv 5) (fun _ _ => rfl)) (pa_cons (pv 9) (pa_cons (pv 8) pa_nil))))))) (pss_one (ps_ret pe_bl)) pss_nil))))))))
      (pss_one (ps_ret pe_bl))))))), ?_⟩
    show (_ : TS) _ [some (.ref m1), some (x), some (.int b), none, none, none, none, none, none, none] H
    obtain ⟨hf2, k⟩ := k
    walk_at "w"
    refine use_due_words hd f (by decide) (fun md H1 s1 nmd Dd => ?_)
    have D1 := D1.same s1
    have m1d : m1 ≠ md := ne_of_none (by assumption) nmd
    have hd := Jl.dp_same s1 hd
    walk_at "w"
    refine Jl.s_isi (k := true) (.base (.dK D1)) (kit_ty (by decide +kernel)) ?_
    walk_at "w"
    refine ⟨m1, _, rfl, D1, ?_⟩
    walk_at "w"
    refine ⟨md, _, rfl, Dd, ?_⟩
    have el : ((Jl.memOf w b).map fun x => ((Sum.inl x.1 : Key), V.int x.2)).length = ((Jl.wordsAt w.parts).map fun x => ((Sum.inl x.1 : Key), V.int x.2)).length := by
      unfold Jl.memOf
      rw [List.length_map, List.length_map, List.length_map]
    rw [el]
    walk_at "wd"
    refine fun ml nml => ?_
    have mdl : md ≠ ml := ne_of_none Dd nml
    walk_at "w"
    obtain ⟨tw, p, l, xs, ys, rfl, htw, hp, hxs, hl, hys⟩ := Jl.dp_wh hd
    have hyl := Jl.da_len hys
    rw [List.length_map] at hyl
    refine Jl.s_seq (Jl.s_forLg (xs := ys) (fun i σ' H' => Same H1 H' ∧ (∃ L, Jl.DV H' ml L ∧ L.length = i ∧ L.map (·.1) = (w.leans.take i).map (·.1) ∧ ∃ F, Same H1 F ∧ Same F H' ∧ F ml = none ∧ Lnd F b L (w.leans.take i)) ∧ ∃ v1 v2 v3, σ' = [some (.ref m1), some (.ref tw), some (.int b), some (.ref md), some (.ref ml), v1, v2, v3, none, none]) (upd H1 ml (.dK [])) (fun R z => ?_) ((Jl.same_upd nml).seq hl) ⟨Jl.same_upd nml, ⟨[], Jl.DV.new, rfl, rfl, H1, Same.refl _, Jl.same_upd nml, nml, Lnd.nil⟩, none, none, none, rfl⟩ (fun i σ' H' _ h => h.1.seq hl) (fun i x σ' H6 hi h => ?_) (fun σ' H6 h => ?_))
    · walk_at "w"
      exact Jl.s_ixT (Jl.sameT (Jl.same_upd nml) htw) (i := 4) rfl z
    · obtain ⟨s6, ⟨L, D6, hL1, hL2, F, sF, sF6, nF, hLn⟩, v1, v2, v3, rfl⟩ := h
      obtain ⟨dq, hdq, hx⟩ := Jl.da_get hys hi
      rw [List.getElem?_map] at hdq
      obtain ⟨⟨pl, r, gg⟩, hq, rfl⟩ : ∃ q, w.leans[i]? = some q ∧ Jl.leanD q = dq := by
        cases h : w.leans[i]? with
        | none => rw [h] at hdq; cases hdq
        | some q => rw [h] at hdq; exact ⟨q, rfl, Option.some.inj hdq⟩
      obtain ⟨tq, rfl, htq⟩ := Jl.dp_lean hx
      refine Jl.s_gTup (Jl.sameT s6 htq) rfl ?_
      walk_at "w"
      refine Jl.s_dput ?_
      walk_at "w"
      refine ⟨(by show 2 ≤ sizeLine; decide), fun tn ntn => ?_⟩
      walk_at "w"
      have hlt := leans_lt f.linc hq
      have sN := Jl.same_upd (o := .tup [.str r, .int (b + gg)]) ntn
      obtain ⟨o, P, D7⟩ := (D6.same' sN).put (a := pl) (v := .ref tn) (fun hm => by
        rw [hL2] at hm
        obtain ⟨k, hk, e⟩ := List.mem_map.mp hm
        have e : k.1 = pl := e
        have := hlt k hk
        have : k.1 < pl := this
        omega) (by rw [hL1]; have := (List.getElem?_eq_some_iff.mp hq).1; have := f.nl; omega)
      have tl : tn ≠ ml := (ne_of_none D6 ntn).symm
      refine ⟨ml, _, rfl, P, Jl.same_mut (s6.trans sN) nml, ⟨_, D7, by rw [List.length_append, hL1]; rfl, ?_, upd F tn (.tup [.str r, .int (b + gg)]), sF.trans (Jl.same_upd (sF6.free ntn)), ?_, by rw [upd_ne tl.symm]; exact nF, ?_⟩, _, _, _, rfl⟩
      · rw [List.take_add_one, hq, List.map_append, List.map_append, hL2]; rfl
      · intro c v hc
        by_cases q : c = tn
        · rw [q, upd_same] at hc
          rw [q, upd_ne tl, upd_same]; exact hc
        · rw [upd_ne q] at hc
          have q2 : c ≠ ml := fun z => by rw [z, nF] at hc; cases hc
          rw [upd_ne q2, upd_ne q]
          exact sF6 _ _ hc
      · rw [List.take_add_one, hq]
        exact (hLn.same (Jl.same_upd (sF6.free ntn))).more (q := (pl, r, gg)) upd_same hlt
    obtain ⟨s6, ⟨L, D6, hL1, hL2, F, sF, sF6, nF, hLn⟩, v1, v2, v3, rfl⟩ := h
    rw [hyl, List.take_length] at hLn
    have hLn := hLn.same sF6
    have D1 := D1.same s6
    have Dd := Dd.same s6
    refine Jl.s_seq (Jl.s_forKeys (d := md) (fun i σ' => ∃ v1 v2 v8 v9, σ' = [some (.ref m1), some (.ref tw), some (.int b), some (.ref md), some (.ref ml), v1, v2, v3, v8, v9]) (fun H1 R z => ?_) Dd ⟨_, _, _, _, rfl⟩ (fun od i key v σ' H7 hk s7 h => ?_) (fun σ' H7 s7 h => ?_))
    · walk_at "w"
      exact z
    · obtain ⟨w1, w2, w8, w9, rfl⟩ := h
      rw [List.getElem?_map] at hk
      obtain ⟨⟨pl, wd⟩, hx, hk2⟩ : ∃ x, (Jl.wordsAt w.parts)[i]? = some x ∧ ((Sum.inl x.1 : Key), V.int x.2) = (key, v) := by
        cases h : (Jl.wordsAt w.parts)[i]? with
        | none => rw [h] at hk; cases hk
        | some q => rw [h] at hk; exact ⟨q, rfl, Option.some.inj hk⟩
      cases hk2
      have hmem := List.mem_of_getElem? hx
      have hwd := (f.low _ hmem).2.2
      have hwd : 0 ≤ wd ∧ wd < 4294967296 := hwd
      have n0 : ((Jl.wordsAt w.parts).map (·.1)).Nodup := Jl.nodup_inc f.inc
      have n1 : ((Jl.memOf w b).map (·.1)).Nodup := Jl.memAt_nodup f
      have h1 : (b + pl, Jl.filledW w.leans b (pl, wd)) ∈ Jl.memOf w b := List.mem_map.mpr ⟨_, hmem, rfl⟩
      have g1 : DGet H7 md (.int pl) (some (.int wd)) := by
        rw [← Jl.valL_some n0 hmem]
        exact .inl ⟨_, (Sum.inl pl : Key), .inr ⟨od, Jl.same_lock s7⟩, rfl, rfl⟩
      have D17 : Jl.DL H7 m1 (Jl.memOf w b) := s7 _ _ (by rw [upd_ne m1d]; exact D1)
      have D67 : Jl.DV H7 ml L := s7 _ _ (by rw [upd_ne mdl.symm]; exact D6)
      have hLn7 : Lnd H7 b L w.leans := fun pl => ⟨fun l hl => by
        obtain ⟨t, e1, e2⟩ := (hLn pl).1 l hl
        exact ⟨t, e1, s7 _ _ (by rw [upd_ne (ne_of e2 Dd (by intro z; cases z))]; exact e2)⟩, (hLn pl).2⟩
      show (_ : TS) _ [some (.ref m1), some (.ref tw), some (.int b), some (.ref md), some (.ref ml), some (.int pl), w2, v3, w8, w9] H7
      walk_at "w"
      refine Jl.s_dget1 ?_
      walk_at "w"
      refine ⟨m1, rfl, .inl ⟨_, .inl D17⟩, ?_⟩
      walk_at "w"
      refine ⟨_, D17.get n1 h1, ?_⟩
      simp only [Option.getD_some]
      have hpl := D67.get pl
      cases hfd : w.leans.find? fun l => l.1 == pl with
      | none =>
        have e0 : Jl.filledW w.leans b (pl, wd) = wd := by
          unfold Jl.filledW
          show (match w.leans.find? (fun l => l.1 == pl) with | none => wd | some l => _) = wd
          rw [hfd]
        rw [e0]
        rw [(hLn7 pl).2 hfd] at hpl
        walk_at "wd"
        refine Jl.s_dnotin ?_
        walk_at "w"
        refine ⟨ml, _, rfl, hpl, ?_⟩
        simp only [Option.map_none, Option.isSome_none]
        walk_at "w"
        refine Jl.s_dgetR ?_
        walk_at "w"
        refine ⟨md, _, rfl, g1, ?_⟩
        walk_at "wd"
        exact ⟨Same.refl _, _, _, _, _, rfl⟩
      | some l =>
        obtain ⟨hr, -⟩ := f.lok l (List.mem_of_find?_eq_some hfd)
        obtain ⟨t, e1, e2⟩ := (hLn7 pl).1 l hfd
        have e0 : Jl.filledW w.leans b (pl, wd) = Jl.fillR l.2.1 wd (b + l.2.2) := by
          unfold Jl.filledW
          show (match w.leans.find? (fun l => l.1 == pl) with | none => wd | some l => Jl.fillR l.2.1 wd (b + l.2.2)) = _
          rw [hfd]
        rw [e0]
        rw [e1] at hpl
        have hfw := fill_word (t := b + l.2.2) hr hwd
        generalize hfr : Jl.fillR l.2.1 wd (b + l.2.2) = got at *
        walk_at "wd"
        refine Jl.s_dnotin ?_
        walk_at "w"
        refine ⟨ml, _, rfl, hpl, ?_⟩
        simp only [Option.map_some, Option.isSome_some]
        walk_at "w"
        refine Jl.s_dgetR ?_
        walk_at "w"
        refine ⟨ml, _, rfl, hpl, ?_⟩
        walk_at "w"
        refine Jl.s_dgetR ?_
        walk_at "w"
        refine ⟨md, _, rfl, g1, ?_⟩
        walk_at "w"
        refine use_filled_so hr hfr.symm ?_
        walk_at "w"
        exact ⟨Same.refl _, _, _, _, _, rfl⟩
    obtain ⟨w1, w2, w8, w9, rfl⟩ := h
    walk_at "w"
    exact k _ (s1.trans (s6.trans s7))
/-! ### law -/
def sp_law (K : PySem.W.Frag) : Sp := fun vs H Q _ => ∃ (a : Addr) (ns : List Int), vs = [.ref a] ∧ SqL K H a (ns.map V.int) ∧ ns.length ≤ 63 ∧ ∀ H', Q (.bl true) H'
theorem ok_law (T : Txt K mg) : FnOk P w K mg base CX0 5 T.a_law T.d_law ["_law_script"] (sp_law K) := by
  have G_loaded := ok_loaded (P := P) (w := w) (base := base) T
  have G_start_of := ok_start_of (P := P) (w := w) (base := base) T
  have G_law_whole := ok_law_whole (P := P) (w := w) (base := base) T
  have G_law_cell_at := ok_law_cell_at (P := P) (w := w) (base := base) T
  have G_law_built := ok_law_built (P := P) (w := w) (base := base) T
  have G_law_base_by := ok_law_base_by (P := P) (w := w) (base := base) T
  have G_law_copy := ok_law_copy (P := P) (w := w) (base := base) T
  have G_law_loaded_so := ok_law_loaded_so (P := P) (w := w) (base := base) T
  refine T.F_law.ok sc_law (fun vs H Q E h => ?_) (fun cdv A outer s H vs Q E hr h => ?_)
  · obtain ⟨a, ns, rfl, hS, hlen, k⟩ := h
    rfl
  · obtain ⟨a, ns, rfl, hS, hlen, k⟩ := h
    have hu := hu_of hr
    refine ⟨_, (pss_cons (ps_asg (pe_call (G_law_built) (hr.mono (by decide)) rfl T.m_law_built T.F_law_built.kp T.b_law_built .nil pass0 (pa_cons (pv 0) (pa_cons pe_int pa_nil))) (pg_tup rfl (pgs_cons (pg_name (i := 1) sc_law.nd rfl (Or.inl rfl)) (pgs_cons (pg_name (i := 2) sc_law.nd rfl (Or.inl rfl)) pgs_nil))))
      (pss_cons (ps_set (i := 3) sc_law.nd rfl (Or.inl rfl) (pe_call (G_law_base_by) (hr.mono (by decide)) rfl T.m_law_base_by T.F_law_base_by.kp T.b_law_base_by .nil pass0 (pa_cons (pv 2) (pa_cons (pe_op op_add (pe_op op_fdiv (pe_call (G_law_cell_at) (hr.mono (by decide)) rfl T.m_law_cell_at T.F_law_cell_at.kp T.b_law_cell_at .nil pass0 (pa_cons (pv 0) (pa_cons pe_int pa_nil))) pe_int) (pe_call (G_law_cell_at) (hr.mono (by decide)) rfl T.m_law_cell_at T.F_law_cell_at.kp T.b_law_cell_at .nil pass0 (pa_cons (pv 0) (pa_cons pe_int pa_nil)))) pa_nil))))
      (pss_cons (ps_set (i := 4) sc_law.nd rfl (Or.inl rfl) (pe_call (G_law_copy) (hr.mono (by decide)) rfl T.m_law_copy T.F_law_copy.kp T.b_law_copy .nil pass0 (pa_cons (pv 2) pa_nil)))
      (pss_cons (ps_set (i := 5) sc_law.nd rfl (Or.inl rfl) (pe_callS (G_loaded) (hr.mono (by decide)) rfl T.m_loaded T.F_loaded.kp T.b_loaded (fun σ => passAt takes0 σ) (pa_cons (pv 4) (pa_cons (pv 3) pa_nil))))
      (pss_cons (ps_if (pt_not (pt_val (pe_call (G_law_loaded_so) (hr.mono (by decide)) rfl T.m_law_loaded_so T.F_law_loaded_so.kp T.b_law_loaded_so .nil pass0 (pa_cons (pv 5) (pa_cons (pv 2) (pa_cons (pv 3) pa_nil)))))) (pss_one (ps_ret pe_bl)) pss_nil)
      (pss_cons (ps_set (i := 6) sc_law.nd rfl (Or.inl rfl) (pe_callS (G_start_of) (hr.mono (by decide)) rfl T.m_start_of T.F_start_of.kp T.b_start_of (fun σ => passAt takes0 σ) (pa_cons (pv 4) (pa_cons (pv 3) pa_nil))))
      (pss_cons (ps_if (PW.pt (pw_or (pt_not (pt_val (pe_call (G_law_whole) (hr.mono (by decide)) rfl T.m_law_whole T.F_law_whole.kp T.b_law_whole .nil pass0 (pa_cons (pv 6) pa_nil)))) (pw_or (pt_cmpR op_ne (pv 6) (pe_op op_add (pv 3) (pe_ix (r := rIxT K) ix_tup (pv 2) pe_int (fun _ _ => rfl))) (nomark _)) (pw_or1 (pt_cmpR (op_neD hr.units) (pv 4) (pv 2) (nomark _)))))) (pss_one (ps_ret pe_bl)) pss_nil)
      (pss_cons (ps_set (i := 7) sc_law.nd rfl (Or.inl rfl) (pe_callTy Jl.cl_dictD (by rfl) T.n_dict (by decide +kernel) (pa_cons (pv 5) pa_nil)))
      (pss_cons (ps_expr (pe_dclear (pv 5)))
      (pss_cons (ps_expr (pe_bm PySem.F.plainAttrs_list PySem.F.slot_list_append PySem.F.type_list_append mt_append (pe_ix (r := rIxT K) ix_tup (pv 4) pe_int (fun _ _ => rfl)) (pa_cons (pe_tup (pa_cons (pe_ix (r := rIxT K) ix_tup (pv 2) pe_int (fun _ _ => rfl)) (pa_cons (pe_lst pa_nil) pa_nil))) pa_nil)))
      (pss_cons (ps_expr (pe_bm0 PySem.F.plainAttrs_list PySem.F.slot_list_clear PySem.F.type_list_clear mt_clear (pe_ix (r := rIxT K) ix_tup (pv 4) pe_int (fun _ _ => rfl))))
      (pss_cons (ps_if (pt_cmpR op_ne (pe_callB call_lenD (by rfl) T.n_len (by decide +kernel) (pa_cons (pe_callS (G_loaded) (hr.mono (by decide)) rfl T.m_loaded T.F_loaded.kp T.b_loaded (fun σ => passAt takes0 σ) (pa_cons (pv 4) (pa_cons (pv 3) pa_nil))) pa_nil)) (pe_callB call_lenD (by rfl) T.n_len (by decide +kernel) (pa_cons (pv 7) pa_nil)) (nomark _)) (pss_one (ps_ret pe_bl)) pss_nil)
      (pss_one (ps_ret (pe_cmpR (op_eq_dictA (Nat.lt_of_le_of_lt (Nat.le_add_right _ _) hr.units)) (pe_callS (G_loaded) (hr.mono (by decide)) rfl T.m_loaded T.F_loaded.kp T.b_loaded (fun σ => passAt takes0 σ) (pa_cons (pe_call (G_law_copy) (hr.mono (by decide)) rfl T.m_law_copy T.F_law_copy.kp T.b_law_copy .nil pass0 (pa_cons (pv 2) pa_nil)) (pa_cons (pv 3) pa_nil))) (pv 7) (nomark _)))))))))))))))), ?_⟩
    show (_ : TS) _ [some (.ref a), none, none, none, none, none, none, none] H
    walk_at "w"
    refine use_built hS hlen (by decide) (by decide) (fun H1 t R wa w rows s1 ht hR hd g => ?_)
    walk_at "w"
    have hst := g.stepOk
    have f := g.fit
    have hsz : 0 ≤ w.size ∧ w.size ≤ 3000000000 := ⟨Int.le_trans g.fit.end0 g.size0, g.size1⟩
    have hws := Jl.whD_shaped (w := w) fun l hl => (f.lok l hl).1
    refine use_cell_at (s1.seq hS) (by decide) ?_
    walk_at "w"
    refine use_cell_at (s1.seq hS) (by decide) ?_
    walk_at "w"
    refine use_base_by hd hst hsz (fun b H2 s2 hf => ?_)
    have hd2 := Jl.dp_same s2 hd
    have hb1 := hf.1
    have hb2 := hf.2.2
    walk_at "w"
    refine use_copy hd2 f (by decide) (fun H3 F th P L us vs c3 hth hP hus hL hvs => ?_)
    have hF : Same F H3 := c3.ext
    have hd3 := Jl.dp_same c3.same hd2
    have hdh : Dp K H3 (.ref th) (Jl.whD w) := .tup (.inl (.inl (hF _ _ hth))) (.cons (.int _) (.cons (.int _) (.cons (.int _) (.cons (.lst (.inl (.inl hP)) (Jl.dps_same hF hus)) (.cons (.lst (.inl (.inl hL)) (Jl.dps_same hF hvs)) .nil)))))
    walk_at "w"
    refine use_loaded hdh hst.1 f (by decide) hf hsz.1 (fun m1 H4 s4 nm1 D1 => ?_)
    have c4 := c3.sm s4
    have hd4 := Jl.dp_same s4 hd3
    have hdh4 := Jl.dp_same s4 hdh
    walk_at "w"
    refine use_loaded_so D1 hd4 f (by omega) (by omega) (fun H5 s5 => ?_)
    have c5 := c4.sm s5
    have hd5 := Jl.dp_same s5 hd4
    have hdh5 := Jl.dp_same s5 hdh4
    have D1 := D1.same s5
    walk_at "w"
    refine use_start_ok hdh5 hst.1 hf ?_
    obtain ⟨tw, p, l, xs, ys, e, htw, -⟩ := Jl.dp_wh hd5
    cases e
    walk_at "w"
    refine Jl.s_ixT htw (i := 2) rfl ?_
    walk_at "wd"
    refine Jl.s_neSame hdh5 hd5 hws ?_
    walk_at "w"
    refine Jl.s_dictD D1 (fun mk nmk => ?_)
    have m1k : m1 ≠ mk := ne_of_none D1 nmk
    have c6 := c5.sm (Jl.same_upd (o := .dK ((Jl.memOf w b).map fun x => ((Sum.inl x.1 : Key), V.int x.2))) nmk)
    have s6 := Jl.same_upd (o := .dK ((Jl.memOf w b).map fun x => ((Sum.inl x.1 : Key), V.int x.2))) nmk
    have Dk : Jl.DL (upd H5 mk (.dK ((Jl.memOf w b).map fun x => ((Sum.inl x.1 : Key), V.int x.2)))) mk (Jl.memOf w b) := upd_same
    have D1 := D1.same s6
    generalize upd H5 mk (.dK ((Jl.memOf w b).map fun x => ((Sum.inl x.1 : Key), V.int x.2))) = H6 at *
    have hm1F : F m1 = none := hF.free nm1
    have hkF : F mk = none := c5.ext.free nmk
    have s36 := s4.trans (s5.trans s6)
    have hP6 := s36 _ _ hP
    have hL6 := s36 _ _ hL
    have hd6 := Jl.dp_same s6 hd5
    have s26 : Same H2 H6 := c6.same
    have hdw : Dp K F (.ref wa) (Jl.whD w) := Jl.dp_same c6.base hd2
    walk_at "w"
    refine Jl.s_dclear D1 ?_
    have c7 : Jl.Act H2 F (upd H6 m1 (.dK [])) [P, L] := by
      refine ⟨c6.base, Jl.same_mut c6.ext hm1F, fun q hq => ⟨(c6.free q hq).1, ?_⟩, c6.nd⟩
      by_cases e : q = m1
      · rw [e, upd_same]; exact ⟨_, rfl⟩
      · rw [upd_ne e]; exact (c6.free q hq).2
    have Pm : P ≠ m1 := ne_of hP6 D1 (by intro z; cases z)
    have Lm : L ≠ m1 := ne_of hL6 D1 (by intro z; cases z)
    have hP7 : (upd H6 m1 (.dK [])) P = some (.lst us) := by rw [upd_ne Pm]; exact hP6
    have hL7 : (upd H6 m1 (.dK [])) L = some (.lst vs) := by rw [upd_ne Lm]; exact hL6
    have Dk7 : Jl.DL (upd H6 m1 (.dK [])) mk (Jl.memOf w b) := by unfold Jl.DL; rw [upd_ne m1k.symm]; exact Dk
    generalize upd H6 m1 (.dK []) = H7 at *
    walk_at "w"
    refine Jl.s_ixT (.inl (.inl (c7.ext _ _ hth))) (i := 3) rfl ?_
    walk_at "w"
    obtain ⟨tw, p, l, xs, ys, e, htw, -⟩ := Jl.dp_wh hdw
    cases e
    refine Jl.s_ixT (Jl.sameT c7.ext htw) (i := 1) rfl ?_
    walk_at "w"
    refine ⟨by decide, fun W nW => ?_⟩
    walk_at "w"
    refine ⟨(by show 2 ≤ sizeLine; decide), fun tn ntn => ?_⟩
    have c8 := (c7.new (o := .lst []) nW).new (o := .tup [.int w.size, .ref W]) ntn
    have s8 := (Jl.same_upd (o := .lst []) nW).trans (Jl.same_upd (o := .tup [.int w.size, .ref W]) ntn)
    have f8 := (Jl.same_upd (o := .lst []) (c7.ext.free nW)).trans (Jl.same_upd (o := .tup [.int w.size, .ref W]) ((c7.new (o := .lst []) nW).ext.free ntn))
    have hP8 := s8 _ _ hP7
    have hL8 := s8 _ _ hL7
    have Dk8 := Dk7.same s8
    have hnew : Dp K (upd (upd F W (.lst [])) tn (.tup [.int w.size, .ref W])) (.ref tn) (Jl.partD (w.size, [])) := .tup (.inl (.inl upd_same)) (.cons (.int _) (.cons (Jl.dp_intL (ns := []) (.inl (.inl (Jl.same_upd ((c7.new (o := .lst []) nW).ext.free ntn) _ _ upd_same)))) .nil))
    generalize upd (upd F W (.lst [])) tn (.tup [.int w.size, .ref W]) = F8 at *
    generalize upd (upd H7 W (.lst [])) tn (.tup [.int w.size, .ref W]) = H8 at *
    refine Jl.s_nil ?_
    have hul := Jl.da_len hus
    rw [List.length_map] at hul
    refine Jl.s_append hP8 ?_ (Jl.small5' (by have := f.np; omega))
    have c9 := c8.upd (a := P) (o := .lst (us ++ [.ref tn])) (by simp)
    have PL := Jl.nd_ne c8.nd 0 1 (by decide) rfl rfl
    have hP9 : (upd H8 P (.lst (us ++ [.ref tn]))) P = some (.lst (us ++ [.ref tn])) := upd_same
    have hL9 : (upd H8 P (.lst (us ++ [.ref tn]))) L = some (.lst vs) := by rw [upd_ne PL.symm]; exact hL8
    have Pk : P ≠ mk := ne_of hP8 Dk8 (by intro z; cases z)
    have Dk9 : Jl.DL (upd H8 P (.lst (us ++ [.ref tn]))) mk (Jl.memOf w b) := by unfold Jl.DL; rw [upd_ne Pk.symm]; exact Dk8
    generalize upd H8 P (.lst (us ++ [.ref tn])) = H9 at *
    walk_at "w"
    refine Jl.s_ixT (.inl (.inl (c9.ext _ _ (f8 _ _ hth)))) (i := 4) rfl ?_
    walk_at "w"
    have cA := c9.upd (a := L) (o := .lst []) (by simp)
    have hPA : (upd H9 L (.lst [])) P = some (.lst (us ++ [.ref tn])) := by rw [upd_ne PL]; exact hP9
    have hLA : (upd H9 L (.lst [])) L = some (.lst []) := upd_same
    have Lk : L ≠ mk := ne_of hL9 Dk9 (by intro z; cases z)
    have DkA : Jl.DL (upd H9 L (.lst [])) mk (Jl.memOf w b) := by unfold Jl.DL; rw [upd_ne Lk.symm]; exact Dk9
    generalize upd H9 L (.lst []) = HA at *
    have hdA : Dp K HA (.ref th) (Jl.whD ⟨w.step, w.size, w.entry, w.parts ++ [(w.size, [])], []⟩) := by
      refine .tup (.inl (.inl (cA.ext _ _ (f8 _ _ hth)))) (.cons (.int _) (.cons (.int _) (.cons (.int _) (.cons (.lst (.inl (.inl hPA)) ?_) (.cons (.lst (.inl (.inl hLA)) .nil) .nil)))))
      rw [List.map_append]
      exact Jl.da_app (Jl.dps_same (f8.trans cA.ext) hus) (Jl.da_one (Jl.dp_same cA.ext hnew))
    have fA : Jl.Fit 89999 (w.parts ++ [(w.size, [])]) [] := by
      have e1 := Jl.endOf_app w.parts w.size []
      have e0 : (([] : List Int).length : Int) = 0 := rfl
      rw [e0] at e1
      have h3 := f.end0
      have h4 := f.end1
      have h5 := g.size0
      refine ⟨by rw [Jl.wordsAt_part]; exact f.inc, fun x hx => ?_, by omega, by omega, List.Pairwise.nil, fun _ h => (nomatch h), fun _ h => (nomatch h), ?_, Nat.zero_le _, ?_, fun q hq => ?_⟩
      · rw [Jl.wordsAt_part] at hx
        have := f.low x hx
        omega
      · rw [List.length_append]
        have := f.np
        show _ + 1 ≤ _
        omega
      · rw [Jl.wordsAt_part]
        exact Nat.le_trans f.nw (by decide)
      · rcases List.mem_append.mp hq with hq | hq
        · exact f.ppos q hq
        · cases List.mem_singleton.mp hq
          exact hsz.1
    refine use_loaded hdA hst.1 fA (by decide) (show Jl.fitsAt ⟨w.step, w.size, w.entry, w.parts ++ [(w.size, [])], []⟩ b from hf) hsz.1 (fun m2 HB sB nm2 D2 => ?_)
    walk_at "w"
    refine ⟨m2, _, rfl, D2, ?_⟩
    walk_at "w"
    have DkB := DkA.same sB
    refine ⟨mk, _, rfl, DkB, ?_⟩
    have el : ((Jl.memOf ⟨w.step, w.size, w.entry, w.parts ++ [(w.size, [])], []⟩ b).map fun x => ((Sum.inl x.1 : Key), V.int x.2)).length = ((Jl.memOf w b).map fun x => ((Sum.inl x.1 : Key), V.int x.2)).length := by
      unfold Jl.memOf
      rw [List.length_map, List.length_map, List.length_map, List.length_map, Jl.wordsAt_part]
    rw [el]
    walk_at "wd"
    have hdB := Jl.dp_same (f8.trans (cA.ext.trans sB)) hdw
    refine use_copy hdB f (by decide) (fun HC FC tc PC LC uc vc cC htc hPC huc hLC hvc => ?_)
    have hFC : Same FC HC := cC.ext
    have hdC : Dp K HC (.ref tc) (Jl.whD w) := .tup (.inl (.inl (hFC _ _ htc))) (.cons (.int _) (.cons (.int _) (.cons (.int _) (.cons (.lst (.inl (.inl hPC)) (Jl.dps_same hFC huc)) (.cons (.lst (.inl (.inl hLC)) (Jl.dps_same hFC hvc)) .nil)))))
    walk_at "w"
    refine use_loaded hdC hst.1 f (by decide) hf hsz.1 (fun m3 HD sD nm3 D3 => ?_)
    walk_at "w"
    have DkD := (DkB.same cC.same).same sD
    refine ⟨m3, mk, _, _, rfl, rfl, D3, DkD, rfl, fun q hq => ?_, k _⟩
    obtain ⟨x, hx, rfl⟩ := List.mem_map.mp hq
    exact ⟨Jl.valL_some (Jl.memAt_nodup f) hx, rfl⟩
end
theorem all_mk {l : PySem.W.OpenLaw} {w : World} {K : PySem.W.Frag} {h : Heap} {mg : Str → Option Value} {fa a_Rule a_HighRule a_LowRule a_NearRule a_SplitRule a_NoRule a_NoBase a_NoBase___init__ a_wrapped a_with_field a_Rule___init__ a_Rule_filled a_HighRule_filled a_LowRule_filled a_rule_of a_need_base a_loaded a_start_of a_law_whole a_law_cell_at a_law_target_by a_law_put a_law_end a_law_built a_law_base_by a_law_copy a_law_filled_so a_law_due_words a_law_loaded_so a_law : Addr} (X : K.In h) (G : h.Ns mainGlobals mg) (hfa : mg "law" = some (.ref fa))
    {od_NoBase___init__ an_NoBase___init__ : Option Addr} {sl_NoBase___init__ : Array (Option Value)} {oc_NoBase___init__ kV_NoBase___init__ dc_NoBase___init__ pm_NoBase___init__ cd_NoBase___init__ ct_NoBase___init__ : Value}
    {od_wrapped an_wrapped : Option Addr} {sl_wrapped : Array (Option Value)} {oc_wrapped kV_wrapped dc_wrapped pm_wrapped cd_wrapped ct_wrapped : Value}
    {od_with_field an_with_field : Option Addr} {sl_with_field : Array (Option Value)} {oc_with_field kV_with_field dc_with_field pm_with_field cd_with_field ct_with_field : Value}
    {od_Rule___init__ an_Rule___init__ : Option Addr} {sl_Rule___init__ : Array (Option Value)} {oc_Rule___init__ kV_Rule___init__ dc_Rule___init__ pm_Rule___init__ cd_Rule___init__ ct_Rule___init__ : Value}
    {od_Rule_filled an_Rule_filled : Option Addr} {sl_Rule_filled : Array (Option Value)} {oc_Rule_filled kV_Rule_filled dc_Rule_filled pm_Rule_filled cd_Rule_filled ct_Rule_filled : Value}
    {od_HighRule_filled an_HighRule_filled : Option Addr} {sl_HighRule_filled : Array (Option Value)} {oc_HighRule_filled kV_HighRule_filled dc_HighRule_filled pm_HighRule_filled cd_HighRule_filled ct_HighRule_filled : Value}
    {od_LowRule_filled an_LowRule_filled : Option Addr} {sl_LowRule_filled : Array (Option Value)} {oc_LowRule_filled kV_LowRule_filled dc_LowRule_filled pm_LowRule_filled cd_LowRule_filled ct_LowRule_filled : Value}
    {od_rule_of an_rule_of : Option Addr} {sl_rule_of : Array (Option Value)} {oc_rule_of kV_rule_of dc_rule_of pm_rule_of cd_rule_of ct_rule_of : Value}
    {od_need_base an_need_base : Option Addr} {sl_need_base : Array (Option Value)} {oc_need_base kV_need_base dc_need_base pm_need_base cd_need_base ct_need_base : Value}
    {od_loaded an_loaded : Option Addr} {sl_loaded : Array (Option Value)} {oc_loaded kV_loaded dc_loaded pm_loaded cd_loaded ct_loaded : Value}
    {od_start_of an_start_of : Option Addr} {sl_start_of : Array (Option Value)} {oc_start_of kV_start_of dc_start_of pm_start_of cd_start_of ct_start_of : Value}
    {od_law_whole an_law_whole : Option Addr} {sl_law_whole : Array (Option Value)} {oc_law_whole kV_law_whole dc_law_whole pm_law_whole cd_law_whole ct_law_whole : Value}
    {od_law_cell_at an_law_cell_at : Option Addr} {sl_law_cell_at : Array (Option Value)} {oc_law_cell_at kV_law_cell_at dc_law_cell_at pm_law_cell_at cd_law_cell_at ct_law_cell_at : Value}
    {od_law_target_by an_law_target_by : Option Addr} {sl_law_target_by : Array (Option Value)} {oc_law_target_by kV_law_target_by dc_law_target_by pm_law_target_by cd_law_target_by ct_law_target_by : Value}
    {od_law_put an_law_put : Option Addr} {sl_law_put : Array (Option Value)} {oc_law_put kV_law_put dc_law_put pm_law_put cd_law_put ct_law_put : Value}
    {od_law_end an_law_end : Option Addr} {sl_law_end : Array (Option Value)} {oc_law_end kV_law_end dc_law_end pm_law_end cd_law_end ct_law_end : Value}
    {od_law_built an_law_built : Option Addr} {sl_law_built : Array (Option Value)} {oc_law_built kV_law_built dc_law_built pm_law_built cd_law_built ct_law_built : Value}
    {od_law_base_by an_law_base_by : Option Addr} {sl_law_base_by : Array (Option Value)} {oc_law_base_by kV_law_base_by dc_law_base_by pm_law_base_by cd_law_base_by ct_law_base_by : Value}
    {od_law_copy an_law_copy : Option Addr} {sl_law_copy : Array (Option Value)} {oc_law_copy kV_law_copy dc_law_copy pm_law_copy cd_law_copy ct_law_copy : Value}
    {od_law_filled_so an_law_filled_so : Option Addr} {sl_law_filled_so : Array (Option Value)} {oc_law_filled_so kV_law_filled_so dc_law_filled_so pm_law_filled_so cd_law_filled_so ct_law_filled_so : Value}
    {od_law_due_words an_law_due_words : Option Addr} {sl_law_due_words : Array (Option Value)} {oc_law_due_words kV_law_due_words dc_law_due_words pm_law_due_words cd_law_due_words ct_law_due_words : Value}
    {od_law_loaded_so an_law_loaded_so : Option Addr} {sl_law_loaded_so : Array (Option Value)} {oc_law_loaded_so kV_law_loaded_so dc_law_loaded_so pm_law_loaded_so cd_law_loaded_so ct_law_loaded_so : Value}
    {od_law an_law : Option Addr} {sl_law : Array (Option Value)} {oc_law kV_law dc_law pm_law cd_law ct_law : Value}
    {nm_NoBase q_NoBase : Str} {N_NoBase : Addr} {bs_NoBase : List Value} {sn_NoBase : List Str} {sub_NoBase : List Value} {ab_NoBase : Bool} {col_NoBase : Option Bool} {dd_NoBase : Option Addr} {m0_NoBase m1_NoBase m2_NoBase m3_NoBase m5_NoBase : Option Value}
    {t_MANY : Tok}
    {t_END : Tok}
    (ns_Rule : PySem.W.nsIn K mainGlobals "Rule" = some (some (.ref a_Rule)))
    (ns_HighRule : PySem.W.nsIn K mainGlobals "HighRule" = some (some (.ref a_HighRule)))
    (ns_LowRule : PySem.W.nsIn K mainGlobals "LowRule" = some (some (.ref a_LowRule)))
    (ns_NearRule : PySem.W.nsIn K mainGlobals "NearRule" = some (some (.ref a_NearRule)))
    (ns_SplitRule : PySem.W.nsIn K mainGlobals "SplitRule" = some (some (.ref a_SplitRule)))
    (ns_NoRule : PySem.W.nsIn K mainGlobals "NoRule" = some (some (.ref a_NoRule)))
    (ns_NoBase : PySem.W.nsIn K mainGlobals "NoBase" = some (some (.ref a_NoBase)))
    (ini_NoBase : PySem.W.findIn K (.ref a_NoBase) "__init__" = some (some (.ref a_NoBase___init__)))
    (fi_Rule___init__ : PySem.W.findIn K (.ref a_Rule) "__init__" = some (some (.ref a_Rule___init__)))
    (fi_Rule_filled : PySem.W.findIn K (.ref a_Rule) "filled" = some (some (.ref a_Rule_filled)))
    (fi_HighRule___init__ : PySem.W.findIn K (.ref a_HighRule) "__init__" = some (some (.ref a_Rule___init__)))
    (fi_HighRule_filled : PySem.W.findIn K (.ref a_HighRule) "filled" = some (some (.ref a_HighRule_filled)))
    (fi_LowRule___init__ : PySem.W.findIn K (.ref a_LowRule) "__init__" = some (some (.ref a_Rule___init__)))
    (fi_LowRule_filled : PySem.W.findIn K (.ref a_LowRule) "filled" = some (some (.ref a_LowRule_filled)))
    (fi_NearRule___init__ : PySem.W.findIn K (.ref a_NearRule) "__init__" = some (some (.ref a_Rule___init__)))
    (fi_SplitRule___init__ : PySem.W.findIn K (.ref a_SplitRule) "__init__" = some (some (.ref a_Rule___init__)))
    (ns_wrapped : PySem.W.nsIn K mainGlobals "wrapped" = some (some (.ref a_wrapped)))
    (ns_with_field : PySem.W.nsIn K mainGlobals "with_field" = some (some (.ref a_with_field)))
    (ns_rule_of : PySem.W.nsIn K mainGlobals "rule_of" = some (some (.ref a_rule_of)))
    (ns_need_base : PySem.W.nsIn K mainGlobals "need_base" = some (some (.ref a_need_base)))
    (ns_loaded : PySem.W.nsIn K mainGlobals "loaded" = some (some (.ref a_loaded)))
    (ns_start_of : PySem.W.nsIn K mainGlobals "start_of" = some (some (.ref a_start_of)))
    (ns_law_whole : PySem.W.nsIn K mainGlobals "_law_whole" = some (some (.ref a_law_whole)))
    (ns_law_cell_at : PySem.W.nsIn K mainGlobals "_law_cell_at" = some (some (.ref a_law_cell_at)))
    (ns_law_target_by : PySem.W.nsIn K mainGlobals "_law_target_by" = some (some (.ref a_law_target_by)))
    (ns_law_put : PySem.W.nsIn K mainGlobals "_law_put" = some (some (.ref a_law_put)))
    (ns_law_end : PySem.W.nsIn K mainGlobals "_law_end" = some (some (.ref a_law_end)))
    (ns_law_built : PySem.W.nsIn K mainGlobals "_law_built" = some (some (.ref a_law_built)))
    (ns_law_base_by : PySem.W.nsIn K mainGlobals "_law_base_by" = some (some (.ref a_law_base_by)))
    (ns_law_copy : PySem.W.nsIn K mainGlobals "_law_copy" = some (some (.ref a_law_copy)))
    (ns_law_filled_so : PySem.W.nsIn K mainGlobals "_law_filled_so" = some (some (.ref a_law_filled_so)))
    (ns_law_due_words : PySem.W.nsIn K mainGlobals "_law_due_words" = some (some (.ref a_law_due_words)))
    (ns_law_loaded_so : PySem.W.nsIn K mainGlobals "_law_loaded_so" = some (some (.ref a_law_loaded_so)))
    (ns_law : PySem.W.nsIn K mainGlobals "law" = some (some (.ref a_law)))
    (lk_NoBase___init__ : K.lookup a_NoBase___init__ = some ⟨oc_NoBase___init__, od_NoBase___init__, .func (PySem.W.fnOf "__init__" "NoBase.__init__" (defArgs s_NoBase___init__) (defBody s_NoBase___init__) (defScope s_NoBase___init__) .none kV_NoBase___init__ dc_NoBase___init__ pm_NoBase___init__ an_NoBase___init__ cd_NoBase___init__ ct_NoBase___init__), sl_NoBase___init__⟩)
    (cd_is_NoBase___init__ : PySem.W.codeIn K cd_NoBase___init__ "NoBase.__init__" = true)
    (kp_NoBase___init__ : PySem.W.keepIn K (.ref a_NoBase___init__) = true)
    (isf_NoBase___init__ : PySem.W.isFn K (.ref a_NoBase___init__) = true)
    (lk_wrapped : K.lookup a_wrapped = some ⟨oc_wrapped, od_wrapped, .func (PySem.W.fnOf "wrapped" "wrapped" (defArgs s_wrapped) (defBody s_wrapped) (defScope s_wrapped) .none kV_wrapped dc_wrapped pm_wrapped an_wrapped cd_wrapped ct_wrapped), sl_wrapped⟩)
    (cd_is_wrapped : PySem.W.codeIn K cd_wrapped "wrapped" = true)
    (kp_wrapped : PySem.W.keepIn K (.ref a_wrapped) = true)
    (lk_with_field : K.lookup a_with_field = some ⟨oc_with_field, od_with_field, .func (PySem.W.fnOf "with_field" "with_field" (defArgs s_with_field) (defBody s_with_field) (defScope s_with_field) .none kV_with_field dc_with_field pm_with_field an_with_field cd_with_field ct_with_field), sl_with_field⟩)
    (cd_is_with_field : PySem.W.codeIn K cd_with_field "with_field" = true)
    (kp_with_field : PySem.W.keepIn K (.ref a_with_field) = true)
    (lk_Rule___init__ : K.lookup a_Rule___init__ = some ⟨oc_Rule___init__, od_Rule___init__, .func (PySem.W.fnOf "__init__" "Rule.__init__" (defArgs s_Rule___init__) (defBody s_Rule___init__) (defScope s_Rule___init__) .none kV_Rule___init__ dc_Rule___init__ pm_Rule___init__ an_Rule___init__ cd_Rule___init__ ct_Rule___init__), sl_Rule___init__⟩)
    (cd_is_Rule___init__ : PySem.W.codeIn K cd_Rule___init__ "Rule.__init__" = true)
    (kp_Rule___init__ : PySem.W.keepIn K (.ref a_Rule___init__) = true)
    (isf_Rule___init__ : PySem.W.isFn K (.ref a_Rule___init__) = true)
    (lk_Rule_filled : K.lookup a_Rule_filled = some ⟨oc_Rule_filled, od_Rule_filled, .func (PySem.W.fnOf "filled" "Rule.filled" (defArgs s_Rule_filled) (defBody s_Rule_filled) (defScope s_Rule_filled) .none kV_Rule_filled dc_Rule_filled pm_Rule_filled an_Rule_filled cd_Rule_filled ct_Rule_filled), sl_Rule_filled⟩)
    (cd_is_Rule_filled : PySem.W.codeIn K cd_Rule_filled "Rule.filled" = true)
    (kp_Rule_filled : PySem.W.keepIn K (.ref a_Rule_filled) = true)
    (isf_Rule_filled : PySem.W.isFn K (.ref a_Rule_filled) = true)
    (lk_HighRule_filled : K.lookup a_HighRule_filled = some ⟨oc_HighRule_filled, od_HighRule_filled, .func (PySem.W.fnOf "filled" "HighRule.filled" (defArgs s_HighRule_filled) (defBody s_HighRule_filled) (defScope s_HighRule_filled) .none kV_HighRule_filled dc_HighRule_filled pm_HighRule_filled an_HighRule_filled cd_HighRule_filled ct_HighRule_filled), sl_HighRule_filled⟩)
    (cd_is_HighRule_filled : PySem.W.codeIn K cd_HighRule_filled "HighRule.filled" = true)
    (kp_HighRule_filled : PySem.W.keepIn K (.ref a_HighRule_filled) = true)
    (isf_HighRule_filled : PySem.W.isFn K (.ref a_HighRule_filled) = true)
    (lk_LowRule_filled : K.lookup a_LowRule_filled = some ⟨oc_LowRule_filled, od_LowRule_filled, .func (PySem.W.fnOf "filled" "LowRule.filled" (defArgs s_LowRule_filled) (defBody s_LowRule_filled) (defScope s_LowRule_filled) .none kV_LowRule_filled dc_LowRule_filled pm_LowRule_filled an_LowRule_filled cd_LowRule_filled ct_LowRule_filled), sl_LowRule_filled⟩)
    (cd_is_LowRule_filled : PySem.W.codeIn K cd_LowRule_filled "LowRule.filled" = true)
    (kp_LowRule_filled : PySem.W.keepIn K (.ref a_LowRule_filled) = true)
    (isf_LowRule_filled : PySem.W.isFn K (.ref a_LowRule_filled) = true)
    (lk_rule_of : K.lookup a_rule_of = some ⟨oc_rule_of, od_rule_of, .func (PySem.W.fnOf "rule_of" "rule_of" (defArgs s_rule_of) (defBody s_rule_of) (defScope s_rule_of) .none kV_rule_of dc_rule_of pm_rule_of an_rule_of cd_rule_of ct_rule_of), sl_rule_of⟩)
    (cd_is_rule_of : PySem.W.codeIn K cd_rule_of "rule_of" = true)
    (kp_rule_of : PySem.W.keepIn K (.ref a_rule_of) = true)
    (lk_need_base : K.lookup a_need_base = some ⟨oc_need_base, od_need_base, .func (PySem.W.fnOf "need_base" "need_base" (defArgs s_need_base) (defBody s_need_base) (defScope s_need_base) .none kV_need_base dc_need_base pm_need_base an_need_base cd_need_base ct_need_base), sl_need_base⟩)
    (cd_is_need_base : PySem.W.codeIn K cd_need_base "need_base" = true)
    (kp_need_base : PySem.W.keepIn K (.ref a_need_base) = true)
    (lk_loaded : K.lookup a_loaded = some ⟨oc_loaded, od_loaded, .func (PySem.W.fnOf "loaded" "loaded" (defArgs s_loaded) (defBody s_loaded) (defScope s_loaded) .none kV_loaded dc_loaded pm_loaded an_loaded cd_loaded ct_loaded), sl_loaded⟩)
    (cd_is_loaded : PySem.W.codeIn K cd_loaded "loaded" = true)
    (kp_loaded : PySem.W.keepIn K (.ref a_loaded) = true)
    (lk_start_of : K.lookup a_start_of = some ⟨oc_start_of, od_start_of, .func (PySem.W.fnOf "start_of" "start_of" (defArgs s_start_of) (defBody s_start_of) (defScope s_start_of) .none kV_start_of dc_start_of pm_start_of an_start_of cd_start_of ct_start_of), sl_start_of⟩)
    (cd_is_start_of : PySem.W.codeIn K cd_start_of "start_of" = true)
    (kp_start_of : PySem.W.keepIn K (.ref a_start_of) = true)
    (lk_law_whole : K.lookup a_law_whole = some ⟨oc_law_whole, od_law_whole, .func (PySem.W.fnOf "_law_whole" "_law_whole" (defArgs s_law_whole) (defBody s_law_whole) (defScope s_law_whole) .none kV_law_whole dc_law_whole pm_law_whole an_law_whole cd_law_whole ct_law_whole), sl_law_whole⟩)
    (cd_is_law_whole : PySem.W.codeIn K cd_law_whole "_law_whole" = true)
    (kp_law_whole : PySem.W.keepIn K (.ref a_law_whole) = true)
    (lk_law_cell_at : K.lookup a_law_cell_at = some ⟨oc_law_cell_at, od_law_cell_at, .func (PySem.W.fnOf "_law_cell_at" "_law_cell_at" (defArgs s_law_cell_at) (defBody s_law_cell_at) (defScope s_law_cell_at) .none kV_law_cell_at dc_law_cell_at pm_law_cell_at an_law_cell_at cd_law_cell_at ct_law_cell_at), sl_law_cell_at⟩)
    (cd_is_law_cell_at : PySem.W.codeIn K cd_law_cell_at "_law_cell_at" = true)
    (kp_law_cell_at : PySem.W.keepIn K (.ref a_law_cell_at) = true)
    (lk_law_target_by : K.lookup a_law_target_by = some ⟨oc_law_target_by, od_law_target_by, .func (PySem.W.fnOf "_law_target_by" "_law_target_by" (defArgs s_law_target_by) (defBody s_law_target_by) (defScope s_law_target_by) .none kV_law_target_by dc_law_target_by pm_law_target_by an_law_target_by cd_law_target_by ct_law_target_by), sl_law_target_by⟩)
    (cd_is_law_target_by : PySem.W.codeIn K cd_law_target_by "_law_target_by" = true)
    (kp_law_target_by : PySem.W.keepIn K (.ref a_law_target_by) = true)
    (lk_law_put : K.lookup a_law_put = some ⟨oc_law_put, od_law_put, .func (PySem.W.fnOf "_law_put" "_law_put" (defArgs s_law_put) (defBody s_law_put) (defScope s_law_put) .none kV_law_put dc_law_put pm_law_put an_law_put cd_law_put ct_law_put), sl_law_put⟩)
    (cd_is_law_put : PySem.W.codeIn K cd_law_put "_law_put" = true)
    (kp_law_put : PySem.W.keepIn K (.ref a_law_put) = true)
    (lk_law_end : K.lookup a_law_end = some ⟨oc_law_end, od_law_end, .func (PySem.W.fnOf "_law_end" "_law_end" (defArgs s_law_end) (defBody s_law_end) (defScope s_law_end) .none kV_law_end dc_law_end pm_law_end an_law_end cd_law_end ct_law_end), sl_law_end⟩)
    (cd_is_law_end : PySem.W.codeIn K cd_law_end "_law_end" = true)
    (kp_law_end : PySem.W.keepIn K (.ref a_law_end) = true)
    (lk_law_built : K.lookup a_law_built = some ⟨oc_law_built, od_law_built, .func (PySem.W.fnOf "_law_built" "_law_built" (defArgs s_law_built) (defBody s_law_built) (defScope s_law_built) .none kV_law_built dc_law_built pm_law_built an_law_built cd_law_built ct_law_built), sl_law_built⟩)
    (cd_is_law_built : PySem.W.codeIn K cd_law_built "_law_built" = true)
    (kp_law_built : PySem.W.keepIn K (.ref a_law_built) = true)
    (lk_law_base_by : K.lookup a_law_base_by = some ⟨oc_law_base_by, od_law_base_by, .func (PySem.W.fnOf "_law_base_by" "_law_base_by" (defArgs s_law_base_by) (defBody s_law_base_by) (defScope s_law_base_by) .none kV_law_base_by dc_law_base_by pm_law_base_by an_law_base_by cd_law_base_by ct_law_base_by), sl_law_base_by⟩)
    (cd_is_law_base_by : PySem.W.codeIn K cd_law_base_by "_law_base_by" = true)
    (kp_law_base_by : PySem.W.keepIn K (.ref a_law_base_by) = true)
    (lk_law_copy : K.lookup a_law_copy = some ⟨oc_law_copy, od_law_copy, .func (PySem.W.fnOf "_law_copy" "_law_copy" (defArgs s_law_copy) (defBody s_law_copy) (defScope s_law_copy) .none kV_law_copy dc_law_copy pm_law_copy an_law_copy cd_law_copy ct_law_copy), sl_law_copy⟩)
    (cd_is_law_copy : PySem.W.codeIn K cd_law_copy "_law_copy" = true)
    (kp_law_copy : PySem.W.keepIn K (.ref a_law_copy) = true)
    (lk_law_filled_so : K.lookup a_law_filled_so = some ⟨oc_law_filled_so, od_law_filled_so, .func (PySem.W.fnOf "_law_filled_so" "_law_filled_so" (defArgs s_law_filled_so) (defBody s_law_filled_so) (defScope s_law_filled_so) .none kV_law_filled_so dc_law_filled_so pm_law_filled_so an_law_filled_so cd_law_filled_so ct_law_filled_so), sl_law_filled_so⟩)
    (cd_is_law_filled_so : PySem.W.codeIn K cd_law_filled_so "_law_filled_so" = true)
    (kp_law_filled_so : PySem.W.keepIn K (.ref a_law_filled_so) = true)
    (lk_law_due_words : K.lookup a_law_due_words = some ⟨oc_law_due_words, od_law_due_words, .func (PySem.W.fnOf "_law_due_words" "_law_due_words" (defArgs s_law_due_words) (defBody s_law_due_words) (defScope s_law_due_words) .none kV_law_due_words dc_law_due_words pm_law_due_words an_law_due_words cd_law_due_words ct_law_due_words), sl_law_due_words⟩)
    (cd_is_law_due_words : PySem.W.codeIn K cd_law_due_words "_law_due_words" = true)
    (kp_law_due_words : PySem.W.keepIn K (.ref a_law_due_words) = true)
    (lk_law_loaded_so : K.lookup a_law_loaded_so = some ⟨oc_law_loaded_so, od_law_loaded_so, .func (PySem.W.fnOf "_law_loaded_so" "_law_loaded_so" (defArgs s_law_loaded_so) (defBody s_law_loaded_so) (defScope s_law_loaded_so) .none kV_law_loaded_so dc_law_loaded_so pm_law_loaded_so an_law_loaded_so cd_law_loaded_so ct_law_loaded_so), sl_law_loaded_so⟩)
    (cd_is_law_loaded_so : PySem.W.codeIn K cd_law_loaded_so "_law_loaded_so" = true)
    (kp_law_loaded_so : PySem.W.keepIn K (.ref a_law_loaded_so) = true)
    (lk_law : K.lookup a_law = some ⟨oc_law, od_law, .func (PySem.W.fnOf "law" "law" (defArgs s_law) (defBody s_law) (defScope s_law) .none kV_law dc_law pm_law an_law cd_law ct_law), sl_law⟩)
    (cd_is_law : PySem.W.codeIn K cd_law "law" = true)
    (kp_law : PySem.W.keepIn K (.ref a_law) = true)
    (pg_Rule : PySem.W.plainGet K a_Rule Str.empty = true)
    (hd_Rule : PySem.W.hasDictIn K a_Rule = true)
    (po_Rule : PySem.W.plainOver K a_Rule = true)
    (sa_Rule : PySem.W.findIn K (.ref a_Rule) "__setattr__" = some (some (.builtin "object.__setattr__")))
    (mkk_Rule : PySem.W.makesIn K a_Rule = true)
    (kpc_Rule : PySem.W.keepIn K (.ref a_Rule) = true)
    (nat_Rule_title : PySem.W.findIn K (.ref a_Rule) "title" = some none)
    (pg_HighRule : PySem.W.plainGet K a_HighRule Str.empty = true)
    (hd_HighRule : PySem.W.hasDictIn K a_HighRule = true)
    (po_HighRule : PySem.W.plainOver K a_HighRule = true)
    (sa_HighRule : PySem.W.findIn K (.ref a_HighRule) "__setattr__" = some (some (.builtin "object.__setattr__")))
    (mkk_HighRule : PySem.W.makesIn K a_HighRule = true)
    (kpc_HighRule : PySem.W.keepIn K (.ref a_HighRule) = true)
    (nat_HighRule_title : PySem.W.findIn K (.ref a_HighRule) "title" = some none)
    (pg_LowRule : PySem.W.plainGet K a_LowRule Str.empty = true)
    (hd_LowRule : PySem.W.hasDictIn K a_LowRule = true)
    (po_LowRule : PySem.W.plainOver K a_LowRule = true)
    (sa_LowRule : PySem.W.findIn K (.ref a_LowRule) "__setattr__" = some (some (.builtin "object.__setattr__")))
    (mkk_LowRule : PySem.W.makesIn K a_LowRule = true)
    (kpc_LowRule : PySem.W.keepIn K (.ref a_LowRule) = true)
    (nat_LowRule_title : PySem.W.findIn K (.ref a_LowRule) "title" = some none)
    (pg_NearRule : PySem.W.plainGet K a_NearRule Str.empty = true)
    (hd_NearRule : PySem.W.hasDictIn K a_NearRule = true)
    (po_NearRule : PySem.W.plainOver K a_NearRule = true)
    (sa_NearRule : PySem.W.findIn K (.ref a_NearRule) "__setattr__" = some (some (.builtin "object.__setattr__")))
    (mkk_NearRule : PySem.W.makesIn K a_NearRule = true)
    (kpc_NearRule : PySem.W.keepIn K (.ref a_NearRule) = true)
    (nat_NearRule_title : PySem.W.findIn K (.ref a_NearRule) "title" = some none)
    (pg_SplitRule : PySem.W.plainGet K a_SplitRule Str.empty = true)
    (hd_SplitRule : PySem.W.hasDictIn K a_SplitRule = true)
    (po_SplitRule : PySem.W.plainOver K a_SplitRule = true)
    (sa_SplitRule : PySem.W.findIn K (.ref a_SplitRule) "__setattr__" = some (some (.builtin "object.__setattr__")))
    (mkk_SplitRule : PySem.W.makesIn K a_SplitRule = true)
    (kpc_SplitRule : PySem.W.keepIn K (.ref a_SplitRule) = true)
    (nat_SplitRule_title : PySem.W.findIn K (.ref a_SplitRule) "title" = some none)
    (en : PySem.W.specialIn K (.builtin "object.__class__") "__get__" = some (some (.builtin "getset_descriptor.__get__")))
    (et : PySem.W.takesIn K (.builtin "object.__class__") = some true)
    (be_NoBase : PySem.W.subIn K (.ref a_NoBase) (.type "BaseException") = some true)
    (ty_NoBase : PySem.W.typeIn K (.ref a_NoBase) = some (.type "type"))
    (kc_NoBase : PySem.W.keepIn K (.ref a_NoBase) = true)
    (eg_NoBase : PySem.W.findIn K (.ref a_NoBase) "__getattribute__" = some (some (.builtin "BaseException.__getattribute__")))
    (ek_NoBase : PySem.W.findIn K (.ref a_NoBase) "__getattr__" = some none)
    (hd_NoBase : PySem.W.hasDictIn K a_NoBase = true)
    (ea_NoBase : PySem.W.findIn K (.ref a_NoBase) "__class__" = some (some (.builtin "object.__class__")))
    (em_NoBase : PySem.W.mroIn K a_NoBase (.type "object") = some true)
    (ve_NoBase : PySem.W.kitOne K (.ref a_NoBase) (.type "ValueError") = some true)
    (xl_NoBase : K.lookup a_NoBase = some (PySem.excClassObj nm_NoBase q_NoBase a_NoBase N_NoBase bs_NoBase [.ref a_JoinError, .type "ValueError", .type "Exception", .type "BaseException", .type "object"] true sn_NoBase sub_NoBase ab_NoBase col_NoBase dd_NoBase m0_NoBase m1_NoBase m2_NoBase m3_NoBase m5_NoBase "ValueError.__new__"))
    (sa_NoBase : PySem.W.findIn K (.ref a_NoBase) "__setattr__" = some (some (.builtin "object.__setattr__")))
    (tf_NoBase : PySem.W.typeIn K (.ref a_NoBase___init__) = some (.type "function"))
    (no_NoBase_base : PySem.W.findIn K (.ref a_NoBase) "base" = some none)
    (kit_NoBase_NoRule : PySem.W.kitOne K (.ref a_NoBase) (.ref a_NoRule) = some false)
    (kit_NoBase_NoBase : PySem.W.kitOne K (.ref a_NoBase) (.ref a_NoBase) = some true)
    (ns_MANY : PySem.W.nsIn K mainGlobals "MANY" = some (some (.int 4294967296 t_MANY)))
    (ns_END : PySem.W.nsIn K mainGlobals "END" = some (some (.int 4294967296 t_END)))
    (ns_bool : PySem.W.nsIn K mainGlobals "bool" = some none)
    (ns_dict : PySem.W.nsIn K mainGlobals "dict" = some none)
    (ns_enumerate : PySem.W.nsIn K mainGlobals "enumerate" = some none)
    (ns_int : PySem.W.nsIn K mainGlobals "int" = some none)
    (ns_isinstance : PySem.W.nsIn K mainGlobals "isinstance" = some none)
    (ns_len : PySem.W.nsIn K mainGlobals "len" = some none)
    (ns_list : PySem.W.nsIn K mainGlobals "list" = some none)
    (ns_range : PySem.W.nsIn K mainGlobals "range" = some none)
    (ns_str : PySem.W.nsIn K mainGlobals "str" = some none)
    : ∃ fd : FuncData, (∀ (s : Shared) (v : Value), BindsTo s fd ⟨[v], []⟩ [("_law_script", v)]) ∧ ∀ base : Heap, K.In base → base.Ns mainGlobals mg → FnOk l.prog w K mg base CX0 5 fa fd ["_law_script"] (sp_law K) := by
  have e := hfa.symm.trans (PySem.W.mg_of X G ns_law)
  cases e
  exact ⟨_, fun s v => .of_eq rfl, fun base _ _ => ok_law (P := l.prog) (w := w) (base := base) (T := {
    a_NoBase___init__ := _, d_NoBase___init__ := _, F_NoBase___init__ := fun_mk (st := s_NoBase___init__) lk_NoBase___init__ cd_is_NoBase___init__ kp_NoBase___init__,
    b_NoBase___init__ := (fun_mk (st := s_NoBase___init__) lk_NoBase___init__ cd_is_NoBase___init__ kp_NoBase___init__).binds (ps := ["self", "base"]) fun _ _ _ _ _ _ us hl => match us, hl with | [_, _], _ => rfl,
    a_wrapped := _, d_wrapped := _, F_wrapped := fun_mk (st := s_wrapped) lk_wrapped cd_is_wrapped kp_wrapped,
    m_wrapped := PySem.W.mg_of X G ns_wrapped,
    b_wrapped := (fun_mk (st := s_wrapped) lk_wrapped cd_is_wrapped kp_wrapped).binds (ps := ["number"]) fun _ _ _ _ _ _ us hl => match us, hl with | [_], _ => rfl,
    a_with_field := _, d_with_field := _, F_with_field := fun_mk (st := s_with_field) lk_with_field cd_is_with_field kp_with_field,
    m_with_field := PySem.W.mg_of X G ns_with_field,
    b_with_field := (fun_mk (st := s_with_field) lk_with_field cd_is_with_field kp_with_field).binds (ps := ["word", "low", "many", "number"]) fun _ _ _ _ _ _ us hl => match us, hl with | [_, _, _, _], _ => rfl,
    a_Rule___init__ := _, d_Rule___init__ := _, F_Rule___init__ := fun_mk (st := s_Rule___init__) lk_Rule___init__ cd_is_Rule___init__ kp_Rule___init__,
    b_Rule___init__ := (fun_mk (st := s_Rule___init__) lk_Rule___init__ cd_is_Rule___init__ kp_Rule___init__).binds (ps := ["self", "title"]) fun _ _ _ _ _ _ us hl => match us, hl with | [_, _], _ => rfl,
    a_Rule_filled := _, d_Rule_filled := _, F_Rule_filled := fun_mk (st := s_Rule_filled) lk_Rule_filled cd_is_Rule_filled kp_Rule_filled,
    b_Rule_filled := (fun_mk (st := s_Rule_filled) lk_Rule_filled cd_is_Rule_filled kp_Rule_filled).binds (ps := ["self", "word", "here", "there"]) fun _ _ _ _ _ _ us hl => match us, hl with | [_, _, _, _], _ => rfl,
    a_HighRule_filled := _, d_HighRule_filled := _, F_HighRule_filled := fun_mk (st := s_HighRule_filled) lk_HighRule_filled cd_is_HighRule_filled kp_HighRule_filled,
    b_HighRule_filled := (fun_mk (st := s_HighRule_filled) lk_HighRule_filled cd_is_HighRule_filled kp_HighRule_filled).binds (ps := ["self", "word", "here", "there"]) fun _ _ _ _ _ _ us hl => match us, hl with | [_, _, _, _], _ => rfl,
    a_LowRule_filled := _, d_LowRule_filled := _, F_LowRule_filled := fun_mk (st := s_LowRule_filled) lk_LowRule_filled cd_is_LowRule_filled kp_LowRule_filled,
    b_LowRule_filled := (fun_mk (st := s_LowRule_filled) lk_LowRule_filled cd_is_LowRule_filled kp_LowRule_filled).binds (ps := ["self", "word", "here", "there"]) fun _ _ _ _ _ _ us hl => match us, hl with | [_, _, _, _], _ => rfl,
    a_rule_of := _, d_rule_of := _, F_rule_of := fun_mk (st := s_rule_of) lk_rule_of cd_is_rule_of kp_rule_of,
    m_rule_of := PySem.W.mg_of X G ns_rule_of,
    b_rule_of := (fun_mk (st := s_rule_of) lk_rule_of cd_is_rule_of kp_rule_of).binds (ps := ["title"]) fun _ _ _ _ _ _ us hl => match us, hl with | [_], _ => rfl,
    a_need_base := _, d_need_base := _, F_need_base := fun_mk (st := s_need_base) lk_need_base cd_is_need_base kp_need_base,
    m_need_base := PySem.W.mg_of X G ns_need_base,
    b_need_base := (fun_mk (st := s_need_base) lk_need_base cd_is_need_base kp_need_base).binds (ps := ["whole", "base"]) fun _ _ _ _ _ _ us hl => match us, hl with | [_, _], _ => rfl,
    a_loaded := _, d_loaded := _, F_loaded := fun_mk (st := s_loaded) lk_loaded cd_is_loaded kp_loaded,
    m_loaded := PySem.W.mg_of X G ns_loaded,
    b_loaded := (fun_mk (st := s_loaded) lk_loaded cd_is_loaded kp_loaded).binds (ps := ["whole", "base"]) fun _ _ _ _ _ _ us hl => match us, hl with | [_, _], _ => rfl,
    a_start_of := _, d_start_of := _, F_start_of := fun_mk (st := s_start_of) lk_start_of cd_is_start_of kp_start_of,
    m_start_of := PySem.W.mg_of X G ns_start_of,
    b_start_of := (fun_mk (st := s_start_of) lk_start_of cd_is_start_of kp_start_of).binds (ps := ["whole", "base"]) fun _ _ _ _ _ _ us hl => match us, hl with | [_, _], _ => rfl,
    a_law_whole := _, d_law_whole := _, F_law_whole := fun_mk (st := s_law_whole) lk_law_whole cd_is_law_whole kp_law_whole,
    m_law_whole := PySem.W.mg_of X G ns_law_whole,
    b_law_whole := (fun_mk (st := s_law_whole) lk_law_whole cd_is_law_whole kp_law_whole).binds (ps := ["_law_found"]) fun _ _ _ _ _ _ us hl => match us, hl with | [_], _ => rfl,
    a_law_cell_at := _, d_law_cell_at := _, F_law_cell_at := fun_mk (st := s_law_cell_at) lk_law_cell_at cd_is_law_cell_at kp_law_cell_at,
    m_law_cell_at := PySem.W.mg_of X G ns_law_cell_at,
    b_law_cell_at := (fun_mk (st := s_law_cell_at) lk_law_cell_at cd_is_law_cell_at kp_law_cell_at).binds (ps := ["_law_script", "_law_k"]) fun _ _ _ _ _ _ us hl => match us, hl with | [_, _], _ => rfl,
    a_law_target_by := _, d_law_target_by := _, F_law_target_by := fun_mk (st := s_law_target_by) lk_law_target_by cd_is_law_target_by kp_law_target_by,
    m_law_target_by := PySem.W.mg_of X G ns_law_target_by,
    b_law_target_by := (fun_mk (st := s_law_target_by) lk_law_target_by cd_is_law_target_by kp_law_target_by).binds (ps := ["_law_number"]) fun _ _ _ _ _ _ us hl => match us, hl with | [_], _ => rfl,
    a_law_put := _, d_law_put := _, F_law_put := fun_mk (st := s_law_put) lk_law_put cd_is_law_put kp_law_put,
    m_law_put := PySem.W.mg_of X G ns_law_put,
    b_law_put := (fun_mk (st := s_law_put) lk_law_put cd_is_law_put kp_law_put).binds (ps := ["_law_cell", "_law_parts", "_law_leans", "_law_end_here"]) fun _ _ _ _ _ _ us hl => match us, hl with | [_, _, _, _], _ => rfl,
    a_law_end := _, d_law_end := _, F_law_end := fun_mk (st := s_law_end) lk_law_end cd_is_law_end kp_law_end,
    m_law_end := PySem.W.mg_of X G ns_law_end,
    b_law_end := (fun_mk (st := s_law_end) lk_law_end cd_is_law_end kp_law_end).binds (ps := ["_law_parts"]) fun _ _ _ _ _ _ us hl => match us, hl with | [_], _ => rfl,
    a_law_built := _, d_law_built := _, F_law_built := fun_mk (st := s_law_built) lk_law_built cd_is_law_built kp_law_built,
    m_law_built := PySem.W.mg_of X G ns_law_built,
    b_law_built := (fun_mk (st := s_law_built) lk_law_built cd_is_law_built kp_law_built).binds (ps := ["_law_script", "_law_most"]) fun _ _ _ _ _ _ us hl => match us, hl with | [_, _], _ => rfl,
    a_law_base_by := _, d_law_base_by := _, F_law_base_by := fun_mk (st := s_law_base_by) lk_law_base_by cd_is_law_base_by kp_law_base_by,
    m_law_base_by := PySem.W.mg_of X G ns_law_base_by,
    b_law_base_by := (fun_mk (st := s_law_base_by) lk_law_base_by cd_is_law_base_by kp_law_base_by).binds (ps := ["_law_whole_here", "_law_cell"]) fun _ _ _ _ _ _ us hl => match us, hl with | [_, _], _ => rfl,
    a_law_copy := _, d_law_copy := _, F_law_copy := fun_mk (st := s_law_copy) lk_law_copy cd_is_law_copy kp_law_copy,
    m_law_copy := PySem.W.mg_of X G ns_law_copy,
    b_law_copy := (fun_mk (st := s_law_copy) lk_law_copy cd_is_law_copy kp_law_copy).binds (ps := ["_law_whole_here"]) fun _ _ _ _ _ _ us hl => match us, hl with | [_], _ => rfl,
    a_law_filled_so := _, d_law_filled_so := _, F_law_filled_so := fun_mk (st := s_law_filled_so) lk_law_filled_so cd_is_law_filled_so kp_law_filled_so,
    m_law_filled_so := PySem.W.mg_of X G ns_law_filled_so,
    b_law_filled_so := (fun_mk (st := s_law_filled_so) lk_law_filled_so cd_is_law_filled_so kp_law_filled_so).binds (ps := ["_law_rule", "_law_word", "_law_there", "_law_found"]) fun _ _ _ _ _ _ us hl => match us, hl with | [_, _, _, _], _ => rfl,
    a_law_due_words := _, d_law_due_words := _, F_law_due_words := fun_mk (st := s_law_due_words) lk_law_due_words cd_is_law_due_words kp_law_due_words,
    m_law_due_words := PySem.W.mg_of X G ns_law_due_words,
    b_law_due_words := (fun_mk (st := s_law_due_words) lk_law_due_words cd_is_law_due_words kp_law_due_words).binds (ps := ["_law_whole_here"]) fun _ _ _ _ _ _ us hl => match us, hl with | [_], _ => rfl,
    a_law_loaded_so := _, d_law_loaded_so := _, F_law_loaded_so := fun_mk (st := s_law_loaded_so) lk_law_loaded_so cd_is_law_loaded_so kp_law_loaded_so,
    m_law_loaded_so := PySem.W.mg_of X G ns_law_loaded_so,
    b_law_loaded_so := (fun_mk (st := s_law_loaded_so) lk_law_loaded_so cd_is_law_loaded_so kp_law_loaded_so).binds (ps := ["_law_found", "_law_whole_here", "_law_base"]) fun _ _ _ _ _ _ us hl => match us, hl with | [_, _, _], _ => rfl,
    a_law := _, d_law := _, F_law := fun_mk (st := s_law) lk_law cd_is_law kp_law,
    m_law := PySem.W.mg_of X G ns_law,
    b_law := (fun_mk (st := s_law) lk_law cd_is_law kp_law).binds (ps := ["_law_script"]) fun _ _ _ _ _ _ us hl => match us, hl with | [_], _ => rfl,
    a_Rule := _, c_Rule := ⟨pg_Rule, hd_Rule, po_Rule, sa_Rule⟩, g_Rule := PySem.W.mg_of X G ns_Rule,
    k_Rule := ⟨mkk_Rule, fi_Rule___init__, isf_Rule___init__, kpc_Rule⟩,
    na_Rule_title := nat_Rule_title,
    me_Rule_filled := ⟨fi_Rule_filled, isf_Rule_filled, kp_Rule_filled⟩,
    a_HighRule := _, c_HighRule := ⟨pg_HighRule, hd_HighRule, po_HighRule, sa_HighRule⟩, g_HighRule := PySem.W.mg_of X G ns_HighRule,
    k_HighRule := ⟨mkk_HighRule, fi_HighRule___init__, isf_Rule___init__, kpc_HighRule⟩,
    na_HighRule_title := nat_HighRule_title,
    me_HighRule_filled := ⟨fi_HighRule_filled, isf_HighRule_filled, kp_HighRule_filled⟩,
    a_LowRule := _, c_LowRule := ⟨pg_LowRule, hd_LowRule, po_LowRule, sa_LowRule⟩, g_LowRule := PySem.W.mg_of X G ns_LowRule,
    k_LowRule := ⟨mkk_LowRule, fi_LowRule___init__, isf_Rule___init__, kpc_LowRule⟩,
    na_LowRule_title := nat_LowRule_title,
    me_LowRule_filled := ⟨fi_LowRule_filled, isf_LowRule_filled, kp_LowRule_filled⟩,
    a_NearRule := _, c_NearRule := ⟨pg_NearRule, hd_NearRule, po_NearRule, sa_NearRule⟩, g_NearRule := PySem.W.mg_of X G ns_NearRule,
    k_NearRule := ⟨mkk_NearRule, fi_NearRule___init__, isf_Rule___init__, kpc_NearRule⟩,
    na_NearRule_title := nat_NearRule_title,
    a_SplitRule := _, c_SplitRule := ⟨pg_SplitRule, hd_SplitRule, po_SplitRule, sa_SplitRule⟩, g_SplitRule := PySem.W.mg_of X G ns_SplitRule,
    k_SplitRule := ⟨mkk_SplitRule, fi_SplitRule___init__, isf_Rule___init__, kpc_SplitRule⟩,
    na_SplitRule_title := nat_SplitRule_title,
    a_NoRule := _, g_NoRule := PySem.W.mg_of X G ns_NoRule,
    a_NoBase := _, g_NoBase := PySem.W.mg_of X G ns_NoBase,
    be_NoBase := be_NoBase, ty_NoBase := ty_NoBase, kc_NoBase := kc_NoBase, ec_NoBase := ⟨eg_NoBase, ek_NoBase, be_NoBase, hd_NoBase, ea_NoBase, en, et, em_NoBase⟩, ve_NoBase := ve_NoBase,
    o_NoBase := ⟨⟨_, _, _, _, _, _, _, _, _, _, _, _, _, _, _, xl_NoBase, by rfl⟩, sa_NoBase, be_NoBase, ty_NoBase, kc_NoBase⟩, i_NoBase := ini_NoBase, t_NoBase := tf_NoBase, xf_NoBase := ⟨eg_NoBase, ek_NoBase, be_NoBase, hd_NoBase⟩,
    no_NoBase_base := no_NoBase_base,
    kit_NoBase_NoRule := kit_NoBase_NoRule,
    kit_NoBase_NoBase := kit_NoBase_NoBase,
    t_MANY := t_MANY, g_MANY := PySem.W.mg_of X G ns_MANY,
    t_END := t_END, g_END := PySem.W.mg_of X G ns_END,
    n_bool := PySem.W.mg_none_of X G ns_bool,
    n_dict := PySem.W.mg_none_of X G ns_dict,
    n_enumerate := PySem.W.mg_none_of X G ns_enumerate,
    n_int := PySem.W.mg_none_of X G ns_int,
    n_isinstance := PySem.W.mg_none_of X G ns_isinstance,
    n_len := PySem.W.mg_none_of X G ns_len,
    n_list := PySem.W.mg_none_of X G ns_list,
    n_range := PySem.W.mg_none_of X G ns_range,
    n_str := PySem.W.mg_none_of X G ns_str })⟩
theorem walk {l : PySem.W.OpenLaw} {q : Program} {loose : List Str} {XP : (Str → Option Value) → Heap → Prop} {YP : World → Heap → Prop} {d : DefRec} {K : Params → PySem.W.Frag} (hn : l.most = some 63) (hdf : d.params.defaults = [])
    (hY : ∀ (w : World) (h : Heap), YP w h → (K w.params).In h)
    (F : ∀ (w : World) (mg : Str → Option Value) (fa : Addr) (h : Heap), (K w.params).In h → h.Ns mainGlobals mg → mg d.name = some (.ref fa) →
      ∃ fd : FuncData, (∀ (s : Shared) (u : Value), BindsTo s fd ⟨[u], []⟩ [("_law_script", u)]) ∧ ∀ base : Heap, (K w.params).In base → base.Ns mainGlobals mg → FnOk l.prog w (K w.params) mg base CX0 5 fa fd ["_law_script"] (sp_law (K w.params))) :
    PySem.W.WalkO q loose XP YP l.row.toRowW d [] (fun f vs => PySem.call f vs) :=
  L2.walk_of (n := 63) (k := 5) (x := "_law_script") (CX := fun _ => CX0) (sp := fun w => sp_law (K w.params)) hn (by decide) hdf ⟨rfl, by decide, by decide⟩ hY F (fun _ _ a ns hl _ hS => ⟨a, ns, rfl, hS, hl, fun _ => rfl⟩) fun _ _ _ _ _ z => z
end Jw
open PySem PySem.W PyProof.Rows
set_option maxRecDepth 100000 in
set_option maxHeartbeats 0 in
theorem PySem.Challenge.cw_joinload_k45_loaded_words_holds : PySem.Challenge.rw_joinload_k45_loaded_words.Holds := by
  w_on; o_law; k_head; (case hw => w_witness2)
  k_fill
  refine Jw.walk (l := PySem.Challenge.rw_joinload_k45_loaded_words) rfl rfl (fun w h Y => PySem.W.kIn_of Y) ?F
  case F =>
    intro w mg fa h KX G hmg
    refine' Jw.all_mk KX G hmg ?ns_Rule ?ns_HighRule ?ns_LowRule ?ns_NearRule ?ns_SplitRule ?ns_NoRule ?ns_NoBase ?ini_NoBase ?fi_Rule___init__ ?fi_Rule_filled ?fi_HighRule___init__ ?fi_HighRule_filled ?fi_LowRule___init__ ?fi_LowRule_filled ?fi_NearRule___init__ ?fi_SplitRule___init__ ?ns_wrapped ?ns_with_field ?ns_rule_of ?ns_need_base ?ns_loaded ?ns_start_of ?ns_law_whole ?ns_law_cell_at ?ns_law_target_by ?ns_law_put ?ns_law_end ?ns_law_built ?ns_law_base_by ?ns_law_copy ?ns_law_filled_so ?ns_law_due_words ?ns_law_loaded_so ?ns_law ?lk_NoBase___init__ ?cd_is_NoBase___init__ ?kp_NoBase___init__ ?isf_NoBase___init__ ?lk_wrapped ?cd_is_wrapped ?kp_wrapped ?lk_with_field ?cd_is_with_field ?kp_with_field ?lk_Rule___init__ ?cd_is_Rule___init__ ?kp_Rule___init__ ?isf_Rule___init__ ?lk_Rule_filled ?cd_is_Rule_filled ?kp_Rule_filled ?isf_Rule_filled ?lk_HighRule_filled ?cd_is_HighRule_filled ?kp_HighRule_filled ?isf_HighRule_filled ?lk_LowRule_filled ?cd_is_LowRule_filled ?kp_LowRule_filled ?isf_LowRule_filled ?lk_rule_of ?cd_is_rule_of ?kp_rule_of ?lk_need_base ?cd_is_need_base ?kp_need_base ?lk_loaded ?cd_is_loaded ?kp_loaded ?lk_start_of ?cd_is_start_of ?kp_start_of ?lk_law_whole ?cd_is_law_whole ?kp_law_whole ?lk_law_cell_at ?cd_is_law_cell_at ?kp_law_cell_at ?lk_law_target_by ?cd_is_law_target_by ?kp_law_target_by ?lk_law_put ?cd_is_law_put ?kp_law_put ?lk_law_end ?cd_is_law_end ?kp_law_end ?lk_law_built ?cd_is_law_built ?kp_law_built ?lk_law_base_by ?cd_is_law_base_by ?kp_law_base_by ?lk_law_copy ?cd_is_law_copy ?kp_law_copy ?lk_law_filled_so ?cd_is_law_filled_so ?kp_law_filled_so ?lk_law_due_words ?cd_is_law_due_words ?kp_law_due_words ?lk_law_loaded_so ?cd_is_law_loaded_so ?kp_law_loaded_so ?lk_law ?cd_is_law ?kp_law ?pg_Rule ?hd_Rule ?po_Rule ?sa_Rule ?mkk_Rule ?kpc_Rule ?nat_Rule_title ?pg_HighRule ?hd_HighRule ?po_HighRule ?sa_HighRule ?mkk_HighRule ?kpc_HighRule ?nat_HighRule_title ?pg_LowRule ?hd_LowRule ?po_LowRule ?sa_LowRule ?mkk_LowRule ?kpc_LowRule ?nat_LowRule_title ?pg_NearRule ?hd_NearRule ?po_NearRule ?sa_NearRule ?mkk_NearRule ?kpc_NearRule ?nat_NearRule_title ?pg_SplitRule ?hd_SplitRule ?po_SplitRule ?sa_SplitRule ?mkk_SplitRule ?kpc_SplitRule ?nat_SplitRule_title ?en ?et ?be_NoBase ?ty_NoBase ?kc_NoBase ?eg_NoBase ?ek_NoBase ?hd_NoBase ?ea_NoBase ?em_NoBase ?ve_NoBase ?xl_NoBase ?sa_NoBase ?tf_NoBase ?no_NoBase_base ?kit_NoBase_NoRule ?kit_NoBase_NoBase ?ns_MANY ?ns_END ?ns_bool ?ns_dict ?ns_enumerate ?ns_int ?ns_isinstance ?ns_len ?ns_list ?ns_range ?ns_str
    (case ns_Rule => first | k_is | k_exc | kit_is)
    (case ns_HighRule => first | k_is | k_exc | kit_is)
    (case ns_LowRule => first | k_is | k_exc | kit_is)
    (case ns_NearRule => first | k_is | k_exc | kit_is)
    (case ns_SplitRule => first | k_is | k_exc | kit_is)
    (case ns_NoRule => first | k_is | k_exc | kit_is)
    (case ns_NoBase => first | k_is | k_exc | kit_is)
    (case ini_NoBase => first | k_is | k_exc | kit_is)
    (case fi_Rule___init__ => first | k_is | k_exc | kit_is)
    (case fi_Rule_filled => first | k_is | k_exc | kit_is)
    (case fi_HighRule___init__ => first | k_is | k_exc | kit_is)
    (case fi_HighRule_filled => first | k_is | k_exc | kit_is)
    (case fi_LowRule___init__ => first | k_is | k_exc | kit_is)
    (case fi_LowRule_filled => first | k_is | k_exc | kit_is)
    (case fi_NearRule___init__ => first | k_is | k_exc | kit_is)
    (case fi_SplitRule___init__ => first | k_is | k_exc | kit_is)
    (case ns_wrapped => first | k_is | k_exc | kit_is)
    (case ns_with_field => first | k_is | k_exc | kit_is)
    (case ns_rule_of => first | k_is | k_exc | kit_is)
    (case ns_need_base => first | k_is | k_exc | kit_is)
    (case ns_loaded => first | k_is | k_exc | kit_is)
    (case ns_start_of => first | k_is | k_exc | kit_is)
    (case ns_law_whole => first | k_is | k_exc | kit_is)
    (case ns_law_cell_at => first | k_is | k_exc | kit_is)
    (case ns_law_target_by => first | k_is | k_exc | kit_is)
    (case ns_law_put => first | k_is | k_exc | kit_is)
    (case ns_law_end => first | k_is | k_exc | kit_is)
    (case ns_law_built => first | k_is | k_exc | kit_is)
    (case ns_law_base_by => first | k_is | k_exc | kit_is)
    (case ns_law_copy => first | k_is | k_exc | kit_is)
    (case ns_law_filled_so => first | k_is | k_exc | kit_is)
    (case ns_law_due_words => first | k_is | k_exc | kit_is)
    (case ns_law_loaded_so => first | k_is | k_exc | kit_is)
    (case ns_law => first | k_is | k_exc | kit_is)
    (case lk_NoBase___init__ => first | k_is | k_exc | kit_is)
    (case cd_is_NoBase___init__ => first | k_is | k_exc | kit_is)
    (case kp_NoBase___init__ => first | k_is | k_exc | kit_is)
    (case isf_NoBase___init__ => first | k_is | k_exc | kit_is)
    (case lk_wrapped => first | k_is | k_exc | kit_is)
    (case cd_is_wrapped => first | k_is | k_exc | kit_is)
    (case kp_wrapped => first | k_is | k_exc | kit_is)
    (case lk_with_field => first | k_is | k_exc | kit_is)
    (case cd_is_with_field => first | k_is | k_exc | kit_is)
    (case kp_with_field => first | k_is | k_exc | kit_is)
    (case lk_Rule___init__ => first | k_is | k_exc | kit_is)
    (case cd_is_Rule___init__ => first | k_is | k_exc | kit_is)
    (case kp_Rule___init__ => first | k_is | k_exc | kit_is)
    (case isf_Rule___init__ => first | k_is | k_exc | kit_is)
    (case lk_Rule_filled => first | k_is | k_exc | kit_is)
    (case cd_is_Rule_filled => first | k_is | k_exc | kit_is)
    (case kp_Rule_filled => first | k_is | k_exc | kit_is)
    (case isf_Rule_filled => first | k_is | k_exc | kit_is)
    (case lk_HighRule_filled => first | k_is | k_exc | kit_is)
    (case cd_is_HighRule_filled => first | k_is | k_exc | kit_is)
    (case kp_HighRule_filled => first | k_is | k_exc | kit_is)
    (case isf_HighRule_filled => first | k_is | k_exc | kit_is)
    (case lk_LowRule_filled => first | k_is | k_exc | kit_is)
    (case cd_is_LowRule_filled => first | k_is | k_exc | kit_is)
    (case kp_LowRule_filled => first | k_is | k_exc | kit_is)
    (case isf_LowRule_filled => first | k_is | k_exc | kit_is)
    (case lk_rule_of => first | k_is | k_exc | kit_is)
    (case cd_is_rule_of => first | k_is | k_exc | kit_is)
    (case kp_rule_of => first | k_is | k_exc | kit_is)
    (case lk_need_base => first | k_is | k_exc | kit_is)
    (case cd_is_need_base => first | k_is | k_exc | kit_is)
    (case kp_need_base => first | k_is | k_exc | kit_is)
    (case lk_loaded => first | k_is | k_exc | kit_is)
    (case cd_is_loaded => first | k_is | k_exc | kit_is)
    (case kp_loaded => first | k_is | k_exc | kit_is)
    (case lk_start_of => first | k_is | k_exc | kit_is)
    (case cd_is_start_of => first | k_is | k_exc | kit_is)
    (case kp_start_of => first | k_is | k_exc | kit_is)
    (case lk_law_whole => first | k_is | k_exc | kit_is)
    (case cd_is_law_whole => first | k_is | k_exc | kit_is)
    (case kp_law_whole => first | k_is | k_exc | kit_is)
    (case lk_law_cell_at => first | k_is | k_exc | kit_is)
    (case cd_is_law_cell_at => first | k_is | k_exc | kit_is)
    (case kp_law_cell_at => first | k_is | k_exc | kit_is)
    (case lk_law_target_by => first | k_is | k_exc | kit_is)
    (case cd_is_law_target_by => first | k_is | k_exc | kit_is)
    (case kp_law_target_by => first | k_is | k_exc | kit_is)
    (case lk_law_put => first | k_is | k_exc | kit_is)
    (case cd_is_law_put => first | k_is | k_exc | kit_is)
    (case kp_law_put => first | k_is | k_exc | kit_is)
    (case lk_law_end => first | k_is | k_exc | kit_is)
    (case cd_is_law_end => first | k_is | k_exc | kit_is)
    (case kp_law_end => first | k_is | k_exc | kit_is)
    (case lk_law_built => first | k_is | k_exc | kit_is)
    (case cd_is_law_built => first | k_is | k_exc | kit_is)
    (case kp_law_built => first | k_is | k_exc | kit_is)
    (case lk_law_base_by => first | k_is | k_exc | kit_is)
    (case cd_is_law_base_by => first | k_is | k_exc | kit_is)
    (case kp_law_base_by => first | k_is | k_exc | kit_is)
    (case lk_law_copy => first | k_is | k_exc | kit_is)
    (case cd_is_law_copy => first | k_is | k_exc | kit_is)
    (case kp_law_copy => first | k_is | k_exc | kit_is)
    (case lk_law_filled_so => first | k_is | k_exc | kit_is)
    (case cd_is_law_filled_so => first | k_is | k_exc | kit_is)
    (case kp_law_filled_so => first | k_is | k_exc | kit_is)
    (case lk_law_due_words => first | k_is | k_exc | kit_is)
    (case cd_is_law_due_words => first | k_is | k_exc | kit_is)
    (case kp_law_due_words => first | k_is | k_exc | kit_is)
    (case lk_law_loaded_so => first | k_is | k_exc | kit_is)
    (case cd_is_law_loaded_so => first | k_is | k_exc | kit_is)
    (case kp_law_loaded_so => first | k_is | k_exc | kit_is)
    (case lk_law => first | k_is | k_exc | kit_is)
    (case cd_is_law => first | k_is | k_exc | kit_is)
    (case kp_law => first | k_is | k_exc | kit_is)
    (case pg_Rule => first | k_is | k_exc | kit_is)
    (case hd_Rule => first | k_is | k_exc | kit_is)
    (case po_Rule => first | k_is | k_exc | kit_is)
    (case sa_Rule => first | k_is | k_exc | kit_is)
    (case mkk_Rule => first | k_is | k_exc | kit_is)
    (case kpc_Rule => first | k_is | k_exc | kit_is)
    (case nat_Rule_title => first | k_is | k_exc | kit_is)
    (case pg_HighRule => first | k_is | k_exc | kit_is)
    (case hd_HighRule => first | k_is | k_exc | kit_is)
    (case po_HighRule => first | k_is | k_exc | kit_is)
    (case sa_HighRule => first | k_is | k_exc | kit_is)
    (case mkk_HighRule => first | k_is | k_exc | kit_is)
    (case kpc_HighRule => first | k_is | k_exc | kit_is)
    (case nat_HighRule_title => first | k_is | k_exc | kit_is)
    (case pg_LowRule => first | k_is | k_exc | kit_is)
    (case hd_LowRule => first | k_is | k_exc | kit_is)
    (case po_LowRule => first | k_is | k_exc | kit_is)
    (case sa_LowRule => first | k_is | k_exc | kit_is)
    (case mkk_LowRule => first | k_is | k_exc | kit_is)
    (case kpc_LowRule => first | k_is | k_exc | kit_is)
    (case nat_LowRule_title => first | k_is | k_exc | kit_is)
    (case pg_NearRule => first | k_is | k_exc | kit_is)
    (case hd_NearRule => first | k_is | k_exc | kit_is)
    (case po_NearRule => first | k_is | k_exc | kit_is)
    (case sa_NearRule => first | k_is | k_exc | kit_is)
    (case mkk_NearRule => first | k_is | k_exc | kit_is)
    (case kpc_NearRule => first | k_is | k_exc | kit_is)
    (case nat_NearRule_title => first | k_is | k_exc | kit_is)
    (case pg_SplitRule => first | k_is | k_exc | kit_is)
    (case hd_SplitRule => first | k_is | k_exc | kit_is)
    (case po_SplitRule => first | k_is | k_exc | kit_is)
    (case sa_SplitRule => first | k_is | k_exc | kit_is)
    (case mkk_SplitRule => first | k_is | k_exc | kit_is)
    (case kpc_SplitRule => first | k_is | k_exc | kit_is)
    (case nat_SplitRule_title => first | k_is | k_exc | kit_is)
    (case en => first | k_is | k_exc | kit_is)
    (case et => first | k_is | k_exc | kit_is)
    (case be_NoBase => first | k_is | k_exc | kit_is)
    (case ty_NoBase => first | k_is | k_exc | kit_is)
    (case kc_NoBase => first | k_is | k_exc | kit_is)
    (case eg_NoBase => first | k_is | k_exc | kit_is)
    (case ek_NoBase => first | k_is | k_exc | kit_is)
    (case hd_NoBase => first | k_is | k_exc | kit_is)
    (case ea_NoBase => first | k_is | k_exc | kit_is)
    (case em_NoBase => first | k_is | k_exc | kit_is)
    (case ve_NoBase => first | k_is | k_exc | kit_is)
    (case xl_NoBase => first | k_is | k_exc | kit_is)
    (case sa_NoBase => first | k_is | k_exc | kit_is)
    (case tf_NoBase => first | k_is | k_exc | kit_is)
    (case no_NoBase_base => first | k_is | k_exc | kit_is)
    (case kit_NoBase_NoRule => first | k_is | k_exc | kit_is)
    (case kit_NoBase_NoBase => first | k_is | k_exc | kit_is)
    (case ns_MANY => first | k_is | k_exc | kit_is)
    (case ns_END => first | k_is | k_exc | kit_is)
    (case ns_bool => first | k_is | k_exc | kit_is)
    (case ns_dict => first | k_is | k_exc | kit_is)
    (case ns_enumerate => first | k_is | k_exc | kit_is)
    (case ns_int => first | k_is | k_exc | kit_is)
    (case ns_isinstance => first | k_is | k_exc | kit_is)
    (case ns_len => first | k_is | k_exc | kit_is)
    (case ns_list => first | k_is | k_exc | kit_is)
    (case ns_range => first | k_is | k_exc | kit_is)
    (case ns_str => first | k_is | k_exc | kit_is)
