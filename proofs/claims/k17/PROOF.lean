import PyProof.Rows.All
import Wide.All
import OpenK.AllK
import Wide.FinOn
import HandS.WordsExc
import KE.RegKIsAll
import HandS.Deep
import HandS.SetKeys
import HandS.EndTab
import KE.KNestM
import HandS.More
import HandS.ForMost
import HandS.IsInst
import HandS.Wide
import HandS.WideBits
import HandS.Style
import PyProof.Rows.BitMore
import KE.BitLaws
import PyProof.Rows.All
import Wide.All
import OpenK.AllK
import Wide.FinOn
import HandS.ForMost
import HandS.IsInst
import HandS.Wide
import HandS.WideBits
import HandS.Style
import HandS.More
import HandS.Exc
import HandS.ExcOwn
import HandS.ExcValue
import HandS.ExcIs
import HandS.ExcField
import HandS.ExcInit
import HandS.Text
import KE.KExcIs
import HandS.Finally
import PyProof.Rows.TmSorted
import PyProof.Rows.StrMeet
import HandS.SetKeys
import HandS.WordsDict
import HandS.Lambda
import HandS.SortKw
import HandS.WordsExc
import KE.SortKeyHeap
import HandS.Rev
import KE.KRevIter
import PyProof.ListNew
import PySem.Challenge.RW_joinload_k17_told_twice
set_option Elab.async false
set_option linter.all false
set_option maxRecDepth 100000
set_option maxHeartbeats 4000000
set_option maxHeartbeats 4000000
/-! Bits of whole numbers of any size: & and ^ by halves; a field put in. -/
namespace Jl
open PySem PyProof.Rows
theorem nat_and_rec (a b : Nat) : (a &&& b) = 2 * (a / 2 &&& b / 2) + (if a % 2 = 1 ∧ b % 2 = 1 then 1 else 0) := by
  have e : (a &&& b) / 2 = a / 2 &&& b / 2 := Nat.and_div_two
  have o := @Nat.and_mod_two_eq_one a b
  split <;> rename_i h
  · have := o.mpr h; omega
  · have : ¬ (a &&& b) % 2 = 1 := fun z => h (o.mp z)
    omega
theorem nat_or_rec (a b : Nat) : (a ||| b) = 2 * (a / 2 ||| b / 2) + (if a % 2 = 1 ∨ b % 2 = 1 then 1 else 0) := by
  have e : (a ||| b) / 2 = a / 2 ||| b / 2 := Nat.or_div_two
  have o := @Nat.or_mod_two_eq_one a b
  split <;> rename_i h
  · have := o.mpr h; omega
  · have : ¬ (a ||| b) % 2 = 1 := fun z => h (o.mp z)
    omega
theorem toNat_half {x : Int} (h : 0 ≤ x) : x.toNat / 2 = (x / 2).toNat := by omega
theorem not_half (x : Int) : Builtin.bitNot x / 2 = Builtin.bitNot (x / 2) := by unfold Builtin.bitNot; omega
/-- & by halves -/
theorem and_rec (x y : Int) : Builtin.bitAnd x y = 2 * Builtin.bitAnd (x / 2) (y / 2) + (if x % 2 = 1 ∧ y % 2 = 1 then 1 else 0) := by
  by_cases hx : 0 ≤ x
  · have hx' : 0 ≤ x / 2 := by omega
    by_cases hy : 0 ≤ y
    · have hy' : 0 ≤ y / 2 := by omega
      rw [bitAnd_pp hx hy, bitAnd_pp hx' hy', nat_and_rec, toNat_half hx, toNat_half hy]
      split <;> split <;> omega
    · have hy' : ¬ 0 ≤ y / 2 := by omega
      have hn : 0 ≤ Builtin.bitNot y := by unfold Builtin.bitNot; omega
      rw [bitAnd_comm x y, bitAnd_comm (x / 2), bitAnd_np hy hx, bitAnd_np hy' hx', nat_and_rec, toNat_half hx, toNat_half hn, not_half]
      have e1 : x.toNat % 2 = 1 ↔ x % 2 = 1 := by omega
      have e2 : (Builtin.bitNot y).toNat % 2 = 1 ↔ ¬ y % 2 = 1 := by unfold Builtin.bitNot at *; omega
      split <;> split <;> omega
  · have hx' : ¬ 0 ≤ x / 2 := by omega
    have hnx : 0 ≤ Builtin.bitNot x := by unfold Builtin.bitNot; omega
    have e2 : (Builtin.bitNot x).toNat % 2 = 1 ↔ ¬ x % 2 = 1 := by unfold Builtin.bitNot at *; omega
    by_cases hy : 0 ≤ y
    · have hy' : 0 ≤ y / 2 := by omega
      rw [bitAnd_np hx hy, bitAnd_np hx' hy', nat_and_rec, toNat_half hy, toNat_half hnx, not_half]
      have e1 : y.toNat % 2 = 1 ↔ y % 2 = 1 := by omega
      split <;> split <;> omega
    · have hy' : ¬ 0 ≤ y / 2 := by omega
      have hny : 0 ≤ Builtin.bitNot y := by unfold Builtin.bitNot; omega
      have e3 : (Builtin.bitNot y).toNat % 2 = 1 ↔ ¬ y % 2 = 1 := by unfold Builtin.bitNot at *; omega
      rw [bitAnd_nn hx hy, bitAnd_nn hx' hy', nat_or_rec, toNat_half hnx, toNat_half hny, not_half, not_half]
      have u : ∀ z : Int, Builtin.bitNot z = -z - 1 := fun _ => rfl
      rw [u (_ : Nat), u (_ : Nat)]
      split <;> split <;> omega
/-- ^ by halves -/
theorem xor_rec (x y : Int) : Builtin.bitXor x y = 2 * Builtin.bitXor (x / 2) (y / 2) + (x + y) % 2 := by
  rw [bitXor_and, bitXor_and, and_rec]
  split <;> omega
theorem and_two (x y : Int) (c d : Int) (hc : c = 0 ∨ c = 1) (hd : d = 0 ∨ d = 1) : Builtin.bitAnd (2 * x + c) (2 * y + d) = 2 * Builtin.bitAnd x y + c * d := by
  rw [and_rec]
  have e1 : (2 * x + c) / 2 = x := by omega
  have e2 : (2 * y + d) / 2 = y := by omega
  rw [e1, e2]
  rcases hc with rfl | rfl <;> rcases hd with rfl | rfl <;> (split <;> omega)
theorem xor_two (x y : Int) (c d : Int) (hc : c = 0 ∨ c = 1) (hd : d = 0 ∨ d = 1) : Builtin.bitXor (2 * x + c) (2 * y + d) = 2 * Builtin.bitXor x y + (c + d) % 2 := by
  rw [xor_rec]
  have e1 : (2 * x + c) / 2 = x := by omega
  have e2 : (2 * y + d) / 2 = y := by omega
  rw [e1, e2]
  omega
theorem two_pow_pos (k : Nat) : (0 : Int) < 2 ^ k := Int.pow_pos (by decide)
theorem pow_succ2 (k : Nat) : (2 : Int) ^ (k + 1) = 2 * 2 ^ k := by rw [Int.pow_succ]; omega
theorem emod_two_mul (a : Int) {m : Int} (hm : 0 < m) : a % (2 * m) = 2 * (a / 2 % m) + a % 2 := by
  have h1 : a / 2 = m * (a / 2 / m) + a / 2 % m := (Int.mul_ediv_add_emod (a / 2) m).symm
  have h2 := Int.emod_nonneg (a / 2) (show m ≠ 0 by omega)
  have h3 := Int.emod_lt_of_pos (a / 2) hm
  have h4 : a = (2 * (a / 2 % m) + a % 2) + (2 * m) * (a / 2 / m) := by
    have : (2 * m) * (a / 2 / m) = 2 * (m * (a / 2 / m)) := Int.mul_assoc ..
    omega
  have h5 : a % (2 * m) = (2 * (a / 2 % m) + a % 2) % (2 * m) := by
    conv => lhs; rw [h4]
    rw [Int.add_mul_emod_self_left]
  rw [h5, Int.emod_eq_of_lt (by omega) (by omega)]
theorem ediv_two_pow (a : Int) (k : Nat) : a / 2 ^ (k + 1) = a / 2 / 2 ^ k := by
  rw [pow_succ2, Int.ediv_ediv_of_nonneg (by decide)]
/-- x & (2 ** k - 1), x any number -/
theorem and_mask (k : Nat) : ∀ x : Int, Builtin.bitAnd x (2 ^ k - 1) = x % 2 ^ k := by
  induction k with
  | zero => intro x; show Builtin.bitAnd x 0 = x % 1; rw [bitAnd_zero]; omega
  | succ k ih =>
    intro x
    have e : (2 : Int) ^ (k + 1) - 1 = 2 * (2 ^ k - 1) + 1 := by rw [pow_succ2]; omega
    have hx : x = 2 * (x / 2) + x % 2 := by omega
    rw [e]
    conv => lhs; rw [hx]
    rw [and_two _ _ _ _ (by omega) (by omega), ih, pow_succ2, emod_two_mul _ (two_pow_pos k)]
    omega
/-- the field put in: what with_field reckons -/
theorem put_low (many : Nat) : ∀ w n : Int, Builtin.bitXor w (Builtin.bitAnd (Builtin.bitXor w n) (2 ^ many - 1)) = w - w % 2 ^ many + n % 2 ^ many := by
  induction many with
  | zero => intro w n; show Builtin.bitXor w (Builtin.bitAnd (Builtin.bitXor w n) 0) = w - w % 1 + n % 1; rw [bitAnd_zero, bitXor_zero]; omega
  | succ k ih =>
    intro w n
    have e : (2 : Int) ^ (k + 1) - 1 = 2 * (2 ^ k - 1) + 1 := by rw [pow_succ2]; omega
    have hw : w = 2 * (w / 2) + w % 2 := by omega
    have hn : n = 2 * (n / 2) + n % 2 := by omega
    have i := ih (w / 2) (n / 2)
    have q1 := emod_two_mul w (two_pow_pos k)
    have q2 := emod_two_mul n (two_pow_pos k)
    rw [e]
    conv => lhs; rw [hw, hn]
    rw [xor_two _ _ _ _ (by omega) (by omega), and_two _ _ _ _ (by omega) (by omega), xor_two _ _ _ _ (by omega) (by omega), i, pow_succ2, q1, q2]
    omega
theorem put_at (low many : Nat) : ∀ w n : Int, Builtin.bitXor w (Builtin.bitAnd (Builtin.bitXor w (n * 2 ^ low)) ((2 ^ many - 1) * 2 ^ low)) =
    w - (w / 2 ^ low % 2 ^ many) * 2 ^ low + (n % 2 ^ many) * 2 ^ low := by
  induction low with
  | zero => intro w n; simp only [Int.pow_zero, Int.mul_one, Int.ediv_one]; exact put_low many w n
  | succ k ih =>
    intro w n
    have hw : w = 2 * (w / 2) + w % 2 := by omega
    have e1 : n * 2 ^ (k + 1) = 2 * (n * 2 ^ k) + 0 := by rw [pow_succ2, Int.mul_left_comm]; omega
    have e2 : ((2 : Int) ^ many - 1) * 2 ^ (k + 1) = 2 * ((2 ^ many - 1) * 2 ^ k) + 0 := by rw [pow_succ2, Int.mul_left_comm]; omega
    have i := ih (w / 2) n
    rw [e1, e2, ediv_two_pow, pow_succ2]
    conv => lhs; rw [hw]
    rw [xor_two _ _ _ _ (by omega) (by omega), and_two _ _ _ _ (by omega) (by omega), xor_two _ _ _ _ (by omega) (by omega), i]
    rw [Int.mul_left_comm _ 2, Int.mul_left_comm _ 2]
    omega
/-- what with_field(word, low, many, number) reckons -/
def wf (w low many n : Int) : Int := w - (w / 2 ^ low.toNat % 2 ^ many.toNat) * 2 ^ low.toNat + (n % 2 ^ many.toNat) * 2 ^ low.toNat
end Jl
namespace Jl
/-- signed(number, many) -/
def sgn (n : Int) (m : Nat) : Int := (n + 2 ^ (m - 1)) % (2 ^ (m - 1) * 2) - 2 ^ (m - 1)
theorem sgn_facts (n : Int) {m : Nat} (h : 1 ≤ m) : -(2 ^ (m - 1)) ≤ sgn n m ∧ sgn n m < 2 ^ (m - 1) ∧ (n - sgn n m) % 2 ^ m = 0 := by
  obtain ⟨k, rfl⟩ : ∃ k, m = k + 1 := ⟨m - 1, by omega⟩
  have hp := two_pow_pos k
  have e : k + 1 - 1 = k := by omega
  unfold sgn
  rw [e, pow_succ2]
  have h1 := Int.emod_nonneg (n + 2 ^ k) (show (2 : Int) ^ k * 2 ≠ 0 by omega)
  have h2 := Int.emod_lt_of_pos (n + 2 ^ k) (show (0 : Int) < 2 ^ k * 2 by omega)
  refine ⟨by omega, by omega, ?_⟩
  have h3 := Int.mul_ediv_add_emod (n + 2 ^ k) (2 ^ k * 2)
  have h4 : n - ((n + 2 ^ k) % (2 ^ k * 2) - 2 ^ k) = (2 * 2 ^ k) * ((n + 2 ^ k) / (2 ^ k * 2)) := by
    have : (2 * 2 ^ k) * ((n + 2 ^ k) / (2 ^ k * 2)) = 2 ^ k * 2 * ((n + 2 ^ k) / (2 ^ k * 2)) := by rw [Int.mul_comm 2]
    omega
  rw [h4]
  exact Int.mul_emod_right _ _
end Jl
namespace Jl
theorem pow_lt {m : Nat} (h : m ≤ 99) : ((2 : Int) ^ m - 1).natAbs < 2 ^ 100 := by
  have e : ((2 : Int) ^ m) = ((2 ^ m : Nat) : Int) := by simp
  have h2 : (2 : Nat) ^ m ≤ 2 ^ 99 := Nat.pow_le_pow_right (by decide) h
  have h3 : (2 : Nat) ^ 99 < 2 ^ 100 := by decide
  have h4 : 0 < (2 : Nat) ^ m := Nat.two_pow_pos m
  rw [e]
  omega
theorem pow_lt' {m : Nat} (h : m ≤ 99) : ((2 : Int) ^ m).natAbs < 2 ^ 100 := by
  have e : ((2 : Int) ^ m) = ((2 ^ m : Nat) : Int) := by simp
  have h2 : (2 : Nat) ^ m ≤ 2 ^ 99 := Nat.pow_le_pow_right (by decide) h
  have h3 : (2 : Nat) ^ 99 < 2 ^ 100 := by decide
  rw [e, Int.natAbs_natCast]
  omega
/-- what lies within sixty figures (and some more) -/
theorem big_of {n : Int} (h : -(10 ^ 65) ≤ n) (h2 : n ≤ 10 ^ 65) : n.natAbs < 2 ^ 250 := by
  have e : (10 : Nat) ^ 65 < 2 ^ 250 := by decide
  omega
end Jl
namespace Jl
theorem half_pow {m : Nat} (h : 1 ≤ m) : (2 : Int) ^ m / 2 = 2 ^ (m - 1) := by
  obtain ⟨k, rfl⟩ : ∃ k, m = k + 1 := ⟨m - 1, by omega⟩
  rw [pow_succ2, Nat.add_sub_cancel]
  omega
end Jl
namespace Jl
theorem half_more (a : Int) (k : Nat) : a / 2 ^ k / 2 = a / 2 ^ (k + 1) := by
  rw [Int.pow_succ, Int.ediv_ediv_of_nonneg (Int.le_of_lt (two_pow_pos k))]
theorem dbl_more (k : Nat) : (2 : Int) ^ k * 2 = 2 ^ (k + 1) := by rw [Int.pow_succ]
end Jl
namespace Jl
theorem mod_bit (x : Int) : ∀ (j m : Nat), j < m → (x % 2 ^ m) / 2 ^ j % 2 = x / 2 ^ j % 2 := by
  intro j
  induction j generalizing x with
  | zero =>
    intro m h
    obtain ⟨k, rfl⟩ : ∃ k, m = k + 1 := ⟨m - 1, by omega⟩
    rw [pow_succ2, emod_two_mul _ (two_pow_pos k)]
    simp only [Int.pow_zero, Int.ediv_one]
    omega
  | succ j ih =>
    intro m h
    obtain ⟨k, rfl⟩ : ∃ k, m = k + 1 := ⟨m - 1, by omega⟩
    have e : x % 2 ^ (k + 1) / 2 = x / 2 % 2 ^ k := by
      rw [pow_succ2, emod_two_mul _ (two_pow_pos k)]
      omega
    rw [ediv_two_pow, ediv_two_pow, e]
    exact ih (x / 2) k (by omega)
theorem pow_add2 (a b : Nat) : (2 : Int) ^ (a + b) = 2 ^ a * 2 ^ b := Int.pow_add ..
theorem div_more (x : Int) (a b : Nat) : x / 2 ^ (a + b) = x / 2 ^ a / 2 ^ b := by
  rw [pow_add2, Int.ediv_ediv_of_nonneg (Int.le_of_lt (two_pow_pos a))]
def wfN (w : Int) (low many : Nat) (n : Int) : Int := w - (w / 2 ^ low % 2 ^ many) * 2 ^ low + (n % 2 ^ many) * 2 ^ low
theorem wf_parts (w : Int) (low many : Nat) (n : Int) : wfN w low many n / 2 ^ low = 2 ^ many * (w / 2 ^ low / 2 ^ many) + n % 2 ^ many ∧ wfN w low many n % 2 ^ low = w % 2 ^ low := by
  have hp := two_pow_pos low
  have e1 := Int.mul_ediv_add_emod w (2 ^ low)
  have e2 := Int.mul_ediv_add_emod (w / 2 ^ low) (2 ^ many)
  have r1 := Int.emod_nonneg w (show (2 : Int) ^ low ≠ 0 by omega)
  have r2 := Int.emod_lt_of_pos w hp
  have e3 : wfN w low many n = 2 ^ low * (2 ^ many * (w / 2 ^ low / 2 ^ many) + n % 2 ^ many) + w % 2 ^ low := by
    unfold wfN
    generalize w / 2 ^ low % 2 ^ many = f at *
    generalize w % 2 ^ low = r at *
    generalize n % 2 ^ many = g at *
    generalize w / 2 ^ low / 2 ^ many = A at *
    have e4 : 2 ^ low * (w / 2 ^ low) = 2 ^ low * (2 ^ many * A) + f * 2 ^ low := by
      rw [Int.mul_comm f, ← Int.mul_add, e2]
    have e5 : (2 : Int) ^ low * (2 ^ many * A + g) = 2 ^ low * (2 ^ many * A) + g * 2 ^ low := by
      rw [Int.mul_add, Int.mul_comm g]
    omega
  rw [e3]
  constructor
  · rw [Int.add_comm (2 ^ low * _), Int.add_mul_ediv_left _ _ (by omega), Int.ediv_eq_zero_of_lt r1 r2]
    omega
  · rw [Int.add_comm (2 ^ low * _), Int.add_mul_emod_self_left, Int.emod_eq_of_lt r1 r2]
theorem wf_field (w : Int) (low many : Nat) (n : Int) : wfN w low many n / 2 ^ low % 2 ^ many = n % 2 ^ many := by
  rw [(wf_parts w low many n).1, Int.add_comm, Int.add_mul_emod_self_left, Int.emod_emod]
theorem wf_high (w : Int) (low many : Nat) (n : Int) : wfN w low many n / 2 ^ (low + many) = w / 2 ^ (low + many) := by
  have hp := two_pow_pos many
  have r1 := Int.emod_nonneg n (show (2 : Int) ^ many ≠ 0 by omega)
  have r2 := Int.emod_lt_of_pos n hp
  rw [div_more, div_more, (wf_parts w low many n).1, Int.add_comm, Int.add_mul_ediv_left _ _ (by omega), Int.ediv_eq_zero_of_lt r1 r2]
  omega
theorem wf_bit (w : Int) (low many : Nat) (n : Int) (i : Nat) : wfN w low many n / 2 ^ i % 2 = if low ≤ i ∧ i < low + many then n / 2 ^ (i - low) % 2 else w / 2 ^ i % 2 := by
  by_cases h : i < low
  · rw [if_neg (by omega), ← mod_bit _ i low h, (wf_parts w low many n).2, mod_bit _ i low h]
  · by_cases h2 : i < low + many
    · rw [if_pos ⟨by omega, h2⟩]
      obtain ⟨j, rfl⟩ : ∃ j, i = low + j := ⟨i - low, by omega⟩
      rw [div_more, Nat.add_sub_cancel_left, ← mod_bit (wfN w low many n / 2 ^ low) j many (by omega), wf_field, mod_bit _ j many (by omega)]
    · rw [if_neg (by omega)]
      obtain ⟨j, rfl⟩ : ∃ j, i = (low + many) + j := ⟨i - (low + many), by omega⟩
      rw [div_more, wf_high, ← div_more]
/-- two numbers in a word's range, by their parts -/
theorem lt_pow_of_div {x : Int} {a b : Nat} (h0 : 0 ≤ x / 2 ^ a) (h : x / 2 ^ a < 2 ^ b) : 0 ≤ x ∧ x < 2 ^ (a + b) := by
  have hp := two_pow_pos a
  have e1 := Int.mul_ediv_add_emod x (2 ^ a)
  have r1 := Int.emod_nonneg x (show (2 : Int) ^ a ≠ 0 by omega)
  have r2 := Int.emod_lt_of_pos x hp
  have m0 := Int.mul_nonneg (Int.le_of_lt hp) h0
  have m1 : (2 : Int) ^ a * (x / 2 ^ a + 1) ≤ 2 ^ a * 2 ^ b := Int.mul_le_mul_of_nonneg_left (by omega) (Int.le_of_lt hp)
  rw [pow_add2]
  rw [Int.mul_add] at m1
  omega
theorem div_lt_pow {x : Int} {a b : Nat} (h0 : 0 ≤ x) (h : x < 2 ^ (a + b)) : 0 ≤ x / 2 ^ a ∧ x / 2 ^ a < 2 ^ b := by
  have hp := two_pow_pos a
  refine ⟨Int.ediv_nonneg h0 (Int.le_of_lt hp), ?_⟩
  refine Int.ediv_lt_of_lt_mul hp ?_
  rw [Int.mul_comm, ← pow_add2]
  exact h
theorem wf_range (w : Int) (low many k : Nat) (n : Int) (hk : low + many ≤ k) (h0 : 0 ≤ w) (h : w < 2 ^ k) : 0 ≤ wfN w low many n ∧ wfN w low many n < 2 ^ k := by
  obtain ⟨j, rfl⟩ : ∃ j, k = (low + many) + j := ⟨k - (low + many), by omega⟩
  obtain ⟨a, b⟩ := div_lt_pow h0 h
  rw [← wf_high w low many n] at a b
  exact lt_pow_of_div a b
theorem wf_is (w low many n : Int) : wf w low many n = wfN w low.toNat many.toNat n := rfl
end Jl
namespace Jl
/-- the lowest n bits, the lowest one first -/
def bitsOf (w : Int) (n : Nat) : List Int := (List.range n).map fun i => w / 2 ^ i % 2
end Jl
namespace Jl
theorem turn_bits (w : Int) (h0 : 0 ≤ w) (h1 : w < 2 ^ 32) (m : Nat) (hm : m ≤ 32) (i : Nat) (hi : i < 32) :
    ((w / 2 ^ m + w * 2 ^ (32 - m)) % 2 ^ 32) / 2 ^ i % 2 = w / 2 ^ (if i + m < 32 then i + m else i + m - 32) % 2 := by
  rw [mod_bit _ i 32 hi]
  have hp := two_pow_pos (32 - m)
  have ha : 0 ≤ w / 2 ^ m ∧ w / 2 ^ m < 2 ^ (32 - m) := div_lt_pow h0 (by rw [show m + (32 - m) = 32 by omega]; exact h1)
  by_cases h : i + m < 32
  · rw [if_pos h, ← mod_bit _ i (32 - m) (by omega), Int.mul_comm w, Int.add_mul_emod_self_left, Int.emod_eq_of_lt ha.1 ha.2, ← div_more, Nat.add_comm m]
  · rw [if_neg h]
    obtain ⟨j, rfl⟩ : ∃ j, i = (32 - m) + j := ⟨i - (32 - m), by omega⟩
    rw [div_more, Int.mul_comm w, Int.add_mul_ediv_left _ _ (by omega), Int.ediv_eq_zero_of_lt ha.1 ha.2, Int.zero_add, show 32 - m + j + m - 32 = j by omega]
theorem bitsOf_get (w : Int) {n i : Nat} (h : i < n) : (bitsOf w n)[i]? = some (w / 2 ^ i % 2) := by
  unfold bitsOf
  rw [List.getElem?_map, List.getElem?_range h]; rfl
theorem bitsOf_succ (w : Int) (n : Nat) : bitsOf w (n + 1) = bitsOf w n ++ [w / 2 ^ n % 2] := by
  unfold bitsOf
  rw [List.range_succ, List.map_append]; rfl
theorem bitsOf_len (w : Int) (n : Nat) : (bitsOf w n).length = n := by
  unfold bitsOf
  rw [List.length_map, List.length_range]
end Jl
namespace Jl
theorem f0_16 (w : Int) : w / 2 ^ (0 : Int).toNat % 2 ^ (16 : Int).toNat = w % 65536 := by
  show w / 1 % 65536 = _
  rw [Int.ediv_one]
theorem f0_7 (w : Int) : w / 2 ^ (0 : Int).toNat % 2 ^ (7 : Int).toNat = w % 128 := by
  show w / 1 % 128 = _
  rw [Int.ediv_one]
theorem f14_5 (w : Int) : w / 2 ^ (14 : Int).toNat % 2 ^ (5 : Int).toNat = w / 16384 % 32 := rfl
theorem wf_16 (w n : Int) : wf w 0 16 n = w - w % 65536 + n % 65536 := by
  show w - (w / 1 % 65536) * 1 + (n % 65536) * 1 = _
  rw [Int.ediv_one]; omega
theorem wf_19 (w n : Int) : wf w 0 19 n = w - w % 524288 + n % 524288 := by
  show w - (w / 1 % 524288) * 1 + (n % 524288) * 1 = _
  rw [Int.ediv_one]; omega
theorem wf_7 (w n : Int) : wf w 0 7 n = w - w % 128 + n % 128 := by
  show w - (w / 1 % 128) * 1 + (n % 128) * 1 = _
  rw [Int.ediv_one]; omega
theorem wf_14 (w n : Int) : wf w 14 5 n = w - w / 16384 % 32 * 16384 + n % 32 * 16384 := rfl
theorem sgn_16 (w : Int) : sgn w (16 : Int).toNat = (w + 32768) % 65536 - 32768 := rfl
theorem sgn_19 (w : Int) : sgn w (19 : Int).toNat = (w + 262144) % 524288 - 262144 := rfl
theorem sgn_12 (w : Int) : sgn w (12 : Int).toNat = (w + 2048) % 4096 - 2048 := rfl
end Jl
namespace Jl
/-- what the fill of split makes of a word -/
def sf (w y : Int) : Int := 524288 * (w / 524288) + 16384 * (y / 128 % 32) + 128 * (w / 128 % 128) + y % 128
theorem sf_is (w y : Int) : (w - w % 128 + y % 128) - (w - w % 128 + y % 128) / 16384 % 32 * 16384 + y / 128 % 32 * 16384 = sf w y := by
  unfold sf
  have h1 : (w - w % 128 + y % 128) / 16384 = w / 16384 := by omega
  have h2 : w / 16384 = 32 * (w / 524288) + w / 16384 % 32 := by omega
  have h3 : w / 128 = 128 * (w / 16384) + w / 128 % 128 := by omega
  rw [h1]
  omega
theorem sf_parts (w y : Int) : sf w y / 524288 = w / 524288 ∧ sf w y / 128 % 128 = w / 128 % 128 ∧ sf w y % 128 = y % 128 ∧ sf w y / 16384 % 32 = y / 128 % 32 := by
  have a1 := Int.emod_nonneg (y / 128) (show (32 : Int) ≠ 0 by decide)
  have a2 := Int.emod_lt_of_pos (y / 128) (show (0 : Int) < 32 by decide)
  have b1 := Int.emod_nonneg (w / 128) (show (128 : Int) ≠ 0 by decide)
  have b2 := Int.emod_lt_of_pos (w / 128) (show (0 : Int) < 128 by decide)
  have c1 := Int.emod_nonneg y (show (128 : Int) ≠ 0 by decide)
  have c2 := Int.emod_lt_of_pos y (show (0 : Int) < 128 by decide)
  unfold sf
  generalize y / 128 % 32 = a at *
  generalize w / 128 % 128 = b at *
  generalize y % 128 = c at *
  generalize w / 524288 = d at *
  refine ⟨by omega, by omega, by omega, by omega⟩
theorem sf_again (w y z : Int) : sf (sf w y) z = sf w z := by
  have h := sf_parts w y
  unfold sf at *
  omega
theorem low12 (y : Int) : y % 128 + y / 128 % 32 * 128 = y % 4096 := by omega
end Jl

/-! Steps: one lemma for each reading, to be walked from the left. -/
namespace Jl
open PySem L2
section
variable {X : Cx}
/-- a list + a list, each to be read (the script, too) -/
def rCatS (K : PySem.W.Frag) : R2 := fun x y H Q => ∃ l b xs zs, x = .ref l ∧ y = .ref b ∧ SqL K H l xs ∧ SqL K H b zs ∧ xs.length + zs.length ≤ sizeLine ∧ ∀ p, H p = none → Q (.ref p) (upd H p (.lst (xs ++ zs)))
theorem op_catS : OpR X (binaryOp .Add) (rCatS X.K) := by
  intro pins s σ H x y v u Q I rx ry h
  obtain ⟨l, b, xs, zs, rfl, rfl, hH, hB, hz, q⟩ := h
  cases rx
  cases ry
  obtain ⟨its, r, p, _⟩ := I.list hH
  obtain ⟨its2, r2, p2, _⟩ := I.list hB
  have hl := p.isList
  have hb := p2.isList
  have hsz : its.length + its2.length ≤ sizeLine := by rw [← r.length, ← r2.length]; exact hz
  obtain ⟨⟨cls, dd, data, sl⟩, ho, hc, n, hd⟩ := id hl
  obtain ⟨⟨cls2, dd2, data2, sl2⟩, ho2, hc2, n2, hd2⟩ := id hb
  simp only at hc hd hc2 hd2
  subst hc hd hc2 hd2
  have e : its.toArray ++ its2.toArray = (its ++ its2).toArray := by simp
  refine PySem.concat_meets ⟨_, ho, rfl⟩ ⟨_, ho2, rfl⟩ PySem.noFill_list_add PySem.seq_list_add PySem.F.slot_list_add PySem.F.entry_list_add (PySem.F.args_list_add_2 _ _) (PyProof.Rows.list_addW l b its.toArray its2.toArray n n2 dd dd2 sl sl2 (by simpa using hsz)) ⟨ho, ho2, ?_⟩
  rw [e]
  exact ⟨.ref _, _, I.lnew (t' := s.toks) (r.append r2) (by rw [List.length_append]; omega), rfl, q _ I.fresh⟩
end
section
variable {K : PySem.W.Frag} {σ : L2.St} {H : Hp} {Q : VK} {ta tb tc te : TE} {tt t1 t2 : TT} {tr : TA} {i j : Int} {x y v : V} {b c : Bool} {p q A B : Prop} {nx bk ct : L2.St → Hp → Prop} {rt : VK} {ts tu tw : TS} {g : Int → Int → V} {R : List V → Hp → Prop} {T : Bool → Hp → Prop} {E : XK} {sp : Sp}
theorem s_var {k : Nat} (h : σ[k]? = some (some v)) (z : Q v H) : tVar k σ H Q := ⟨v, h, z⟩
theorem s_c (z : Q v H) : tC v σ H Q := z
theorem s_op {r : R2} (z : ta σ H fun x H1 => tb σ H1 fun y H2 => r x y H2 Q) : tOp r ta tb σ H Q := z
theorem s_un {r : V → Hp → VK → Prop} (z : ta σ H fun x H1 => r x H1 Q) : tUn r ta σ H Q := z
theorem s_I0 (z : Q (g i j) H) : rI0 g (.int i) (.int j) H Q := ⟨i, j, rfl, rfl, z⟩
theorem s_I {C : Int → Int → Prop} (hc : C i j) (z : Q (g i j) H) : rI C g (.int i) (.int j) H Q := ⟨i, j, rfl, rfl, hc, z⟩
theorem s_U {f : Int → V} (z : Q (f i) H) : rU f (.int i) H Q := ⟨i, rfl, z⟩
theorem s_eqI (z : Q (.bl (decide (i = j))) H) : rEq (.int i) (.int j) H Q := ⟨rfl, by
  have e : decide (V.int i = V.int j) = decide (i = j) := by rw [Bool.eq_iff_iff]; simp
  rw [e]; exact z⟩
theorem s_neI (z : Q (.bl (!decide (i = j))) H) : rNe (.int i) (.int j) H Q := ⟨rfl, by
  have e : decide (V.int i = V.int j) = decide (i = j) := by rw [Bool.eq_iff_iff]; simp
  rw [e]; exact z⟩
theorem s_eqS {z w : Str} (k : Q (.bl (decide (z = w))) H) : rEq (.str z) (.str w) H Q := ⟨rfl, by
  have e : decide (V.str z = V.str w) = decide (z = w) := by rw [Bool.eq_iff_iff]; simp
  rw [e]; exact k⟩
theorem s_neS {z w : Str} (k : Q (.bl (!decide (z = w))) H) : rNe (.str z) (.str w) H Q := ⟨rfl, by
  have e : decide (V.str z = V.str w) = decide (z = w) := by rw [Bool.eq_iff_iff]; simp
  rw [e]; exact k⟩
theorem s_eqB (k : Q (.bl (decide (b = c))) H) : rEq (.bl b) (.bl c) H Q := ⟨rfl, by
  have e : decide (V.bl b = V.bl c) = decide (b = c) := by rw [Bool.eq_iff_iff]; simp
  rw [e]; exact k⟩
theorem s_neB (k : Q (.bl (!decide (b = c))) H) : rNe (.bl b) (.bl c) H Q := ⟨rfl, by
  have e : decide (V.bl b = V.bl c) = decide (b = c) := by rw [Bool.eq_iff_iff]; simp
  rw [e]; exact k⟩
theorem s_isB (k : Q (.bl (decide (b = c))) H) : rIsB (.bl b) (.bl c) H Q := ⟨b, c, rfl, rfl, k⟩
theorem s_notB (k : Q (.bl (!decide (b = c))) H) : rNotB (.bl b) (.bl c) H Q := ⟨b, c, rfl, rfl, k⟩
theorem s_test {t : TE} (z : t σ H fun x H' => ∃ k, x = .bl k ∧ T k H') : tTest t σ H T := z
theorem s_tB {t : TE} (z : t σ H fun x H' => ∃ k, x = .bl k ∧ T k H') : tB t σ H T := z
theorem s_chain {r r' : R2} (z : ta σ H fun x H1 => tb σ H1 fun y H2 => r x y H2 fun z H3 => ∃ k, z = .bl k ∧ (if k = true then tc σ H3 fun w' H4 => r' y w' H4 Q else Q (.bl false) H3)) : tChain r r' ta tb tc σ H Q := z
theorem s_and (z : t1 σ H fun c H1 => if c = true then t2 σ H1 T else T false H1) : tAnd t1 t2 σ H T := z
theorem s_or (z : t1 σ H fun c H1 => if c = true then T true H1 else t2 σ H1 T) : tOr t1 t2 σ H T := z
theorem s_not (z : t1 σ H fun c H1 => T (!c) H1) : tNot t1 σ H T := z
theorem s_andV (z : ta σ H fun x H1 => ∃ c, x = .bl c ∧ if c = true then tb σ H1 Q else Q (.bl false) H1) : tAndV ta tb σ H Q := z
theorem s_orV (z : ta σ H fun x H1 => ∃ c, x = .bl c ∧ if c = true then Q (.bl true) H1 else tb σ H1 Q) : tOrV ta tb σ H Q := z
theorem s_notV (z : ta σ H fun x H1 => ∃ c, x = .bl c ∧ Q (.bl (!c)) H1) : tNotV ta σ H Q := z
theorem s_ifE (z : tt σ H fun c H1 => if c = true then ta σ H1 Q else tb σ H1 Q) : tIf tt ta tb σ H Q := z
theorem s_exbl {P : Bool → Prop} (z : P b) : ∃ k, V.bl b = V.bl k ∧ P k := ⟨b, rfl, z⟩
theorem s_next (z : nx σ H) : tNext ⟨nx, rt, bk, ct⟩ σ H := z
theorem s_seq (z : ts ⟨tu ⟨nx, rt, bk, ct⟩, rt, bk, ct⟩ σ H) : tSeq ts tu ⟨nx, rt, bk, ct⟩ σ H := z
theorem s_seq_assoc (z : tSeq ts tu ⟨tw ⟨nx, rt, bk, ct⟩, rt, bk, ct⟩ σ H) : tSeq ts (tSeq tu tw) ⟨nx, rt, bk, ct⟩ σ H := z
theorem s_drop (z : te σ H fun _ H1 => nx σ H1) : tDrop te ⟨nx, rt, bk, ct⟩ σ H := z
theorem s_ret (z : te σ H rt) : tRet te ⟨nx, rt, bk, ct⟩ σ H := z
theorem s_break (z : bk σ H) : tBreak ⟨nx, rt, bk, ct⟩ σ H := z
theorem s_cont (z : ct σ H) : tCont ⟨nx, rt, bk, ct⟩ σ H := z
theorem s_ifS (z : tt σ H fun b H1 => if b = true then ts ⟨nx, rt, bk, ct⟩ σ H1 else tu ⟨nx, rt, bk, ct⟩ σ H1) : tIfS tt ts tu ⟨nx, rt, bk, ct⟩ σ H := z
theorem s_asg {gg : TG} (z : te σ H fun x H1 => gg x σ H1 nx) : tAsg te gg ⟨nx, rt, bk, ct⟩ σ H := z
theorem s_name {k : Nat} {W : L2.St → Hp → Prop} (z : W (σ.set k (some v)) H) : gName k v σ H W := z
theorem s_nil (z : R [] H) : tNil σ H R := z
theorem s_cons (z : ta σ H fun x H1 => tr σ H1 fun xs H2 => R (x :: xs) H2) : tCons ta tr σ H R := z
theorem s_call {t : TA} (z : t σ H fun vs H1 => sp vs H1 Q E) : tCall sp [] E t σ H Q := by
  have e : (fun vs H1 => sp vs H1 Q E) = (fun vs H1 => sp (vs ++ []) H1 Q E) := by
    funext vs H1
    rw [List.append_nil]
  unfold tCall
  rw [← e]
  exact z
theorem s_CB {r : List V → Hp → VK → Prop} {t : TA} (z : t σ H fun vs H1 => r vs H1 Q) : tCB r t σ H Q := z
theorem s_iteT (z : A) : if true = true then A else B := by rw [if_pos rfl]; exact z
theorem s_iteF (z : B) : if false = true then A else B := by rw [if_neg Bool.false_ne_true]; exact z
theorem s_iteD [Decidable p] (h1 : p → A) (h2 : ¬ p → B) : if decide p = true then A else B := by
  by_cases h : p
  · rw [if_pos (decide_eq_true h)]; exact h1 h
  · rw [if_neg (by rw [decide_eq_false h]; exact Bool.false_ne_true)]; exact h2 h
theorem s_iteN [Decidable p] (h1 : ¬ p → A) (h2 : p → B) : if (!decide p) = true then A else B := by
  by_cases h : p
  · rw [if_neg (by rw [decide_eq_true h]; exact Bool.false_ne_true)]; exact h2 h
  · rw [if_pos (by rw [decide_eq_false h]; rfl)]; exact h1 h
theorem s_iteNN [Decidable p] (h1 : p → A) (h2 : ¬ p → B) : if (!!decide p) = true then A else B := by rw [Bool.not_not]; exact s_iteD h1 h2
theorem s_iteNT (z : B) : if (!true) = true then A else B := by rw [if_neg (by decide)]; exact z
theorem s_iteNF (z : A) : if (!false) = true then A else B := by rw [if_pos (by decide)]; exact z
theorem s_iteB (h1 : b = true → A) (h2 : b = false → B) : if b = true then A else B := by
  cases b with
  | true => exact s_iteT (h1 rfl)
  | false => exact s_iteF (h2 rfl)
theorem s_iteNB (h1 : b = false → A) (h2 : b = true → B) : if (!b) = true then A else B := by
  cases b with
  | false => exact s_iteNF (h1 rfl)
  | true => exact s_iteNT (h2 rfl)
theorem s_isi {xs : V} {cn : String} {k : Bool} {t : Value} (ty : TyX K H xs t) (hk : PySem.W.kitOne K t (.type cn) = some k) (z : Q (.bl k) H) : rIsi K [xs, .ty cn] H Q := ⟨xs, .ty cn, t, .type cn, k, rfl, .ty cn, ty, hk, z⟩
theorem s_isi_ii (z : Q (.bl true) H) : rIsi K [.int i, .ty "int"] H Q := s_isi (.base (.int i)) (kit_ty (by decide +kernel)) z
theorem s_isi_ib (z : Q (.bl false) H) : rIsi K [.int i, .ty "bool"] H Q := s_isi (.base (.int i)) (kit_ty (by decide +kernel)) z
theorem s_isi_bb (z : Q (.bl true) H) : rIsi K [.bl b, .ty "bool"] H Q := s_isi (.base (.bl b)) (kit_ty (by decide +kernel)) z
theorem s_isi_bi (z : Q (.bl true) H) : rIsi K [.bl b, .ty "int"] H Q := s_isi (.base (.bl b)) (kit_ty (by decide +kernel)) z
theorem s_isi_ss {w : Str} (z : Q (.bl true) H) : rIsi K [.str w, .ty "str"] H Q := s_isi (.base (.str w)) (kit_ty (by decide +kernel)) z
theorem s_isN (z : Q (.bl (decide (x = .non))) H) : (fun x y H Q => y = V.non ∧ Q (.bl (decide (x = .non))) H : R2) x .non H Q := ⟨rfl, z⟩
theorem c_div (h : 0 < j) (h2 : j < 1073741824) : CDiv i j := ⟨h, h2⟩
theorem c_mulR (h : -(2 ^ 64) < j) (h2 : j < 2 ^ 64) : CMul i j := .inr ⟨h, h2⟩
theorem c_mulL (h : -(2 ^ 64) < i) (h2 : i < 2 ^ 64) : CMul i j := .inl ⟨h, h2⟩
theorem c_pow (h : 0 ≤ j) (h1 : j ≤ 1000000) (h2 : i.natAbs < 2 ^ 64) : CPow i j := ⟨h, h1, h2⟩
/-! the ends -/
theorem fin_int (z : Q (.int i) H) (e : i = j) : Q (.int j) H := by rw [← e]; exact z
theorem fin_bl (z : Q (.bl b) H) (e : b = c) : Q (.bl c) H := by rw [← e]; exact z
theorem fin_dec [Decidable p] (z : Q (.bl true) H) (h : p) : Q (.bl (decide p)) H := by rw [decide_eq_true h]; exact z
theorem fin_ndec [Decidable p] (z : Q (.bl true) H) (h : ¬ p) : Q (.bl (!decide p)) H := by rw [decide_eq_false h]; exact z
theorem dec_t (h : p) [Decidable p] : decide p = true := decide_eq_true h
theorem s_iteDt [Decidable p] (h : p) (z : A) : if decide p = true then A else B := s_iteD (fun _ => z) fun n => absurd h n
theorem s_iteDf [Decidable p] (h : ¬ p) (z : B) : if decide p = true then A else B := s_iteD (fun n => absurd n h) fun _ => z
theorem s_iteNt [Decidable p] (h : p) (z : B) : if (!decide p) = true then A else B := s_iteN (fun n => absurd h n) fun _ => z
theorem s_iteNf [Decidable p] (h : ¬ p) (z : A) : if (!decide p) = true then A else B := s_iteN (fun _ => z) fun n => absurd n h
/-- a test by itself: its outcome -/
theorem s_ifS_f (h : ∀ T : Bool → Hp → Prop, T false H → tt σ H T) (z : tu ⟨nx, rt, bk, ct⟩ σ H) : tIfS tt ts tu ⟨nx, rt, bk, ct⟩ σ H := h _ (s_iteF z)
theorem s_ifS_t (h : ∀ T : Bool → Hp → Prop, T true H → tt σ H T) (z : ts ⟨nx, rt, bk, ct⟩ σ H) : tIfS tt ts tu ⟨nx, rt, bk, ct⟩ σ H := h _ (s_iteT z)
theorem s_ifS_d (p : Prop) [Decidable p] (h : ∀ T : Bool → Hp → Prop, T (decide p) H → tt σ H T) (z1 : p → ts ⟨nx, rt, bk, ct⟩ σ H) (z2 : ¬ p → tu ⟨nx, rt, bk, ct⟩ σ H) : tIfS tt ts tu ⟨nx, rt, bk, ct⟩ σ H := h _ (s_iteD z1 z2)
/-- a shift to the left -/
theorem shl_ok (a : Nat) (h : i.natAbs < 2 ^ a) (h0 : 0 ≤ j) (hj : j ≤ 1000000) (ha : a ≤ 1000000) : CShl i j := by
  refine ⟨h0, ?_⟩
  have b : Builtin.Int.intBits i ≤ i.natAbs.log2 + 1 := by
    unfold Builtin.Int.intBits
    split <;> omega
  have h2 : i.natAbs.log2 ≤ a := by
    by_cases z : i.natAbs = 0
    · rw [z]; simp
    · have := (Nat.log2_lt z).mpr h; omega
  have e : (2 : Int) ^ 27 = 134217728 := by decide
  rw [e]
  omega
/-! lists -/
theorem s_tup {t : TA} (z : t σ H fun xs H1 => xs.length ≤ sizeLine ∧ ∀ p, H1 p = none → Q (.ref p) (upd H1 p (.tup xs))) : tTup t σ H Q := z
theorem s_lst {t : TA} (z : t σ H fun xs H1 => xs.length ≤ sizeLine ∧ ∀ p, H1 p = none → Q (.ref p) (upd H1 p (.lst xs))) : tLst t σ H Q := z
theorem s_ixL {l : Addr} {xs : List V} (h : SqL K H l xs) (ha : atI xs i = some v) (z : Q v H) : rIxL K (.ref l) (.int i) H Q := ⟨l, xs, i, v, rfl, rfl, h, ha, z⟩
theorem s_ixT {l : Addr} {xs : List V} (h : SqT K H l xs) (ha : atI xs i = some v) (z : Q v H) : rIxT K (.ref l) (.int i) H Q := ⟨l, xs, i, v, rfl, rfl, h, ha, z⟩
theorem s_len {l : Addr} {xs : List V} (h : SqL K H l xs) (z : Q (.int xs.length) H) : (fun xs H Q => ∃ p ys, xs = [V.ref p] ∧ (SqL K H p ys ∨ SqT K H p ys) ∧ Q (.int ys.length) H : List V → Hp → VK → Prop) [.ref l] H Q := ⟨l, xs, rfl, .inl h, z⟩
theorem sqU {l : Addr} {xs : List V} : SqL K (upd H l (.lst xs)) l xs := .inl (.inl upd_same)
theorem same_upd {l : Addr} {o : HO} (h : H l = none) : Same H (upd H l o) := fun b u e => by
  rw [upd_ne (ne_of_none e h)]
  exact e
/-- range(n): what holds ahead of each turn -/
theorem s_forR1 {k : Nat} {ta : TA} (n : Int) (Pv : Nat → L2.St → Hp → Prop) (ha : ∀ R : List V → Hp → Prop, R [.int n] H → ta σ H R) (hn : -(2 ^ 62) ≤ n ∧ n < 2 ^ 62) (h0 : Pv 0 σ H)
    (hs : ∀ (i : Nat) σ' H', (i : Int) < n → Pv i σ' H' → tu ⟨Pv (i + 1), rt, nx, Pv (i + 1)⟩ (σ'.set k (some (.int (i : Int)))) H') (hd : ∀ σ' H', Pv n.toNat σ' H' → nx σ' H') : tFor (iRng1 ta) (gName k) tu ⟨nx, rt, bk, ct⟩ σ H := by
  refine ha _ ⟨n, rfl, hn.1, hn.2, ?_⟩
  refine for_range (lo := 0) (n := n.toNat) Pv h0 (fun i σ' H' hi h => ?_) hd
  show tu _ (σ'.set k (some (.int ((0 : Int) + (i : Int))))) H'
  rw [Int.zero_add]
  exact hs i σ' H' (by omega) h
/-- a list of known items -/
theorem s_forL {k : Nat} {tl : TE} {a : Addr} {xs : List V} (Pv : Nat → L2.St → Hp → Prop) (H1 : Hp) (ha : ∀ R : VK, R (.ref a) H1 → tl σ H R) (hx : SqL K H1 a xs) (h0 : Pv 0 σ H1)
    (hl : ∀ i σ' H', i ≤ xs.length → Pv i σ' H' → SqL K H' a xs)
    (hs : ∀ (i : Nat) x σ' H', xs[i]? = some x → Pv i σ' H' → tu ⟨Pv (i + 1), rt, nx, Pv (i + 1)⟩ (σ'.set k (some x)) H') (hd : ∀ σ' H', Pv xs.length σ' H' → nx σ' H') : tFor (iList K tl) (gName k) tu ⟨nx, rt, bk, ct⟩ σ H := by
  refine ha _ ⟨a, rfl, ⟨xs, hx⟩, ?_⟩
  exact for_list (xs := xs) Pv h0 hl (fun i x σ' H' hi h => hs i x σ' H' hi h) hd
theorem ints_get {ns : List Int} {k : Nat} {x : V} (h : (ns.map V.int)[k]? = some x) : ∃ z, ns[k]? = some z ∧ x = .int z := by
  rw [List.getElem?_map] at h
  cases e : ns[k]? with
  | none => rw [e] at h; cases h
  | some z => rw [e] at h; exact ⟨z, rfl, (Option.some.inj h).symm⟩
theorem atI_int {ns : List Int} {i : Int} {k : Nat} {z : Int} (h : ns[k]? = some z) (e : i = k) : atI (ns.map V.int) i = some (.int z) := by
  subst e
  refine atI_nat ?_
  rw [List.getElem?_map, h]; rfl
theorem atI_any {ns : List Int} {i : Int} (h1 : -(ns.length : Int) ≤ i) (h2 : i < ns.length) : ∃ z, atI (ns.map V.int) i = some (.int z) := by
  unfold atI ixN
  rw [List.length_map]
  by_cases h : 0 ≤ i
  · rw [if_pos h, if_pos h2]
    obtain ⟨z, hz⟩ : ∃ z, ns[i.toNat]? = some z := ⟨_, List.getElem?_eq_getElem (by omega)⟩
    refine ⟨z, ?_⟩
    show (ns.map V.int)[i.toNat]? = _
    rw [List.getElem?_map, hz]; rfl
  · rw [if_neg h, if_pos h1]
    obtain ⟨z, hz⟩ : ∃ z, ns[(i + ns.length).toNat]? = some z := ⟨_, List.getElem?_eq_getElem (by omega)⟩
    refine ⟨z, ?_⟩
    show (ns.map V.int)[(i + ns.length).toNat]? = _
    rw [List.getElem?_map, hz]; rfl
theorem small63 {n m : Nat} (h : n ≤ 63) (h2 : m ≤ 100) : n + m ≤ sizeLine := Nat.le_trans (by omega : n + m ≤ 200) (by decide)
/-- for cell in [0] + script: .. -/
theorem law0 {a : Addr} {ns : List Int} (hS : SqL K H a (ns.map V.int)) (hn : ns.length ≤ 63)
    (hb : ∀ (c : Int) (N : L2.St → Hp → Prop) H1, Same H H1 → (∀ v H2, Same H1 H2 → N [some (.ref a), v] H2) → tu ⟨N, rt, nx, N⟩ [some (.ref a), some (.int c)] H1)
    (hd : ∀ v H1, Same H H1 → nx [some (.ref a), v] H1) :
    tFor (iList K (tOp (rCatS K) (tLst (tCons (tC (.int 0)) tNil)) (tVar 0))) (gName 1) tu ⟨nx, rt, bk, ct⟩ [some (.ref a), none] H := by
  show _ ∧ ∀ _, _
  refine ⟨by decide, fun p hp => ?_⟩
  refine ⟨_, rfl, p, a, [.int 0], ns.map V.int, rfl, rfl, sqU, (same_upd hp).seq hS, (by rw [List.length_map]; show 1 + ns.length ≤ _; rw [Nat.add_comm]; exact small63 hn (by decide)), fun q hq => ?_⟩
  have s1 : Same H (upd (upd H p (.lst [.int 0])) q (.lst ([.int 0] ++ ns.map V.int))) := (same_upd hp).trans (same_upd hq)
  refine ⟨q, rfl, ⟨_, sqU⟩, ?_⟩
  refine for_list (xs := [.int 0] ++ ns.map V.int) (fun i σ H' => (∃ v, σ = [some (.ref a), v]) ∧ Same (upd (upd H p (.lst [.int 0])) q (.lst ([.int 0] ++ ns.map V.int))) H') ⟨⟨_, rfl⟩, Same.refl _⟩ (fun i σ' H' _ h => h.2.seq sqU) (fun i x σ' H' hi h => ?_) (fun σ' H' h => ?_)
  · obtain ⟨⟨v, rfl⟩, s2⟩ := h
    have e : [V.int 0] ++ ns.map V.int = (0 :: ns).map V.int := rfl
    rw [e] at hi
    obtain ⟨z, _, rfl⟩ := ints_get hi
    exact hb z _ H' (s1.trans s2) fun v H2 s3 => ⟨⟨v, rfl⟩, s2.trans s3⟩
  · obtain ⟨⟨v, rfl⟩, s2⟩ := h
    exact hd v H' (s1.trans s2)
/-- cells = script + [e, ..]; for k in range(len(cells)): .. -/
theorem law1 {a : Addr} {ns ms : List Int} (hS : SqL K H a (ns.map V.int)) (hn : ns.length ≤ 63) (hm : ms.length ≤ 100) {tl : TE}
    (hl : ∀ (R : VK), (∀ p, H p = none → R (.ref p) (upd H p (.lst (ms.map V.int)))) → tl [some (.ref a), none, none] H R) {te : TE}
    (he : ∀ (p : Addr) (H1 : Hp) (R : List V → Hp → Prop), SqL K H1 p ((ns ++ ms).map V.int) → R [.int ((ns ++ ms).length : Int)] H1 → tCons te tNil [some (.ref a), some (.ref p), none] H1 R)
    (hb : ∀ (p : Addr) (c : Int) (N : L2.St → Hp → Prop) H1, Same H H1 → SqL K H1 p ((ns ++ ms).map V.int) → 0 ≤ c → c < ((ns ++ ms).length : Int) → (∀ v H2, Same H1 H2 → N [some (.ref a), some (.ref p), v] H2) → tu ⟨N, rt, nx, N⟩ [some (.ref a), some (.ref p), some (.int c)] H1)
    (hd : ∀ p v H1, Same H H1 → nx [some (.ref a), some (.ref p), v] H1) :
    tSeq (tAsg (tOp (rCatS K) (tVar 0) tl) (gName 1)) (tFor (iRng1 (tCons te tNil)) (gName 2) tu) ⟨nx, rt, bk, ct⟩ [some (.ref a), none, none] H := by
  refine s_seq (s_asg (s_op (s_var rfl (hl _ fun p hp => ?_))))
  refine ⟨a, p, ns.map V.int, ms.map V.int, rfl, rfl, (same_upd hp).seq hS, sqU, (by rw [List.length_map, List.length_map]; exact small63 hn hm), fun q hq => ?_⟩
  rw [← List.map_append]
  have s1 : Same H (upd (upd H p (.lst (ms.map V.int))) q (.lst ((ns ++ ms).map V.int))) := (same_upd hp).trans (same_upd hq)
  have hlen : (ns ++ ms).length ≤ 163 := by rw [List.length_append]; omega
  refine s_forR1 ((ns ++ ms).length : Int) (fun i σ H' => (∃ v, σ = [some (.ref a), some (.ref q), v]) ∧ Same (upd (upd H p (.lst (ms.map V.int))) q (.lst ((ns ++ ms).map V.int))) H') (fun R z => he q _ R sqU z) (by omega) ⟨⟨_, rfl⟩, Same.refl _⟩ (fun i σ' H' hi h => ?_) (fun σ' H' h => ?_)
  · obtain ⟨⟨v, rfl⟩, s2⟩ := h
    exact hb q i _ H' (s1.trans s2) (s2.seq sqU) (by omega) hi fun v H2 s3 => ⟨⟨v, rfl⟩, s2.trans s3⟩
  · obtain ⟨⟨v, rfl⟩, s2⟩ := h
    exact hd q v H' (s1.trans s2)
/-- the same, two names more -/
theorem law1x {a : Addr} {ns ms : List Int} (hS : SqL K H a (ns.map V.int)) (hn : ns.length ≤ 63) (hm : ms.length ≤ 100) {tl : TE}
    (hl : ∀ (R : VK), (∀ p, H p = none → R (.ref p) (upd H p (.lst (ms.map V.int)))) → tl [some (.ref a), none, none, none, none] H R) {te : TE}
    (he : ∀ (p : Addr) (H1 : Hp) (R : List V → Hp → Prop), SqL K H1 p ((ns ++ ms).map V.int) → R [.int ((ns ++ ms).length : Int)] H1 → tCons te tNil [some (.ref a), some (.ref p), none, none, none] H1 R)
    (hb : ∀ (p : Addr) (c : Int) (v1 v2 : Option V) (N : L2.St → Hp → Prop) H1, Same H H1 → SqL K H1 p ((ns ++ ms).map V.int) → 0 ≤ c → c < ((ns ++ ms).length : Int) → (∀ v v1 v2 H2, Same H1 H2 → N [some (.ref a), some (.ref p), v, v1, v2] H2) → tu ⟨N, rt, nx, N⟩ [some (.ref a), some (.ref p), some (.int c), v1, v2] H1)
    (hd : ∀ p v v1 v2 H1, Same H H1 → nx [some (.ref a), some (.ref p), v, v1, v2] H1) :
    tSeq (tAsg (tOp (rCatS K) (tVar 0) tl) (gName 1)) (tFor (iRng1 (tCons te tNil)) (gName 2) tu) ⟨nx, rt, bk, ct⟩ [some (.ref a), none, none, none, none] H := by
  refine s_seq (s_asg (s_op (s_var rfl (hl _ fun p hp => ?_))))
  refine ⟨a, p, ns.map V.int, ms.map V.int, rfl, rfl, (same_upd hp).seq hS, sqU, (by rw [List.length_map, List.length_map]; exact small63 hn hm), fun q hq => ?_⟩
  rw [← List.map_append]
  have s1 : Same H (upd (upd H p (.lst (ms.map V.int))) q (.lst ((ns ++ ms).map V.int))) := (same_upd hp).trans (same_upd hq)
  have hlen : (ns ++ ms).length ≤ 163 := by rw [List.length_append]; omega
  refine s_forR1 ((ns ++ ms).length : Int) (fun i σ H' => (∃ v v1 v2, σ = [some (.ref a), some (.ref q), v, v1, v2]) ∧ Same (upd (upd H p (.lst (ms.map V.int))) q (.lst ((ns ++ ms).map V.int))) H') (fun R z => he q _ R sqU z) (by omega) ⟨⟨_, _, _, rfl⟩, Same.refl _⟩ (fun i σ' H' hi h => ?_) (fun σ' H' h => ?_)
  · obtain ⟨⟨v, v1, v2, rfl⟩, s2⟩ := h
    exact hb q i v1 v2 _ H' (s1.trans s2) (s2.seq sqU) (by omega) hi fun v v1 v2 H2 s3 => ⟨⟨v, v1, v2, rfl⟩, s2.trans s3⟩
  · obtain ⟨⟨v, v1, v2, rfl⟩, s2⟩ := h
    exact hd q v v1 v2 H' (s1.trans s2)
/-- if p: x = e, x being an int: one way -/
theorem s_ifAsgI {k : Nat} (a b : Int) {p : Prop} [Decidable p] (ht : ∀ T : Bool → Hp → Prop, T (decide p) H → tt σ H T) (he : p → ∀ R : VK, R (.int b) H → te σ H R) (hσ : σ[k]? = some (some (.int a)))
    (z : nx (σ.set k (some (.int (if p then b else a)))) H) : tIfS tt (tAsg te (gName k)) tNext ⟨nx, rt, bk, ct⟩ σ H := by
  refine ht _ (s_iteD (fun h => he h _ ?_) (fun h => ?_))
  · rw [if_pos h] at z; exact z
  · rw [if_neg h] at z
    have e : σ.set k (some (.int a)) = σ := by
      obtain ⟨h1, h2⟩ := List.getElem?_eq_some_iff.mp hσ
      rw [← h2]; exact List.set_getElem_self h1
    rw [e] at z
    exact z
theorem s_iteAsgI {k : Nat} (a b : Int) {p : Prop} [Decidable p] (he : p → ∀ R : VK, R (.int b) H → te σ H R) (hσ : σ[k]? = some (some (.int a)))
    (z : nx (σ.set k (some (.int (if p then b else a)))) H) : if decide p = true then tAsg te (gName k) ⟨nx, rt, bk, ct⟩ σ H else tNext ⟨nx, rt, bk, ct⟩ σ H :=
  s_ifAsgI (tt := fun _ H T => T (decide p) H) (bk := bk) (ct := ct) (rt := rt) a b (fun _ h => h) he hσ z
theorem s_iteAsgV {k : Nat} (a b : V) {p : Prop} [Decidable p] (he : p → ∀ R : VK, R b H → te σ H R) (hσ : σ[k]? = some (some a))
    (z : nx (σ.set k (some (if p then b else a))) H) : if decide p = true then tAsg te (gName k) ⟨nx, rt, bk, ct⟩ σ H else tNext ⟨nx, rt, bk, ct⟩ σ H := by
  refine s_iteD (fun h => he h _ ?_) (fun h => ?_)
  · rw [if_pos h] at z; exact z
  · rw [if_neg h] at z
    have e : σ.set k (some a) = σ := by
      obtain ⟨h1, h2⟩ := List.getElem?_eq_some_iff.mp hσ
      rw [← h2]; exact List.set_getElem_self h1
    rw [e] at z
    exact z
theorem ite_str (p : Prop) [Decidable p] (a b : Str) : (if p then V.str a else V.str b) = V.str (if p then a else b) := by split <;> rfl
end
end Jl

/-! Steps over lists: append, comprehensions over a range, equality of lists. -/
namespace Jl
open PySem L2
section
variable {K : PySem.W.Frag} {σ : L2.St} {H H' : Hp} {Q : VK} {ta tb tc te to : TE} {tr : TA} {i j : Int} {x y v : V} {a p : Addr} {xs ys : List V}
theorem sameT (e : Same H H') (h : SqT K H a xs) : SqT K H' a xs := by
  rcases h with (h | ⟨o, h⟩) | h
  · exact .inl (.inl (e _ _ h))
  · exact .inl (.inr ⟨o, e _ _ h⟩)
  · exact .inr h
mutual
theorem dp_same (e : Same H H') : ∀ {v : V} {d : PyData}, Dp K H v d → Dp K H' v d
  | _, _, .non => .non
  | _, _, .bl b => .bl b
  | _, _, .int i => .int i
  | _, _, .str x => .str x
  | _, _, .lst h hs => .lst (e.seq h) (dps_same e hs)
  | _, _, .tup h hs => .tup (sameT e h) (dps_same e hs)
theorem dps_same (e : Same H H') : ∀ {vs : List V} {ds : List PyData}, DpAll K H vs ds → DpAll K H' vs ds
  | _, _, .nil => .nil
  | _, _, .cons h hs => .cons (dp_same e h) (dps_same e hs)
end
theorem dp_ints : ∀ ns : List Int, DpAll K H (ns.map V.int) (ns.map PyData.int)
  | [] => .nil
  | n :: ns => .cons (.int n) (dp_ints ns)
theorem dp_intL {ns : List Int} (h : SqL K H a (ns.map V.int)) : Dp K H (.ref a) (.list (ns.map PyData.int)) := .lst h (dp_ints ns)
theorem lay_ints : ∀ ns : List Int, PyData.canLayAll0 (ns.map PyData.int) = true
  | [] => rfl
  | n :: ns => by show (true && PyData.canLayAll0 (ns.map PyData.int)) = true; rw [lay_ints ns]; rfl
theorem depth_ints : ∀ ns : List Int, PyData.depthAll (ns.map PyData.int) ≤ 1
  | [] => by show (0 : Nat) ≤ 1; decide
  | n :: ns => by
    have h := depth_ints ns
    show max (PyData.depth (.int n)) (PyData.depthAll (ns.map PyData.int)) ≤ 1
    have e : PyData.depth (.int n) = 0 := by unfold PyData.depth; rfl
    omega
theorem shaped_ints (ns : List Int) : SeqAt.shaped (.list (ns.map PyData.int)) = true := by
  have h := depth_ints ns
  refine Bool.and_eq_true_iff.mpr ⟨lay_ints ns, decide_eq_true ?_⟩
  show PyData.depthAll (ns.map PyData.int) + 1 ≤ 64
  omega
theorem eqv_ints : ∀ ns ms : List Int, PyData.eqvAll (ns.map PyData.int) (ms.map PyData.int) = decide (ns = ms)
  | [], [] => rfl
  | [], _ :: _ => rfl
  | _ :: _, [] => rfl
  | n :: ns, m :: ms => by
    show ((n == m) && PyData.eqvAll (ns.map PyData.int) (ms.map PyData.int)) = _
    rw [eqv_ints ns ms, Bool.eq_iff_iff]
    simp
theorem s_eqInts {p q : Addr} {ns ms : List Int} (h1 : SqL K H p (ns.map V.int)) (h2 : SqL K H q (ms.map V.int)) (z : Q (.bl (decide (ns = ms))) H) : rEqD K (.ref p) (.ref q) H Q :=
  ⟨_, _, dp_intL h1, dp_intL h2, shaped_ints ns, shaped_ints ms, by
    show Q (.bl (PyData.eqvAll (ns.map PyData.int) (ms.map PyData.int))) H
    rw [eqv_ints]; exact z⟩
theorem s_BM {T : String} {r : V → List V → Hp → VK → Prop} {t : TA} (z : to σ H fun x H1 => tyV K T x H1 ∧ t σ H1 fun xs H2 => r x xs H2 Q) : tBM K T r to t σ H Q := z
theorem ty_list (h : SqL K H p xs) : tyV K "list" (.ref p) H := .inl ⟨rfl, _, h⟩
theorem s_tyL {B : Prop} (h : H p = some (.lst xs)) (z : B) : tyV K "list" (.ref p) H ∧ B := ⟨ty_list (.inl (.inl h)), z⟩
theorem s_append (h : H p = some (.lst xs)) (z : Q .non (upd H p (.lst (xs ++ [v])))) (hl : xs.length < sizeLine) : rAppend (.ref p) [v] H Q := ⟨p, xs, v, rfl, rfl, h, hl, z⟩
/-- what H0 knew stands, when an object that it did not know is written -/
theorem same_mut {H0 : Hp} {o : HO} (e : Same H0 H) (h : H0 p = none) : Same H0 (upd H p o) := fun b u hb => by
  rw [upd_ne (ne_of_none hb h)]
  exact e b u hb
theorem small5 {n : Nat} (h : n ≤ 100000) : n ≤ sizeLine := Nat.le_trans h (by decide)
theorem small5' {n : Nat} (h : n ≤ 100000) : n < sizeLine := Nat.lt_of_le_of_lt h (by decide)
/-- [e for i in range(n)] -/
theorem s_lcR {t : TA} {k : Nat} {vs : List Nat} (n : Int) (f : Nat → V) (ha : ∀ R : List V → Hp → Prop, R [.int n] H → t σ H R) (hn : 0 ≤ n ∧ n ≤ 100000) (hw : ∀ x, wipe ((wipe σ vs).set k (some x)) vs = wipe σ vs)
    (he : ∀ (i : Nat) H1 (R : VK), Same H H1 → (i : Int) < n → (∀ H2, Same H1 H2 → R (f i) H2) → te ((wipe σ vs).set k (some (.int (i : Int)))) H1 R)
    (z : ∀ p H1, Same H H1 → H p = none → H1 p = some (.lst ((List.range n.toNat).map f)) → Q (.ref p) H1) : tLc (iRng1 t) (gName k) tYes te vs σ H Q := by
  refine ha _ ⟨n, rfl, by omega, by omega, fun D hD => ?_⟩
  refine lc_range (lo := 0) (n := n.toNat) (fun i H' => Same H H' ∧ H' D = some (.lst ((List.range i).map f))) ⟨same_upd hD, upd_same⟩ (fun i H1 hi h => ?_) (fun H1 h => z D H1 h.1 hD h.2)
  obtain ⟨s1, h1⟩ := h
  have e0 : (0 : Int) + (i : Int) = (i : Int) := Int.zero_add _
  show wipe ((wipe σ vs).set k (some (.int ((0 : Int) + (i : Int))))) vs = wipe σ vs ∧ te ((wipe σ vs).set k (some (.int ((0 : Int) + (i : Int))))) H1 _
  rw [e0]
  refine ⟨hw _, he i H1 _ s1 (by omega) fun H2 s2 => ⟨_, s2 D _ h1, small5' (by rw [List.length_map, List.length_range]; omega), same_mut (s1.trans s2) hD, ?_⟩⟩
  rw [upd_same, List.range_succ, List.map_append]
  rfl
theorem bitsOf_atI (w : Int) {i : Int} (h0 : 0 ≤ i) (h : i < 32) : atI ((bitsOf w 32).map V.int) i = some (.int (w / 2 ^ i.toNat % 2)) :=
  atI_int (bitsOf_get w (by omega)) (by omega)
/-! objects -/
theorem s_make {C : Addr} {sp : Sp} {E : XK} {t : TA} (z : t σ H fun vs H1 => ∀ x dx, H1 x = none → H1 dx = none → dx ≠ x → sp (.ref x :: vs) (upd (upd H1 dx (.own x)) x (.ins C dx [])) (fun v H2 => v = .non ∧ Q (.ref x) H2) E) : tMake C sp [] E t σ H Q := by
  have e : (fun vs H1 => ∀ x dx, H1 x = none → H1 dx = none → dx ≠ x → sp (.ref x :: vs) (upd (upd H1 dx (.own x)) x (.ins C dx [])) (fun v H2 => v = .non ∧ Q (.ref x) H2) E) = (fun vs H1 => ∀ x dx, H1 x = none → H1 dx = none → dx ≠ x → sp (.ref x :: (vs ++ [])) (upd (upd H1 dx (.own x)) x (.ins C dx [])) (fun v H2 => v = .non ∧ Q (.ref x) H2) E) := by
    funext vs H1
    rw [List.append_nil]
  unfold tMake
  rw [← e]
  exact z
theorem same_made {x dx C : Addr} {o : HO} (nx : H x = none) (nd : H dx = none) : Same H (upd (upd (upd H dx (.own x)) x (.ins C dx [])) x o) := fun b u e => by
  rw [upd_ne (ne_of_none e nx), upd_ne (ne_of_none e nx), upd_ne (ne_of_none e nd)]
  exact e
/-- an object with a title -/
def RuleAt (H : Hp) (p C : Addr) (t : Str) : Prop := ∃ dx, H p = some (.ins C dx (putF "title" (.str t) []))
theorem RuleAt.same {C : Addr} {t : Str} (e : Same H H') (h : RuleAt H p C t) : RuleAt H' p C t := by
  obtain ⟨dx, h⟩ := h
  exact ⟨dx, e _ _ h⟩
theorem s_meth {C : Addr} {m t : Str} {sp : Sp} {E : XK} (hR : RuleAt H p C t) (hv : ∀ R : VK, R (.ref p) H → ta σ H R) (hm : ¬ m = "title") (z : tr σ H fun vs H2 => sp (.ref p :: vs) H2 Q E) : tMeth C m sp [] E ta tr σ H Q := by
  obtain ⟨dx, h⟩ := hR
  refine hv _ ⟨p, dx, _, rfl, h, (by rw [lookup_putF, if_neg hm]; rfl), ?_⟩
  have e : (fun vs H2 => sp (.ref p :: vs) H2 Q E) = (fun vs H2 => sp (.ref p :: (vs ++ [])) H2 Q E) := by
    funext vs H1
    rw [List.append_nil]
  rw [← e]
  exact z
/-! an if at which the walk stops: its ways joined -/
def tIfK (c : TT) (t u : TS) : TS := tIfS c t u
theorem s_ifKw {k : Nat} {nx bk ct : L2.St → Hp → Prop} {rt : VK} {tt : TT} {P : Prop} (a0 : V) (M : V → Hp → Prop) (hσ : σ[k]? = some (some a0)) (ht : ∀ T : Bool → Hp → Prop, (P → T true H) → (¬ P → T false H) → tt σ H T)
    (h1 : P → ∀ R : VK, (∀ v H', M v H' → R v H') → te σ H R) (h2 : ¬ P → M a0 H) (z : ∀ v H', M v H' → nx (σ.set k (some v)) H') : tIfK tt (tAsg te (gName k)) tNext ⟨nx, rt, bk, ct⟩ σ H := by
  refine ht _ (fun hp => ?_) (fun hp => ?_)
  · exact s_iteT (h1 hp _ fun v H' hm => z v H' hm)
  · refine s_iteF ?_
    have q := z a0 H (h2 hp)
    have e : σ.set k (some a0) = σ := by
      obtain ⟨h1, h2⟩ := List.getElem?_eq_some_iff.mp hσ
      rw [← h2]; exact List.set_getElem_self h1
    rw [e] at q
    exact q
/-- the same, the ways being statements: what holds behind -/
theorem s_ifKs {nx bk ct : L2.St → Hp → Prop} {rt : VK} {tt : TT} {ts tu : TS} {P : Prop} (M : L2.St → Hp → Prop) (ht : ∀ T : Bool → Hp → Prop, (P → T true H) → (¬ P → T false H) → tt σ H T)
    (h1 : P → ∀ N : L2.St → Hp → Prop, (∀ σ' H', M σ' H' → N σ' H') → ts ⟨N, rt, bk, ct⟩ σ H) (h2 : ¬ P → ∀ N : L2.St → Hp → Prop, (∀ σ' H', M σ' H' → N σ' H') → tu ⟨N, rt, bk, ct⟩ σ H) (z : ∀ σ' H', M σ' H' → nx σ' H') : tIfK tt ts tu ⟨nx, rt, bk, ct⟩ σ H := by
  refine ht _ (fun hp => ?_) (fun hp => ?_)
  · exact s_iteT (h1 hp _ z)
  · exact s_iteF (h2 hp _ z)
end
theorem ps_ifK {X : Cx} {c : Expr} {a b : List Stmt} {tc : TT} {t u : TS} {pos : Pos} (hc : PT X c tc) (ha : PSs X a t) (hb : PSs X b u) : PS X (.If c a b pos) (tIfK tc t u) := ps_if hc ha hb
end Jl

/-! Steps over texts. -/
namespace Jl
open PySem L2
def rAddS : R2 := fun x y H Q => ∃ i j, x = .str i ∧ y = .str j ∧ i.length + j.length ≤ sizeLine ∧ Q (.str (i ++ j)) H
def rInS : R2 := fun x y H Q => ∃ (c : Nat) (z : Str), x = .str ⟨#[c]⟩ ∧ y = .str z ∧ Q (.bl (decide (c ∈ z.cps.toList))) H
def rNotInS : R2 := fun x y H Q => ∃ (c : Nat) (z : Str), x = .str ⟨#[c]⟩ ∧ y = .str z ∧ Q (.bl (!decide (c ∈ z.cps.toList))) H
def rIsN : R2 := fun x y H Q => y = .non ∧ Q (.bl (decide (x = .non))) H
def rNotN : R2 := fun x y H Q => y = .non ∧ Q (.bl (!decide (x = .non))) H
def rLenS : List V → Hp → VK → Prop := fun xs H Q => ∃ z, xs = [.str z] ∧ z.length ≤ sizeLine ∧ Q (.int z.length) H
def rLenL (K : PySem.W.Frag) : List V → Hp → VK → Prop := fun xs H Q => ∃ p ys, xs = [.ref p] ∧ (SqL K H p ys ∨ SqT K H p ys) ∧ Q (.int ys.length) H
def rMax2 : List V → Hp → VK → Prop := fun xs H Q => ∃ i j, xs = [.int i, .int j] ∧ Q (.int (if j > i then j else i)) H
def rMin2 : List V → Hp → VK → Prop := fun xs H Q => ∃ i j, xs = [.int i, .int j] ∧ Q (.int (if j < i then j else i)) H
def rInt1 : List V → Hp → VK → Prop := fun xs H Q => (∃ i, xs = [.int i] ∧ Q (.int i) H) ∨ ∃ k, xs = [.bl k] ∧ Q (.int (if k then 1 else 0)) H
def rIntS : List V → Hp → VK → Prop := fun xs H Q => ∃ a n, xs = [.str a] ∧ PySem.intText? a = some n ∧ a.length ≤ 640 ∧ Q (.int n) H
def rStrI : List V → Hp → VK → Prop := fun xs H Q => ∃ i, xs = [.int i] ∧ i.natAbs.log2 < 1920 ∧ Q (.str (toString i)) H
section
variable {X : Cx}
theorem op_addS : OpR X (binaryOp .Add) rAddS := op_add_str
theorem op_inS : OpR X (compareOp .In) rInS := op_in_sign
theorem op_notInS : OpR X (compareOp .NotIn) rNotInS := op_notIn_sign
theorem op_isN1 : OpR X (compareOp .Is) rIsN := op_isN
theorem op_notN1 : OpR X (compareOp .IsNot) rNotN := op_notN
theorem cl_lenS : CallR X (.builtin "len") rLenS := call_len_str
theorem cl_lenL : CallR X (.builtin "len") (rLenL X.K) := call_len_seq
theorem cl_max2 (hc : X.calm = true) : CallR X (.builtin "max") rMax2 := call_max2 hc
theorem cl_min2 (hc : X.calm = true) : CallR X (.builtin "min") rMin2 := call_min2 hc
theorem cl_int1 : CallR X (.type "int") rInt1 := call_int1
theorem cl_intS : CallR X (.type "int") rIntS := call_int_str
theorem cl_strI : CallR X (.type "str") rStrI := call_str_int
end
section
variable {K : PySem.W.Frag} {σ : L2.St} {H H' : Hp} {Q : VK} {ta tb tc te to : TE} {tr : TA} {i j : Int} {x y v : V} {a p : Addr} {xs ys : List V} {z w : Str} {c : Nat} {b : Bool} {nx bk ct : L2.St → Hp → Prop} {rt : VK} {tu : TS} {tl th : TO} {RO : Option Int → Hp → Prop}
theorem s_addS (k : Q (.str (z ++ w)) H) (h : z.length + w.length ≤ 100000) : rAddS (.str z) (.str w) H Q := ⟨z, w, rfl, rfl, small5 h, k⟩
theorem s_inS (k : Q (.bl (decide (c ∈ w.cps.toList))) H) : rInS (.str ⟨#[c]⟩) (.str w) H Q := ⟨c, w, rfl, rfl, k⟩
theorem s_notInS (k : Q (.bl (!decide (c ∈ w.cps.toList))) H) : rNotInS (.str ⟨#[c]⟩) (.str w) H Q := ⟨c, w, rfl, rfl, k⟩
theorem s_isNn (k : Q (.bl true) H) : rIsN .non .non H Q := ⟨rfl, k⟩
theorem s_isNi (k : Q (.bl false) H) : rIsN (.int i) .non H Q := ⟨rfl, k⟩
theorem s_isNs (k : Q (.bl false) H) : rIsN (.str z) .non H Q := ⟨rfl, k⟩
theorem s_isNr (k : Q (.bl false) H) : rIsN (.ref a) .non H Q := ⟨rfl, k⟩
theorem s_notNn (k : Q (.bl false) H) : rNotN .non .non H Q := ⟨rfl, k⟩
theorem s_notNi (k : Q (.bl true) H) : rNotN (.int i) .non H Q := ⟨rfl, k⟩
theorem s_notNs (k : Q (.bl true) H) : rNotN (.str z) .non H Q := ⟨rfl, k⟩
theorem s_notNr (k : Q (.bl true) H) : rNotN (.ref a) .non H Q := ⟨rfl, k⟩
theorem s_lenS (k : Q (.int (z.length : Int)) H) (h : z.length ≤ 100000) : rLenS [.str z] H Q := ⟨z, rfl, small5 h, k⟩
theorem s_lenL (h : SqL K H p xs) (k : Q (.int (xs.length : Int)) H) : rLenL K [.ref p] H Q := ⟨p, xs, rfl, .inl h, k⟩
theorem s_max2 (k : Q (.int (max i j)) H) : rMax2 [.int i, .int j] H Q := ⟨i, j, rfl, by
  have e : (if j > i then j else i) = max i j := by split <;> omega
  rw [e]; exact k⟩
theorem s_min2 (k : Q (.int (min i j)) H) : rMin2 [.int i, .int j] H Q := ⟨i, j, rfl, by
  have e : (if j < i then j else i) = min i j := by split <;> omega
  rw [e]; exact k⟩
theorem s_int1 (k : Q (.int i) H) : rInt1 [.int i] H Q := .inl ⟨i, rfl, k⟩
theorem s_int1b (k : Q (.int (if b = true then 1 else 0)) H) : rInt1 [.bl b] H Q := .inr ⟨b, rfl, k⟩
theorem s_ixS (h : atI z.cps.toList i = some c) (k : Q (.str ⟨#[c]⟩) H) (hz : z.length ≤ 100000) : rIxS (.str z) (.int i) H Q := ⟨z, i, c, rfl, rfl, small5 hz, h, k⟩
theorem s_sl {r : V → Option Int → Option Int → Hp → VK → Prop} (k : te σ H fun x H1 => tl σ H1 fun l H2 => th σ H2 fun u H3 => r x l u H3 Q) : tSl r te tl th σ H Q := k
theorem s_noP (k : RO none H) : tNoPart σ H RO := k
theorem s_part (k : te σ H fun x H1 => ∃ i, x = .int i ∧ RO (some i) H1) : tPart te σ H RO := k
theorem s_exi {R : Int → Prop} (k : R i) : ∃ j, V.int i = V.int j ∧ R j := ⟨i, rfl, k⟩
theorem s_slS {lo hi : Option Int} (k : Q (.str (cutS z lo hi)) H) (h : z.length ≤ 100000) : rSlS (.str z) lo hi H Q := ⟨z, rfl, small5 h, k⟩
/-- for c in z -/
theorem s_forS {n : Nat} (Pv : Nat → L2.St → Hp → Prop) (ha : ∀ R : VK, R (.str z) H → te σ H R) (h0 : Pv 0 σ H)
    (hs : ∀ (i : Nat) (c : Nat) σ' H', z.cps.toList[i]? = some c → Pv i σ' H' → tu ⟨Pv (i + 1), rt, nx, Pv (i + 1)⟩ (σ'.set n (some (.str ⟨#[c]⟩))) H') (hd : ∀ σ' H', Pv z.length σ' H' → nx σ' H') : tFor (iStr te) (gName n) tu ⟨nx, rt, bk, ct⟩ σ H := by
  refine ha _ ⟨z, rfl, ?_⟩
  refine ⟨fun i m σ H => m = z.length - i ∧ i ≤ z.length ∧ Pv i σ H, ⟨z.length, by simp, Nat.zero_le _, h0⟩, ?_⟩
  rintro i m σ' H1 ⟨rfl, hi, q⟩
  by_cases hlt : i < z.length
  · refine .inr ⟨hlt, Pv (i + 1), fun σ2 H2 q' => ⟨z.length - (i + 1), by omega, rfl, hlt, q'⟩, fun x H2 y => ?_⟩
    obtain ⟨e, c, hc, rfl⟩ := y
    subst e
    exact hs i c σ' _ (by rw [Array.getElem?_toList]; exact hc) q
  · have e : i = z.length := by omega
    subst e
    exact .inl ⟨Nat.le_refl _, hd σ' H1 q⟩
theorem len_app (z w : Str) : (z ++ w).length = z.length + w.length := PySem.Str.length_append z w
theorem cps_app (z w : Str) : (z ++ w).cps.toList = z.cps.toList ++ w.cps.toList := by
  have e : (z ++ w).cps = z.cps ++ w.cps := rfl
  rw [e, Array.toList_append]
theorem len_one (c : Nat) : (⟨#[c]⟩ : Str).length = 1 := rfl
theorem len_cut (z : Str) (lo hi : Option Int) : (cutS z lo hi).length ≤ z.length := cutS_length z lo hi
theorem len_list (z : Str) : z.cps.toList.length = z.length := Array.length_toList
theorem str_ext {z w : Str} (h : z.cps.toList = w.cps.toList) : z = w := by
  obtain ⟨a⟩ := z
  obtain ⟨b⟩ := w
  have e : a = b := Array.toList_inj.mp h
  rw [e]
theorem atI_some {α : Type} {l : List α} {i : Int} (h1 : -(l.length : Int) ≤ i) (h2 : i < l.length) : ∃ z, atI l i = some z := by
  unfold atI ixN
  by_cases h : 0 ≤ i
  · rw [if_pos h, if_pos h2]
    exact ⟨_, List.getElem?_eq_getElem (by omega)⟩
  · rw [if_neg h, if_pos h1]
    exact ⟨_, List.getElem?_eq_getElem (by omega)⟩
theorem atI_of0 {α : Type} {l : List α} {x : α} (h : l[0]? = some x) : atI l 0 = some x := atI_nat h
theorem one_eq {c d : Nat} : ((⟨#[c]⟩ : Str) = ⟨#[d]⟩) ↔ c = d := by
  constructor
  · intro h
    have e := congrArg (fun z : Str => z.cps.toList) h
    simpa using e
  · rintro rfl; rfl
theorem all_false {α : Type} {l : List α} {f : α → Bool} {i : Nat} {x : α} (h : l[i]? = some x) (hf : f x = false) : l.all f = false := by
  rw [List.all_eq_false]
  exact ⟨x, List.mem_of_getElem? h, by rw [hf]; decide⟩
theorem all_true {α : Type} {l : List α} {f : α → Bool} (h : ∀ (i : Nat) x, l[i]? = some x → f x = true) : l.all f = true := by
  rw [List.all_eq_true]
  intro x hx
  obtain ⟨i, hi⟩ := List.getElem?_of_mem hx
  exact h i x hi
end
end Jl

/-! The machine over words: what it is, what a step makes of it; steps over objects, tuples, dicts. -/
namespace Jl
open PySem L2
def opI (w : Int) : Int := w / 268435456 % 16
def fA (w : Int) : Int := w / 33554432 % 8
def fB (w : Int) : Int := w / 4194304 % 8
def fC (w : Int) : Int := w / 524288 % 8
def fN (w : Int) : Int := w % 65536
def nearI (w : Int) : Int := (w + 262144) % 524288 - 262144
def splitI (w : Int) : Int := (w % 128 + 128 * (w / 16384 % 32) + 2048) % 4096 - 2048
def s16 (n : Int) : Int := (n + 32768) % 65536 - 32768
def turnI (w b : Int) : Int := (w / 2 ^ (b % 32).toNat + w * 2 ^ (32 - (b % 32).toNat)) % 4294967296
def reckI (op l r n : Int) : Int :=
  if op = 2 then n else if op = 3 then 65536 * n else if op = 4 then (l + s16 n) % 4294967296 else if op = 7 then (l + r) % 4294967296
  else if op = 8 then (l - r) % 4294967296 else if op = 9 then Builtin.bitAnd l r else if op = 10 then Builtin.bitXor l r else turnI l r
def reg (l : List Int) (i : Int) : Int := l.getD i.toNat 0
structure MSt where
  mem : Int → Option Int
  spot : Int
  regs : List Int
  outs : List Int
  fin : Bool
def thereI (s : MSt) (w : Int) : Int := (reg s.regs (fB w) + s16 (fN w)) % 4294967296
def nextI (s : MSt) : Int := (s.spot + 1) % 4294967296
def goneI (s : MSt) (w : Int) : Int :=
  if opI w = 15 then reg s.regs (fA w) else if opI w = 14 then (s.spot + 1 + nearI w) % 4294967296
  else if (opI w = 12 ∧ reg s.regs (fA w) = reg s.regs (fB w)) ∨ (opI w = 13 ∧ reg s.regs (fA w) < reg s.regs (fB w)) then (s.spot + 1 + splitI w) % 4294967296 else nextI s
def memPut (f : Int → Option Int) (a w : Int) : Int → Option Int := fun x => if x = a then some w else f x
def stepI (s : MSt) (w : Int) : MSt :=
  if opI w = 0 then { s with fin := true }
  else if opI w = 1 then { s with outs := s.outs ++ [reg s.regs (fA w)], spot := nextI s }
  else if opI w = 5 then { s with regs := s.regs.set (fA w).toNat ((s.mem (thereI s w)).getD 0), spot := nextI s }
  else if opI w = 6 then { s with mem := memPut s.mem (thereI s w) (reg s.regs (fA w)), spot := nextI s }
  else if opI w > 11 then { s with regs := if opI w = 14 then s.regs.set (fA w).toNat (nextI s) else s.regs, spot := goneI s w }
  else { s with regs := s.regs.set (fA w).toNat (reckI (opI w) (reg s.regs (fB w)) (reg s.regs (fC w)) (fN w)), spot := nextI s }
/-! the fields -/
def mf (m s r o e : V) : List (Str × V) := putF "ended" e (putF "outputs" o (putF "registers" r (putF "spot" s (putF "memory" m []))))
theorem putF_ne {f g : Str} {v x : V} {r : List (Str × V)} (h : ¬ g = f) : putF f v ((g, x) :: r) = (g, x) :: putF f v r := if_neg h
theorem putF_eq {f : Str} {v x : V} {r : List (Str × V)} : putF f v ((f, x) :: r) = (f, v) :: r := if_pos rfl
theorem mf_is (m s r o e : V) : mf m s r o e = ([("memory", m), ("spot", s), ("registers", r), ("outputs", o), ("ended", e)] : List (Str × V)) := by
  have e0 : putF "memory" m [] = ([("memory", m)] : List (Str × V)) := rfl
  have e1 : putF "spot" s ([("memory", m)] : List (Str × V)) = ([("memory", m), ("spot", s)] : List (Str × V)) := putF_ne (by decide +kernel)
  have e2 : putF "registers" r ([("memory", m), ("spot", s)] : List (Str × V)) = ([("memory", m), ("spot", s), ("registers", r)] : List (Str × V)) := by
    rw [putF_ne (by decide +kernel), putF_ne (by decide +kernel)]; rfl
  have e3 : putF "outputs" o ([("memory", m), ("spot", s), ("registers", r)] : List (Str × V)) = ([("memory", m), ("spot", s), ("registers", r), ("outputs", o)] : List (Str × V)) := by
    rw [putF_ne (by decide +kernel), putF_ne (by decide +kernel), putF_ne (by decide +kernel)]; rfl
  unfold mf
  rw [e0, e1, e2, e3, putF_ne (by decide +kernel), putF_ne (by decide +kernel), putF_ne (by decide +kernel), putF_ne (by decide +kernel)]
  rfl
theorem mf_memory (m s r o e : V) : (mf m s r o e).lookup ("memory" : Str) = some m := by
  unfold mf
  rw [lookup_putF, if_neg (by decide +kernel), lookup_putF, if_neg (by decide +kernel), lookup_putF, if_neg (by decide +kernel), lookup_putF, if_neg (by decide +kernel), lookup_putF, if_pos rfl]
theorem mf_spot (m s r o e : V) : (mf m s r o e).lookup ("spot" : Str) = some s := by
  unfold mf
  rw [lookup_putF, if_neg (by decide +kernel), lookup_putF, if_neg (by decide +kernel), lookup_putF, if_neg (by decide +kernel), lookup_putF, if_pos rfl]
theorem mf_registers (m s r o e : V) : (mf m s r o e).lookup ("registers" : Str) = some r := by
  unfold mf
  rw [lookup_putF, if_neg (by decide +kernel), lookup_putF, if_neg (by decide +kernel), lookup_putF, if_pos rfl]
theorem mf_outputs (m s r o e : V) : (mf m s r o e).lookup ("outputs" : Str) = some o := by
  unfold mf
  rw [lookup_putF, if_neg (by decide +kernel), lookup_putF, if_pos rfl]
theorem mf_ended (m s r o e : V) : (mf m s r o e).lookup ("ended" : Str) = some e := by
  unfold mf
  rw [lookup_putF, if_pos rfl]
theorem mf_no (m s r o e : V) {f : Str} (h1 : ¬ f = "ended") (h2 : ¬ f = "outputs") (h3 : ¬ f = "registers") (h4 : ¬ f = "spot") (h5 : ¬ f = "memory") : (mf m s r o e).lookup f = none := by
  unfold mf
  rw [lookup_putF, if_neg h1, lookup_putF, if_neg h2, lookup_putF, if_neg h3, lookup_putF, if_neg h4, lookup_putF, if_neg h5]
  rfl
theorem mf_len (m s r o e : V) : (mf m s r o e).length < 1000 := by rw [mf_is]; show 5 < 1000; decide
theorem mf_putSpot (m s r o e v : V) : putF "spot" v (mf m s r o e) = mf m v r o e := by
  rw [mf_is, mf_is, putF_ne (by decide +kernel), putF_eq]
theorem mf_putEnded (m s r o e v : V) : putF "ended" v (mf m s r o e) = mf m s r o v := by
  rw [mf_is, mf_is, putF_ne (by decide +kernel), putF_ne (by decide +kernel), putF_ne (by decide +kernel), putF_ne (by decide +kernel), putF_eq]
/-! a machine in the heap -/
structure MachAt (C : Addr) (H : Hp) (p dx m r o : Addr) (s : MSt) : Prop where
  ob : H p = some (.ins C dx (mf (.ref m) (.int s.spot) (.ref r) (.ref o) (.bl s.fin)))
  dc : ∃ kvs, H m = some (.dK kvs) ∧ kvs.length ≤ 100000 ∧ ∀ a : Int, valV kvs (Sum.inl a : Key) = (s.mem a).map V.int
  rg : H r = some (.lst (s.regs.map V.int))
  ou : H o = some (.lst (s.outs.map V.int))
  ne : r ≠ o
theorem MachAt.same {C : Addr} {H H' : Hp} {p dx m r o : Addr} {s : MSt} (e : Same H H') (h : MachAt C H p dx m r o s) : MachAt C H' p dx m r o s := by
  obtain ⟨kvs, h1, h2, h3⟩ := h.dc
  exact ⟨e _ _ h.ob, ⟨kvs, e _ _ h1, h2, h3⟩, e _ _ h.rg, e _ _ h.ou, h.ne⟩
/-- all but a machine's own cells stands -/
def Keep (H H' : Hp) (p m r o : Addr) : Prop := ∀ b v, H b = some v → b ≠ p → b ≠ m → b ≠ r → b ≠ o → H' b = some v
theorem Keep.same {B H H' : Hp} {p m r o : Addr} (k : Keep H H' p m r o) (e : Same B H) (h1 : B p = none) (h2 : B m = none) (h3 : B r = none) (h4 : B o = none) : Same B H' := fun b v hb =>
  k b v (e b v hb) (ne_of_none hb h1) (ne_of_none hb h2) (ne_of_none hb h3) (ne_of_none hb h4)
theorem Keep.of {H H' : Hp} {p m r o : Addr} (e : Same H H') : Keep H H' p m r o := fun b v h _ _ _ _ => e b v h
theorem Keep.trans {H H1 H2 : Hp} {p m r o : Addr} (a : Keep H H1 p m r o) (b : Keep H1 H2 p m r o) : Keep H H2 p m r o := fun c v h h1 h2 h3 h4 => b c v (a c v h h1 h2 h3 h4) h1 h2 h3 h4
section
variable {K : PySem.W.Frag} {σ : L2.St} {H H' : Hp} {Q : VK} {ta tb tc te to tv td ty : TE} {tr : TA} {i j : Int} {x y v : V} {a p dx C m r o : Addr} {xs ys : List V} {f : Str} {fs : List (Str × V)} {nx bk ct : L2.St → Hp → Prop} {rt : VK} {W : L2.St → Hp → Prop} {s : MSt}
theorem s_fld (hv : ∀ R : VK, R (.ref p) H → ta σ H R) (h : H p = some (.ins C dx fs)) (c : Cls K C) (n : NoAttr K C f) (l : fs.lookup f = some v) (z : Q v H) : tFld K ta f σ H Q := hv _ ⟨p, C, dx, fs, v, rfl, h, c, n, l, z⟩
theorem s_sFld (z : tv σ H fun y H1 => ta σ H1 fun x H2 => ∃ a C dx fs, x = .ref a ∧ H2 a = some (.ins C dx fs) ∧ Cls K C ∧ NoAttr K C f ∧ fs.length < 1000 ∧ nx σ (upd H2 a (.ins C dx (putF f y fs)))) : sFld K ta tv f ⟨nx, rt, bk, ct⟩ σ H := z
theorem s_setF (h : H p = some (.ins C dx fs)) (c : Cls K C) (n : NoAttr K C f) (hl : fs.length < 1000) (z : nx σ (upd H p (.ins C dx (putF f y fs)))) :
    ∃ a C dx fs, V.ref p = .ref a ∧ H a = some (.ins C dx fs) ∧ Cls K C ∧ NoAttr K C f ∧ fs.length < 1000 ∧ nx σ (upd H a (.ins C dx (putF f y fs))) := ⟨p, C, dx, fs, rfl, h, c, n, hl, z⟩
theorem s_gTup {n : Nat} {t : TGs} (h : SqT K H p xs) (hl : xs.length = n) (z : t xs σ H W) : gTup K n t (.ref p) σ H W := ⟨p, xs, rfl, h, hl, z⟩
theorem s_gTupA {n : Nat} {t : TGs} (h : H p = some (.tup xs)) (hl : xs.length = n) (z : t xs σ H W) : gTup K n t (.ref p) σ H W := ⟨p, xs, rfl, .inl (.inl h), hl, z⟩
theorem s_gCons {t : TG} {u : TGs} (z : t v σ H fun σ' H' => u xs σ' H' W) : gCons t u (v :: xs) σ H W := ⟨v, xs, rfl, z⟩
theorem s_gNil (z : W σ H) : gNil [] σ H W := ⟨rfl, z⟩
theorem s_gSub {t : TSet} (z : to σ H fun o H1 => te σ H1 fun i H2 => t o i v H2 fun H3 => W σ H3) : gSub to te t v σ H W := z
theorem s_setL {Z : Hp → Prop} {k : Nat} (h : H p = some (.lst xs)) (hi : ixN xs.length i = some k) (z : Z (upd H p (.lst (xs.set k v)))) : rSetL (.ref p) (.int i) v H Z := ⟨p, xs, i, k, rfl, rfl, h, hi, z⟩
theorem ixN_ok {n : Nat} (h0 : 0 ≤ i) (h : i < n) : ixN n i = some i.toNat := by
  unfold ixN
  rw [if_pos h0, if_pos h]
theorem atI_reg {l : List Int} {n : Nat} (hl : l.length = n) (h0 : 0 ≤ i) (h : i < n) : atI (l.map V.int) i = some (.int (reg l i)) := by
  have hi : i.toNat < l.length := by omega
  refine atI_int (k := i.toNat) ?_ (by omega)
  unfold reg
  rw [List.getD_eq_getElem?_getD, List.getElem?_eq_getElem hi]; rfl
theorem map_set {l : List Int} {n : Nat} {z : Int} : (l.map V.int).set n (.int z) = (l.set n z).map V.int := by rw [List.map_set]
theorem tup_at {i : Nat} {v : V} (h : H p = some (.tup xs)) (hv : xs[i]? = some v) (z : Q v H) : rIxT K (.ref p) (.int (i : Int)) H Q := s_ixT (.inl (.inl h)) (atI_nat hv) z
theorem s_methO {sp : Sp} {E : XK} (hv : ∀ R : VK, R (.ref p) H → ta σ H R) (h : H p = some (.ins C dx fs)) (hm : fs.lookup f = none) (z : tr σ H fun vs H2 => sp (.ref p :: vs) H2 Q E) : tMeth C f sp [] E ta tr σ H Q := by
  refine hv _ ⟨p, dx, _, rfl, h, hm, ?_⟩
  have e : (fun vs H2 => sp (.ref p :: vs) H2 Q E) = (fun vs H2 => sp (.ref p :: (vs ++ [])) H2 Q E) := by
    funext vs H1
    rw [List.append_nil]
  rw [← e]
  exact z
/-! dicts and copies -/
theorem s_dnotin (z : ty σ H fun y H1 => td σ H1 fun x H2 => ∃ a o, x = .ref a ∧ DGet H2 a y o ∧ Q (.bl (!o.isSome)) H2) : tDNotIn ty td σ H Q := z
theorem s_din (z : ty σ H fun y H1 => td σ H1 fun x H2 => ∃ a o, x = .ref a ∧ DGet H2 a y o ∧ Q (.bl o.isSome) H2) : tDIn ty td σ H Q := z
theorem s_dgetR (z : td σ H fun x H1 => ty σ H1 fun y H2 => ∃ a v, x = .ref a ∧ DGet H2 a y (some v) ∧ Q v H2) : tDGet td ty σ H Q := z
theorem s_dput (z : tv σ H fun v H1 => td σ H1 fun x H2 => ty σ H2 fun y H3 => ∃ a H4, x = .ref a ∧ DPut H3 a y v H4 ∧ nx σ H4) : sDPut td ty tv ⟨nx, rt, bk, ct⟩ σ H := z
theorem s_dget1 (z : td σ H fun x H1 => ∃ a, x = .ref a ∧ IsD H1 a ∧ ty σ H1 fun y H2 => ∃ o, DGet H2 a y o ∧ Q (o.getD .non) H2) : tDGet1 td ty σ H Q := z
end
def rDictD : List V → Hp → VK → Prop := fun xs H Q => ∃ (a : Addr) (kvs : List (Key × V)), xs = [.ref a] ∧ Rd H a (.dK kvs) ∧ ∀ p, H p = none → Q (.ref p) (upd H p (.dK kvs))
def rListO (K : PySem.W.Frag) : List V → Hp → VK → Prop := fun xs H Q => ∃ p ys, xs = [.ref p] ∧ (SqL K H p ys ∨ SqT K H p ys) ∧ ∀ l, H l = none → Q (.ref l) (upd H l (.lst ys))
theorem cl_dictD {X : Cx} : CallR X (.type "dict") rDictD := call_dictD
theorem cl_listO {X : Cx} : CallR X (.type "list") (rListO X.K) := call_list_of
theorem s_dictD {H : Hp} {Q : VK} {a : Addr} {kvs : List (Key × V)} (h : H a = some (.dK kvs)) (z : ∀ p, H p = none → Q (.ref p) (upd H p (.dK kvs))) : rDictD [.ref a] H Q := ⟨a, kvs, rfl, .inl h, z⟩
theorem s_listO {K : PySem.W.Frag} {H : Hp} {Q : VK} {a : Addr} {xs : List V} (h : SqL K H a xs) (z : ∀ p, H p = none → Q (.ref p) (upd H p (.lst xs))) : rListO K [.ref a] H Q := ⟨a, xs, rfl, .inl h, z⟩
/-- the key of an int -/
def kI (a : Int) : Key := Sum.inl a
/-- all but one object stands -/
def But (H H' : Hp) (p : Addr) : Prop := ∀ b v, H b = some v → b ≠ p → H' b = some v
theorem But.refl (H : Hp) (p : Addr) : But H H p := fun _ _ h _ => h
theorem But.at {H H' : Hp} {p : Addr} {o : HO} (e : But H H' p) : But H (upd H' p o) p := fun b v h n => by
  rw [upd_ne n]; exact e b v h n
theorem But.new {H H' : Hp} {p q : Addr} {o : HO} (e : But H H' p) (hq : H q = none) : But H (upd H' q o) p := fun b v h n => by
  rw [upd_ne (ne_of_none h hq)]; exact e b v h n
theorem But.sq {K : PySem.W.Frag} {H H' : Hp} {p dx C a : Addr} {fs : List (Str × V)} {xs : List V} (e : But H H' p) (hp : H p = some (.ins C dx fs)) (h : SqL K H a xs) : SqL K H' a xs := by
  rcases h with (h | ⟨o, h⟩) | h
  · exact .inl (.inl (e _ _ h (ne_of h hp (by intro z; cases z))))
  · exact .inl (.inr ⟨o, e _ _ h (ne_of h hp (by intro z; cases z))⟩)
  · exact .inr h
theorem But.free {H H' : Hp} {p q dx C : Addr} {fs : List (Str × V)} (e : But H H' p) (hp : H p = some (.ins C dx fs)) (h' : ∃ v, H' p = some v) (h : H' q = none) : H q = none := by
  cases z : H q with
  | none => rfl
  | some v =>
    by_cases hq : q = p
    · subst hq
      obtain ⟨v, hv⟩ := h'
      rw [hv] at h; cases h
    · rw [e q v z hq] at h; cases h
theorem lp1 {f : Str} {v : V} {fs : List (Str × V)} {n : Nat} (h : fs.length ≤ n) : (putF f v fs).length ≤ n + 1 := Nat.le_trans (length_putF f v fs) (by omega)
theorem lp {n : Nat} {fs : List (Str × V)} (h : fs.length ≤ n) (hn : n ≤ 100) : fs.length < 1000 := by omega
theorem nil0 : ([] : List (Str × V)).length ≤ 0 := Nat.le_refl 0
section
variable {C p dx m r o : Addr} {H H' : Hp} {s : MSt}
theorem MachAt.pm (M : MachAt C H p dx m r o s) : p ≠ m := by obtain ⟨k, h, _⟩ := M.dc; exact ne_of M.ob h (by intro z; cases z)
theorem MachAt.pr (M : MachAt C H p dx m r o s) : p ≠ r := ne_of M.ob M.rg (by intro z; cases z)
theorem MachAt.po (M : MachAt C H p dx m r o s) : p ≠ o := ne_of M.ob M.ou (by intro z; cases z)
theorem MachAt.rm (M : MachAt C H p dx m r o s) : r ≠ m := by obtain ⟨k, h, _⟩ := M.dc; exact ne_of M.rg h (by intro z; cases z)
theorem MachAt.om (M : MachAt C H p dx m r o s) : o ≠ m := by obtain ⟨k, h, _⟩ := M.dc; exact ne_of M.ou h (by intro z; cases z)
theorem MachAt.setSpot (M : MachAt C H p dx m r o s) (v : Int) : MachAt C (upd H p (.ins C dx (putF "spot" (.int v) (mf (.ref m) (.int s.spot) (.ref r) (.ref o) (.bl s.fin))))) p dx m r o { s with spot := v } := by
  obtain ⟨kvs, h1, h2, h3⟩ := M.dc
  rw [mf_putSpot]
  exact ⟨upd_same, ⟨kvs, by rw [upd_ne M.pm.symm]; exact h1, h2, h3⟩, by rw [upd_ne M.pr.symm]; exact M.rg, by rw [upd_ne M.po.symm]; exact M.ou, M.ne⟩
theorem MachAt.setEnded (M : MachAt C H p dx m r o s) (v : Bool) : MachAt C (upd H p (.ins C dx (putF "ended" (.bl v) (mf (.ref m) (.int s.spot) (.ref r) (.ref o) (.bl s.fin))))) p dx m r o { s with fin := v } := by
  obtain ⟨kvs, h1, h2, h3⟩ := M.dc
  rw [mf_putEnded]
  exact ⟨upd_same, ⟨kvs, by rw [upd_ne M.pm.symm]; exact h1, h2, h3⟩, by rw [upd_ne M.pr.symm]; exact M.rg, by rw [upd_ne M.po.symm]; exact M.ou, M.ne⟩
theorem MachAt.setReg (M : MachAt C H p dx m r o s) (i : Nat) (v : Int) : MachAt C (upd H r (.lst ((s.regs.map V.int).set i (.int v)))) p dx m r o { s with regs := s.regs.set i v } := by
  obtain ⟨kvs, h1, h2, h3⟩ := M.dc
  refine ⟨by rw [upd_ne M.pr]; exact M.ob, ⟨kvs, by rw [upd_ne M.rm.symm]; exact h1, h2, h3⟩, ?_, by rw [upd_ne M.ne.symm]; exact M.ou, M.ne⟩
  rw [map_set]; exact upd_same
theorem MachAt.app (M : MachAt C H p dx m r o s) (v : Int) : MachAt C (upd H o (.lst (s.outs.map V.int ++ [.int v]))) p dx m r o { s with outs := s.outs ++ [v] } := by
  obtain ⟨kvs, h1, h2, h3⟩ := M.dc
  refine ⟨by rw [upd_ne M.po]; exact M.ob, ⟨kvs, by rw [upd_ne M.om.symm]; exact h1, h2, h3⟩, by rw [upd_ne M.ne]; exact M.rg, ?_, M.ne⟩
  have e : (s.outs ++ [v]).map V.int = s.outs.map V.int ++ [.int v] := by rw [List.map_append]; rfl
  rw [e]; exact upd_same
theorem Keep.atP {v : HO} (k : Keep H H' p m r o) : Keep H (upd H' p v) p m r o := fun b u h h1 h2 h3 h4 => by rw [upd_ne h1]; exact k b u h h1 h2 h3 h4
theorem Keep.atR {v : HO} (k : Keep H H' p m r o) : Keep H (upd H' r v) p m r o := fun b u h h1 h2 h3 h4 => by rw [upd_ne h3]; exact k b u h h1 h2 h3 h4
theorem Keep.atO {v : HO} (k : Keep H H' p m r o) : Keep H (upd H' o v) p m r o := fun b u h h1 h2 h3 h4 => by rw [upd_ne h4]; exact k b u h h1 h2 h3 h4
theorem Keep.atM {H2 : Hp} (k : Keep H H' p m r o) (e : ∀ b, b ≠ m → H2 b = H' b) : Keep H H2 p m r o := fun b u h h1 h2 h3 h4 => by rw [e b h2]; exact k b u h h1 h2 h3 h4
theorem Keep.sm {H2 : Hp} (k : Keep H H' p m r o) (e : Same H' H2) : Keep H H2 p m r o := fun b u h h1 h2 h3 h4 => e b u (k b u h h1 h2 h3 h4)
end
/-- what a step asks -/
structure Goes (s : MSt) (w : Int) : Prop where
  run : s.fin = false
  here : s.mem s.spot = some w
  r8 : s.regs.length = 8
  rr : ∀ i, 0 ≤ i → i < 8 → 0 ≤ reg s.regs i ∧ reg s.regs i < 4294967296
  few : s.outs.length ≤ 1000
  has : opI w = 5 ∨ opI w = 6 → ∃ v, s.mem (thereI s w) = some v
def optW : Option Int → V
  | none => .non
  | some n => .int n
section
variable {K : PySem.W.Frag} {σ : L2.St} {H H' : Hp} {Q : VK} {ta tb tc te to tv td ty tl : TE} {tt : TT} {tr : TA} {i j : Int} {x y v : V} {a p q dx C m r o : Addr} {xs ys : List V}
theorem s_isi_tt {cn : String} {k : Bool} (h : H q = some (.tup xs)) (hk : kitB "tuple" cn = some k) (z : Q (.bl k) H) : rIsi K [.ref q, .ty cn] H Q := s_isi (.base (.tup h)) (kit_ty hk) z
/-- a machine's state as data -/
def stD (s : MSt) : PyData := .tuple [.int s.spot, .list (s.regs.map PyData.int), .list (s.outs.map PyData.int), .bool s.fin]
theorem dp_st {s : MSt} (h : H q = some (.tup [.int s.spot, .ref r, .ref o, .bl s.fin])) (hr : SqL K H r (s.regs.map V.int)) (ho : SqL K H o (s.outs.map V.int)) : Dp K H (.ref q) (stD s) :=
  .tup (.inl (.inl h)) (.cons (.int _) (.cons (dp_intL hr) (.cons (dp_intL ho) (.cons (.bl _) .nil))))
theorem shaped_st (s : MSt) : SeqAt.shaped (stD s) = true := by
  have h1 := depth_ints s.regs
  have h2 := depth_ints s.outs
  refine Bool.and_eq_true_iff.mpr ⟨?_, decide_eq_true ?_⟩
  · show (true && (PyData.canLayAll0 (s.regs.map PyData.int) && (PyData.canLayAll0 (s.outs.map PyData.int) && (true && true)))) = true
    rw [lay_ints, lay_ints]; rfl
  · show (max 0 (max (PyData.depthAll (s.regs.map PyData.int) + 1) (max (PyData.depthAll (s.outs.map PyData.int) + 1) (max 0 0)))) + 1 ≤ 64
    omega
theorem s_neSt {s : MSt} (h1 : Dp K H x (stD s)) (h2 : Dp K H y (stD s)) (z : Q (.bl false) H) : rNeD K x y H Q :=
  ⟨_, _, h1, h2, shaped_st s, shaped_st s, by
    rw [SeqAt.eqv_refl _ (SeqAt.canLay_of_shaped (shaped_st s))]; exact z⟩
/-- [e for x in xs if t], t false of each -/
theorem s_lcNo {k : Nat} {vs : List Nat} {xs : List V} (ha : ∀ R : VK, (∀ a H1, Same H H1 → SqL K H1 a xs → R (.ref a) H1) → tl σ H R) (hw : ∀ x, wipe ((wipe σ vs).set k (some x)) vs = wipe σ vs)
    (ht : ∀ (i : Nat) x H1 (T : Bool → Hp → Prop), xs[i]? = some x → Same H H1 → (∀ H2, Same H1 H2 → T false H2) → tt ((wipe σ vs).set k (some x)) H1 T)
    (z : ∀ p H1, Same H H1 → H1 p = some (.lst []) → Q (.ref p) H1) : tLc (iList K tl) (gName k) tt te vs σ H Q := by
  refine ha _ fun a H0 s0 hx => ⟨a, rfl, ⟨xs, hx⟩, fun D hD => ?_⟩
  refine lc_list (xs := xs) (fun i H' => Same H0 H' ∧ H' D = some (.lst [])) ⟨same_upd hD, upd_same⟩ (fun i H' _ h => h.1.seq hx) (fun i x H1 hi h => ?_) (fun H1 h => z D H1 (s0.trans h.1) h.2)
  obtain ⟨s1, h1⟩ := h
  refine ⟨hw _, ht i x H1 _ hi (s0.trans s1) fun H2 s2 => ?_⟩
  rw [if_neg Bool.false_ne_true]
  exact ⟨s1.trans s2, s2 D _ h1⟩
theorem s_eqNil (h1 : H p = some (.lst [])) (h2 : H q = some (.lst [])) (z : Q (.bl true) H) : rEqD K (.ref p) (.ref q) H Q :=
  s_eqInts (ns := []) (ms := []) (.inl (.inl h1)) (.inl (.inl h2)) z
end
theorem s_disp {trs : List (TE × TE)} {σ : L2.St} {H : Hp} {Q : VK} (z : ∀ p, H p = none → tPairs trs σ (upd H p (.dK [])) fun ps H2 => H2 p = some (.dK []) ∧ ∃ kvs : List (Key × V), ps = kvs.map (fun kv => (kV kv.1, kv.2)) ∧ kvs.length ≤ 15 ∧ Q (.ref p) (upd H2 p (.dK (mergeK [] kvs)))) : tDisp trs σ H Q := z
theorem s_tPc {tk tv : TE} {r : List (TE × TE)} {σ : L2.St} {H : Hp} {R : List (V × V) → Hp → Prop} (z : tk σ H fun x H1 => tv σ H1 fun y H2 => tPairs r σ H2 fun ps H3 => R ((x, y) :: ps) H3) : tPairs ((tk, tv) :: r) σ H R := z
theorem s_tPn {σ : L2.St} {H : Hp} {R : List (V × V) → Hp → Prop} (z : R [] H) : tPairs [] σ H R := z
/-- a word put together -/
theorem word_parts {op a b c low : Int} (h1 : 0 ≤ op ∧ op < 16) (h2 : 0 ≤ a ∧ a < 8) (h3 : 0 ≤ b ∧ b < 8) (h4 : 0 ≤ c ∧ c < 8) (h5 : 0 ≤ low ∧ low < 524288) :
    let w := op * 268435456 + a * 33554432 + b * 4194304 + c * 524288 + low
    (0 ≤ w ∧ w < 4294967296) ∧ opI w = op ∧ fA w = a ∧ fB w = b ∧ fC w = c ∧ fN w = low % 65536 ∧ nearI w = nearI low ∧ splitI w = splitI low := by
  intro w
  have hw : w = op * 268435456 + a * 33554432 + b * 4194304 + c * 524288 + low := rfl
  clear_value w
  unfold opI fA fB fC fN nearI splitI
  refine ⟨by omega, by omega, by omega, by omega, by omega, by omega, by omega, ?_⟩
  have e1 : w % 128 = low % 128 := by omega
  have e2 : w / 16384 % 32 = low / 16384 % 32 := by omega
  rw [e1, e2]
theorem near_low {low : Int} (h : 0 ≤ low ∧ low < 524288) : nearI low = if low > 262143 then low - 524288 else low := by
  unfold nearI; split <;> omega
theorem split_low (low : Int) : splitI low = if low % 128 + low / 16384 % 32 * 128 > 2047 then low % 128 + low / 16384 % 32 * 128 - 4096 else low % 128 + low / 16384 % 32 * 128 := by
  unfold splitI; split <;> omega
def onw (op one other beside low : Int) : Int :=
  if op = 15 then one else if op = 14 then (beside + nearI low) % 4294967296 else if (op = 12 ∧ one = other) ∨ (op = 13 ∧ one < other) then (beside + splitI low) % 4294967296 else beside
theorem reg_set {l : List Int} {i j v : Int} (h : i < l.length) (h0 : 0 ≤ i) (j0 : 0 ≤ j) : reg (l.set i.toNat v) j = if j = i then v else reg l j := by
  unfold reg
  rw [List.getD_eq_getElem?_getD, List.getElem?_set, List.getD_eq_getElem?_getD]
  by_cases e : j = i
  · rw [if_pos (by rw [e]), if_pos (by omega), if_pos e]; rfl
  · rw [if_neg (by omega), if_neg e]
/-- an object that is none of a machine's cells is written -/
theorem MachAt.off {C : Addr} {H : Hp} {p dx m r o q : Addr} {s : MSt} {v : HO} (M : MachAt C H p dx m r o s) (h1 : q ≠ p) (h2 : q ≠ m) (h3 : q ≠ r) (h4 : q ≠ o) : MachAt C (upd H q v) p dx m r o s := by
  obtain ⟨kvs, k1, k2, k3⟩ := M.dc
  exact ⟨by rw [upd_ne h1.symm]; exact M.ob, ⟨kvs, by rw [upd_ne h2.symm]; exact k1, k2, k3⟩, by rw [upd_ne h3.symm]; exact M.rg, by rw [upd_ne h4.symm]; exact M.ou, M.ne⟩
end Jl

namespace Jl
open PySem PyProof.Rows L2
theorem and_bit (i : Nat) : ∀ x y : Int, Builtin.bitAnd x y / 2 ^ i % 2 = if x / 2 ^ i % 2 = 1 ∧ y / 2 ^ i % 2 = 1 then 1 else 0 := by
  induction i with
  | zero =>
    intro x y
    rw [and_rec]
    simp only [Int.pow_zero, Int.ediv_one]
    split <;> omega
  | succ i ih =>
    intro x y
    rw [ediv_two_pow, ediv_two_pow, ediv_two_pow]
    have e : Builtin.bitAnd x y / 2 = Builtin.bitAnd (x / 2) (y / 2) := by
      rw [and_rec]; split <;> omega
    rw [e]
    exact ih (x / 2) (y / 2)
theorem xor_bit (i : Nat) : ∀ x y : Int, Builtin.bitXor x y / 2 ^ i % 2 = (x / 2 ^ i % 2 + y / 2 ^ i % 2) % 2 := by
  induction i with
  | zero =>
    intro x y
    rw [xor_rec]
    simp only [Int.pow_zero, Int.ediv_one]
    omega
  | succ i ih =>
    intro x y
    rw [ediv_two_pow, ediv_two_pow, ediv_two_pow]
    have e : Builtin.bitXor x y / 2 = Builtin.bitXor (x / 2) (y / 2) := by
      rw [xor_rec]; omega
    rw [e]
    exact ih (x / 2) (y / 2)
theorem mod_more (x : Int) (i : Nat) : x % 2 ^ (i + 1) = x % 2 ^ i + x / 2 ^ i % 2 * 2 ^ i := by
  have hp := two_pow_pos i
  have h1 := Int.mul_ediv_add_emod x (2 ^ i)
  have h2 := Int.mul_ediv_add_emod (x / 2 ^ i) 2
  have r1 := Int.emod_nonneg x (show (2 : Int) ^ i ≠ 0 by omega)
  have r2 := Int.emod_lt_of_pos x hp
  have r3 : x / 2 ^ i % 2 = 0 ∨ x / 2 ^ i % 2 = 1 := by omega
  have e : x = (x % 2 ^ i + x / 2 ^ i % 2 * 2 ^ i) + 2 ^ (i + 1) * (x / 2 ^ i / 2) := by
    have : (2 : Int) ^ (i + 1) * (x / 2 ^ i / 2) = 2 ^ i * (2 * (x / 2 ^ i / 2)) := by rw [Int.pow_succ, Int.mul_assoc]
    rw [this]
    have e3 : (2 : Int) ^ i * (x / 2 ^ i) = 2 ^ i * (2 * (x / 2 ^ i / 2)) + 2 ^ i * (x / 2 ^ i % 2) := by rw [← Int.mul_add, h2]
    have e4 : (2 : Int) ^ i * (x / 2 ^ i % 2) = x / 2 ^ i % 2 * 2 ^ i := Int.mul_comm ..
    omega
  have hr : 0 ≤ x % 2 ^ i + x / 2 ^ i % 2 * 2 ^ i ∧ x % 2 ^ i + x / 2 ^ i % 2 * 2 ^ i < 2 ^ (i + 1) := by
    rw [pow_succ2]
    rcases r3 with r3 | r3 <;> rw [r3] <;> omega
  conv => lhs; rw [e]
  rw [Int.add_mul_emod_self_left, Int.emod_eq_of_lt hr.1 hr.2]
theorem and_word {x y : Int} (_hx : 0 ≤ x) (hy : 0 ≤ y) (h : y < 2 ^ 32) : Builtin.bitAnd x y % 2 ^ 32 = Builtin.bitAnd x y := by
  have := bitAnd_range x hy
  exact Int.emod_eq_of_lt this.1 (by omega)
theorem xor_word {x y : Int} (hx : 0 ≤ x) (hy : 0 ≤ y) (h1 : x < 2 ^ 32) (h : y < 2 ^ 32) : Builtin.bitXor x y % 2 ^ 32 = Builtin.bitXor x y := by
  have h0 : 0 ≤ Builtin.bitXor x y := _root_.Bits.bitXor_nonneg hx hy
  refine Int.emod_eq_of_lt h0 ?_
  rw [_root_.Bits.bitXor_pp hx hy]
  have := Nat.xor_lt_two_pow (n := 32) (x := x.toNat) (y := y.toNat) (by omega) (by omega)
  omega
def rotI (w : Int) (m : Nat) : Int := w / 2 ^ m + w % 2 ^ m * 2 ^ (32 - m)
theorem rot_is {w : Int} (h0 : 0 ≤ w) (h1 : w < 2 ^ 32) {m : Nat} (hm : m ≤ 32) : (w / 2 ^ m + w * 2 ^ (32 - m)) % 2 ^ 32 = rotI w m ∧ 0 ≤ rotI w m ∧ rotI w m < 2 ^ 32 := by
  have hp := two_pow_pos m
  have hq := two_pow_pos (32 - m)
  have e32 : (2 : Int) ^ m * 2 ^ (32 - m) = 2 ^ 32 := by rw [← pow_add2, show m + (32 - m) = 32 by omega]
  have hA : 0 ≤ w / 2 ^ m ∧ w / 2 ^ m < 2 ^ (32 - m) := div_lt_pow h0 (by rw [show m + (32 - m) = 32 by omega]; exact h1)
  have r1 := Int.emod_nonneg w (show (2 : Int) ^ m ≠ 0 by omega)
  have r2 := Int.emod_lt_of_pos w hp
  have e1 := Int.mul_ediv_add_emod w (2 ^ m)
  have hb : 0 ≤ w % 2 ^ m * 2 ^ (32 - m) ∧ w % 2 ^ m * 2 ^ (32 - m) ≤ 2 ^ 32 - 2 ^ (32 - m) := by
    refine ⟨Int.mul_nonneg r1 (Int.le_of_lt hq), ?_⟩
    have : w % 2 ^ m * 2 ^ (32 - m) ≤ (2 ^ m - 1) * 2 ^ (32 - m) := Int.mul_le_mul_of_nonneg_right (by omega) (Int.le_of_lt hq)
    rw [Int.sub_mul, e32, Int.one_mul] at this
    exact this
  have e2 : w * 2 ^ (32 - m) = 2 ^ 32 * (w / 2 ^ m) + w % 2 ^ m * 2 ^ (32 - m) := by
    conv => lhs; rw [← e1]
    rw [Int.add_mul, Int.mul_right_comm, e32]
  have hr : 0 ≤ rotI w m ∧ rotI w m < 2 ^ 32 := by unfold rotI; omega
  refine ⟨?_, hr⟩
  have e3 : w / 2 ^ m + w * 2 ^ (32 - m) = rotI w m + 2 ^ 32 * (w / 2 ^ m) := by unfold rotI; omega
  rw [e3, Int.add_mul_emod_self_left, Int.emod_eq_of_lt hr.1 hr.2]
theorem rot_more {w : Int} {m : Nat} (hm : m < 32) : rotI w m / 2 + rotI w m % 2 * 2147483648 = rotI w (m + 1) := by
  unfold rotI
  obtain ⟨k, hk⟩ : ∃ k, 32 - m = k + 1 := ⟨31 - m, by omega⟩
  have hk2 : 32 - (m + 1) = k := by omega
  have e31 : (2 : Int) ^ m * 2 ^ k = 2147483648 := by rw [← pow_add2, show m + k = 31 by omega]; rfl
  rw [hk, hk2, ← half_more, mod_more w m, pow_succ2 k, Int.mul_left_comm]
  rw [Int.add_mul, Int.mul_assoc _ (2 ^ m), e31]
  generalize hB : w % 2 ^ m * 2 ^ k = B
  have h2 : w / 2 ^ m % 2 = 0 ∨ w / 2 ^ m % 2 = 1 := by omega
  omega
theorem turn_is {w : Int} (h0 : 0 ≤ w) (h1 : w < 4294967296) (b : Int) : turnI w b = rotI w (b % 32).toNat := by
  have := (rot_is h0 h1 (m := (b % 32).toNat) (by omega)).1
  exact this
theorem rot_zero (w : Int) : rotI w 0 = w := by
  unfold rotI
  rw [Int.pow_zero]; omega
theorem and_more (x y : Int) (i : Nat) : Builtin.bitAnd x y % 2 ^ (i + 1) = if x / 2 ^ i % 2 + y / 2 ^ i % 2 = 2 then Builtin.bitAnd x y % 2 ^ i + 2 ^ i else Builtin.bitAnd x y % 2 ^ i := by
  rw [mod_more, and_bit]
  have a := Int.emod_two_eq (x / 2 ^ i)
  have b := Int.emod_two_eq (y / 2 ^ i)
  by_cases h : x / 2 ^ i % 2 = 1 ∧ y / 2 ^ i % 2 = 1
  · rw [if_pos h, if_pos (by omega), Int.one_mul]
  · rw [if_neg h, if_neg (by omega), Int.zero_mul, Int.add_zero]
theorem xor_more (x y : Int) (i : Nat) : Builtin.bitXor x y % 2 ^ (i + 1) = if x / 2 ^ i % 2 + y / 2 ^ i % 2 = 1 then Builtin.bitXor x y % 2 ^ i + 2 ^ i else Builtin.bitXor x y % 2 ^ i := by
  rw [mod_more, xor_bit]
  have a := Int.emod_two_eq (x / 2 ^ i)
  have b := Int.emod_two_eq (y / 2 ^ i)
  by_cases h : x / 2 ^ i % 2 + y / 2 ^ i % 2 = 1
  · rw [if_pos h, h]; omega
  · rw [if_neg h]
    have e : (x / 2 ^ i % 2 + y / 2 ^ i % 2) % 2 = 0 := by omega
    rw [e]; omega
theorem cut_all {xs : List V} {n : Int} (h0 : 0 ≤ n) (h : (xs.length : Int) ≤ n) : cutV xs none (some n) = xs := by
  unfold cutV
  have e1 : HT.sIx xs.length 0 none = 0 := rfl
  have e2 : HT.sIx xs.length xs.length (some n) = xs.length := by
    show (if n < 0 then _ else min n.toNat xs.length) = _
    rw [if_neg (by omega)]; omega
  rw [e1, e2, List.drop_zero, Nat.sub_zero, List.take_length]
section
variable {K : PySem.W.Frag} {H : Hp} {nx bk ct : L2.St → Hp → Prop} {rt : VK} {tu : TS}
/-- cells = script[:63] + ms; a loop over its places -/
theorem law1S {a : Addr} {ns ms : List Int} (hS : SqL K H a (ns.map V.int)) (hn : ns.length ≤ 63) (hm : ms.length ≤ 100) {tf tl : TE} {te : TE}
    (hf : ∀ (R : VK), (∀ p, H p = none → R (.ref p) (upd H p (.lst (ns.map V.int)))) → tf [some (.ref a), none, none] H R)
    (hl : ∀ (H1 : Hp) (R : VK), (∀ p, H1 p = none → R (.ref p) (upd H1 p (.lst (ms.map V.int)))) → tl [some (.ref a), none, none] H1 R)
    (he : ∀ (p : Addr) (H1 : Hp) (R : List V → Hp → Prop), SqL K H1 p ((ns ++ ms).map V.int) → R [.int ((ns ++ ms).length : Int)] H1 → tCons te tNil [some (.ref a), some (.ref p), none] H1 R)
    (hb : ∀ (p : Addr) (c : Int) (N : L2.St → Hp → Prop) H1, Same H H1 → SqL K H1 p ((ns ++ ms).map V.int) → 0 ≤ c → c < ((ns ++ ms).length : Int) → (∀ v H2, Same H1 H2 → N [some (.ref a), some (.ref p), v] H2) → tu ⟨N, rt, nx, N⟩ [some (.ref a), some (.ref p), some (.int c)] H1)
    (hd : ∀ p v H1, Same H H1 → nx [some (.ref a), some (.ref p), v] H1) :
    tSeq (tAsg (tOp (rCatS K) tf tl) (gName 1)) (tFor (iRng1 (tCons te tNil)) (gName 2) tu) ⟨nx, rt, bk, ct⟩ [some (.ref a), none, none] H := by
  refine s_seq (s_asg (s_op (hf _ fun f hf => hl _ _ fun p hp => ?_)))
  refine ⟨f, p, ns.map V.int, ms.map V.int, rfl, rfl, (same_upd hp).seq sqU, sqU, (by rw [List.length_map, List.length_map]; exact small63 hn hm), fun q hq => ?_⟩
  rw [← List.map_append]
  have s0 : Same H (upd (upd H f (.lst (ns.map V.int))) p (.lst (ms.map V.int))) := (same_upd hf).trans (same_upd hp)
  have s1 := s0.trans (same_upd (o := .lst ((ns ++ ms).map V.int)) hq)
  have hlen : (ns ++ ms).length ≤ 163 := by rw [List.length_append]; omega
  refine s_forR1 ((ns ++ ms).length : Int) (fun i σ H' => (∃ v, σ = [some (.ref a), some (.ref q), v]) ∧ Same (upd (upd (upd H f (.lst (ns.map V.int))) p (.lst (ms.map V.int))) q (.lst ((ns ++ ms).map V.int))) H') (fun R z => he q _ R sqU z) (by omega) ⟨⟨_, rfl⟩, Same.refl _⟩ (fun i σ' H' hi h => ?_) (fun σ' H' h => ?_)
  · obtain ⟨⟨v, rfl⟩, s2⟩ := h
    exact hb q i _ H' (s1.trans s2) (s2.seq sqU) (by omega) hi fun v H2 s3 => ⟨⟨v, rfl⟩, s2.trans s3⟩
  · obtain ⟨⟨v, rfl⟩, s2⟩ := h
    exact hd q v H' (s1.trans s2)
end
theorem atI_in {ns : List Int} {i : Int} (h1 : -(ns.length : Int) ≤ i) (h2 : i < ns.length) : ∃ z ∈ ns, atI (ns.map V.int) i = some (.int z) := by
  by_cases h : 0 ≤ i
  · have hi : i.toNat < ns.length := by omega
    exact ⟨ns[i.toNat], List.getElem_mem hi, atI_int (List.getElem?_eq_getElem hi) (by omega)⟩
  · have hi : (i + ns.length).toNat < ns.length := by omega
    refine ⟨ns[(i + ns.length).toNat], List.getElem_mem hi, ?_⟩
    unfold atI ixN
    rw [List.length_map, if_neg h, if_pos h1]
    show (ns.map V.int)[(i + ns.length).toNat]? = _
    rw [List.getElem?_map, List.getElem?_eq_getElem hi]; rfl
theorem small15 {n : Nat} (h : n ≤ 15) : n ≤ 100000 := by omega
end Jl

/-! Exceptions that were caught and are held as values behind their clause. -/
namespace Jl
open PySem L2 PySem.Spec PyProof.Rows
/-- an exception, of class cls and with the dict d, held as a value -/
def XO (cls : Value) (d : Option Addr) (a : Addr) : HO := .ext fun h => ∃ u fl, h.get? a = some u ∧ Zc cls d u ∧ u.data = .fields fl
theorem xo_ok {P : Program} {w : World} {H : Hp} {h : Heap} {a : Addr} {cls : Value} {d : Option Addr} {u : Obj} {fl : Array Value} (e : h.get? a = some u) (z : Zc cls d u) (f : u.data = .fields fl) : ObjOk P w H h a (XO cls d a) :=
  ⟨⟨u, fl, e, z, f⟩, ⟨u, e⟩, fun _ _ ⟨u, fl, e, r⟩ k => ⟨u, fl, k u e, r⟩⟩
section
variable {X : Cx} {pins : List (Addr × Obj)} {σ : L2.St} {H : Hp} {s : Shared} {a : Addr} {o : HO}
/-- an object that stands, of which nothing was told, is told of -/
theorem track (I : Inv X pins σ H s) (n0 : X.s_0.heap.get? a = none) (hn : H a = none) (nL : a ≠ X.env.locals) (nC : ∀ y z, X.env.cells.lookup y = some z → z ≠ a) (nP : ∀ p ∈ X.pn ++ pins, p.1 ≠ a)
    (new : ObjOk X.prog X.w (upd H a o) s.heap a o) : Inv X pins σ (upd H a o) s := by
  have old : ∀ z u, X.s_0.heap.get? z = some u → z ≠ a := fun z u e q => by rw [q, n0] at e; cases e
  have far : ∀ z {u}, H z = some u → upd H a o z = some u := fun z {u} e => by rw [upd_ne (ne_of_none e hn)]; exact e
  refine { ok := I.ok, os := I.os, bare := I.bare, base := ?_, loc := I.loc, cell := I.cell, free := ?_, freeC := ?_, pin := ?_, hok := I.hok.laidN (fun _ _ z => z) hn new, len := I.len }
  · refine { keep := I.base.keep, slot := I.base.slot, there := I.base.there, free := ?_, tups := ?_, frzs := ?_, tbls := ?_ }
    · intro z u e n q
      rw [upd_ne (old z u e)]
      exact I.base.free z u e n q
    · intro z xs e
      exact far z (I.base.tups z xs e)
    · intro z u xs e
      exact far z (I.base.frzs z u xs e)
    · intro z ps e
      obtain ⟨m, q⟩ := I.base.tbls z ps e
      exact ⟨m, far z q⟩
  · rw [upd_ne nL.symm]; exact I.free
  · intro y z e
    rw [upd_ne (nC y z e)]
    exact I.freeC y z e
  · intro p hp
    obtain ⟨e, n, r⟩ := I.pin p hp
    exact ⟨e, by rw [upd_ne (nP p hp)]; exact n, r⟩
end
/-- the ends behind the clause: its name is gone, the exception is told of -/
def outE (i : Nat) (a : Addr) (cls : Value) (d : Option Addr) (D : Ends) : Ends where
  nx := fun σ H => D.nx (σ.set i none) (upd H a (XO cls d a))
  rt := fun v H => D.rt v (upd H a (XO cls d a))
  bk := fun σ H => D.bk (σ.set i none) (upd H a (XO cls d a))
  ct := fun σ H => D.ct (σ.set i none) (upd H a (XO cls d a))
/-- what the clause 'except x as n' wishes of an exception (n at slot i) that is to be held behind it -/
def wOut (K : PySem.W.Frag) (c : Value) (i : Nat) (ts : Addr → Value → Option Addr → TS) (Wo : WX) (D : Ends) : WX := fun cls d σ H =>
  ∃ yn, PySem.W.exmOne K cls c = some yn ∧ (yn = true → ∀ a, H a = none → ts a cls d (outE i a cls d D) (σ.set i (some (.ref a))) H) ∧ (yn = false → Wo cls d σ H)
/-- the clauses are looked at -/
def looked (X : Cx) (hds : List ExceptHandler) (S : Flow → Shared → Prop) (e : Value) (t : Shared) : Prop :=
  wpAny (model X.prog X.w) X.A (noteFrame e X.env) (fun _ t2 => wpAny (model X.prog X.w) X.A (setFlight e none) (fun _ t3 => wpAny (model X.prog X.w) X.A (handleBy e X.env hds) S X.xe t3) X.xe t2) X.xe t
section
variable {X : Cx} {x n : Str} {c : Value} {i : Nat} {body suite : List Stmt} {st0 : Stmt} {q1 q2 q3 : Pos} {tb : WX → TS} {ts : Addr → Value → Option Addr → TS} {Wo : WX}
theorem ps_caught (stk : X.stack = X.env :: X.outer) (frm : X.env.frame = some X.env.locals) (hex : X.ex = []) (nod : X.N.Nodup) (ix : X.N[i]? = some n) (loc : X.env.kindOf n = some .local) (nm : Names X x c) (tk : Takes X Wo)
    (hb : ∀ (W : WX) (pl : List (Addr × Obj)) (xe : Value → Shared → Prop), Takes (X.tr pl xe) W → PassesOwn (model X.prog X.w) X.A X.env xe → PSs (X.tr pl xe) body (tb W))
    (hu : ∀ (a : Addr) (u : Obj) (cls : Value) (d : Option Addr) (pl : List (Addr × Obj)), Zc cls d u → (∃ fl, u.data = .fields fl) → PSs (X.suite a ((a, u) :: pl)) (st0 :: suite) (ts a cls d)) :
    PS X (.Try body [.ExceptHandler (some (.Name x q1)) (some n) (st0 :: suite) q2] [] [] q3) (fun D σ H => tb (wOut X.K c i ts Wo D) D σ H) := by
  constructor
  intro pins s σ H D I h
  have frames : X.A.frames = some (X.env :: X.outer) := I.ok.frames.trans (congrArg some stk)
  have here : Loc X.env.scope n := Or.inl loc
  have catch_ : Takes (X.tr (X.pn ++ pins) (looked X [.ExceptHandler (some (.Name x q1)) (some n) (st0 :: suite) q2] (SP X pins D))) (wOut X.K c i ts Wo D) := by
    rintro w t ⟨a, B, tI, pl, σ1, H1, cls, d, rfl, J0, nb, up, sky, na, os, ag, yn, exm, yes, no⟩
    have J : Inv X pins σ1 H1 tI := J0.ofTry I.ok
    replace sky : Sky B (X.env :: X.outer) a (Zc cls d) X.env.locals t.heap := stk ▸ sky
    show wpAny (model X.prog X.w) X.A (noteFrame (.ref a) X.env) _ _ _
    refine Sky.land Zc.steady frames frm sky fun h3 F3 up3 => ?_
    have G3 : Inv X pins σ1 H1 { t with heap := h3 } := J.landed nb F3.1 (up.trans up3) os ag
    obtain ⟨u3, fl3, get3, z3, dat3⟩ := F3.there
    have away : a ∉ frs (X.env :: X.outer) := fun hm => by
      obtain ⟨_, u, e, nf⟩ := F3.2.2.1.mem hm
      cases get3.symm.trans e
      exact nf _ dat3
    have noL : a ≠ X.env.locals := fun z => away (List.mem_filterMap.mpr ⟨X.env, List.mem_cons_self, by rw [z]; exact frm⟩)
    have noF : a ∉ X.fs := fun hm => by
      obtain ⟨e, he, q⟩ := List.mem_filterMap.mp hm
      exact away (List.mem_filterMap.mpr ⟨e, List.mem_cons_of_mem _ he, q⟩)
    -- the exception is new to the state without it
    have lone : tI.heap.get? a = none := by
      cases e : tI.heap.get? a with
      | none => rfl
      | some u =>
        have q := nb a u e (by rw [stk]; exact away)
        rw [F3.2.1] at q; cases q
    have n0 : X.s_0.heap.get? a = none := by
      cases e : X.s_0.heap.get? a with
      | none => rfl
      | some u =>
        obtain ⟨u', q⟩ := J.base.there a u e (by rw [hex]; exact fun z => nomatch z)
        rw [lone] at q; cases q
    have apart : ∀ p ∈ X.pn ++ pins, p.1 ≠ a := fun p hp z => by
      have q := (J.pin p hp).1
      rw [z, lone] at q; cases q
    have T3 := G3.suite get3 dat3 na noL noF
    refine wpAny_handleBy_cons (codeAny_handlers_test ?_) (by intro z; cases z)
    have ty : PySem.W.Looks (model X.prog X.w) h3 (typeOf (.ref a)) cls := fun _ _ _ _ k q => wpAny_typeOf_ref (k _ _ get3) (z3.1.symm ▸ q)
    have matches_ := PySem.W.exm_one (M := model X.prog X.w) G3.kIn ty exm
    have asked : ∀ {Q E : Value → Shared → Prop}, Q c { t with heap := h3 } → wpAny (model X.prog X.w) (X.A.mark (some (.ref a))) (eval (.Name x q1) X.env) Q E { t with heap := h3 } := by
      intro Q E q
      rcases nm with ⟨gl, db, mg | ⟨mg, bl, nn⟩⟩
      · exact ld_glob T3 gl mg q db
      · exact ld_blt T3 gl mg bl q nn db
    refine asked (matches_.here ?_)
    cases yn with
    | false =>
      show wpAny _ X.A (handleBy (.ref a) X.env []) _ _ _
      refine wpAny_handleBy_nil ?_
      obtain ⟨_, _, _, _, _, T, _, _, e, _, f, f1, _⟩ := id F3
      unfold PySem.passOn
      refine wpAny_bind (wpAny_field e f f1 ?_)
      rw [if_neg (by simp)]
      have fly : wpAny (model X.prog X.w) X.A (setFlight (.ref a) X.env.frame) (fun _ t4 => wpAny (model X.prog X.w) X.A (throw (.ref a) : Sem Flow) (SP X pins D) X.xe t4) X.xe { t with heap := h3 } := by
        rw [frm]
        exact HandSPX.setFlight_upZ F3 fun h4 F4 up4 => wpAny_throw (tk _ _ ⟨a, B, tI, pins, σ1, H1, cls, d, rfl, J, nb, (up.trans up3).trans up4, .inr (.inr (stk ▸ F4)), na, os, ag, no rfl⟩)
      first
        | exact wpAny_bind (wpAny_pure (wpAny_bind fly))
        | exact wpAny_bind fly
    | true =>
      refine codeAny_handlers_suite_as (HandSPX.lands_againZ F3 fun h4 F4 up4 => ?_)
      have G4 : Inv X pins σ1 H1 { t with heap := h4 } := J.landed nb F4.1 ((up.trans up3).trans up4) os ag
      obtain ⟨u4, fl4, get4, z4, dat4⟩ := F4.there
      have T4 := G4.suite get4 dat4 na noL noF
      refine store_ok (X := X.suite a ((a, u4) :: (X.pn ++ pins))) (v := .ref a) T4 nod ix here rfl (fun t5 T5 => ?_) (Or.inr loc)
      refine wpAny_mono ((hu a u4 cls d (X.pn ++ pins) z4 ⟨_, dat4⟩).run [] t5 _ H1 _ T5 (yes rfl a na)) (fun f t6 r => ?_) (fun _ _ z => z.elim)
      have leave : ∀ {σ6 : L2.St} {H6 : Hp} {Q : Shared → Prop}, Inv (X.suite a ((a, u4) :: (X.pn ++ pins))) [] σ6 H6 t6 → (∀ t7, Inv X pins (σ6.set i none) (upd H6 a (XO cls d a)) t7 → Q t7) →
          wpAny (model X.prog X.w) X.A (do bindName X.env n .none; unbindBehindTheSuite X.env n q2) (fun _ t7 => Q t7) X.xe t6 := by
        intro σ6 H6 Q T6 hq
        obtain ⟨e6, n6, _⟩ := T6.pin (a, u4) (List.mem_append_left _ List.mem_cons_self)
        have cells : ∀ y z, X.env.cells.lookup y = some z → z ≠ a := fun y z e q => by
          obtain ⟨v, ob, e7, dc⟩ := T6.cell y z e
          rw [q] at e7
          cases e6.symm.trans e7
          rw [dat4] at dc; cases dc
        exact gone_ok (track (T6.unsuite I.ok) n0 n6 noL cells apart (xo_ok e6 z4 dat4)) nod ix loc hq
      cases f with
      | next => exact let ⟨σ6, H6, T6, q⟩ := r; leave T6 fun t7 J7 => ⟨_, _, J7, q⟩
      | brk => exact let ⟨σ6, H6, T6, q⟩ := r; leave T6 fun t7 J7 => ⟨_, _, J7, q⟩
      | cont => exact let ⟨σ6, H6, T6, q⟩ := r; leave T6 fun t7 J7 => ⟨_, _, J7, q⟩
      | ret v => exact let ⟨v6, σ6, H6, T6, rv, q⟩ := r; leave T6 fun t7 J7 => ⟨_, _, _, J7, rv, q⟩
  refine wpAny_Try_except (wpAny_mono ((hb (wOut X.K c i ts Wo D) (X.pn ++ pins) _ catch_ PassesOwn.looking).run [] s σ H D (I.toTry _) h) (fun f t r => ?_) fun _ _ z => z)
  cases f with
  | next => exact let ⟨σ6, H6, T6, q⟩ := r; wpAny_execs_nil ⟨σ6, H6, T6.ofTry I.ok, q⟩
  | brk => exact let ⟨σ6, H6, T6, q⟩ := r; ⟨σ6, H6, T6.ofTry I.ok, q⟩
  | cont => exact let ⟨σ6, H6, T6, q⟩ := r; ⟨σ6, H6, T6.ofTry I.ok, q⟩
  | ret v => exact let ⟨v6, σ6, H6, T6, rv, q⟩ := r; ⟨v6, σ6, H6, T6.ofTry I.ok, rv, q⟩
end
/-! isinstance and fields of such -/
/-- the exception's dict, if it has one, is told of -/
def XD (H : Hp) (d : Option Addr) : Prop := ∀ b, d = some b → ∃ fs, H b = some (.xd fs)
theorem xd_none {H : Hp} : XD H none := fun _ z => nomatch z
theorem xd_some {H : Hp} {b : Addr} {fs : List (Str × V)} (h : H b = some (.xd fs)) : XD H (some b) := fun c z => by cases z; exact ⟨fs, h⟩
theorem xo_inst {X : Cx} {pins : List (Addr × Obj)} {σ : L2.St} {H : Hp} {s : Shared} {a D : Addr} {d : Option Addr} (I : Inv X pins σ H s) (h : H a = some (XO (.ref D) d a)) (hd : XD H d) : ∃ u od, PySem.W.InstAt s.heap a u D od := by
  obtain ⟨⟨u, fl, e, z, f⟩, _, _⟩ := I.hok a _ h
  have nc : PySem.W.notCls u = true := by unfold PySem.W.notCls; rw [f]
  cases d with
  | none => exact ⟨u, none, e, z.1, nc, by rw [z.2]; trivial⟩
  | some b =>
    obtain ⟨fs, hb⟩ := hd b rfl
    obtain ⟨m, ns, _⟩ := I.hok b _ hb
    obtain ⟨o, ho, _⟩ := lookIn_ns ns
    exact ⟨u, some o, e, z.1, nc, by rw [z.2]; exact ho⟩
/-- isinstance(x, c), x such an exception -/
def rIsX (K : PySem.W.Frag) : List V → Hp → VK → Prop := fun xs H Q => ∃ (a D : Addr) (d : Option Addr) (c : V) (cv : Value) (yn : Bool), xs = [.ref a, c] ∧ H a = some (XO (.ref D) d a) ∧ XD H d ∧ ExcC K D ∧ ClsV c cv ∧ PySem.W.kitOne K (.ref D) cv = some yn ∧ Q (.bl yn) H
/-- isinstance(x, (c1, c2, ..)), x such an exception -/
def rIsXT (K : PySem.W.Frag) : List V → Hp → VK → Prop := fun xs H Q => ∃ (a D : Addr) (d : Option Addr) (tp : Addr) (cs : List V) (cvs : List Value) (yn : Bool), xs = [.ref a, .ref tp] ∧ H a = some (XO (.ref D) d a) ∧ XD H d ∧ ExcC K D ∧
  H tp = some (.tup cs) ∧ Paired ClsV cs cvs ∧ PySem.W.kitAny K (.ref D) cvs = some yn ∧ Q (.bl yn) H
theorem kit_x {K : PySem.W.Frag} {a D : Addr} {u : Obj} {od : Option Obj} (C : ExcC K D) : PySem.W.KitX K (.ref a) (.ref D) (fun h => PySem.W.InstAt h a u D od) := by
  refine PySem.W.kitx_exc ?_ C.hg C.hk C.hs C.ha C.hn C.ht C.hm
  obtain ⟨cd, e, _⟩ := PySem.W.any_some C.hd
  rw [e]; rfl
section
variable {X : Cx}
theorem cl_isX : CallR X (.builtin "isinstance") (rIsX X.K) := by
  intro pins s σ H xs us Q I r h
  obtain ⟨a, D, d, c, cv, yn, rfl, ha, hd, C, k, e, q⟩ := h
  obtain ⟨w1, w2, rfl, r1, r2⟩ := vals2 r
  cases k.eq r2
  cases (show w1 = Value.ref a from r1)
  obtain ⟨u, od, J⟩ := xo_inst I ha hd
  exact PySem.W.kia_one (kit_x C) I.kIn J e (fun z => nomatch z) fun tk => ⟨.bl yn, H, I.tok tk, rfl, q⟩
theorem cl_isXT : CallR X (.builtin "isinstance") (rIsXT X.K) := by
  intro pins s σ H xs us Q I r h
  obtain ⟨a, D, d, tp, cs, cvs, yn, rfl, ha, hd, C, ht, k, e, q⟩ := h
  obtain ⟨w1, w2, rfl, r1, r2⟩ := vals2 r
  cases (show w1 = Value.ref a from r1)
  cases (show w2 = Value.ref tp from r2)
  obtain ⟨u, od, J⟩ := xo_inst I ha hd
  obtain ⟨_, its, rv, ob, get, c1, n, c2⟩ := I.hok tp _ ht
  cases ClsV.all k rv
  obtain ⟨oc, odd, dt, sl⟩ := ob
  dsimp only at c1 c2
  subst c1 c2
  exact PySem.W.kia_tup (kit_x C) I.kIn J get e (fun z => nomatch z) fun tk => ⟨.bl yn, H, I.tok tk, rfl, q⟩
/-- x.f, x such an exception -/
def tXA (K : PySem.W.Frag) (f : Str) (te : TE) : TE := fun σ H Q => te σ H fun x H1 => ∃ (a D b : Addr) (fs : List (Str × V)) (v : V), x = .ref a ∧ H1 a = some (XO (.ref D) (some b) a) ∧ H1 b = some (.xd fs) ∧ fs.lookup f = some v ∧ XfC K D ∧ PySem.W.findIn K (.ref D) f = some none ∧ Q v H1
theorem pe_xa {e : Expr} {te : TE} {f : Str} {pos : Pos} (he : PE X e te) (hb : attributeBase e f X.env (eval e X.env) = eval e X.env := by rfl) : PE X (.Attribute e f pos) (tXA X.K f te) := by
  constructor
  intro pins s σ H Q I h
  refine attr_of hb (thn (he.run pins s σ H _ I h) fun u s1 z => ?_)
  obtain ⟨x, H1, I1, rx, a, D, b, fs, v, rfl, ha, hb, l, C, no, q⟩ := z
  cases (show u = Value.ref a from rx)
  obtain ⟨⟨u, fl, e, z, f⟩, _, _⟩ := I1.hok a _ ha
  obtain ⟨m, ns, rel⟩ := I1.hok b _ hb
  obtain ⟨o, ho, look⟩ := lookIn_ns ns
  have rl := rel ‹Str›
  rw [l] at rl
  obtain ⟨w, mw, rw_⟩ := RelO.some_of rl
  have J : PySem.W.InstAt s1.heap a u D (some o) := ⟨e, z.1, by unfold PySem.W.notCls; rw [f], by rw [z.2]; exact ho⟩
  exact HandSPX.exc_get I1.kIn J C.ga C.gg C.exC (PySem.W.findObj_own C.hdC no rfl (by rw [look, mw])) (handed_of rw_) ⟨v, H1, I1.tok _, rw_, q⟩
end
/-! calls of methods that may let an exception out, at the slots as they stand -/
def tMethX (C : Addr) (m : Str) (sp : Sp) (E : L2.St → XK) (ta : TE) (t : TA) : TE := fun σ H Q => ta σ H fun x H1 => ∃ a dx fs, x = .ref a ∧ H1 a = some (.ins C dx fs) ∧ fs.lookup m = none ∧ t σ H1 fun vs H2 => sp (.ref a :: vs) H2 Q (E σ)
section
variable {X : Cx} {Y : CXT} {k : Nat} {f C : Addr} {fd : FuncData} {ps : List Str} {sp : Sp} {E : L2.St → XK} {x m : Str} {p pos apos : Pos} {e o : Expr} {es : List Expr} {ta : TE} {t : TA} {pl : Sem Bool}
theorem pe_methX (he : PE X o ta) (c : Cls X.K C) (hm : Meth X.K C m f) (F : FnOk X.prog X.w X.K X.mg X.base Y k f fd ps sp) (hr : Room k X.A) (hb : Binds X.K fd ps []) (hx : ∀ σ, PassesAt Y X σ (E σ)) (ha : PA X (e :: es) t)
    (h1 : starEach (e :: es) X.env = (false, eval e X.env) :: starEach es X.env := by rfl) (h2 : (backTo pos (starEach es X.env)).any (·.1) = false := by rfl)
    (h3 : eval (.Call (.Attribute o m apos) (e :: es) [] pos) X.env = (do let v ← eval o X.env; standAt apos.atName; let (g, u) ← holding [v] (getMethod v m pl); callWith pos g u (backTo pos (starEach (e :: es) X.env)) (backToKw pos (keywordEach [] X.env))) := by rfl) :
    PE X (.Call (.Attribute o m apos) (e :: es) [] pos) (tMethX C m sp E ta t) := by
  constructor
  intro pins s σ H Q I h
  refine PySem.W.methodCall_KW (pl := pl) (thn (he.run pins s σ H _ I h) fun u t1 z => ?_) h3
  obtain ⟨y, H1, I1, ry, a, dx, fs, rfl, at_, no, z⟩ := z
  cases (show u = Value.ref a from ry)
  refine getmeth_ok I1 at_ c hm no (PySem.W.callWith_K (first := [.ref a]) (h₀ := X.base) I.ok.mod.kin hm.kp (thn (ha.run pos pins t1 σ H1 _ I1 z) fun us t2 y => ?_) h1 h2)
  obtain ⟨vs, H2, I2, r, q⟩ := y
  exact ⟨I2.kIn, run_fnS (us := .ref a :: us) (vs := .ref a :: vs) F hr hb (hx σ) I2 (.cons rfl r) q⟩
theorem pe_methX0 (he : PE X o ta) (c : Cls X.K C) (hm : Meth X.K C m f) (F : FnOk X.prog X.w X.K X.mg X.base Y k f fd ps sp) (hr : Room k X.A) (hb : Binds X.K fd ps []) (hx : ∀ σ, PassesAt Y X σ (E σ))
    (h3 : eval (.Call (.Attribute o m apos) [] [] pos) X.env = (do let v ← eval o X.env; standAt apos.atName; let (g, u) ← holding [v] (getMethod v m pl); callWith pos g u (backTo pos (starEach [] X.env)) (backToKw pos (keywordEach [] X.env))) := by rfl) :
    PE X (.Call (.Attribute o m apos) [] [] pos) (tMethX C m sp E ta tNil) := by
  constructor
  intro pins s σ H Q I h
  refine PySem.W.methodCall_KW (pl := pl) (thn (he.run pins s σ H _ I h) fun u t1 z => ?_) h3
  obtain ⟨y, H1, I1, ry, a, dx, fs, rfl, at_, no, z⟩ := z
  cases (show u = Value.ref a from ry)
  exact getmeth_ok I1 at_ c hm no (PySem.W.callWith_K0 (first := [.ref a]) I1.kIn hm.kp (run_fnS (us := [.ref a]) (vs := [.ref a]) F hr hb (hx σ) I1 (.cons rfl .nil) z))
theorem pe_callX0 (F : FnOk X.prog X.w X.K X.mg X.base Y k f fd ps sp) (hr : Room k X.A) (hg : Gl X x) (hm : X.mg x = some (.ref f)) (hk : PySem.W.keepIn X.K (.ref f) = true) (hb : Binds X.K fd ps []) (hx : ∀ σ, PassesAt Y X σ (E σ))
    (hd : (x == ("__debug__" : Str)) = false := by decide) : PE X (.Call (.Name x p) [] [] pos) (tCallS sp E tNil) := by
  constructor
  intro pins s σ H Q I h
  exact wpAny_Call_Name_kw (ld_glob I hg hm (PySem.W.callWith_K0 I.kIn hk (run_fnS (us := []) F hr hb (hx σ) I .nil h)) hd)
end
/-! steps -/
section
variable {K : PySem.W.Frag} {σ : L2.St} {H : Hp} {Q : VK} {ta te : TE} {tr t : TA} {sp : Sp} {E : L2.St → XK} {a b C D dx : Addr} {d : Option Addr} {fs : List (Str × V)} {f m : Str} {v c : V} {cv : Value} {yn : Bool} {cs : List V} {cvs : List Value} {W : WX}
theorem s_callS (z : t σ H fun vs H1 => sp vs H1 Q (E σ)) : tCallS sp E t σ H Q := z
theorem s_methX (hv : ∀ R : VK, R (.ref a) H → ta σ H R) (h : H a = some (.ins C dx fs)) (hm : fs.lookup m = none) (z : tr σ H fun vs H2 => sp (.ref a :: vs) H2 Q (E σ)) : tMethX C m sp E ta tr σ H Q := hv _ ⟨a, dx, fs, rfl, h, hm, z⟩
theorem s_isX (h : H a = some (XO (.ref D) d a)) (hd : XD H d) (C : ExcC K D) (hc : ClsV c cv) (e : PySem.W.kitOne K (.ref D) cv = some yn) (z : Q (.bl yn) H) : rIsX K [.ref a, c] H Q := ⟨a, D, d, c, cv, yn, rfl, h, hd, C, hc, e, z⟩
theorem s_isXT (h : H a = some (XO (.ref D) d a)) (hd : XD H d) (C : ExcC K D) (ht : H b = some (.tup cs)) (hc : Paired ClsV cs cvs) (e : PySem.W.kitAny K (.ref D) cvs = some yn) (z : Q (.bl yn) H) : rIsXT K [.ref a, .ref b] H Q := ⟨a, D, d, b, cs, cvs, yn, rfl, h, hd, C, ht, hc, e, z⟩
theorem s_xa (h : H a = some (XO (.ref D) (some b) a)) (hb : H b = some (.xd fs)) (l : fs.lookup f = some v) (C : XfC K D) (no : PySem.W.findIn K (.ref D) f = some none) (hv : ∀ R : VK, R (.ref a) H → te σ H R) (z : Q v H) : tXA K f te σ H Q :=
  hv _ ⟨a, D, b, fs, v, rfl, h, hb, l, C, no, z⟩
end
/-- a class of which none of some is an ancestor -/
theorem kitNone {K : PySem.W.Frag} {t : Value} : ∀ {cs : List Value}, (∀ c ∈ cs, PySem.W.kitOne K t c = some false) → PySem.W.kitAny K t cs = some false
  | [], _ => rfl
  | c :: cs, h => by
    unfold PySem.W.kitAny
    rw [h c List.mem_cons_self]
    exact kitNone fun z hz => h z (List.mem_cons_of_mem _ hz)
theorem own_all : ∀ l : List Addr, Paired ClsV (l.map V.ref) (l.map Value.ref)
  | [] => .nil
  | a :: l => .cons (.own a) (own_all l)
theorem kit_own {K : PySem.W.Frag} {D C : Addr} {yn : Bool} (hne : yn = false → D ≠ C) (hd : PySem.W.hasDictIn K C = true) (ht : PySem.W.typeIn K (.ref C) = some (.type "type")) (hs : PySem.W.subIn K (.ref D) (.ref C) = some yn) : PySem.W.kitOne K (.ref D) (.ref C) = some yn := by
  unfold PySem.W.kitOne
  by_cases e : D = C
  · rw [if_pos (by rw [e]; simp)]
    cases yn with
    | true => rfl
    | false => exact absurd e (hne rfl)
  · rw [if_neg (by simpa using e)]
    obtain ⟨cd, hc, _⟩ := PySem.W.any_some hd
    show (if _ then PySem.W.subIn K (.ref D) (.ref C) else none) = _
    rw [if_pos (by rw [hc, ht]; rfl)]
    exact hs
/-! one of several readings -/
def tEi (t u : TE) : TE := fun σ H Q => t σ H Q ∨ u σ H Q
theorem pe_ei {X : Cx} {e : Expr} {t u : TE} (h1 : PE X e t) (h2 : PE X e u) : PE X e (tEi t u) := ⟨fun pins s σ H Q I h => h.elim (h1.run pins s σ H Q I) (h2.run pins s σ H Q I)⟩
section
variable {K : PySem.W.Frag} {σ : L2.St} {H : Hp} {Q : VK} {t u te to : TE} {a p C dx : Addr} {fs : List (Str × V)} {cv : Value} {yn : Bool} {z : Str} {xs : List V} {ys : List Str}
theorem s_ei1 (h : t σ H Q) : tEi t u σ H Q := .inl h
theorem s_ei2 (h : u σ H Q) : tEi t u σ H Q := .inr h
theorem s_isiO (h : H p = some (.ins C dx fs)) (c : Cls K C) (ha : PySem.W.findIn K (.ref C) "__class__" = some (some (.builtin "object.__class__"))) (hn : PySem.W.specialIn K (.builtin "object.__class__") "__get__" = some (some (.builtin "getset_descriptor.__get__")))
    (ht : PySem.W.takesIn K (.builtin "object.__class__") = some true) (hm : PySem.W.mroIn K C (.type "object") = some true) {D : Addr} (e : PySem.W.kitOne K (.ref C) (.ref D) = some yn) (k : Q (.bl yn) H) : rIsi K [.ref p, .ref D] H Q :=
  ⟨_, _, _, _, yn, rfl, .own D, .base (.ins h c ha hn ht hm), e, k⟩
end
/-! join -/
def rJoin (K : PySem.W.Frag) : V → List V → Hp → VK → Prop := fun x xs H Q => ∃ a p, ∃ ys : List Str, x = .str a ∧ xs = [.ref p] ∧ (SqL K H p (ys.map V.str) ∨ SqT K H p (ys.map V.str)) ∧ (ys.map (·.length)).sum + ys.length * a.length ≤ 16777216 ∧ Q (.str (Txt.join a ys)) H
theorem mt_joinS {X : Cx} : MtR X "str.join" (rJoin X.K) := mt_join
theorem s_tM1 {σ : L2.St} {H : Hp} {Q : VK} {to te : TE} {r : V → List V → Hp → VK → Prop} {a : Str} (hv : ∀ R : VK, R (.str a) H → to σ H R) (z : te σ H fun y H2 => r (.str a) [y] H2 Q) : tM1 r to te σ H Q := hv _ ⟨⟨a, rfl⟩, z⟩
theorem s_join {K : PySem.W.Frag} {H : Hp} {Q : VK} {a : Str} {p : Addr} {ys : List Str} (h : SqL K H p (ys.map V.str)) (hl : (ys.map (·.length)).sum + ys.length * a.length ≤ 16777216) (z : ∀ w, w = Txt.join a ys → Q (.str w) H) : rJoin K (.str a) [.ref p] H Q := ⟨a, p, ys, rfl, rfl, .inl h, hl, z _ rfl⟩
theorem sum_le {m : Nat} : ∀ l : List Nat, (∀ x ∈ l, x ≤ m) → l.sum ≤ m * l.length
  | [], _ => by simp
  | x :: l, h => by
    have h1 := h x List.mem_cons_self
    have h2 := sum_le l fun y hy => h y (List.mem_cons_of_mem _ hy)
    rw [List.sum_cons, List.length_cons, Nat.mul_succ]
    omega
theorem s_outN {i : Nat} {a : Addr} {cls : Value} {d : Option Addr} {nx bk ct : L2.St → Hp → Prop} {rt : VK} {σ : L2.St} {H : Hp} (z : nx (σ.set i none) (upd H a (XO cls d a))) : (outE i a cls d ⟨nx, rt, bk, ct⟩).nx σ H := z
/-- an if whose test makes objects; the ways are joined -/
theorem s_ifKh {nx bk ct : L2.St → Hp → Prop} {rt : VK} {tt : TT} {ts tu : TS} {P : Prop} {σ : L2.St} {H : Hp} (M : L2.St → Hp → Prop) (ht : ∀ T : Bool → Hp → Prop, (∀ H', Same H H' → P → T true H') → (∀ H', Same H H' → ¬ P → T false H') → tt σ H T)
    (h1 : P → ∀ (H1 : Hp) (N : L2.St → Hp → Prop), Same H H1 → (∀ σ' H', M σ' H' → N σ' H') → ts ⟨N, rt, bk, ct⟩ σ H1) (h2 : ¬ P → ∀ (H1 : Hp) (N : L2.St → Hp → Prop), Same H H1 → (∀ σ' H', M σ' H' → N σ' H') → tu ⟨N, rt, bk, ct⟩ σ H1) (z : ∀ σ' H', M σ' H' → nx σ' H') : tIfK tt ts tu ⟨nx, rt, bk, ct⟩ σ H :=
  ht _ (fun H1 s hp => s_iteT (h1 hp H1 _ s z)) fun H1 s hp => s_iteF (h2 hp H1 _ s z)
/-! an exception with a field of its own is made -/
theorem oex_heap {H : Hp} {a d : Addr} {o1 o2 o3 o4 : HO} (ha : H a = none) (hd : d ≠ a) : upd (del (upd (upd (upd H a o1) d o2) a o3) a) d o4 = upd H d o4 := by
  funext b
  by_cases h : b = d
  · rw [h, upd_same, upd_same]
  · rw [upd_ne h, upd_ne h]
    by_cases g : b = a
    · rw [g, del_same, ha]
    · rw [del_ne g, upd_ne g, upd_ne h, upd_ne g]
/-- C(v), C's __init__ storing v as f -/
theorem s_mkO {C : Addr} {sp : Sp} {σ : L2.St} {H : Hp} {Q : XK} {t : TA} {f : Str} {v : V} (ht : ∀ R : List V → Hp → Prop, R [v] H → t σ H R)
    (hs : ∀ (a : Addr) (H' : Hp) (Q' : VK), H' a = some (exo a C none) → (∀ dx, H' dx = none → dx ≠ a → Q' .non (upd (upd H' dx (exd dx [(f, v)])) a (exo a C (some dx)))) → sp [.ref a, v] H' Q' (fun _ _ _ => False))
    (z : ∀ d, H d = none → Q (.ref C) (some d) (upd H d (.xd [(f, v)]))) : tMkO C sp [] t σ H Q := by
  refine ht _ ⟨by show 1 ≤ 1000; decide, fun a ha => ?_⟩
  refine hs a _ _ upd_same fun dx nd ne => ⟨rfl, dx, [(f, v)], upd_same, ?_, ?_, ?_⟩
  · rw [upd_ne ne, upd_same]
  · rw [upd_ne ne] at nd; exact nd
  · rw [upd_ne ne] at nd
    rw [oex_heap ha ne]
    exact z dx nd
theorem s_ost {K : PySem.W.Frag} {f : Str} {to te : TE} {nx bk ct : L2.St → Hp → Prop} {rt : VK} {σ : L2.St} {H : Hp} {a C : Addr} {v : V} (he : ∀ R : VK, R v H → te σ H R) (ho : ∀ R : VK, R (.ref a) H → to σ H R) (T : OexC K C) (no : PySem.W.findIn K (.ref C) f = some none) (h : H a = some (exo a C none))
    (z : ∀ dx, H dx = none → dx ≠ a → nx σ (upd (upd H dx (exd dx [(f, v)])) a (exo a C (some dx)))) : tOst K f to te ⟨nx, rt, bk, ct⟩ σ H := he _ (ho _ ⟨a, C, rfl, T, no, .inl ⟨h, z⟩⟩)
end Jl

/-! Data at any depth: read by its shape; made in cells that are still written (active) over a part that stands (frozen). -/
namespace Jl
open PySem L2
section
variable {K : PySem.W.Frag} {H H' Hf B : Hp} {x y v : V} {a b p : Addr} {o u : HO} {xs ys : List V} {d e : PyData} {ds es : List PyData} {A : List Addr}
theorem dp_list (h : Dp K H x (.list ds)) : ∃ a xs, x = .ref a ∧ SqL K H a xs ∧ DpAll K H xs ds := by
  cases h with
  | lst h1 h2 => exact ⟨_, _, rfl, h1, h2⟩
theorem dp_tup (h : Dp K H x (.tuple ds)) : ∃ a xs, x = .ref a ∧ SqT K H a xs ∧ DpAll K H xs ds := by
  cases h with
  | tup h1 h2 => exact ⟨_, _, rfl, h1, h2⟩
theorem dp_int {i : Int} (h : Dp K H x (.int i)) : x = .int i := by cases h; rfl
theorem dp_str {z : Str} (h : Dp K H x (.str z)) : x = .str z := by cases h; rfl
theorem dp_bl {c : Bool} (h : Dp K H x (.bool c)) : x = .bl c := by cases h; rfl
theorem dp_non (h : Dp K H x .none) : x = .non := by cases h; rfl
theorem da_nil (h : DpAll K H xs []) : xs = [] := by cases h; rfl
theorem da_cons (h : DpAll K H xs (d :: ds)) : ∃ v vs, xs = v :: vs ∧ Dp K H v d ∧ DpAll K H vs ds := by
  cases h with
  | cons h1 h2 => exact ⟨_, _, rfl, h1, h2⟩
theorem da_int {i : Int} (h : DpAll K H xs (.int i :: ds)) : ∃ vs, xs = .int i :: vs ∧ DpAll K H vs ds := by
  obtain ⟨v, vs, rfl, h1, h2⟩ := da_cons h
  cases dp_int h1
  exact ⟨vs, rfl, h2⟩
theorem da_str {i : Str} (h : DpAll K H xs (.str i :: ds)) : ∃ vs, xs = .str i :: vs ∧ DpAll K H vs ds := by
  obtain ⟨v, vs, rfl, h1, h2⟩ := da_cons h
  cases dp_str h1
  exact ⟨vs, rfl, h2⟩
theorem da_bl {i : Bool} (h : DpAll K H xs (.bool i :: ds)) : ∃ vs, xs = .bl i :: vs ∧ DpAll K H vs ds := by
  obtain ⟨v, vs, rfl, h1, h2⟩ := da_cons h
  cases dp_bl h1
  exact ⟨vs, rfl, h2⟩
theorem da_ref {d : PyData} (h : DpAll K H xs (d :: ds)) (hd : ∀ v, Dp K H v d → ∃ a, v = .ref a) : ∃ a vs, xs = .ref a :: vs ∧ Dp K H (.ref a) d ∧ DpAll K H vs ds := by
  obtain ⟨v, vs, rfl, h1, h2⟩ := da_cons h
  obtain ⟨a, rfl⟩ := hd v h1
  exact ⟨a, vs, rfl, h1, h2⟩
theorem da_len : ∀ {xs : List V} {ds : List PyData}, DpAll K H xs ds → xs.length = ds.length
  | _, [], h => by rw [da_nil h]; rfl
  | _, d :: ds, h => by
    obtain ⟨v, vs, rfl, _, h2⟩ := da_cons h
    rw [List.length_cons, List.length_cons, da_len h2]
theorem da_get : ∀ {xs : List V} {ds : List PyData} {i : Nat} {x : V}, DpAll K H xs ds → xs[i]? = some x → ∃ d, ds[i]? = some d ∧ Dp K H x d
  | _, [], i, x, h, e => by rw [da_nil h] at e; cases e
  | _, d :: ds, i, x, h, e => by
    obtain ⟨v, vs, rfl, h1, h2⟩ := da_cons h
    cases i with
    | zero => cases e; exact ⟨d, rfl, h1⟩
    | succ i => exact da_get (i := i) h2 e
theorem da_at : ∀ {xs : List V} {ds : List PyData} {i : Nat} {d : PyData}, DpAll K H xs ds → ds[i]? = some d → ∃ x, xs[i]? = some x ∧ Dp K H x d
  | _, [], i, d, h, e => by cases e
  | _, d' :: ds, i, d, h, e => by
    obtain ⟨v, vs, rfl, h1, h2⟩ := da_cons h
    cases i with
    | zero => cases e; exact ⟨v, rfl, h1⟩
    | succ i => exact da_at (i := i) h2 e
theorem da_app : ∀ {xs ys : List V} {ds es : List PyData}, DpAll K H xs ds → DpAll K H ys es → DpAll K H (xs ++ ys) (ds ++ es)
  | _, ys, [], es, h, h2 => by rw [da_nil h]; exact h2
  | _, ys, d :: ds, es, h, h2 => by
    obtain ⟨v, vs, rfl, h1, h3⟩ := da_cons h
    exact .cons h1 (da_app h3 h2)
theorem da_one (h : Dp K H x d) : DpAll K H [x] [d] := .cons h .nil
theorem da_split : ∀ {xs : List V} {ds es : List PyData}, DpAll K H xs (ds ++ es) → ∃ ys zs, xs = ys ++ zs ∧ DpAll K H ys ds ∧ DpAll K H zs es
  | xs, [], es, h => ⟨[], xs, rfl, .nil, h⟩
  | xs, d :: ds, es, h => by
    obtain ⟨v, vs, rfl, h1, h3⟩ := da_cons h
    obtain ⟨ys, zs, rfl, h4, h5⟩ := da_split h3
    exact ⟨v :: ys, zs, rfl, .cons h1 h4, h5⟩
theorem da_drop : ∀ {n : Nat} {xs : List V} {ds : List PyData}, DpAll K H xs ds → DpAll K H (xs.drop n) (ds.drop n)
  | 0, _, _, h => h
  | n + 1, xs, [], h => by rw [da_nil h]; exact .nil
  | n + 1, xs, d :: ds, h => by
    obtain ⟨v, vs, rfl, _, h3⟩ := da_cons h
    exact da_drop (n := n) h3
theorem da_take : ∀ {n : Nat} {xs : List V} {ds : List PyData}, DpAll K H xs ds → DpAll K H (xs.take n) (ds.take n)
  | 0, _, _, h => .nil
  | n + 1, xs, [], h => by rw [da_nil h]; exact .nil
  | n + 1, xs, d :: ds, h => by
    obtain ⟨v, vs, rfl, h1, h3⟩ := da_cons h
    exact .cons h1 (da_take (n := n) h3)
theorem da_ints : ∀ {xs : List V} {ns : List Int}, DpAll K H xs (ns.map PyData.int) → xs = ns.map V.int
  | _, [], h => da_nil h
  | _, n :: ns, h => by
    obtain ⟨vs, rfl, h2⟩ := da_int h
    rw [da_ints h2]; rfl
theorem da_strs : ∀ {xs : List V} {ns : List Str}, DpAll K H xs (ns.map PyData.str) → xs = ns.map V.str
  | _, [], h => da_nil h
  | _, n :: ns, h => by
    obtain ⟨vs, rfl, h2⟩ := da_str h
    rw [da_strs h2]; rfl
theorem dp_strs : ∀ ns : List Str, DpAll K H (ns.map V.str) (ns.map PyData.str)
  | [] => .nil
  | n :: ns => .cons (.str n) (dp_strs ns)
theorem dp_intl {ns : List Int} (h : Dp K H x (.list (ns.map PyData.int))) : ∃ a, x = .ref a ∧ SqL K H a (ns.map V.int) := by
  obtain ⟨a, xs, rfl, h1, h2⟩ := dp_list h
  rw [da_ints h2] at h1
  exact ⟨a, rfl, h1⟩
theorem dp_strl {ns : List Str} (h : Dp K H x (.list (ns.map PyData.str))) : ∃ a, x = .ref a ∧ SqL K H a (ns.map V.str) := by
  obtain ⟨a, xs, rfl, h1, h2⟩ := dp_list h
  rw [da_strs h2] at h1
  exact ⟨a, rfl, h1⟩
/-- data that stands in the part of a heap -/
theorem sqT_of (h : H a = some (.tup xs)) : SqT K H a xs := .inl (.inl h)
theorem sqL_of (h : H a = some (.lst xs)) : SqL K H a xs := .inl (.inl h)
/-! the shape of data -/
theorem shaped_of (h1 : d.canLay0 = true) (h2 : d.depth ≤ 64) : SeqAt.shaped d = true := Bool.and_eq_true_iff.mpr ⟨h1, decide_eq_true h2⟩
theorem lay_all {l : List PyData} : (∀ d ∈ l, d.canLay0 = true) → PyData.canLayAll0 l = true := by
  induction l with
  | nil => intro _; rfl
  | cons d l ih =>
    intro h
    show (d.canLay0 && PyData.canLayAll0 l) = true
    rw [h d List.mem_cons_self, ih fun z hz => h z (List.mem_cons_of_mem _ hz)]; rfl
theorem depth_all {n : Nat} {l : List PyData} : (∀ d ∈ l, d.depth ≤ n) → PyData.depthAll l ≤ n := by
  induction l with
  | nil => intro _; exact Nat.zero_le _
  | cons d l ih =>
    intro h
    show max d.depth (PyData.depthAll l) ≤ n
    have h1 := h d List.mem_cons_self
    have h2 := ih fun z hz => h z (List.mem_cons_of_mem _ hz)
    omega
theorem depth_list {n : Nat} {l : List PyData} (h : ∀ d ∈ l, d.depth ≤ n) : (PyData.list l).depth ≤ n + 1 := by
  have := depth_all h
  show PyData.depthAll l + 1 ≤ n + 1
  omega
theorem depth_tuple {n : Nat} {l : List PyData} (h : ∀ d ∈ l, d.depth ≤ n) : (PyData.tuple l).depth ≤ n + 1 := by
  have := depth_all h
  show PyData.depthAll l + 1 ≤ n + 1
  omega
theorem s_eqSame {Q : VK} (h1 : Dp K H x d) (h2 : Dp K H y d) (hs : SeqAt.shaped d = true) (z : Q (.bl true) H) : rEqD K x y H Q :=
  ⟨_, _, h1, h2, hs, hs, by rw [SeqAt.eqv_refl _ (SeqAt.canLay_of_shaped hs)]; exact z⟩
theorem s_neSame {Q : VK} (h1 : Dp K H x d) (h2 : Dp K H y d) (hs : SeqAt.shaped d = true) (z : Q (.bl false) H) : rNeD K x y H Q :=
  ⟨_, _, h1, h2, hs, hs, by rw [SeqAt.eqv_refl _ (SeqAt.canLay_of_shaped hs)]; exact z⟩
theorem eqv_strs : ∀ ns ms : List Str, PyData.eqvAll (ns.map PyData.str) (ms.map PyData.str) = decide (ns = ms)
  | [], [] => rfl
  | [], _ :: _ => rfl
  | _ :: _, [] => rfl
  | n :: ns, m :: ms => by
    show ((n == m) && PyData.eqvAll (ns.map PyData.str) (ms.map PyData.str)) = _
    rw [eqv_strs ns ms, Bool.eq_iff_iff]
    simp
theorem depth_strs : ∀ ns : List Str, PyData.depthAll (ns.map PyData.str) ≤ 0 := fun ns => depth_all fun d hd => by
  obtain ⟨s, _, rfl⟩ := List.mem_map.mp hd
  exact Nat.le_refl _
/-! cells that are still written -/
structure Act (B Hf H : Hp) (A : List Addr) : Prop where
  base : Same B Hf
  ext : Same Hf H
  free : ∀ a ∈ A, Hf a = none ∧ ∃ o, H a = some o
  nd : A.Nodup
theorem Act.start (H : Hp) : Act H H H [] := ⟨Same.refl _, Same.refl _, fun _ h => (by cases h), List.nodup_nil⟩
theorem Act.same (c : Act B Hf H A) : Same B H := c.base.trans c.ext
theorem Act.sm (c : Act B Hf H A) (s : Same H H') : Act B Hf H' A := ⟨c.base, c.ext.trans s, fun a ha => ⟨(c.free a ha).1, by obtain ⟨o, h⟩ := (c.free a ha).2; exact ⟨o, s _ _ h⟩⟩, c.nd⟩
theorem Act.upd (c : Act B Hf H A) (ha : a ∈ A) : Act B Hf (L2.upd H a o) A :=
  ⟨c.base, same_mut c.ext (c.free a ha).1, fun b hb => ⟨(c.free b hb).1, by
    by_cases e : b = a
    · rw [e, upd_same]; exact ⟨_, rfl⟩
    · rw [upd_ne e]; exact (c.free b hb).2⟩, c.nd⟩
theorem Act.out (c : Act B Hf H A) (hp : H p = none) : p ∉ A := fun h => by
  obtain ⟨o, e⟩ := (c.free p h).2
  rw [hp] at e; cases e
theorem Act.new (c : Act B Hf H A) (hp : H p = none) : Act B (L2.upd Hf p o) (L2.upd H p o) A := by
  have hf := c.ext.free hp
  refine ⟨c.base.trans (same_upd hf), fun b u e => ?_, fun b hb => ?_, c.nd⟩
  · by_cases q : b = p
    · rw [q, upd_same] at e ⊢; exact e
    · rw [upd_ne q] at e ⊢; exact c.ext b u e
  · have q : b ≠ p := fun q => c.out hp (q ▸ hb)
    rw [upd_ne q, upd_ne q]; exact c.free b hb
theorem Act.newA (c : Act B Hf H A) (hp : H p = none) : Act B Hf (L2.upd H p o) (p :: A) := by
  refine ⟨c.base, c.ext.trans (same_upd hp), fun b hb => ?_, List.nodup_cons.mpr ⟨c.out hp, c.nd⟩⟩
  rcases List.mem_cons.mp hb with rfl | hb
  · exact ⟨c.ext.free hp, _, upd_same⟩
  · have q : b ≠ p := fun q => c.out hp (q ▸ hb)
    rw [upd_ne q]; exact c.free b hb
theorem Act.fz (c : Act B Hf H (a :: A)) (e : H a = some o) : Act B (L2.upd Hf a o) H A := by
  have n := List.nodup_cons.mp c.nd
  refine ⟨c.base.trans (same_upd (c.free a List.mem_cons_self).1), fun b u h => ?_, fun b hb => ?_, n.2⟩
  · by_cases q : b = a
    · rw [q, upd_same] at h; rw [q, e]; exact h
    · rw [upd_ne q] at h; exact c.ext b u h
  · have q : b ≠ a := fun q => n.1 (q ▸ hb)
    rw [upd_ne q]; exact c.free b (List.mem_cons_of_mem _ hb)
theorem Act.fz_same (c : Act B Hf H (a :: A)) : Same Hf (L2.upd Hf a o) := same_upd (c.free a List.mem_cons_self).1
theorem Act.perm {A' : List Addr} (c : Act B Hf H A) (h : A.Perm A') : Act B Hf H A' := ⟨c.base, c.ext, fun a ha => c.free a (h.mem_iff.mpr ha), h.nodup_iff.mp c.nd⟩
theorem Act.sub {A' : List Addr} (c : Act B Hf H A) (h : A'.Sublist A) : Act B Hf H A' := ⟨c.base, c.ext, fun a ha => c.free a (h.subset ha), h.nodup c.nd⟩
theorem Act.frz (c : Act B Hf H A) (hp : H p = some o) (hA : p ∉ A) : ∃ Hg, Same Hf Hg ∧ Act B Hg H A ∧ Hg p = some o := by
  cases hf : Hf p with
  | some u =>
    have := c.ext _ _ hf
    rw [hp] at this
    cases this
    exact ⟨Hf, Same.refl _, c, hf⟩
  | none =>
    refine ⟨L2.upd Hf p o, same_upd hf, ⟨c.base.trans (same_upd hf), fun b u h => ?_, fun b hb => ?_, c.nd⟩, upd_same⟩
    · by_cases q : b = p
      · rw [q, upd_same] at h; rw [q, hp]; exact h
      · rw [upd_ne q] at h; exact c.ext b u h
    · have q : b ≠ p := fun q => hA (q ▸ hb)
      rw [upd_ne q]; exact c.free b hb
end
end Jl

/-! Dicts from ints to ints. -/
namespace Jl
open PySem L2
def DI (H : Hp) (m : Addr) (f : Int → Option Int) (n : Nat) : Prop := ∃ kvs : List (Key × V), H m = some (.dK kvs) ∧ kvs.length ≤ n ∧ ∀ a : Int, valV kvs (Sum.inl a : Key) = (f a).map V.int
section
variable {H H' : Hp} {m p : Addr} {f : Int → Option Int} {n : Nat}
theorem DI.same (s : Same H H') (D : DI H m f n) : DI H' m f n := by
  obtain ⟨k, h1, h2, h3⟩ := D
  exact ⟨k, s _ _ h1, h2, h3⟩
theorem DI.to (D : DI H m f n) (e : H' m = H m) : DI H' m f n := by
  obtain ⟨k, h1, h2, h3⟩ := D
  exact ⟨k, e.trans h1, h2, h3⟩
theorem DI.off {o : HO} (D : DI H m f n) (e : p ≠ m) : DI (upd H p o) m f n := D.to (upd_ne e.symm)
theorem DI.get (D : DI H m f n) (a : Int) : DGet H m (.int a) ((f a).map V.int) := by
  obtain ⟨k, h1, h2, h3⟩ := D
  rw [← h3 a]
  exact DGet.k (k := kI a) h1
theorem DI.some_ {a w : Int} (D : DI H m f n) (e : f a = some w) : DGet H m (.int a) (some (.int w)) := by
  have := D.get a
  rw [e] at this
  exact this
theorem DI.put (D : DI H m f n) (hn : n ≤ 99999) (a w : Int) : ∃ o, DPut H m (.int a) (.int w) (upd H m o) ∧ DI (upd H m o) m (memPut f a w) (n + 1) := by
  obtain ⟨k, h1, h2, h3⟩ := D
  refine ⟨_, DPut.k (k := kI a) (v := .int w) h1 (small5' (by omega)), _, upd_same, ?_, fun b => ?_⟩
  · have := length_putK k (kI a) (V.int w)
    omega
  · rw [valV_put]
    show _ = (memPut f a w b).map V.int
    unfold memPut
    by_cases q : b = a
    · rw [if_pos (by rw [q]; rfl), if_pos q]; rfl
    · rw [if_neg (show ¬ (Sum.inl b : Key) = kI a from fun y => q (Sum.inl.inj y)), if_neg q]; exact h3 b
theorem DI.new : DI (upd H m (.dK [])) m (fun _ => none) 0 := ⟨[], upd_same, Nat.le_refl _, fun a => rfl⟩
theorem DI.le {k : Nat} (D : DI H m f n) (h : n ≤ k) : DI H m f k := by
  obtain ⟨k', h1, h2, h3⟩ := D
  exact ⟨k', h1, Nat.le_trans h2 h, h3⟩
theorem memPut_eq {a w : Int} : memPut f a w a = some w := if_pos rfl
theorem memPut_ne {a w x : Int} (h : x ≠ a) : memPut f a w x = f x := if_neg h
end
section
variable {K : PySem.W.Frag} {σ : L2.St} {H : Hp} {Q : VK} {to : TE} {p : Addr} {xs : List V} {kvs : List (Key × V)} {T : String} {nx bk ct : L2.St → Hp → Prop} {rt : VK} {tl : TE} {tu : TS}
theorem s_BM0 {r : V → List V → Hp → VK → Prop} (z : to σ H fun x H1 => tyV K T x H1 ∧ r x [] H1 Q) : tBM0 K T r to σ H Q := z
theorem s_clear (h : H p = some (.lst xs)) (z : Q .non (upd H p (.lst []))) : rClear (.ref p) [] H Q := ⟨p, xs, rfl, rfl, h, z⟩
theorem s_dclear (h : H p = some (.dK kvs)) (z : Q .non (upd H p (.dK []))) : tyV K "dict" (.ref p) H ∧ rDClear (.ref p) [] H Q := ⟨.inr (.inr (.inl ⟨rfl, .inl ⟨kvs, h⟩⟩)), p, kvs, rfl, rfl, h, z⟩
/-- a loop over a list made for it -/
theorem s_forN {k : Nat} {xs : List V} (Pv : Addr → Nat → L2.St → Hp → Prop) (ha : ∀ R : VK, (∀ a, H a = none → R (.ref a) (upd H a (.lst xs))) → tl σ H R) (h0 : ∀ a, H a = none → Pv a 0 σ (upd H a (.lst xs)))
    (hl : ∀ a i σ' H', H a = none → i ≤ xs.length → Pv a i σ' H' → SqL K H' a xs)
    (hs : ∀ (a : Addr) (i : Nat) x σ' H', H a = none → xs[i]? = some x → Pv a i σ' H' → tu ⟨Pv a (i + 1), rt, nx, Pv a (i + 1)⟩ (σ'.set k (some x)) H') (hd : ∀ a σ' H', H a = none → Pv a xs.length σ' H' → nx σ' H') : tFor (iList K tl) (gName k) tu ⟨nx, rt, bk, ct⟩ σ H := by
  refine ha _ fun a na => ⟨a, rfl, ⟨xs, sqU⟩, ?_⟩
  exact for_list (xs := xs) (Pv a) (h0 a na) (fun i σ' H' hi z => hl a i σ' H' na hi z) (fun i x σ' H' hi h => hs a i x σ' H' na hi h) (fun σ' H' h => hd a σ' H' na h)
end
section
variable {B Hf H H' : Hp} {A : List Addr} {p : Addr}
theorem Act.call (c : Act B Hf H A) (s : Same H H') (hp : H p = none) {o : HO} (e : H' p = some o) : Act B Hf H' (p :: A) := by
  refine ⟨c.base, c.ext.trans s, fun b hb => ?_, List.nodup_cons.mpr ⟨c.out hp, c.nd⟩⟩
  rcases List.mem_cons.mp hb with rfl | hb
  · exact ⟨c.ext.free hp, _, e⟩
  · obtain ⟨h1, o, h2⟩ := c.free b hb
    exact ⟨h1, o, s _ _ h2⟩
theorem Act.chg {C : List Addr} (c : Act B Hf H A) (k : ∀ b v, H b = some v → b ∉ C → H' b = some v) (hC : ∀ b ∈ C, b ∈ A ∧ ∃ o, H' b = some o) : Act B Hf H' A := by
  refine ⟨c.base, fun b u h => ?_, fun b hb => ⟨(c.free b hb).1, ?_⟩, c.nd⟩
  · refine k b u (c.ext b u h) fun hb => ?_
    have := (c.free b (hC b hb).1).1
    rw [h] at this; cases this
  · by_cases q : b ∈ C
    · exact (hC b q).2
    · obtain ⟨o, h⟩ := (c.free b hb).2
      exact ⟨o, k b o h q⟩
theorem Act.mach {C dx m r o : Addr} {st : MSt} (c : Act B Hf H A) (s : Same H H') (np : H p = none) (nm : H m = none) (nr : H r = none) (no : H o = none) (M : MachAt C H' p dx m r o st) : Act B Hf H' (p :: m :: r :: o :: A) := by
  obtain ⟨kvs, hm, _⟩ := M.dc
  have h1 := M.pm; have h2 := M.pr; have h3 := M.po; have h4 := M.rm; have h5 := M.om; have h6 := M.ne
  refine ⟨c.base, c.ext.trans s, fun b hb => ?_, ?_⟩
  · simp only [List.mem_cons] at hb
    rcases hb with rfl | rfl | rfl | rfl | hb
    · exact ⟨c.ext.free np, _, M.ob⟩
    · exact ⟨c.ext.free nm, _, hm⟩
    · exact ⟨c.ext.free nr, _, M.rg⟩
    · exact ⟨c.ext.free no, _, M.ou⟩
    · obtain ⟨h1, o, h2⟩ := c.free b hb
      exact ⟨h1, o, s _ _ h2⟩
  · simp only [List.nodup_cons, List.mem_cons, not_or]
    exact ⟨⟨h1, h2, h3, c.out np⟩, ⟨h4.symm, h5.symm, c.out nm⟩, ⟨h6, c.out nr⟩, c.out no, c.nd⟩
end
/-- a machine, and what a law holds beside it -/
structure Gp where
  p : Addr
  dx : Addr
  m : Addr
  r : Addr
  o : Addr
  a : Addr
  t : Addr
def Gp.cells (g : Gp) : List Addr := [g.p, g.m, g.r, g.o, g.t, g.a]
structure One (C : Addr) (H : Hp) (g : Gp) (s : MSt) : Prop where
  M : MachAt C H g.p g.dx g.m g.r g.o s
  row : H g.a = some (.lst (s.regs.map V.int))
  told : H g.t = some (.lst (s.outs.map V.int))
  nd : g.cells.Nodup
section
variable {C : Addr} {H H' : Hp} {g g0 g1 : Gp} {s : MSt} {P P' : MSt → Prop} {i : Nat}
theorem One.keep (h : One C H g s) (k : ∀ b v, H b = some v → b ∈ g.cells → H' b = some v) : One C H' g s := by
  obtain ⟨kvs, h1, h2, h3⟩ := h.M.dc
  exact ⟨⟨k _ _ h.M.ob (by simp [Gp.cells]), ⟨kvs, k _ _ h1 (by simp [Gp.cells]), h2, h3⟩, k _ _ h.M.rg (by simp [Gp.cells]), k _ _ h.M.ou (by simp [Gp.cells]), h.M.ne⟩, k _ _ h.row (by simp [Gp.cells]), k _ _ h.told (by simp [Gp.cells]), h.nd⟩
theorem One.same (h : One C H g s) (e : Same H H') : One C H' g s := h.keep fun b v hb _ => e b v hb
theorem One.has (h : One C H g s) : ∀ b ∈ g.cells, ∃ o, H b = some o := by
  obtain ⟨kvs, h1, _⟩ := h.M.dc
  intro b hb
  simp only [Gp.cells, List.mem_cons, List.not_mem_nil, or_false] at hb
  rcases hb with rfl | rfl | rfl | rfl | rfl | rfl
  · exact ⟨_, h.M.ob⟩
  · exact ⟨_, h1⟩
  · exact ⟨_, h.M.rg⟩
  · exact ⟨_, h.M.ou⟩
  · exact ⟨_, h.told⟩
  · exact ⟨_, h.row⟩
/-- two of these, of which the first i have gone on -/
def Both (C : Addr) (g0 g1 : Gp) (P P' : MSt → Prop) (i : Nat) (H : Hp) : Prop := ∃ s0 s1, One C H g0 s0 ∧ One C H g1 s1 ∧ (if 0 < i then P' s0 else P s0) ∧ (if 1 < i then P' s1 else P s1)
theorem Both.same (h : Both C g0 g1 P P' i H) (e : Same H H') : Both C g0 g1 P P' i H' := by
  obtain ⟨s0, s1, a, b, c, d⟩ := h
  exact ⟨s0, s1, a.same e, b.same e, c, d⟩
theorem Both.turn (hd : ∀ b ∈ g0.cells, b ∉ g1.cells) (hi : i < 2) (h : Both C g0 g1 P P' i H) : ∃ g s, ((i = 0 ∧ g = g0) ∨ (i = 1 ∧ g = g1)) ∧ One C H g s ∧ P s ∧
    ∀ H' s', One C H' g s' → P' s' → (∀ b v, H b = some v → b ∉ g.cells → H' b = some v) → Both C g0 g1 P P' (i + 1) H' := by
  obtain ⟨s0, s1, a, b, c, d⟩ := h
  have hi' : i = 0 ∨ i = 1 := by omega
  rcases hi' with rfl | rfl
  · refine ⟨g0, s0, .inl ⟨rfl, rfl⟩, a, c, fun H' s' o p k => ⟨s', s1, o, b.keep fun x v hx hc => k x v hx fun z => hd x z hc, p, d⟩⟩
  · refine ⟨g1, s1, .inr ⟨rfl, rfl⟩, b, d, fun H' s' o p k => ⟨s0, s', a.keep fun x v hx hc => k x v hx (hd x hc), o, c, p⟩⟩
theorem Both.next {P'' : MSt → Prop} (h : Both C g0 g1 P P' 2 H) : Both C g0 g1 P' P'' 0 H := h
/-- a machine steps, the law's own row and list have gone ahead -/
theorem One.stepped {s' : MSt} {H1 H2 : Hp} (h : One C H g s) (hb : ∀ b, b ≠ g.a → b ≠ g.t → H1 b = H b) (hr : H1 g.a = some (.lst (s'.regs.map V.int))) (ht : H1 g.t = some (.lst (s'.outs.map V.int)))
    (k : Keep H1 H2 g.p g.m g.r g.o) (M : MachAt C H2 g.p g.dx g.m g.r g.o s') : One C H2 g s' ∧ ∀ b v, H b = some v → b ∉ g.cells → H2 b = some v := by
  have nd := h.nd
  simp only [Gp.cells, List.nodup_cons, List.mem_cons, List.not_mem_nil, or_false, not_or] at nd
  obtain ⟨⟨n1, n2, n3, n4, n5⟩, ⟨n6, n7, n8, n9⟩, ⟨n10, n11, n12⟩, ⟨n13, n14⟩, n15, -⟩ := nd
  refine ⟨⟨M, k _ _ hr (fun e => n5 e.symm) (fun e => n9 e.symm) (fun e => n12 e.symm) fun e => n14 e.symm, k _ _ ht (fun e => n4 e.symm) (fun e => n8 e.symm) (fun e => n11 e.symm) fun e => n13 e.symm, h.nd⟩, fun b v e hc => ?_⟩
  simp only [Gp.cells, List.mem_cons, List.not_mem_nil, or_false, not_or] at hc
  obtain ⟨c1, c2, c3, c4, c5, c6⟩ := hc
  refine k b v ?_ c1 c2 c3 c4
  rw [hb b c6 c5]; exact e
theorem One.ma {H1 : Hp} (h : One C H g s) (hb : ∀ b, b ≠ g.a → b ≠ g.t → H1 b = H b) : MachAt C H1 g.p g.dx g.m g.r g.o s := by
  have nd := h.nd
  simp only [Gp.cells, List.nodup_cons, List.mem_cons, List.not_mem_nil, or_false, not_or] at nd
  obtain ⟨⟨n1, n2, n3, n4, n5⟩, ⟨n6, n7, n8, n9⟩, ⟨n10, n11, n12⟩, ⟨n13, n14⟩, n15, -⟩ := nd
  obtain ⟨kvs, h1, h2, h3⟩ := h.M.dc
  exact ⟨by rw [hb _ n5 n4]; exact h.M.ob, ⟨kvs, by rw [hb _ n9 n8]; exact h1, h2, h3⟩, by rw [hb _ n12 n11]; exact h.M.rg, by rw [hb _ n14 n13]; exact h.M.ou, h.M.ne⟩
theorem One.at_ (h : One C H g s) : g.a ≠ g.t := by
  have nd := h.nd
  simp only [Gp.cells, List.nodup_cons, List.mem_cons, List.not_mem_nil, or_false, not_or] at nd
  obtain ⟨⟨n1, n2, n3, n4, n5⟩, ⟨n6, n7, n8, n9⟩, ⟨n10, n11, n12⟩, ⟨n13, n14⟩, n15, -⟩ := nd
  exact fun e => n15 e.symm
end
theorem cutV_mid {xs : List V} (i j : Nat) (h : i ≤ j) : cutV xs (some (i : Int)) (some (j : Int)) = (xs.drop i).take (j - i) := by
  unfold cutV
  have e1 : ∀ d k : Nat, HT.sIx xs.length d (some (k : Int)) = min k xs.length := fun d k => HT.sIx_nat _ _ _
  rw [e1, e1]
  rcases Nat.lt_or_ge i xs.length with hi | hi
  · rw [Nat.min_eq_left (Nat.le_of_lt hi)]
    rcases Nat.lt_or_ge j xs.length with hj | hj
    · rw [Nat.min_eq_left (Nat.le_of_lt hj)]
    · rw [Nat.min_eq_right hj, List.take_of_length_le (by rw [List.length_drop]; omega), List.take_of_length_le (by rw [List.length_drop]; omega)]
  · rw [Nat.min_eq_right hi, List.drop_of_length_le hi, List.drop_of_length_le (Nat.le_refl _), List.take_nil, List.take_nil]
theorem nd_ne {A : List Addr} (h : A.Nodup) (i j : Nat) (hij : i < j) {a b : Addr} (ha : A[i]? = some a) (hb : A[j]? = some b) : a ≠ b := by
  obtain ⟨hi, rfl⟩ := List.getElem?_eq_some_iff.mp ha
  obtain ⟨hj, rfl⟩ := List.getElem?_eq_some_iff.mp hb
  exact List.pairwise_iff_getElem.mp h i j hi hj hij
section
variable {K : PySem.W.Frag} {σ : L2.St} {H : Hp} {Q : VK} {p q : Addr} {ns ms : List Int} {ss : List Str} {i : Int} {z : Str} {nx bk ct : L2.St → Hp → Prop} {rt : VK} {tu : TS}
theorem inV_ints : ∀ ns : List Int, inV (.int i) (ns.map V.int) = decide (i ∈ ns)
  | [] => rfl
  | n :: ns => by
    show ((n == i) || inV (.int i) (ns.map V.int)) = _
    rw [inV_ints ns, Bool.eq_iff_iff, Bool.or_eq_true, beq_iff_eq, decide_eq_true_iff, decide_eq_true_iff, List.mem_cons]
    exact ⟨fun h => h.imp Eq.symm id, fun h => h.imp Eq.symm id⟩
theorem inV_strs : ∀ ns : List Str, inV (.str z) (ns.map V.str) = decide (z ∈ ns)
  | [] => rfl
  | n :: ns => by
    show ((n == z) || inV (.str z) (ns.map V.str)) = _
    rw [inV_strs ns, Bool.eq_iff_iff, Bool.or_eq_true, beq_iff_eq, decide_eq_true_iff, decide_eq_true_iff, List.mem_cons]
    exact ⟨fun h => h.imp Eq.symm id, fun h => h.imp Eq.symm id⟩
theorem flat_ints : ∀ ns : List Int, (ns.map V.int).all flatV = true
  | [] => rfl
  | n :: ns => by show (true && (ns.map V.int).all flatV) = true; rw [flat_ints ns]; rfl
theorem flat_strs : ∀ ns : List Str, (ns.map V.str).all flatV = true
  | [] => rfl
  | n :: ns => by show (true && (ns.map V.str).all flatV) = true; rw [flat_strs ns]; rfl
theorem s_inInts (h : SqL K H p (ns.map V.int)) (k : Q (.bl (decide (i ∈ ns))) H) : rIn K false (.int i) (.ref p) H Q := ⟨p, _, rfl, .inl h, rfl, flat_ints ns, by rw [if_neg Bool.false_ne_true, inV_ints]; exact k⟩
theorem s_notInInts (h : SqL K H p (ns.map V.int)) (k : Q (.bl (!decide (i ∈ ns))) H) : rIn K true (.int i) (.ref p) H Q := ⟨p, _, rfl, .inl h, rfl, flat_ints ns, by rw [if_pos rfl, inV_ints]; exact k⟩
theorem s_inStrs (h : SqL K H p (ss.map V.str)) (k : Q (.bl (decide (z ∈ ss))) H) : rIn K false (.str z) (.ref p) H Q := ⟨p, _, rfl, .inl h, rfl, flat_strs ss, by rw [if_neg Bool.false_ne_true, inV_strs]; exact k⟩
theorem s_notInStrs (h : SqL K H p (ss.map V.str)) (k : Q (.bl (!decide (z ∈ ss))) H) : rIn K true (.str z) (.ref p) H Q := ⟨p, _, rfl, .inl h, rfl, flat_strs ss, by rw [if_pos rfl, inV_strs]; exact k⟩
theorem s_neInts (h1 : SqL K H p (ns.map V.int)) (h2 : SqL K H q (ms.map V.int)) (k : Q (.bl (!decide (ns = ms))) H) : rNeD K (.ref p) (.ref q) H Q :=
  ⟨_, _, dp_intL h1, dp_intL h2, shaped_ints ns, shaped_ints ms, by
    show Q (.bl (!PyData.eqvAll (ns.map PyData.int) (ms.map PyData.int))) H
    rw [eqv_ints]; exact k⟩
/-- range(lo, hi) -/
theorem s_forR2 {k : Nat} {ta : TA} (lo hi : Int) (Pv : Nat → L2.St → Hp → Prop) (ha : ∀ R : List V → Hp → Prop, R [.int lo, .int hi] H → ta σ H R) (hb : -(2 ^ 62) ≤ lo ∧ lo < 2 ^ 62 ∧ -(2 ^ 62) ≤ hi ∧ hi < 2 ^ 62) (h0 : Pv 0 σ H)
    (hs : ∀ (i : Nat) σ' H', lo + (i : Int) < hi → Pv i σ' H' → tu ⟨Pv (i + 1), rt, nx, Pv (i + 1)⟩ (σ'.set k (some (.int (lo + (i : Int))))) H') (hd : ∀ σ' H', Pv (hi - lo).toNat σ' H' → nx σ' H') : tFor (iRng2 ta) (gName k) tu ⟨nx, rt, bk, ct⟩ σ H := by
  refine ha _ ⟨lo, hi, rfl, hb, ?_⟩
  refine for_range (lo := lo) (n := (hi - lo).toNat) Pv h0 (fun i σ' H' hi' h => ?_) hd
  exact hs i σ' H' (by omega) h
end
section
variable {K : PySem.W.Frag} {σ : L2.St} {H : Hp} {nx bk ct : L2.St → Hp → Prop} {rt : VK} {tu : TS}
/-- a list of known items, any target -/
theorem s_forLg {g : TG} {tl : TE} {a : Addr} {xs : List V} (Pv : Nat → L2.St → Hp → Prop) (H1 : Hp) (ha : ∀ R : VK, R (.ref a) H1 → tl σ H R) (hx : SqL K H1 a xs) (h0 : Pv 0 σ H1)
    (hl : ∀ i σ' H', i ≤ xs.length → Pv i σ' H' → SqL K H' a xs)
    (hs : ∀ (i : Nat) x σ' H', xs[i]? = some x → Pv i σ' H' → g x σ' H' fun σ2 H2 => tu ⟨Pv (i + 1), rt, nx, Pv (i + 1)⟩ σ2 H2) (hd : ∀ σ' H', Pv xs.length σ' H' → nx σ' H') : tFor (iList K tl) g tu ⟨nx, rt, bk, ct⟩ σ H := by
  refine ha _ ⟨a, rfl, ⟨xs, hx⟩, ?_⟩
  exact for_list (xs := xs) Pv h0 hl (fun i x σ' H' hi h => hs i x σ' H' hi h) hd
end
section
variable {K : PySem.W.Frag} {σ : L2.St} {H : Hp} {nx bk ct : L2.St → Hp → Prop} {rt : VK} {tu : TS}
/-- for (i, x) in enumerate(xs) -/
theorem s_forE {g : TG} {ta : TA} {a : Addr} {xs : List V} (Pv : Nat → L2.St → Hp → Prop) (H1 : Hp) (ha : ∀ R : List V → Hp → Prop, R [.ref a] H1 → ta σ H R) (hx : SqL K H1 a xs) (h0 : Pv 0 σ H1)
    (hl : ∀ i σ' H', i ≤ xs.length → Pv i σ' H' → SqL K H' a xs)
    (hs : ∀ (i : Nat) x σ' H' T, xs[i]? = some x → Pv i σ' H' → H' T = none → g (.ref T) σ' (upd H' T (.tup [.int (i : Int), x])) fun σ2 H2 => tu ⟨Pv (i + 1), rt, nx, Pv (i + 1)⟩ σ2 H2) (hd : ∀ σ' H', Pv xs.length σ' H' → nx σ' H') : tFor (iEnum K ta) g tu ⟨nx, rt, bk, ct⟩ σ H := by
  refine ha _ ⟨a, xs, rfl, hx, ?_⟩
  refine ⟨fun i m σ H => m = xs.length - i ∧ i ≤ xs.length ∧ Pv i σ H, ⟨xs.length, by simp, Nat.zero_le _, h0⟩, ?_⟩
  rintro i m σ' H2 ⟨rfl, hi, q⟩
  have hq := hl i σ' H2 hi q
  by_cases hlt : i < xs.length
  · refine .inr ⟨⟨xs, _, hq, List.getElem?_eq_getElem hlt⟩, Pv (i + 1), fun σ3 H3 q' => ⟨xs.length - (i + 1), by omega, rfl, hlt, q'⟩, fun v H3 y => ?_⟩
    obtain ⟨T, x, rfl, hT, rfl, hx⟩ := y
    exact hs i x σ' H2 T (hx xs hq) q hT
  · have e : i = xs.length := by omega
    subst e
    exact .inl ⟨⟨xs, hq, Nat.le_refl _⟩, hd σ' H2 q⟩
end
section
variable {K : PySem.W.Frag} {σ : L2.St} {H : Hp} {Q : VK}
/-- [e for g in xs if t]: what the items are, as data; D is the list in the making -/
theorem s_lcA {g : TG} {tt : TT} {te tl : TE} {vs : List Nat} {xs : List V} (d : Nat → Option PyData) (hl : xs.length ≤ 100000) (ha : ∀ R : VK, (∀ a H1, Same H H1 → SqL K H1 a xs → R (.ref a) H1) → tl σ H R)
    (hs : ∀ (i : Nat) x D F H1 (Rs : VK) (Rn : Hp → Prop), xs[i]? = some x → Act H F H1 [D] → (∀ v F' H2 dd, Same F F' → Act H F' H2 [D] → Same H1 H2 → d i = some dd → Dp K F' v dd → Rs v H2) → (∀ F' H2, Same F F' → Act H F' H2 [D] → Same H1 H2 → d i = none → Rn H2) →
      g x (wipe σ vs) H1 fun σ2 H2 => wipe σ2 vs = wipe σ vs ∧ tt σ2 H2 fun b H3 => if b = true then te σ2 H3 Rs else Rn H3)
    (z : ∀ p H1 us, Same H H1 → H p = none → H1 p = some (.lst us) → DpAll K H1 us ((List.range xs.length).filterMap d) → Q (.ref p) H1) : tLc (iList K tl) g tt te vs σ H Q := by
  refine ha _ fun a H0 s0 hx => ⟨a, rfl, ⟨xs, hx⟩, fun D hD => ?_⟩
  have c0 : Act H H0 (upd H0 D (.lst [])) [D] := ⟨s0, same_upd hD, fun b hb => by cases List.mem_singleton.mp hb; exact ⟨hD, _, upd_same⟩, List.nodup_cons.mpr ⟨List.not_mem_nil, List.nodup_nil⟩⟩
  refine lc_list (xs := xs) (fun i H' => i ≤ xs.length ∧ ∃ F us, Same H0 F ∧ Act H F H' [D] ∧ H' D = some (.lst us) ∧ us.length ≤ i ∧ DpAll K F us ((List.range i).filterMap d)) ⟨Nat.zero_le _, H0, [], Same.refl _, c0, upd_same, Nat.le_refl _, .nil⟩ (fun i H' _ h => ?_) (fun i x H1 hi h => ?_) (fun H1 h => ?_)
  · obtain ⟨_, F, us, sF, c, _⟩ := h
    exact c.ext.seq (sF.seq hx)
  · obtain ⟨_, F, us, sF, c, hus, hul, hda⟩ := h
    have hi' : i < xs.length := (List.getElem?_eq_some_iff.mp hi).1
    refine hs i x D F H1 _ _ hi c (fun v F' H2 dd sF' c' s12 hd hv => ?_) (fun F' H2 sF' c' s12 hd => ?_)
    · refine ⟨us, s12 _ _ hus, small5' (by omega), hi', F', us ++ [v], sF.trans sF', c'.upd (by simp), upd_same, by rw [List.length_append, List.length_singleton]; omega, ?_⟩
      rw [List.range_succ, List.filterMap_append]
      refine da_app (dps_same sF' hda) ?_
      show DpAll K F' [v] ([i].filterMap d)
      rw [List.filterMap_cons, hd]
      exact da_one hv
    · refine ⟨hi', F', us, sF.trans sF', c', s12 _ _ hus, by omega, ?_⟩
      rw [List.range_succ, List.filterMap_append]
      show DpAll K F' us (_ ++ [i].filterMap d)
      rw [List.filterMap_cons, hd]
      show DpAll K F' us (_ ++ [])
      rw [List.append_nil]
      exact dps_same sF' hda
  · obtain ⟨_, F, us, sF, c, hus, hul, hda⟩ := h
    exact z D H1 us c.same (s0.free hD) hus (dps_same c.ext hda)
/-- [e for g in xs if t]: what the items are, as data; D is the list in the making -/
theorem s_lcF {g : TG} {tt : TT} {te tl : TE} {vs : List Nat} {xs : List V} (d : Nat → Option PyData) (hl : xs.length ≤ 100000) (ha : ∀ R : VK, (∀ a H1, Same H H1 → SqL K H1 a xs → R (.ref a) H1) → tl σ H R)
    (hs : ∀ (i : Nat) x D F H1 (Rs : VK) (Rn : Hp → Prop), xs[i]? = some x → Act H F H1 [D] → (∀ v F' H2 dd, Same F F' → Act H F' H2 [D] → Same H1 H2 → d i = some dd → Dp K F' v dd → Rs v H2) → (∀ F' H2, Same F F' → Act H F' H2 [D] → Same H1 H2 → d i = none → Rn H2) →
      g x (wipe σ vs) H1 fun σ2 H2 => wipe σ2 vs = wipe σ vs ∧ tt σ2 H2 fun b H3 => if b = true then te σ2 H3 Rs else Rn H3)
    (z : ∀ p F H1 us, Act H F H1 [p] → H1 p = some (.lst us) → DpAll K F us ((List.range xs.length).filterMap d) → us.length ≤ xs.length → Q (.ref p) H1) : tLc (iList K tl) g tt te vs σ H Q := by
  refine ha _ fun a H0 s0 hx => ⟨a, rfl, ⟨xs, hx⟩, fun D hD => ?_⟩
  have c0 : Act H H0 (upd H0 D (.lst [])) [D] := ⟨s0, same_upd hD, fun b hb => by cases List.mem_singleton.mp hb; exact ⟨hD, _, upd_same⟩, List.nodup_cons.mpr ⟨List.not_mem_nil, List.nodup_nil⟩⟩
  refine lc_list (xs := xs) (fun i H' => i ≤ xs.length ∧ ∃ F us, Same H0 F ∧ Act H F H' [D] ∧ H' D = some (.lst us) ∧ us.length ≤ i ∧ DpAll K F us ((List.range i).filterMap d)) ⟨Nat.zero_le _, H0, [], Same.refl _, c0, upd_same, Nat.le_refl _, .nil⟩ (fun i H' _ h => ?_) (fun i x H1 hi h => ?_) (fun H1 h => ?_)
  · obtain ⟨_, F, us, sF, c, _⟩ := h
    exact c.ext.seq (sF.seq hx)
  · obtain ⟨_, F, us, sF, c, hus, hul, hda⟩ := h
    have hi' : i < xs.length := (List.getElem?_eq_some_iff.mp hi).1
    refine hs i x D F H1 _ _ hi c (fun v F' H2 dd sF' c' s12 hd hv => ?_) (fun F' H2 sF' c' s12 hd => ?_)
    · refine ⟨us, s12 _ _ hus, small5' (by omega), hi', F', us ++ [v], sF.trans sF', c'.upd (by simp), upd_same, by rw [List.length_append, List.length_singleton]; omega, ?_⟩
      rw [List.range_succ, List.filterMap_append]
      refine da_app (dps_same sF' hda) ?_
      show DpAll K F' [v] ([i].filterMap d)
      rw [List.filterMap_cons, hd]
      exact da_one hv
    · refine ⟨hi', F', us, sF.trans sF', c', s12 _ _ hus, by omega, ?_⟩
      rw [List.range_succ, List.filterMap_append]
      show DpAll K F' us (_ ++ [i].filterMap d)
      rw [List.filterMap_cons, hd]
      show DpAll K F' us (_ ++ [])
      rw [List.append_nil]
      exact dps_same sF' hda
  · obtain ⟨_, F, us, sF, c, hus, hul, hda⟩ := h
    exact z D F H1 us c hus hda hul
theorem range_bind {α β : Type} (xs : List α) (f : α → Option β) : ∀ n, (List.range n).filterMap (fun i => (xs[i]?).bind f) = (xs.take n).filterMap f
  | 0 => rfl
  | n + 1 => by
    rw [List.range_succ, List.filterMap_append, range_bind xs f n, List.take_add_one, List.filterMap_append]
    congr 1
    cases h : xs[n]? with
    | none => simp [h]
    | some x => cases hf : f x <;> simp [h, hf]
theorem range_items {α β : Type} (xs : List α) (f : α → Option β) : (List.range xs.length).filterMap (fun i => (xs[i]?).bind f) = xs.filterMap f := by
  rw [range_bind, List.take_length]
theorem filterMap_some {α β : Type} (xs : List α) (f : α → β) : xs.filterMap (fun x => some (f x)) = xs.map f := by
  induction xs with
  | nil => rfl
  | cons x xs ih => rw [List.filterMap_cons, ih]; rfl
end
section
variable {K : PySem.W.Frag} {σ : L2.St} {H : Hp} {nx bk ct : L2.St → Hp → Prop} {rt : VK} {tu : TS}
/-- a loop over a list that is made for it somehow -/
theorem s_forN2 {k : Nat} {tl : TE} {xs : List V} (Pv : Nat → L2.St → Hp → Prop) (ha : ∀ R : VK, (∀ a H1, Same H H1 → H a = none → H1 a = some (.lst xs) → R (.ref a) H1) → tl σ H R) (h0 : ∀ H1, Same H H1 → Pv 0 σ H1)
    (hs : ∀ (i : Nat) x σ' H', xs[i]? = some x → Pv i σ' H' → tu ⟨fun σ2 H2 => Same H' H2 ∧ Pv (i + 1) σ2 H2, rt, nx, fun σ2 H2 => Same H' H2 ∧ Pv (i + 1) σ2 H2⟩ (σ'.set k (some x)) H') (hd : ∀ σ' H', Pv xs.length σ' H' → nx σ' H') : tFor (iList K tl) (gName k) tu ⟨nx, rt, bk, ct⟩ σ H := by
  refine ha _ fun a H1 s1 na h1 => ⟨a, rfl, ⟨xs, .inl (.inl h1)⟩, ?_⟩
  refine ⟨fun i m σ' H' => m = xs.length - i ∧ i ≤ xs.length ∧ H' a = some (.lst xs) ∧ Pv i σ' H', ⟨xs.length, by simp, Nat.zero_le _, h1, h0 H1 s1⟩, ?_⟩
  rintro i m σ' H2 ⟨rfl, hi, hq, q⟩
  by_cases hlt : i < xs.length
  · refine .inr ⟨⟨xs, xs[i], .inl (.inl hq), by simp [hlt]⟩, fun σ2 H3 => Same H2 H3 ∧ Pv (i + 1) σ2 H3, fun σ3 H3 q' => ⟨xs.length - (i + 1), by omega, rfl, hlt, q'.1 _ _ hq, q'.2⟩, fun x H3 y => ?_⟩
    obtain ⟨rfl, hx⟩ := y
    exact hs i x σ' _ (hx xs (.inl (.inl hq))) q
  · have e : i = xs.length := by omega
    subst e
    exact .inl ⟨⟨xs, .inl (.inl hq), Nat.le_refl _⟩, hd σ' H2 q⟩
end
theorem s_yes {σ : L2.St} {H : Hp} {T : Bool → Hp → Prop} (z : T true H) : tYes σ H T := z
end Jl

/-! Pieces: what they are as data; a piece in the making. -/
namespace Jl
open PySem L2
structure Fill where
  at_ : Int
  rule : Str
  name : Str
  add : Int
  soft : Bool
structure Stre where
  kind : Str
  step : Int
  words : List Int
  fills : List Fill
structure Nam where
  name : Str
  sort : Str
  stre : Int
  off : Int
structure Piece where
  name : Str
  stres : List Stre
  names : List Nam
def fillD (f : Fill) : PyData := .tuple [.int f.at_, .str f.rule, .str f.name, .int f.add, .bool f.soft]
def streD (s : Stre) : PyData := .tuple [.str s.kind, .int s.step, .list (s.words.map PyData.int), .list (s.fills.map fillD)]
def namD (n : Nam) : PyData := .tuple [.str n.name, .str n.sort, .int n.stre, .int n.off]
def pieceD (p : Piece) : PyData := .tuple [.str p.name, .list (p.stres.map streD), .list (p.names.map namD)]
/-! all texts of a piece are of real signs -/
def okS (z : Str) : Prop := (PyData.str z).canLay0 = true
def Fill.ok (f : Fill) : Prop := okS f.rule ∧ okS f.name
def Stre.ok (s : Stre) : Prop := okS s.kind ∧ ∀ f ∈ s.fills, f.ok
def Nam.ok (n : Nam) : Prop := okS n.name ∧ okS n.sort
def Piece.ok (p : Piece) : Prop := okS p.name ∧ (∀ s ∈ p.stres, s.ok) ∧ ∀ n ∈ p.names, n.ok
theorem fillD_ok {f : Fill} (h : f.ok) : (fillD f).canLay0 = true ∧ (fillD f).depth ≤ 1 := by
  refine ⟨?_, ?_⟩
  · show (true && ((PyData.str f.rule).canLay0 && ((PyData.str f.name).canLay0 && (true && (true && true))))) = true
    rw [h.1, h.2]; rfl
  · show max 0 (max 0 (max 0 (max 0 (max 0 0)))) + 1 ≤ 1
    omega
theorem namD_ok {n : Nam} (h : n.ok) : (namD n).canLay0 = true ∧ (namD n).depth ≤ 1 := by
  refine ⟨?_, ?_⟩
  · show ((PyData.str n.name).canLay0 && ((PyData.str n.sort).canLay0 && (true && (true && true)))) = true
    rw [h.1, h.2]; rfl
  · show max 0 (max 0 (max 0 (max 0 0))) + 1 ≤ 1
    omega
theorem lay_map {α : Type} {f : α → PyData} {l : List α} {n : Nat} (h : ∀ x ∈ l, (f x).canLay0 = true ∧ (f x).depth ≤ n) : (PyData.list (l.map f)).canLay0 = true ∧ (PyData.list (l.map f)).depth ≤ n + 1 := by
  refine ⟨lay_all fun d hd => ?_, depth_list fun d hd => ?_⟩
  · obtain ⟨x, hx, rfl⟩ := List.mem_map.mp hd
    exact (h x hx).1
  · obtain ⟨x, hx, rfl⟩ := List.mem_map.mp hd
    exact (h x hx).2
theorem streD_ok {s : Stre} (h : s.ok) : (streD s).canLay0 = true ∧ (streD s).depth ≤ 3 := by
  obtain ⟨a1, a2⟩ := lay_map (f := PyData.int) (l := s.words) (n := 0) fun x _ => ⟨rfl, Nat.le_refl _⟩
  obtain ⟨b1, b2⟩ := lay_map (f := fillD) (l := s.fills) (n := 1) fun x hx => fillD_ok (h.2 x hx)
  refine ⟨?_, depth_tuple fun d hd => ?_⟩
  · show ((PyData.str s.kind).canLay0 && (true && ((PyData.list _).canLay0 && ((PyData.list _).canLay0 && true)))) = true
    rw [h.1, a1, b1]; rfl
  · simp only [List.mem_cons, List.not_mem_nil, or_false] at hd
    rcases hd with rfl | rfl | rfl | rfl
    · exact Nat.zero_le _
    · exact Nat.zero_le _
    · exact Nat.le_trans a2 (by decide)
    · exact b2
theorem pieceD_ok {p : Piece} (h : p.ok) : (pieceD p).canLay0 = true ∧ (pieceD p).depth ≤ 5 := by
  obtain ⟨a1, a2⟩ := lay_map (f := streD) (l := p.stres) (n := 3) fun x hx => streD_ok (h.2.1 x hx)
  obtain ⟨b1, b2⟩ := lay_map (f := namD) (l := p.names) (n := 1) fun x hx => namD_ok (h.2.2 x hx)
  refine ⟨?_, depth_tuple fun d hd => ?_⟩
  · show ((PyData.str p.name).canLay0 && ((PyData.list _).canLay0 && ((PyData.list _).canLay0 && true))) = true
    rw [h.1, a1, b1]; rfl
  · simp only [List.mem_cons, List.not_mem_nil, or_false] at hd
    rcases hd with rfl | rfl | rfl
    · exact Nat.zero_le _
    · exact a2
    · exact Nat.le_trans b2 (by decide)
theorem piece_shaped {p : Piece} (h : p.ok) : SeqAt.shaped (pieceD p) = true := shaped_of (pieceD_ok h).1 (Nat.le_trans (pieceD_ok h).2 (by decide))
theorem pieces_shaped {ps : List Piece} (h : ∀ p ∈ ps, p.ok) : SeqAt.shaped (.list (ps.map pieceD)) = true := by
  obtain ⟨a, b⟩ := lay_map (f := pieceD) (l := ps) (n := 5) fun x hx => pieceD_ok (h x hx)
  exact shaped_of a (Nat.le_trans b (by decide))
section
variable {K : PySem.W.Frag} {H H' B F : Hp} {P L t : Addr} {X : List Addr} {x : V}
theorem dp_fill {f : Fill} (h : Dp K H x (fillD f)) : ∃ t, x = .ref t ∧ SqT K H t [.int f.at_, .str f.rule, .str f.name, .int f.add, .bl f.soft] := by
  obtain ⟨t, u0, e0, h1, g0⟩ := dp_tup h
  obtain ⟨u1, e1, g1⟩ := da_int g0
  obtain ⟨u2, e2, g2⟩ := da_str g1
  obtain ⟨u3, e3, g3⟩ := da_str g2
  obtain ⟨u4, e4, g4⟩ := da_int g3
  obtain ⟨u5, e5, g5⟩ := da_bl g4
  have e6 := da_nil g5
  subst e0 e1 e2 e3 e4 e5 e6
  exact ⟨t, rfl, h1⟩
theorem dp_nam {n : Nam} (h : Dp K H x (namD n)) : ∃ t, x = .ref t ∧ SqT K H t [.str n.name, .str n.sort, .int n.stre, .int n.off] := by
  obtain ⟨t, u0, e0, h1, g0⟩ := dp_tup h
  obtain ⟨u1, e1, g1⟩ := da_str g0
  obtain ⟨u2, e2, g2⟩ := da_str g1
  obtain ⟨u3, e3, g3⟩ := da_int g2
  obtain ⟨u4, e4, g4⟩ := da_int g3
  have e5 := da_nil g4
  subst e0 e1 e2 e3 e4 e5
  exact ⟨t, rfl, h1⟩
theorem dp_stre {s : Stre} (h : Dp K H x (streD s)) : ∃ t W G gs, x = .ref t ∧ SqT K H t [.str s.kind, .int s.step, .ref W, .ref G] ∧ SqL K H W (s.words.map V.int) ∧ SqL K H G gs ∧ DpAll K H gs (s.fills.map fillD) := by
  obtain ⟨t, u0, e0, h1, g0⟩ := dp_tup h
  obtain ⟨u1, e1, g1⟩ := da_str g0
  obtain ⟨u2, e2, g2⟩ := da_int g1
  obtain ⟨v, u3, e3, h3, g3⟩ := da_cons g2
  obtain ⟨W, e4, h4⟩ := dp_intl h3
  obtain ⟨v2, u4, e5, h5, g4⟩ := da_cons g3
  obtain ⟨G, gs, e6, h6, h7⟩ := dp_list h5
  have e7 := da_nil g4
  subst e0 e1 e2 e3 e4 e5 e6 e7
  exact ⟨t, W, G, gs, rfl, h1, h4, h6, h7⟩
theorem dp_piece {p : Piece} (h : Dp K H x (pieceD p)) : ∃ t S N ss ns, x = .ref t ∧ SqT K H t [.str p.name, .ref S, .ref N] ∧ SqL K H S ss ∧ DpAll K H ss (p.stres.map streD) ∧ SqL K H N ns ∧ DpAll K H ns (p.names.map namD) := by
  obtain ⟨t, u0, e0, h1, g0⟩ := dp_tup h
  obtain ⟨u1, e1, g1⟩ := da_str g0
  obtain ⟨v, u2, e2, h3, g2⟩ := da_cons g1
  obtain ⟨S, ss, e3, h4, h5⟩ := dp_list h3
  obtain ⟨v2, u3, e4, h6, g3⟩ := da_cons g2
  obtain ⟨N, ns, e5, h7, h8⟩ := dp_list h6
  have e6 := da_nil g3
  subst e0 e1 e2 e3 e4 e5 e6
  exact ⟨t, S, N, ss, ns, rfl, h1, h4, h5, h7, h8⟩
/-- items of a list of data, one by one -/
theorem da_item {α : Type} {f : α → PyData} {xs : List V} {l : List α} {i : Nat} (h : DpAll K H xs (l.map f)) (hi : xs[i]? = some x) : ∃ q, l[i]? = some q ∧ Dp K H x (f q) := by
  obtain ⟨d, hd, hx⟩ := da_get h hi
  rw [List.getElem?_map] at hd
  cases e : l[i]? with
  | none => rw [e] at hd; cases hd
  | some q =>
    rw [e] at hd
    cases hd
    exact ⟨q, rfl, hx⟩
theorem da_item' {α : Type} {f : α → PyData} {xs : List V} {l : List α} {i : Nat} {q : α} (h : DpAll K H xs (l.map f)) (hi : l[i]? = some q) : ∃ x, xs[i]? = some x ∧ Dp K H x (f q) :=
  da_at h (by rw [List.getElem?_map, hi]; rfl)
theorem da_length {α : Type} {f : α → PyData} {xs : List V} {l : List α} (h : DpAll K H xs (l.map f)) : xs.length = l.length := by
  rw [da_len h, List.length_map]
/-! pieces in the making -/
def LastS (K : PySem.W.Frag) (B F H : Hp) (S : Addr) (X : List Addr) (ss : List Stre) : Prop :=
  (ss = [] ∧ H S = some (.lst []) ∧ Act B F H (S :: X)) ∨
  ∃ ss0 kind step ws fs sv u W G gv, ss = ss0 ++ [⟨kind, step, ws, fs⟩] ∧ H S = some (.lst (sv ++ [.ref u])) ∧ DpAll K F sv (ss0.map streD) ∧ F u = some (.tup [.str kind, .int step, .ref W, .ref G]) ∧ H W = some (.lst (ws.map V.int)) ∧ H G = some (.lst gv) ∧ DpAll K F gv (fs.map fillD) ∧ Act B F H (W :: G :: S :: X)
def BP (K : PySem.W.Frag) (B F H : Hp) (P : Addr) (X : List Addr) (ps : List Piece) : Prop :=
  (ps = [] ∧ H P = some (.lst []) ∧ Act B F H (P :: X)) ∨
  ∃ ps0 nm ss ns xs t S N nv, ps = ps0 ++ [⟨nm, ss, ns⟩] ∧ H P = some (.lst (xs ++ [.ref t])) ∧ DpAll K F xs (ps0.map pieceD) ∧ F t = some (.tup [.str nm, .ref S, .ref N]) ∧ H N = some (.lst nv) ∧ DpAll K F nv (ns.map namD) ∧ LastS K B F H S (N :: P :: X) ss
theorem LastS.act {S : Addr} {ss : List Stre} (h : LastS K B F H S X ss) : ∃ A, Act B F H (A ++ S :: X) := by
  rcases h with ⟨_, _, c⟩ | ⟨_, _, _, _, _, _, _, W, G, _, _, _, _, _, _, _, _, c⟩
  · exact ⟨[], c⟩
  · exact ⟨[W, G], c⟩
theorem LastS.ext {S : Addr} {ss : List Stre} (h : LastS K B F H S X ss) : Same F H := by obtain ⟨A, c⟩ := h.act; exact c.ext
theorem LastS.base {S : Addr} {ss : List Stre} (h : LastS K B F H S X ss) : Same B F := by obtain ⟨A, c⟩ := h.act; exact c.base
theorem LastS.dp {S : Addr} {ss : List Stre} (h : LastS K B F H S X ss) : Dp K H (.ref S) (.list (ss.map streD)) := by
  have e := h.ext
  rcases h with ⟨rfl, h3, c⟩ | ⟨ss0, kind, step, ws, fs, sv, u, W, G, gv, rfl, h1, h2, h3, h4, h5, h6, c⟩
  · exact .lst (.inl (.inl h3)) .nil
  · refine .lst (.inl (.inl h1)) ?_
    rw [List.map_append]
    refine da_app (dps_same e h2) (da_one ?_)
    exact .tup (.inl (.inl (e _ _ h3))) (.cons (.str _) (.cons (.int _) (.cons (dp_intL (.inl (.inl h4))) (.cons (.lst (.inl (.inl h5)) (dps_same e h6)) .nil))))
theorem LastS.same {S : Addr} {ss : List Stre} (h : LastS K B F H S X ss) (e : Same H H') : LastS K B F H' S X ss := by
  rcases h with ⟨rfl, h3, c⟩ | ⟨ss0, kind, step, ws, fs, sv, u, W, G, gv, rfl, h1, h2, h3, h4, h5, h6, c⟩
  · exact .inl ⟨rfl, e _ _ h3, c.sm e⟩
  · exact .inr ⟨ss0, kind, step, ws, fs, sv, u, W, G, gv, rfl, e _ _ h1, h2, h3, e _ _ h4, e _ _ h5, h6, c.sm e⟩
theorem BP.act {ps : List Piece} (h : BP K B F H P X ps) : ∃ A, Act B F H (A ++ P :: X) := by
  rcases h with ⟨_, _, c⟩ | ⟨ps0, nm, ss, ns, xs, t, S, N, nv, _, _, _, _, _, _, l⟩
  · exact ⟨[], c⟩
  · obtain ⟨A, c⟩ := l.act
    exact ⟨A ++ [S, N], by rw [List.append_assoc]; exact c⟩
theorem BP.ext {ps : List Piece} (h : BP K B F H P X ps) : Same F H := by obtain ⟨A, c⟩ := h.act; exact c.ext
theorem BP.base {ps : List Piece} (h : BP K B F H P X ps) : Same B F := by obtain ⟨A, c⟩ := h.act; exact c.base
theorem BP.dp {ps : List Piece} (h : BP K B F H P X ps) : Dp K H (.ref P) (.list (ps.map pieceD)) := by
  have e := h.ext
  rcases h with ⟨rfl, h3, c⟩ | ⟨ps0, nm, ss, ns, xs, t, S, N, nv, rfl, h1, h2, h3, h4, h5, l⟩
  · exact .lst (.inl (.inl h3)) .nil
  · refine .lst (.inl (.inl h1)) ?_
    rw [List.map_append]
    refine da_app (dps_same e h2) (da_one ?_)
    exact .tup (.inl (.inl (e _ _ h3))) (.cons (.str _) (.cons l.dp (.cons (.lst (.inl (.inl h4)) (dps_same e h5)) .nil)))
theorem BP.same {ps : List Piece} (h : BP K B F H P X ps) (e : Same H H') : BP K B F H' P X ps := by
  rcases h with ⟨rfl, h3, c⟩ | ⟨ps0, nm, ss, ns, xs, t, S, N, nv, rfl, h1, h2, h3, h4, h5, l⟩
  · exact .inl ⟨rfl, e _ _ h3, c.sm e⟩
  · exact .inr ⟨ps0, nm, ss, ns, xs, t, S, N, nv, rfl, e _ _ h1, h2, h3, e _ _ h4, h5, l.same e⟩
/-- the cells of the last stretch are written no more -/
theorem LastS.close {S : Addr} {ss : List Stre} (h : LastS K B F H S X ss) : ∃ F' sv, Same F F' ∧ Act B F' H (S :: X) ∧ H S = some (.lst sv) ∧ DpAll K F' sv (ss.map streD) := by
  rcases h with ⟨rfl, h3, c⟩ | ⟨ss0, kind, step, ws, fs, sv, u, W, G, gv, rfl, h1, h2, h3, h4, h5, h6, c⟩
  · exact ⟨F, [], Same.refl _, c, h3, .nil⟩
  · have c1 := c.fz h4
    have f1 := c.fz_same (o := .lst (ws.map V.int))
    have c2 := c1.fz h5
    have f2 := c1.fz_same (o := .lst gv)
    refine ⟨_, sv ++ [.ref u], f1.trans f2, c2, h1, ?_⟩
    rw [List.map_append]
    refine da_app (dps_same (f1.trans f2) h2) (da_one ?_)
    exact .tup (.inl (.inl (f2 _ _ (f1 _ _ h3)))) (.cons (.str _) (.cons (.int _) (.cons (dp_intL (.inl (.inl (f2 _ _ upd_same)))) (.cons (.lst (.inl (.inl upd_same)) (dps_same (f1.trans f2) h6)) .nil))))
/-- the cells of the last piece are written no more -/
theorem BP.close {ps : List Piece} (h : BP K B F H P X ps) : ∃ F' xs, Same F F' ∧ Act B F' H (P :: X) ∧ H P = some (.lst xs) ∧ DpAll K F' xs (ps.map pieceD) := by
  rcases h with ⟨rfl, h3, c⟩ | ⟨ps0, nm, ss, ns, xs, t, S, N, nv, rfl, h1, h2, h3, h4, h5, l⟩
  · exact ⟨F, [], Same.refl _, c, h3, .nil⟩
  · obtain ⟨F1, sv, f1, c1, hS, hsv⟩ := l.close
    have c2 := c1.fz hS
    have f2 := c1.fz_same (o := .lst sv)
    have c3 := c2.fz h4
    have f3 := c2.fz_same (o := .lst nv)
    have f13 := (f1.trans f2).trans f3
    refine ⟨_, xs ++ [.ref t], f13, c3, h1, ?_⟩
    rw [List.map_append]
    refine da_app (dps_same f13 h2) (da_one ?_)
    exact .tup (.inl (.inl (f13 _ _ h3))) (.cons (.str _) (.cons (.lst (.inl (.inl (f3 _ _ upd_same))) (dps_same (f2.trans f3) hsv)) (.cons (.lst (.inl (.inl upd_same)) (dps_same f13 h5)) .nil)))
/-- a piece is put behind -/
theorem BP.piece {ps : List Piece} (h : BP K B F H P X ps) {S N t : Addr} {nm : Str} (hS : H S = none) (hN : upd H S (.lst []) N = none) (ht : upd (upd H S (.lst [])) N (.lst []) t = none) :
    ∃ xs, H P = some (.lst xs) ∧ xs.length = ps.length ∧ (upd (upd (upd H S (.lst [])) N (.lst [])) t (.tup [.str nm, .ref S, .ref N])) P = some (.lst xs) ∧
    ∃ F', Same F F' ∧ BP K B F' (upd (upd (upd (upd H S (.lst [])) N (.lst [])) t (.tup [.str nm, .ref S, .ref N])) P (.lst (xs ++ [.ref t]))) P X (ps ++ [⟨nm, [], []⟩]) := by
  obtain ⟨F1, xs, f1, c1, hP, hxs⟩ := h.close
  have c2 := c1.newA (o := .lst []) hS
  have c3 := c2.newA (o := .lst []) hN
  have c4 := c3.new (o := .tup [.str nm, .ref S, .ref N]) ht
  have f4 := same_upd (o := .tup [.str nm, .ref S, .ref N]) (c3.ext.free ht)
  have s := (same_upd (o := .lst []) hS).trans ((same_upd (o := .lst []) hN).trans (same_upd (o := .tup [.str nm, .ref S, .ref N]) ht))
  have c5 := c4.upd (a := P) (o := .lst (xs ++ [.ref t])) (by simp)
  have nd := c4.nd
  have hP4 := s _ _ hP
  have hN4 : (upd (upd (upd H S (.lst [])) N (.lst [])) t (.tup [.str nm, .ref S, .ref N])) N = some (.lst []) := same_upd ht _ _ upd_same
  have hS4 : (upd (upd (upd H S (.lst [])) N (.lst [])) t (.tup [.str nm, .ref S, .ref N])) S = some (.lst []) := same_upd ht _ _ (same_upd hN _ _ upd_same)
  refine ⟨xs, hP, da_length hxs, hP4, _, f1.trans f4, .inr ⟨ps, nm, [], [], xs, t, S, N, [], rfl, upd_same, dps_same f4 hxs, upd_same, ?_, .nil, .inl ⟨rfl, ?_, c5.perm (List.Perm.swap ..)⟩⟩⟩
  · rw [upd_ne (nd_ne nd 0 2 (by decide) rfl rfl)]; exact hN4
  · rw [upd_ne (nd_ne nd 1 2 (by decide) rfl rfl)]; exact hS4
theorem LastS.list {S : Addr} {ss : List Stre} (h : LastS K B F H S X ss) : ∃ sv, H S = some (.lst sv) ∧ DpAll K H sv (ss.map streD) := by
  have e := h.ext
  rcases h with ⟨rfl, h3, c⟩ | ⟨ss0, kind, step, ws, fs, sv, u, W, G, gv, rfl, h1, h2, h3, h4, h5, h6, c⟩
  · exact ⟨[], h3, .nil⟩
  · refine ⟨_, h1, ?_⟩
    rw [List.map_append]
    refine da_app (dps_same e h2) (da_one ?_)
    exact .tup (.inl (.inl (e _ _ h3))) (.cons (.str _) (.cons (.int _) (.cons (dp_intL (.inl (.inl h4))) (.cons (.lst (.inl (.inl h5)) (dps_same e h6)) .nil))))
theorem BP.open_ {ps0 : List Piece} {nm : Str} {ss : List Stre} {ns : List Nam} (h : BP K B F H P X (ps0 ++ [⟨nm, ss, ns⟩])) : ∃ xs t S N nv, H P = some (.lst (xs ++ [.ref t])) ∧ DpAll K F xs (ps0.map pieceD) ∧ F t = some (.tup [.str nm, .ref S, .ref N]) ∧ H N = some (.lst nv) ∧ DpAll K F nv (ns.map namD) ∧ LastS K B F H S (N :: P :: X) ss := by
  rcases h with ⟨z, _⟩ | ⟨ps1, nm1, ss1, ns1, xs, t, S, N, nv, z, h1, h2, h3, h4, h5, l⟩
  · cases ps0 <;> cases z
  · obtain ⟨rfl, z2⟩ := List.append_inj' z rfl
    cases z2
    exact ⟨xs, t, S, N, nv, h1, h2, h3, h4, h5, l⟩
theorem LastS.open_ {S : Addr} {ss0 : List Stre} {kind : Str} {step : Int} {ws : List Int} {fs : List Fill} (h : LastS K B F H S X (ss0 ++ [⟨kind, step, ws, fs⟩])) : ∃ sv u W G gv, H S = some (.lst (sv ++ [.ref u])) ∧ DpAll K F sv (ss0.map streD) ∧ F u = some (.tup [.str kind, .int step, .ref W, .ref G]) ∧ H W = some (.lst (ws.map V.int)) ∧ H G = some (.lst gv) ∧ DpAll K F gv (fs.map fillD) ∧ Act B F H (W :: G :: S :: X) := by
  rcases h with ⟨z, _⟩ | ⟨ss1, kind1, step1, ws1, fs1, sv, u, W, G, gv, z, h1, h2, h3, h4, h5, h6, c⟩
  · cases ss0 <;> cases z
  · obtain ⟨rfl, z2⟩ := List.append_inj' z rfl
    cases z2
    exact ⟨sv, u, W, G, gv, h1, h2, h3, h4, h5, h6, c⟩
/-- a stretch is put behind -/
theorem BP.stre {ps0 : List Piece} {nm : Str} {ss : List Stre} {ns : List Nam} (h : BP K B F H P X (ps0 ++ [⟨nm, ss, ns⟩])) {W G u : Addr} {kind : Str} {step : Int} (hW : H W = none) (hG : upd H W (.lst []) G = none) (hu : upd (upd H W (.lst [])) G (.lst []) u = none) :
    ∃ xs t S N sv, H P = some (.lst (xs ++ [.ref t])) ∧ H t = some (.tup [.str nm, .ref S, .ref N]) ∧ H S = some (.lst sv) ∧ sv.length = ss.length ∧ (upd (upd (upd H W (.lst [])) G (.lst [])) u (.tup [.str kind, .int step, .ref W, .ref G])) S = some (.lst sv) ∧
    ∃ F', Same F F' ∧ BP K B F' (upd (upd (upd (upd H W (.lst [])) G (.lst [])) u (.tup [.str kind, .int step, .ref W, .ref G])) S (.lst (sv ++ [.ref u]))) P X (ps0 ++ [⟨nm, ss ++ [⟨kind, step, [], []⟩], ns⟩]) := by
  obtain ⟨xs, t, S, N, nv, h1, h2, h3, h4, h5, l⟩ := h.open_
  have ht := h.ext _ _ h3
  obtain ⟨F1, sv, f1, c1, hS, hsv⟩ := l.close
  have c2 := c1.newA (o := .lst []) hW
  have c3 := c2.newA (o := .lst []) hG
  have c4 := c3.new (o := .tup [.str kind, .int step, .ref W, .ref G]) hu
  have f4 := same_upd (o := .tup [.str kind, .int step, .ref W, .ref G]) (c3.ext.free hu)
  have s := (same_upd (o := .lst []) hW).trans ((same_upd (o := .lst []) hG).trans (same_upd (o := .tup [.str kind, .int step, .ref W, .ref G]) hu))
  have c5 := c4.upd (a := S) (o := .lst (sv ++ [.ref u])) (by simp)
  have nd := c4.nd
  have f14 := f1.trans f4
  refine ⟨xs, t, S, N, sv, h1, ht, hS, da_length hsv, s _ _ hS, _, f14, .inr ⟨ps0, nm, _, ns, xs, t, S, N, nv, rfl, ?_, dps_same f14 h2, f14 _ _ h3, ?_, dps_same f14 h5, .inr ⟨ss, kind, step, [], [], sv, u, W, G, [], rfl, upd_same, dps_same f4 hsv, upd_same, ?_, ?_, .nil, c5.perm (List.Perm.swap ..)⟩⟩⟩
  · rw [upd_ne (nd_ne nd 2 4 (by decide) rfl rfl).symm]; exact s _ _ h1
  · rw [upd_ne (nd_ne nd 2 3 (by decide) rfl rfl).symm]; exact s _ _ h4
  · rw [upd_ne (nd_ne nd 1 2 (by decide) rfl rfl)]
    exact same_upd hu _ _ (same_upd hG _ _ upd_same)
  · rw [upd_ne (nd_ne nd 0 2 (by decide) rfl rfl)]
    exact same_upd hu _ _ upd_same
/-- a word is put behind -/
theorem BP.word {ps0 : List Piece} {nm : Str} {ss0 : List Stre} {kind : Str} {step : Int} {ws : List Int} {fs : List Fill} {ns : List Nam} (h : BP K B F H P X (ps0 ++ [⟨nm, ss0 ++ [⟨kind, step, ws, fs⟩], ns⟩])) :
    ∃ xs t S N sv u W G, H P = some (.lst (xs ++ [.ref t])) ∧ H t = some (.tup [.str nm, .ref S, .ref N]) ∧ H S = some (.lst (sv ++ [.ref u])) ∧ H u = some (.tup [.str kind, .int step, .ref W, .ref G]) ∧ H W = some (.lst (ws.map V.int)) ∧
    ∀ w : Int, BP K B F (upd H W (.lst (ws.map V.int ++ [.int w]))) P X (ps0 ++ [⟨nm, ss0 ++ [⟨kind, step, ws ++ [w], fs⟩], ns⟩]) := by
  obtain ⟨xs, t, S, N, nv, h1, h2, h3, h4, h5, l⟩ := h.open_
  obtain ⟨sv, u, W, G, gv, g1, g2, g3, g4, g5, g6, c⟩ := l.open_
  have nd := c.nd
  refine ⟨xs, t, S, N, sv, u, W, G, h1, c.ext _ _ h3, g1, c.ext _ _ g3, g4, fun w => .inr ⟨ps0, nm, _, ns, xs, t, S, N, nv, rfl, ?_, h2, h3, ?_, h5, .inr ⟨ss0, kind, step, ws ++ [w], fs, sv, u, W, G, gv, rfl, ?_, g2, g3, ?_, ?_, g6, c.upd (by simp)⟩⟩⟩
  · rw [upd_ne (nd_ne nd 0 4 (by decide) rfl rfl).symm]; exact h1
  · rw [upd_ne (nd_ne nd 0 3 (by decide) rfl rfl).symm]; exact h4
  · rw [upd_ne (nd_ne nd 0 2 (by decide) rfl rfl).symm]; exact g1
  · rw [upd_same, List.map_append]; rfl
  · rw [upd_ne (nd_ne nd 0 1 (by decide) rfl rfl).symm]; exact g5
/-- a fill is put behind -/
theorem BP.fill {ps0 : List Piece} {nm : Str} {ss0 : List Stre} {kind : Str} {step : Int} {ws : List Int} {fs : List Fill} {ns : List Nam} (h : BP K B F H P X (ps0 ++ [⟨nm, ss0 ++ [⟨kind, step, ws, fs⟩], ns⟩])) {f : Fill} {a : Addr} (ha : F a = some (.tup [.int f.at_, .str f.rule, .str f.name, .int f.add, .bl f.soft])) :
    ∃ xs t S N sv u W G gv, H P = some (.lst (xs ++ [.ref t])) ∧ H t = some (.tup [.str nm, .ref S, .ref N]) ∧ H S = some (.lst (sv ++ [.ref u])) ∧ H u = some (.tup [.str kind, .int step, .ref W, .ref G]) ∧ H W = some (.lst (ws.map V.int)) ∧ H G = some (.lst gv) ∧ gv.length = fs.length ∧
    BP K B F (upd H G (.lst (gv ++ [.ref a]))) P X (ps0 ++ [⟨nm, ss0 ++ [⟨kind, step, ws, fs ++ [f]⟩], ns⟩]) := by
  obtain ⟨xs, t, S, N, nv, h1, h2, h3, h4, h5, l⟩ := h.open_
  obtain ⟨sv, u, W, G, gv, g1, g2, g3, g4, g5, g6, c⟩ := l.open_
  have nd := c.nd
  refine ⟨xs, t, S, N, sv, u, W, G, gv, h1, c.ext _ _ h3, g1, c.ext _ _ g3, g4, g5, da_length g6, .inr ⟨ps0, nm, _, ns, xs, t, S, N, nv, rfl, ?_, h2, h3, ?_, h5, .inr ⟨ss0, kind, step, ws, fs ++ [f], sv, u, W, G, gv ++ [.ref a], rfl, ?_, g2, g3, ?_, upd_same, ?_, c.upd (by simp)⟩⟩⟩
  · rw [upd_ne (nd_ne nd 1 4 (by decide) rfl rfl).symm]; exact h1
  · rw [upd_ne (nd_ne nd 1 3 (by decide) rfl rfl).symm]; exact h4
  · rw [upd_ne (nd_ne nd 1 2 (by decide) rfl rfl).symm]; exact g1
  · rw [upd_ne (nd_ne nd 0 1 (by decide) rfl rfl)]; exact g4
  · rw [List.map_append]
    exact da_app g6 (da_one (.tup (.inl (.inl ha)) (.cons (.int _) (.cons (.str _) (.cons (.str _) (.cons (.int _) (.cons (.bl _) .nil)))))))
/-- a name is put behind -/
theorem BP.nam {ps0 : List Piece} {nm : Str} {ss : List Stre} {ns : List Nam} (h : BP K B F H P X (ps0 ++ [⟨nm, ss, ns⟩])) {n : Nam} {a : Addr} (ha : F a = some (.tup [.str n.name, .str n.sort, .int n.stre, .int n.off])) :
    ∃ xs t S N nv, H P = some (.lst (xs ++ [.ref t])) ∧ H t = some (.tup [.str nm, .ref S, .ref N]) ∧ H N = some (.lst nv) ∧ nv.length = ns.length ∧ BP K B F (upd H N (.lst (nv ++ [.ref a]))) P X (ps0 ++ [⟨nm, ss, ns ++ [n]⟩]) := by
  obtain ⟨xs, t, S, N, nv, h1, h2, h3, h4, h5, l⟩ := h.open_
  have hda : DpAll K F (nv ++ [.ref a]) ((ns ++ [n]).map namD) := by
    rw [List.map_append]
    exact da_app h5 (da_one (.tup (.inl (.inl ha)) (.cons (.str _) (.cons (.str _) (.cons (.int _) (.cons (.int _) .nil))))))
  have ht := h.ext _ _ h3
  rcases l with ⟨rfl, l1, c⟩ | ⟨ss0, kind, step, ws, fs, sv, u, W, G, gv, rfl, g1, g2, g3, g4, g5, g6, c⟩
  · have nd := c.nd
    refine ⟨xs, t, S, N, nv, h1, ht, h4, da_length h5, .inr ⟨ps0, nm, [], _, xs, t, S, N, _, rfl, ?_, h2, h3, upd_same, hda, .inl ⟨rfl, ?_, c.upd (by simp)⟩⟩⟩
    · rw [upd_ne (nd_ne nd 1 2 (by decide) rfl rfl).symm]; exact h1
    · rw [upd_ne (nd_ne nd 0 1 (by decide) rfl rfl)]; exact l1
  · have nd := c.nd
    refine ⟨xs, t, S, N, nv, h1, ht, h4, da_length h5, .inr ⟨ps0, nm, _, _, xs, t, S, N, _, rfl, ?_, h2, h3, upd_same, hda, .inr ⟨ss0, kind, step, ws, fs, sv, u, W, G, gv, rfl, ?_, g2, g3, ?_, ?_, g6, c.upd (by simp)⟩⟩⟩
    · rw [upd_ne (nd_ne nd 3 4 (by decide) rfl rfl).symm]; exact h1
    · rw [upd_ne (nd_ne nd 2 3 (by decide) rfl rfl)]; exact g1
    · rw [upd_ne (nd_ne nd 0 3 (by decide) rfl rfl)]; exact g4
    · rw [upd_ne (nd_ne nd 1 3 (by decide) rfl rfl)]; exact g5
/-- an object beside is new -/
theorem BP.new {ps : List Piece} (h : BP K B F H P X ps) {p : Addr} {o : HO} (hp : H p = none) : BP K B (upd F p o) (upd H p o) P X ps ∧ Same F (upd F p o) := by
  have hF := same_upd (o := o) (h.ext.free hp)
  have s := same_upd (o := o) hp
  refine ⟨?_, hF⟩
  rcases h with ⟨rfl, h3, c⟩ | ⟨ps0, nm, ss, ns, xs, t, S, N, nv, rfl, h1, h2, h3, h4, h5, l⟩
  · exact .inl ⟨rfl, s _ _ h3, c.new hp⟩
  · refine .inr ⟨ps0, nm, ss, ns, xs, t, S, N, nv, rfl, s _ _ h1, dps_same hF h2, hF _ _ h3, s _ _ h4, dps_same hF h5, ?_⟩
    rcases l with ⟨rfl, l1, c⟩ | ⟨ss0, kind, step, ws, fs, sv, u, W, G, gv, rfl, g1, g2, g3, g4, g5, g6, c⟩
    · exact .inl ⟨rfl, s _ _ l1, c.new hp⟩
    · exact .inr ⟨ss0, kind, step, ws, fs, sv, u, W, G, gv, rfl, s _ _ g1, dps_same hF g2, hF _ _ g3, s _ _ g4, s _ _ g5, dps_same hF g6, c.new hp⟩
end
theorem units65 {k : Nat} {A : Around} (r : Room k A) : A.units + 65 < cLine := by have := r.un; omega
/-! names by numbers -/
def sgns : Str := "abcdefghijklmnopqrstuvwxyz0123456789_"
theorem sgns_len : sgns.cps.toList.length = 37 := by decide +kernel
theorem sgns_ok : ∀ c ∈ sgns.cps.toList, c < 128 := by decide +kernel
def nmSize (c k : Int) : Int := if c / 256 % 3 = 0 then 1 + k % 16 else 1 + c % 16
def nmAt (c : Int) : Int := if c / 256 % 3 = 0 then 16 else c / 16 % (1 + c % 16)
def nmIx (c k at_ : Int) (j : Nat) : Int := (c / ((j : Int) + 3) + (j : Int) * (j : Int) + k * (if (j : Int) = at_ then 1 else 0)) % (37 - 11 * (if (j : Int) = 0 then 1 else 0))
def nmL (c k : Int) : List Nat := (List.range (nmSize c k).toNat).map fun j => sgns.cps.toList.getD (nmIx c k (nmAt c) j).toNat 0
def nmT (c k : Int) : Str := ⟨(nmL c k).toArray⟩
theorem nmIx_ok (c k a : Int) (j : Nat) : 0 ≤ nmIx c k a j ∧ nmIx c k a j < 37 := by
  unfold nmIx
  by_cases h : (j : Int) = 0
  · rw [if_pos h]
    have h1 := Int.emod_nonneg (c / ((j : Int) + 3) + (j : Int) * (j : Int) + k * (if (j : Int) = a then 1 else 0)) (show (37 - 11 * 1 : Int) ≠ 0 by decide)
    have h2 := Int.emod_lt_of_pos (c / ((j : Int) + 3) + (j : Int) * (j : Int) + k * (if (j : Int) = a then 1 else 0)) (show (0 : Int) < 37 - 11 * 1 by decide)
    omega
  · rw [if_neg h]
    have h1 := Int.emod_nonneg (c / ((j : Int) + 3) + (j : Int) * (j : Int) + k * (if (j : Int) = a then 1 else 0)) (show (37 - 11 * 0 : Int) ≠ 0 by decide)
    have h2 := Int.emod_lt_of_pos (c / ((j : Int) + 3) + (j : Int) * (j : Int) + k * (if (j : Int) = a then 1 else 0)) (show (0 : Int) < 37 - 11 * 0 by decide)
    omega
theorem nmSize_ok (c k : Int) : 1 ≤ nmSize c k ∧ nmSize c k ≤ 16 := by unfold nmSize; split <;> omega
theorem nmL_len (c k : Int) : (nmL c k).length = (nmSize c k).toNat := by unfold nmL; rw [List.length_map, List.length_range]
theorem nmT_len (c k : Int) : (nmT c k).length ≤ 16 := by
  have h1 : (nmT c k).length = (nmL c k).length := by rw [← len_list]; rfl
  have := nmSize_ok c k
  rw [h1, nmL_len]; omega
theorem nm_sign (c k a : Int) (j : Nat) : sgns.cps.toList.getD (nmIx c k a j).toNat 0 < 128 := by
  have h := nmIx_ok c k a j
  have hi : (nmIx c k a j).toNat < sgns.cps.toList.length := by rw [sgns_len]; omega
  rw [List.getD_eq_getElem?_getD, List.getElem?_eq_getElem hi]
  exact sgns_ok _ (List.getElem_mem hi)
theorem nmT_ok (c k : Int) : okS (nmT c k) := by
  show (nmT c k).cps.all (· < 0x110000) = true
  rw [← Array.all_toList, List.all_eq_true]
  intro x hx
  have hx : x ∈ nmL c k := hx
  obtain ⟨j, _, rfl⟩ := List.mem_map.mp hx
  have := nm_sign c k (nmAt c) j
  exact decide_eq_true (by omega)
/-- p and q as a value, both plain -/
theorem s_andJ {σ : L2.St} {H : Hp} {Q : VK} {tb : TE} {p q : Prop} [Decidable p] [Decidable q] (hb : p → ∀ R : VK, R (.bl (decide q)) H → tb σ H R) (z : Q (.bl (decide (p ∧ q))) H) : if decide p = true then tb σ H Q else Q (.bl false) H := by
  refine s_iteD (fun hp => hb hp _ ?_) (fun hp => ?_)
  · by_cases hq : q
    · rw [decide_eq_true hq]; rw [decide_eq_true ⟨hp, hq⟩] at z; exact z
    · rw [decide_eq_false hq]; rw [decide_eq_false fun h => hq h.2] at z; exact z
  · rw [decide_eq_false fun h => hp h.1] at z; exact z
/-! what a law draws -/
def isRule5 (r : Str) : Prop := r = "whole" ∨ r = "high" ∨ r = "low" ∨ r = "near" ∨ r = "split"
theorem rule5_ok {r : Str} (h : isRule5 r) : okS r := by
  rcases h with rfl | rfl | rfl | rfl | rfl <;> (show PyData.canLay0 _ = true; decide +kernel)
def isSort (z : Str) : Prop := z = "tell" ∨ z = "weak" ∨ z = "own"
theorem sort_ok {r : Str} (h : isSort r) : okS r := by
  rcases h with rfl | rfl | rfl <;> (show PyData.canLay0 _ = true; decide +kernel)
def isKind (z : Str) : Prop := z = "code" ∨ z = "data"
theorem kind_ok {r : Str} (h : isKind r) : okS r := by
  rcases h with rfl | rfl <;> (show PyData.canLay0 _ = true; decide +kernel)
/-- one of the twelve names -/
def nmOf (nb : Int) (z : Str) : Prop := ∃ j : Int, 0 ≤ j ∧ j < 12 ∧ z = nmT nb j
structure GF (nb : Int) (n : Nat) (f : Fill) : Prop where
  at0 : 0 ≤ f.at_
  at1 : f.at_ < n
  rule : isRule5 f.rule
  soft : f.soft = true → f.rule = "whole" ∨ f.rule = "high" ∨ f.rule = "low"
  name : nmOf nb f.name
  add : -2147483648 ≤ f.add ∧ f.add ≤ 2147483647
structure GS (nb : Int) (s : Stre) : Prop where
  kind : isKind s.kind
  step : 0 < s.step ∧ s.step ≤ 65536
  words : ∀ w ∈ s.words, 0 ≤ w ∧ w < 4294967296
  fills : ∀ f ∈ s.fills, GF nb s.words.length f
  rise : (s.fills.map (·.at_)).Pairwise (· < ·)
  few : s.fills.length ≤ s.words.length
structure GN (nb : Int) (ss : List Stre) (m : Nam) : Prop where
  sort : isSort m.sort
  name : nmOf nb m.name
  stre : 0 ≤ m.stre
  at_ : ∃ s, ss[m.stre.toNat]? = some s ∧ 0 ≤ m.off ∧ m.off ≤ s.words.length
def wtS (s : Stre) : Nat := 1 + s.words.length
def wt (p : Piece) : Nat := 1 + p.names.length + (p.stres.map wtS).sum
structure GP (nb tb : Int) (k : Nat) (p : Piece) : Prop where
  name : p.name = nmT tb (k : Int)
  stres : ∀ s ∈ p.stres, GS nb s
  names : ∀ m ∈ p.names, GN nb p.stres m
  once : (p.names.map (·.name)).Nodup
theorem nmOf_ok {nb : Int} {z : Str} (h : nmOf nb z) : okS z := by
  obtain ⟨j, _, _, rfl⟩ := h
  exact nmT_ok _ _
theorem GS.ok {nb : Int} {s : Stre} (h : GS nb s) : s.ok := ⟨kind_ok h.kind, fun f hf => ⟨rule5_ok (h.fills f hf).rule, nmOf_ok (h.fills f hf).name⟩⟩
theorem GP.ok {nb tb : Int} {k : Nat} {p : Piece} (h : GP nb tb k p) : p.ok := ⟨by rw [h.name]; exact nmT_ok _ _, fun s hs => (h.stres s hs).ok, fun m hm => ⟨nmOf_ok (h.names m hm).name, sort_ok (h.names m hm).sort⟩⟩
theorem GS.new {nb : Int} {kind : Str} {step : Int} (h1 : isKind kind) (h2 : 0 < step ∧ step ≤ 65536) : GS nb ⟨kind, step, [], []⟩ := ⟨h1, h2, fun _ h => (nomatch h), fun _ h => (nomatch h), List.Pairwise.nil, Nat.le_refl _⟩
theorem GS.word {nb : Int} {kind : Str} {step w : Int} {ws : List Int} {fs : List Fill} (h : GS nb ⟨kind, step, ws, fs⟩) (hw : 0 ≤ w ∧ w < 4294967296) : GS nb ⟨kind, step, ws ++ [w], fs⟩ := by
  refine ⟨h.kind, h.step, fun x hx => ?_, fun f hf => ?_, h.rise, ?_⟩
  · rcases List.mem_append.mp hx with hx | hx
    · exact h.words x hx
    · cases List.mem_singleton.mp hx; exact hw
  · have := h.fills f hf
    exact ⟨this.at0, by have h1 := this.at1; show f.at_ < ((ws ++ [w]).length : Int); rw [List.length_append, List.length_singleton]; have h1 : f.at_ < (ws.length : Int) := h1; omega, this.rule, this.soft, this.name, this.add⟩
  · have := h.few
    show fs.length ≤ (ws ++ [w]).length
    rw [List.length_append, List.length_singleton]
    have : fs.length ≤ ws.length := this
    omega
theorem GS.fill {nb : Int} {kind : Str} {step w : Int} {ws : List Int} {fs : List Fill} (h : GS nb ⟨kind, step, ws, fs⟩) (hw : 0 ≤ w ∧ w < 4294967296) {f : Fill} (ha : f.at_ = ws.length) (hr : isRule5 f.rule) (hs : f.soft = true → f.rule = "whole" ∨ f.rule = "high" ∨ f.rule = "low") (hn : nmOf nb f.name) (hd : -2147483648 ≤ f.add ∧ f.add ≤ 2147483647) : GS nb ⟨kind, step, ws ++ [w], fs ++ [f]⟩ := by
  have h1 := h.word hw
  refine ⟨h.kind, h.step, h1.words, fun x hx => ?_, ?_, ?_⟩
  · rcases List.mem_append.mp hx with hx | hx
    · exact h1.fills x hx
    · cases List.mem_singleton.mp hx
      exact ⟨by omega, by show f.at_ < ((ws ++ [w]).length : Int); rw [List.length_append, List.length_singleton]; omega, hr, hs, hn, hd⟩
  · show ((fs ++ [f]).map (·.at_)).Pairwise (· < ·)
    rw [List.map_append, List.pairwise_append]
    refine ⟨h.rise, List.pairwise_singleton _ _, fun x hx y hy => ?_⟩
    obtain ⟨g, hg, rfl⟩ := List.mem_map.mp hx
    cases List.mem_singleton.mp hy
    have : g.at_ < (ws.length : Int) := (h.fills g hg).at1
    show g.at_ < f.at_
    omega
  · have : fs.length ≤ ws.length := h.few
    show (fs ++ [f]).length ≤ (ws ++ [w]).length
    rw [List.length_append, List.length_append, List.length_singleton, List.length_singleton]; omega
theorem GN.more {nb : Int} {ss0 : List Stre} {s s' : Stre} {m : Nam} (h : GN nb (ss0 ++ [s]) m) (hl : s.words.length ≤ s'.words.length) : GN nb (ss0 ++ [s']) m := by
  refine ⟨h.sort, h.name, h.stre, ?_⟩
  obtain ⟨q, hq, h1, h2⟩ := h.at_
  rcases Nat.lt_or_ge m.stre.toNat ss0.length with hi | hi
  · rw [List.getElem?_append_left hi] at hq
    exact ⟨q, by rw [List.getElem?_append_left hi]; exact hq, h1, h2⟩
  · rw [List.getElem?_append_right hi] at hq
    have h0 : m.stre.toNat - ss0.length = 0 := by
      rcases Nat.eq_zero_or_pos (m.stre.toNat - ss0.length) with h | h
      · exact h
      · rw [List.getElem?_eq_none (by rw [List.length_singleton]; omega)] at hq; cases hq
    rw [h0] at hq
    cases hq
    exact ⟨s', by rw [List.getElem?_append_right hi, h0]; rfl, h1, by omega⟩
theorem GN.grow {nb : Int} {ss : List Stre} {s : Stre} {m : Nam} (h : GN nb ss m) : GN nb (ss ++ [s]) m := by
  obtain ⟨q, hq, h1, h2⟩ := h.at_
  exact ⟨h.sort, h.name, h.stre, q, by rw [List.getElem?_append_left (List.getElem?_eq_some_iff.mp hq).1]; exact hq, h1, h2⟩
theorem GP.new {nb tb : Int} {k : Nat} : GP nb tb k ⟨nmT tb k, [], []⟩ := ⟨rfl, fun _ h => (nomatch h), fun _ h => (nomatch h), List.nodup_nil⟩
theorem GP.stre {nb tb : Int} {k : Nat} {nm : Str} {ss : List Stre} {ns : List Nam} {s : Stre} (h : GP nb tb k ⟨nm, ss, ns⟩) (hs : GS nb s) : GP nb tb k ⟨nm, ss ++ [s], ns⟩ := by
  refine ⟨h.name, fun x hx => ?_, fun m hm => (h.names m hm).grow, h.once⟩
  rcases List.mem_append.mp hx with hx | hx
  · exact h.stres x hx
  · cases List.mem_singleton.mp hx; exact hs
theorem GP.last {nb tb : Int} {k : Nat} {nm : Str} {ss0 : List Stre} {ns : List Nam} {s s' : Stre} (h : GP nb tb k ⟨nm, ss0 ++ [s], ns⟩) (hs : GS nb s') (hl : s.words.length ≤ s'.words.length) : GP nb tb k ⟨nm, ss0 ++ [s'], ns⟩ := by
  refine ⟨h.name, fun x hx => ?_, fun m hm => (h.names m hm).more hl, h.once⟩
  rcases List.mem_append.mp hx with hx | hx
  · exact h.stres x (List.mem_append_left _ hx)
  · cases List.mem_singleton.mp hx; exact hs
theorem GP.nam {nb tb : Int} {k : Nat} {nm : Str} {ss0 : List Stre} {ns : List Nam} {s : Stre} (h : GP nb tb k ⟨nm, ss0 ++ [s], ns⟩) {name sort : Str} (h1 : nmOf nb name) (h2 : isSort sort) (h3 : name ∉ ns.map (·.name)) : GP nb tb k ⟨nm, ss0 ++ [s], ns ++ [⟨name, sort, (ss0.length : Int), (s.words.length : Int)⟩]⟩ := by
  refine ⟨h.name, h.stres, fun m hm => ?_, ?_⟩
  · rcases List.mem_append.mp hm with hm | hm
    · exact h.names m hm
    · cases List.mem_singleton.mp hm
      refine ⟨h2, h1, by show (0 : Int) ≤ ss0.length; omega, s, ?_, by show (0 : Int) ≤ s.words.length; omega, Int.le_refl _⟩
      show (ss0 ++ [s])[((ss0.length : Nat) : Int).toNat]? = some s
      rw [Int.toNat_natCast, List.getElem?_append_right (Nat.le_refl _), Nat.sub_self]; rfl
  · show (List.map (fun m : Nam => m.name) (ns ++ [_])).Nodup
    rw [List.map_append, List.nodup_append]
    refine ⟨h.once, List.nodup_cons.mpr ⟨List.not_mem_nil, List.nodup_nil⟩, fun a ha b hb e => ?_⟩
    cases List.mem_singleton.mp hb
    have e : a = name := e
    exact h3 (e ▸ ha)
/-- two do not tell one name strongly -/
def NoTwo (p q : Piece) : Prop := ∀ m ∈ p.names, ∀ m' ∈ q.names, m.name = m'.name → ¬ (m.sort = "tell" ∧ m'.sort = "tell")
structure Drawn (nb tb : Int) (strict : Bool) (n : Nat) (ps : List Piece) : Prop where
  each : ∀ (k : Nat) p, ps[k]? = some p → GP nb tb k p
  len : ps.length ≤ 12
  wts : (ps.map wt).sum ≤ n
  two : strict = false → ps.Pairwise NoTwo
theorem Drawn.nil {nb tb : Int} {strict : Bool} : Drawn nb tb strict 0 [] := ⟨fun _ _ h => (nomatch h), by decide, Nat.le_refl _, fun _ => List.Pairwise.nil⟩
theorem Drawn.ok {nb tb : Int} {strict : Bool} {n : Nat} {ps : List Piece} (h : Drawn nb tb strict n ps) : ∀ p ∈ ps, p.ok := fun p hp => by
  obtain ⟨k, hk⟩ := List.getElem?_of_mem hp
  exact (h.each k p hk).ok
theorem Drawn.more {nb tb : Int} {strict : Bool} {n m : Nat} {ps : List Piece} (h : Drawn nb tb strict n ps) (hm : n ≤ m) : Drawn nb tb strict m ps := ⟨h.each, h.len, Nat.le_trans h.wts hm, h.two⟩
theorem Drawn.piece {nb tb : Int} {strict : Bool} {n : Nat} {ps : List Piece} (h : Drawn nb tb strict n ps) (hl : ps.length < 12) : Drawn nb tb strict (n + 1) (ps ++ [⟨nmT tb (ps.length : Int), [], []⟩]) := by
  refine ⟨fun k p hp => ?_, by rw [List.length_append, List.length_singleton]; omega, ?_, fun hs => ?_⟩
  · rcases Nat.lt_or_ge k ps.length with hk | hk
    · rw [List.getElem?_append_left hk] at hp; exact h.each k p hp
    · rw [List.getElem?_append_right hk] at hp
      rcases Nat.eq_zero_or_pos (k - ps.length) with h0 | h0
      · rw [h0] at hp
        cases hp
        have : k = ps.length := by omega
        rw [this]
        exact GP.new
      · rw [List.getElem?_eq_none (by rw [List.length_singleton]; omega)] at hp; cases hp
  · rw [List.map_append, List.sum_append]
    have := h.wts
    show _ + (1 + 0) ≤ _
    omega
  · rw [List.pairwise_append]
    exact ⟨h.two hs, List.pairwise_singleton _ _, fun p _ q hq => by cases List.mem_singleton.mp hq; exact fun m _ m' hm' => (nomatch hm')⟩
/-- the last piece becomes another one -/
theorem Drawn.last {nb tb : Int} {strict : Bool} {n : Nat} {ps0 : List Piece} {p p' : Piece} (h : Drawn nb tb strict n (ps0 ++ [p])) (hg : GP nb tb ps0.length p → GP nb tb ps0.length p') (hw : wt p' ≤ wt p + 1) (h2 : strict = false → (∀ q ∈ ps0, NoTwo q p) → ∀ q ∈ ps0, NoTwo q p') : Drawn nb tb strict (n + 1) (ps0 ++ [p']) := by
  refine ⟨fun k q hq => ?_, by have := h.len; rw [List.length_append] at this ⊢; exact this, ?_, fun hs => ?_⟩
  · rcases Nat.lt_or_ge k ps0.length with hk | hk
    · rw [List.getElem?_append_left hk] at hq
      exact h.each k q (by rw [List.getElem?_append_left hk]; exact hq)
    · rw [List.getElem?_append_right hk] at hq
      rcases Nat.eq_zero_or_pos (k - ps0.length) with h0 | h0
      · rw [h0] at hq
        cases hq
        have e : k = ps0.length := by omega
        rw [e]
        exact hg (h.each ps0.length p (by rw [List.getElem?_append_right (Nat.le_refl _), Nat.sub_self]; rfl))
      · rw [List.getElem?_eq_none (by rw [List.length_singleton]; omega)] at hq; cases hq
  · have := h.wts
    rw [List.map_append, List.sum_append] at this ⊢
    have e1 : ([p].map wt).sum = wt p := by simp
    have e2 : ([p'].map wt).sum = wt p' := by simp
    omega
  · have := List.pairwise_append.mp (h.two hs)
    rw [List.pairwise_append]
    refine ⟨this.1, List.pairwise_singleton _ _, fun q hq x hx => ?_⟩
    cases List.mem_singleton.mp hx
    exact h2 hs (fun q hq => this.2.2 q hq p (List.mem_singleton.mpr rfl)) q hq
section
variable {K : PySem.W.Frag} {H B F : Hp} {P q : Addr} {X : List Addr} {ps : List Piece} {Q : VK} {p : Addr} {ds : List PyData}
theorem s_eqNilP (h1 : Dp K H (.ref p) (.list ds)) (hs : SeqAt.shaped (.list ds) = true) (h2 : H q = some (.lst [])) (z : Q (.bl (decide (ds = []))) H) : rEqD K (.ref p) (.ref q) H Q := by
  refine ⟨_, .list [], h1, .lst (.inl (.inl h2)) .nil, hs, by decide +kernel, ?_⟩
  cases ds with
  | nil => exact z
  | cons d ds => exact z
theorem BP.listP (h : BP K B F H P X ps) : ∃ vs, H P = some (.lst vs) ∧ vs.length = ps.length := by
  obtain ⟨F', xs, _, _, hP, hxs⟩ := h.close
  exact ⟨xs, hP, da_length hxs⟩
theorem last_uniq {xs xs' : List V} {t t' : Addr} (h1 : H P = some (.lst (xs ++ [.ref t]))) (h2 : H P = some (.lst (xs' ++ [.ref t']))) : xs = xs' ∧ t = t' := by
  rw [h1] at h2
  have h2 : xs ++ [V.ref t] = xs' ++ [V.ref t'] := by injection h2 with h2; injection h2
  obtain ⟨e1, e2⟩ := List.append_inj' h2 rfl
  cases e2
  exact ⟨e1, rfl⟩
theorem stres_shaped {ss : List Stre} (h : ∀ s ∈ ss, s.ok) : SeqAt.shaped (.list (ss.map streD)) = true := by
  obtain ⟨a, b⟩ := lay_map (f := streD) (l := ss) (n := 3) fun x hx => streD_ok (h x hx)
  exact shaped_of a (Nat.le_trans b (by decide))
theorem wt_le {ps : List Piece} {p : Piece} (h : p ∈ ps) : wt p ≤ (ps.map wt).sum := by
  induction ps with
  | nil => cases h
  | cons q ps ih =>
    rw [List.map_cons, List.sum_cons]
    rcases List.mem_cons.mp h with rfl | h
    · omega
    · have := ih h; omega
theorem sum_app1 {ss0 : List Stre} {s : Stre} : ((ss0 ++ [s]).map wtS).sum = (ss0.map wtS).sum + wtS s := by
  rw [List.map_append, List.sum_append]; simp
end
end Jl

/-! Sorted texts. -/
namespace Jl
open PySem L2 PySem.Spec PyProof.Rows
theorem putK_new' {κ : Type} [DecidableEq κ] {kvs : List (κ × V)} {k : κ} {v : V} (h : ∀ x ∈ kvs, x.1 ≠ k) : putK kvs k v = kvs ++ [(k, v)] := by
  unfold putK
  rw [if_neg]
  intro z
  obtain ⟨x, hx, e⟩ := List.any_eq_true.mp z
  exact h x hx (of_decide_eq_true e)
/-- not behind -/
def leS (a b : Str) : Prop := ltCps b.cps.toList a.cps.toList = false
theorem leS_iff {a b : Str} : leS a b ↔ ¬ b.cps.toList < a.cps.toList := by
  unfold leS
  rw [ltCps_eq]
  exact decide_eq_false_iff_not
theorem leS_trans {a b c : Str} (h1 : leS a b) (h2 : leS b c) : leS a c := by
  rw [leS_iff] at *
  exact List.le_trans (show a.cps.toList ≤ b.cps.toList from h1) (show b.cps.toList ≤ c.cps.toList from h2)
theorem leS_anti {a b : Str} (h1 : leS a b) (h2 : leS b a) : a = b := by
  rw [leS_iff] at *
  exact str_ext (List.le_antisymm (show a.cps.toList ≤ b.cps.toList from h1) (show b.cps.toList ≤ a.cps.toList from h2))
theorem rising_pw : ∀ (l : List Str) (p : Str), risingS p l = true → (p :: l).Pairwise leS
  | [], p, _ => List.pairwise_singleton _ _
  | x :: r, p, h => by
    have h' : (!ltCps x.cps.toList p.cps.toList && risingS x r) = true := h
    rw [Bool.and_eq_true, Bool.not_eq_true'] at h'
    have ih := rising_pw r x h'.2
    refine List.pairwise_cons.mpr ⟨fun y hy => ?_, ih⟩
    rcases List.mem_cons.mp hy with rfl | hy
    · exact h'.1
    · exact leS_trans h'.1 ((List.pairwise_cons.mp ih).1 y hy)
theorem sorted_pw : ∀ (l : List Str), sortedS l = true → l.Pairwise leS
  | [], _ => List.Pairwise.nil
  | x :: r, h => rising_pw r x h
theorem sorted_uniq {l m : List Str} (hl : sortedS l = true) (hm : sortedS m = true) (p : l.Perm m) : l = m :=
  List.Perm.eq_of_pairwise (le := leS) (fun _ _ _ _ h1 h2 => leS_anti h1 h2) (sorted_pw l hl) (sorted_pw m hm) p
def rSrtS (K : PySem.W.Frag) : List V → Hp → VK → Prop := rSortedS K
theorem cl_sortedS {X : Cx} : CallR X (.builtin "sorted") (rSrtS X.K) := cr_sortedS
theorem s_sortedS {K : PySem.W.Frag} {H : Hp} {Q : VK} {a : Addr} {xs : List Str} (h : SqL K H a (xs.map V.str)) (hl : xs.length < 64) (z : ∀ ys p, ys.Perm xs → sortedS ys = true → H p = none → Q (.ref p) (upd H p (.lst (ys.map V.str)))) : rSrtS K [.ref a] H Q := ⟨a, xs, rfl, h, hl, z⟩
def rSrtD : List V → Hp → VK → Prop := fun xs H Q => ∃ (a : Addr) (kvs : List (Key × V)) (ks : List Str), xs = [.ref a] ∧ Rd H a (.dK kvs) ∧ kvs.map (·.1) = ks.map Sum.inr ∧ ks.length < 64 ∧ ∀ ys p, ys.Perm ks → sortedS ys = true → H p = none → Q (.ref p) (upd H p (.lst (ys.map V.str)))
theorem s_sortedD {H : Hp} {Q : VK} {a : Addr} {kvs : List (Key × V)} {ks : List Str} (h : H a = some (.dK kvs)) (hk : kvs.map (·.1) = ks.map Sum.inr) (hl : ks.length < 64) (z : ∀ ys p, ys.Perm ks → sortedS ys = true → H p = none → Q (.ref p) (upd H p (.lst (ys.map V.str)))) : rSrtD [.ref a] H Q := ⟨a, kvs, ks, rfl, .inl h, hk, hl, z⟩
theorem cl_sortedD {X : Cx} (hc : X.calm = true) : CallR X (.builtin "sorted") rSrtD := call_sortedD hc
/-- the names that a piece tells to itself; to others -/
def owns (p : Piece) : List Nam := p.names.filter fun m => decide (m.sort = ("own" : Str))
def tolds (p : Piece) : List Str := (p.names.filter fun m => !decide (m.sort = ("own" : Str))).map (·.name)
/-- a dict of own names -/
def OwnD (H : Hp) (m : Addr) (nm : Str) (l : List Nam) : Prop := ∃ v : Str → Addr, H m = some (.dK (l.map fun n => ((Sum.inr n.name : Key), V.ref (v n.name)))) ∧ ∀ n ∈ l, H (v n.name) = some (.tup [.str nm, .int n.stre, .int n.off])
theorem OwnD.same {H H' : Hp} {m : Addr} {nm : Str} {l : List Nam} (s : Same H H') (h : OwnD H m nm l) : OwnD H' m nm l := by
  obtain ⟨v, h1, h2⟩ := h
  exact ⟨v, s _ _ h1, fun n hn => s _ _ (h2 n hn)⟩
theorem valV_strs {z : Str} {f : Str → V} : ∀ l : List Str, valV (l.map fun x => ((Sum.inr x : Key), f x)) (Sum.inr z) = if z ∈ l then some (f z) else none
  | [] => rfl
  | x :: l => by
    rw [List.map_cons]
    by_cases e : x = z
    · subst e
      rw [valV_pos rfl, if_pos List.mem_cons_self]
    · rw [valV_neg (show ¬ (Sum.inr x : Key) = Sum.inr z from fun h => e (Sum.inr.inj h)), valV_strs l]
      by_cases h : z ∈ l
      · rw [if_pos h, if_pos (List.mem_cons_of_mem _ h)]
      · rw [if_neg h, if_neg fun h2 => (List.mem_cons.mp h2).elim (fun h3 => e h3.symm) h]
theorem OwnD.get {H : Hp} {m : Addr} {nm : Str} {l : List Nam} (h : OwnD H m nm l) (z : Str) : ∃ o, DGet H m (.str z) o ∧ (o.isSome = decide (z ∈ l.map (·.name))) ∧ ∀ w, o = some w → ∃ t, w = .ref t := by
  obtain ⟨v, h1, h2⟩ := h
  refine ⟨_, DGet.k (k := (Sum.inr z : Key)) h1, ?_, ?_⟩
  · have e : (l.map fun n => ((Sum.inr n.name : Key), V.ref (v n.name))) = (l.map (·.name)).map fun x => ((Sum.inr x : Key), V.ref (v x)) := by rw [List.map_map]; rfl
    rw [e, valV_strs (f := fun x => V.ref (v x))]
    by_cases h : z ∈ l.map (·.name)
    · rw [if_pos h, decide_eq_true h]; rfl
    · rw [if_neg h, decide_eq_false h]; rfl
  · intro w hw
    have e : (l.map fun n => ((Sum.inr n.name : Key), V.ref (v n.name))) = (l.map (·.name)).map fun x => ((Sum.inr x : Key), V.ref (v x)) := by rw [List.map_map]; rfl
    rw [e, valV_strs (f := fun x => V.ref (v x))] at hw
    split at hw
    · cases hw; exact ⟨_, rfl⟩
    · cases hw
theorem OwnD.put {H : Hp} {m t : Addr} {nm : Str} {l : List Nam} {n : Nam} (h : OwnD H m nm l) (ht : H t = some (.tup [.str nm, .int n.stre, .int n.off])) (hn : n.name ∉ l.map (·.name)) (hl : l.length ≤ 99999) : ∃ o, DPut H m (.str n.name) (.ref t) (upd H m o) ∧ OwnD (upd H m o) m nm (l ++ [n]) := by
  obtain ⟨v, h1, h2⟩ := h
  refine ⟨_, DPut.k (k := (Sum.inr n.name : Key)) (v := .ref t) h1 (small5' (by rw [List.length_map]; omega)), fun z => if z = n.name then t else v z, ?_, fun q hq => ?_⟩
  · rw [putK_new']
    · rw [upd_same, List.map_append]
      have e1 : l.map (fun q => ((Sum.inr q.name : Key), V.ref (if q.name = n.name then t else v q.name))) = l.map fun q => ((Sum.inr q.name : Key), V.ref (v q.name)) := List.map_congr_left fun q hq => by
        rw [if_neg fun e => hn (List.mem_map.mpr ⟨q, hq, e⟩)]
      rw [e1]
      show some (HO.dK (_ ++ [_])) = some (HO.dK (_ ++ [((Sum.inr n.name : Key), V.ref (if n.name = n.name then t else v n.name))]))
      rw [if_pos rfl]
    · intro x hx e
      obtain ⟨q, hq, rfl⟩ := List.mem_map.mp hx
      exact hn (List.mem_map.mpr ⟨q, hq, Sum.inr.inj e⟩)
  · rcases List.mem_append.mp hq with hq | hq
    · show upd H m _ (if q.name = n.name then t else v q.name) = _
      rw [if_neg fun e => hn (List.mem_map.mpr ⟨q, hq, e⟩)]
      have h3 := h2 q hq
      rw [upd_ne (ne_of h3 h1 (by intro z; cases z))]
      exact h3
    · cases List.mem_singleton.mp hq
      show upd H m _ (if n.name = n.name then t else v n.name) = _
      rw [if_pos rfl, upd_ne (ne_of ht h1 (by intro z; cases z))]
      exact ht
theorem OwnD.nil {H : Hp} {m : Addr} {nm : Str} (h : H m = some (.dK [])) : OwnD H m nm [] := ⟨fun _ => m, h, fun _ h => nomatch h⟩
theorem nd_mem_take {l : List Nam} {i : Nat} {q : Nam} (h : (l.map (·.name)).Nodup) (hq : l[i]? = some q) (f : Nam → Bool) : q.name ∉ ((l.take i).filter f).map (·.name) := by
  intro z
  obtain ⟨x, hx, e⟩ := List.mem_map.mp z
  have hx := (List.mem_filter.mp hx).1
  obtain ⟨j, hj, e2⟩ := List.getElem_of_mem hx
  have hj2 : j < i ∧ j < l.length := by rw [List.length_take] at hj; omega
  have hil : i < l.length := (List.getElem?_eq_some_iff.mp hq).1
  rw [List.getElem_take] at e2
  have h2 := List.pairwise_iff_getElem.mp h j i (by rw [List.length_map]; exact hj2.2) (by rw [List.length_map]; exact hil) hj2.1
  rw [List.getElem_map, List.getElem_map, e2, (List.getElem?_eq_some_iff.mp hq).2] at h2
  exact h2 e
def addN (ks : List Str) (n : Str) : List Str := if n ∈ ks then ks else ks ++ [n]
def wantS (p : Piece) (ks : List Str) (f : Fill) : List Str := if f.soft = false ∧ f.name ∉ (owns p).map (·.name) then addN ks f.name else ks
/-- the names that fills want, in the order of their first want -/
def wantL (p : Piece) (fs : List Fill) : List Str := fs.foldl (wantS p) []
theorem wantL_snoc (p : Piece) (fs : List Fill) (f : Fill) : wantL p (fs ++ [f]) = wantS p (wantL p fs) f := by
  unfold wantL
  rw [List.foldl_append]; rfl
theorem addN_len (ks : List Str) (n : Str) : (addN ks n).length ≤ ks.length + 1 := by
  unfold addN
  split
  · omega
  · rw [List.length_append]; exact Nat.le_refl _
theorem wantS_len (p : Piece) (ks : List Str) (f : Fill) : (wantS p ks f).length ≤ ks.length + 1 := by
  unfold wantS
  split
  · exact addN_len _ _
  · omega
theorem want_len (p : Piece) : ∀ (fs : List Fill) (ks : List Str), (fs.foldl (wantS p) ks).length ≤ ks.length + fs.length
  | [], ks => Nat.le_refl _
  | f :: fs, ks => by
    rw [List.foldl_cons, List.length_cons]
    have := want_len p fs (wantS p ks f)
    have := wantS_len p ks f
    omega
theorem wantL_len (p : Piece) (fs : List Fill) : (wantL p fs).length ≤ fs.length := by
  have := want_len p fs []
  rw [List.length_nil, Nat.zero_add] at this
  exact this
def allF (p : Piece) : List Fill := p.stres.flatMap (·.fills)
/-- a dict of texts, each with True -/
def TruD (H : Hp) (m : Addr) (ks : List Str) : Prop := H m = some (.dK (ks.map fun x => ((Sum.inr x : Key), V.bl true)))
theorem TruD.nil {H : Hp} {m : Addr} (h : H m = some (.dK [])) : TruD H m [] := h
theorem TruD.same {H H' : Hp} {m : Addr} {ks : List Str} (s : Same H H') (h : TruD H m ks) : TruD H' m ks := s _ _ h
theorem putK_old' {κ : Type} [DecidableEq κ] {kvs : List (κ × V)} {k : κ} {v : V} (h : ∃ x ∈ kvs, x.1 = k) : putK kvs k v = kvs.map fun x => if x.1 = k then (x.1, v) else x := by
  unfold putK
  rw [if_pos]
  obtain ⟨x, hx, e⟩ := h
  exact List.any_eq_true.mpr ⟨x, hx, decide_eq_true e⟩
theorem TruD.put {H : Hp} {m : Addr} {ks : List Str} {n : Str} (h : TruD H m ks) (hl : ks.length ≤ 99999) : ∃ o, DPut H m (.str n) (.bl true) (upd H m o) ∧ TruD (upd H m o) m (addN ks n) := by
  refine ⟨_, DPut.k (k := (Sum.inr n : Key)) (v := .bl true) h (small5' (by rw [List.length_map]; omega)), ?_⟩
  unfold TruD addN
  rw [upd_same]
  by_cases g : n ∈ ks
  · rw [if_pos g, putK_old' ⟨_, List.mem_map.mpr ⟨n, g, rfl⟩, rfl⟩, List.map_map]
    congr 3
    funext x
    show (if (Sum.inr x : Key) = Sum.inr n then ((Sum.inr x : Key), V.bl true) else ((Sum.inr x : Key), V.bl true)) = _
    split <;> rfl
  · rw [if_neg g, putK_new', List.map_append]
    · rfl
    · intro x hx e
      obtain ⟨q, hq, rfl⟩ := List.mem_map.mp hx
      exact g (by rw [← Sum.inr.inj e]; exact hq)
theorem TruD.keys {H : Hp} {m : Addr} {ks : List Str} (h : TruD H m ks) : H m = some (.dK (ks.map fun x => ((Sum.inr x : Key), V.bl true))) ∧ (ks.map fun x => ((Sum.inr x : Key), V.bl true)).map (·.1) = ks.map Sum.inr := ⟨h, by rw [List.map_map]; rfl⟩
theorem tolds_d (p : Piece) : (p.names.filterMap fun n => if n.sort = ("own" : Str) then none else some (PyData.str n.name)) = (tolds p).map PyData.str := by
  unfold tolds
  induction p.names with
  | nil => rfl
  | cons n l ih =>
    rw [List.filterMap_cons, List.filter_cons]
    by_cases g : n.sort = ("own" : Str)
    · rw [if_pos g, decide_eq_true g]; exact ih
    · rw [if_neg g, decide_eq_false g]
      show _ :: _ = _ :: _
      rw [ih]
theorem tolds_len (p : Piece) : (tolds p).length ≤ p.names.length := by
  unfold tolds
  rw [List.length_map]
  exact List.length_filter_le _ _
theorem own_mem {p : Piece} {z : Str} : z ∈ (owns p).map (·.name) ↔ ∃ m ∈ p.names, m.name = z ∧ m.sort = "own" := by
  unfold owns
  rw [List.mem_map]
  constructor
  · rintro ⟨m, hm, e⟩
    have := List.mem_filter.mp hm
    exact ⟨m, this.1, e, of_decide_eq_true this.2⟩
  · rintro ⟨m, hm, e, e2⟩
    exact ⟨m, List.mem_filter.mpr ⟨hm, decide_eq_true e2⟩, e⟩
theorem flat_sub (l : List Stre) (n : Nat) : ((l.take n).flatMap (·.fills)).Sublist (l.flatMap (·.fills)) := by
  have e : l.flatMap (·.fills) = (l.take n).flatMap (·.fills) ++ (l.drop n).flatMap (·.fills) := by
    rw [← List.flatMap_append, List.take_append_drop]
  rw [e]
  exact List.sublist_append_left _ _
/-- a piece that is small and lawful -/
structure Fine (p : Piece) : Prop where
  ok : p.ok
  once : (p.names.map (·.name)).Nodup
  nl : p.names.length < 64
  sl : p.stres.length < 64
  fl : (allF p).length < 64
theorem few_le {nb : Int} : ∀ (ss : List Stre), (∀ s ∈ ss, GS nb s) → (ss.flatMap (·.fills)).length ≤ (ss.map wtS).sum
  | [], _ => Nat.le_refl _
  | s :: ss, h => by
    rw [List.flatMap_cons, List.length_append, List.map_cons, List.sum_cons]
    have h1 := few_le ss fun x hx => h x (List.mem_cons_of_mem _ hx)
    have h2 := (h s List.mem_cons_self).few
    have h3 : wtS s = 1 + s.words.length := rfl
    omega
theorem stl_le : ∀ (ss : List Stre), ss.length ≤ (ss.map wtS).sum
  | [] => Nat.le_refl _
  | s :: ss => by
    rw [List.length_cons, List.map_cons, List.sum_cons]
    have h1 := stl_le ss
    have h3 : wtS s = 1 + s.words.length := rfl
    omega
theorem Drawn.fine {nb tb : Int} {strict : Bool} {n : Nat} {ps : List Piece} (h : Drawn nb tb strict n ps) (hn : n ≤ 63) : ∀ p ∈ ps, Fine p := fun p hp => by
  obtain ⟨k, hk, e⟩ := List.getElem_of_mem hp
  have g := h.each k p (by rw [List.getElem?_eq_getElem hk, e])
  have h1 := wt_le hp
  have h2 := h.wts
  have h3 : wt p = 1 + p.names.length + (p.stres.map wtS).sum := rfl
  have h4 := few_le p.stres g.stres
  have h5 := stl_le p.stres
  exact ⟨g.ok, g.once, by omega, by omega, by show (p.stres.flatMap (·.fills)).length < 64; omega⟩
def padP : Piece := ⟨"pad", [], []⟩
theorem pad_fine : Fine padP := ⟨⟨by unfold okS; decide +kernel, fun _ h => (nomatch h), fun _ h => (nomatch h)⟩, List.nodup_nil, by decide, by decide, by decide⟩
theorem strs_shaped {l : List Str} (h : ∀ z ∈ l, okS z) : SeqAt.shaped (.list (l.map PyData.str)) = true := by
  have := lay_map (f := PyData.str) (l := l) (n := 0) fun z hz => ⟨h z hz, Nat.le_refl _⟩
  exact shaped_of this.1 (Nat.le_trans this.2 (by decide))
theorem da_strL {K : PySem.W.Frag} {H : Hp} : ∀ l : List Str, DpAll K H (l.map V.str) (l.map PyData.str)
  | [] => .nil
  | z :: l => .cons (.str z) (da_strL l)
theorem dp_strL {K : PySem.W.Frag} {H : Hp} {a : Addr} {l : List Str} (h : SqL K H a (l.map V.str)) : Dp K H (.ref a) (.list (l.map PyData.str)) := .lst h (da_strL l)
theorem tolds_ok {p : Piece} (h : p.ok) : ∀ z ∈ tolds p, okS z := fun z hz => by
  obtain ⟨m, hm, rfl⟩ := List.mem_map.mp hz
  exact (h.2.2 m (List.mem_filter.mp hm).1).1
theorem cutV_ints2 (ns : List Int) (lo hi : Option Int) : ∃ ms : List Int, cutV (ns.map V.int) lo hi = ms.map V.int ∧ ms.length ≤ ns.length := by
  refine ⟨(ns.drop (HT.sIx (ns.map V.int).length 0 lo)).take (HT.sIx (ns.map V.int).length (ns.map V.int).length hi - HT.sIx (ns.map V.int).length 0 lo), ?_, ?_⟩
  · rw [List.map_take, List.map_drop]; rfl
  · rw [List.length_take, List.length_drop]; omega
end Jl

/-! Dicts that hold data, their entries in order. -/
namespace Jl
open PySem L2 PySem.Spec PyProof.Rows
section
variable {κ α : Type} [DecidableEq κ] [DecidableEq α] {K : PySem.W.Frag} {F F' H H' : Hp} {m : Addr} {v : V} {d : PyData}
/-- entries are data -/
def KVD (K : PySem.W.Frag) (F : Hp) (kf : α → κ) (kvs : List (κ × V)) (L : List (α × PyData)) : Prop := kvs.map (·.1) = L.map (fun x => kf x.1) ∧ DpAll K F (kvs.map (·.2)) (L.map (·.2))
def lookL (L : List (α × PyData)) (k : α) : Option PyData := (L.find? fun x => decide (x.1 = k)).map (·.2)
def putL (L : List (α × PyData)) (k : α) (d : PyData) : List (α × PyData) := if k ∈ L.map (·.1) then L.map (fun x => if x.1 = k then (x.1, d) else x) else L ++ [(k, d)]
theorem KVD.nil {kf : α → κ} : KVD K F kf [] [] := ⟨rfl, .nil⟩
theorem KVD.same {kf : α → κ} {kvs : List (κ × V)} {L : List (α × PyData)} (h : KVD K F kf kvs L) (s : Same F F') : KVD K F' kf kvs L := ⟨h.1, dps_same s h.2⟩
theorem KVD.len {kf : α → κ} {kvs : List (κ × V)} {L : List (α × PyData)} (h : KVD K F kf kvs L) : kvs.length = L.length := by
  have := congrArg List.length h.1
  rw [List.length_map, List.length_map] at this
  exact this
theorem KVD.uncons {kf : α → κ} {x : α × PyData} {kvs : List (κ × V)} {L : List (α × PyData)} (h : KVD K F kf kvs (x :: L)) : ∃ v r, kvs = (kf x.1, v) :: r ∧ Dp K F v x.2 ∧ KVD K F kf r L := by
  cases kvs with
  | nil => exact absurd h.1 (by intro z; cases z)
  | cons y r =>
    obtain ⟨h1, h2⟩ := h
    rw [List.map_cons, List.map_cons] at h1
    obtain ⟨e1, e2⟩ := List.cons.inj h1
    rw [List.map_cons, List.map_cons] at h2
    obtain ⟨v, vs, e, g1, g2⟩ := da_cons h2
    obtain ⟨e3, e4⟩ := List.cons.inj e
    refine ⟨y.2, r, ?_, ?_, e2, ?_⟩
    · rw [← e1]
    · rw [e3]; exact g1
    · rw [e4]; exact g2
theorem lookL_none {L : List (α × PyData)} {k : α} : lookL L k = none ↔ k ∉ L.map (·.1) := by
  unfold lookL
  rw [Option.map_eq_none_iff, List.find?_eq_none]
  constructor
  · intro h z
    obtain ⟨x, hx, e⟩ := List.mem_map.mp z
    exact h x hx (decide_eq_true e)
  · intro h x hx e
    exact h (List.mem_map.mpr ⟨x, hx, of_decide_eq_true e⟩)
theorem KVD.get {kf : α → κ} (hj : ∀ a b, kf a = kf b → a = b) {k : α} : ∀ {L : List (α × PyData)} {kvs : List (κ × V)}, KVD K F kf kvs L →
    (lookL L k = none ∧ valV kvs (kf k) = none) ∨ ∃ d v, lookL L k = some d ∧ valV kvs (kf k) = some v ∧ Dp K F v d
  | [], kvs, h => by
    have e : kvs = [] := by have := h.len; exact List.eq_nil_of_length_eq_zero this
    subst e
    exact .inl ⟨rfl, rfl⟩
  | x :: L, kvs, h => by
    obtain ⟨v, r, rfl, hv, hr⟩ := h.uncons
    by_cases e : x.1 = k
    · refine .inr ⟨x.2, v, ?_, ?_, hv⟩
      · unfold lookL
        rw [List.find?_cons, decide_eq_true e]; rfl
      · rw [e]; exact valV_pos rfl
    · have e1 : lookL (x :: L) k = lookL L k := by
        unfold lookL
        rw [List.find?_cons, decide_eq_false e]
      rw [e1, valV_neg (show ¬ kf x.1 = kf k from fun z => e (hj _ _ z))]
      exact hr.get hj
theorem KVD.put {kf : α → κ} (hj : ∀ a b, kf a = kf b → a = b) {k : α} {L : List (α × PyData)} {kvs : List (κ × V)} (h : KVD K F kf kvs L) (hv : Dp K F v d) : KVD K F kf (putK kvs (kf k) v) (putL L k d) := by
  by_cases g : k ∈ L.map (·.1)
  · have e1 : putL L k d = L.map (fun x => if x.1 = k then (x.1, d) else x) := if_pos g
    have g2 : ∃ x ∈ kvs, x.1 = kf k := by
      obtain ⟨x, hx, e⟩ := List.mem_map.mp g
      have : kf k ∈ kvs.map (·.1) := by rw [h.1, ← e]; exact List.mem_map.mpr ⟨x, hx, rfl⟩
      obtain ⟨y, hy, e2⟩ := List.mem_map.mp this
      exact ⟨y, hy, e2⟩
    rw [e1, putK_old' g2]
    clear g g2 e1
    induction L generalizing kvs with
    | nil =>
      have e : kvs = [] := List.eq_nil_of_length_eq_zero h.len
      subst e
      exact .nil
    | cons x L ih =>
      obtain ⟨w, r, rfl, hw, hr⟩ := h.uncons
      obtain ⟨i1, i2⟩ := ih hr
      rw [List.map_cons, List.map_cons]
      by_cases e : x.1 = k
      · rw [if_pos e, if_pos (by show kf x.1 = kf k; rw [e])]
        refine ⟨?_, ?_⟩
        · rw [List.map_cons, List.map_cons, i1]
        · rw [List.map_cons, List.map_cons]
          exact .cons hv i2
      · rw [if_neg e, if_neg (fun z => e (hj _ _ z))]
        refine ⟨?_, ?_⟩
        · rw [List.map_cons, List.map_cons, i1]
        · rw [List.map_cons, List.map_cons]
          exact .cons hw i2
  · have e1 : putL L k d = L ++ [(k, d)] := if_neg g
    rw [e1, putK_new']
    · refine ⟨?_, ?_⟩
      · rw [List.map_append, List.map_append, h.1]; rfl
      · rw [List.map_append, List.map_append]
        exact da_app h.2 (da_one hv)
    · intro x hx e
      have : x.1 ∈ kvs.map (·.1) := List.mem_map.mpr ⟨x, hx, rfl⟩
      rw [h.1] at this
      obtain ⟨y, hy, e2⟩ := List.mem_map.mp this
      exact g (List.mem_map.mpr ⟨y, hy, hj _ _ (e2.trans e)⟩)
theorem putL_len {L : List (α × PyData)} {k : α} : (putL L k d).length ≤ L.length + 1 := by
  unfold putL
  split
  · rw [List.length_map]; omega
  · rw [List.length_append]; exact Nat.le_refl _
theorem putL_keys {L : List (α × PyData)} {k : α} : (putL L k d).map (·.1) = if k ∈ L.map (·.1) then L.map (·.1) else L.map (·.1) ++ [k] := by
  unfold putL
  by_cases g : k ∈ L.map (·.1)
  · rw [if_pos g, if_pos g, List.map_map]
    refine List.map_congr_left fun x _ => ?_
    show (if x.1 = k then (x.1, d) else x).1 = x.1
    split <;> rfl
  · rw [if_neg g, if_neg g, List.map_append]; rfl
theorem putL_nodup {L : List (α × PyData)} {k : α} (h : (L.map (·.1)).Nodup) : ((putL L k d).map (·.1)).Nodup := by
  rw [putL_keys]
  split
  · exact h
  · rename_i g
    exact List.nodup_append.mpr ⟨h, List.pairwise_singleton _ _, fun a ha b hb e => by cases List.mem_singleton.mp hb; exact g (e ▸ ha)⟩
theorem lookL_map {L : List (α × PyData)} {k j : α} (h : j ≠ k) : lookL (L.map fun x => if x.1 = k then (x.1, d) else x) j = lookL L j := by
  induction L with
  | nil => rfl
  | cons x L ih =>
    have c : ∀ (y : α × PyData) (M : List (α × PyData)), lookL (y :: M) j = if y.1 = j then some y.2 else lookL M j := fun y M => by
      unfold lookL
      rw [List.find?_cons]
      by_cases e : y.1 = j
      · rw [decide_eq_true e, if_pos e]; rfl
      · rw [decide_eq_false e, if_neg e]
    rw [List.map_cons, c, c, ih]
    by_cases e : x.1 = k
    · rw [if_pos e]
      show (if x.1 = j then some d else _) = _
      rw [if_neg (fun z => h (z.symm.trans e)), if_neg (fun z => h (z.symm.trans e))]
    · rw [if_neg e]
theorem lookL_cons {x : α × PyData} {L : List (α × PyData)} {k : α} : lookL (x :: L) k = if x.1 = k then some x.2 else lookL L k := by
  unfold lookL
  rw [List.find?_cons]
  by_cases e : x.1 = k
  · rw [decide_eq_true e, if_pos e]; rfl
  · rw [decide_eq_false e, if_neg e]
theorem lookL_app {L M : List (α × PyData)} {k : α} : lookL (L ++ M) k = (lookL L k).or (lookL M k) := by
  induction L with
  | nil => rfl
  | cons x L ih =>
    rw [List.cons_append, lookL_cons, lookL_cons, ih]
    split <;> rfl
theorem lookL_put {L : List (α × PyData)} {k j : α} : lookL (putL L k d) j = if j = k then some d else lookL L j := by
  by_cases e : j = k
  · subst e
    rw [if_pos rfl]
    unfold putL
    by_cases g : j ∈ L.map (·.1)
    · rw [if_pos g]
      induction L with
      | nil => cases g
      | cons x L ih =>
        rw [List.map_cons, lookL_cons]
        by_cases e : x.1 = j
        · rw [if_pos e]
          show (if x.1 = j then some d else _) = _
          rw [if_pos e]
        · rw [if_neg e, if_neg e]
          rw [List.map_cons] at g
          exact ih ((List.mem_cons.mp g).resolve_left fun z => e z.symm)
    · rw [if_neg g, lookL_app, lookL_none.mpr g, lookL_cons, if_pos rfl]; rfl
  · rw [if_neg e]
    unfold putL
    split
    · exact lookL_map e
    · rw [lookL_app, lookL_cons, if_neg (fun z => e z.symm)]
      cases lookL L j <;> rfl
end
/-- a dict of texts that holds data -/
def SD (K : PySem.W.Frag) (F H : Hp) (m : Addr) (L : List (Str × PyData)) : Prop := ∃ kvs : List (Key × V), H m = some (.dK kvs) ∧ KVD K F (fun z : Str => (Sum.inr z : Key)) kvs L
theorem inr_inj (a b : Str) (h : (Sum.inr a : Key) = Sum.inr b) : a = b := Sum.inr.inj h
section
variable {K : PySem.W.Frag} {F F' H H' : Hp} {m : Addr} {v : V} {d : PyData} {L : List (Str × PyData)} {z : Str}
theorem SD.nil (h : H m = some (.dK [])) : SD K F H m [] := ⟨[], h, .nil⟩
theorem SD.to (D : SD K F H m L) (s : Same F F') (e : H' m = H m) : SD K F' H' m L := by
  obtain ⟨kvs, h1, h2⟩ := D
  exact ⟨kvs, e.trans h1, h2.same s⟩
theorem SD.ext (D : SD K F H m L) (s : Same F F') (s2 : Same H H') : SD K F' H' m L := by
  obtain ⟨kvs, h1, h2⟩ := D
  exact ⟨kvs, s2 _ _ h1, h2.same s⟩
theorem SD.isD (D : SD K F H m L) : IsD H m := by
  obtain ⟨kvs, h1, -⟩ := D
  exact .inl ⟨kvs, .inl h1⟩
theorem SD.get (D : SD K F H m L) (z : Str) : (lookL L z = none ∧ DGet H m (.str z) none) ∨ ∃ d v, lookL L z = some d ∧ DGet H m (.str z) (some v) ∧ Dp K F v d := by
  obtain ⟨kvs, h1, h2⟩ := D
  have g := DGet.k (k := (Sum.inr z : Key)) h1
  rcases h2.get inr_inj (k := z) with ⟨e1, e2⟩ | ⟨d, v, e1, e2, h3⟩
  · rw [e2] at g; exact .inl ⟨e1, g⟩
  · rw [e2] at g; exact .inr ⟨d, v, e1, g, h3⟩
theorem SD.put (D : SD K F H m L) (hv : Dp K F v d) (hl : L.length ≤ 99999) : ∃ o, DPut H m (.str z) v (upd H m o) ∧ SD K F (upd H m o) m (putL L z d) := by
  obtain ⟨kvs, h1, h2⟩ := D
  exact ⟨_, DPut.k (k := (Sum.inr z : Key)) (v := v) h1 (small5' (by rw [h2.len]; omega)), _, upd_same, h2.put inr_inj hv⟩
theorem SD.len (D : SD K F H m L) : ∃ kvs : List (Key × V), H m = some (.dK kvs) ∧ kvs.length = L.length := by
  obtain ⟨kvs, h1, h2⟩ := D
  exact ⟨kvs, h1, h2.len⟩
end
/-! dicts that hold the same values -/
def refB : V → Bool
  | .ref _ => true
  | v => flatB v
theorem eqAt_ref {A : Around} {s : Shared} {v : V} {u u' : Value} (r : RelV v u) (r' : RelV v u') (f : refB v = true) : SeqAt.EqAt A s u u' true := by
  cases v with
  | ref b => cases (show u = Value.ref b from r); cases (show u' = Value.ref b from r'); exact SeqAt.EqAt.same _
  | non => exact eqAt_same r r' rfl
  | bl b => exact eqAt_same r r' rfl
  | int i => exact eqAt_same r r' rfl
  | str x => exact eqAt_same r r' rfl
  | byt b => exact eqAt_same r r' rfl
  | _ => exact eqAt_same r r' f
section
variable {κ : Type} [DecidableEq κ]
theorem hits_ref {A : Around} {s : Shared} {kvs : List (κ × V)} {vb : List (κ × Value)} (rb : KV kvs vb) {ks : List (κ × V)} {va : List (κ × Value)} (ra : KV ks va) :
    (∀ p ∈ ks, valV kvs p.1 = some p.2 ∧ refB p.2 = true) → PySem.W.KeqHits A s vb va true := by
  unfold KV at ra
  induction ra with
  | nil => intro _; exact .nil
  | @cons p q ps qs h t ih =>
    intro hp
    obtain ⟨h1, h2⟩ := h
    obtain ⟨e, f⟩ := hp p List.mem_cons_self
    have rr : RelO (some p.2) (valueAt vb p.1) := by rw [← e]; exact rb.val p.1
    obtain ⟨y, hy, ry⟩ := rr.some_of
    obtain ⟨k, v⟩ := q
    have h1' : p.1 = k := h1
    rw [h1'] at hy
    show PySem.W.KeqHits A s vb ((k, v) :: qs) (true && true)
    exact .hit hy (eqAt_ref h2 ry f) (ih fun p' hm => hp p' (List.mem_cons_of_mem _ hm))
end
def rEqDS : R2 := fun x y H Q => ∃ a b kvs, x = .ref a ∧ y = .ref b ∧ H a = some (.dK kvs) ∧ H b = some (.dK kvs) ∧ (kvs.map (·.1)).Nodup ∧ (∀ p ∈ kvs, refB p.2 = true) ∧ Q (.bl true) H
theorem op_eqDS {X : Cx} (hu : X.A.units < cLine) : OpR X (compareOp .Eq) rEqDS := by
  intro pins s σ H x y v u Q I rx ry h
  obtain ⟨a, b, kvs, rfl, rfl, ea, eb, nd, fl, q⟩ := h
  obtain rfl : v = Value.ref a := rx
  obtain rfl : u = Value.ref b := ry
  obtain ⟨_, ya, va, ra, da⟩ := (show ObjOk X.prog X.w H s.heap a (.dK kvs) from I.hok a _ ea)
  obtain ⟨_, yb, vb, rb, db⟩ := (show ObjOk X.prog X.w H s.heap b (.dK kvs) from I.hok b _ eb)
  have hl : va.length = vb.length := ra.length.symm.trans rb.length
  exact PySem.W.keq_eq (knd := mixKind X.prog X.w) (r := true) ya yb da db hu (fun _ => hits_ref rb ra fun p hp => ⟨val_nodup nd p hp, fl p hp⟩) (L2.fin_bl I q (by simp [hl]))
theorem KVD.refs {κ α : Type} [DecidableEq κ] [DecidableEq α] {K : PySem.W.Frag} {F : Hp} {kf : α → κ} : ∀ {L : List (α × PyData)} {kvs : List (κ × V)}, KVD K F kf kvs L → ∀ p ∈ kvs, refB p.2 = true
  | [], kvs, h => by
    have e : kvs = [] := List.eq_nil_of_length_eq_zero h.len
    subst e
    exact fun p hp => nomatch hp
  | x :: L, kvs, h => by
    obtain ⟨v, r, rfl, hv, hr⟩ := h.uncons
    intro p hp
    rcases List.mem_cons.mp hp with rfl | hp
    · show refB v = true
      generalize x.2 = d at hv
      cases hv <;> rfl
    · exact hr.refs p hp
/-! list.count of flat items -/
def rCntV (K : PySem.W.Frag) : V → List V → Hp → VK → Prop := fun x xs H Q => ∃ (p : Addr) (ys : List V) (y : V), x = .ref p ∧ xs = [y] ∧ SqL K H p ys ∧ flatV y = true ∧ ys.all flatV = true ∧ Q (.int (ys.countP (fun z => eqV z y) : Nat)) H
theorem cnt_eqU {x : V} : ∀ {xs : List V} {us : List Value}, Vals xs us → xs.all flatV = true → us.countP (eqU x) = xs.countP fun y => eqV y x
  | _, _, .nil, _ => rfl
  | y :: xs, u :: us, .cons r t, f => by
    rw [List.all_cons, Bool.and_eq_true] at f
    rw [List.countP_cons, List.countP_cons, eqU_of r f.1, cnt_eqU t f.2]
theorem mt_countV {X : Cx} : MtR X "list.count" (rCntV X.K) := by
  intro pins s σ H x xs v us Q I rx rxs h
  obtain ⟨p, ys, k, rfl, rfl, hs, fy, fs, q⟩ := h
  cases rx
  obtain ⟨u, rfl, ru⟩ := rxs.one
  obtain ⟨its, rv, ⟨⟨cls, dd, data, sl⟩, n, ho, hc, hdn, hd⟩, hlen⟩ := I.list hs
  simp only at hc hd
  subst hc hd
  refine call_meets PySem.F.slot_list_count ⟨_, ho, rfl⟩ PySem.F.entry_list_count (PySem.F.args_list_count_2 _ _)
    (SeqAt.list_countAt p its.toArray n dd sl u (eqU k)) ⟨ho, fun y hy => mem_eqAt ru fy rv fs y (by simpa using hy), ?_⟩
  have ec : its.toArray.toList.countP (eqU k) = ys.countP fun z => eqV z k := cnt_eqU rv fs
  refine ⟨.int (ys.countP (fun z => eqV z k) : Nat), H, I.tok _, ⟨s.toks, ?_⟩, q⟩
  show Value.int ((its.toArray.toList.countP (eqU k) : Nat) : Int) s.toks = _
  rw [ec]
/-! steps -/
section
variable {K : PySem.W.Frag} {σ : L2.St} {H : Hp} {Q : VK} {td ty tx to : TE} {tr : TA}
theorem s_dget2 (z : td σ H fun x H1 => ∃ a, x = .ref a ∧ IsD H1 a ∧ ty σ H1 fun y H2 => tx σ H2 fun z H3 => ∃ o, DGet H3 a y o ∧ Q (o.getD z) H3) : tDGet2 td ty tx σ H Q := z
theorem s_dsetd (z : td σ H fun x H1 => ∃ a, x = .ref a ∧ IsD H1 a ∧ ty σ H1 fun y H2 => tx σ H2 fun z H3 => ∃ (kvs : List (Key × V)) (k : Key), H3 a = some (.dK kvs) ∧ y = kV k ∧ kvs.length < sizeLine ∧ (∀ v, valV kvs k = some v → Q v H3) ∧ (valV kvs k = none → Q z (upd H3 a (.dK (putK kvs k z))))) : tDSetd td ty tx σ H Q := z
end
/-! an exception with several fields -/
section
variable {K : PySem.W.Frag} {C : Addr} {sp : Sp} {σ : L2.St} {H : Hp} {t : TA} {vs : List V} {fs : List (Str × V)}
theorem s_mkN {Q : XK} (ht : ∀ R : List V → Hp → Prop, R vs H → t σ H R) (hl : vs.length ≤ 1000)
    (hs : ∀ (a : Addr) (H' : Hp) (Q' : VK), H' a = some (exo a C none) → (∀ dx H2, H' dx = none → dx ≠ a → (∀ b, b ≠ a → b ≠ dx → H2 b = H' b) → H2 a = some (exo a C (some dx)) → H2 dx = some (exd dx fs) → Q' .non H2) → sp (.ref a :: vs) H' Q' (fun _ _ _ => False))
    (z : ∀ d, H d = none → Q (.ref C) (some d) (upd H d (.xd fs))) : tMkO C sp [] t σ H Q := by
  refine ht _ ⟨hl, fun a ha => ?_⟩
  rw [List.append_nil]
  refine hs a _ _ upd_same fun dx H2 nd ne hb h1 h2 => ⟨rfl, dx, fs, h1, h2, ?_, ?_⟩
  · rw [upd_ne ne] at nd; exact nd
  · rw [upd_ne ne] at nd
    have e : upd (del H2 a) dx (.xd fs) = upd H dx (.xd fs) := by
      funext b
      by_cases h : b = dx
      · rw [h, upd_same, upd_same]
      · rw [upd_ne h, upd_ne h]
        by_cases g : b = a
        · rw [g, del_same, ha]
        · rw [del_ne g, hb b g h, upd_ne g]
    rw [e]
    exact z dx nd
theorem s_ostM {f : Str} {to te : TE} {nx bk ct : L2.St → Hp → Prop} {rt : VK} {a dx : Addr} {v : V} (he : ∀ R : VK, R v H → te σ H R) (ho : ∀ R : VK, R (.ref a) H → to σ H R) (T : OexC K C) (no : PySem.W.findIn K (.ref C) f = some none) (h : H a = some (exo a C (some dx))) (hd : H dx = some (exd dx fs)) (hl : fs.length ≤ 900)
    (z : nx σ (upd H dx (exd dx ((f, v) :: fs)))) : tOst K f to te ⟨nx, rt, bk, ct⟩ σ H := he _ (ho _ ⟨a, C, rfl, T, no, .inr ⟨dx, fs, h, hd, hl, z⟩⟩)
end
/-! what names stand for -/
def spotD (t : Str) (i j : Int) : PyData := .tuple [.str t, .int i, .int j]
def AllSpot (L : List (Str × PyData)) : Prop := ∀ x ∈ L, ∃ t i j, okS t ∧ x.2 = spotD t i j
theorem AllSpot.nil : AllSpot [] := fun _ h => nomatch h
theorem AllSpot.put {L : List (Str × PyData)} {z t : Str} {i j : Int} (h : AllSpot L) (ht : okS t) : AllSpot (putL L z (spotD t i j)) := by
  intro x hx
  unfold putL at hx
  split at hx
  · obtain ⟨y, hy, rfl⟩ := List.mem_map.mp hx
    by_cases e : y.1 = z
    · rw [if_pos e]; exact ⟨t, i, j, ht, rfl⟩
    · rw [if_neg e]; exact h y hy
  · rcases List.mem_append.mp hx with hx | hx
    · exact h x hx
    · cases List.mem_singleton.mp hx
      exact ⟨t, i, j, ht, rfl⟩
theorem AllSpot.look {L : List (Str × PyData)} {z : Str} {d : PyData} (h : AllSpot L) (e : lookL L z = some d) : ∃ t i j, okS t ∧ d = spotD t i j := by
  unfold lookL at e
  cases g : L.find? (fun x => decide (x.1 = z)) with
  | none => rw [g] at e; cases e
  | some x =>
    rw [g] at e
    cases e
    exact h x (List.mem_of_find?_eq_some g)
theorem dp_spot {K : PySem.W.Frag} {H : Hp} {x : V} {t : Str} {i j : Int} (h : Dp K H x (spotD t i j)) : ∃ p, x = .ref p ∧ SqT K H p [.str t, .int i, .int j] := by
  obtain ⟨p, u0, e0, h1, g0⟩ := dp_tup h
  obtain ⟨u1, e1, g1⟩ := da_str g0
  obtain ⟨u2, e2, g2⟩ := da_int g1
  obtain ⟨u3, e3, g3⟩ := da_int g2
  have e4 := da_nil g3
  subst e0 e1 e2 e3 e4
  exact ⟨p, rfl, h1⟩
theorem spot_dp {K : PySem.W.Frag} {H : Hp} {p : Addr} {t : Str} {i j : Int} (h : H p = some (.tup [.str t, .int i, .int j])) : Dp K H (.ref p) (spotD t i j) := .tup (.inl (.inl h)) (.cons (.str _) (.cons (.int _) (.cons (.int _) .nil)))
theorem spot_shaped {t : Str} {i j : Int} (h : okS t) : SeqAt.shaped (spotD t i j) = true := by
  refine shaped_of ?_ ?_
  · show ((PyData.str t).canLay0 && (true && (true && true))) = true
    rw [h]; rfl
  · show max 0 (max 0 (max 0 0)) + 1 ≤ 64
    omega
/-- the own name of a piece -/
def ownOf (p : Piece) (z : Str) : Option Nam := p.names.find? fun n => decide (n.name = z) && decide (n.sort = ("own" : Str))
theorem owns_find (p : Piece) (z : Str) : (owns p).find? (fun n => decide (n.name = z)) = ownOf p z := by
  unfold owns ownOf
  rw [List.find?_filter]
  congr 1
  funext n
  rw [Bool.eq_iff_iff]
  simp only [Bool.and_eq_true, decide_eq_true_iff]
  exact and_comm
theorem valV_own {v : Str → Addr} {z : Str} : ∀ l : List Nam, valV (l.map fun n => ((Sum.inr n.name : Key), V.ref (v n.name))) (Sum.inr z) = (l.find? fun n => decide (n.name = z)).map fun n => V.ref (v n.name)
  | [] => rfl
  | x :: l => by
    rw [List.map_cons, List.find?_cons]
    by_cases e : x.name = z
    · rw [decide_eq_true e, valV_pos (by rw [e])]; rfl
    · rw [decide_eq_false e, valV_neg (show ¬ (Sum.inr x.name : Key) = Sum.inr z from fun h => e (Sum.inr.inj h)), valV_own l]
theorem OwnD.get2 {H : Hp} {m : Addr} {p : Piece} (h : OwnD H m p.name (owns p)) (z : Str) : (ownOf p z = none ∧ DGet H m (.str z) none) ∨ ∃ n t, ownOf p z = some n ∧ DGet H m (.str z) (some (.ref t)) ∧ H t = some (.tup [.str p.name, .int n.stre, .int n.off]) := by
  obtain ⟨v, h1, h2⟩ := h
  have g := DGet.k (k := (Sum.inr z : Key)) h1
  rw [valV_own, owns_find] at g
  cases e : ownOf p z with
  | none => rw [e] at g; exact .inl ⟨rfl, g⟩
  | some n =>
    rw [e] at g
    refine .inr ⟨n, _, rfl, g, h2 n ?_⟩
    rw [← owns_find] at e
    exact List.mem_of_find?_eq_some e
theorem OwnD.isD {H : Hp} {m : Addr} {nm : Str} {l : List Nam} (h : OwnD H m nm l) : IsD H m := by
  obtain ⟨v, h1, -⟩ := h
  exact .inl ⟨_, .inl h1⟩
/-- what a name stands for in a piece, the others' names being L -/
def spotOf (p : Piece) (L : List (Str × PyData)) (z : Str) : Option PyData := match ownOf p z with
  | some n => some (spotD p.name n.stre n.off)
  | none => lookL L z
theorem spotOf_all {p : Piece} {L : List (Str × PyData)} {z : Str} {d : PyData} (hp : okS p.name) (h : AllSpot L) (e : spotOf p L z = some d) : ∃ t i j, okS t ∧ d = spotD t i j := by
  unfold spotOf at e
  split at e
  · cases e; exact ⟨_, _, _, hp, rfl⟩
  · exact h.look e
theorem aim_get {K : PySem.W.Frag} {F H : Hp} {m mo : Addr} {p : Piece} {L : List (Str × PyData)} (z : Str) (D : SD K F H m L) (sF : Same F H) (hL : AllSpot L) (ho : OwnD H mo p.name (owns p)) (hp : okS p.name) :
    ∃ o1 o2, DGet H m (.str z) o1 ∧ DGet H mo (.str z) o2 ∧ ((spotOf p L z = none ∧ o2.getD (o1.getD .non) = .non) ∨ ∃ t i j q, okS t ∧ spotOf p L z = some (spotD t i j) ∧ o2.getD (o1.getD .non) = .ref q ∧ SqT K H q [.str t, .int i, .int j]) := by
  have key : ∀ o1, DGet H m (.str z) o1 → ((lookL L z = none ∧ o1 = none) ∨ ∃ t i j q, okS t ∧ lookL L z = some (spotD t i j) ∧ o1 = some (.ref q) ∧ SqT K H q [.str t, .int i, .int j]) → ∃ o1 o2, DGet H m (.str z) o1 ∧ DGet H mo (.str z) o2 ∧ ((spotOf p L z = none ∧ o2.getD (o1.getD .non) = .non) ∨ ∃ t i j q, okS t ∧ spotOf p L z = some (spotD t i j) ∧ o2.getD (o1.getD .non) = .ref q ∧ SqT K H q [.str t, .int i, .int j]) := fun o1 g1 h1 => by
    rcases ho.get2 z with ⟨e2, g2⟩ | ⟨n, t, e2, g2, h2⟩
    · have e3 : spotOf p L z = lookL L z := by unfold spotOf; rw [e2]
      refine ⟨o1, none, g1, g2, ?_⟩
      rw [e3]
      rcases h1 with ⟨e, rfl⟩ | ⟨t, i, j, q, ok, e, rfl, h⟩
      · exact .inl ⟨e, rfl⟩
      · exact .inr ⟨t, i, j, q, ok, e, rfl, h⟩
    · have e3 : spotOf p L z = some (spotD p.name n.stre n.off) := by unfold spotOf; rw [e2]
      exact ⟨o1, some (.ref t), g1, g2, .inr ⟨_, _, _, t, hp, e3, rfl, .inl (.inl h2)⟩⟩
  rcases D.get z with ⟨e1, g1⟩ | ⟨d, v, e1, g1, hv⟩
  · exact key _ g1 (.inl ⟨e1, rfl⟩)
  · obtain ⟨t, i, j, ok, rfl⟩ := hL.look e1
    obtain ⟨q, rfl, hq⟩ := dp_spot hv
    exact key _ g1 (.inr ⟨t, i, j, q, ok, e1, rfl, sameT sF hq⟩)
/-- the names that a piece tells to others -/
def toldN (p : Piece) (ns : List Nam) : List (Str × PyData) := (ns.filter fun n => !decide (n.sort = ("own" : Str))).map fun n => (n.name, spotD p.name n.stre n.off)
def toldS (p : Piece) : List (Str × PyData) := toldN p p.names
def putAll (L xs : List (Str × PyData)) : List (Str × PyData) := xs.foldl (fun L x => putL L x.1 x.2) L
theorem putAll_app (L xs ys : List (Str × PyData)) : putAll L (xs ++ ys) = putAll (putAll L xs) ys := List.foldl_append
theorem putAll_len : ∀ (xs L : List (Str × PyData)), (putAll L xs).length ≤ L.length + xs.length
  | [], L => Nat.le_refl _
  | x :: xs, L => by
    have h1 := putAll_len xs (putL L x.1 x.2)
    have h2 := putL_len (L := L) (k := x.1) (d := x.2)
    show (putAll (putL L x.1 x.2) xs).length ≤ _
    rw [List.length_cons]
    omega
theorem putAll_nodup : ∀ (xs L : List (Str × PyData)), (L.map (·.1)).Nodup → ((putAll L xs).map (·.1)).Nodup
  | [], L, h => h
  | x :: xs, L, h => putAll_nodup xs _ (putL_nodup h)
theorem putAll_spot : ∀ (xs L : List (Str × PyData)), AllSpot L → AllSpot xs → AllSpot (putAll L xs)
  | [], L, h, _ => h
  | x :: xs, L, h, hx => by
    obtain ⟨t, i, j, ok, e⟩ := hx x List.mem_cons_self
    refine putAll_spot xs _ ?_ fun y hy => hx y (List.mem_cons_of_mem _ hy)
    show AllSpot (putL L x.1 x.2)
    rw [e]
    exact h.put ok
theorem toldN_spot {p : Piece} (h : okS p.name) (ns : List Nam) : AllSpot (toldN p ns) := fun x hx => by
  obtain ⟨n, _, rfl⟩ := List.mem_map.mp hx
  exact ⟨_, _, _, h, rfl⟩
theorem toldN_snoc (p : Piece) (ns : List Nam) (n : Nam) : toldN p (ns ++ [n]) = if n.sort = ("own" : Str) then toldN p ns else toldN p ns ++ [(n.name, spotD p.name n.stre n.off)] := by
  unfold toldN
  rw [List.filter_append, List.filter_cons]
  by_cases g : n.sort = ("own" : Str)
  · rw [if_pos g, decide_eq_true g]
    show (_ ++ []).map _ = _
    rw [List.append_nil]
  · rw [if_neg g, decide_eq_false g]
    show (_ ++ [n]).map _ = _
    rw [List.map_append]; rfl
theorem toldN_len (p : Piece) (ns : List Nam) : (toldN p ns).length ≤ ns.length := by
  unfold toldN
  rw [List.length_map]
  exact List.length_filter_le _ _
theorem told_flat_len : ∀ (ps : List Piece), (∀ p ∈ ps, p.names.length < 64) → (ps.flatMap toldS).length ≤ 64 * ps.length
  | [], _ => Nat.le_refl _
  | p :: ps, h => by
    rw [List.flatMap_cons, List.length_append, List.length_cons]
    have h1 := told_flat_len ps fun q hq => h q (List.mem_cons_of_mem _ hq)
    have h2 : (toldS p).length ≤ p.names.length := toldN_len p p.names
    have h3 := h p List.mem_cons_self
    omega
/-- the last told -/
def lastL (ps : List Piece) : List (Str × PyData) := putAll [] (ps.flatMap toldS)
theorem lastL_spot {ps : List Piece} (h : ∀ p ∈ ps, okS p.name) : AllSpot (lastL ps) := putAll_spot _ _ AllSpot.nil fun x hx => by
  obtain ⟨p, hp, hx⟩ := List.mem_flatMap.mp hx
  exact toldN_spot (h p hp) _ x hx
theorem own_snoc {ns : List Nam} {q : Nam} {z : Str} (h : ns.find? (fun n => decide (n.name = z) && decide (n.sort = ("own" : Str))) = none) (g : ¬ (q.name = z ∧ q.sort = ("own" : Str))) : (ns ++ [q]).find? (fun n => decide (n.name = z) && decide (n.sort = ("own" : Str))) = none := by
  rw [List.find?_append, h, List.find?_cons]
  have : (decide (q.name = z) && decide (q.sort = ("own" : Str))) = false := by
    rw [Bool.eq_false_iff]
    intro e
    rw [Bool.and_eq_true, decide_eq_true_iff, decide_eq_true_iff] at e
    exact g e
  rw [this]; rfl
theorem own_at {p : Piece} {i : Nat} {q : Nam} {z : Str} (h : (p.names.take i).find? (fun n => decide (n.name = z) && decide (n.sort = ("own" : Str))) = none) (hq : p.names[i]? = some q) (g1 : q.name = z) (g2 : q.sort = ("own" : Str)) : ownOf p z = some q := by
  obtain ⟨hi, e⟩ := List.getElem?_eq_some_iff.mp hq
  have e1 : p.names = p.names.take i ++ q :: p.names.drop (i + 1) := by
    rw [← e, ← List.drop_eq_getElem_cons hi, List.take_append_drop]
  unfold ownOf
  rw [e1, List.find?_append, h, List.find?_cons, decide_eq_true g1, decide_eq_true g2]; rfl
theorem spotD_inj {t t' : Str} {i j i' j' : Int} (h : spotD t i j = spotD t' i' j') : t = t' ∧ i = i' ∧ j = j' := by
  unfold spotD at h
  injection h with h
  injection h with a1 h
  injection h with a2 h
  injection h with a3 h
  injection a1 with a1
  injection a2 with a2
  injection a3 with a3
  exact ⟨a1, a2, a3⟩
theorem s_lenT {K : PySem.W.Frag} {H : Hp} {Q : VK} {p : Addr} {xs : List V} (h : SqT K H p xs) (k : Q (.int (xs.length : Int)) H) : rLenL K [.ref p] H Q := ⟨p, xs, rfl, .inr h, k⟩
end Jl

/-! sorted(xs, key=lambda x: x[0]): the lambda is made, called item by item. -/
namespace Jl
open PySem L2 PySem.Spec PyProof.Rows
/-- a lambda of one name that stands at f -/
def LamO (f c' : Addr) (q : Str) (params : Arguments) (body : Expr) (scope : Scope) : HO := .ext fun h => ∃ pm ctv : Value, h.get? f = some (PySem.W.kla_obj "<lambda>" q params body scope [] pm c' ctv)
/-- all but the cell at P stays -/
def Keep1 (P : Addr) (H H' : Hp) : Prop := ∀ b u, b ≠ P → H b = some u → H' b = some u
theorem Keep1.refl {P : Addr} {H : Hp} : Keep1 P H H := fun _ _ _ h => h
theorem Keep1.trans {P : Addr} {H H' H'' : Hp} (a : Keep1 P H H') (b : Keep1 P H' H'') : Keep1 P H H'' := fun c u n h => b c u n (a c u n h)
theorem Keep1.of {P : Addr} {H H' : Hp} (s : Same H H') : Keep1 P H H' := fun b u _ h => s b u h
section
variable {X : Cx} {pins : List (Addr × Obj)} {σ : L2.St} {H : Hp} {s : Shared}
/-- the lambda is made: its code stands in the table, or is put there -/
theorem lam_new {c P : Addr} {params : Arguments} {body : Expr} {scope : Scope} {pos : Pos} {E Q : Value → Shared → Prop} (I : Inv X pins σ H s) (TB : LamX.TabB X.base X.mg c P) (hcode : X.env.code = .ref c)
    (hT : LamX.TabS H P (X.env.qual ++ "<lambda>")) (hdef : defaultsOf params X.env = ([], [])) (hcl : closureFor scope X.env = pure [])
    (z : ∀ (f c' : Addr) (H1 : Hp) (s' : Shared), Inv X pins σ H1 s' → Keep1 P H H1 → LamX.TabS H1 P (X.env.qual ++ "<lambda>") → H1 f = some (LamO f c' (X.env.qual ++ "<lambda>") params body scope) → H1 c' = some (LamX.CodeO c' (X.env.qual ++ "<lambda>")) → Q (.ref f) s') :
    wpAny (model X.prog X.w) X.A (eval (.Lambda params body scope pos) X.env) Q E s := by
  obtain ⟨tab, tabAt, trip, named⟩ := hT
  have tabObj' : s.heap.get? P = some { cls := .none, data := .fields tab } := I.hok P _ tabAt
  have bmod := TB.bm.keeps I.bk
  apply PySem.W.kla_eval hdef
  rcases hfound : codeAmong pos tab.toList with _ | cv
  · refine PySem.W.kla_makeFunction (mg := X.mg) (c := c) (P := P) (ps := tab) hcl I.ok.glob (I.mod.glob.keeps I.bk) hcode (TB.code.keeps I.bk) tabObj' trip hfound TB.gP bmod fun cn ctv hh tk others fresh inside crec grown => ?_
    obtain ⟨cn', oc, fl, tt, same, atC, dataC, nameC⟩ := crec
    cases same
    have noC : H cn = none := I.hok.fresh fresh
    have up := LamX.inv_table (t' := tk) (more := #[rawInt pos.line, rawInt pos.col, .ref cn]) (h' := hh) I tabAt (fun b o ne e => others b o ne e) grown fresh ⟨oc, fl, tt, atC, dataC, nameC⟩
    have far : Keep1 P H (upd (upd H P (.tbl (tab ++ #[rawInt pos.line, rawInt pos.col, .ref cn]))) cn (LamX.CodeO cn (X.env.qual ++ "<lambda>"))) := fun b u ne e => by
      rw [upd_ne (ne_of_none e noC), upd_ne ne]
      exact e
    have atP : upd (upd H P (.tbl (tab ++ #[rawInt pos.line, rawInt pos.col, .ref cn]))) cn (LamX.CodeO cn (X.env.qual ++ "<lambda>")) P = some (.tbl (tab ++ #[rawInt pos.line, rawInt pos.col, .ref cn])) := by
      rw [upd_ne (ne_of_none tabAt noC), upd_same]
    have all3 : (tab ++ #[rawInt pos.line, rawInt pos.col, .ref cn]).toList = tab.toList ++ [rawInt pos.line, rawInt pos.col, .ref cn] := by simp
    have T1 : LamX.TabS (upd (upd H P (.tbl (tab ++ #[rawInt pos.line, rawInt pos.col, .ref cn]))) cn (LamX.CodeO cn (X.env.qual ++ "<lambda>"))) P (X.env.qual ++ "<lambda>") := by
      refine ⟨_, atP, ?_, fun p' cv' at' => ?_⟩
      · rw [all3]; exact PySem.TriplesOk_snoc _ _ _ _ trip
      · rw [all3] at at'
        rcases LamX.among_app _ trip at' with old | new
        · obtain ⟨c0, rfl, e0⟩ := named p' cv' old
          refine ⟨c0, rfl, far _ _ (fun eq => ?_) e0⟩
          rw [eq, tabAt] at e0
          exact LamX.codeO_ne _ (Option.some.inj e0).symm
        · exact ⟨cn, new, upd_same⟩
    have hC1 : (upd (upd H P (.tbl (tab ++ #[rawInt pos.line, rawInt pos.col, .ref cn]))) cn (LamX.CodeO cn (X.env.qual ++ "<lambda>"))) cn = some (LamX.CodeO cn (X.env.qual ++ "<lambda>")) := upd_same
    generalize upd (upd H P (.tbl (tab ++ #[rawInt pos.line, rawInt pos.col, .ref cn]))) cn (LamX.CodeO cn (X.env.qual ++ "<lambda>")) = H1 at *
    have nf : H1 hh.objs.size = none := up.hok.fresh (Nat.le_refl _)
    have fin := up.laid (a := hh.objs.size) (o := LamO hh.objs.size cn (X.env.qual ++ "<lambda>") params body scope) (t' := tk) (h' := hh.push (PySem.W.kla_obj "<lambda>" (X.env.qual ++ "<lambda>") params body scope [] ((X.mg "__name__").getD .none) cn ctv)) (fun b u e => Heap.get?_push_of_some _ e) (Nat.le_refl _)
      ⟨⟨_, _, Heap.get?_push_size _ rfl⟩, ⟨_, Heap.get?_push_size _ rfl⟩, fun _ _ ⟨pm, ct, e⟩ st => ⟨pm, ct, st _ e⟩⟩
    refine z _ cn _ _ fin (far.trans (Keep1.of (same_upd nf))) (T1.ext (same_upd nf)) upd_same ?_
    exact same_upd nf _ _ hC1
  · obtain ⟨cn, rfl, atC⟩ := named pos cv hfound
    refine PySem.W.kla_makeFunctionHit (mg := X.mg) (c := c) (P := P) (ps := tab) hcl I.ok.glob (I.mod.glob.keeps I.bk) hcode (TB.code.keeps I.bk) tabObj' trip hfound bmod fun ctv hh tk all_ sz => ?_
    have nf : H hh.objs.size = none := I.hok.fresh sz
    have fin := I.laid (a := hh.objs.size) (o := LamO hh.objs.size cn (X.env.qual ++ "<lambda>") params body scope) (t' := tk) (h' := hh.push (PySem.W.kla_obj "<lambda>" (X.env.qual ++ "<lambda>") params body scope [] ((X.mg "__name__").getD .none) cn ctv)) (fun b u e => Heap.get?_push_of_some _ (all_ b u e)) sz
      ⟨⟨_, _, Heap.get?_push_size _ rfl⟩, ⟨_, Heap.get?_push_size _ rfl⟩, fun _ _ ⟨pm, ct, e⟩ st => ⟨pm, ct, st _ e⟩⟩
    exact z _ cn _ _ fin (Keep1.of (same_upd nf)) (LamX.TabS.ext ⟨tab, tabAt, trip, named⟩ (same_upd nf)) upd_same (same_upd nf _ _ atC)
def tLamV (P : Addr) (q : Str) (params : Arguments) (body : Expr) (scope : Scope) : TE := fun _ H Q => LamX.TabS H P q ∧ ∀ (f c' : Addr) (H1 : Hp), Keep1 P H H1 → LamX.TabS H1 P q → H1 f = some (LamO f c' q params body scope) → H1 c' = some (LamX.CodeO c' q) → Q (.ref f) H1
theorem pe_lam {c P : Addr} {params : Arguments} {body : Expr} {scope : Scope} {pos : Pos} (TB : LamX.TabB X.base X.mg c P) (hcode : X.env.code = .ref c) (hdef : defaultsOf params X.env = ([], [])) (hcl : closureFor scope X.env = pure []) :
    PE X (.Lambda params body scope pos) (tLamV P (X.env.qual ++ "<lambda>") params body scope) := by
  constructor
  intro pins s σ H Q I h
  exact lam_new I TB hcode h.1 hdef hcl fun f c' H1 s' I1 k t hf hc => ⟨.ref f, H1, I1, rfl, h.2 f c' H1 k t hf hc⟩
end
section
variable {P : Program} {w : World} {A : Around} {h : Heap} {s : Shared} {tk : Tok}
/-- the lambda x: x[0], called upon a tuple whose first item is a text -/
theorem lam_first {f c' t : Addr} {q x z : Str} {params : Arguments} {scope : Scope} {pm ctv : Value} {p1 p2 p3 : Pos} {j : Nat} {tz : Tok} {its : Array Value}
    (hf : h.get? f = some (PySem.W.kla_obj "<lambda>" q params (.Subscript (.Name x p1) (.Constant (.int 0) j p2) p3) scope [] pm c' ctv)) (hcd : h.CodeRec (.ref c') q) (lim : h.NoLimit) (hdep : A.depth < recursionLimit)
    (hb : ∀ v, bindArgs (PySem.W.kla_fn "<lambda>" q params (.Subscript (.Name x p1) (.Constant (.int 0) j p2) p3) scope [] pm (.ref c') ctv) ⟨[v], []⟩ = pure [(x, v)])
    (hk : scope.kind = .function) (hco : scope.isCoroutine = false) (hgen : scope.isGenerator = false) (hx : scope.names.lookup x = some .local) (hnc : ∀ y ∈ scope.names, y.2 ≠ .cell) (hdb : (x == ("__debug__" : Str)) = false)
    (ht : PyProof.Rows.IsTup h t its) (hsz : its.size ≤ sizeLine) (hz : its[0]? = some (.str z tz)) :
    wpAny (model P w) A (call (.ref f) [.ref t]) (PySem.W.KeyPure (.str z) { s with heap := h, toks := tk }) (fun _ _ => False) { s with heap := h, toks := tk } := by
  refine wpAny_call (PySem.W.kla_callFunE hdep hf rfl hco hgen rfl hcd ?_)
  rw [hb]
  refine wpAny_pure (wpAny_newFunctionEnv hnc (fun y hy => ?_) (fun h1 hns hsb => ⟨lim.fresh _ hsb, ?_⟩) hk)
  · cases List.mem_singleton.mp hy
    exact hx
  have kp : ∀ b o, h.get? b = some o → h1.get? b = some o := fun b o e => hsb.extBut b o (Nat.ne_of_lt (Heap.lt_size e)) (Heap.get?_push_of_some _ e)
  show codeAny _ _ (.expr (.Subscript (.Name x p1) (.Constant (.int 0) j p2) p3) (PySem.W.envX q scope h.objs.size f (.ref c') [])) _ _
  refine PySem.W.kla_codeExpr (PyProof.Rows.Subscript_ (wpAny_Name (wpAny_loadName_local hk hx hns (v := .ref t) (by simp [List.lookup]) (wpAny_Constant_int ?_)) hdb))
  refine subscriptTail_builtinR (x := .str z tz) (ht.keeps kp).typeIs slot_tuple_getitem.lookup (PyProof.Rows.getItem_tuple (j := 0) (ht.keeps kp) (by decide) (by decide) ?_ hz ⟨rfl, ?_⟩)
  · unfold seqIndex?
    have : 0 < its.size := (Array.getElem?_eq_some_iff.mp hz).1
    simp [this]
  · exact ⟨h1, _, rfl, kp, .str z tz⟩
end
/-- what is asked of the lambda -/
structure LamF (params : Arguments) (scope : Scope) (body : Expr) (x : Str) : Prop where
  bind : ∀ (q : Str) (pm cv ctv v : Value), bindArgs (PySem.W.kla_fn "<lambda>" q params body scope [] pm cv ctv) ⟨[v], []⟩ = pure [(x, v)]
  kind : scope.kind = .function
  co : scope.isCoroutine = false
  gen : scope.isGenerator = false
  loc : scope.names.lookup x = some .local
  nc : ∀ y ∈ scope.names, y.2 ≠ .cell
  db : (x == ("__debug__" : Str)) = false
  shape : ∃ (p1 p2 p3 : Pos) (j : Nat), body = .Subscript (.Name x p1) (.Constant (.int 0) j p2) p3
def leTx (x y : V × Str) : Bool := decide (x.2.cps.toList ≤ y.2.cps.toList)
def rSortLam (K : PySem.W.Frag) (q : Str) (params : Arguments) (body : Expr) (scope : Scope) : List V → List V → Hp → VK → Prop := fun vs zs H Q => ∃ (a f c' : Addr) (bs : List (V × Str)), vs = [.ref a] ∧ zs = [.ref f] ∧ H f = some (LamO f c' q params body scope) ∧ H c' = some (LamX.CodeO c' q) ∧
  SqL K H a (bs.map (·.1)) ∧ (∀ b ∈ bs, ∃ t r, b.1 = .ref t ∧ SqT K H t (.str b.2 :: r)) ∧ ∀ p, H p = none → Q (.ref p) (upd H p (.lst ((bs.mergeSort leTx).map (·.1))))
theorem each_vals {R : Value → V × Str → Prop} (hR : ∀ v b, R v b → RelV b.1 v) : ∀ {vs : List Value} {bs : List (V × Str)}, PySem.W.EachIs R vs bs → Vals (bs.map (·.1)) vs
  | _, _, .nil => .nil
  | _, _, .cons h t => .cons (hR _ _ h) (each_vals hR t)
theorem vals_each : ∀ {bs : List (V × Str)} {vs : List Value}, Vals (bs.map (·.1)) vs → PySem.W.EachIs (fun v b => RelV b.1 v) vs bs
  | [], _, h => by cases h; exact .nil
  | b :: bs, _, h => by
    cases h with
    | cons h1 h2 => exact .cons h1 (vals_each h2)
theorem cr_sortLam {X : Cx} {q : Str} {params : Arguments} {scope : Scope} {body : Expr} {x : Str} (hr : Room 1 X.A) (L : LamF params scope body x) : CallRK X (.builtin "sorted") [Str.ofString "key"] (rSortLam X.K q params body scope) := by
  obtain ⟨p1, p2, p3, j, rfl⟩ := L.shape
  intro pins s σ H vs zs us ws Q I r rz h
  obtain ⟨a, f, c', bs, rfl, rfl, hf, hc, hs, hx, k⟩ := h
  obtain rfl := Vals.ref1 r
  obtain ⟨w1, rfl, e1⟩ := vals1 rz
  obtain rfl : w1 = Value.ref f := e1
  obtain ⟨its, rv, hl, hz⟩ := I.list hs
  obtain ⟨⟨pm, ctv, hfo⟩, _, _⟩ := I.hok f _ hf
  obtain ⟨⟨oc, fl, tt, hco, hdc, hnc⟩, _, _⟩ := I.hok c' _ hc
  have lim := I.ok.mod.nolimit.keeps I.bk
  have hu := hr.un
  rw [List.length_map] at hz
  refine PySem.W.sorted_key_data (b := false) (bs := bs) (R := fun v b => RelV b.1 v) (fun b => PyData.str b.2) hl.isList (vals_each rv) ?_ ?_ hz ?_ (PyProof.Rows.ksk_s1 _ _) (fun _ => PyProof.Rows.ksk_l1 _ _) (fun y => PyProof.Rows.ksk_t1 f y) ?_ ?_
  · intro d hd d' hd'
    obtain ⟨b, _, rfl⟩ := List.mem_map.mp hd
    obtain ⟨b', _, rfl⟩ := List.mem_map.mp hd'
    simp [PySem.W.alike]
  · refine .inr fun d hd => ?_
    obtain ⟨b, _, rfl⟩ := List.mem_map.mp hd
    exact ⟨fun e => (by cases e), fun _ e => (by cases e)⟩
  · intro b _
    show X.A.units + 2 + 0 < cLine
    omega
  · intro v b hv hb hp tk kp
    obtain ⟨t, rest, e, ht⟩ := hx b hb
    rw [e] at hv
    obtain rfl : v = Value.ref t := hv
    obtain ⟨items, r2, ip, hsz⟩ := I.tuple ht
    cases r2 with
    | cons r3 r4 =>
      obtain ⟨tz, rfl⟩ := r3
      refine lam_first (its := _) (kp _ _ hfo) ⟨c', oc, fl, tt, rfl, kp _ _ hco, hdc, hnc⟩ (lim.keeps kp) hr.depth (fun v => L.bind _ _ _ _ v) L.kind L.co L.gen L.loc L.nc L.db (ip.keeps kp) ?_ rfl
      rw [List.size_toArray, List.length_cons, ← r4.length]
      exact hsz
  · intro out c h' tk kp fresh at' len eo
    have ho : Vals ((bs.mergeSort leTx).map (·.1)) out := by
      have e2 : PySem.W.dataLe false (fun b : V × Str => PyData.str b.2) = leTx := PySem.W.dataLe_str (β := V × Str) (·.2)
      rw [e2] at eo
      exact each_vals (fun _ _ h => h) eo
    refine ⟨.ref (s.heap.objs.size + 1), upd H (s.heap.objs.size + 1) (.lst ((bs.mergeSort leTx).map (·.1))), I.laid kp (Nat.le_succ _) ⟨?_, out, c, ho, at'⟩, rfl, k _ (I.hok.fresh (Nat.le_succ _))⟩
    rw [List.length_map, List.length_mergeSort]
    exact hz
/-- a def whose code object is known -/
theorem fun_okC {P : Program} {w : World} {K : PySem.W.Frag} {mg : Str → Option Value} {base : Heap} {x qual : Str} {st : Stmt} {f c : Addr} {fd : FuncData} {N ps : List Str} {k : Nat} {sp : Sp} (F : Fun K x qual st f fd) (hc : fd.code = .ref c) (S : FnScope N ps (defScope st)) (len : ∀ vs H Q E, sp vs H Q E → vs.length = ps.length)
    (hbody : ∀ (A : Around) (outer : List Env) (s : Shared) (H : Hp) (vs : List V) (Q : VK) (E : XK), Room k (A.deeper (envOfC qual (defScope st) s.heap.objs.size f (.ref c))) → sp vs H Q E →
      ∃ t, PSs (cxOf CX0 P w K mg base N qual (defScope st) f (.ref c) A outer s H E).nox (defBody st) t ∧ t { nx := fun _ H' => Q .non H', rt := Q } (start N vs) H) : FnOk P w K mg base CX0 (k + 1) f fd ps sp := by
  obtain ⟨oc, od, kV, doc, pm, an, cdv, ct, osl, rfl, lk, hcd⟩ := F.ex
  obtain rfl : cdv = .ref c := hc
  refine fn_of lk hcd S len fun A outer s H vs Q E hr hsp => ?_
  obtain ⟨t, h, q⟩ := hbody A outer s H vs Q E hr hsp
  exact ⟨t, h.nox, q⟩
theorem s_CK {σ : L2.St} {H : Hp} {Q : VK} {r : List V → List V → Hp → VK → Prop} {t tk : TA} (z : t σ H fun vs H1 => tk σ H1 fun zs H2 => r vs zs H2 Q) : tCKw r t tk σ H Q := z
theorem Keep1.get {P b : Addr} {q : Str} {H H' : Hp} {u : HO} (k : Keep1 P H H') (hT : LamX.TabS H P q) (h : H b = some u) (n : ∀ ps, u ≠ .tbl ps) : H' b = some u := k b u (fun e => by
  obtain ⟨ps, h1, -⟩ := hT
  rw [e, h1] at h
  exact n ps (Option.some.inj h).symm) h
theorem Keep1.seq {K : PySem.W.Frag} {P a : Addr} {q : Str} {H H' : Hp} {xs : List V} (k : Keep1 P H H') (hT : LamX.TabS H P q) (h : SqL K H a xs) : SqL K H' a xs := by
  rcases h with (h | ⟨o, h⟩) | h
  · exact .inl (.inl (k.get hT h fun _ e => by cases e))
  · exact .inl (.inr ⟨o, k.get hT h fun _ e => by cases e⟩)
  · exact .inr h
theorem Keep1.tup {K : PySem.W.Frag} {P a : Addr} {q : Str} {H H' : Hp} {xs : List V} (k : Keep1 P H H') (hT : LamX.TabS H P q) (h : SqT K H a xs) : SqT K H' a xs := by
  rcases h with (h | ⟨o, h⟩) | h
  · exact .inl (.inl (k.get hT h fun _ e => by cases e))
  · exact .inl (.inr ⟨o, k.get hT h fun _ e => by cases e⟩)
  · exact .inr h
def lamE (st : Stmt) : Expr := match defBody st with
  | [.Return (some (.Call _ _ [⟨_, e, _⟩] _)) _] => e
  | _ => .Name "" ⟨0, 0, 0, 0⟩
def lamP (e : Expr) : Arguments := match e with
  | .Lambda p _ _ _ => p
  | _ => { posonlyargs := [], args := [], vararg := none, kwonlyargs := [], kw_defaults := [], kwarg := none, defaults := [] }
def lamB (e : Expr) : Expr := match e with
  | .Lambda _ b _ _ => b
  | e => e
def lamS (e : Expr) : Scope := match e with
  | .Lambda _ _ s _ => s
  | _ => { kind := .function, names := [], isGenerator := false, isCoroutine := false }
abbrev lamQ : Str := (Str.ofString "by_title" ++ Str.ofString ".<locals>.") ++ Str.ofString "<lambda>"
end Jl

/-! list(reversed(xs)). -/
namespace Jl
open PySem L2 PySem.Spec PyProof.Rows
theorem rev_nolen : typeLookup (.type "list_reverseiterator") "__len__" = pure none := by
  rw [typeLookup_type, builtinLookup_eq_fast]
  kernel_rfl
theorem rev_hint : typeLookup (.type "list_reverseiterator") "__length_hint__" = pure (some (.builtin "list_reverseiterator.__length_hint__")) := by
  rw [typeLookup_type, builtinLookup_eq_fast]
  kernel_rfl
section
variable {prog : Program} {w : World} {A : Around} {E : Value → Shared → Prop} {s : Shared}
theorem hint_rev {I l : Addr} {i : Int} {Q : Bool → Shared → Prop} (it : s.heap.IsRevIter I l i) (q : Q false s) : wpAny (model prog w) A (Builtin.List.listLengthHint (.ref I)) Q E s := by
  unfold Builtin.List.listLengthHint
  refine wpAny_bind (wpAny_specialOf it.typeIs rev_nolen ?_)
  show wpAny _ A (specialOf (Value.ref I) (Str.ofString "__length_hint__") >>= _) _ _ _
  refine wpAny_bind (wpAny_specialOf it.typeIs rev_hint ?_)
  generalize hname : ("list_reverseiterator.__length_hint__" : String) = nm
  wp_delta
  rw [show splitId nm = some ("list_reverseiterator", "__length_hint__") from by subst hname; decide +kernel]
  subst hname
  refine wpAny_bind (wpAny_isInstance (b := true) it.typeIs (by rw [isSubtype_type]; kernel_rfl) ?_)
  exact wpAny_pure q
/-- the walk of list(an iterator that walks a list backwards) -/
theorem list_rev {I l : Addr} {items : Array Value} {Q : Value → Shared → Prop} (hh : A.handled = none) (hne : l ≠ I) (it : s.heap.IsRevIter I l ((items.size : Int) - 1)) (hl : s.heap.IsList l items) (hn : items.size ≤ sizeLine)
    (q : ∀ h' tk acc c, (∀ b o, b ≠ I → s.heap.get? b = some o → h'.get? b = some o) → h'.get? s.heap.objs.size = some { cls := .type "list", dict := none, data := .seq acc c, slots := #[] } → ItemsOf (fun i v => items[items.size - 1 - i]? = some v) acc items.size → Q (.ref s.heap.objs.size) { s with heap := h', toks := tk }) :
    wpAny (model prog w) A (call (.type "list") [.ref I]) Q E s := by
  obtain ⟨oi, atI_, -⟩ := id it
  obtain ⟨ol, atL, -⟩ := id hl
  have ltI := Heap.lt_size atI_
  have ltL := Heap.lt_size atL
  have W := fun (B : Around) (hB : B.handled = none) => Walks.listRev (prog := prog) (w := w) (A := B) hB I l hne items
  refine callType_codes (Q₁ := fun obj s1 => obj = .ref s.heap.objs.size ∧ s1 = { s with heap := s.heap.push { cls := .type "list", data := .seq #[] } }) F.called_list (F.typeCall_list_1 _) F.entry_list_init (code_list_new _ ⟨rfl, rfl⟩) fun obj s1 made => ?_
  obtain ⟨rfl, rfl⟩ := made
  have new0 : (s.heap.push { cls := .type "list", data := .seq #[] }).get? s.heap.objs.size = some { cls := .type "list", data := .seq #[] } := Heap.get?_push_size _ rfl
  refine ⟨⟨_, new0, rfl⟩, F.args_list_init_2 _ _, ?_⟩
  show wpAny _ _ (do let old ← Builtin.List.listItems (.ref s.heap.objs.size); Builtin.List.listUpdate (.ref s.heap.objs.size) (fun _ => #[]); letGo old.toList.reverse; Builtin.List.listExtendWith (.ref s.heap.objs.size) (.ref I) .none) _ _ _
  refine wpAny_bind ?_
  unfold Builtin.List.listItems
  refine wpAny_bind (wpAny_seqItems new0 rfl (wpAny_pure ?_))
  show wpAny _ _ (updateSeq s.heap.objs.size (fun _ => #[]) >>= fun _ => letGo (#[] : Array Value).toList.reverse >>= fun _ => Builtin.List.listExtendWith (.ref s.heap.objs.size) (.ref I) .none) _ _ _
  refine wpAny_bind (wpAny_updateSeq new0 rfl ?_)
  have new1 := Heap.get?_update_self (Obj.mapSeq (fun _ => (#[] : Array Value))) new0 rfl
  refine wpAny_bind (wpAny_letGo ?_)
  have far : ∀ b o, s.heap.get? b = some o → ((s.heap.push { cls := .type "list", data := .seq #[] }).update s.heap.objs.size (Obj.mapSeq (fun _ => (#[] : Array Value)))).get? b = some o := fun b o e =>
    (Heap.get?_update_other _ _ (Nat.ne_of_gt (Heap.lt_size e))).trans (Heap.get?_push_of_some _ e)
  have nS : s.heap.objs.size ∉ [I, l] := fun m => by
    rcases List.mem_cons.mp m with e | e
    · exact Nat.ne_of_gt ltI e
    · exact Nat.ne_of_gt ltL (List.mem_singleton.mp e)
  have d1 : Builtin.List.listSameRef (.ref s.heap.objs.size) (.ref I) = false := by
    have : s.heap.objs.size ≠ I := Nat.ne_of_gt ltI
    simp [Builtin.List.listSameRef, this]
  generalize (s.heap.push { cls := .type "list", data := .seq #[] }).update s.heap.objs.size (Obj.mapSeq (fun _ => (#[] : Array Value))) = h1 at *
  have it1 : h1.IsRevIter I l ((items.size : Int) - 1) := it.at fun o e => far _ _ e
  have hl1 : h1.IsList l items := hl.at fun o e => far _ _ e
  unfold Builtin.List.listExtendWith
  refine wpAny_bind (wpAny_typeOf (s := { s with heap := h1 }) it1.typeIs ?_)
  rw [if_neg (by rw [d1]; decide)]
  refine wpAny_bind (wpAny_pyIter_revIter (s := { s with heap := h1 }) it1 ?_)
  refine wpAny_bind (wpAny_holding (hint_rev (s := { s with heap := h1 }) it1 ?_))
  rw [if_neg (by decide)]
  refine wpAny_pure ⟨plainId_quiet F.plain_extend_loop _, codeAny_extend_loopS (W A.in1.in1 hh).toS hn _ nS _ items.size 0 _ _ _ rfl (Nat.zero_le _) ⟨Nat.zero_le _, ?_, hl1⟩ new1 (ItemsOf.nil _) fun s' acc c hm at' hacc => ?_⟩
  · have e : (items.size : Int) - 1 - ((0 : Nat) : Int) = (items.size : Int) - 1 := by omega
    rw [e]
    exact it1
  · rw [Moved.eq_with hm] at at' ⊢
    refine ⟨rfl, q s'.heap s'.toks acc c (fun b o hb e => hm.heap b o (fun mem => ?_) (far b o e)) at' hacc⟩
    rcases List.mem_cons.mp mem with e' | mem
    · rw [e'] at e; exact Nat.lt_irrefl _ (Heap.lt_size e)
    · exact hb (List.mem_singleton.mp mem)
end
/-- list(reversed(x)), x a list: a new list -/
def tLstRev (K : PySem.W.Frag) (te : TE) : TE := fun σ H Q => te σ H fun v H1 => ∃ (a : Addr) (xs : List V), v = .ref a ∧ SqL K H1 a xs ∧ ∀ p, H1 p = none → Q (.ref p) (upd H1 p (.lst xs.reverse))
section
variable {X : Cx}
theorem pe_lstRev {e : Expr} {te : TE} {p p2 pos pos2 : Pos} (hc : X.calm = true) (hg : Gl X "list") (hm : X.mg "list" = none) (hg2 : Gl X "reversed") (hm2 : X.mg "reversed" = none) (he : PE X e te)
    (hs : starEach [e] X.env = (false, eval e X.env) :: starEach [] X.env := by rfl)
    (hs2 : starEach [.Call (.Name "reversed" p2) [e] [] pos2] X.env = (false, eval (.Call (.Name "reversed" p2) [e] [] pos2) X.env) :: starEach [] X.env := by rfl) :
    PE X (.Call (.Name "list" p) [.Call (.Name "reversed" p2) [e] [] pos2] [] pos) (tLstRev X.K te) := by
  constructor
  intro pins s σ H Q I h
  refine Call_ (ld_blt (u := .type "list") I hg hm (by decide +kernel) (PyProof.Rows.callWith_type1 (args_cons (Call_ (ld_blt I hg2 hm2 PyProof.Rows.boot_reversed (PyProof.Rows.callWith_type1 (args_cons (thn (he.run pins s σ H _ I h) fun u t1 ⟨v, H1, J, rv0, z⟩ => args_nil ?_) hs) hs rfl))) hs2) hs2 rfl))
  obtain ⟨a, xs, rfl, hq, q⟩ := z
  obtain rfl : u = Value.ref a := rv0
  obtain ⟨its, rv, pl, hz⟩ := J.list hq
  have hl := pl.isList
  refine call_reversed_list hl (args_nil ?_)
  obtain ⟨f0, f1, f2, f3, f4, f5⟩ := J.fpOk (H' := H1) (b := t1.heap.objs.size) (Nat.le_refl _) (J.hok.fresh (Nat.le_refl _))
  have J2 : Inv X pins σ H1 { t1 with heap := t1.heap.push (revObj a ((its.toArray.size : Int) - 1)) } := J.kept (t' := t1.toks) fun b o e => Heap.get?_push_of_some _ e
  obtain ⟨ol, atL, _⟩ := id hl
  have hsz : its.toArray.size ≤ sizeLine := by rw [List.size_toArray, ← rv.length]; exact hz
  refine list_rev (s := { t1 with heap := t1.heap.push (revObj a ((its.toArray.size : Int) - 1)) }) (J.ok.hd hc) (Nat.ne_of_lt (Heap.lt_size atL)) ⟨_, Heap.get?_push_size _ rfl, rfl, rfl⟩ (hl.push _) hsz fun h' tk acc c far at' hacc => ?_
  have J3 : Inv X pins σ H1 { t1 with heap := h', toks := tk } := J2.turned (t' := tk) (fun b o hb e => far b o hb e) f0 f1 f3 f4 f5
  have n0 := J2.hok.fresh (Nat.le_refl _)
  obtain ⟨g0, g1, g2, g3, g4, g5⟩ := J2.fpOk (H' := H1) (Nat.le_refl _) n0
  have z0 := Heap.get?_none_of_le (h := X.s_0.heap) (J2.sz)
  generalize ({ t1 with heap := t1.heap.push (revObj a ((its.toArray.size : Int) - 1)) } : Shared).heap.objs.size = n at *
  refine ⟨.ref n, upd H1 n (.lst xs.reverse), track J3 z0 n0 g1 g4 g5 ⟨by rw [List.length_reverse]; exact hz, acc.toList, c, RT.vals_rev rv hacc, ?_⟩, rfl, q _ n0⟩
  rw [Array.toArray_toList]
  exact at'
end
/-- step -/
theorem s_lstRev {K : PySem.W.Frag} {σ : L2.St} {H : Hp} {Q : VK} {te : TE} (z : te σ H fun v H1 => ∃ (a : Addr) (xs : List V), v = .ref a ∧ SqL K H1 a xs ∧ ∀ p, H1 p = none → Q (.ref p) (upd H1 p (.lst xs.reverse))) : tLstRev K te σ H Q := z
end Jl

/-! What names stand for: the plain law. -/
namespace Jl
open PySem L2 PySem.Spec PyProof.Rows
def leP (p q : Piece) : Bool := decide (p.name.cps.toList ≤ q.name.cps.toList)
theorem leP_iff {p q : Piece} : leP p q = true ↔ p.name.cps.toList ≤ q.name.cps.toList := decide_eq_true_iff
theorem leP_refl (p : Piece) : leP p p = true := leP_iff.mpr (List.le_refl _)
theorem leP_trans (a b c : Piece) (h1 : leP a b = true) (h2 : leP b c = true) : leP a c = true := leP_iff.mpr (List.le_trans (leP_iff.mp h1) (leP_iff.mp h2))
theorem leP_total (a b : Piece) : (leP a b || leP b a) = true := by
  rw [Bool.or_eq_true, leP_iff, leP_iff]
  exact List.le_total _ _
theorem leP_anti {p q : Piece} (h1 : leP p q = true) (h2 : leP q p = true) : p.name = q.name := str_ext (List.le_antisymm (leP_iff.mp h1) (leP_iff.mp h2))
def sortP (ps : List Piece) : List Piece := ps.mergeSort leP
theorem sortP_perm (ps : List Piece) : (sortP ps).Perm ps := List.mergeSort_perm ps leP
theorem sortP_pw (ps : List Piece) : (sortP ps).Pairwise (fun a b => leP a b = true) := List.pairwise_mergeSort leP_trans leP_total ps
theorem da_of_all {α : Type} {K : PySem.W.Frag} {H : Hp} {f : α → PyData} : ∀ {l : List (V × α)}, (∀ x ∈ l, Dp K H x.1 (f x.2)) → DpAll K H (l.map (·.1)) ((l.map (·.2)).map f)
  | [], _ => .nil
  | x :: l, h => .cons (h x List.mem_cons_self) (da_of_all fun y hy => h y (List.mem_cons_of_mem _ hy))
theorem all_of_da {α : Type} {K : PySem.W.Frag} {H : Hp} {f : α → PyData} : ∀ {l : List (V × α)}, DpAll K H (l.map (·.1)) ((l.map (·.2)).map f) → ∀ x ∈ l, Dp K H x.1 (f x.2)
  | [], _ => fun _ h => nomatch h
  | x :: l, h => fun y hy => by
    obtain ⟨v, vs, e, h1, h2⟩ := da_cons h
    obtain ⟨e1, e2⟩ := List.cons.inj e
    rcases List.mem_cons.mp hy with rfl | hy
    · have e1 : y.1 = v := e1
      rw [e1]; exact h1
    · rw [← e2] at h2; exact all_of_da h2 y hy
theorem by_title_vals {K : PySem.W.Frag} {H : Hp} {xs : List V} {ps : List Piece} (hda : DpAll K H xs (ps.map pieceD)) : ∃ bs : List (V × Str), bs.map (·.1) = xs ∧ (∀ b ∈ bs, ∃ t r, b.1 = .ref t ∧ SqT K H t (.str b.2 :: r)) ∧
    DpAll K H ((bs.mergeSort leTx).map (·.1)) ((sortP ps).map pieceD) := by
  have hl : xs.length = ps.length := by have := da_len hda; rw [List.length_map] at this; exact this
  have e1 : (xs.zip ps).map (·.1) = xs := List.map_fst_zip (by omega)
  have e2 : (xs.zip ps).map (·.2) = ps := List.map_snd_zip (by omega)
  have hz : ∀ x ∈ xs.zip ps, Dp K H x.1 (pieceD x.2) := all_of_da (by rw [e1, e2]; exact hda)
  generalize xs.zip ps = l at *
  refine ⟨l.map fun x => (x.1, x.2.name), by rw [List.map_map]; exact e1, fun b hb => ?_, ?_⟩
  · obtain ⟨x, hx, rfl⟩ := List.mem_map.mp hb
    obtain ⟨t, S, N, ss, nv, e, ht, -⟩ := dp_piece (hz x hx)
    exact ⟨t, _, e, ht⟩
  · have e3 : (l.map fun x => (x.1, x.2.name)).mergeSort leTx = (l.mergeSort fun a b => leP a.2 b.2).map fun x => (x.1, x.2.name) := (List.map_mergeSort (f := fun x : V × Piece => (x.1, x.2.name)) (r := fun a b => leP a.2 b.2) (s := leTx) (l := l) (fun a _ b _ => rfl)).symm
    have e4 : (l.mergeSort fun a b => leP a.2 b.2).map (·.2) = sortP ps := by
      rw [← e2]
      exact List.map_mergeSort (fun a _ b _ => rfl)
    rw [e3, List.map_map, ← e4]
    exact da_of_all fun x hx => hz x ((List.mergeSort_perm l _).mem_iff.mp hx)
/-! put where there is none -/
def setL (L : List (Str × PyData)) (z : Str) (d : PyData) : List (Str × PyData) := if z ∈ L.map (·.1) then L else L ++ [(z, d)]
def setAll (L xs : List (Str × PyData)) : List (Str × PyData) := xs.foldl (fun L x => setL L x.1 x.2) L
theorem setAll_app (L xs ys : List (Str × PyData)) : setAll L (xs ++ ys) = setAll (setAll L xs) ys := List.foldl_append
theorem setL_len {L : List (Str × PyData)} {z : Str} {d : PyData} : (setL L z d).length ≤ L.length + 1 := by
  unfold setL
  split
  · omega
  · rw [List.length_append]; exact Nat.le_refl _
theorem setAll_len : ∀ (xs L : List (Str × PyData)), (setAll L xs).length ≤ L.length + xs.length
  | [], L => Nat.le_refl _
  | x :: xs, L => by
    have h1 := setAll_len xs (setL L x.1 x.2)
    have h2 := setL_len (L := L) (z := x.1) (d := x.2)
    show (setAll (setL L x.1 x.2) xs).length ≤ _
    rw [List.length_cons]
    omega
theorem setL_nodup {L : List (Str × PyData)} {z : Str} {d : PyData} (h : (L.map (·.1)).Nodup) : ((setL L z d).map (·.1)).Nodup := by
  unfold setL
  split
  · exact h
  · rename_i g
    rw [List.map_append]
    exact List.nodup_append.mpr ⟨h, List.pairwise_singleton _ _, fun a ha b hb e => by have e2 := List.mem_singleton.mp hb; subst e2; subst e; exact g ha⟩
theorem setAll_nodup : ∀ (xs L : List (Str × PyData)), (L.map (·.1)).Nodup → ((setAll L xs).map (·.1)).Nodup
  | [], L, h => h
  | x :: xs, L, h => setAll_nodup xs _ (setL_nodup h)
theorem lookL_set {L : List (Str × PyData)} {z y : Str} {d : PyData} : lookL (setL L z d) y = (lookL L y).or (if z = y then some d else none) := by
  unfold setL
  by_cases g : z ∈ L.map (·.1)
  · rw [if_pos g]
    by_cases e : z = y
    · subst e
      cases h : lookL L z with
      | none => exact absurd g (lookL_none.mp h)
      | some d => rfl
    · rw [if_neg e]; cases lookL L y <;> rfl
  · rw [if_neg g, lookL_app, lookL_cons]; rfl
theorem lookL_setAll : ∀ (xs L : List (Str × PyData)) (z : Str), lookL (setAll L xs) z = (lookL L z).or (lookL xs z)
  | [], L, z => by
    show lookL L z = (lookL L z).or none
    cases lookL L z <;> rfl
  | x :: xs, L, z => by
    show lookL (setAll (setL L x.1 x.2) xs) z = _
    rw [lookL_setAll xs _ z, lookL_set, lookL_cons]
    cases lookL L z with
    | some d => rfl
    | none =>
      by_cases e : x.1 = z
      · rw [if_pos e, if_pos e]; rfl
      · rw [if_neg e, if_neg e]; rfl
theorem setL_spot {L : List (Str × PyData)} {z t : Str} {i j : Int} (h : AllSpot L) (ht : okS t) : AllSpot (setL L z (spotD t i j)) := by
  intro x hx
  unfold setL at hx
  split at hx
  · exact h x hx
  · rcases List.mem_append.mp hx with hx | hx
    · exact h x hx
    · cases List.mem_singleton.mp hx
      exact ⟨t, i, j, ht, rfl⟩
theorem setAll_spot : ∀ (xs L : List (Str × PyData)), AllSpot L → AllSpot xs → AllSpot (setAll L xs)
  | [], L, h, _ => h
  | x :: xs, L, h, hx => by
    obtain ⟨t, i, j, ok, e⟩ := hx x List.mem_cons_self
    refine setAll_spot xs _ ?_ fun y hy => hx y (List.mem_cons_of_mem _ hy)
    show AllSpot (setL L x.1 x.2)
    rw [e]
    exact setL_spot h ok
theorem lookL_putAll : ∀ (xs L : List (Str × PyData)) (z : Str), (xs.map (·.1)).Nodup → lookL (putAll L xs) z = (lookL xs z).or (lookL L z)
  | [], L, z, _ => rfl
  | x :: xs, L, z, h => by
    have hn := List.nodup_cons.mp h
    show lookL (putAll (putL L x.1 x.2) xs) z = _
    rw [lookL_putAll xs _ z hn.2, lookL_put, lookL_cons]
    by_cases e : x.1 = z
    · rw [if_pos e, if_pos e.symm, lookL_none.mpr (by rw [← e]; exact hn.1)]; rfl
    · rw [if_neg e, if_neg (fun q => e q.symm)]
theorem lookL_perm {xs ys : List (Str × PyData)} (p : xs.Perm ys) (h : (xs.map (·.1)).Nodup) (z : Str) : lookL xs z = lookL ys z := by
  induction p with
  | nil => rfl
  | cons x _ ih => rw [lookL_cons, lookL_cons, ih (List.nodup_cons.mp h).2]
  | swap x y l =>
    rw [lookL_cons, lookL_cons, lookL_cons, lookL_cons]
    have hn := List.nodup_cons.mp h
    by_cases e1 : x.1 = z
    · by_cases e2 : y.1 = z
      · exact absurd (List.mem_cons.mpr (.inl (e2.trans e1.symm))) hn.1
      · rw [if_neg e2, if_pos e1, if_pos e1]
    · rw [if_neg e1, if_neg e1]
  | trans p1 p2 ih1 ih2 => rw [ih1 h, ih2 ((p1.map _).nodup_iff.mp h)]
theorem nodup_le {α : Type} [DecidableEq α] : ∀ (l m : List α), l.Nodup → (∀ x ∈ l, x ∈ m) → l.length ≤ m.length
  | [], m, _, _ => Nat.zero_le _
  | x :: l, m, h, hs => by
    have hn := List.nodup_cons.mp h
    have h1 := nodup_le l (m.erase x) hn.2 fun y hy => (List.mem_erase_of_ne (fun e => hn.1 (by rw [← e]; exact hy))).mpr (hs y (List.mem_cons_of_mem _ hy))
    have h2 := List.length_erase_of_mem (hs x List.mem_cons_self)
    have h3 := List.length_pos_of_mem (hs x List.mem_cons_self)
    rw [List.length_cons]
    omega
theorem same_len {L M : List (Str × PyData)} (h1 : (L.map (·.1)).Nodup) (h2 : (M.map (·.1)).Nodup) (h : ∀ z, lookL L z = lookL M z) : L.length = M.length := by
  have key : ∀ {A B : List (Str × PyData)}, (∀ z, lookL A z = lookL B z) → ∀ z ∈ A.map (·.1), z ∈ B.map (·.1) := fun {A B} h z hz => by
    cases e : lookL B z with
    | none => rw [← h z] at e; exact absurd hz (lookL_none.mp e)
    | some d =>
      by_cases g : z ∈ B.map (·.1)
      · exact g
      · rw [lookL_none.mpr g] at e; cases e
  have a := nodup_le _ _ h1 (key h)
  have b := nodup_le _ _ h2 (key fun z => (h z).symm)
  rw [List.length_map, List.length_map] at a b
  omega
/-! the names among pieces -/
def spN (p : Piece) (n : Nam) : PyData := spotD p.name n.stre n.off
structure NS where
  w : List (Str × PyData)
  s : List (Str × PyData)
  m : List (Str × PyData)
def stepN (p : Piece) (st : NS) (n : Nam) : NS :=
  ⟨if n.sort = ("weak" : Str) then setL st.w n.name (spN p n) else st.w, if n.sort = ("tell" : Str) then setL st.s n.name (spN p n) else st.s, if n.sort = ("tell" : Str) ∧ n.name ∈ st.s.map (·.1) then setL st.m n.name (.str p.name) else st.m⟩
def foldP (st : NS) (p : Piece) : NS := p.names.foldl (stepN p) st
def foldS (ps : List Piece) : NS := ps.foldl foldP ⟨[], [], []⟩
def selN (srt : Str) (p : Piece) (ns : List Nam) : List (Str × PyData) := (ns.filter fun n => decide (n.sort = srt)).map fun n => (n.name, spN p n)
theorem selN_cons (srt : Str) (p : Piece) (n : Nam) (ns : List Nam) : selN srt p (n :: ns) = if n.sort = srt then (n.name, spN p n) :: selN srt p ns else selN srt p ns := by
  unfold selN
  rw [List.filter_cons]
  by_cases g : n.sort = srt
  · rw [decide_eq_true g, if_pos g]; rfl
  · rw [decide_eq_false g, if_neg g]; rfl
theorem fold_w (p : Piece) : ∀ (ns : List Nam) (st : NS), (ns.foldl (stepN p) st).w = setAll st.w (selN "weak" p ns)
  | [], st => rfl
  | n :: ns, st => by
    rw [List.foldl_cons, fold_w p ns, selN_cons]
    show setAll (if n.sort = ("weak" : Str) then setL st.w n.name (spN p n) else st.w) _ = _
    by_cases g : n.sort = ("weak" : Str)
    · rw [if_pos g, if_pos g]; rfl
    · rw [if_neg g, if_neg g]
theorem fold_s (p : Piece) : ∀ (ns : List Nam) (st : NS), (ns.foldl (stepN p) st).s = setAll st.s (selN "tell" p ns)
  | [], st => rfl
  | n :: ns, st => by
    rw [List.foldl_cons, fold_s p ns, selN_cons]
    show setAll (if n.sort = ("tell" : Str) then setL st.s n.name (spN p n) else st.s) _ = _
    by_cases g : n.sort = ("tell" : Str)
    · rw [if_pos g, if_pos g]; rfl
    · rw [if_neg g, if_neg g]
def allN (srt : Str) (ps : List Piece) : List (Str × PyData) := ps.flatMap fun p => selN srt p p.names
theorem folds_w : ∀ (ps : List Piece) (st : NS), (ps.foldl foldP st).w = setAll st.w (allN "weak" ps)
  | [], st => rfl
  | p :: ps, st => by
    rw [List.foldl_cons, folds_w ps, show (foldP st p).w = _ from fold_w p p.names st, ← setAll_app]
    unfold allN
    rw [List.flatMap_cons]
theorem folds_s : ∀ (ps : List Piece) (st : NS), (ps.foldl foldP st).s = setAll st.s (allN "tell" ps)
  | [], st => rfl
  | p :: ps, st => by
    rw [List.foldl_cons, folds_s ps, show (foldP st p).s = _ from fold_s p p.names st, ← setAll_app]
    unfold allN
    rw [List.flatMap_cons]
theorem setL_new {L : List (Str × PyData)} {z : Str} {d : PyData} (h : z ∉ L.map (·.1)) : setL L z d = L ++ [(z, d)] := if_neg h
theorem setAll_new : ∀ (xs L : List (Str × PyData)), (L.map (·.1) ++ xs.map (·.1)).Nodup → setAll L xs = L ++ xs
  | [], L, _ => (List.append_nil L).symm
  | x :: xs, L, h => by
    have h1 : x.1 ∉ L.map (·.1) := fun g => (List.nodup_append.mp h).2.2 _ g _ (List.mem_map.mpr ⟨x, List.mem_cons_self, rfl⟩) rfl
    show setAll (setL L x.1 x.2) xs = _
    rw [setL_new h1, setAll_new xs _ (by rw [List.map_append, List.append_assoc]; exact h), List.append_assoc]; rfl
theorem fold_m (p : Piece) : ∀ (ns : List Nam) (st : NS), st.m = [] → (st.s.map (·.1) ++ (selN "tell" p ns).map (·.1)).Nodup → (ns.foldl (stepN p) st).m = []
  | [], st, h, _ => h
  | n :: ns, st, h, hn => by
    rw [List.foldl_cons]
    rw [selN_cons] at hn
    by_cases g : n.sort = ("tell" : Str)
    · rw [if_pos g] at hn
      have h1 : n.name ∉ st.s.map (·.1) := fun q => (List.nodup_append.mp hn).2.2 _ q _ (List.mem_map.mpr ⟨_, List.mem_cons_self, rfl⟩) rfl
      refine fold_m p ns _ ?_ ?_
      · show (if n.sort = ("tell" : Str) ∧ n.name ∈ st.s.map (·.1) then _ else st.m) = []
        rw [if_neg fun q => h1 q.2]; exact h
      · show ((if n.sort = ("tell" : Str) then setL st.s n.name (spN p n) else st.s).map (·.1) ++ _).Nodup
        rw [if_pos g, setL_new h1, List.map_append, List.append_assoc]
        exact hn
    · rw [if_neg g] at hn
      refine fold_m p ns _ ?_ ?_
      · show (if n.sort = ("tell" : Str) ∧ n.name ∈ st.s.map (·.1) then _ else st.m) = []
        rw [if_neg fun q => g q.1]; exact h
      · show ((if n.sort = ("tell" : Str) then setL st.s n.name (spN p n) else st.s).map (·.1) ++ _).Nodup
        rw [if_neg g]; exact hn
theorem folds_m : ∀ (ps : List Piece) (st : NS), st.m = [] → (st.s.map (·.1) ++ (allN "tell" ps).map (·.1)).Nodup → (ps.foldl foldP st).m = []
  | [], st, h, _ => h
  | p :: ps, st, h, hn => by
    unfold allN at hn
    rw [List.flatMap_cons, List.map_append, ← List.append_assoc] at hn
    have h1 := (List.nodup_append.mp hn).1
    rw [List.foldl_cons]
    refine folds_m ps _ (fold_m p p.names st h h1) ?_
    rw [show (foldP st p).s = _ from fold_s p p.names st, setAll_new _ _ h1, List.map_append]
    exact hn
/-- what names stand for among pieces -/
def namesL (ps : List Piece) : List (Str × PyData) := putAll (foldS (sortP ps)).w (foldS (sortP ps)).s
theorem allN_perm {srt : Str} {ps qs : List Piece} (h : ps.Perm qs) : (allN srt ps).Perm (allN srt qs) := h.flatMap_right _
theorem namesL_look {ps : List Piece} (hn : ((allN "tell" ps).map (·.1)).Nodup) (z : Str) : lookL (namesL ps) z = (lookL (allN "tell" ps) z).or (lookL (allN "weak" (sortP ps)) z) := by
  have hp := allN_perm (srt := "tell") (sortP_perm ps)
  have hn2 : ((allN "tell" (sortP ps)).map (·.1)).Nodup := (hp.map _).nodup_iff.mpr hn
  have e1 : (foldS (sortP ps)).s = allN "tell" (sortP ps) := by
    unfold foldS
    rw [folds_s, setAll_new _ _ (by simpa using hn2)]; rfl
  have e2 : (foldS (sortP ps)).w = setAll [] (allN "weak" (sortP ps)) := folds_w _ _
  unfold namesL
  rw [e1, e2, lookL_putAll _ _ _ hn2, lookL_setAll, lookL_perm hp hn2]
  congr 1
theorem namesL_nodup (ps : List Piece) : ((namesL ps).map (·.1)).Nodup := by
  unfold namesL foldS
  rw [folds_w]
  exact putAll_nodup _ _ (setAll_nodup _ _ List.nodup_nil)
theorem selN_spot {p : Piece} (h : okS p.name) (srt : Str) (ns : List Nam) : AllSpot (selN srt p ns) := fun x hx => by
  obtain ⟨n, _, rfl⟩ := List.mem_map.mp hx
  exact ⟨_, _, _, h, rfl⟩
theorem allN_spot {ps : List Piece} (h : ∀ p ∈ ps, okS p.name) (srt : Str) : AllSpot (allN srt ps) := fun x hx => by
  obtain ⟨p, hp, hx⟩ := List.mem_flatMap.mp hx
  exact selN_spot (h p hp) srt _ x hx
/-! what the law finds -/
def titD (d : PyData) : Str := match d with
  | .tuple (.str t :: _) => t
  | _ => ""
def ltS (a b : Str) : Prop := a.cps.toList < b.cps.toList
instance (a b : Str) : Decidable (ltS a b) := inferInstanceAs (Decidable (a.cps.toList < b.cps.toList))
def minL (L : List (Str × PyData)) (z : Str) (t : Str) (d : PyData) : List (Str × PyData) := match lookL L z with
  | none => putL L z d
  | some e => if ltS t (titD e) then putL L z d else L
def stepD (p : Piece) (st : List (Str × PyData) × List (Str × PyData)) (n : Nam) : List (Str × PyData) × List (Str × PyData) :=
  (if n.sort = ("tell" : Str) then putL st.1 n.name (spN p n) else st.1, if n.sort = ("weak" : Str) then minL st.2 n.name p.name (spN p n) else st.2)
def foldD (st : List (Str × PyData) × List (Str × PyData)) (p : Piece) : List (Str × PyData) × List (Str × PyData) := p.names.foldl (stepD p) st
def dueF (ps : List Piece) : List (Str × PyData) × List (Str × PyData) := ps.foldl foldD ([], [])
def dueL (ps : List Piece) : List (Str × PyData) := setAll (dueF ps).1 (dueF ps).2
theorem foldD_1 (p : Piece) : ∀ (ns : List Nam) (st : List (Str × PyData) × List (Str × PyData)), (ns.foldl (stepD p) st).1 = putAll st.1 (selN "tell" p ns)
  | [], st => rfl
  | n :: ns, st => by
    rw [List.foldl_cons, foldD_1 p ns, selN_cons]
    show putAll (if n.sort = ("tell" : Str) then putL st.1 n.name (spN p n) else st.1) _ = _
    by_cases g : n.sort = ("tell" : Str)
    · rw [if_pos g, if_pos g]; rfl
    · rw [if_neg g, if_neg g]
theorem dueF_1 : ∀ (ps : List Piece) (st : List (Str × PyData) × List (Str × PyData)), (ps.foldl foldD st).1 = putAll st.1 (allN "tell" ps)
  | [], st => rfl
  | p :: ps, st => by
    rw [List.foldl_cons, dueF_1 ps, show (foldD st p).1 = _ from foldD_1 p p.names st, ← putAll_app]
    unfold allN
    rw [List.flatMap_cons]
def minAll (L xs : List (Str × PyData)) : List (Str × PyData) := xs.foldl (fun L x => minL L x.1 (titD x.2) x.2) L
theorem minAll_app (L xs ys : List (Str × PyData)) : minAll L (xs ++ ys) = minAll (minAll L xs) ys := List.foldl_append
theorem foldD_2 (p : Piece) : ∀ (ns : List Nam) (st : List (Str × PyData) × List (Str × PyData)), (ns.foldl (stepD p) st).2 = minAll st.2 (selN "weak" p ns)
  | [], st => rfl
  | n :: ns, st => by
    rw [List.foldl_cons, foldD_2 p ns, selN_cons]
    show minAll (if n.sort = ("weak" : Str) then minL st.2 n.name p.name (spN p n) else st.2) _ = _
    by_cases g : n.sort = ("weak" : Str)
    · rw [if_pos g, if_pos g]; rfl
    · rw [if_neg g, if_neg g]
theorem dueF_2 : ∀ (ps : List Piece) (st : List (Str × PyData) × List (Str × PyData)), (ps.foldl foldD st).2 = minAll st.2 (allN "weak" ps)
  | [], st => rfl
  | p :: ps, st => by
    rw [List.foldl_cons, dueF_2 ps, show (foldD st p).2 = _ from foldD_2 p p.names st, ← minAll_app]
    unfold allN
    rw [List.flatMap_cons]
theorem minL_look (L : List (Str × PyData)) (z y t : Str) (d : PyData) : lookL (minL L z t d) y = if y = z then (match lookL L z with | none => some d | some e => if ltS t (titD e) then some d else some e) else lookL L y := by
  unfold minL
  cases h : lookL L z with
  | none => rw [lookL_put]
  | some e =>
    show lookL (if ltS t (titD e) then putL L z d else L) y = _
    by_cases g : ltS t (titD e)
    · rw [if_pos g, lookL_put]
      show _ = if y = z then (if ltS t (titD e) then some d else some e) else _
      rw [if_pos g]
    · rw [if_neg g]
      show _ = if y = z then (if ltS t (titD e) then some d else some e) else _
      rw [if_neg g]
      by_cases q : y = z
      · rw [if_pos q, q, h]
      · rw [if_neg q]
/-- the least title among those of a name -/
def Least (xs : List (Str × PyData)) (z : Str) (o : Option PyData) : Prop := match o with
  | none => ∀ x ∈ xs, x.1 ≠ z
  | some d => (z, d) ∈ xs ∧ ∀ x ∈ xs, x.1 = z → ¬ ltS (titD x.2) (titD d)
theorem lt_irr (a : Str) : ¬ ltS a a := fun h => List.lt_irrefl _ h
theorem lt_tr {a b c : Str} (h1 : ltS a b) (h2 : ltS b c) : ltS a c := List.lt_trans h1 h2
theorem least_min : ∀ (xs L ys : List (Str × PyData)) (z : Str), Least ys z (lookL L z) → Least (ys ++ xs) z (lookL (minAll L xs) z)
  | [], L, ys, z, h => by rw [List.append_nil]; exact h
  | x :: xs, L, ys, z, h => by
    have e : ys ++ x :: xs = (ys ++ [x]) ++ xs := by rw [List.append_assoc]; rfl
    rw [e]
    refine least_min xs (minL L x.1 (titD x.2) x.2) (ys ++ [x]) z ?_
    rw [minL_look]
    by_cases q : z = x.1
    · rw [if_pos q]
      subst q
      cases hl : lookL L x.1 with
      | none =>
        rw [hl] at h
        refine ⟨List.mem_append_right _ (List.mem_singleton.mpr rfl), fun y hy ey => ?_⟩
        rcases List.mem_append.mp hy with hy | hy
        · exact absurd ey (h y hy)
        · rw [List.mem_singleton.mp hy]; exact lt_irr _
      | some e =>
        rw [hl] at h
        obtain ⟨h1, h2⟩ := h
        show Least _ _ (if ltS (titD x.2) (titD e) then some x.2 else some e)
        by_cases g : ltS (titD x.2) (titD e)
        · rw [if_pos g]
          refine ⟨List.mem_append_right _ (List.mem_singleton.mpr rfl), fun y hy ey => ?_⟩
          rcases List.mem_append.mp hy with hy | hy
          · exact fun k => h2 y hy ey (lt_tr k g)
          · rw [List.mem_singleton.mp hy]; exact lt_irr _
        · rw [if_neg g]
          refine ⟨List.mem_append_left _ h1, fun y hy ey => ?_⟩
          rcases List.mem_append.mp hy with hy | hy
          · exact h2 y hy ey
          · rw [List.mem_singleton.mp hy]; exact g
    · rw [if_neg q]
      cases hl : lookL L z with
      | none =>
        rw [hl] at h
        intro y hy
        rcases List.mem_append.mp hy with hy | hy
        · exact h y hy
        · rw [List.mem_singleton.mp hy]; exact fun k => q k.symm
      | some e =>
        rw [hl] at h
        refine ⟨List.mem_append_left _ h.1, fun y hy ey => ?_⟩
        rcases List.mem_append.mp hy with hy | hy
        · exact h.2 y hy ey
        · rw [List.mem_singleton.mp hy] at ey; exact absurd ey.symm q
theorem look_mem {L : List (Str × PyData)} {z : Str} {d : PyData} (h : lookL L z = some d) : (z, d) ∈ L := by
  unfold lookL at h
  cases g : L.find? (fun x => decide (x.1 = z)) with
  | none => rw [g] at h; cases h
  | some x =>
    rw [g] at h
    cases h
    have h1 := List.find?_some g
    have h2 := List.mem_of_find?_eq_some g
    rw [← of_decide_eq_true h1]
    exact h2
/-- in a list sorted by titles the first is the least -/
theorem least_first : ∀ {ps : List Piece} (z : Str), ps.Pairwise (fun a b => leP a b = true) → Least (allN "weak" ps) z (lookL (allN "weak" ps) z)
  | [], z, _ => fun _ h => nomatch h
  | p :: ps, z, h => by
    have hn := List.pairwise_cons.mp h
    have ih := least_first z hn.2
    have e : allN "weak" (p :: ps) = selN "weak" p p.names ++ allN "weak" ps := by unfold allN; rw [List.flatMap_cons]
    have tit : ∀ (q : Piece) (x : Str × PyData), x ∈ selN "weak" q q.names → titD x.2 = q.name := fun q x hx => by
      obtain ⟨n, _, rfl⟩ := List.mem_map.mp hx; rfl
    rw [e, lookL_app]
    cases hl : lookL (selN "weak" p p.names) z with
    | some d =>
      refine ⟨List.mem_append_left _ (look_mem hl), fun x hx ex => ?_⟩
      rw [tit p _ (look_mem hl)]
      rcases List.mem_append.mp hx with hx | hx
      · rw [tit p x hx]; exact lt_irr _
      · obtain ⟨q, hq, hx⟩ := List.mem_flatMap.mp hx
        rw [tit q x hx]
        exact List.not_lt.mpr (leP_iff.mp (hn.1 q hq))
    | none =>
      have h0 := lookL_none.mp hl
      show Least _ z (lookL (allN "weak" ps) z)
      cases hr : lookL (allN "weak" ps) z with
      | none =>
        rw [hr] at ih
        intro x hx ex
        rcases List.mem_append.mp hx with hx | hx
        · exact h0 (List.mem_map.mpr ⟨x, hx, ex⟩)
        · exact ih x hx ex
      | some d =>
        rw [hr] at ih
        refine ⟨List.mem_append_right _ ih.1, fun x hx ex => ?_⟩
        rcases List.mem_append.mp hx with hx | hx
        · exact absurd (List.mem_map.mpr ⟨x, hx, ex⟩) h0
        · exact ih.2 x hx ex
/-- the least is one, where titles differ -/
theorem least_one {ps : List Piece} (ht : ∀ p ∈ ps, ∀ q ∈ ps, p.name = q.name → p = q) (ho : ∀ p ∈ ps, (p.names.map (·.name)).Nodup) {xs ys : List (Str × PyData)} (hx : ∀ x ∈ xs, x ∈ allN "weak" ps) (hxy : ∀ x, x ∈ xs ↔ x ∈ ys) {z : Str} {o o' : Option PyData} (h : Least xs z o) (h' : Least ys z o') : o = o' := by
  cases o with
  | none =>
    cases o' with
    | none => rfl
    | some d => exact absurd rfl (h _ ((hxy _).mpr h'.1))
  | some d =>
    cases o' with
    | none => exact absurd rfl (h' _ ((hxy _).mp h.1))
    | some d' =>
      have m1 := hx _ h.1
      have m2 := hx _ ((hxy _).mpr h'.1)
      obtain ⟨p, hp, hp2⟩ := List.mem_flatMap.mp m1
      obtain ⟨q, hq, hq2⟩ := List.mem_flatMap.mp m2
      obtain ⟨n, hn, en⟩ := List.mem_map.mp hp2
      obtain ⟨k, hk, ek⟩ := List.mem_map.mp hq2
      obtain ⟨en1, en2⟩ := Prod.mk.inj en
      obtain ⟨ek1, ek2⟩ := Prod.mk.inj ek
      have a := h.2 _ ((hxy _).mpr h'.1) rfl
      have b := h'.2 _ ((hxy _).mp h.1) rfl
      have td : titD d = p.name := by rw [← en2]; rfl
      have td' : titD d' = q.name := by rw [← ek2]; rfl
      have a : ¬ ltS (titD d') (titD d) := a
      have b : ¬ ltS (titD d) (titD d') := b
      rw [td, td'] at a b
      have e : p.name = q.name := str_ext (List.le_antisymm (List.not_lt.mp a) (List.not_lt.mp b))
      have epq := ht p hp q hq e
      subst epq
      have hn := (List.mem_filter.mp hn).1
      have hk := (List.mem_filter.mp hk).1
      have enk : n = k := by
        obtain ⟨i, hi, ei⟩ := List.getElem_of_mem hn
        obtain ⟨j, hj, ej⟩ := List.getElem_of_mem hk
        have ij : i = j := by
          have hN := ho p hp
          have e5 : (p.names.map (·.name))[i]'(by rw [List.length_map]; exact hi) = (p.names.map (·.name))[j]'(by rw [List.length_map]; exact hj) := by
            rw [List.getElem_map, List.getElem_map, ei, ej, en1, ek1]
          rcases Nat.lt_trichotomy i j with q | q | q
          · exact absurd e5 (List.pairwise_iff_getElem.mp hN i j _ _ q)
          · exact q
          · exact absurd e5.symm (List.pairwise_iff_getElem.mp hN j i _ _ q)
        subst ij
        rw [← ei, ← ej]
      rw [← en2, ← ek2, enk]
theorem dueL_look {ps : List Piece} (hn : ((allN "tell" ps).map (·.1)).Nodup) (ht : ∀ p ∈ ps, ∀ q ∈ ps, p.name = q.name → p = q) (ho : ∀ p ∈ ps, (p.names.map (·.name)).Nodup) (z : Str) : lookL (namesL ps) z = lookL (dueL ps) z := by
  have e1 : (dueF ps).1 = putAll [] (allN "tell" ps) := dueF_1 ps _
  have e2 : (dueF ps).2 = minAll [] (allN "weak" ps) := dueF_2 ps _
  rw [namesL_look hn]
  unfold dueL
  rw [lookL_setAll, e1, e2, lookL_putAll _ _ _ hn]
  have e3 : lookL (allN "weak" (sortP ps)) z = lookL (minAll [] (allN "weak" ps)) z := by
    have a := least_first z (sortP_pw ps)
    have b := least_min (allN "weak" ps) [] [] z (fun _ h => nomatch h)
    rw [List.nil_append] at b
    have pm := allN_perm (srt := "weak") (sortP_perm ps)
    exact least_one ht ho (fun x hx => pm.mem_iff.mp hx) (fun x => pm.mem_iff) a b
  rw [e3]
  cases lookL (allN "tell" ps) z <;> rfl
theorem minL_nodup {L : List (Str × PyData)} {z t : Str} {d : PyData} (h : (L.map (·.1)).Nodup) : ((minL L z t d).map (·.1)).Nodup := by
  unfold minL
  split
  · exact putL_nodup h
  · split
    · exact putL_nodup h
    · exact h
theorem minAll_nodup : ∀ (xs L : List (Str × PyData)), (L.map (·.1)).Nodup → ((minAll L xs).map (·.1)).Nodup
  | [], L, h => h
  | x :: xs, L, h => minAll_nodup xs _ (minL_nodup h)
theorem dueL_nodup (ps : List Piece) : ((dueL ps).map (·.1)).Nodup := by
  unfold dueL dueF
  rw [dueF_1]
  exact setAll_nodup _ _ (putAll_nodup _ _ List.nodup_nil)
/-! the drawn titles differ -/
theorem sgns_nd : sgns.cps.toList.Nodup := by decide +kernel
theorem nm_inj (c : Int) (i j : Int) (h0 : 0 ≤ i) (h1 : i < 16) (h2 : 0 ≤ j) (h3 : j < 16) (e : nmT c i = nmT c j) : i = j := by
  have e1 : nmL c i = nmL c j := by
    have : (nmL c i).toArray = (nmL c j).toArray := congrArg Str.cps e
    simpa using this
  by_cases g : c / 256 % 3 = 0
  · have e2 := congrArg List.length e1
    rw [nmL_len, nmL_len] at e2
    unfold nmSize at e2
    rw [if_pos g, if_pos g] at e2
    omega
  · have hs : nmSize c i = 1 + c % 16 := if_neg g
    have hs' : nmSize c j = 1 + c % 16 := if_neg g
    have ha : nmAt c = c / 16 % (1 + c % 16) := if_neg g
    have hat : 0 ≤ nmAt c ∧ nmAt c < 1 + c % 16 := by
      rw [ha]
      have : 0 < 1 + c % 16 := by omega
      exact ⟨Int.emod_nonneg _ (by omega), Int.emod_lt_of_pos _ this⟩
    have hlt : (nmAt c).toNat < (1 + c % 16).toNat := by omega
    have q1 : ∀ k : Int, nmSize c k = 1 + c % 16 → (nmL c k)[(nmAt c).toNat]? = some (sgns.cps.toList.getD (nmIx c k (nmAt c) (nmAt c).toNat).toNat 0) := fun k hk => by
      unfold nmL
      rw [List.getElem?_map, List.getElem?_range (by rw [hk]; exact hlt)]; rfl
    have e3 := q1 i hs
    rw [e1, q1 j hs'] at e3
    have e4 := Option.some.inj e3
    have b1 := nmIx_ok c i (nmAt c) (nmAt c).toNat
    have b2 := nmIx_ok c j (nmAt c) (nmAt c).toNat
    have e5 : (nmIx c j (nmAt c) (nmAt c).toNat).toNat = (nmIx c i (nmAt c) (nmAt c).toNat).toNat := by
      have l1 : (nmIx c j (nmAt c) (nmAt c).toNat).toNat < sgns.cps.toList.length := by rw [sgns_len]; omega
      have l2 : (nmIx c i (nmAt c) (nmAt c).toNat).toNat < sgns.cps.toList.length := by rw [sgns_len]; omega
      rw [List.getD_eq_getElem?_getD, List.getD_eq_getElem?_getD, List.getElem?_eq_getElem l1, List.getElem?_eq_getElem l2] at e4
      have e6 : sgns.cps.toList[(nmIx c j (nmAt c) (nmAt c).toNat).toNat] = sgns.cps.toList[(nmIx c i (nmAt c) (nmAt c).toNat).toNat] := e4
      generalize (nmIx c j (nmAt c) (nmAt c).toNat).toNat = x at *
      generalize (nmIx c i (nmAt c) (nmAt c).toNat).toNat = y at *
      rcases Nat.lt_trichotomy x y with q | q | q
      · exact absurd e6 (List.pairwise_iff_getElem.mp sgns_nd x y _ _ q)
      · exact q
      · exact absurd e6.symm (List.pairwise_iff_getElem.mp sgns_nd y x _ _ q)
    have e7 : nmIx c j (nmAt c) (nmAt c).toNat = nmIx c i (nmAt c) (nmAt c).toNat := by omega
    unfold nmIx at e7
    have e8 : (((nmAt c).toNat : Nat) : Int) = nmAt c := by omega
    rw [e8, if_pos rfl, Int.mul_one, Int.mul_one] at e7
    generalize c / (nmAt c + 3) + nmAt c * nmAt c = base at e7
    by_cases z : nmAt c = 0
    · rw [if_pos z] at e7; omega
    · rw [if_neg z] at e7; omega
theorem Drawn.titles {nb tb : Int} {strict : Bool} {n : Nat} {ps : List Piece} (h : Drawn nb tb strict n ps) : ∀ p ∈ ps, ∀ q ∈ ps, p.name = q.name → p = q := fun p hp q hq e => by
  obtain ⟨i, hi, ei⟩ := List.getElem_of_mem hp
  obtain ⟨j, hj, ej⟩ := List.getElem_of_mem hq
  have hl := h.len
  have g1 := (h.each i p (by rw [List.getElem?_eq_getElem hi, ei])).name
  have g2 := (h.each j q (by rw [List.getElem?_eq_getElem hj, ej])).name
  have := nm_inj tb i j (by omega) (by omega) (by omega) (by omega) (by rw [← g1, ← g2, e])
  have ij : i = j := by omega
  subst ij
  rw [← ei, ← ej]
theorem Drawn.once {nb tb : Int} {strict : Bool} {n : Nat} {ps : List Piece} (h : Drawn nb tb strict n ps) : ∀ p ∈ ps, (p.names.map (·.name)).Nodup := fun p hp => by
  obtain ⟨i, hi, ei⟩ := List.getElem_of_mem hp
  exact (h.each i p (by rw [List.getElem?_eq_getElem hi, ei])).once
theorem tells_nodup : ∀ {ps : List Piece}, (∀ p ∈ ps, (p.names.map (·.name)).Nodup) → ps.Pairwise NoTwo → ((allN "tell" ps).map (·.1)).Nodup
  | [], _, _ => List.nodup_nil
  | p :: ps, ho, h => by
    have hn := List.pairwise_cons.mp h
    have ih := tells_nodup (fun q hq => ho q (List.mem_cons_of_mem _ hq)) hn.2
    unfold allN
    rw [List.flatMap_cons, List.map_append]
    refine List.nodup_append.mpr ⟨?_, ih, fun a ha b hb e => ?_⟩
    · unfold selN
      rw [List.map_map]
      exact (List.Sublist.map _ List.filter_sublist).nodup (ho p List.mem_cons_self)
    · obtain ⟨x, hx, rfl⟩ := List.mem_map.mp ha
      obtain ⟨m, hm, rfl⟩ := List.mem_map.mp hx
      obtain ⟨y, hy, rfl⟩ := List.mem_map.mp hb
      obtain ⟨q, hq, hy⟩ := List.mem_flatMap.mp hy
      obtain ⟨k, hk, rfl⟩ := List.mem_map.mp hy
      have hm := List.mem_filter.mp hm
      have hk := List.mem_filter.mp hk
      exact hn.1 q hq m hm.1 k hk.1 e ⟨of_decide_eq_true hm.2, of_decide_eq_true hk.2⟩
theorem NoTwo.symm {p q : Piece} (h : NoTwo p q) : NoTwo q p := fun m hm k hk e z => h k hk m hm e.symm ⟨z.2, z.1⟩
/-! d.update(e), dicts of one kind -/
def rUpdD : V → List V → Hp → VK → Prop := fun x xs H Q => ∃ (a b : Addr) (kvs more : List (Key × V)), x = .ref a ∧ xs = [.ref b] ∧ H a = some (.dK kvs) ∧ H b = some (.dK more) ∧ a ≠ b ∧ kvs.length + more.length ≤ sizeLine ∧ Q .non (upd H a (.dK (mergeK kvs more)))
theorem mergeK_len : ∀ (more kvs : List (Key × V)), (mergeK kvs more).length ≤ kvs.length + more.length
  | [], kvs => Nat.le_refl _
  | x :: more, kvs => by
    have h1 := mergeK_len more (putK kvs x.1 x.2)
    have h2 := length_putK kvs x.1 x.2
    show (mergeK (putK kvs x.1 x.2) more).length ≤ _
    rw [List.length_cons]
    omega
theorem mt_updD {X : Cx} : MtR X "dict.update" rUpdD := by
  intro pins s σ H x xs v us Q I rx rxs h
  obtain ⟨a, b, kvs, more, rfl, rfl, ea, eb, hne, hl, q⟩ := h
  cases rx
  obtain ⟨u, rfl, ru⟩ := rxs.one
  obtain rfl : u = Value.ref b := ru
  obtain ⟨z, hd, vs, rel, dd⟩ := dk_of I.hok ea
  obtain ⟨z2, hd2, vs2, rel2, dd2⟩ := dk_of I.hok eb
  have hl1 := rel.length
  have hl2 := rel2.length
  refine call_meetsIn PySem.F.slot_dict_update dd.typeIs PySem.F.entry_dict_update (PySem.F.args_dict_update_2 _ _) (PySem.meets_dict_update (mixKind X.prog X.w) a b hne hd2) ⟨vs, vs2, dd, dd2, by omega, fun h' dd' _ hs => ?_⟩
  have he : ∃ q, h'.get? a = some q := let ⟨q, _, _, hq, _⟩ := dd'; ⟨q, hq⟩
  exact ⟨.non, _, d_write (t' := s.toks) I (by rw [ea]; exact True.intro) hs he (dk_new (Nat.le_trans (mergeK_len more kvs) hl) hd (KV.merge rel2 rel) dd'), rfl, q⟩
section
variable {K : PySem.W.Frag} {F H : Hp} {m m2 : Addr} {L M : List (Str × PyData)} {z : Str} {v : V} {d : PyData}
theorem KVD.merge {kf : Str → Key} (hj : ∀ a b, kf a = kf b → a = b) : ∀ {M L : List (Str × PyData)} {more kvs : List (Key × V)}, KVD K F kf more M → KVD K F kf kvs L → KVD K F kf (mergeK kvs more) (putAll L M)
  | [], L, more, kvs, h, h2 => by
    have e : more = [] := List.eq_nil_of_length_eq_zero h.len
    subst e
    exact h2
  | x :: M, L, more, kvs, h, h2 => by
    obtain ⟨w, r, rfl, hw, hr⟩ := h.uncons
    show KVD K F kf (mergeK (putK kvs (kf x.1) w) r) (putAll (putL L x.1 x.2) M)
    exact KVD.merge hj hr (h2.put hj hw)
theorem SD.upd (D : SD K F H m L) (D2 : SD K F H m2 M) (hne : m ≠ m2) (h1 : L.length ≤ 70000) (h2 : M.length ≤ 70000) {Q : VK} (z : ∀ o, SD K F (L2.upd H m o) m (putAll L M) → Q .non (L2.upd H m o)) : rUpdD (.ref m) [.ref m2] H Q := by
  obtain ⟨kvs, e1, k1⟩ := D
  obtain ⟨more, e2, k2⟩ := D2
  refine ⟨m, m2, kvs, more, rfl, rfl, e1, e2, hne, ?_, z _ ⟨_, upd_same, k2.merge inr_inj k1⟩⟩
  rw [k1.len, k2.len]
  exact Nat.le_trans (show L.length + M.length ≤ 140000 by omega) (by decide)
theorem SD.setd (D : SD K F H m L) (hv : Dp K F v d) (hl : L.length ≤ 99999) : ∃ kvs, H m = some (.dK kvs) ∧ kvs.length < sizeLine ∧ (∀ w, valV kvs (Sum.inr z : Key) = some w → setL L z d = L) ∧ (valV kvs (Sum.inr z : Key) = none → SD K F (L2.upd H m (.dK (putK kvs (Sum.inr z) v))) m (setL L z d)) := by
  obtain ⟨kvs, e1, k1⟩ := D
  refine ⟨kvs, e1, small5' (by rw [k1.len]; omega), fun w hw => ?_, fun hn => ?_⟩
  · rcases k1.get inr_inj (k := z) with ⟨e, e2⟩ | ⟨d', v', e, e2, -⟩
    · rw [hw] at e2; cases e2
    · unfold setL
      by_cases g : z ∈ L.map (·.1)
      · rw [if_pos g]
      · rw [lookL_none.mpr g] at e; cases e
  · rcases k1.get inr_inj (k := z) with ⟨e, e2⟩ | ⟨d', v', e, e2, -⟩
    · have g := lookL_none.mp e
      have h3 := k1.put inr_inj (k := z) hv
      have e3 : putL L z d = setL L z d := by
        unfold putL setL
        rw [if_neg g, if_neg g]
      rw [e3] at h3
      exact ⟨_, upd_same, h3⟩
    · rw [hn] at e2; cases e2
end
section
variable {K : PySem.W.Frag} {σ : L2.St} {H : Hp} {nx bk ct : L2.St → Hp → Prop} {rt : VK} {tu : TS}
/-- for .. in e, e making its list -/
theorem s_forM {g : TG} {tl : TE} {xs : List V} (M : Addr → Hp → Prop) (Pv : Addr → Nat → L2.St → Hp → Prop) (ha : ∀ R : VK, (∀ a H1, M a H1 → R (.ref a) H1) → tl σ H R) (h0 : ∀ a H1, M a H1 → SqL K H1 a xs ∧ Pv a 0 σ H1)
    (hl : ∀ a i σ' H', i ≤ xs.length → Pv a i σ' H' → SqL K H' a xs)
    (hs : ∀ a (i : Nat) x σ' H', xs[i]? = some x → Pv a i σ' H' → g x σ' H' fun σ2 H2 => tu ⟨Pv a (i + 1), rt, nx, Pv a (i + 1)⟩ σ2 H2) (hd : ∀ a σ' H', Pv a xs.length σ' H' → nx σ' H') : tFor (iList K tl) g tu ⟨nx, rt, bk, ct⟩ σ H := by
  refine ha _ fun a H1 hM => ?_
  obtain ⟨h1, h2⟩ := h0 a H1 hM
  refine ⟨a, rfl, ⟨xs, h1⟩, ?_⟩
  exact for_list (xs := xs) (Pv a) h2 (hl a) (fun i x σ' H' hi h => hs a i x σ' H' hi h) (hd a)
end
/-! how many there may be -/
def NS.small (st : NS) (n : Nat) : Prop := st.w.length ≤ n ∧ st.s.length ≤ n ∧ st.m.length ≤ n
theorem NS.small.mono {st : NS} {n k : Nat} (h : st.small n) (hk : n ≤ k) : st.small k := ⟨Nat.le_trans h.1 hk, Nat.le_trans h.2.1 hk, Nat.le_trans h.2.2 hk⟩
theorem step_small (p : Piece) (st : NS) (n : Nam) {k : Nat} (h : st.small k) : (stepN p st n).small (k + 1) := by
  refine ⟨?_, ?_, ?_⟩
  · show (if n.sort = ("weak" : Str) then setL st.w n.name (spN p n) else st.w).length ≤ _
    have := setL_len (L := st.w) (z := n.name) (d := spN p n)
    have := h.1
    split <;> omega
  · show (if n.sort = ("tell" : Str) then setL st.s n.name (spN p n) else st.s).length ≤ _
    have := setL_len (L := st.s) (z := n.name) (d := spN p n)
    have := h.2.1
    split <;> omega
  · show (if n.sort = ("tell" : Str) ∧ n.name ∈ st.s.map (·.1) then setL st.m n.name (.str p.name) else st.m).length ≤ _
    have := setL_len (L := st.m) (z := n.name) (d := .str p.name)
    have := h.2.2
    split <;> omega
theorem fold_small (p : Piece) : ∀ (ns : List Nam) (st : NS) {k : Nat}, st.small k → (ns.foldl (stepN p) st).small (k + ns.length)
  | [], st, k, h => h
  | n :: ns, st, k, h => by
    rw [List.foldl_cons, List.length_cons, show k + (ns.length + 1) = (k + 1) + ns.length by omega]
    exact fold_small p ns _ (step_small p st n h)
theorem folds_small' : ∀ (ps : List Piece) (st : NS) {k : Nat}, (∀ p ∈ ps, p.names.length < 64) → st.small k → (ps.foldl foldP st).small (k + 64 * ps.length)
  | [], st, k, _, h => h
  | p :: ps, st, k, hp, h => by
    rw [List.foldl_cons, List.length_cons]
    have h1 := hp p List.mem_cons_self
    refine (folds_small' ps (foldP st p) (k := k + 64) (fun q hq => hp q (List.mem_cons_of_mem _ hq)) ((fold_small p p.names st h).mono (by omega))).mono (by omega)
theorem folds_small (ps : List Piece) (h : ∀ p ∈ ps, p.names.length < 64) : (ps.foldl foldP ⟨[], [], []⟩).small (64 * ps.length) := by
  have := folds_small' ps ⟨[], [], []⟩ (k := 0) h ⟨Nat.le_refl _, Nat.le_refl _, Nat.le_refl _⟩
  rw [Nat.zero_add] at this
  exact this
/-! data without the table -/
section
variable {K : PySem.W.Frag} {H H' : Hp}
theorem seqL_keep (k : ∀ b u, H b = some u → (∀ ps, u ≠ .tbl ps) → H' b = some u) {a : Addr} {xs : List V} (h : SqL K H a xs) : SqL K H' a xs := by
  rcases h with (h | ⟨o, h⟩) | h
  · exact .inl (.inl (k _ _ h fun _ e => by cases e))
  · exact .inl (.inr ⟨o, k _ _ h fun _ e => by cases e⟩)
  · exact .inr h
theorem seqT_keep (k : ∀ b u, H b = some u → (∀ ps, u ≠ .tbl ps) → H' b = some u) {a : Addr} {xs : List V} (h : SqT K H a xs) : SqT K H' a xs := by
  rcases h with (h | ⟨o, h⟩) | h
  · exact .inl (.inl (k _ _ h fun _ e => by cases e))
  · exact .inl (.inr ⟨o, k _ _ h fun _ e => by cases e⟩)
  · exact .inr h
mutual
theorem dp_keep (k : ∀ b u, H b = some u → (∀ ps, u ≠ .tbl ps) → H' b = some u) : ∀ {v : V} {d : PyData}, Dp K H v d → Dp K H' v d
  | _, _, .non => .non
  | _, _, .bl b => .bl b
  | _, _, .int i => .int i
  | _, _, .str x => .str x
  | _, _, .lst h hs => .lst (seqL_keep k h) (dps_keep k hs)
  | _, _, .tup h hs => .tup (seqT_keep k h) (dps_keep k hs)
theorem dps_keep (k : ∀ b u, H b = some u → (∀ ps, u ≠ .tbl ps) → H' b = some u) : ∀ {vs : List V} {ds : List PyData}, DpAll K H vs ds → DpAll K H' vs ds
  | _, _, .nil => .nil
  | _, _, .cons h hs => .cons (dp_keep k h) (dps_keep k hs)
end
theorem del_keep {P : Addr} {q : Str} (hT : LamX.TabS H P q) : ∀ b u, H b = some u → (∀ ps, u ≠ .tbl ps) → del H P b = some u := fun b u e n => by
  have ne : b ≠ P := fun z => by
    obtain ⟨ps, h1, -⟩ := hT
    rw [z, h1] at e
    exact n ps (Option.some.inj e).symm
  rw [del_ne ne]
  exact e
theorem act_tab {P : Addr} {q : Str} (hT : LamX.TabS H P q) : Act (del H P) (del H P) H [P] := by
  refine ⟨Same.refl _, fun b u e => ?_, fun a ha => ?_, List.pairwise_singleton _ _⟩
  · by_cases z : b = P
    · rw [z, del_same] at e; cases e
    · rw [del_ne z] at e; exact e
  · cases List.mem_singleton.mp ha
    obtain ⟨ps, h1, -⟩ := hT
    exact ⟨del_same, _, h1⟩
theorem Act.rebase {B G : Hp} {A : List Addr} (c : Act B G H A) : Act G G H A := ⟨Same.refl _, c.ext, c.free, c.nd⟩
end
section
variable {K : PySem.W.Frag} {σ : L2.St} {H : Hp} {nx bk ct : L2.St → Hp → Prop} {rt : VK} {tu : TS} {td : TE}
/-- for k in d, the body writing other cells -/
theorem s_forKeysM {k : Nat} {d : Addr} {kvs : List (Key × V)} (Pv : Obj → Nat → L2.St → Hp → Prop) (hv : ∀ (H1 : Hp) (R : VK), R (.ref d) H1 → td σ H1 R) (hd : H d = some (.dK kvs)) (h0 : ∀ od, Pv od 0 σ (upd H d (.frz od (.dK kvs))))
    (hk : ∀ od i σ' H', Pv od i σ' H' → H' d = some (.frz od (.dK kvs)))
    (hs : ∀ (od : Obj) (i : Nat) key v σ' H', kvs[i]? = some (key, v) → Pv od i σ' H' →
      tu ⟨Pv od (i + 1), fun w H2 => H2 d = some (.frz od (.dK kvs)) ∧ rt w (upd H2 d (.dK kvs)), fun σ2 H2 => H2 d = some (.frz od (.dK kvs)) ∧ nx σ2 (upd H2 d (.dK kvs)), Pv od (i + 1)⟩ (σ'.set k (some (kV key))) H')
    (he : ∀ od σ' H', Pv od kvs.length σ' H' → nx σ' (upd H' d (.dK kvs))) : tLock (tFor (iKeys td) (gName k) tu) ⟨nx, rt, bk, ct⟩ σ H := by
  refine ⟨d, .dK kvs, hd, trivial, fun od => ?_⟩
  refine hv _ _ ⟨d, od, rfl, .inl ⟨kvs, upd_same, ?_⟩⟩
  refine ⟨fun i m σ' H' => m = kvs.length - i ∧ i ≤ kvs.length ∧ Pv od i σ' H', ⟨kvs.length, by simp, Nat.zero_le _, h0 od⟩, ?_⟩
  rintro i m σ' H2 ⟨rfl, hi, q⟩
  have hq := hk od i σ' H2 q
  by_cases hlt : i < kvs.length
  · refine .inr ⟨⟨hq, hlt⟩, Pv od (i + 1), fun σ3 H3 q' => ⟨kvs.length - (i + 1), by omega, rfl, hlt, q'⟩, fun x H3 y => ?_⟩
    obtain ⟨rfl, key, v, hky, rfl⟩ := y
    exact hs od i key v σ' _ hky q
  · have e : i = kvs.length := by omega
    subst e
    exact .inl ⟨⟨hq, Nat.le_refl _⟩, hq, he od σ' _ q⟩
end
theorem tyX_tup {K : PySem.W.Frag} {H : Hp} {a : Addr} {xs : List V} (h : SqT K H a xs) : TyX K H (.ref a) (.type "tuple") := by
  rcases h with (h | ⟨o, h⟩) | h
  · exact .base (.tup h)
  · exact .fTuple h
  · obtain ⟨o, its, n, hk, hc, -⟩ := h
    exact .kTuple hk hc
theorem s_ltS {z w : Str} {H : Hp} {Q : VK} (k : Q (.bl (decide (z.cps.toList < w.cps.toList))) H) : (fun x y H Q => ∃ i j, x = .str i ∧ y = .str j ∧ Q (.bl (decide (i.cps.toList < j.cps.toList))) H : R2) (.str z) (.str w) H Q := ⟨z, w, rfl, rfl, k⟩
section
variable {K : PySem.W.Frag} {B F H H' : Hp} {m P : Addr} {L : List (Str × PyData)} {z q : Str} {v : V} {d : PyData} {A : List Addr}
theorem SD.setdefault (D : SD K F H m L) (hv : Dp K F v d) (hl : L.length ≤ 99999) (c : Act B F H A) (hm : m ∈ A) {Q : VK} (k : ∀ w H', Act B F H' A → (∀ b, b ≠ m → H' b = H b) → SD K F H' m (setL L z d) → Q w H') :
    ∃ (kvs : List (Key × V)) (key : Key), H m = some (.dK kvs) ∧ V.str z = kV key ∧ kvs.length < sizeLine ∧ (∀ w, valV kvs key = some w → Q w H) ∧ (valV kvs key = none → Q v (L2.upd H m (.dK (putK kvs key v)))) := by
  obtain ⟨kvs, h1, h2, h3, h4⟩ := D.setd (z := z) hv hl
  refine ⟨kvs, Sum.inr z, h1, rfl, h2, fun w hw => ?_, fun hn => ?_⟩
  · refine k w H c (fun _ _ => rfl) ?_
    rw [h3 w hw]
    exact D
  · exact k v _ (c.upd hm) (fun b hb => upd_ne hb) (h4 hn)
theorem SD.tab (D : SD K F H m L) (hT : LamX.TabS H P q) (hb : ∀ b, b ≠ m → H' b = H b) : LamX.TabS H' P q := by
  obtain ⟨kvs, hk, -⟩ := D
  obtain ⟨ps, h1, h2, h3⟩ := hT
  refine ⟨ps, ?_, h2, fun pos cv hc => ?_⟩
  · rw [hb P fun e => by rw [← e, h1] at hk; cases hk]
    exact h1
  · obtain ⟨c, rfl, h4⟩ := h3 pos cv hc
    refine ⟨c, rfl, ?_⟩
    rw [hb c fun e => by rw [← e, h4] at hk; unfold LamX.CodeO at hk; cases hk]
    exact h4
theorem SD.off (D : SD K F H m L) {b : Addr} (hb : ∀ c, c ≠ b → H' c = H c) (h : m ≠ b) : SD K F H' m L := D.to (Same.refl _) (hb m h)
end
theorem ty_dict {K : PySem.W.Frag} {F H : Hp} {m : Addr} {L : List (Str × PyData)} (D : SD K F H m L) : tyV K "dict" (.ref m) H := by
  obtain ⟨kvs, hk, -⟩ := D
  exact .inr (.inr (.inl ⟨rfl, .inl ⟨kvs, hk⟩⟩))
/-! lists made while cells A are still written -/
section
variable {K : PySem.W.Frag} {σ : L2.St} {H B G : Hp} {Q : VK} {A : List Addr}
theorem s_lcG {g : TG} {tt : TT} {te tl : TE} {vs : List Nat} {xs : List V} (c0 : Act B G H A) (d : Nat → Option PyData) (hl : xs.length ≤ 100000) (ha : ∀ R : VK, (∀ a G1 H1, Act B G1 H1 A → Same G G1 → Same H H1 → SqL K G1 a xs → R (.ref a) H1) → tl σ H R)
    (hs : ∀ (i : Nat) x D G1 H1 (Rs : VK) (Rn : Hp → Prop), xs[i]? = some x → Act B G1 H1 (D :: A) → Same G G1 → Same H H1 → (∀ v G2 H2 dd, Same G1 G2 → Act B G2 H2 (D :: A) → Same H1 H2 → d i = some dd → Dp K G2 v dd → Rs v H2) → (∀ G2 H2, Same G1 G2 → Act B G2 H2 (D :: A) → Same H1 H2 → d i = none → Rn H2) →
      g x (wipe σ vs) H1 fun σ2 H2 => wipe σ2 vs = wipe σ vs ∧ tt σ2 H2 fun b H3 => if b = true then te σ2 H3 Rs else Rn H3)
    (z : ∀ p G1 H1 us, Act B G1 H1 (p :: A) → Same G G1 → Same H H1 → H1 p = some (.lst us) → DpAll K G1 us ((List.range xs.length).filterMap d) → us.length ≤ xs.length → Q (.ref p) H1) : tLc (iList K tl) g tt te vs σ H Q := by
  refine ha _ fun a G0 H0 cA sG0 s0 hx => ⟨a, rfl, ⟨xs, cA.ext.seq hx⟩, fun D hD => ?_⟩
  have cD := cA.newA (o := .lst []) hD
  refine lc_list (xs := xs) (fun i H' => i ≤ xs.length ∧ ∃ G1 us, Same G0 G1 ∧ Same H0 H' ∧ Act B G1 H' (D :: A) ∧ H' D = some (.lst us) ∧ us.length ≤ i ∧ DpAll K G1 us ((List.range i).filterMap d)) ⟨Nat.zero_le _, G0, [], Same.refl _, same_upd hD, cD, upd_same, Nat.le_refl _, .nil⟩ (fun i H' _ h => ?_) (fun i x H1 hi h => ?_) (fun H1 h => ?_)
  · obtain ⟨_, G1, us, sG, _, c, _⟩ := h
    exact c.ext.seq (sG.seq hx)
  · obtain ⟨_, G1, us, sG, sH, c, hus, hul, hda⟩ := h
    have hi' : i < xs.length := (List.getElem?_eq_some_iff.mp hi).1
    refine hs i x D G1 H1 _ _ hi c (sG0.trans sG) (s0.trans sH) (fun v G2 H2 dd sG2 c2 s12 hd hv => ?_) (fun G2 H2 sG2 c2 s12 hd => ?_)
    · refine ⟨us, s12 _ _ hus, small5' (by omega), hi', G2, us ++ [v], sG.trans sG2, same_mut (sH.trans s12) hD, c2.upd (by simp), upd_same, by rw [List.length_append, List.length_singleton]; omega, ?_⟩
      rw [List.range_succ, List.filterMap_append]
      refine da_app (dps_same sG2 hda) ?_
      show DpAll K G2 [v] ([i].filterMap d)
      rw [List.filterMap_cons, hd]
      exact da_one hv
    · refine ⟨hi', G2, us, sG.trans sG2, sH.trans s12, c2, s12 _ _ hus, by omega, ?_⟩
      rw [List.range_succ, List.filterMap_append]
      show DpAll K G2 us (_ ++ [i].filterMap d)
      rw [List.filterMap_cons, hd]
      show DpAll K G2 us (_ ++ [])
      rw [List.append_nil]
      exact dps_same sG2 hda
  · obtain ⟨_, G1, us, sG, sH, c, hus, hul, hda⟩ := h
    exact z D G1 H1 us c (sG0.trans sG) (s0.trans sH) hus hda hul
theorem Act.freeze {p : Addr} {o : HO} (c : Act B G H (p :: A)) (e : H p = some o) : ∃ G', Act B G' H A ∧ Same G G' ∧ G' p = some o := ⟨_, c.fz e, c.fz_same, upd_same⟩
end
/-! the law's dict: how many -/
def small2 (st : List (Str × PyData) × List (Str × PyData)) (n : Nat) : Prop := st.1.length ≤ n ∧ st.2.length ≤ n
theorem minL_len {L : List (Str × PyData)} {z t : Str} {d : PyData} : (minL L z t d).length ≤ L.length + 1 := by
  have := putL_len (L := L) (k := z) (d := d)
  unfold minL
  split
  · exact this
  · split
    · exact this
    · omega
theorem stepD_small (p : Piece) (st : List (Str × PyData) × List (Str × PyData)) (n : Nam) {k : Nat} (h : small2 st k) : small2 (stepD p st n) (k + 1) := by
  refine ⟨?_, ?_⟩
  · show (if n.sort = ("tell" : Str) then putL st.1 n.name (spN p n) else st.1).length ≤ _
    have := putL_len (L := st.1) (k := n.name) (d := spN p n)
    have := h.1
    split <;> omega
  · show (if n.sort = ("weak" : Str) then minL st.2 n.name p.name (spN p n) else st.2).length ≤ _
    have := minL_len (L := st.2) (z := n.name) (t := p.name) (d := spN p n)
    have := h.2
    split <;> omega
theorem foldD_small (p : Piece) : ∀ (ns : List Nam) (st : List (Str × PyData) × List (Str × PyData)) {k : Nat}, small2 st k → small2 (ns.foldl (stepD p) st) (k + ns.length)
  | [], st, k, h => h
  | n :: ns, st, k, h => by
    rw [List.foldl_cons, List.length_cons, show k + (ns.length + 1) = (k + 1) + ns.length by omega]
    exact foldD_small p ns _ (stepD_small p st n h)
theorem small2.mono {st : List (Str × PyData) × List (Str × PyData)} {n k : Nat} (h : small2 st n) (hk : n ≤ k) : small2 st k := ⟨Nat.le_trans h.1 hk, Nat.le_trans h.2 hk⟩
theorem dueF_small' : ∀ (ps : List Piece) (st : List (Str × PyData) × List (Str × PyData)) {k : Nat}, (∀ p ∈ ps, p.names.length < 64) → small2 st k → small2 (ps.foldl foldD st) (k + 64 * ps.length)
  | [], st, k, _, h => h
  | p :: ps, st, k, hp, h => by
    rw [List.foldl_cons, List.length_cons]
    have h1 := hp p List.mem_cons_self
    refine (dueF_small' ps (foldD st p) (k := k + 64) (fun q hq => hp q (List.mem_cons_of_mem _ hq)) ((foldD_small p p.names st h).mono (by omega))).mono (by omega)
theorem dueF_small (ps : List Piece) (h : ∀ p ∈ ps, p.names.length < 64) : small2 (ps.foldl foldD ([], [])) (64 * ps.length) := by
  have := dueF_small' ps ([], []) (k := 0) h ⟨Nat.le_refl _, Nat.le_refl _⟩
  rw [Nat.zero_add] at this
  exact this
theorem minAll_spot : ∀ (xs L : List (Str × PyData)), AllSpot L → AllSpot xs → AllSpot (minAll L xs)
  | [], L, h, _ => h
  | x :: xs, L, h, hx => by
    obtain ⟨t, i, j, ok, e⟩ := hx x List.mem_cons_self
    refine minAll_spot xs _ ?_ fun y hy => hx y (List.mem_cons_of_mem _ hy)
    show AllSpot (minL L x.1 (titD x.2) x.2)
    rw [e]
    unfold minL
    split
    · exact h.put ok
    · split
      · exact h.put ok
      · exact h
theorem dueL_spot {ps : List Piece} (h : ∀ p ∈ ps, okS p.name) : AllSpot (dueL ps) := by
  unfold dueL dueF
  rw [dueF_1, dueF_2]
  exact setAll_spot _ _ (putAll_spot _ _ AllSpot.nil (allN_spot h _)) (minAll_spot _ _ AllSpot.nil (allN_spot h _))
theorem sqT_lock {K : PySem.W.Frag} {H : Hp} {t m : Addr} {xs : List V} {kvs : List (Key × V)} {o : HO} (h : SqT K H t xs) (hm : H m = some (.dK kvs)) : SqT K (upd H m o) t xs := by
  rcases h with (h | ⟨o', h⟩) | h
  · exact .inl (.inl (by rw [upd_ne (ne_of h hm (by intro z; cases z))]; exact h))
  · exact .inl (.inr ⟨o', by rw [upd_ne (ne_of h hm (by intro z; cases z))]; exact h⟩)
  · exact .inr h
theorem dget_lock {H : Hp} {m : Addr} {kvs : List (Key × V)} {od : Obj} {z : Str} {o : Option V} (h : H m = some (.frz od (.dK kvs))) (e : valV kvs (Sum.inr z : Key) = o) : DGet H m (.str z) o := .inl ⟨kvs, Sum.inr z, .inr ⟨od, h⟩, rfl, e.symm⟩
theorem kvd_item {K : PySem.W.Frag} {F : Hp} : ∀ {L : List (Str × PyData)} {kvs : List (Key × V)} {i : Nat} {key : Key} {v : V}, KVD K F (fun z : Str => (Sum.inr z : Key)) kvs L → kvs[i]? = some (key, v) → ∃ x, L[i]? = some x ∧ key = Sum.inr x.1 ∧ Dp K F v x.2
  | [], kvs, i, key, v, h, e => by
    have e1 : kvs = [] := List.eq_nil_of_length_eq_zero h.len
    subst e1
    cases e
  | x :: L, kvs, i, key, v, h, e => by
    obtain ⟨w, r, rfl, hw, hr⟩ := h.uncons
    cases i with
    | zero =>
      cases e
      exact ⟨x, rfl, rfl, hw⟩
    | succ i => exact kvd_item (L := L) (kvs := r) (i := i) hr e
theorem s_iteNT' {A B : Prop} (z : A) : if (!(none : Option V).isSome) = true then A else B := by
  have h : (!(none : Option V).isSome) = true := rfl
  rw [if_pos h]; exact z
theorem s_iteNF' {A B : Prop} {v : V} (z : B) : if (!(some v).isSome) = true then A else B := by
  have h : ¬ (!(some v).isSome) = true := fun h => by cases h
  rw [if_neg h]; exact z
theorem cutV_tail (xs : List V) : cutV xs (some 1) none = xs.drop 1 := by
  unfold cutV
  rw [show HT.sIx xs.length 0 (some 1) = min 1 xs.length from HT.sIx_nat _ _ 1, HT.sIx_none]
  cases xs with
  | nil => rfl
  | cons x xs =>
    rw [show min 1 (x :: xs).length = 1 by rw [List.length_cons]; omega]
    exact List.take_of_length_le (by rw [List.length_drop]; omega)
theorem dueL_len {ps : List Piece} (h : ∀ p ∈ ps, p.names.length < 64) : (dueL ps).length ≤ 128 * ps.length := by
  have h1 := dueF_small ps h
  have h2 := setAll_len (dueF ps).2 (dueF ps).1
  have h3 : small2 (dueF ps) (64 * ps.length) := h1
  have := h3.1; have := h3.2
  unfold dueL
  omega
theorem names_one {ps : List Piece} (hn : ((allN "tell" ps).map (·.1)).Nodup) : (foldS (sortP ps)).m = [] := by
  refine folds_m (sortP ps) _ rfl ?_
  have hp := allN_perm (srt := "tell") (sortP_perm ps)
  rw [List.map_nil, List.nil_append]
  exact (hp.map _).nodup_iff.mpr hn
theorem lock_back {H H' : Hp} {d : Addr} {u : HO} {od : Obj} (hd : H d = some u) (s : Same (upd H d (.frz od u)) H') : Same H (upd H' d u) := fun b v e => by
  by_cases q : b = d
  · rw [q] at e ⊢
    rw [upd_same, ← e, hd]
  · rw [upd_ne q]
    exact s b v (by rw [upd_ne q]; exact e)
theorem da_rev {K : PySem.W.Frag} {H : Hp} : ∀ {xs : List V} {ds : List PyData}, DpAll K H xs ds → DpAll K H xs.reverse ds.reverse
  | _, [], h => by rw [da_nil h]; exact .nil
  | _, d :: ds, h => by
    obtain ⟨v, vs, rfl, h1, h2⟩ := da_cons h
    rw [List.reverse_cons, List.reverse_cons]
    exact da_app (da_rev h2) (da_one h1)
end Jl

/-! Names told strongly by two. -/
namespace Jl
open PySem L2 PySem.Spec PyProof.Rows
/-- the rows of a name -/
def ofN (xs : List (Str × PyData)) (z : Str) : List (Str × PyData) := xs.filter fun x => decide (x.1 = z)
theorem ofN_app (xs ys : List (Str × PyData)) (z : Str) : ofN (xs ++ ys) z = ofN xs z ++ ofN ys z := List.filter_append ..
theorem ofN_nil {xs : List (Str × PyData)} {z : Str} : ofN xs z = [] ↔ z ∉ xs.map (·.1) := by
  unfold ofN
  rw [List.filter_eq_nil_iff]
  constructor
  · intro h g
    obtain ⟨x, hx, e⟩ := List.mem_map.mp g
    exact h x hx (decide_eq_true e)
  · intro h x hx e
    exact h (List.mem_map.mpr ⟨x, hx, of_decide_eq_true e⟩)
theorem ofN_look {xs : List (Str × PyData)} {z : Str} : lookL xs z = ((ofN xs z)[0]?).map (·.2) := by
  induction xs with
  | nil => rfl
  | cons x xs ih =>
    rw [lookL_cons]
    unfold ofN
    rw [List.filter_cons]
    by_cases e : x.1 = z
    · rw [if_pos e, decide_eq_true e, if_pos rfl]; rfl
    · rw [if_neg e, decide_eq_false e, if_neg Bool.false_ne_true]; exact ih
def mStep (st : List (Str × PyData) × List (Str × PyData)) (x : Str × PyData) : List (Str × PyData) × List (Str × PyData) :=
  (setL st.1 x.1 x.2, if x.1 ∈ st.1.map (·.1) then setL st.2 x.1 (.str (titD x.2)) else st.2)
theorem fold_sm (p : Piece) : ∀ (ns : List Nam) (st : NS), ((ns.foldl (stepN p) st).s, (ns.foldl (stepN p) st).m) = (selN "tell" p ns).foldl mStep (st.s, st.m)
  | [], st => rfl
  | n :: ns, st => by
    rw [List.foldl_cons, fold_sm p ns, selN_cons]
    by_cases g : n.sort = ("tell" : Str)
    · rw [if_pos g, List.foldl_cons]
      congr 1
      show (if n.sort = ("tell" : Str) then setL st.s n.name (spN p n) else st.s, if n.sort = ("tell" : Str) ∧ n.name ∈ st.s.map (·.1) then setL st.m n.name (.str p.name) else st.m) = _
      rw [if_pos g]
      by_cases h : n.name ∈ st.s.map (·.1)
      · rw [if_pos ⟨g, h⟩]; unfold mStep; rw [if_pos h]; rfl
      · rw [if_neg fun q => h q.2]; unfold mStep; rw [if_neg h]
    · rw [if_neg g]
      congr 1
      show (if n.sort = ("tell" : Str) then setL st.s n.name (spN p n) else st.s, if n.sort = ("tell" : Str) ∧ n.name ∈ st.s.map (·.1) then setL st.m n.name (.str p.name) else st.m) = _
      rw [if_neg g, if_neg fun q => g q.1]
theorem folds_sm : ∀ (ps : List Piece) (st : NS), ((ps.foldl foldP st).s, (ps.foldl foldP st).m) = (allN "tell" ps).foldl mStep (st.s, st.m)
  | [], st => rfl
  | p :: ps, st => by
    rw [List.foldl_cons, folds_sm ps, show ((foldP st p).s, (foldP st p).m) = _ from fold_sm p p.names st]
    unfold allN
    rw [List.flatMap_cons, List.foldl_append]
theorem setL_keys (L : List (Str × PyData)) (z y : Str) (d : PyData) : y ∈ (setL L z d).map (·.1) ↔ y = z ∨ y ∈ L.map (·.1) := by
  unfold setL
  by_cases g : z ∈ L.map (·.1)
  · rw [if_pos g]
    exact ⟨.inr, fun h => h.elim (fun e => e ▸ g) id⟩
  · rw [if_neg g, List.map_append, List.mem_append]
    constructor
    · rintro (h | h)
      · exact .inr h
      · exact .inl (List.mem_singleton.mp h)
    · rintro (rfl | h)
      · exact .inr List.mem_cons_self
      · exact .inl h
theorem mfold : ∀ (xs ys : List (Str × PyData)) (st : List (Str × PyData) × List (Str × PyData)),
    (∀ z, lookL st.1 z = ((ofN ys z)[0]?).map (·.2)) → (∀ z, lookL st.2 z = ((ofN ys z)[1]?).map fun x => .str (titD x.2)) → (st.2.map (·.1)).Nodup →
    (∀ z, lookL (xs.foldl mStep st).1 z = ((ofN (ys ++ xs) z)[0]?).map (·.2)) ∧ (∀ z, lookL (xs.foldl mStep st).2 z = ((ofN (ys ++ xs) z)[1]?).map fun x => .str (titD x.2)) ∧ ((xs.foldl mStep st).2.map (·.1)).Nodup
  | [], ys, st, h1, h2, h3 => by rw [List.append_nil]; exact ⟨h1, h2, h3⟩
  | x :: xs, ys, st, h1, h2, h3 => by
    rw [List.foldl_cons, show ys ++ x :: xs = (ys ++ [x]) ++ xs by rw [List.append_assoc]; rfl]
    have hin : x.1 ∈ st.1.map (·.1) ↔ ofN ys x.1 ≠ [] := by
      constructor
      · intro h e
        have := h1 x.1
        rw [e] at this
        exact lookL_none.mp this h
      · intro h
        by_cases g : x.1 ∈ st.1.map (·.1)
        · exact g
        · have e := lookL_none.mpr g
          rw [h1] at e
          cases q : ofN ys x.1 with
          | nil => exact absurd q h
          | cons a l => rw [q] at e; cases e
    have one : ∀ z, ofN [x] z = if x.1 = z then [x] else [] := fun z => by
      unfold ofN
      rw [List.filter_cons]
      by_cases e : x.1 = z
      · rw [decide_eq_true e, if_pos e, if_pos rfl]; rfl
      · rw [decide_eq_false e, if_neg e, if_neg Bool.false_ne_true]; rfl
    refine mfold xs (ys ++ [x]) (mStep st x) (fun z => ?_) (fun z => ?_) ?_
    · show lookL (setL st.1 x.1 x.2) z = _
      rw [lookL_set, h1, ofN_app, one]
      cases q : ofN ys z with
      | nil =>
        by_cases e : x.1 = z
        · rw [if_pos e, if_pos e]; rfl
        · rw [if_neg e, if_neg e]; rfl
      | cons a l => rfl
    · show lookL (if x.1 ∈ st.1.map (·.1) then setL st.2 x.1 (.str (titD x.2)) else st.2) z = _
      rw [ofN_app, one]
      by_cases g : x.1 ∈ st.1.map (·.1)
      · rw [if_pos g, lookL_set, h2]
        have g2 := hin.mp g
        by_cases e : x.1 = z
        · subst e
          rw [if_pos rfl, if_pos rfl]
          cases q : ofN ys x.1 with
          | nil => exact absurd q g2
          | cons a l =>
            cases l with
            | nil => rfl
            | cons b l => rfl
        · rw [if_neg e, if_neg e, List.append_nil]
          cases ((ofN ys z)[1]?).map fun x : Str × PyData => PyData.str (titD x.2) <;> rfl
      · rw [if_neg g, h2]
        have g2 : ofN ys x.1 = [] := Classical.not_not.mp fun h => g (hin.mpr h)
        by_cases e : x.1 = z
        · subst e
          rw [if_pos rfl, g2]; rfl
        · rw [if_neg e, List.append_nil]
    · show ((if x.1 ∈ st.1.map (·.1) then setL st.2 x.1 (.str (titD x.2)) else st.2).map (·.1)).Nodup
      split
      · exact setL_nodup h3
      · exact h3
/-- the titles of those that tell a name strongly, sorted -/
def twT (ps : List Piece) (z : Str) : List Str := (ofN (allN "tell" (sortP ps)) z).map fun x => titD x.2
theorem m_look (ps : List Piece) (z : Str) : lookL (foldS (sortP ps)).m z = ((twT ps z)[1]?).map PyData.str := by
  have h := (mfold (allN "tell" (sortP ps)) [] ([], []) (fun _ => rfl) (fun _ => rfl) List.nodup_nil).2.1 z
  have e := congrArg Prod.snd (folds_sm (sortP ps) ⟨[], [], []⟩)
  have e : (foldS (sortP ps)).m = ((allN "tell" (sortP ps)).foldl mStep ([], [])).2 := e
  rw [e, h]
  unfold twT
  rw [List.nil_append, List.getElem?_map, Option.map_map]; rfl
theorem s_look (ps : List Piece) (z : Str) : lookL (foldS (sortP ps)).s z = ((ofN (allN "tell" (sortP ps)) z)[0]?).map (·.2) := by
  have h := (mfold (allN "tell" (sortP ps)) [] ([], []) (fun _ => rfl) (fun _ => rfl) List.nodup_nil).1 z
  have e := congrArg Prod.fst (folds_sm (sortP ps) ⟨[], [], []⟩)
  have e : (foldS (sortP ps)).s = ((allN "tell" (sortP ps)).foldl mStep ([], [])).1 := e
  rw [e, h, List.nil_append]
theorem m_nodup (ps : List Piece) : (((foldS (sortP ps)).m).map (·.1)).Nodup := by
  have h := (mfold (allN "tell" (sortP ps)) [] ([], []) (fun _ => rfl) (fun _ => rfl) List.nodup_nil).2.2
  have e := congrArg Prod.snd (folds_sm (sortP ps) ⟨[], [], []⟩)
  have e : (foldS (sortP ps)).m = ((allN "tell" (sortP ps)).foldl mStep ([], [])).2 := e
  rw [e]; exact h
theorem m_keys (ps : List Piece) (z : Str) : z ∈ (foldS (sortP ps)).m.map (·.1) ↔ 2 ≤ (twT ps z).length := by
  have h := m_look ps z
  constructor
  · intro g
    rcases Nat.lt_or_ge 1 (twT ps z).length with l | l
    · exact l
    · rw [List.getElem?_eq_none l] at h
      exact absurd g (lookL_none.mp h)
  · intro g
    by_cases q : z ∈ (foldS (sortP ps)).m.map (·.1)
    · exact q
    · rw [lookL_none.mpr q, List.getElem?_eq_getElem (by omega)] at h
      cases h
/-- the least name that two tell strongly -/
def LTw (ps : List Piece) (z : Str) : Prop := 2 ≤ (twT ps z).length ∧ ∀ y, 2 ≤ (twT ps y).length → leS z y
theorem LTw.uniq {ps : List Piece} {z y : Str} (h : LTw ps z) (g : LTw ps y) : z = y := leS_anti (h.2 y g.1) (g.2 z h.1)
theorem ltw_sorted {ps : List Piece} {ks ys : List Str} {z : Str} (hk : ∀ y, y ∈ ks ↔ 2 ≤ (twT ps y).length) (hp : ys.Perm ks) (hs : sortedS ys = true) (h0 : ys[0]? = some z) : LTw ps z := by
  have hm : ∀ y, y ∈ ys ↔ 2 ≤ (twT ps y).length := fun y => (hp.mem_iff).trans (hk y)
  refine ⟨(hm z).mp (List.mem_of_getElem? h0), fun y hy => ?_⟩
  have hy := (hm y).mpr hy
  have pw := sorted_pw ys hs
  cases ys with
  | nil => cases h0
  | cons a l =>
    cases h0
    rcases List.mem_cons.mp hy with rfl | hy
    · rw [leS_iff]; exact List.lt_irrefl _
    · exact (List.pairwise_cons.mp pw).1 y hy
theorem lt1_titles (ps : List Piece) : ∀ x ∈ allN "tell" ps, ∃ p ∈ ps, titD x.2 = p.name := fun x hx => by
  obtain ⟨p, hp, hx⟩ := List.mem_flatMap.mp hx
  obtain ⟨n, _, rfl⟩ := List.mem_map.mp hx
  exact ⟨p, hp, rfl⟩
theorem tw_risen {srt : Str} : ∀ {ps : List Piece}, ps.Pairwise (fun a b => leP a b = true) → (allN srt ps).Pairwise fun x y => leS (titD x.2) (titD y.2)
  | [], _ => List.Pairwise.nil
  | p :: ps, h => by
    obtain ⟨h1, h2⟩ := List.pairwise_cons.mp h
    show (selN srt p p.names ++ allN srt ps).Pairwise _
    have hp : ∀ x ∈ selN srt p p.names, titD x.2 = p.name := fun x hx => by
      obtain ⟨n, _, rfl⟩ := List.mem_map.mp hx
      rfl
    rw [List.pairwise_append]
    refine ⟨?_, tw_risen h2, fun x hx y hy => ?_⟩
    · refine List.Pairwise.imp_of_mem (R := fun _ _ => True) (fun {a b} ha hb _ => ?_) (List.pairwise_of_forall fun _ _ => trivial)
      rw [hp a ha, hp b hb, leS_iff]; exact List.lt_irrefl _
    · obtain ⟨q, hq, hy⟩ := List.mem_flatMap.mp hy
      obtain ⟨n, _, rfl⟩ := List.mem_map.mp hy
      rw [hp x hx, leS_iff]
      exact leP_iff.mp (h1 q hq)
theorem sortedS_pw : ∀ {l : List Str}, l.Pairwise leS → sortedS l = true
  | [], _ => rfl
  | x :: r, h => by
    have key : ∀ (r : List Str) (x : Str), (x :: r).Pairwise leS → risingS x r = true := by
      intro r
      induction r with
      | nil => intro x _; rfl
      | cons y r ih =>
        intro x h
        obtain ⟨h1, h2⟩ := List.pairwise_cons.mp h
        show (!ltCps y.cps.toList x.cps.toList && risingS y r) = true
        have := h1 y List.mem_cons_self
        unfold leS at this
        rw [this, ih y h2]; rfl
    exact key r x h
theorem tw_sorted (ps : List Piece) (z : Str) : sortedS (twT ps z) = true := by
  refine sortedS_pw ?_
  unfold twT
  rw [List.pairwise_map]
  exact (tw_risen (sortP_pw ps)).sublist List.filter_sublist
theorem tw_perm (ps : List Piece) (z : Str) : ((ofN (allN "tell" ps) z).map fun x => titD x.2).Perm (twT ps z) :=
  ((allN_perm (srt := "tell") (sortP_perm ps).symm).filter _).map _
/-! a list of texts, sorted -/
def leSb (a b : Str) : Bool := !ltCps b.cps.toList a.cps.toList
theorem leSb_iff {a b : Str} : leSb a b = true ↔ leS a b := by
  unfold leSb leS
  cases ltCps b.cps.toList a.cps.toList <;> simp
def sortS (ks : List Str) : List Str := ks.mergeSort leSb
theorem sortS_perm (ks : List Str) : (sortS ks).Perm ks := List.mergeSort_perm ks leSb
theorem leS_total (a b : Str) : leS a b ∨ leS b a := by
  rw [leS_iff, leS_iff]
  rcases List.le_total (a.cps.toList) (b.cps.toList) with h | h
  · exact .inl h
  · exact .inr h
theorem sortS_sorted (ks : List Str) : sortedS (sortS ks) = true := by
  refine sortedS_pw ?_
  have := List.pairwise_mergeSort (le := leSb) (fun a b c h1 h2 => leSb_iff.mpr (leS_trans (leSb_iff.mp h1) (leSb_iff.mp h2))) (fun a b => by
    rcases leS_total a b with h | h
    · rw [leSb_iff.mpr h]; rfl
    · rw [leSb_iff.mpr h, Bool.or_true]) ks
  exact this.imp fun h => leSb_iff.mp h
theorem sortS_of {ys ks : List Str} (hp : ys.Perm ks) (hs : sortedS ys = true) : ys = sortS ks := sorted_uniq hs (sortS_sorted ks) (hp.trans (sortS_perm ks).symm)
theorem sortS_len (ks : List Str) : (sortS ks).length = ks.length := (sortS_perm ks).length_eq
theorem mem_sortS {ks : List Str} {z : Str} : z ∈ sortS ks ↔ z ∈ ks := (sortS_perm ks).mem_iff
theorem sortS_congr {ks ls : List Str} (h : ks.Perm ls) : sortS ks = sortS ls := sortS_of ((sortS_perm ks).trans h) (sortS_sorted ks)
/-- lists without a text twice that hold the same -/
theorem perm_same {ks ls : List Str} (h1 : ks.Nodup) (h2 : ls.Nodup) (h : ∀ z, z ∈ ks ↔ z ∈ ls) : ks.Perm ls := (List.perm_ext_iff_of_nodup h1 h2).mpr h
theorem m_len (ps : List Piece) : ((foldS (sortP ps)).m).length ≤ (allN "tell" ps).length := by
  have h := nodup_le ((foldS (sortP ps)).m.map (·.1)) ((allN "tell" ps).map (·.1)) (m_nodup ps) fun z hz => by
    have h1 := (m_keys ps z).mp hz
    have h2 := (tw_perm ps z).length_eq
    rw [List.length_map] at h2
    by_cases g : z ∈ (allN "tell" ps).map (·.1)
    · exact g
    · rw [ofN_nil.mpr g] at h2
      rw [← h2] at h1
      exact absurd h1 (by decide)
  rwa [List.length_map, List.length_map] at h
theorem selN_len (srt : Str) (p : Piece) : (selN srt p p.names).length ≤ p.names.length := by
  unfold selN
  rw [List.length_map]
  exact List.length_filter_le ..
theorem allN_len (srt : Str) : ∀ ps : List Piece, (allN srt ps).length ≤ (ps.flatMap (·.names)).length
  | [] => Nat.le_refl _
  | p :: ps => by
    have h1 := allN_len srt ps
    have h2 := selN_len srt p
    show (selN srt p p.names ++ allN srt ps).length ≤ (p.names ++ ps.flatMap (·.names)).length
    rw [List.length_append, List.length_append]
    omega
theorem nd_ofN : ∀ (xs : List (Str × PyData)), (∀ z, (ofN xs z).length ≤ 1) → (xs.map (·.1)).Nodup
  | [], _ => List.nodup_nil
  | x :: xs, h => by
    have hc : ∀ z, (ofN (x :: xs) z).length = (if x.1 = z then 1 else 0) + (ofN xs z).length := fun z => by
      unfold ofN
      rw [List.filter_cons]
      by_cases e : x.1 = z
      · rw [decide_eq_true e, if_pos rfl, if_pos e, List.length_cons]; omega
      · rw [decide_eq_false e, if_neg Bool.false_ne_true, if_neg e]; omega
    rw [List.map_cons]
    refine List.nodup_cons.mpr ⟨fun g => ?_, nd_ofN xs fun z => by have := h z; rw [hc] at this; omega⟩
    have h1 := h x.1
    rw [hc, if_pos rfl] at h1
    have h2 : ofN xs x.1 = [] := List.length_eq_zero_iff.mp (by omega)
    exact ofN_nil.mp h2 g
theorem no_two {ps : List Piece} (h : ∀ z, ¬ 2 ≤ (twT ps z).length) : ((allN "tell" ps).map (·.1)).Nodup := nd_ofN _ fun z => by
  have h1 := h z
  have h2 := (tw_perm ps z).length_eq
  rw [List.length_map] at h2
  omega
/-! a dict of lists of texts, all still written -/
abbrev GDz := Str × Addr × List Str
structure GD (B F H : Hp) (m : Addr) (A : List Addr) (zs : List GDz) (xs : List (Str × PyData)) : Prop where
  dict : H m = some (.dK (zs.map fun z => ((Sum.inr z.1 : Key), V.ref z.2.1)))
  cell : ∀ z ∈ zs, H z.2.1 = some (.lst (z.2.2.map V.str))
  act : Act B F H (zs.map (·.2.1) ++ m :: A)
  keys : (zs.map (·.1)).Nodup
  mem : ∀ y, y ∈ zs.map (·.1) ↔ y ∈ xs.map (·.1)
  all : ∀ z ∈ zs, z.2.2 = (ofN xs z.1).map fun x => titD x.2
section
variable {K : PySem.W.Frag} {B F F' H H' : Hp} {m p : Addr} {A : List Addr} {zs : List GDz} {xs : List (Str × PyData)}
theorem gd_val {n : Str} : ∀ {zs : List GDz} {v : V}, valV (zs.map fun z => ((Sum.inr z.1 : Key), V.ref z.2.1)) (Sum.inr n) = some v → ∃ z ∈ zs, z.1 = n ∧ v = .ref z.2.1
  | [], v, h => by cases h
  | z :: zs, v, h => by
    rw [List.map_cons] at h
    by_cases e : z.1 = n
    · rw [valV_pos (by rw [e])] at h
      cases h
      exact ⟨z, List.mem_cons_self, e, rfl⟩
    · rw [valV_neg (show ¬ (Sum.inr z.1 : Key) = Sum.inr n from fun h => e (Sum.inr.inj h))] at h
      obtain ⟨y, hy, h1, h2⟩ := gd_val h
      exact ⟨y, List.mem_cons_of_mem _ hy, h1, h2⟩
theorem gd_none {n : Str} : ∀ {zs : List GDz}, valV (zs.map fun z => ((Sum.inr z.1 : Key), V.ref z.2.1)) (Sum.inr n) = none → n ∉ zs.map (·.1)
  | [], _ => List.not_mem_nil
  | z :: zs, h => by
    rw [List.map_cons] at h
    by_cases e : z.1 = n
    · rw [valV_pos (by rw [e])] at h; cases h
    · rw [valV_neg (show ¬ (Sum.inr z.1 : Key) = Sum.inr n from fun h => e (Sum.inr.inj h))] at h
      rw [List.map_cons]
      exact fun g => (List.mem_cons.mp g).elim (fun h => e h.symm) (gd_none h)
theorem gd_get {z : GDz} (h : z ∈ zs) (nd : (zs.map (·.1)).Nodup) : valV (zs.map fun z => ((Sum.inr z.1 : Key), V.ref z.2.1)) (Sum.inr z.1) = some (.ref z.2.1) := by
  cases e : valV (zs.map fun z => ((Sum.inr z.1 : Key), V.ref z.2.1)) (Sum.inr z.1) with
  | none => exact absurd (List.mem_map_of_mem (f := (·.1)) h) (gd_none e)
  | some v =>
    obtain ⟨y, hy, h1, h2⟩ := gd_val e
    have : y = z := by
      obtain ⟨i, hi, rfl⟩ := List.getElem_of_mem hy
      obtain ⟨j, hj, rfl⟩ := List.getElem_of_mem h
      have h3 := List.pairwise_iff_getElem.mp nd
      rcases Nat.lt_trichotomy i j with q | q | q
      · have := h3 i j (by simpa using hi) (by simpa using hj) q
        simp only [List.getElem_map] at this
        exact absurd h1 this
      · subst q; rfl
      · have := h3 j i (by simpa using hj) (by simpa using hi) q
        simp only [List.getElem_map] at this
        exact absurd h1.symm this
    rw [h2, this]
theorem GD.new (c : Act B F H A) (hm : H m = none) : GD B F (upd H m (.dK [])) m A [] [] := ⟨upd_same, fun _ h => (nomatch h), c.newA hm, List.nodup_nil, fun y => Iff.rfl, fun _ h => nomatch h⟩
theorem GD.sm (g : GD B F H m A zs xs) (s : Same H H') : GD B F H' m A zs xs := ⟨s _ _ g.dict, fun z hz => s _ _ (g.cell z hz), g.act.sm s, g.keys, g.mem, g.all⟩
theorem putK_mem {κ : Type} [DecidableEq κ] {kvs : List (κ × V)} {k : κ} {v : V} (h : k ∉ kvs.map (·.1)) : putK kvs k v = kvs ++ [(k, v)] := putK_new' fun x hx e => h (List.mem_map.mpr ⟨x, hx, e⟩)
/-- a key's list, made if it is not there -/
theorem GD.setd (g : GD B F H m A zs xs) (hp : H p = none) {n : Str} :
    (∀ v, valV (zs.map fun z => ((Sum.inr z.1 : Key), V.ref z.2.1)) (Sum.inr n) = some v → ∃ z ∈ zs, z.1 = n ∧ v = .ref z.2.1) ∧
    (valV (zs.map fun z => ((Sum.inr z.1 : Key), V.ref z.2.1)) (Sum.inr n) = none → n ∉ zs.map (·.1) ∧
      (upd (upd H p (.lst [])) m (.dK (putK (zs.map fun z => ((Sum.inr z.1 : Key), V.ref z.2.1)) (Sum.inr n) (.ref p)))) p = some (.lst []) ∧
      (upd (upd H p (.lst [])) m (.dK (putK (zs.map fun z => ((Sum.inr z.1 : Key), V.ref z.2.1)) (Sum.inr n) (.ref p)))) m = some (.dK ((zs ++ [(n, p, ([] : List Str))]).map fun z => ((Sum.inr z.1 : Key), V.ref z.2.1))) ∧
      (∀ z ∈ zs, (upd (upd H p (.lst [])) m (.dK (putK (zs.map fun z => ((Sum.inr z.1 : Key), V.ref z.2.1)) (Sum.inr n) (.ref p)))) z.2.1 = some (.lst (z.2.2.map V.str))) ∧
      Act B F (upd (upd H p (.lst [])) m (.dK (putK (zs.map fun z => ((Sum.inr z.1 : Key), V.ref z.2.1)) (Sum.inr n) (.ref p)))) ((zs ++ [(n, p, ([] : List Str))]).map (·.2.1) ++ m :: A)) := by
  refine ⟨fun v h => gd_val h, fun h => ?_⟩
  have hn := gd_none h
  have hpm : p ≠ m := fun e => by rw [e, g.dict] at hp; cases hp
  have nd := g.act.nd
  have hmc : ∀ z ∈ zs, z.2.1 ≠ m := fun z hz e => by
    have h1 := (List.nodup_append.mp nd).2.2 z.2.1 (List.mem_map_of_mem (f := fun z : GDz => z.2.1) hz) m List.mem_cons_self
    exact h1 e
  have c1 := g.act.newA (o := .lst []) hp
  have ek : putK (zs.map fun z => ((Sum.inr z.1 : Key), V.ref z.2.1)) (Sum.inr n) (.ref p) = (zs ++ [(n, p, ([] : List Str))]).map fun z => ((Sum.inr z.1 : Key), V.ref z.2.1) := by
    rw [putK_mem, List.map_append]; rfl
    intro q
    obtain ⟨x, hx, e⟩ := List.mem_map.mp q
    obtain ⟨z, hz, rfl⟩ := List.mem_map.mp hx
    exact hn (List.mem_map.mpr ⟨z, hz, Sum.inr.inj e⟩)
  refine ⟨hn, by rw [upd_ne hpm, upd_same], by rw [upd_same, ek], fun z hz => ?_, ?_⟩
  · rw [upd_ne (hmc z hz), upd_ne (ne_of_none (g.cell z hz) hp)]; exact g.cell z hz
  · refine (c1.upd (a := m) (by simp)).perm ?_
    rw [List.map_append]
    show (p :: (zs.map (·.2.1) ++ m :: A)).Perm (zs.map (·.2.1) ++ [p] ++ (m :: A))
    rw [List.append_assoc]
    exact List.perm_middle.symm
/-- a title is put behind those of a key -/
theorem gd_put {n t : Str} {d : PyData} (hd : titD d = t) {H1 : Hp} {ys : List GDz} (g2 : H1 m = some (.dK (ys.map fun z => ((Sum.inr z.1 : Key), V.ref z.2.1)))) (cell : ∀ z ∈ ys, H1 z.2.1 = some (.lst (z.2.2.map V.str))) (act : Act B F H1 (ys.map (·.2.1) ++ m :: A)) (nd : (ys.map (·.1)).Nodup)
    (mem : ∀ y, y ∈ ys.map (·.1) ↔ y = n ∨ y ∈ xs.map (·.1)) (all : ∀ z ∈ ys, z.2.2 = (ofN xs z.1).map fun x => titD x.2) {z : GDz} (hz : z ∈ ys) (e : z.1 = n) :
    GD B F (upd H1 z.2.1 (.lst (z.2.2.map V.str ++ [.str t]))) m A (ys.map fun x => if x.1 = n then (x.1, x.2.1, x.2.2 ++ [t]) else x) (xs ++ [(n, d)]) := by
  have ndc := (List.nodup_append.mp act.nd).1
  have hmc : z.2.1 ≠ m := fun e => (List.nodup_append.mp act.nd).2.2 z.2.1 (List.mem_map_of_mem (f := fun z : GDz => z.2.1) hz) m List.mem_cons_self e
  have uniq : ∀ x ∈ ys, x.1 = n → x = z := fun x hx ex => by
    obtain ⟨i, hi, rfl⟩ := List.getElem_of_mem hx
    obtain ⟨j, hj, rfl⟩ := List.getElem_of_mem hz
    have h3 := List.pairwise_iff_getElem.mp nd
    rcases Nat.lt_trichotomy i j with q | q | q
    · have := h3 i j (by simpa using hi) (by simpa using hj) q
      simp only [List.getElem_map] at this
      exact absurd (ex.trans e.symm) this
    · subst q; rfl
    · have := h3 j i (by simpa using hj) (by simpa using hi) q
      simp only [List.getElem_map] at this
      exact absurd (e.trans ex.symm) this
  have uniqc : ∀ x ∈ ys, x.2.1 = z.2.1 → x = z := fun x hx ex => by
    obtain ⟨i, hi, rfl⟩ := List.getElem_of_mem hx
    obtain ⟨j, hj, rfl⟩ := List.getElem_of_mem hz
    have h3 := List.pairwise_iff_getElem.mp ndc
    rcases Nat.lt_trichotomy i j with q | q | q
    · have := h3 i j (by simpa using hi) (by simpa using hj) q
      simp only [List.getElem_map] at this
      exact absurd ex this
    · subst q; rfl
    · have := h3 j i (by simpa using hj) (by simpa using hi) q
      simp only [List.getElem_map] at this
      exact absurd ex.symm this
  have k1 : (ys.map fun x => if x.1 = n then (x.1, x.2.1, x.2.2 ++ [t]) else x).map (·.1) = ys.map (·.1) := by
    rw [List.map_map]
    refine List.map_congr_left fun x _ => ?_
    show (if x.1 = n then (x.1, x.2.1, x.2.2 ++ [t]) else x).1 = x.1
    split <;> rfl
  have k2 : (ys.map fun x => if x.1 = n then (x.1, x.2.1, x.2.2 ++ [t]) else x).map (·.2.1) = ys.map (·.2.1) := by
    rw [List.map_map]
    refine List.map_congr_left fun x _ => ?_
    show (if x.1 = n then (x.1, x.2.1, x.2.2 ++ [t]) else x).2.1 = x.2.1
    split <;> rfl
  have k3 : (ys.map fun x => if x.1 = n then (x.1, x.2.1, x.2.2 ++ [t]) else x).map (fun z => ((Sum.inr z.1 : Key), V.ref z.2.1)) = ys.map fun z => ((Sum.inr z.1 : Key), V.ref z.2.1) := by
    rw [List.map_map]
    refine List.map_congr_left fun x _ => ?_
    show ((Sum.inr (if x.1 = n then (x.1, x.2.1, x.2.2 ++ [t]) else x).1 : Key), V.ref (if x.1 = n then (x.1, x.2.1, x.2.2 ++ [t]) else x).2.1) = _
    split <;> rfl
  refine ⟨?_, fun x hx => ?_, ?_, by rw [k1]; exact nd, fun y => ?_, fun x hx => ?_⟩
  · rw [upd_ne hmc.symm, k3]; exact g2
  · obtain ⟨y, hy, rfl⟩ := List.mem_map.mp hx
    by_cases ey : y.1 = n
    · rw [if_pos ey]
      have := uniq y hy ey
      subst this
      show upd H1 y.2.1 _ y.2.1 = some (.lst ((y.2.2 ++ [t]).map V.str))
      rw [upd_same, List.map_append]; rfl
    · rw [if_neg ey]
      have : y.2.1 ≠ z.2.1 := fun h => ey (by rw [uniqc y hy h]; exact e)
      rw [upd_ne this]; exact cell y hy
  · rw [k2]
    exact act.upd (List.mem_append_left _ (List.mem_map_of_mem (f := fun z : GDz => z.2.1) hz))
  · rw [k1, mem, List.map_append, List.mem_append]
    constructor
    · rintro (h | h)
      · exact .inr (by rw [h]; exact List.mem_cons_self)
      · exact .inl h
    · rintro (h | h)
      · exact .inr h
      · exact .inl (List.mem_singleton.mp h)
  · obtain ⟨y, hy, rfl⟩ := List.mem_map.mp hx
    have one : ∀ w, ofN [(n, d)] w = if n = w then [(n, d)] else [] := fun w => by
      unfold ofN
      rw [List.filter_cons]
      by_cases e : n = w
      · rw [decide_eq_true e, if_pos e, if_pos rfl]; rfl
      · rw [decide_eq_false e, if_neg e, if_neg Bool.false_ne_true]; rfl
    by_cases ey : y.1 = n
    · rw [if_pos ey]
      show y.2.2 ++ [t] = (ofN (xs ++ [(n, d)]) y.1).map _
      rw [ofN_app, one, if_pos ey.symm, List.map_append, ← all y hy, ← hd]; rfl
    · rw [if_neg ey, ofN_app, one, if_neg fun h => ey h.symm, List.append_nil]
      exact all y hy
end
/-! weaker pieces -/
def nn (n : Nam) : Str × Int × Int := (n.name, n.stre, n.off)
def Wk (p q : Piece) : Prop := q.name = p.name ∧ q.stres = p.stres ∧ q.names.map nn = p.names.map nn ∧ ∀ m ∈ q.names, isSort m.sort
inductive WkL : List Piece → List Piece → Prop
  | nil : WkL [] []
  | snoc {ps qs : List Piece} {p q : Piece} : WkL ps qs → Wk p q → WkL (ps ++ [p]) (qs ++ [q])
/-- what names_of is handed -/
structure Tw (ps : List Piece) : Prop where
  fine : ∀ p ∈ ps, Fine p
  sorts : ∀ p ∈ ps, ∀ m ∈ p.names, isSort m.sort
  total : (ps.flatMap (·.names)).length < 64
  few : ps.length ≤ 64
theorem nn_names {a b : List Nam} (h : a.map nn = b.map nn) : a.map (·.name) = b.map (·.name) := by
  have := congrArg (List.map (·.1)) h
  rwa [List.map_map, List.map_map] at this
theorem Wk.fine {p q : Piece} (h : Wk p q) (f : Fine p) : Fine q := by
  obtain ⟨h1, h2, h3, h4⟩ := h
  have hn := nn_names h3
  have hl : q.names.length = p.names.length := by
    have := congrArg List.length hn
    rwa [List.length_map, List.length_map] at this
  refine ⟨⟨by rw [h1]; exact f.ok.1, by rw [h2]; exact f.ok.2.1, fun m hm => ⟨?_, sort_ok (h4 m hm)⟩⟩, by rw [hn]; exact f.once, by rw [hl]; exact f.nl, by rw [h2]; exact f.sl, by unfold allF; rw [h2]; exact f.fl⟩
  have : m.name ∈ p.names.map (·.name) := by rw [← hn]; exact List.mem_map_of_mem hm
  obtain ⟨m', hm', e⟩ := List.mem_map.mp this
  rw [← e]; exact (f.ok.2.2 m' hm').1
theorem WkL.len {ps qs : List Piece} (h : WkL ps qs) : qs.length = ps.length := by
  induction h with
  | nil => rfl
  | snoc _ _ ih => rw [List.length_append, List.length_append, ih]; rfl
theorem WkL.tw {ps qs : List Piece} (h : WkL ps qs) : (∀ p ∈ ps, Fine p) → (∀ q ∈ qs, Fine q) ∧ (∀ q ∈ qs, ∀ m ∈ q.names, isSort m.sort) ∧ (qs.flatMap (·.names)).length = (ps.flatMap (·.names)).length := by
  induction h with
  | nil => intro _; exact ⟨fun _ h => (nomatch h), fun _ h => (nomatch h), rfl⟩
  | @snoc ps qs p q h w ih =>
    intro f
    obtain ⟨h1, h2, h3⟩ := ih fun p hp => f p (List.mem_append_left _ hp)
    have hl : q.names.length = p.names.length := by
      have := congrArg List.length w.2.2.1
      rwa [List.length_map, List.length_map] at this
    refine ⟨fun x hx => ?_, fun x hx => ?_, ?_⟩
    · rcases List.mem_append.mp hx with hx | hx
      · exact h1 x hx
      · rw [List.mem_singleton.mp hx]; exact w.fine (f p (List.mem_append_right _ List.mem_cons_self))
    · rcases List.mem_append.mp hx with hx | hx
      · exact h2 x hx
      · rw [List.mem_singleton.mp hx]; exact w.2.2.2
    · rw [List.flatMap_append, List.flatMap_append, List.length_append, List.length_append, h3]
      show _ + (q.names ++ []).length = _ + (p.names ++ []).length
      rw [List.append_nil, List.append_nil, hl]
theorem Tw.weaker {ps qs : List Piece} (h : Tw ps) (w : WkL ps qs) : Tw qs := by
  obtain ⟨h1, h2, h3⟩ := w.tw h.fine
  exact ⟨h1, h2, by rw [h3]; exact h.total, by rw [w.len]; exact h.few⟩
/-! all told names -/
def addAll (ks l : List Str) : List Str := l.foldl addN ks
theorem addN_mem {ks : List Str} {n z : Str} : z ∈ addN ks n ↔ z = n ∨ z ∈ ks := by
  unfold addN
  by_cases g : n ∈ ks
  · rw [if_pos g]
    exact ⟨.inr, fun h => h.elim (fun e => e ▸ g) id⟩
  · rw [if_neg g, List.mem_append]
    constructor
    · rintro (h | h)
      · exact .inr h
      · exact .inl (List.mem_singleton.mp h)
    · rintro (rfl | h)
      · exact .inr List.mem_cons_self
      · exact .inl h
theorem addN_nodup {ks : List Str} {n : Str} (h : ks.Nodup) : (addN ks n).Nodup := by
  unfold addN
  by_cases g : n ∈ ks
  · rw [if_pos g]; exact h
  · rw [if_neg g]
    exact List.nodup_append.mpr ⟨h, List.nodup_cons.mpr ⟨List.not_mem_nil, List.nodup_nil⟩, fun a ha b hb e => g (by rw [← List.mem_singleton.mp hb, ← e]; exact ha)⟩
theorem addAll_mem {z : Str} : ∀ {l ks : List Str}, z ∈ addAll ks l ↔ z ∈ ks ∨ z ∈ l
  | [], ks => ⟨.inl, fun h => h.elim id fun h => nomatch h⟩
  | n :: l, ks => by
    show z ∈ addAll (addN ks n) l ↔ _
    rw [addAll_mem (l := l), addN_mem, List.mem_cons]
    exact ⟨fun h => h.elim (fun h => h.elim (fun h => .inr (.inl h)) .inl) (fun h => .inr (.inr h)), fun h => h.elim (fun h => .inl (.inr h)) fun h => h.elim (fun h => .inl (.inl h)) .inr⟩
theorem addAll_nodup : ∀ {l ks : List Str}, ks.Nodup → (addAll ks l).Nodup
  | [], _, h => h
  | _ :: l, _, h => addAll_nodup (l := l) (addN_nodup h)
theorem addAll_len : ∀ (l ks : List Str), (addAll ks l).length ≤ ks.length + l.length
  | [], _ => Nat.le_refl _
  | n :: l, ks => by
    have h1 := addAll_len l (addN ks n)
    have h2 := addN_len ks n
    show (addAll (addN ks n) l).length ≤ _
    rw [List.length_cons]
    omega
theorem addAll_app (ks l l2 : List Str) : addAll ks (l ++ l2) = addAll (addAll ks l) l2 := List.foldl_append
def toldsOf (ns : List Nam) : List Str := (ns.filter fun m => !decide (m.sort = ("own" : Str))).map (·.name)
theorem toldsOf_snoc (ns : List Nam) (n : Nam) : toldsOf (ns ++ [n]) = if n.sort = ("own" : Str) then toldsOf ns else toldsOf ns ++ [n.name] := by
  unfold toldsOf
  rw [List.filter_append, List.filter_cons]
  by_cases g : n.sort = ("own" : Str)
  · rw [decide_eq_true g, if_pos g]
    show ((_ ++ []).map _) = _
    rw [List.append_nil]
  · rw [decide_eq_false g, if_neg g, List.map_append]; rfl
theorem toldsOf_len (ns : List Nam) : (toldsOf ns).length ≤ ns.length := by
  unfold toldsOf
  rw [List.length_map]
  exact List.length_filter_le ..
def allT (ps : List Piece) : List Str := ps.flatMap fun p => toldsOf p.names
theorem allT_len : ∀ ps : List Piece, (allT ps).length ≤ (ps.flatMap (·.names)).length
  | [] => Nat.le_refl _
  | p :: ps => by
    have h1 := allT_len ps
    have h2 := toldsOf_len p.names
    show (toldsOf p.names ++ allT ps).length ≤ (p.names ++ ps.flatMap (·.names)).length
    rw [List.length_append, List.length_append]
    omega
theorem allN_names {srt z : Str} {ps : List Piece} : z ∈ (allN srt ps).map (·.1) ↔ ∃ p ∈ ps, ∃ m ∈ p.names, m.sort = srt ∧ m.name = z := by
  constructor
  · intro h
    obtain ⟨x, hx, rfl⟩ := List.mem_map.mp h
    obtain ⟨p, hp, hx⟩ := List.mem_flatMap.mp hx
    obtain ⟨n, hn, rfl⟩ := List.mem_map.mp hx
    have := List.mem_filter.mp hn
    exact ⟨p, hp, n, this.1, of_decide_eq_true this.2, rfl⟩
  · rintro ⟨p, hp, m, hm, h1, rfl⟩
    exact List.mem_map.mpr ⟨(m.name, spN p m), List.mem_flatMap.mpr ⟨p, hp, List.mem_map.mpr ⟨m, List.mem_filter.mpr ⟨hm, decide_eq_true h1⟩, rfl⟩⟩, rfl⟩
theorem allT_mem {z : Str} {ps : List Piece} : z ∈ allT ps ↔ ∃ p ∈ ps, ∃ m ∈ p.names, m.sort ≠ ("own" : Str) ∧ m.name = z := by
  constructor
  · intro h
    obtain ⟨p, hp, hx⟩ := List.mem_flatMap.mp h
    obtain ⟨n, hn, rfl⟩ := List.mem_map.mp hx
    have := List.mem_filter.mp hn
    exact ⟨p, hp, n, this.1, by simpa using this.2, rfl⟩
  · rintro ⟨p, hp, m, hm, h1, rfl⟩
    exact List.mem_flatMap.mpr ⟨p, hp, List.mem_map.mpr ⟨m, List.mem_filter.mpr ⟨hm, by simpa using h1⟩, rfl⟩⟩
theorem names_keys {ps : List Piece} (hn : ((allN "tell" ps).map (·.1)).Nodup) (hs : ∀ p ∈ ps, ∀ m ∈ p.names, isSort m.sort) (z : Str) : z ∈ (namesL ps).map (·.1) ↔ z ∈ allT ps := by
  have e : (lookL (namesL ps) z = none) ↔ ¬ (z ∈ (allN "tell" ps).map (·.1) ∨ z ∈ (allN "weak" (sortP ps)).map (·.1)) := by
    rw [namesL_look hn]
    constructor
    · intro h
      rw [Option.or_eq_none_iff] at h
      exact fun g => g.elim (lookL_none.mp h.1) (lookL_none.mp h.2)
    · intro h
      rw [Option.or_eq_none_iff]
      exact ⟨lookL_none.mpr fun g => h (.inl g), lookL_none.mpr fun g => h (.inr g)⟩
  rw [lookL_none] at e
  have e2 : z ∈ (namesL ps).map (·.1) ↔ (z ∈ (allN "tell" ps).map (·.1) ∨ z ∈ (allN "weak" (sortP ps)).map (·.1)) := by
    constructor
    · intro h; exact Classical.not_not.mp fun g => (e.mpr g) h
    · intro h; exact Classical.not_not.mp fun g => (e.mp g) h
  rw [e2, allN_names, allN_names, allT_mem]
  constructor
  · rintro (⟨p, hp, m, hm, h1, h2⟩ | ⟨p, hp, m, hm, h1, h2⟩)
    · exact ⟨p, hp, m, hm, by rw [h1]; decide, h2⟩
    · exact ⟨p, (sortP_perm ps).mem_iff.mp hp, m, hm, by rw [h1]; decide, h2⟩
  · rintro ⟨p, hp, m, hm, h1, h2⟩
    rcases hs p hp m hm with g | g | g
    · exact .inl ⟨p, hp, m, hm, g, h2⟩
    · exact .inr ⟨p, (sortP_perm ps).mem_iff.mpr hp, m, hm, g, h2⟩
    · exact absurd g h1
theorem names_len {ps : List Piece} (hn : ((allN "tell" ps).map (·.1)).Nodup) (hs : ∀ p ∈ ps, ∀ m ∈ p.names, isSort m.sort) : (namesL ps).length ≤ (ps.flatMap (·.names)).length := by
  have h := nodup_le ((namesL ps).map (·.1)) (allT ps) (namesL_nodup ps) fun z hz => (names_keys hn hs z).mp hz
  rw [List.length_map] at h
  exact Nat.le_trans h (allT_len ps)
theorem told_same {ps : List Piece} (hn : ((allN "tell" ps).map (·.1)).Nodup) (hs : ∀ p ∈ ps, ∀ m ∈ p.names, isSort m.sort) : sortS ((namesL ps).map (·.1)) = sortS (addAll [] (allT ps)) :=
  sortS_congr (perm_same (namesL_nodup ps) (addAll_nodup List.nodup_nil) fun z => by
    rw [names_keys hn hs, addAll_mem]
    exact ⟨.inr, fun h => h.elim (fun h => nomatch h) id⟩)
theorem selN_snoc (srt : Str) (p : Piece) (ns : List Nam) (n : Nam) : selN srt p (ns ++ [n]) = if n.sort = srt then selN srt p ns ++ [(n.name, spN p n)] else selN srt p ns := by
  unfold selN
  rw [List.filter_append, List.filter_cons]
  by_cases g : n.sort = srt
  · rw [decide_eq_true g, if_pos g, List.map_append]; rfl
  · rw [decide_eq_false g, if_neg g]
    show ((_ ++ []).map _) = _
    rw [List.append_nil]
theorem allN_sub (srt : Str) (ps : List Piece) (n : Nat) : (allN srt (ps.take n)).Sublist (allN srt ps) := by
  have e : allN srt ps = allN srt (ps.take n) ++ allN srt (ps.drop n) := by
    unfold allN
    rw [← List.flatMap_append, List.take_append_drop]
  rw [e]
  exact List.sublist_append_left _ _
theorem sortS_le {ks : List Str} {i j : Nat} {x y : Str} (hx : (sortS ks)[i]? = some x) (hy : (sortS ks)[j]? = some y) (h : i ≤ j) : leS x y := by
  rcases Nat.lt_or_eq_of_le h with h | h
  · obtain ⟨hi, rfl⟩ := List.getElem?_eq_some_iff.mp hx
    obtain ⟨hj, rfl⟩ := List.getElem?_eq_some_iff.mp hy
    exact List.pairwise_iff_getElem.mp (sorted_pw _ (sortS_sorted ks)) i j hi hj h
  · subst h
    rw [hx] at hy
    cases hy
    rw [leS_iff]; exact List.lt_irrefl _
theorem cutV_two (a b : Str) (l : List Str) : cutV ((a :: b :: l).map V.str) none (some 2) = [V.str a, V.str b] := by
  have h := cutV_mid (xs := (a :: b :: l).map V.str) 0 2 (by decide)
  have e : cutV ((a :: b :: l).map V.str) none (some 2) = cutV ((a :: b :: l).map V.str) (some ((0 : Nat) : Int)) (some ((2 : Nat) : Int)) := by
    unfold cutV
    have e1 : HT.sIx ((a :: b :: l).map V.str).length 0 none = 0 := rfl
    have e2 : HT.sIx ((a :: b :: l).map V.str).length 0 (some ((0 : Nat) : Int)) = 0 := by rw [HT.sIx_nat]; exact Nat.zero_min _
    rw [e1, e2]; rfl
  rw [e, h]; rfl
theorem GD.get {B F H : Hp} {m : Addr} {A : List Addr} {zs : List GDz} {xs : List (Str × PyData)} (g : GD B F H m A zs xs) {z : GDz} (hz : z ∈ zs) {n : Str} (e : z.1 = n) : DGet H m (.str n) (some (.ref z.2.1)) := by
  subst e
  have h1 := DGet.k (k := (Sum.inr z.1 : Key)) g.dict
  rw [gd_get hz g.keys] at h1
  exact h1
theorem cutV_from3 (ns : List Int) (hi : Option Int) : ∃ ms : List Int, cutV (ns.map V.int) (some 3) hi = ms.map V.int ∧ ms.length ≤ ns.length - 3 := by
  refine ⟨(ns.drop (HT.sIx (ns.map V.int).length 0 (some 3))).take (HT.sIx (ns.map V.int).length (ns.map V.int).length hi - HT.sIx (ns.map V.int).length 0 (some 3)), ?_, ?_⟩
  · rw [List.map_take, List.map_drop]; rfl
  · have e : HT.sIx (ns.map V.int).length 0 (some 3) = min 3 (ns.map V.int).length := HT.sIx_nat _ _ 3
    rw [e, List.length_take, List.length_drop, List.length_map]; omega
theorem Act.onto {B B' G H : Hp} {A : List Addr} (s : Same B B') (c : Act B' G H A) : Act B G H A := ⟨s.trans c.base, c.ext, c.free, c.nd⟩
theorem names_le : ∀ (ps : List Piece), (ps.flatMap (·.names)).length ≤ (ps.map wt).sum
  | [] => Nat.le_refl _
  | p :: ps => by
    have h1 := names_le ps
    have h3 : wt p = 1 + p.names.length + (p.stres.map wtS).sum := rfl
    rw [List.flatMap_cons, List.length_append, List.map_cons, List.sum_cons]
    omega
theorem Drawn.tw {nb tb : Int} {strict : Bool} {n : Nat} {ps : List Piece} (h : Drawn nb tb strict n ps) (hn : n ≤ 63) : Tw ps := by
  refine ⟨h.fine hn, fun p hp m hm => ?_, ?_, by have := h.len; omega⟩
  · obtain ⟨k, hk⟩ := List.getElem?_of_mem hp
    exact ((h.each k p hk).names m hm).sort
  · have h1 := names_le ps
    have h2 := h.wts
    cases ps with
    | nil => exact (by decide : (0 : Nat) < 64)
    | cons p ps =>
      have h3 : wt p = 1 + p.names.length + (p.stres.map wtS).sum := rfl
      have h4 := names_le ps
      rw [List.map_cons, List.sum_cons] at h2
      rw [List.flatMap_cons, List.length_append]
      omega
theorem flat_le' {α β : Type} (f : α → List β) {x : α} : ∀ {l : List α}, x ∈ l → (f x).length ≤ (l.flatMap f).length
  | [], h => nomatch h
  | y :: l, h => by
    rw [List.flatMap_cons, List.length_append]
    rcases List.mem_cons.mp h with rfl | h
    · omega
    · have := flat_le' f h
      omega
/-- a piece with one name -/
structure TwOne (p : Piece) : Prop where
  fine : Fine p
  sorts : ∀ m ∈ p.names, isSort m.sort
  one : p.names.length = 1
theorem tw_one {t z kind : Str} {st : Int} {ws : List Int} {j : Int} (ht : okS t) (hz : okS z) (hk : kind = "code" ∨ kind = "data") : TwOne ⟨t, [⟨kind, st, ws, []⟩], [⟨z, "tell", 0, j⟩]⟩ := by
  refine ⟨⟨⟨ht, fun s hs => ?_, fun m hm => ?_⟩, List.nodup_cons.mpr ⟨List.not_mem_nil, List.nodup_nil⟩, (by show 1 < 64; decide), (by show 1 < 64; decide), (by show 0 < 64; decide)⟩, fun m hm => ?_, rfl⟩
  · rw [List.mem_singleton.mp hs]
    exact ⟨kind_ok hk, fun _ h => nomatch h⟩
  · rw [List.mem_singleton.mp hm]
    exact ⟨hz, sort_ok (.inl rfl)⟩
  · rw [List.mem_singleton.mp hm]; exact .inl rfl
theorem Tw.more {ps : List Piece} {p q : Piece} (h : Tw ps) (hq : TwOne q) (hp : TwOne p) (ht : (ps.flatMap (·.names)).length ≤ 60) (hl : ps.length ≤ 12) : Tw (q :: (ps ++ [p])) := by
  have hm : ∀ x ∈ q :: (ps ++ [p]), x = q ∨ x ∈ ps ∨ x = p := fun x hx => by
    rcases List.mem_cons.mp hx with rfl | hx
    · exact .inl rfl
    · rcases List.mem_append.mp hx with hx | hx
      · exact .inr (.inl hx)
      · exact .inr (.inr (List.mem_singleton.mp hx))
  refine ⟨fun x hx => ?_, fun x hx => ?_, ?_, ?_⟩
  · rcases hm x hx with rfl | hx | rfl
    · exact hq.fine
    · exact h.fine x hx
    · exact hp.fine
  · rcases hm x hx with rfl | hx | rfl
    · exact hq.sorts
    · exact h.sorts x hx
    · exact hp.sorts
  · have h1 := hq.one
    have h2 := hp.one
    rw [List.flatMap_cons, List.flatMap_append, List.length_append, List.length_append]
    show q.names.length + (_ + (p.names ++ []).length) < 64
    rw [List.append_nil]
    omega
  · rw [List.length_cons, List.length_append, List.length_singleton]; omega
end Jl


local macro_rules | `(tactic| walk_at "c") => `(tactic| first
  | exact Jl.c_div (by decide) (by decide)
  | exact Jl.c_mulR (by decide) (by decide)
  | exact Jl.c_mulL (by decide) (by decide)
  | exact Jl.c_pow (by decide) (by decide) (by decide)
  | decide
  | omega
  | decide +kernel
  | assumption
  | exact Jl.c_div (by omega) (by omega)
  | exact Jl.c_mulR (by omega) (by omega)
  | exact Jl.c_mulL (by omega) (by omega))
local macro_rules | `(tactic| walk_at "len") => `(tactic| first
  | omega
  | decide
  | (simp only [Jl.len_app, Jl.len_one]; omega)
  | (refine Nat.le_trans (Jl.len_cut _ _ _) ?_; omega))
local macro_rules | `(tactic| walk_at "d") => `(tactic| first
  | (focus (with_reducible apply Jl.s_iteDt; (focus (first | assumption | with_reducible rfl | decide | exact decide_eq_true (by omega) | exact decide_eq_false (by omega) | omega))))
  | (focus (with_reducible apply Jl.s_iteDf; (focus (first | assumption | with_reducible rfl | decide | exact decide_eq_true (by omega) | exact decide_eq_false (by omega) | omega))))
  | (focus (with_reducible apply Jl.s_iteNt; (focus (first | assumption | with_reducible rfl | decide | exact decide_eq_true (by omega) | exact decide_eq_false (by omega) | omega))))
  | (focus (with_reducible apply Jl.s_iteNf; (focus (first | assumption | with_reducible rfl | decide | exact decide_eq_true (by omega) | exact decide_eq_false (by omega) | omega)))))
local macro_rules | `(tactic| walk_at "b") => `(tactic| first
  | with_reducible refine Jl.s_iteD (fun _ => ?_) (fun _ => ?_)
  | with_reducible refine Jl.s_iteN (fun _ => ?_) (fun _ => ?_))
local macro_rules | `(tactic| walk_at "s") => `(tactic| first
  | (focus (with_reducible apply Jl.s_var; (focus (with_unfolding_all rfl))))
  | with_reducible refine Jl.s_c ?_
  | with_reducible refine Jl.s_op ?_
  | with_reducible refine Jl.s_cons ?_
  | with_reducible refine Jl.s_nil ?_
  | with_reducible refine Jl.s_I0 ?_
  | (focus (with_reducible refine Jl.s_I ?_ ?_; (focus (walk_at "c"))))
  | with_reducible refine Jl.s_exbl ?_
  | with_reducible refine Jl.s_seq ?_
  | with_reducible refine Jl.s_asg ?_
  | (with_reducible refine Jl.s_name ?_; try simp only [List.set_cons_zero, List.set_cons_succ])
  | with_reducible refine Jl.s_ifS ?_
  | with_reducible refine Jl.s_test ?_
  | with_reducible refine Jl.s_tB ?_
  | with_reducible refine Jl.s_chain ?_
  | with_reducible refine Jl.s_and ?_
  | with_reducible refine Jl.s_or ?_
  | with_reducible refine Jl.s_not ?_
  | with_reducible refine Jl.s_iteT ?_
  | with_reducible refine Jl.s_iteF ?_
  | with_reducible refine Jl.s_iteNT ?_
  | with_reducible refine Jl.s_iteNF ?_
  | with_reducible refine Jl.s_ret ?_
  | with_reducible refine Jl.s_next ?_
  | with_reducible refine Jl.s_call ?_
  | with_reducible refine Jl.s_CB ?_
  | with_reducible refine Jl.s_eqI ?_
  | with_reducible refine Jl.s_neI ?_
  | with_reducible refine Jl.s_eqS ?_
  | with_reducible refine Jl.s_neS ?_
  | with_reducible refine Jl.s_eqB ?_
  | with_reducible refine Jl.s_neB ?_
  | with_reducible refine Jl.s_isB ?_
  | with_reducible refine Jl.s_notB ?_
  | with_reducible refine Jl.s_un ?_
  | with_reducible refine Jl.s_U ?_
  | with_reducible refine Jl.s_andV ?_
  | with_reducible refine Jl.s_orV ?_
  | with_reducible refine Jl.s_notV ?_
  | with_reducible refine Jl.s_ifE ?_
  | with_reducible refine Jl.s_drop ?_
  | with_reducible refine Jl.s_break ?_
  | with_reducible refine Jl.s_cont ?_
  | with_reducible refine Jl.s_isi_ii ?_
  | with_reducible refine Jl.s_isi_ib ?_
  | with_reducible refine Jl.s_isi_bb ?_
  | with_reducible refine Jl.s_isi_bi ?_
  | with_reducible refine Jl.s_isi_ss ?_
  | with_reducible refine Jl.s_BM ?_
  | (focus (with_reducible apply Jl.s_tyL; (focus (with_reducible assumption))))
  | (focus (with_reducible apply Jl.s_append; (focus (with_reducible assumption)); rotate_left; rotate_left))
  | with_reducible refine Jl.s_make ?_
  | (focus (with_reducible apply Jl.s_meth; (focus (first | assumption | exact Jl.RuleAt.same (by assumption) (by assumption))); (focus (exact (fun R z => Jl.s_var (by with_unfolding_all rfl) z))); (focus (decide +kernel))))
  | (focus (with_reducible refine Jl.s_addS ?_ ?_; rotate_left; (focus (walk_at "len"))))
  | with_reducible refine Jl.s_inS ?_
  | with_reducible refine Jl.s_notInS ?_
  | with_reducible refine Jl.s_isNn ?_
  | with_reducible refine Jl.s_isNi ?_
  | with_reducible refine Jl.s_isNs ?_
  | with_reducible refine Jl.s_isNr ?_
  | with_reducible refine Jl.s_notNn ?_
  | with_reducible refine Jl.s_notNi ?_
  | with_reducible refine Jl.s_notNs ?_
  | with_reducible refine Jl.s_notNr ?_
  | (focus (with_reducible refine Jl.s_lenS ?_ ?_; rotate_left; (focus (walk_at "len"))))
  | (focus (with_reducible apply Jl.s_lenL; (focus (with_reducible assumption))))
  | with_reducible refine Jl.s_max2 ?_
  | with_reducible refine Jl.s_min2 ?_
  | with_reducible refine Jl.s_int1 ?_
  | with_reducible refine Jl.s_int1b ?_
  | with_reducible refine Jl.s_sl ?_
  | with_reducible refine Jl.s_noP ?_
  | with_reducible refine Jl.s_part ?_
  | with_reducible refine Jl.s_exi ?_
  | (focus (with_reducible refine Jl.s_slS ?_ ?_; rotate_left; (focus (walk_at "len"))))
  | (focus (with_reducible apply Jl.s_gTupA; (focus (with_reducible assumption)); (focus (with_unfolding_all rfl))))
  | with_reducible refine Jl.s_gCons ?_
  | with_reducible refine Jl.s_gNil ?_
  | with_reducible refine Jl.s_gSub ?_
  | with_reducible refine Jl.s_tPc ?_
  | with_reducible refine Jl.s_tPn ?_
  | with_reducible refine Jl.s_callS ?_
  | with_reducible refine Jl.s_tup ?_
  | with_reducible refine Jl.s_lst ?_
  | with_reducible refine Jl.s_BM0 ?_
  | with_reducible refine Jl.s_yes ?_
  | (focus (with_reducible apply Jl.s_clear; (focus (with_reducible assumption))))
  | (focus (with_reducible apply Jl.s_dclear; (focus (with_reducible assumption)))))
local macro_rules | `(tactic| walk_at "same") => `(tactic| first
  | exact L2.Same.refl _
  | assumption
  | (refine L2.Same.trans ?_ (by assumption); walk_at "same"))
local macro_rules | `(tactic| walk_at "w") => `(tactic| repeat walk_at "s")
local macro_rules | `(tactic| walk_at "wd") => `(tactic| repeat (first | walk_at "s" | walk_at "d"))
local macro_rules | `(tactic| walk_at "all") => `(tactic| repeat' (first | walk_at "s" | walk_at "d" | walk_at "b"))
namespace Jw
open PySem L2
def top (i : Nat) : Stmt := PySem.Challenge.pw_joinload_k17_told_twice.main.body.getD i (.Pass ⟨0, 0, 0, 0⟩)
abbrev s_Twice___init__ : Stmt := inClass (top 4) 0
abbrev N_Twice___init__ : List Str := ["self", "name", "one", "other"]
theorem sc_Twice___init__ : FnScope N_Twice___init__ ["self", "name", "one", "other"] (defScope s_Twice___init__) := ⟨rfl, rfl, rfl, by decide +kernel, rfl, by decide +kernel, by decide +kernel⟩
abbrev s_by_title : Stmt := top 13
abbrev N_by_title : List Str := ["pieces"]
theorem sc_by_title : FnScope N_by_title ["pieces"] (defScope s_by_title) := ⟨rfl, rfl, rfl, by decide +kernel, rfl, by decide +kernel, by decide +kernel⟩
abbrev s_names_of : Stmt := top 14
abbrev N_names_of : List Str := ["pieces", "strong", "weak", "more", "piece", "name", "sort", "stretch", "offset", "spot"]
theorem sc_names_of : FnScope N_names_of ["pieces"] (defScope s_names_of) := ⟨rfl, rfl, rfl, by decide +kernel, rfl, by decide +kernel, by decide +kernel⟩
abbrev s_law_cell_at : Stmt := top 16
abbrev N_law_cell_at : List Str := ["_law_script", "_law_k"]
theorem sc_law_cell_at : FnScope N_law_cell_at ["_law_script", "_law_k"] (defScope s_law_cell_at) := ⟨rfl, rfl, rfl, by decide +kernel, rfl, by decide +kernel, by decide +kernel⟩
abbrev s_law_name_by : Stmt := top 17
abbrev N_law_name_by : List Str := ["_law_cell", "_law_k", "_law_signs", "_law_size", "_law_at", "_law_name", "_law_j", "_law_many", "_law_place"]
theorem sc_law_name_by : FnScope N_law_name_by ["_law_cell", "_law_k"] (defScope s_law_name_by) := ⟨rfl, rfl, rfl, by decide +kernel, rfl, by decide +kernel, by decide +kernel⟩
abbrev s_law_word_row : Stmt := top 18
abbrev N_law_word_row : List Str := ["_law_cell", "_law_names_by", "_law_what", "_law_rest", "_law_soft", "_law_add", "_law_rule"]
theorem sc_law_word_row : FnScope N_law_word_row ["_law_cell", "_law_names_by"] (defScope s_law_word_row) := ⟨rfl, rfl, rfl, by decide +kernel, rfl, by decide +kernel, by decide +kernel⟩
abbrev s_law_told_by : Stmt := top 19
abbrev N_law_told_by : List Str := ["_law_pieces", "_law_cell", "_law_names_by", "_law_strict", "_law_piece", "_law_name", "_law_sort", "_law_other", "_law_row"]
theorem sc_law_told_by : FnScope N_law_told_by ["_law_pieces", "_law_cell", "_law_names_by", "_law_strict"] (defScope s_law_told_by) := ⟨rfl, rfl, rfl, by decide +kernel, rfl, by decide +kernel, by decide +kernel⟩
abbrev s_law_drawn : Stmt := top 20
abbrev N_law_drawn : List Str := ["_law_cells", "_law_names_by", "_law_titles_by", "_law_strict", "_law_pieces", "_law_cell", "_law_what", "_law_step", "_law_stretch", "_law_more"]
theorem sc_law_drawn : FnScope N_law_drawn ["_law_cells", "_law_names_by", "_law_titles_by", "_law_strict"] (defScope s_law_drawn) := ⟨rfl, rfl, rfl, by decide +kernel, rfl, by decide +kernel, by decide +kernel⟩
abbrev s_law_copy : Stmt := top 21
abbrev N_law_copy : List Str := ["_law_piece", "_law_stretches", "_law_row"]
theorem sc_law_copy : FnScope N_law_copy ["_law_piece"] (defScope s_law_copy) := ⟨rfl, rfl, rfl, by decide +kernel, rfl, by decide +kernel, by decide +kernel⟩
abbrev s_law_texts : Stmt := top 22
abbrev N_law_texts : List Str := ["_law_found", "_law_due_here", "_law_k"]
theorem sc_law_texts : FnScope N_law_texts ["_law_found", "_law_due_here"] (defScope s_law_texts) := ⟨rfl, rfl, rfl, by decide +kernel, rfl, by decide +kernel, by decide +kernel⟩
abbrev s_law_due : Stmt := top 23
abbrev N_law_due : List Str := ["_law_pieces", "_law_strong", "_law_title", "_law_stretches", "_law_told", "_law_row", "_law_name"]
theorem sc_law_due : FnScope N_law_due ["_law_pieces"] (defScope s_law_due) := ⟨rfl, rfl, rfl, by decide +kernel, rfl, by decide +kernel, by decide +kernel⟩
abbrev s_law_weaker : Stmt := top 24
abbrev N_law_weaker : List Str := ["_law_pieces", "_law_there", "_law_some", "_law_title", "_law_stretches", "_law_told", "_law_rows", "_law_name", "_law_sort", "_law_stretch", "_law_offset"]
theorem sc_law_weaker : FnScope N_law_weaker ["_law_pieces"] (defScope s_law_weaker) := ⟨rfl, rfl, rfl, by decide +kernel, rfl, by decide +kernel, by decide +kernel⟩
abbrev s_law_alone : Stmt := top 25
abbrev N_law_alone : List Str := ["_law_kept", "_law_some"]
theorem sc_law_alone : FnScope N_law_alone ["_law_kept"] (defScope s_law_alone) := ⟨rfl, rfl, rfl, by decide +kernel, rfl, by decide +kernel, by decide +kernel⟩
abbrev s_law_answer : Stmt := top 26
abbrev N_law_answer : List Str := ["_law_pieces", "_law_kept", "_law_answer_here", "refusal"]
theorem sc_law_answer : FnScope N_law_answer ["_law_pieces"] (defScope s_law_answer) := ⟨rfl, rfl, rfl, by decide +kernel, rfl, by decide +kernel, by decide +kernel⟩
abbrev s_law_told_all : Stmt := top 27
abbrev N_law_told_all : List Str := ["_law_answer_here", "_law_pieces", "_law_some", "_law_title", "_law_stretches", "_law_told", "_law_row"]
theorem sc_law_told_all : FnScope N_law_told_all ["_law_answer_here", "_law_pieces"] (defScope s_law_told_all) := ⟨rfl, rfl, rfl, by decide +kernel, rfl, by decide +kernel, by decide +kernel⟩
abbrev s_law_holds : Stmt := top 28
abbrev N_law_holds : List Str := ["_law_pieces", "_law_handed", "_law_due_here", "_law_answer_here", "_law_refused", "_law_piece"]
theorem sc_law_holds : FnScope N_law_holds ["_law_pieces"] (defScope s_law_holds) := ⟨rfl, rfl, rfl, by decide +kernel, rfl, by decide +kernel, by decide +kernel⟩
abbrev s_law : Stmt := top 29
abbrev N_law : List Str := ["_law_script", "_law_names_by", "_law_titles_by", "_law_pieces", "_law_more", "_law_name"]
theorem sc_law : FnScope N_law ["_law_script"] (defScope s_law) := ⟨rfl, rfl, rfl, by decide +kernel, rfl, by decide +kernel, by decide +kernel⟩
structure Txt (K : PySem.W.Frag) (mg : Str → Option Value) where
  a_Twice___init__ : Addr
  d_Twice___init__ : FuncData
  F_Twice___init__ : Fun K "__init__" "Twice.__init__" s_Twice___init__ a_Twice___init__ d_Twice___init__
  b_Twice___init__ : Binds K d_Twice___init__ ["self", "name", "one", "other"] []
  a_by_title : Addr
  d_by_title : FuncData
  F_by_title : Fun K "by_title" "by_title" s_by_title a_by_title d_by_title
  b_by_title : Binds K d_by_title ["pieces"] []
  m_by_title : mg "by_title" = some (.ref a_by_title)
  a_names_of : Addr
  d_names_of : FuncData
  F_names_of : Fun K "names_of" "names_of" s_names_of a_names_of d_names_of
  b_names_of : Binds K d_names_of ["pieces"] []
  m_names_of : mg "names_of" = some (.ref a_names_of)
  a_law_cell_at : Addr
  d_law_cell_at : FuncData
  F_law_cell_at : Fun K "_law_cell_at" "_law_cell_at" s_law_cell_at a_law_cell_at d_law_cell_at
  b_law_cell_at : Binds K d_law_cell_at ["_law_script", "_law_k"] []
  m_law_cell_at : mg "_law_cell_at" = some (.ref a_law_cell_at)
  a_law_name_by : Addr
  d_law_name_by : FuncData
  F_law_name_by : Fun K "_law_name_by" "_law_name_by" s_law_name_by a_law_name_by d_law_name_by
  b_law_name_by : Binds K d_law_name_by ["_law_cell", "_law_k"] []
  m_law_name_by : mg "_law_name_by" = some (.ref a_law_name_by)
  a_law_word_row : Addr
  d_law_word_row : FuncData
  F_law_word_row : Fun K "_law_word_row" "_law_word_row" s_law_word_row a_law_word_row d_law_word_row
  b_law_word_row : Binds K d_law_word_row ["_law_cell", "_law_names_by"] []
  m_law_word_row : mg "_law_word_row" = some (.ref a_law_word_row)
  a_law_told_by : Addr
  d_law_told_by : FuncData
  F_law_told_by : Fun K "_law_told_by" "_law_told_by" s_law_told_by a_law_told_by d_law_told_by
  b_law_told_by : Binds K d_law_told_by ["_law_pieces", "_law_cell", "_law_names_by", "_law_strict"] []
  m_law_told_by : mg "_law_told_by" = some (.ref a_law_told_by)
  a_law_drawn : Addr
  d_law_drawn : FuncData
  F_law_drawn : Fun K "_law_drawn" "_law_drawn" s_law_drawn a_law_drawn d_law_drawn
  b_law_drawn : Binds K d_law_drawn ["_law_cells", "_law_names_by", "_law_titles_by", "_law_strict"] []
  m_law_drawn : mg "_law_drawn" = some (.ref a_law_drawn)
  a_law_copy : Addr
  d_law_copy : FuncData
  F_law_copy : Fun K "_law_copy" "_law_copy" s_law_copy a_law_copy d_law_copy
  b_law_copy : Binds K d_law_copy ["_law_piece"] []
  m_law_copy : mg "_law_copy" = some (.ref a_law_copy)
  a_law_texts : Addr
  d_law_texts : FuncData
  F_law_texts : Fun K "_law_texts" "_law_texts" s_law_texts a_law_texts d_law_texts
  b_law_texts : Binds K d_law_texts ["_law_found", "_law_due_here"] []
  m_law_texts : mg "_law_texts" = some (.ref a_law_texts)
  a_law_due : Addr
  d_law_due : FuncData
  F_law_due : Fun K "_law_due" "_law_due" s_law_due a_law_due d_law_due
  b_law_due : Binds K d_law_due ["_law_pieces"] []
  m_law_due : mg "_law_due" = some (.ref a_law_due)
  a_law_weaker : Addr
  d_law_weaker : FuncData
  F_law_weaker : Fun K "_law_weaker" "_law_weaker" s_law_weaker a_law_weaker d_law_weaker
  b_law_weaker : Binds K d_law_weaker ["_law_pieces"] []
  m_law_weaker : mg "_law_weaker" = some (.ref a_law_weaker)
  a_law_alone : Addr
  d_law_alone : FuncData
  F_law_alone : Fun K "_law_alone" "_law_alone" s_law_alone a_law_alone d_law_alone
  b_law_alone : Binds K d_law_alone ["_law_kept"] []
  m_law_alone : mg "_law_alone" = some (.ref a_law_alone)
  a_law_answer : Addr
  d_law_answer : FuncData
  F_law_answer : Fun K "_law_answer" "_law_answer" s_law_answer a_law_answer d_law_answer
  b_law_answer : Binds K d_law_answer ["_law_pieces"] []
  m_law_answer : mg "_law_answer" = some (.ref a_law_answer)
  a_law_told_all : Addr
  d_law_told_all : FuncData
  F_law_told_all : Fun K "_law_told_all" "_law_told_all" s_law_told_all a_law_told_all d_law_told_all
  b_law_told_all : Binds K d_law_told_all ["_law_answer_here", "_law_pieces"] []
  m_law_told_all : mg "_law_told_all" = some (.ref a_law_told_all)
  a_law_holds : Addr
  d_law_holds : FuncData
  F_law_holds : Fun K "_law_holds" "_law_holds" s_law_holds a_law_holds d_law_holds
  b_law_holds : Binds K d_law_holds ["_law_pieces"] []
  m_law_holds : mg "_law_holds" = some (.ref a_law_holds)
  a_law : Addr
  d_law : FuncData
  F_law : Fun K "law" "law" s_law a_law d_law
  b_law : Binds K d_law ["_law_script"] []
  m_law : mg "law" = some (.ref a_law)
  c_by_title : Addr
  P_by_title : Addr
  cd_by_title : d_by_title.code = .ref c_by_title
  a_JoinError : Addr
  g_JoinError : mg "JoinError" = some (.ref a_JoinError)
  a_NoRule : Addr
  g_NoRule : mg "NoRule" = some (.ref a_NoRule)
  a_NoPiece : Addr
  g_NoPiece : mg "NoPiece" = some (.ref a_NoPiece)
  a_Twice : Addr
  g_Twice : mg "Twice" = some (.ref a_Twice)
  a_SameName : Addr
  g_SameName : mg "SameName" = some (.ref a_SameName)
  a_Unmet : Addr
  g_Unmet : mg "Unmet" = some (.ref a_Unmet)
  a_TooFar : Addr
  g_TooFar : mg "TooFar" = some (.ref a_TooFar)
  a_NoWhole : Addr
  g_NoWhole : mg "NoWhole" = some (.ref a_NoWhole)
  a_NoBase : Addr
  g_NoBase : mg "NoBase" = some (.ref a_NoBase)
  a_Lost : Addr
  g_Lost : mg "Lost" = some (.ref a_Lost)
  a_NoSense : Addr
  g_NoSense : mg "NoSense" = some (.ref a_NoSense)
  be_Twice : PySem.W.subIn K (.ref a_Twice) (.type "BaseException") = some true
  ty_Twice : PySem.W.typeIn K (.ref a_Twice) = some (.type "type")
  kc_Twice : PySem.W.keepIn K (.ref a_Twice) = true
  ec_Twice : L2.ExcC K a_Twice
  ve_Twice : PySem.W.kitOne K (.ref a_Twice) (.type "ValueError") = some true
  o_Twice : L2.OexC K a_Twice
  i_Twice : PySem.W.findIn K (.ref a_Twice) "__init__" = some (some (.ref a_Twice___init__))
  t_Twice : PySem.W.typeIn K (.ref a_Twice___init__) = some (.type "function")
  xf_Twice : L2.XfC K a_Twice
  no_Twice_name : PySem.W.findIn K (.ref a_Twice) "name" = some none
  no_Twice_one : PySem.W.findIn K (.ref a_Twice) "one" = some none
  no_Twice_other : PySem.W.findIn K (.ref a_Twice) "other" = some none
  kit_Twice_JoinError : PySem.W.kitOne K (.ref a_Twice) (.ref a_JoinError) = some true
  kit_Twice_NoRule : PySem.W.kitOne K (.ref a_Twice) (.ref a_NoRule) = some false
  kit_Twice_NoPiece : PySem.W.kitOne K (.ref a_Twice) (.ref a_NoPiece) = some false
  kit_Twice_Twice : PySem.W.kitOne K (.ref a_Twice) (.ref a_Twice) = some true
  kit_Twice_SameName : PySem.W.kitOne K (.ref a_Twice) (.ref a_SameName) = some false
  kit_Twice_Unmet : PySem.W.kitOne K (.ref a_Twice) (.ref a_Unmet) = some false
  kit_Twice_TooFar : PySem.W.kitOne K (.ref a_Twice) (.ref a_TooFar) = some false
  kit_Twice_NoWhole : PySem.W.kitOne K (.ref a_Twice) (.ref a_NoWhole) = some false
  kit_Twice_NoBase : PySem.W.kitOne K (.ref a_Twice) (.ref a_NoBase) = some false
  kit_Twice_Lost : PySem.W.kitOne K (.ref a_Twice) (.ref a_Lost) = some false
  kit_Twice_NoSense : PySem.W.kitOne K (.ref a_Twice) (.ref a_NoSense) = some false
  exm_Twice : PySem.W.exmOne K (.ref a_Twice) (.ref a_JoinError) = some true
  n_ValueError : mg "ValueError" = none
  n_dict : mg "dict" = none
  n_int : mg "int" = none
  n_isinstance : mg "isinstance" = none
  n_len : mg "len" = none
  n_list : mg "list" = none
  n_range : mg "range" = none
  n_sorted : mg "sorted" = none
  n_str : mg "str" = none
section
variable {P : Program} {w : World} {K : PySem.W.Frag} {mg : Str → Option Value} {base : Heap}
/-! ### Twice.__init__ -/
def sp_Twice___init__ (T : Txt K mg) : Sp := fun vs H Q _ => ∃ (a : Addr) (v w x : V), vs = [.ref a, v, w, x] ∧ H a = some (L2.exo a T.a_Twice none) ∧ ∀ dx H2, H dx = none → dx ≠ a → (∀ b, b ≠ a → b ≠ dx → H2 b = H b) → H2 a = some (L2.exo a T.a_Twice (some dx)) → H2 dx = some (L2.exd dx [("other", x), ("one", w), ("name", v)]) → Q .non H2
theorem ok_Twice___init__ (T : Txt K mg) (B : LamX.TabB base mg T.c_by_title T.P_by_title) : FnOk P w K mg base CX0 1 T.a_Twice___init__ T.d_Twice___init__ ["self", "name", "one", "other"] (sp_Twice___init__ T) := by
  refine T.F_Twice___init__.ok sc_Twice___init__ (fun vs H Q E h => ?_) (fun cdv A outer s H vs Q E hr h => ?_)
  · obtain ⟨a, v, w, x, rfl, h, k⟩ := h
    rfl
  · obtain ⟨a, v, w, x, rfl, h, k⟩ := h
    have hu := hu_of hr
    refine ⟨_, (pss_cons (ps_ost (pv 0) (pv 1))
      (pss_cons (ps_ost (pv 0) (pv 2))
      (pss_one (ps_ost (pv 0) (pv 3))))), ?_⟩
    show (_ : TS) _ [some (.ref a), some (v), some (w), some (x)] H
    walk_at "w"
    refine Jl.s_ost (fun R z => Jl.s_var (by with_unfolding_all rfl) z) (fun R z => Jl.s_var (by with_unfolding_all rfl) z) T.o_Twice T.no_Twice_name h (fun dx nd ne => ?_)
    have h1 : (upd (upd H dx (L2.exd dx [("name", v)])) a (L2.exo a T.a_Twice (some dx))) dx = some (L2.exd dx [("name", v)]) := by rw [upd_ne ne, upd_same]
    refine Jl.s_ostM (fun R z => Jl.s_var (by with_unfolding_all rfl) z) (fun R z => Jl.s_var (by with_unfolding_all rfl) z) T.o_Twice T.no_Twice_one upd_same h1 (by show 1 ≤ 900; decide) ?_
    walk_at "w"
    refine Jl.s_ostM (fun R z => Jl.s_var (by with_unfolding_all rfl) z) (fun R z => Jl.s_var (by with_unfolding_all rfl) z) T.o_Twice T.no_Twice_other (by rw [upd_ne ne.symm]; exact upd_same) upd_same (by show 2 ≤ 900; decide) ?_
    walk_at "w"
    refine k dx _ nd ne (fun b h2 h3 => ?_) ?_ upd_same
    · rw [upd_ne h3, upd_ne h3, upd_ne h2, upd_ne h3]
    · rw [upd_ne ne.symm, upd_ne ne.symm, upd_same]
/-! ### by_title -/
theorem lam_ok : Jl.LamF (Jl.lamP (Jl.lamE s_by_title)) (Jl.lamS (Jl.lamE s_by_title)) (Jl.lamB (Jl.lamE s_by_title)) "piece" := ⟨fun _ _ _ _ _ => rfl, rfl, rfl, rfl, rfl, by decide +kernel, by decide +kernel, ⟨_, _, _, _, rfl⟩⟩
def sp_by_title (T : Txt K mg) : Sp := fun vs H Q _ => ∃ (a : Addr) (bs : List (V × Str)), vs = [.ref a] ∧ SqL K H a (bs.map (·.1)) ∧ (∀ b ∈ bs, ∃ t r, b.1 = .ref t ∧ SqT K H t (.str b.2 :: r)) ∧ LamX.TabS H T.P_by_title Jl.lamQ ∧ ∀ H' p, Jl.Keep1 T.P_by_title H H' → LamX.TabS H' T.P_by_title Jl.lamQ → H p = none → H' p = some (.lst ((bs.mergeSort Jl.leTx).map (·.1))) → Q (.ref p) H'
theorem use_by_title {T : Txt K mg} {a : Addr} {bs : List (V × Str)} {H : Hp} {Q : VK} {E : XK} (ha : SqL K H a (bs.map (·.1))) (hx : ∀ b ∈ bs, ∃ t r, b.1 = .ref t ∧ SqT K H t (.str b.2 :: r)) (hT : LamX.TabS H T.P_by_title Jl.lamQ) (z : ∀ H' p, Jl.Keep1 T.P_by_title H H' → LamX.TabS H' T.P_by_title Jl.lamQ → H p = none → H' p = some (.lst ((bs.mergeSort Jl.leTx).map (·.1))) → Q (.ref p) H') : sp_by_title T [.ref a] H Q E := ⟨a, bs, rfl, ha, hx, hT, z⟩
theorem ok_by_title (T : Txt K mg) (B : LamX.TabB base mg T.c_by_title T.P_by_title) : FnOk P w K mg base CX0 2 T.a_by_title T.d_by_title ["pieces"] (sp_by_title T) := by
  refine Jl.fun_okC T.F_by_title T.cd_by_title sc_by_title (fun vs H Q E h => ?_) (fun A outer s H vs Q E hr h => ?_)
  · obtain ⟨a, bs, rfl, ha, hx, hT, k⟩ := h
    rfl
  · obtain ⟨a, bs, rfl, ha, hx, hT, k⟩ := h
    have hu := hu_of hr
    refine ⟨_, (pss_one (ps_ret (pe_callBK (Jl.cr_sortLam (q := Jl.lamQ) (hr.mono (by decide)) lam_ok) (by rfl) T.n_sorted (by decide +kernel) (pa_cons (pv 0) pa_nil) (pk_cons (Jl.pe_lam B rfl rfl rfl) pk_nil)))), ?_⟩
    show (_ : TS) _ [some (.ref a)] H
    walk_at "w"
    refine Jl.s_CK ?_
    walk_at "w"
    refine ⟨hT, fun f c' H1 k1 t1 hf hc => ?_⟩
    walk_at "w"
    refine ⟨a, f, c', bs, rfl, rfl, hf, hc, k1.seq hT ha, fun b hb => ?_, fun p np => ?_⟩
    · obtain ⟨t, r, e, ht⟩ := hx b hb
      exact ⟨t, r, e, k1.tup hT ht⟩
    have s1 := Jl.same_upd (o := .lst ((bs.mergeSort Jl.leTx).map (·.1))) np
    have np0 : H p = none := by
      cases e : H p with
      | none => rfl
      | some u =>
        by_cases q : p = T.P_by_title
        · obtain ⟨ps, h1, -⟩ := t1
          rw [q, h1] at np; cases np
        · have := k1 p u q e
          rw [np] at this; cases this
    exact k _ p (k1.trans (Jl.Keep1.of s1)) (t1.ext s1) np0 upd_same
/-! ### names_of -/
def sp_names_of (T : Txt K mg) : Sp := fun vs H Q E => ∃ (a : Addr) (xs : List V) (ps : List Jl.Piece) (G : Hp), vs = [.ref a] ∧ SqL K G a xs ∧ DpAll K G xs (ps.map Jl.pieceD) ∧ (∀ p ∈ ps, p.names.length < 64) ∧ ps.length ≤ 1000 ∧ Jl.Act G G H [T.P_by_title] ∧ LamX.TabS H T.P_by_title Jl.lamQ ∧ (Jl.foldS (Jl.sortP ps)).m.length < 64 ∧ ((∀ z, ¬ 2 ≤ (Jl.twT ps z).length) → ∀ G' H' m, Jl.Act G G' H' [m, T.P_by_title] → LamX.TabS H' T.P_by_title Jl.lamQ → Jl.SD K G' H' m (Jl.namesL ps) → Q (.ref m) H') ∧ ∀ z t0 t1 r, Jl.LTw ps z → Jl.twT ps z = t0 :: t1 :: r → ∀ G' H' d, Jl.Act G G' H' [T.P_by_title] → LamX.TabS H' T.P_by_title Jl.lamQ → G' d = some (.xd [("other", .str t1), ("one", .str t0), ("name", .str z)]) → E (.ref T.a_Twice) (some d) H'
theorem use_names_of {T : Txt K mg} {a : Addr} {xs : List V} {ps : List Jl.Piece} {G H : Hp} {Q : VK} {E : XK} (ha : SqL K G a xs) (hda : DpAll K G xs (ps.map Jl.pieceD)) (hnl : ∀ p ∈ ps, p.names.length < 64) (hpl : ps.length ≤ 1000) (c : Jl.Act G G H [T.P_by_title]) (hT : LamX.TabS H T.P_by_title Jl.lamQ) (hm : (Jl.foldS (Jl.sortP ps)).m.length < 64) (z1 : (∀ z, ¬ 2 ≤ (Jl.twT ps z).length) → ∀ G' H' m, Jl.Act G G' H' [m, T.P_by_title] → LamX.TabS H' T.P_by_title Jl.lamQ → Jl.SD K G' H' m (Jl.namesL ps) → Q (.ref m) H') (z2 : ∀ z t0 t1 r, Jl.LTw ps z → Jl.twT ps z = t0 :: t1 :: r → ∀ G' H' d, Jl.Act G G' H' [T.P_by_title] → LamX.TabS H' T.P_by_title Jl.lamQ → G' d = some (.xd [("other", .str t1), ("one", .str t0), ("name", .str z)]) → E (.ref T.a_Twice) (some d) H') : sp_names_of T [.ref a] H Q E := ⟨a, xs, ps, G, rfl, ha, hda, hnl, hpl, c, hT, hm, z1, z2⟩
theorem ok_names_of (T : Txt K mg) (B : LamX.TabB base mg T.c_by_title T.P_by_title) : FnOk P w K mg base (L2.CX P w) 3 T.a_names_of T.d_names_of ["pieces"] (sp_names_of T) := by
  have G_Twice___init__ := ok_Twice___init__ (P := P) (w := w) (base := base) T B
  have G_by_title := ok_by_title (P := P) (w := w) (base := base) T B
  refine T.F_names_of.okX sc_names_of (fun vs H Q E h => ?_) (fun cdv A outer s H vs Q E hr h => ?_)
  · obtain ⟨a, xs, ps, G, rfl, ha, hda, hnl, hpl, c, hT, hm, k1, k2⟩ := h
    rfl
  · obtain ⟨a, xs, ps, G, rfl, ha, hda, hnl, hpl, c, hT, hm, k1, k2⟩ := h
    have hu := hu_of hr
    refine ⟨_, (pss_cons (ps_set (i := 1) sc_names_of.nd rfl (Or.inl rfl) pe_dnewK)
      (pss_cons (ps_set (i := 2) sc_names_of.nd rfl (Or.inl rfl) pe_dnewK)
      (pss_cons (ps_set (i := 3) sc_names_of.nd rfl (Or.inl rfl) pe_dnewK)
      (pss_cons (ps_for (passes_of rfl) rfl (pi_list (pe_call (G_by_title) (hr.mono (by decide)) rfl T.m_by_title T.F_by_title.kp T.b_by_title .nil pass0 (pa_cons (pv 0) pa_nil))) (pg_name (i := 4) sc_names_of.nd rfl (Or.inl rfl)) (pss_one (ps_for (passes_of rfl) rfl (pi_list (pe_ix (r := rIxT K) ix_tup (pv 4) pe_int (fun _ _ => rfl))) (pg_tup rfl (pgs_cons (pg_name (i := 5) sc_names_of.nd rfl (Or.inl rfl)) (pgs_cons (pg_name (i := 6) sc_names_of.nd rfl (Or.inl rfl)) (pgs_cons (pg_name (i := 7) sc_names_of.nd rfl (Or.inl rfl)) (pgs_cons (pg_name (i := 8) sc_names_of.nd rfl (Or.inl rfl)) pgs_nil))))) (pss_cons (ps_set (i := 9) sc_names_of.nd rfl (Or.inl rfl) (pe_tup (pa_cons (pe_ix (r := rIxT K) ix_tup (pv 4) pe_int (fun _ _ => rfl)) (pa_cons (pv 7) (pa_cons (pv 8) pa_nil)))))
      (pss_cons (ps_if (pt_cmpR op_eq (pv 6) pe_str (nomark _)) (pss_one (ps_expr (pe_dsetd (pv 2) (pv 5) (pv 9) ⟨rfl, rfl, rfl, rfl⟩))) pss_nil)
      (pss_cons (ps_if (PW.pt (pw_and (pt_cmpR op_eq (pv 6) pe_str (nomark _)) (pw_and1 (pt_cmp (pc_din hu (pv 5) (pv 1)))))) (pss_one (ps_expr (pe_dsetd (pv 3) (pv 5) (pe_ix (r := rIxT K) ix_tup (pv 4) pe_int (fun _ _ => rfl)) ⟨rfl, rfl, rfl, rfl⟩))) pss_nil)
      (pss_one (ps_if (pt_cmpR op_eq (pv 6) pe_str (nomark _)) (pss_one (ps_expr (pe_dsetd (pv 1) (pv 5) (pv 9) ⟨rfl, rfl, rfl, rfl⟩))) pss_nil))))))))
      (pss_cons (ps_for (passes_of rfl) rfl (pi_list (pe_callB (Jl.cl_sortedD rfl) (by rfl) T.n_sorted (by decide +kernel) (pa_cons (pv 3) pa_nil))) (pg_name (i := 5) sc_names_of.nd rfl (Or.inl rfl)) (pss_one (ps_raise rfl (takes_of rfl rfl rfl rfl) (pmk_oex T.o_Twice T.i_Twice T.t_Twice G_Twice___init__ (hr.mono (by decide)) T.b_Twice___init__ .nil pass0 rfl T.g_Twice (pa_cons (pv 5) (pa_cons (pe_ix (r := rIxT K) ix_tup (pe_dget hu (pv 1) (pv 5) (fun _ _ => rfl)) pe_int (fun _ _ => rfl)) (pa_cons (pe_dget hu (pv 3) (pv 5) (fun _ _ => rfl)) pa_nil)))))))
      (pss_cons (ps_expr (pe_bm PySem.F.plainAttrs_dict PySem.F.slot_dict_update PySem.F.type_dict_update Jl.mt_updD (pv 2) (pa_cons (pv 1) pa_nil)))
      (pss_one (ps_ret (pv 2))))))))), ?_⟩
    show (_ : TS) _ [some (.ref a), none, none, none, none, none, none, none, none, none] H
    obtain ⟨bs, eb, hbx, hsd⟩ := Jl.by_title_vals hda
    generalize hxs' : (bs.mergeSort Jl.leTx).map (·.1) = xs' at *
    have hsl := Jl.da_length hsd
    have hql : (Jl.sortP ps).length = ps.length := (Jl.sortP_perm ps).length_eq
    have hqn : ∀ p ∈ Jl.sortP ps, p.names.length < 64 := fun p hp => hnl p ((Jl.sortP_perm ps).mem_iff.mp hp)
    walk_at "w"
    refine fun m1 nm1 => ?_
    have c1 := c.newA (o := .dK []) nm1
    have t1 := hT.ext (Jl.same_upd (o := .dK []) nm1)
    walk_at "w"
    refine fun m2 nm2 => ?_
    have c2 := c1.newA (o := .dK []) nm2
    have t2 := t1.ext (Jl.same_upd (o := .dK []) nm2)
    walk_at "w"
    refine fun m3 nm3 => ?_
    have c3 := c2.newA (o := .dK []) nm3
    have t3 := t2.ext (Jl.same_upd (o := .dK []) nm3)
    have d1 : (upd (upd (upd H m1 (.dK [])) m2 (.dK [])) m3 (.dK [])) m1 = some (.dK []) := Jl.same_upd nm3 _ _ (Jl.same_upd nm2 _ _ upd_same)
    have d2 : (upd (upd (upd H m1 (.dK [])) m2 (.dK [])) m3 (.dK [])) m2 = some (.dK []) := Jl.same_upd nm3 _ _ upd_same
    have d3 : (upd (upd (upd H m1 (.dK [])) m2 (.dK [])) m3 (.dK [])) m3 = some (.dK []) := upd_same
    generalize upd (upd (upd H m1 (.dK [])) m2 (.dK [])) m3 (.dK []) = H3 at *
    walk_at "w"
    have nd := c3.nd
    have n32 : m3 ≠ m2 := by intro e; subst e; simp at nd
    have n31 : m3 ≠ m1 := by intro e; subst e; simp at nd
    have n21 : m2 ≠ m1 := by intro e; subst e; simp at nd
    have n3P : m3 ≠ T.P_by_title := by intro e; rw [e] at nd; simp at nd
    have n2P : m2 ≠ T.P_by_title := by intro e; rw [e] at nd; simp at nd
    have n1P : m1 ≠ T.P_by_title := by intro e; rw [e] at nd; simp at nd
    refine Jl.s_seq (Jl.s_forM (xs := xs') (fun pl H' => ∃ G1, Jl.Act G G1 H' [m3, m2, m1, T.P_by_title] ∧ G1 pl = some (.lst xs') ∧ LamX.TabS H' T.P_by_title Jl.lamQ ∧ H' m1 = some (.dK []) ∧ H' m2 = some (.dK []) ∧ H' m3 = some (.dK []))
      (fun pl i σ' H' => ∃ G1, Jl.Act G G1 H' [m3, m2, m1, T.P_by_title] ∧ G1 pl = some (.lst xs') ∧ LamX.TabS H' T.P_by_title Jl.lamQ ∧ Jl.SD K G1 H' m2 (((Jl.sortP ps).take i).foldl Jl.foldP ⟨[], [], []⟩).w ∧ Jl.SD K G1 H' m1 (((Jl.sortP ps).take i).foldl Jl.foldP ⟨[], [], []⟩).s ∧ Jl.SD K G1 H' m3 (((Jl.sortP ps).take i).foldl Jl.foldP ⟨[], [], []⟩).m ∧ ∃ v1 v2 v3 v4 v5 v6, σ' = [some (.ref a), some (.ref m1), some (.ref m2), some (.ref m3), v1, v2, v3, v4, v5, v6]) (fun R z => ?_) (fun pl H1 hM => ?_) (fun pl i σ' H' _ h => ?_) (fun pl i x σ' H' hi h => ?_) (fun pl σ' H' h => ?_))
    · walk_at "w"
      refine use_by_title (bs := bs) (by rw [eb]; exact c3.same.seq ha) (fun b hb => ?_) t3 (fun H4 p k1 t4 np hp => ?_)
      · obtain ⟨t, r, e, ht⟩ := hbx b hb
        exact ⟨t, r, e, Jl.sameT c3.same ht⟩
      have c4 : Jl.Act G G H4 [m3, m2, m1, T.P_by_title] := c3.chg (C := [T.P_by_title]) (fun b v hb hn => k1 b v (fun e => hn (by rw [e]; exact List.mem_singleton.mpr rfl)) hb) (fun b hb => by
        cases List.mem_singleton.mp hb
        obtain ⟨tb, h1, -⟩ := t4
        exact ⟨by simp, _, h1⟩)
      rw [hxs'] at hp
      obtain ⟨G1, sG, c5, hp1⟩ := c4.frz hp (c3.out np)
      exact z p H4 ⟨G1, c5, hp1, t4, k1 _ _ n1P d1, k1 _ _ n2P d2, k1 _ _ n3P d3⟩
    · obtain ⟨G1, c5, hp1, t4, e1, e2, e3⟩ := hM
      exact ⟨.inl (.inl (c5.ext _ _ hp1)), G1, c5, hp1, t4, Jl.SD.nil e2, Jl.SD.nil e1, Jl.SD.nil e3, none, none, none, none, none, none, rfl⟩
    · obtain ⟨G1, c5, hp1, -⟩ := h
      exact .inl (.inl (c5.ext _ _ hp1))
    · obtain ⟨G1, c5, hp1, t5, W, S, M, v1, v2, v3, v4, v5, v6, rfl⟩ := h
      have sG := c5.base
      obtain ⟨p, hp, hy⟩ := Jl.da_item hsd hi
      obtain ⟨tp, S0, N, ss, nv, rfl, htp, -, -, hN, hnv⟩ := Jl.dp_piece hy
      have hnvl := Jl.da_length hnv
      have hpm := List.mem_of_getElem? hp
      have hil : i < (Jl.sortP ps).length := (List.getElem?_eq_some_iff.mp hp).1
      have hpn := hqn p hpm
      have e3 : ((Jl.sortP ps).take (i + 1)).foldl Jl.foldP ⟨[], [], []⟩ = Jl.foldP (((Jl.sortP ps).take i).foldl Jl.foldP ⟨[], [], []⟩) p := by
        rw [List.take_add_one, hp, List.foldl_append]; rfl
      have hw0 : (((Jl.sortP ps).take i).foldl Jl.foldP ⟨[], [], []⟩).small (64 * 1000) := by
        refine (Jl.folds_small ((Jl.sortP ps).take i) (fun q hq => hqn q (List.mem_of_mem_take hq))).mono ?_
        rw [List.length_take]
        omega
      generalize ((Jl.sortP ps).take i).foldl Jl.foldP ⟨[], [], []⟩ = st0 at *
      try simp only [List.set_cons_zero, List.set_cons_succ]
      walk_at "w"
      refine Jl.s_forLg (xs := nv) (fun j σ' H' => ∃ G1, Jl.Act G G1 H' [m3, m2, m1, T.P_by_title] ∧ G1 pl = some (.lst xs') ∧ LamX.TabS H' T.P_by_title Jl.lamQ ∧ Jl.SD K G1 H' m2 ((p.names.take j).foldl (Jl.stepN p) st0).w ∧ Jl.SD K G1 H' m1 ((p.names.take j).foldl (Jl.stepN p) st0).s ∧ Jl.SD K G1 H' m3 ((p.names.take j).foldl (Jl.stepN p) st0).m ∧ ∃ v2 v3 v4 v5 v6, σ' = [some (.ref a), some (.ref m1), some (.ref m2), some (.ref m3), some (.ref tp), v2, v3, v4, v5, v6]) H' (fun R z => ?_) (c5.same.seq hN) ⟨G1, c5, hp1, t5, by rw [List.take_zero]; exact ⟨W, S, M, _, _, _, _, _, rfl⟩⟩ (fun j σ' H2 _ h => ?_) (fun j y σ' H2 hj h => ?_) (fun σ' H2 h => ?_)
      · walk_at "w"
        exact Jl.s_ixT (Jl.sameT c5.same htp) (i := 2) rfl z
      · obtain ⟨G2, c6, -⟩ := h
        exact c6.same.seq hN
      · obtain ⟨G2, c6, hp2, t6, W, S, M, w2, w3, w4, w5, w6, rfl⟩ := h
        obtain ⟨q, hq, hz⟩ := Jl.da_item hnv hj
        obtain ⟨tq, rfl, htq⟩ := Jl.dp_nam hz
        have hjl : j < p.names.length := (List.getElem?_eq_some_iff.mp hq).1
        have e4 : (p.names.take (j + 1)).foldl (Jl.stepN p) st0 = Jl.stepN p ((p.names.take j).foldl (Jl.stepN p) st0) q := by
          rw [List.take_add_one, hq, List.foldl_append]; rfl
        have hw1 : ((p.names.take j).foldl (Jl.stepN p) st0).small 64063 := by
          refine (Jl.fold_small p (p.names.take j) st0 hw0).mono ?_
          rw [List.length_take]
          omega
        rw [e4]
        generalize (p.names.take j).foldl (Jl.stepN p) st0 = st1 at *
        refine Jl.s_gTup (Jl.sameT c6.same htq) rfl ?_
        walk_at "w"
        refine Jl.s_ixT (Jl.sameT c6.same htp) (i := 0) rfl ?_
        walk_at "w"
        refine ⟨(by show 3 ≤ sizeLine; decide), fun tn ntn => ?_⟩
        have c7 := c6.new (o := .tup [.str p.name, .int q.stre, .int q.off]) ntn
        have sg7 := Jl.same_upd (o := .tup [.str p.name, .int q.stre, .int q.off]) (c6.ext.free ntn)
        have s7 := Jl.same_upd (o := .tup [.str p.name, .int q.stre, .int q.off]) ntn
        have W := W.ext sg7 s7
        have S := S.ext sg7 s7
        have M := M.ext sg7 s7
        have t7 := t6.ext s7
        have hp7 := sg7 _ _ hp2
        have hsp : Dp K (upd G2 tn (.tup [.str p.name, .int q.stre, .int q.off])) (.ref tn) (Jl.spN p q) := Jl.spot_dp upd_same
        have htp7 := Jl.sameT c7.same htp
        generalize upd G2 tn (.tup [.str p.name, .int q.stre, .int q.off]) = G7 at *
        generalize upd H2 tn (.tup [.str p.name, .int q.stre, .int q.off]) = H7 at *
        clear c6 t6 hp2 sg7 s7
        obtain ⟨hw1, hs1, hm1⟩ := hw1
        by_cases g1 : q.sort = ("weak" : Str)
        · have g2 : ¬ q.sort = ("tell" : Str) := fun e => by rw [g1] at e; exact absurd e (by decide)
          have es : Jl.stepN p st1 q = ⟨Jl.setL st1.w q.name (Jl.spN p q), st1.s, st1.m⟩ := by
            unfold Jl.stepN
            rw [if_pos g1, if_neg g2, if_neg fun z => g2 z.1]
          walk_at "w"
          refine Jl.s_iteDt g1 ?_
          walk_at "w"
          refine Jl.s_dsetd ?_
          walk_at "w"
          refine ⟨m2, rfl, W.isD, ?_⟩
          walk_at "w"
          refine W.setdefault hsp (by omega) c7 (by simp) (fun w H8 c8 hb W8 => ?_)
          have t8 := W.tab t7 hb
          have S8 := S.off hb n21.symm
          have M8 := M.off hb n32
          walk_at "w"
          refine Jl.s_iteDf g2 ?_
          walk_at "w"
          refine Jl.s_iteDf g2 ?_
          walk_at "w"
          rw [es]
          exact ⟨G7, c8, hp7, t8, W8, S8, M8, _, _, _, _, _, rfl⟩
        · by_cases g2 : q.sort = ("tell" : Str)
          · walk_at "w"
            refine Jl.s_iteDf g1 ?_
            walk_at "w"
            refine Jl.s_iteDt g2 ?_
            refine Jl.s_din ?_
            walk_at "w"
            rcases S.get q.name with ⟨e5, g5⟩ | ⟨d5, v5', e5, g5, -⟩
            · have es : Jl.stepN p st1 q = ⟨st1.w, Jl.setL st1.s q.name (Jl.spN p q), st1.m⟩ := by
                unfold Jl.stepN
                rw [if_neg g1, if_pos g2, if_neg fun z => Jl.lookL_none.mp e5 z.2]
              refine ⟨m1, none, rfl, g5, ?_⟩
              walk_at "w"
              refine Jl.s_iteF ?_
              walk_at "w"
              refine Jl.s_iteDt g2 ?_
              walk_at "w"
              refine Jl.s_dsetd ?_
              walk_at "w"
              refine ⟨m1, rfl, S.isD, ?_⟩
              walk_at "w"
              refine S.setdefault (Q := fun _ H' => ∃ G1, Jl.Act G G1 H' [m3, m2, m1, T.P_by_title] ∧ G1 pl = some (.lst xs') ∧ LamX.TabS H' T.P_by_title Jl.lamQ ∧ Jl.SD K G1 H' m2 (Jl.stepN p st1 q).w ∧ Jl.SD K G1 H' m1 (Jl.stepN p st1 q).s ∧ Jl.SD K G1 H' m3 (Jl.stepN p st1 q).m ∧ ∃ v2 v3 v4 v5 v6, [some (V.ref a), some (.ref m1), some (.ref m2), some (.ref m3), some (.ref tp), some (.str q.name), some (.str q.sort), some (.int q.stre), some (.int q.off), some (.ref tn)] = [some (.ref a), some (.ref m1), some (.ref m2), some (.ref m3), some (.ref tp), v2, v3, v4, v5, v6]) hsp (by omega) c7 (by simp) (fun w H8 c8 hb S8 => ?_)
              have t8 := S.tab t7 hb
              have W8 := W.off hb n21
              have M8 := M.off hb n31
              walk_at "w"
              rw [es]
              exact ⟨G7, c8, hp7, t8, W8, S8, M8, _, _, _, _, _, rfl⟩
            · have es : Jl.stepN p st1 q = ⟨st1.w, Jl.setL st1.s q.name (Jl.spN p q), Jl.setL st1.m q.name (.str p.name)⟩ := by
                unfold Jl.stepN
                rw [if_neg g1, if_pos g2, if_pos ⟨g2, by
                  by_cases g : q.name ∈ st1.s.map (·.1)
                  · exact g
                  · rw [Jl.lookL_none.mpr g] at e5; cases e5⟩]
              refine ⟨m1, _, rfl, g5, ?_⟩
              walk_at "w"
              refine Jl.s_iteT ?_
              walk_at "w"
              refine Jl.s_dsetd ?_
              walk_at "w"
              refine ⟨m3, rfl, M.isD, ?_⟩
              walk_at "w"
              refine Jl.s_ixT htp7 (i := 0) rfl ?_
              walk_at "w"
              refine M.setdefault (.str p.name) (by omega) c7 (by simp) (fun w H8 c8 hb M8 => ?_)
              have t8 := M.tab t7 hb
              have W8 := W.off hb n32.symm
              have S8 := S.off hb n31.symm
              walk_at "w"
              refine Jl.s_iteDt g2 ?_
              walk_at "w"
              refine Jl.s_dsetd ?_
              walk_at "w"
              refine ⟨m1, rfl, S8.isD, ?_⟩
              walk_at "w"
              refine S8.setdefault (Q := fun _ H' => ∃ G1, Jl.Act G G1 H' [m3, m2, m1, T.P_by_title] ∧ G1 pl = some (.lst xs') ∧ LamX.TabS H' T.P_by_title Jl.lamQ ∧ Jl.SD K G1 H' m2 (Jl.stepN p st1 q).w ∧ Jl.SD K G1 H' m1 (Jl.stepN p st1 q).s ∧ Jl.SD K G1 H' m3 (Jl.stepN p st1 q).m ∧ ∃ v2 v3 v4 v5 v6, [some (V.ref a), some (.ref m1), some (.ref m2), some (.ref m3), some (.ref tp), some (.str q.name), some (.str q.sort), some (.int q.stre), some (.int q.off), some (.ref tn)] = [some (.ref a), some (.ref m1), some (.ref m2), some (.ref m3), some (.ref tp), v2, v3, v4, v5, v6]) hsp (by omega) c8 (by simp) (fun w H9 c9 hb9 S9 => ?_)
              have t9 := S8.tab t8 hb9
              have W9 := W8.off hb9 n21
              have M9 := M8.off hb9 n31
              walk_at "w"
              rw [es]
              exact ⟨G7, c9, hp7, t9, W9, S9, M9, _, _, _, _, _, rfl⟩
          · have es : Jl.stepN p st1 q = st1 := by
              unfold Jl.stepN
              rw [if_neg g1, if_neg g2, if_neg fun z => g2 z.1]
            walk_at "w"
            refine Jl.s_iteDf g1 ?_
            walk_at "w"
            refine Jl.s_iteDf g2 ?_
            walk_at "w"
            refine Jl.s_iteDf g2 ?_
            walk_at "w"
            rw [es]
            exact ⟨G7, c7, hp7, t7, W, S, M, _, _, _, _, _, rfl⟩
      · obtain ⟨G2, c6, hp2, t6, W, S, M, w2, w3, w4, w5, w6, rfl⟩ := h
        rw [hnvl, List.take_length] at W S M
        rw [e3]
        exact ⟨G2, c6, hp2, t6, W, S, M, _, _, _, _, _, _, rfl⟩
    · obtain ⟨G1, c5, hp1, t5, W, S, M, v1, v2, v3, v4, v5, v6, rfl⟩ := h
      rw [hsl, List.take_length] at W S M
      have W : Jl.SD K G1 H' m2 (Jl.foldS (Jl.sortP ps)).w := W
      have S : Jl.SD K G1 H' m1 (Jl.foldS (Jl.sortP ps)).s := S
      have M : Jl.SD K G1 H' m3 (Jl.foldS (Jl.sortP ps)).m := M
      have hsm := (Jl.folds_small (Jl.sortP ps) hqn).mono (k := 64000) (by omega)
      obtain ⟨kvs, hk1, hk2⟩ := id M
      generalize hks : (Jl.foldS (Jl.sortP ps)).m.map (·.1) = ks at *
      have hkl : ks.length < 64 := by rw [← hks, List.length_map]; exact hm
      have hkm : ∀ y, y ∈ ks ↔ 2 ≤ (Jl.twT ps y).length := fun y => by rw [← hks]; exact Jl.m_keys ps y
      have hkk : kvs.map (·.1) = ks.map Sum.inr := by rw [hk2.1, ← hks, List.map_map]; rfl
      refine Jl.s_forM (xs := (Jl.sortS ks).map V.str) (fun r H2 => ∃ o, H2 = upd H' r o ∧ H' r = none ∧ o = .lst ((Jl.sortS ks).map V.str)) (fun r i σ2 H2 => Jl.Act G G1 H2 [m3, m2, m1, T.P_by_title] ∧ H2 r = some (.lst ((Jl.sortS ks).map V.str)) ∧ LamX.TabS H2 T.P_by_title Jl.lamQ ∧ Jl.SD K G1 H2 m2 (Jl.foldS (Jl.sortP ps)).w ∧ Jl.SD K G1 H2 m1 (Jl.foldS (Jl.sortP ps)).s ∧ Jl.SD K G1 H2 m3 (Jl.foldS (Jl.sortP ps)).m ∧ i = 0 ∧ σ2 = [some (.ref a), some (.ref m1), some (.ref m2), some (.ref m3), v1, v2, v3, v4, v5, v6]) (fun R z => ?_) (fun r H2 hM => ?_) (fun r i σ2 H2 _ h => .inl (.inl h.2.1)) (fun r i x σ2 H2 hi h => ?_) (fun r σ2 H2 h => ?_)
      · walk_at "w"
        refine Jl.s_sortedD (ks := ks) hk1 hkk hkl (fun ys r hpm hso nr => ?_)
        have ey := Jl.sortS_of hpm hso
        subst ey
        exact z _ _ ⟨_, rfl, nr, rfl⟩
      · obtain ⟨o, rfl, nr, rfl⟩ := hM
        have s9 := Jl.same_upd (o := .lst ((Jl.sortS ks).map V.str)) nr
        exact ⟨.inl (.inl upd_same), c5.sm s9, upd_same, t5.ext s9, W.ext (Same.refl _) s9, S.ext (Same.refl _) s9, M.ext (Same.refl _) s9, rfl, rfl⟩
      · obtain ⟨c9, -, t9, W, S, M, rfl, rfl⟩ := h
        obtain ⟨z, hz, rfl⟩ : ∃ z, (Jl.sortS ks)[0]? = some z ∧ x = .str z := by
          rw [List.getElem?_map] at hi
          cases e : (Jl.sortS ks)[0]? with
          | none => rw [e] at hi; cases hi
          | some z => rw [e] at hi; cases hi; exact ⟨z, rfl, rfl⟩
        have hl := Jl.ltw_sorted hkm (Jl.sortS_perm ks) (Jl.sortS_sorted ks) hz
        obtain ⟨t0, t1, rr, ett⟩ : ∃ t0 t1 r, Jl.twT ps z = t0 :: t1 :: r := by
          have := hl.1
          cases e : Jl.twT ps z with
          | nil => rw [e] at this; exact absurd this (by decide)
          | cons a l =>
            cases l with
            | nil => rw [e] at this; exact absurd this (by show ¬ 2 ≤ 1; decide)
            | cons b l => exact ⟨a, b, l, rfl⟩
        have eM := Jl.m_look ps z
        have eS := Jl.s_look ps z
        rw [ett] at eM
        have eo : ∃ d0 : Str × PyData, (Jl.ofN (Jl.allN "tell" (Jl.sortP ps)) z)[0]? = some d0 ∧ Jl.titD d0.2 = t0 ∧ ∃ t i j, d0.2 = Jl.spotD t i j := by
          have e2 : ((Jl.ofN (Jl.allN "tell" (Jl.sortP ps)) z).map fun x => Jl.titD x.2)[0]? = some t0 := by
            have : Jl.twT ps z = (Jl.ofN (Jl.allN "tell" (Jl.sortP ps)) z).map fun x => Jl.titD x.2 := rfl
            rw [← this, ett]; rfl
          rw [List.getElem?_map] at e2
          cases e : (Jl.ofN (Jl.allN "tell" (Jl.sortP ps)) z)[0]? with
          | none => rw [e] at e2; cases e2
          | some d0 =>
            rw [e] at e2
            refine ⟨d0, rfl, Option.some.inj e2, ?_⟩
            have hm0 := (List.mem_filter.mp (List.mem_of_getElem? e)).1
            obtain ⟨p, -, hm1⟩ := List.mem_flatMap.mp hm0
            obtain ⟨n, -, rfl⟩ := List.mem_map.mp hm1
            exact ⟨_, _, _, rfl⟩
        obtain ⟨d0, ed0, et0, t, i, j, ed⟩ := eo
        have ett0 : t = t0 := by rw [ed] at et0; exact et0
        subst ett0
        rw [ed0] at eS
        have eS : Jl.lookL (Jl.foldS (Jl.sortP ps)).s z = some (Jl.spotD t i j) := by rw [eS, ← ed]; rfl
        have eM : Jl.lookL (Jl.foldS (Jl.sortP ps)).m z = some (.str t1) := eM
        rcases S.get z with ⟨e5, -⟩ | ⟨d5, w5, e5, g5, hv5⟩
        · rw [eS] at e5; cases e5
        rw [eS] at e5
        cases e5
        obtain ⟨qa, rfl, hqa⟩ := Jl.dp_spot hv5
        have hqa := Jl.sameT c9.ext hqa
        rcases M.get z with ⟨e6, -⟩ | ⟨d6, w6, e6, g6, hv6⟩
        · rw [eM] at e6; cases e6
        rw [eM] at e6
        cases e6
        cases Jl.dp_str hv6
        try simp only [List.set_cons_zero, List.set_cons_succ]
        walk_at "w"
        refine Jl.s_mkN (vs := [.str z, .str t, .str t1]) (fun R zz => ?_) (by show 3 ≤ 1000; decide) (fun a H' Q' ha hq => ⟨a, .str z, .str t, .str t1, rfl, ha, hq⟩) (fun d nd => ?_)
        · walk_at "w"
          refine Jl.s_dgetR ?_
          walk_at "w"
          refine ⟨m1, _, rfl, g5, ?_⟩
          walk_at "w"
          refine Jl.s_ixT hqa (i := 0) rfl ?_
          walk_at "w"
          refine Jl.s_dgetR ?_
          walk_at "w"
          refine ⟨m3, _, rfl, g6, ?_⟩
          walk_at "w"
          exact zz
        · have c10 := (c9.new (o := .xd [("other", .str t1), ("one", .str t), ("name", .str z)]) nd).sub (A' := [T.P_by_title]) (by simp)
          exact k2 z t t1 rr hl ett _ _ d c10 (t9.ext (Jl.same_upd nd)) upd_same
      have hno : ∀ z, ¬ 2 ≤ (Jl.twT ps z).length := fun z hz => by
        have e0 := h.2.2.2.2.2.2.1
        have e1 := (hkm z).mpr hz
        rw [List.length_map, Jl.sortS_len] at e0
        rw [List.length_eq_zero_iff.mp e0] at e1
        cases e1
      obtain ⟨c9, -, t9, W, S, -, -, rfl⟩ := h
      walk_at "w"
      refine ⟨Jl.ty_dict W, ?_⟩
      walk_at "w"
      refine W.upd S n21 (by have := hsm.1; have e : Jl.foldS (Jl.sortP ps) = (Jl.sortP ps).foldl Jl.foldP ⟨[], [], []⟩ := rfl; rw [e]; omega) (by have := hsm.2.1; have e : Jl.foldS (Jl.sortP ps) = (Jl.sortP ps).foldl Jl.foldP ⟨[], [], []⟩ := rfl; rw [e]; omega) (fun o W2 => ?_)
      have t10 := W.tab t9 (fun b hb => upd_ne (o := o) hb)
      have c10 : Jl.Act G G1 (upd H2 m2 o) [m2, T.P_by_title] := (c9.upd (o := o) (by simp)).sub (by simp)
      walk_at "w"
      exact k1 hno G1 _ m2 c10 t10 W2
/-! ### _law_cell_at -/
def sp_law_cell_at (K : PySem.W.Frag) : Sp := fun vs H Q _ => ∃ (a : Addr) (ns : List Int) (i : Int), vs = [.ref a, .int i] ∧ SqL K H a (ns.map V.int) ∧ 0 ≤ i ∧ Q (.int (ns.getD i.toNat 0)) H
theorem use_cell_at {K : PySem.W.Frag} {a : Addr} {ns : List Int} {i : Int} {H : Hp} {Q : VK} {E : XK} (hS : SqL K H a (ns.map V.int)) (h0 : 0 ≤ i) (z : Q (.int (ns.getD i.toNat 0)) H) : sp_law_cell_at K [.ref a, .int i] H Q E := ⟨a, ns, i, rfl, hS, h0, z⟩
theorem ok_law_cell_at (T : Txt K mg) (B : LamX.TabB base mg T.c_by_title T.P_by_title) : FnOk P w K mg base CX0 1 T.a_law_cell_at T.d_law_cell_at ["_law_script", "_law_k"] (sp_law_cell_at K) := by
  refine T.F_law_cell_at.ok sc_law_cell_at (fun vs H Q E h => ?_) (fun cdv A outer s H vs Q E hr h => ?_)
  · obtain ⟨a, ns, i, rfl, hS, h0, k⟩ := h
    rfl
  · obtain ⟨a, ns, i, rfl, hS, h0, k⟩ := h
    have hu := hu_of hr
    refine ⟨_, (pss_cons (ps_if (pt_cmpR op_lt (pv 1) (pe_callB (r := Jl.rLenL K) Jl.cl_lenL (by rfl) T.n_len (by decide +kernel) (pa_cons (pv 0) pa_nil)) (nomark _)) (pss_one (ps_ret (pe_ix (r := rIxL K) ix_list (pv 0) (pv 1) (fun _ _ => rfl)))) pss_nil)
      (pss_one (ps_ret pe_int))), ?_⟩
    show (_ : TS) _ [some (.ref a), some (.int i)] H
    walk_at "w"
    rw [List.length_map]
    refine Jl.s_iteD (fun h => ?_) (fun h => ?_)
    · walk_at "w"
      refine Jl.s_ixL hS (Jl.atI_int (k := i.toNat) (List.getElem?_eq_getElem (by omega)) (by omega)) ?_
      rw [List.getD_eq_getElem?_getD, List.getElem?_eq_getElem (by omega)] at k
      exact k
    · walk_at "w"
      rw [List.getD_eq_getElem?_getD, List.getElem?_eq_none (by omega)] at k
      exact k
/-! ### _law_name_by -/
def sp_law_name_by (K : PySem.W.Frag) : Sp := fun vs H Q _ => ∃ c k0 : Int, vs = [.int c, .int k0] ∧ 0 ≤ k0 ∧ k0 ≤ 1000000 ∧ Q (.str (Jl.nmT c k0)) H
theorem use_name_by {K : PySem.W.Frag} {c k0 : Int} {H : Hp} {Q : VK} {E : XK} (h0 : 0 ≤ k0) (h1 : k0 ≤ 1000000) (z : Q (.str (Jl.nmT c k0)) H) : sp_law_name_by K [.int c, .int k0] H Q E := ⟨c, k0, rfl, h0, h1, z⟩
local macro_rules | `(tactic| walk_at "s") => `(tactic| ((focus (with_reducible refine use_name_by ?_ ?_ ?_; (focus (omega)); (focus (omega))))))
theorem ok_law_name_by (T : Txt K mg) (B : LamX.TabB base mg T.c_by_title T.P_by_title) : FnOk P w K mg base CX0 1 T.a_law_name_by T.d_law_name_by ["_law_cell", "_law_k"] (sp_law_name_by K) := by
  refine T.F_law_name_by.ok sc_law_name_by (fun vs H Q E h => ?_) (fun cdv A outer s H vs Q E hr h => ?_)
  · obtain ⟨c, k0, rfl, hk0, hk1, k⟩ := h
    rfl
  · obtain ⟨c, k0, rfl, hk0, hk1, k⟩ := h
    have hu := hu_of hr
    refine ⟨_, (pss_cons (ps_set (i := 2) sc_law_name_by.nd rfl (Or.inl rfl) pe_str)
      (pss_cons (ps_set (i := 3) sc_law_name_by.nd rfl (Or.inl rfl) (pe_op op_add pe_int (pe_op op_mod (pv 0) pe_int)))
      (pss_cons (ps_set (i := 4) sc_law_name_by.nd rfl (Or.inl rfl) (pe_op op_mod (pe_op op_fdiv (pv 0) pe_int) (pv 3)))
      (pss_cons (Jl.ps_ifK (pt_cmpR op_eq (pe_op op_mod (pe_op op_fdiv (pv 0) pe_int) pe_int) pe_int (nomark _)) (pss_cons (ps_set (i := 3) sc_law_name_by.nd rfl (Or.inl rfl) (pe_op op_add pe_int (pe_op op_mod (pv 1) pe_int)))
      (pss_one (ps_set (i := 4) sc_law_name_by.nd rfl (Or.inl rfl) pe_int))) pss_nil)
      (pss_cons (ps_set (i := 5) sc_law_name_by.nd rfl (Or.inl rfl) pe_str)
      (pss_cons (ps_for PassesOwn.never rfl (pi_range1 (by rfl) T.n_range (pa_cons (pv 3) pa_nil)) (pg_name (i := 6) sc_law_name_by.nd rfl (Or.inl rfl)) (pss_cons (ps_set (i := 7) sc_law_name_by.nd rfl (Or.inl rfl) (pe_op op_sub pe_int (pe_op op_mul pe_int (pe_callTy Jl.cl_int1 (by rfl) T.n_int (by decide +kernel) (pa_cons (pe_cmpR op_eq (pv 6) pe_int (nomark _)) pa_nil)))))
      (pss_cons (ps_set (i := 8) sc_law_name_by.nd rfl (Or.inl rfl) (pe_op op_add (pe_op op_add (pe_op op_fdiv (pv 0) (pe_op op_add (pv 6) pe_int)) (pe_op op_mul (pv 6) (pv 6))) (pe_op op_mul (pv 1) (pe_callTy Jl.cl_int1 (by rfl) T.n_int (by decide +kernel) (pa_cons (pe_cmpR op_eq (pv 6) (pv 4) (nomark _)) pa_nil)))))
      (pss_one (ps_set (i := 5) sc_law_name_by.nd rfl (Or.inl rfl) (pe_op Jl.op_addS (pv 5) (pe_ix ix_str (pv 2) (pe_op op_mod (pv 8) (pv 7)) (fun _ _ => rfl))))))))
      (pss_one (ps_ret (pv 5))))))))), ?_⟩
    show (_ : TS) _ [some (.int c), some (.int k0), none, none, none, none, none, none, none] H
    have hs := Jl.nmSize_ok c k0
    walk_at "w"
    refine Jl.s_seq (Jl.s_ifKs (P := c / 256 % 3 = 0) (fun σ' H' => H' = H ∧ ∃ z, z = Jl.sgns ∧ σ' = [some (.int c), some (.int k0), some (.str z), some (.int (Jl.nmSize c k0)), some (.int (Jl.nmAt c)), none, none, none, none]) (fun T t1 t2 => ?_) (fun g N hN => ?_) (fun g N hN => ?_) (fun σ' H' hM => ?_))
    · walk_at "w"
      by_cases g : c / 256 % 3 = 0
      · rw [decide_eq_true g]; exact t1 g
      · rw [decide_eq_false g]; exact t2 g
    · walk_at "w"
      refine hN _ _ ⟨rfl, _, rfl, ?_⟩
      rw [show Jl.nmSize c k0 = 1 + k0 % 16 from if_pos g, show Jl.nmAt c = 16 from if_pos g]; rfl
    · walk_at "w"
      refine hN _ _ ⟨rfl, _, rfl, ?_⟩
      rw [show Jl.nmSize c k0 = 1 + c % 16 from if_neg g, show Jl.nmAt c = c / 16 % (1 + c % 16) from if_neg g]; rfl
    obtain ⟨eH, z, hz, rfl⟩ := hM
    subst eH
    walk_at "w"
    refine Jl.s_seq (Jl.s_forR1 (Jl.nmSize c k0) (fun i σ' H2 => H2 = H' ∧ ∃ (n : Str) (v1 v2 v3 : Option V), n.cps.toList = (Jl.nmL c k0).take i ∧ σ' = [some (.int c), some (.int k0), some (.str z), some (.int (Jl.nmSize c k0)), some (.int (Jl.nmAt c)), some (.str n), v1, v2, v3]) (fun R z => ?_) (by omega) ⟨rfl, _, none, none, none, by rw [List.take_zero]; rfl, rfl⟩ (fun i σ' H2 hi h => ?_) (fun σ' H2 h => ?_))
    · walk_at "w"
      exact z
    · obtain ⟨e, n, v1, v2, v3, hn, rfl⟩ := h
      subst e
      simp only [List.set_cons_zero, List.set_cons_succ]
      have hnl : n.length ≤ 16 := by
        rw [← Jl.len_list, hn, List.length_take]; omega
      walk_at "w"
      have e : (c / ((i : Int) + 3) + (i : Int) * (i : Int) + k0 * (if decide ((i : Int) = Jl.nmAt c) = true then 1 else 0)) % (37 - 11 * (if decide ((i : Int) = 0) = true then 1 else 0)) = Jl.nmIx c k0 (Jl.nmAt c) i := by
        unfold Jl.nmIx
        simp only [decide_eq_true_eq]
      rw [e]
      have hx := Jl.nmIx_ok c k0 (Jl.nmAt c) i
      generalize hix : Jl.nmIx c k0 (Jl.nmAt c) i = ix at *
      have hil : ix.toNat < Jl.sgns.cps.toList.length := by rw [Jl.sgns_len]; omega
      subst hz
      refine Jl.s_ixS (c := Jl.sgns.cps.toList.getD ix.toNat 0) ?_ ?_ (by decide +kernel)
      · unfold atI ixN
        rw [if_pos hx.1, if_pos (by rw [Jl.sgns_len]; omega)]
        show Jl.sgns.cps.toList[ix.toNat]? = _
        rw [List.getD_eq_getElem?_getD, List.getElem?_eq_getElem hil]; rfl
      walk_at "w"
      refine ⟨by trivial, _, _, _, _, ?_, rfl⟩
      rw [Jl.cps_app, hn, List.take_add_one]
      congr 1
      have hget : (Jl.nmL c k0)[i]? = some (Jl.sgns.cps.toList.getD ix.toNat 0) := by
        unfold Jl.nmL
        rw [List.getElem?_map, List.getElem?_range (by omega), ← hix]; rfl
      rw [hget]
      rfl
    · obtain ⟨e, n, v1, v2, v3, hn, rfl⟩ := h
      subst e
      walk_at "w"
      rw [← Jl.nmL_len, List.take_length] at hn
      have : n = Jl.nmT c k0 := Jl.str_ext (by rw [hn]; rfl)
      rw [this]
      exact k
/-! ### _law_word_row -/
def sp_law_word_row (K : PySem.W.Frag) : Sp := fun vs H Q _ => ∃ c nb : Int, vs = [.int c, .int nb] ∧ ((c % 9 = 2 ∧ ∀ H', Same H H' → Q .non H') ∨ (¬ c % 9 = 2 ∧ ∀ H' t r (nm : Str) add soft j, Same H H' → H t = none → H' t = some (.tup [.str r, .str nm, .int add, .bl soft]) → Jl.isRule5 r → (soft = true → r = "whole" ∨ r = "high" ∨ r = "low") → 0 ≤ j ∧ j < 12 → nm = Jl.nmT nb j → -2147483648 ≤ add ∧ add ≤ 2147483647 → Q (.ref t) H'))
theorem use_word_row {K : PySem.W.Frag} {c nb : Int} {H : Hp} {Q : VK} {E : XK} (z : ((c % 9 = 2 ∧ ∀ H', Same H H' → Q .non H') ∨ (¬ c % 9 = 2 ∧ ∀ H' t r (nm : Str) add soft j, Same H H' → H t = none → H' t = some (.tup [.str r, .str nm, .int add, .bl soft]) → Jl.isRule5 r → (soft = true → r = "whole" ∨ r = "high" ∨ r = "low") → 0 ≤ j ∧ j < 12 → nm = Jl.nmT nb j → -2147483648 ≤ add ∧ add ≤ 2147483647 → Q (.ref t) H'))) : sp_law_word_row K [.int c, .int nb] H Q E := ⟨c, nb, rfl, z⟩
theorem ok_law_word_row (T : Txt K mg) (B : LamX.TabB base mg T.c_by_title T.P_by_title) : FnOk P w K mg base CX0 2 T.a_law_word_row T.d_law_word_row ["_law_cell", "_law_names_by"] (sp_law_word_row K) := by
  have G_law_name_by := ok_law_name_by (P := P) (w := w) (base := base) T B
  refine T.F_law_word_row.ok sc_law_word_row (fun vs H Q E h => ?_) (fun cdv A outer s H vs Q E hr h => ?_)
  · obtain ⟨c, nb, rfl, k⟩ := h
    rfl
  · obtain ⟨c, nb, rfl, k⟩ := h
    have hu := hu_of hr
    refine ⟨_, (pss_cons (ps_set (i := 2) sc_law_word_row.nd rfl (Or.inl rfl) (pe_op op_mod (pv 0) pe_int))
      (pss_cons (ps_set (i := 3) sc_law_word_row.nd rfl (Or.inl rfl) (pe_op op_fdiv (pv 0) pe_int))
      (pss_cons (ps_set (i := 4) sc_law_word_row.nd rfl (Or.inl rfl) (pe_and (pe_cmpR op_eq (pe_op op_mod (pe_op op_fdiv (pv 3) pe_int) pe_int) pe_int (nomark _)) (pe_one (pe_cmpR op_lt (pe_op op_mod (pv 3) pe_int) pe_int (nomark _)))))
      (pss_cons (ps_set (i := 5) sc_law_word_row.nd rfl (Or.inl rfl) (pe_op op_sub (pe_op op_mod (pe_op op_fdiv (pv 3) pe_int) pe_int) pe_int))
      (pss_cons (ps_if (pt_cmpR op_eq (pe_op op_mod (pe_op op_fdiv (pv 3) pe_int) pe_int) pe_int (nomark _)) (pss_one (ps_set (i := 5) sc_law_word_row.nd rfl (Or.inl rfl) (pe_op op_sub (pe_op op_mod (pe_op op_mul (pe_op op_fdiv (pv 3) pe_int) pe_int) pe_int) pe_int))) pss_nil)
      (pss_cons (ps_set (i := 6) sc_law_word_row.nd rfl (Or.inl rfl) (pe_ix (r := rIxL K) ix_list (pe_lst (pa_cons pe_str (pa_cons pe_str (pa_cons pe_str (pa_cons pe_str (pa_cons pe_str pa_nil)))))) (pe_op op_mod (pv 3) pe_int) (fun _ _ => rfl)))
      (pss_cons (ps_if (pt_cmpR op_eq (pv 2) pe_int (nomark _)) (pss_one (ps_ret pe_non)) pss_nil)
      (pss_one (ps_ret (pe_tup (pa_cons (pv 6) (pa_cons (pe_call (G_law_name_by) (hr.mono (by decide)) rfl T.m_law_name_by T.F_law_name_by.kp T.b_law_name_by .nil pass0 (pa_cons (pv 1) (pa_cons (pe_op op_mod (pe_op op_fdiv (pv 3) pe_int) pe_int) pa_nil))) (pa_cons (pv 5) (pa_cons (pv 4) pa_nil)))))))))))))), ?_⟩
    show (_ : TS) _ [some (.int c), some (.int nb), none, none, none, none, none] H
    walk_at "w"
    have hrest : ∃ rest, rest = c / 9 := ⟨_, rfl⟩
    generalize c / 9 = rest at *
    have five : ∀ (H1 : Hp) (p : Addr), ∃ r, atI [V.str "whole", V.str "high", V.str "low", V.str "near", V.str "split"] (rest % 5) = some (.str r) ∧ Jl.isRule5 r ∧ (rest % 5 < 3 → r = "whole" ∨ r = "high" ∨ r = "low") := fun _ _ => by
      have h : rest % 5 = 0 ∨ rest % 5 = 1 ∨ rest % 5 = 2 ∨ rest % 5 = 3 ∨ rest % 5 = 4 := by omega
      rcases h with h | h | h | h | h
      · rw [h]; exact ⟨_, rfl, .inl rfl, fun _ => .inl rfl⟩
      · rw [h]; exact ⟨_, rfl, .inr (.inl rfl), fun _ => .inr (.inl rfl)⟩
      · rw [h]; exact ⟨_, rfl, .inr (.inr (.inl rfl)), fun _ => .inr (.inr rfl)⟩
      · rw [h]; exact ⟨_, rfl, .inr (.inr (.inr (.inl rfl))), fun z => by omega⟩
      · rw [h]; exact ⟨_, rfl, .inr (.inr (.inr (.inr rfl))), fun z => by omega⟩
    refine Jl.s_andJ (q := rest % 5 < 3) (fun _ R z => ?_) ?_
    · walk_at "w"; exact z
    have hsoft : decide (rest / 60 % 3 = 0 ∧ rest % 5 < 3) = true → rest % 5 < 3 := fun h => (of_decide_eq_true h).2
    generalize decide (rest / 60 % 3 = 0 ∧ rest % 5 < 3) = soft at *
    walk_at "w"
    refine Jl.s_iteAsgI (rest / 180 % 9 - 4) (rest / 180 * 48271 % 4294967296 - 2147483648) (fun _ R z => ?_) rfl ?_
    · walk_at "w"; exact z
    simp only [List.set_cons_zero, List.set_cons_succ]
    have hadd : -2147483648 ≤ (if rest / 180 % 4 = 3 then rest / 180 * 48271 % 4294967296 - 2147483648 else rest / 180 % 9 - 4) ∧ (if rest / 180 % 4 = 3 then rest / 180 * 48271 % 4294967296 - 2147483648 else rest / 180 % 9 - 4) ≤ 2147483647 := by split <;> omega
    generalize (if rest / 180 % 4 = 3 then rest / 180 * 48271 % 4294967296 - 2147483648 else rest / 180 % 9 - 4) = add at *
    walk_at "w"
    refine ⟨(by show 5 ≤ sizeLine; decide), fun p np => ?_⟩
    walk_at "w"
    obtain ⟨r, hr1, hr2, hr3⟩ := five H p
    refine Jl.s_ixL Jl.sqU hr1 ?_
    have s1 := Jl.same_upd (o := .lst [.str "whole", .str "high", .str "low", .str "near", .str "split"]) np
    walk_at "w"
    refine Jl.s_iteD (fun g => ?_) (fun g => ?_)
    · walk_at "w"
      rcases k with ⟨_, k⟩ | ⟨g2, _⟩
      · exact k _ s1
      · exact absurd g g2
    · walk_at "w"
      refine ⟨(by show 4 ≤ sizeLine; decide), fun t nt => ?_⟩
      rcases k with ⟨g2, _⟩ | ⟨_, k⟩
      · exact absurd g2 g
      · exact k _ t r _ add soft (rest / 5 % 12) (s1.trans (Jl.same_upd nt)) (s1.free nt) upd_same hr2 (fun h => hr3 (hsoft h)) ⟨by omega, by omega⟩ rfl hadd
/-! ### _law_told_by -/
def sp_law_told_by (K : PySem.W.Frag) : Sp := fun vs H Q _ => ∃ (B F : Hp) (P : Addr) (ps0 : List Jl.Piece) (nm : Str) (ss0 : List Jl.Stre) (s : Jl.Stre) (ns : List Jl.Nam) (c nb : Int) (strict : Bool), vs = [.ref P, .int c, .int nb, .bl strict] ∧ Jl.BP K B F H P [] (ps0 ++ [⟨nm, ss0 ++ [s], ns⟩]) ∧ (∀ q ∈ ps0, q.ok) ∧ ns.length ≤ 1000 ∧ ss0.length ≤ 1000 ∧ (∀ q ∈ ps0, q.names.length ≤ 1000) ∧ ∀ H', (Same H H' → Jl.nmT nb (c / 9 % 12) ∈ ns.map (·.name) → Q .non H') ∧ (∀ (F' : Hp) (sort : Str), Same F F' → Jl.BP K B F' H' P [] (ps0 ++ [⟨nm, ss0 ++ [s], ns ++ [⟨Jl.nmT nb (c / 9 % 12), sort, (ss0.length : Int), (s.words.length : Int)⟩]⟩]) → Jl.nmT nb (c / 9 % 12) ∉ ns.map (·.name) → (sort = "tell" ∨ sort = "weak" ∨ sort = "own") → (strict = false → sort = "tell" → ∀ q ∈ ps0, ∀ m ∈ q.names, m.name = Jl.nmT nb (c / 9 % 12) → ¬ m.sort = "tell") → Q .non H')
theorem use_told_by {K : PySem.W.Frag} {B F : Hp} {P : Addr} {ps0 : List Jl.Piece} {nm : Str} {ss0 : List Jl.Stre} {s : Jl.Stre} {ns : List Jl.Nam} {c nb : Int} {strict : Bool} {H : Hp} {Q : VK} {E : XK} (b : Jl.BP K B F H P [] (ps0 ++ [⟨nm, ss0 ++ [s], ns⟩])) (ok : ∀ q ∈ ps0, q.ok) (h1 : ns.length ≤ 1000) (h2 : ss0.length ≤ 1000) (h3 : ∀ q ∈ ps0, q.names.length ≤ 1000) (z : ∀ H', (Same H H' → Jl.nmT nb (c / 9 % 12) ∈ ns.map (·.name) → Q .non H') ∧ (∀ (F' : Hp) (sort : Str), Same F F' → Jl.BP K B F' H' P [] (ps0 ++ [⟨nm, ss0 ++ [s], ns ++ [⟨Jl.nmT nb (c / 9 % 12), sort, (ss0.length : Int), (s.words.length : Int)⟩]⟩]) → Jl.nmT nb (c / 9 % 12) ∉ ns.map (·.name) → (sort = "tell" ∨ sort = "weak" ∨ sort = "own") → (strict = false → sort = "tell" → ∀ q ∈ ps0, ∀ m ∈ q.names, m.name = Jl.nmT nb (c / 9 % 12) → ¬ m.sort = "tell") → Q .non H')) : sp_law_told_by K [.ref P, .int c, .int nb, .bl strict] H Q E := ⟨B, F, P, ps0, nm, ss0, s, ns, c, nb, strict, rfl, b, ok, h1, h2, h3, z⟩
theorem ok_law_told_by (T : Txt K mg) (B : LamX.TabB base mg T.c_by_title T.P_by_title) : FnOk P w K mg base CX0 2 T.a_law_told_by T.d_law_told_by ["_law_pieces", "_law_cell", "_law_names_by", "_law_strict"] (sp_law_told_by K) := by
  have G_law_name_by := ok_law_name_by (P := P) (w := w) (base := base) T B
  refine T.F_law_told_by.ok sc_law_told_by (fun vs H Q E h => ?_) (fun cdv A outer s H vs Q E hr h => ?_)
  · obtain ⟨B, F, P, ps0, nm, ss0, s, ns, c, nb, strict, rfl, b, ok, h1, h2, h3, k⟩ := h
    rfl
  · obtain ⟨B, F, P, ps0, nm, ss0, s, ns, c, nb, strict, rfl, b, ok, h1, h2, h3, k⟩ := h
    have hu := hu_of hr
    refine ⟨_, (pss_cons (ps_set (i := 4) sc_law_told_by.nd rfl (Or.inl rfl) (pe_ix (r := rIxL K) ix_list (pv 0) (pe_un un_neg pe_int) (fun _ _ => rfl)))
      (pss_cons (ps_set (i := 5) sc_law_told_by.nd rfl (Or.inl rfl) (pe_call (G_law_name_by) (hr.mono (by decide)) rfl T.m_law_name_by T.F_law_name_by.kp T.b_law_name_by .nil pass0 (pa_cons (pv 2) (pa_cons (pe_op op_mod (pe_op op_fdiv (pv 1) pe_int) pe_int) pa_nil))))
      (pss_cons (ps_if (pt_cmpR op_in_seq (pv 5) (pe_lc (own := [("_law_row", 8)]) (g := gName 8) (tt := tYes) rfl sc_law_told_by.nd (pi_list (pe_ix (r := rIxT K) ix_tup (pv 4) pe_int (fun _ _ => rfl))) (blkOk_by (own := [("_law_row", 8)]) (N := N_law_told_by) (sc := defScope s_law_told_by) (by decide +kernel)) (fun _ _ _ _ _ => pg_name (i := 8) sc_law_told_by.nd rfl (Or.inl rfl)) (fun _ _ _ _ _ => pts_nil) (fun _ _ _ _ _ => (pe_ix (r := rIxT K) ix_tup (pv 8) pe_int (fun _ _ => rfl)))) rfl) (pss_one ps_retN) pss_nil)
      (pss_cons (ps_set (i := 6) sc_law_told_by.nd rfl (Or.inl rfl) (pe_ix (r := rIxL K) ix_list (pe_lst (pa_cons pe_str (pa_cons pe_str (pa_cons pe_str pa_nil)))) (pe_op op_mod (pv 1) pe_int) (fun _ _ => rfl)))
      (pss_cons (ps_for PassesOwn.never rfl (pi_list (pe_slice (r := rSlL K) sl_list (pv 0) po_none (po_some (pe_un un_neg pe_int)))) (pg_name (i := 7) sc_law_told_by.nd rfl (Or.inl rfl)) (pss_one (Jl.ps_ifK (PW.pt (pw_and (pt_cmpR op_eq (pv 6) pe_str (nomark _)) (pw_and (pt_not (pt_val (pv 3))) (pw_and1 (pt_cmpR (op_inD (Jl.units65 hr)) (pe_tup (pa_cons (pv 5) (pa_cons pe_str pa_nil))) (pe_lc (own := [("_law_row", 8)]) (g := gName 8) (tt := tYes) rfl sc_law_told_by.nd (pi_list (pe_ix (r := rIxT K) ix_tup (pv 7) pe_int (fun _ _ => rfl))) (blkOk_by (own := [("_law_row", 8)]) (N := N_law_told_by) (sc := defScope s_law_told_by) (by decide +kernel)) (fun _ _ _ _ _ => pg_name (i := 8) sc_law_told_by.nd rfl (Or.inl rfl)) (fun _ _ _ _ _ => pts_nil) (fun _ _ _ _ _ => (pe_slice (r := rSlT K) sl_tup (pv 8) po_none (po_some pe_int)))) rfl))))) (pss_one (ps_set (i := 6) sc_law_told_by.nd rfl (Or.inl rfl) pe_str)) pss_nil)))
      (pss_one (ps_expr (pe_bm PySem.F.plainAttrs_list PySem.F.slot_list_append PySem.F.type_list_append mt_append (pe_ix (r := rIxT K) ix_tup (pv 4) pe_int (fun _ _ => rfl)) (pa_cons (pe_tup (pa_cons (pv 5) (pa_cons (pv 6) (pa_cons (pe_op op_sub (pe_callB (r := Jl.rLenL K) Jl.cl_lenL (by rfl) T.n_len (by decide +kernel) (pa_cons (pe_ix (r := rIxT K) ix_tup (pv 4) pe_int (fun _ _ => rfl)) pa_nil)) pe_int) (pa_cons (pe_callB (r := Jl.rLenL K) Jl.cl_lenL (by rfl) T.n_len (by decide +kernel) (pa_cons (pe_ix (r := rIxT K) ix_tup (pe_ix (r := rIxL K) ix_list (pe_ix (r := rIxT K) ix_tup (pv 4) pe_int (fun _ _ => rfl)) (pe_un un_neg pe_int) (fun _ _ => rfl)) pe_int (fun _ _ => rfl)) pa_nil)) pa_nil))))) pa_nil))))))))), ?_⟩
    show (_ : TS) _ [some (.ref P), some (.int c), some (.int nb), some (.bl strict), none, none, none, none, none] H
    obtain ⟨skind, sstep, sws, sfs⟩ := s
    obtain ⟨xs, t, S, N, nv, hP, hxs, hFt, hN, hnv, l⟩ := b.open_
    obtain ⟨sv, u, W, G, gv, g1, g2, g3, g4, g5, g6, cc⟩ := l.open_
    have bx := b.ext
    have ht := bx _ _ hFt
    have hu2 := bx _ _ g3
    have hnl := Jl.da_length hnv
    walk_at "w"
    refine Jl.s_ixL (.inl (.inl hP)) (atI_last _ _) ?_
    walk_at "w"
    have hnmok := Jl.nmT_ok nb (c / 9 % 12)
    generalize hname : Jl.nmT nb (c / 9 % 12) = name at *
    refine Jl.s_lcA (xs := nv) (fun i => (ns[i]?).bind fun n => some (PyData.str n.name)) (by omega) (fun R z => ?_) (fun i y D F1 H1 Rs Rn hi c1 hRs hRn => ?_) (fun pd H1 us s1 npd hpd hda => ?_)
    · walk_at "w"
      refine Jl.tup_at (i := 2) ht rfl ?_
      exact z _ _ (Same.refl _) (.inl (.inl hN))
    · obtain ⟨q, hq, hy⟩ := Jl.da_item (Jl.dps_same (bx.trans c1.same) hnv) hi
      obtain ⟨tq, rfl, htq⟩ := Jl.dp_nam hy
      show gName _ _ [_, _, _, _, _, _, _, _, _] H1 _
      walk_at "w"
      refine ⟨rfl, ?_⟩
      walk_at "w"
      refine Jl.s_ixT htq (i := 0) rfl ?_
      exact hRs _ F1 _ _ (Same.refl _) c1 (Same.refl _) (by rw [hq]; rfl) (.str _)
    rw [hnl, Jl.range_items, Jl.filterMap_some] at hda
    have hda : DpAll K H1 us ((ns.map (·.name)).map PyData.str) := by rw [List.map_map]; exact hda
    have eus := Jl.da_strs hda
    subst eus
    refine Jl.s_inStrs (.inl (.inl hpd)) ?_
    walk_at "w"
    refine Jl.s_iteD (fun gin => ?_) (fun gout => ?_)
    · walk_at "w"
      exact (k _).1 s1 gin
    walk_at "w"
    have b1 := b.same s1
    refine ⟨(by show 3 ≤ sizeLine; decide), fun p3 np3 => ?_⟩
    walk_at "w"
    obtain ⟨so, hso, hsok⟩ : ∃ so : Str, atI [V.str "tell", V.str "weak", V.str "own"] (c % 3) = some (.str so) ∧ (so = "tell" ∨ so = "weak" ∨ so = "own") := by
      have hc : c % 3 = 0 ∨ c % 3 = 1 ∨ c % 3 = 2 := by omega
      rcases hc with hc | hc | hc
      · rw [hc]; exact ⟨_, rfl, .inl rfl⟩
      · rw [hc]; exact ⟨_, rfl, .inr (.inl rfl)⟩
      · rw [hc]; exact ⟨_, rfl, .inr (.inr rfl)⟩
    refine Jl.s_ixL Jl.sqU hso ?_
    have s2 := s1.trans (Jl.same_upd (o := .lst [.str "tell", .str "weak", .str "own"]) np3)
    generalize upd H1 p3 (.lst [.str "tell", .str "weak", .str "own"]) = H2 at *
    walk_at "w"
    have hP2 := s2 _ _ hP
    refine Jl.s_seq (Jl.s_forN2 (xs := xs) (fun i σ' H' => Same H2 H' ∧ ∃ (so : Str) (v : Option V), (so = "tell" ∨ so = "weak" ∨ so = "own") ∧ (strict = false → so = "tell" → ∀ q ∈ ps0.take i, ∀ m ∈ q.names, m.name = name → ¬ m.sort = "tell") ∧ σ' = [some (.ref P), some (.int c), some (.int nb), some (.bl strict), some (.ref t), some (.str name), some (.str so), v, none]) (fun R z => ?_) (fun H3 s3 => ⟨s3, so, none, hsok, fun _ _ q hq => (by rw [List.take_zero] at hq; cases hq), rfl⟩) (fun i x σ' H3 hx h => ?_) (fun σ' H3 h => ?_))
    · walk_at "w"
      refine ⟨P, _, rfl, .inl (.inl hP2), fun p4 np4 => ?_⟩
      have ecut : cutV (xs ++ [V.ref t]) none (some (-1)) = xs := by
        unfold cutV
        rw [HT.sIx_none]
        have e : HT.sIx (xs ++ [V.ref t]).length (xs ++ [V.ref t]).length (some (-1)) = xs.length := by
          show ((-1 : Int) + ((xs ++ [V.ref t]).length : Int)).toNat = xs.length
          rw [List.length_append, List.length_singleton]; omega
        rw [e, List.drop_zero, Nat.sub_zero, List.take_left]
      rw [ecut]
      exact z p4 _ (Jl.same_upd np4) np4 upd_same
    · obtain ⟨s3, so, v, hsok, hsp, rfl⟩ := h
      simp only [List.set_cons_zero, List.set_cons_succ]
      have s23 := s2.trans s3
      obtain ⟨q, hq, hyq⟩ := Jl.da_item (Jl.dps_same (bx.trans s23) hxs) hx
      obtain ⟨tq, Sq, Nq, sq, nq, rfl, htq, -, -, hNq, hnq⟩ := Jl.dp_piece hyq
      have hqm := List.mem_of_getElem? hq
      have hnql := Jl.da_length hnq
      have hq3 := h3 q hqm
      have hqok := ok q hqm
      have e3 : ps0.take (i + 1) = ps0.take i ++ [q] := by rw [List.take_add_one, hq]; rfl
      refine Jl.s_ifKh (P := so = "tell" ∧ strict = false ∧ ∃ m ∈ q.names, m.name = name ∧ m.sort = "tell") (fun σ' H' => Same H3 H' ∧ ∃ so' : Str, (so' = "tell" ∨ so' = "weak" ∨ so' = "own") ∧ (strict = false → so' = "tell" → ∀ q ∈ ps0.take (i + 1), ∀ m ∈ q.names, m.name = name → ¬ m.sort = "tell") ∧ σ' = [some (.ref P), some (.int c), some (.int nb), some (.bl strict), some (.ref t), some (.str name), some (.str so'), some (.ref tq), none]) (fun TT t1 t2 => ?_) (fun hp H4 N s4 hN => ?_) (fun hp H4 N s4 hN => ?_) (fun σ' H4 hM => ?_)
      · walk_at "w"
        refine Jl.s_iteD (fun q1 => ?_) (fun q1 => ?_)
        rotate_left
        · exact t2 _ (Same.refl _) fun z => q1 z.1
        walk_at "w"
        cases strict with
        | true =>
          walk_at "w"
          exact t2 _ (Same.refl _) fun z => by cases z.2.1
        | false =>
          walk_at "w"
          refine ⟨(by show 2 ≤ sizeLine; decide), fun p5 np5 => ?_⟩
          have s5 := Jl.same_upd (o := .tup [.str name, .str "tell"]) np5
          have hp5 : (upd H3 p5 (.tup [.str name, .str "tell"])) p5 = some (.tup [.str name, .str "tell"]) := upd_same
          generalize upd H3 p5 (.tup [.str name, .str "tell"]) = H5 at *
          walk_at "w"
          refine Jl.s_lcA (xs := nq) (fun i => (q.names[i]?).bind fun n => some (PyData.tuple [.str n.name, .str n.sort])) (by omega) (fun R z => ?_) (fun i y D F1 H6 Rs Rn hi c1 hRs hRn => ?_) (fun pd H6 us s6 npd hpd hda => ?_)
          · walk_at "w"
            refine Jl.s_ixT (Jl.sameT s5 htq) (i := 2) rfl ?_
            exact z _ _ (Same.refl _) (s5.seq hNq)
          · obtain ⟨m, hm, hy⟩ := Jl.da_item (Jl.dps_same (s5.trans c1.same) hnq) hi
            obtain ⟨tm, rfl, htm⟩ := Jl.dp_nam hy
            show gName _ _ [_, _, _, _, _, _, _, _, _] H6 _
            walk_at "w"
            refine ⟨rfl, ?_⟩
            walk_at "w"
            refine ⟨tm, _, rfl, htm, (fun h => absurd (show (2 : Nat) = 4 from h.2) (by decide)), fun p7 np7 => ?_⟩
            have ecut : cutV [.str m.name, .str m.sort, .int m.stre, .int m.off] none (some 2) = [.str m.name, .str m.sort] := rfl
            rw [ecut]
            refine hRs _ _ _ (PyData.tuple [.str m.name, .str m.sort]) (Jl.same_upd (c1.ext.free np7)) (c1.new np7) (Jl.same_upd np7) (by rw [hm]; rfl) ?_
            exact .tup (.inl (.inl upd_same)) (.cons (.str _) (.cons (.str _) .nil))
          · rw [hnql, Jl.range_items, Jl.filterMap_some] at hda
            refine ⟨.tuple [.str name, .str "tell"], _, .tup (.inl (.inl (s6 _ _ hp5))) (.cons (.str _) (.cons (.str _) .nil)), .lst (.inl (.inl hpd)) hda, ?_, ?_, ?_⟩
            · refine Jl.shaped_of ?_ ?_
              · show ((PyData.str name).canLay0 && ((PyData.str "tell").canLay0 && true)) = true
                rw [hnmok]; decide +kernel
              · show max 0 (max 0 0) + 1 ≤ 64
                omega
            · refine Jl.shaped_of (Jl.lay_map (n := 1) fun m hm => ⟨?_, ?_⟩).1 (Nat.le_trans (Jl.lay_map (n := 1) fun m hm => ⟨?_, ?_⟩).2 (by decide))
              · have := hqok.2.2 m hm
                show ((PyData.str m.name).canLay0 && ((PyData.str m.sort).canLay0 && true)) = true
                rw [this.1, this.2]; rfl
              · show max 0 (max 0 0) + 1 ≤ 1
                omega
              · have := hqok.2.2 m hm
                show ((PyData.str m.name).canLay0 && ((PyData.str m.sort).canLay0 && true)) = true
                rw [this.1, this.2]; rfl
              · show max 0 (max 0 0) + 1 ≤ 1
                omega
            · have s56 := s5.trans s6
              have eany : (q.names.map fun n => PyData.tuple [.str n.name, .str n.sort]).any (fun z => PyData.eqv z (.tuple [.str name, .str "tell"])) = decide (∃ m ∈ q.names, m.name = name ∧ m.sort = "tell") := by
                rw [List.any_map, Bool.eq_iff_iff, List.any_eq_true, decide_eq_true_iff]
                constructor
                · rintro ⟨m, hm, e⟩
                  have e : ((m.name == name) && ((m.sort == "tell") && true)) = true := e
                  rw [Bool.and_true, Bool.and_eq_true, beq_iff_eq, beq_iff_eq] at e
                  exact ⟨m, hm, e⟩
                · rintro ⟨m, hm, e⟩
                  refine ⟨m, hm, ?_⟩
                  show ((m.name == name) && ((m.sort == "tell") && true)) = true
                  rw [Bool.and_true, Bool.and_eq_true, beq_iff_eq, beq_iff_eq]
                  exact e
              rw [eany]
              refine ⟨_, rfl, ?_⟩
              by_cases gx : ∃ m ∈ q.names, m.name = name ∧ m.sort = "tell"
              · rw [decide_eq_true gx]; exact t1 _ s56 ⟨q1, rfl, gx⟩
              · rw [decide_eq_false gx]; exact t2 _ s56 fun z => gx z.2.2
      · walk_at "w"
        exact hN _ _ ⟨s4, "weak", .inr (.inl rfl), fun _ z => absurd z (by decide +kernel), rfl⟩
      · walk_at "w"
        refine hN _ _ ⟨s4, so, hsok, fun z1 z2 q' hq' m hm e => ?_, rfl⟩
        rw [e3] at hq'
        rcases List.mem_append.mp hq' with hq' | hq'
        · exact hsp z1 z2 q' hq' m hm e
        · cases List.mem_singleton.mp hq'
          exact fun e2 => hp ⟨z2, z1, m, hm, e, e2⟩
      · obtain ⟨s4, so', ho1, ho2, rfl⟩ := hM
        exact ⟨s4, s3.trans s4, so', _, ho1, ho2, rfl⟩
    obtain ⟨s3, so, v, hsok, hsp, rfl⟩ := h
    have hxl := Jl.da_length hxs
    rw [hxl, List.take_length] at hsp
    have s23 := s2.trans s3
    have b3 := b.same s23
    have ht3 := s23 _ _ ht
    have hN3 := s23 _ _ hN
    have g13 := s23 _ _ g1
    have hu3 := s23 _ _ hu2
    have g43 := s23 _ _ g4
    have hsl := Jl.da_length g2
    walk_at "w"
    refine Jl.tup_at (i := 2) ht3 rfl ?_
    walk_at "w"
    refine Jl.tup_at (i := 1) ht3 rfl ?_
    walk_at "w"
    refine Jl.s_lenL (.inl (.inl g13)) ?_
    rw [List.length_append, List.length_singleton, hsl]
    walk_at "w"
    refine Jl.tup_at (i := 1) ht3 rfl ?_
    walk_at "w"
    refine Jl.s_ixL (.inl (.inl g13)) (atI_last _ _) ?_
    walk_at "w"
    refine Jl.tup_at (i := 2) hu3 rfl ?_
    walk_at "w"
    refine Jl.s_lenL (.inl (.inl g43)) ?_
    rw [List.length_map]
    walk_at "w"
    refine ⟨(by show 4 ≤ sizeLine; decide), fun pn npn => ?_⟩
    rw [show ((ss0.length + 1 : Nat) : Int) - 1 = (ss0.length : Int) by omega]
    obtain ⟨b4, f4⟩ := b3.new (o := .tup [.str name, .str so, .int (ss0.length : Int), .int (sws.length : Int)]) npn
    obtain ⟨xs', t', S', N', nv', hP4, ht4, hN4, hnl4, b5⟩ := b4.nam (n := ⟨name, so, ss0.length, sws.length⟩) upd_same
    have et : t' = t := by
      have h1 := Jl.same_upd (o := .tup [.str name, .str so, .int (ss0.length : Int), .int (sws.length : Int)]) npn _ _ (s23 _ _ hP)
      rw [hP4] at h1
      have h2 : xs' ++ [V.ref t'] = xs ++ [V.ref t] := by injection h1 with h1; injection h1
      obtain ⟨-, h3⟩ := List.append_inj' h2 rfl
      cases h3; rfl
    subst et
    have eN : N' = N := by
      have h1 := Jl.same_upd (o := .tup [.str name, .str so, .int (ss0.length : Int), .int (sws.length : Int)]) npn _ _ ht3
      rw [ht4] at h1
      cases h1; rfl
    subst eN
    refine Jl.s_nil ?_
    refine Jl.s_append hN4 ?_ (Jl.small5' (by omega))
    exact (k _).2 _ so f4 b5 gout hsok hsp
/-! ### _law_drawn -/
theorem len_sum : ∀ ss : List Jl.Stre, ss.length ≤ (ss.map Jl.wtS).sum
  | [] => Nat.le_refl _
  | s :: ss => by
    have := len_sum ss
    rw [List.map_cons, List.sum_cons, List.length_cons]
    have h : 1 ≤ Jl.wtS s := Nat.le_add_right _ _
    omega
def sp_law_drawn (K : PySem.W.Frag) : Sp := fun vs H Q _ => ∃ (a : Addr) (cs : List Int) (nb tb : Int) (strict : Bool), vs = [.ref a, .int nb, .int tb, .bl strict] ∧ SqL K H a (cs.map V.int) ∧ cs.length ≤ 1000 ∧ ∀ (H' F : Hp) (P : Addr) (xs : List V) (ps : List Jl.Piece), Jl.Act H F H' [P] → H' P = some (.lst xs) → DpAll K F xs (ps.map Jl.pieceD) → Jl.Drawn nb tb strict cs.length ps → Q (.ref P) H'
theorem use_drawn {K : PySem.W.Frag} {a : Addr} {cs : List Int} {nb tb : Int} {strict : Bool} {H : Hp} {Q : VK} {E : XK} (hS : SqL K H a (cs.map V.int)) (hcl : cs.length ≤ 1000) (z : ∀ (H' F : Hp) (P : Addr) (xs : List V) (ps : List Jl.Piece), Jl.Act H F H' [P] → H' P = some (.lst xs) → DpAll K F xs (ps.map Jl.pieceD) → Jl.Drawn nb tb strict cs.length ps → Q (.ref P) H') : sp_law_drawn K [.ref a, .int nb, .int tb, .bl strict] H Q E := ⟨a, cs, nb, tb, strict, rfl, hS, hcl, z⟩
theorem ok_law_drawn (T : Txt K mg) (B : LamX.TabB base mg T.c_by_title T.P_by_title) : FnOk P w K mg base CX0 3 T.a_law_drawn T.d_law_drawn ["_law_cells", "_law_names_by", "_law_titles_by", "_law_strict"] (sp_law_drawn K) := by
  have G_law_name_by := ok_law_name_by (P := P) (w := w) (base := base) T B
  have G_law_word_row := ok_law_word_row (P := P) (w := w) (base := base) T B
  have G_law_told_by := ok_law_told_by (P := P) (w := w) (base := base) T B
  refine T.F_law_drawn.ok sc_law_drawn (fun vs H Q E h => ?_) (fun cdv A outer s H vs Q E hr h => ?_)
  · obtain ⟨a, cs, nb, tb, strict, rfl, hS, hcl, k⟩ := h
    rfl
  · obtain ⟨a, cs, nb, tb, strict, rfl, hS, hcl, k⟩ := h
    have hu := hu_of hr
    refine ⟨_, (pss_cons (ps_set (i := 4) sc_law_drawn.nd rfl (Or.inl rfl) (pe_lst pa_nil))
      (pss_cons (ps_for PassesOwn.never rfl (pi_list (pv 0)) (pg_name (i := 5) sc_law_drawn.nd rfl (Or.inl rfl)) (pss_cons (ps_set (i := 6) sc_law_drawn.nd rfl (Or.inl rfl) (pe_op op_mod (pv 5) pe_int))
      (pss_one (Jl.ps_ifK (PW.pt (pw_or (PW.pt (pw_and (pt_cmpR op_eq (pv 6) pe_int (nomark _)) (pw_and1 (pt_cmpR op_lt (pe_callB (r := Jl.rLenL K) Jl.cl_lenL (by rfl) T.n_len (by decide +kernel) (pa_cons (pv 4) pa_nil)) pe_int (nomark _))))) (pw_or1 (pt_cmpR (op_eqD hr.units) (pv 4) (pe_lst pa_nil) (nomark _))))) (pss_one (ps_expr (pe_bm PySem.F.plainAttrs_list PySem.F.slot_list_append PySem.F.type_list_append mt_append (pv 4) (pa_cons (pe_tup (pa_cons (pe_call (G_law_name_by) (hr.mono (by decide)) rfl T.m_law_name_by T.F_law_name_by.kp T.b_law_name_by .nil pass0 (pa_cons (pv 2) (pa_cons (pe_callB (r := Jl.rLenL K) Jl.cl_lenL (by rfl) T.n_len (by decide +kernel) (pa_cons (pv 4) pa_nil)) pa_nil))) (pa_cons (pe_lst pa_nil) (pa_cons (pe_lst pa_nil) pa_nil)))) pa_nil)))) (pss_one (Jl.ps_ifK (PW.pt (pw_or (pt_cmpR op_lt (pv 6) pe_int (nomark _)) (pw_or1 (pt_cmpR (op_eqD hr.units) (pe_ix (r := rIxT K) ix_tup (pe_ix (r := rIxL K) ix_list (pv 4) (pe_un un_neg pe_int) (fun _ _ => rfl)) pe_int (fun _ _ => rfl)) (pe_lst pa_nil) (nomark _))))) (pss_cons (ps_set (i := 7) sc_law_drawn.nd rfl (Or.inl rfl) (pe_ix (r := rIxL K) ix_list (pe_lst (pa_cons pe_int (pa_cons pe_int (pa_cons pe_int (pa_cons pe_int (pa_cons pe_int (pa_cons pe_int pa_nil))))))) (pe_op op_mod (pe_op op_fdiv (pv 5) pe_int) pe_int) (fun _ _ => rfl)))
      (pss_one (ps_expr (pe_bm PySem.F.plainAttrs_list PySem.F.slot_list_append PySem.F.type_list_append mt_append (pe_ix (r := rIxT K) ix_tup (pe_ix (r := rIxL K) ix_list (pv 4) (pe_un un_neg pe_int) (fun _ _ => rfl)) pe_int (fun _ _ => rfl)) (pa_cons (pe_tup (pa_cons (pe_ix (r := rIxL K) ix_list (pe_lst (pa_cons pe_str (pa_cons pe_str pa_nil))) (pe_op op_mod (pe_op op_fdiv (pv 5) pe_int) pe_int) (fun _ _ => rfl)) (pa_cons (pv 7) (pa_cons (pe_lst pa_nil) (pa_cons (pe_lst pa_nil) pa_nil))))) pa_nil))))) (pss_one (ps_if (pt_cmpR op_lt (pv 6) pe_int (nomark _)) (pss_cons (ps_set (i := 8) sc_law_drawn.nd rfl (Or.inl rfl) (pe_ix (r := rIxL K) ix_list (pe_ix (r := rIxT K) ix_tup (pe_ix (r := rIxL K) ix_list (pv 4) (pe_un un_neg pe_int) (fun _ _ => rfl)) pe_int (fun _ _ => rfl)) (pe_un un_neg pe_int) (fun _ _ => rfl)))
      (pss_cons (ps_set (i := 9) sc_law_drawn.nd rfl (Or.inl rfl) (pe_call (G_law_word_row) (hr.mono (by decide)) rfl T.m_law_word_row T.F_law_word_row.kp T.b_law_word_row .nil pass0 (pa_cons (pv 5) (pa_cons (pv 1) pa_nil))))
      (pss_cons (ps_if (pt_cmpR Jl.op_notN1 (pv 9) pe_non (nomark _)) (pss_one (ps_expr (pe_bm PySem.F.plainAttrs_list PySem.F.slot_list_append PySem.F.type_list_append mt_append (pe_ix (r := rIxT K) ix_tup (pv 8) pe_int (fun _ _ => rfl)) (pa_cons (pe_op op_catT (pe_tup (pa_cons (pe_callB (r := Jl.rLenL K) Jl.cl_lenL (by rfl) T.n_len (by decide +kernel) (pa_cons (pe_ix (r := rIxT K) ix_tup (pv 8) pe_int (fun _ _ => rfl)) pa_nil)) pa_nil)) (pv 9)) pa_nil)))) pss_nil)
      (pss_one (ps_expr (pe_bm PySem.F.plainAttrs_list PySem.F.slot_list_append PySem.F.type_list_append mt_append (pe_ix (r := rIxT K) ix_tup (pv 8) pe_int (fun _ _ => rfl)) (pa_cons (pe_op op_mod (pe_op op_mul (pv 5) pe_int) pe_int) pa_nil))))))) (pss_one (ps_expr (pe_call (G_law_told_by) (hr.mono (by decide)) rfl T.m_law_told_by T.F_law_told_by.kp T.b_law_told_by .nil pass0 (pa_cons (pv 4) (pa_cons (pv 5) (pa_cons (pv 1) (pa_cons (pv 3) pa_nil)))))))))))))))
      (pss_one (ps_ret (pv 4))))), ?_⟩
    show (_ : TS) _ [some (.ref a), some (.int nb), some (.int tb), some (.bl strict), none, none, none, none, none, none] H
    walk_at "w"
    refine ⟨by decide, fun P nP => ?_⟩
    have c1 := (Jl.Act.start H).newA (o := .lst []) nP
    have b0 : Jl.BP K H H (upd H P (.lst [])) P [] [] := .inl ⟨rfl, upd_same, c1⟩
    generalize upd H P (.lst []) = H1 at *
    walk_at "w"
    refine Jl.s_seq (Jl.s_forL (xs := cs.map V.int) (fun i σ' H' => ∃ F ps, Jl.BP K H F H' P [] ps ∧ Jl.Drawn nb tb strict i ps ∧ ∃ v1 v2 v3 v4 v5, σ' = [some (.ref a), some (.int nb), some (.int tb), some (.bl strict), some (.ref P), v1, v2, v3, v4, v5]) H1 (fun R z => ?_) (b0.base.trans b0.ext |>.seq hS) ⟨H, [], b0, Jl.Drawn.nil, none, none, none, none, none, rfl⟩ (fun i σ' H' _ h => ?_) (fun i x σ' H2 hx h => ?_) (fun σ' H2 h => ?_))
    · walk_at "w"
      exact z
    · obtain ⟨F, ps, b, _⟩ := h
      exact (b.base.trans b.ext).seq hS
    rotate_left
    · obtain ⟨F, ps, b, D, v1, v2, v3, v4, v5, rfl⟩ := h
      rw [List.length_map] at D
      obtain ⟨F', xs, f1, c, hP, hxs⟩ := b.close
      walk_at "w"
      exact k _ F' P xs ps c hP hxs D
    obtain ⟨F, ps, b, D, v1, v2, v3, v4, v5, rfl⟩ := h
    obtain ⟨c, _, rfl⟩ := Jl.ints_get hx
    have hi : i < cs.length := by
      have := (List.getElem?_eq_some_iff.mp hx).1
      rw [List.length_map] at this; exact this
    simp only [List.set_cons_zero, List.set_cons_succ]
    have hsh := Jl.pieces_shaped D.ok
    walk_at "w"
    obtain ⟨vs, hP, hvl⟩ := b.listP
    refine Jl.s_ifKh (P := (c % 9 = 0 ∧ ps.length < 12) ∨ ps = []) (fun σ' H' => ∃ F ps, Jl.BP K H F H' P [] ps ∧ Jl.Drawn nb tb strict (i + 1) ps ∧ ∃ v1 v2 v3 v4 v5, σ' = [some (.ref a), some (.int nb), some (.int tb), some (.bl strict), some (.ref P), v1, v2, v3, v4, v5]) (fun T t1 t2 => ?_) (fun hp H3 N s3 hN => ?_) (fun hp H3 N s3 hN => ?_) (fun σ' H' h => h)
    · have nil_ : ∀ TT : Bool → Hp → Prop, (∀ H', Same H2 H' → ps = [] → TT true H') → (∀ H', Same H2 H' → ¬ ps = [] → TT false H') → ∀ q, H2 q = none → rEqD K (.ref P) (.ref q) (upd H2 q (.lst [])) fun x H1 => ∃ k, x = .bl k ∧ TT k H1 := fun TT z1 z2 q nq => by
        have s1 := Jl.same_upd (o := .lst []) nq
        refine Jl.s_eqNilP (Jl.dp_same s1 b.dp) hsh upd_same ⟨_, rfl, ?_⟩
        by_cases g : ps = []
        · rw [decide_eq_true (show ps.map Jl.pieceD = [] by rw [g]; rfl)]; exact z1 _ s1 g
        · rw [decide_eq_false (fun z => g (List.map_eq_nil_iff.mp z))]; exact z2 _ s1 g
      walk_at "w"
      refine Jl.s_iteD (fun g1 => ?_) (fun g1 => ?_)
      · walk_at "w"
        refine Jl.s_lenL (.inl (.inl hP)) ?_
        rw [hvl]
        walk_at "w"
        refine Jl.s_iteD (fun g2 => ?_) (fun g2 => ?_)
        · exact t1 _ (Same.refl _) (.inl ⟨g1, by omega⟩)
        · walk_at "w"
          refine ⟨by decide, fun q nq => ?_⟩
          exact nil_ T (fun _ s g => t1 _ s (.inr g)) (fun _ s g => t2 _ s fun z => z.elim (fun z => g2 (by omega)) g) q nq
      · walk_at "w"
        refine ⟨by decide, fun q nq => ?_⟩
        exact nil_ T (fun _ s g => t1 _ s (.inr g)) (fun _ s g => t2 _ s fun z => z.elim (fun z => g1 z.1) g) q nq
    · have hl12 : ps.length < 12 := by
        rcases hp with h | h
        · exact h.2
        · rw [h]; decide
      have b3 := b.same s3
      have hP3 := s3 _ _ hP
      walk_at "w"
      refine Jl.s_lenL (.inl (.inl hP3)) ?_
      rw [hvl]
      walk_at "w"
      refine ⟨by decide, fun S nS => ?_⟩
      walk_at "w"
      refine ⟨by decide, fun Nn nN => ?_⟩
      walk_at "w"
      refine ⟨(by show 3 ≤ sizeLine; decide), fun tn ntn => ?_⟩
      obtain ⟨xs, hPx, hxl, hP4, F', f4, b4⟩ := b3.piece (nm := Jl.nmT tb (ps.length : Int)) nS nN ntn
      refine Jl.s_nil ?_
      refine Jl.s_append hP4 ?_ (Jl.small5' (by omega))
      exact hN _ _ ⟨F', _, b4, D.piece hl12, _, _, _, _, _, rfl⟩
    have hne : ps ≠ [] := fun h => hp (.inr h)
    obtain ⟨ps0, p, rfl⟩ : ∃ ps0 p, ps = ps0 ++ [p] := by
      rcases List.eq_nil_or_concat ps with h | ⟨l, x, h⟩
      · exact absurd h hne
      · exact ⟨l, x, by rw [h, List.concat_eq_append]⟩
    obtain ⟨nm, ss, ns'⟩ := p
    have b3 := b.same s3
    clear b hP hvl hp hne hsh
    have hw := D.wts
    rw [List.map_append, List.sum_append] at hw
    have hwp : Jl.wt ⟨nm, ss, ns'⟩ = 1 + ns'.length + (ss.map Jl.wtS).sum := rfl
    have hw1 : ([(⟨nm, ss, ns'⟩ : Jl.Piece)].map Jl.wt).sum = Jl.wt ⟨nm, ss, ns'⟩ := by simp
    have hpok := D.ok ⟨nm, ss, ns'⟩ (List.mem_append_right _ (List.mem_singleton.mpr rfl))
    obtain ⟨xs, t, S, Nn, nv, hP, hxs, hFt, hNn, hnv, l⟩ := b3.open_
    have ht := b3.ext _ _ hFt
    obtain ⟨sv, hS1, hsv⟩ := l.list
    have hSd := l.dp
    refine Jl.s_ifKh (P := c % 9 < 2 ∨ ss = []) (fun σ' H' => ∃ F ps, Jl.BP K H F H' P [] ps ∧ Jl.Drawn nb tb strict (i + 1) ps ∧ ∃ v1 v2 v3 v4 v5, σ' = [some (.ref a), some (.int nb), some (.int tb), some (.bl strict), some (.ref P), v1, v2, v3, v4, v5]) (fun T t1 t2 => ?_) (fun hp H4 N4 s4 hN4 => ?_) (fun hp H4 N4 s4 hN4 => ?_) (fun σ' H' h => hN _ _ h)
    · walk_at "w"
      refine Jl.s_iteD (fun g1 => ?_) (fun g1 => ?_)
      · exact t1 _ (Same.refl _) (.inl g1)
      · walk_at "w"
        refine Jl.s_ixL (.inl (.inl hP)) (atI_last _ _) ?_
        walk_at "w"
        refine Jl.tup_at (i := 1) ht rfl ?_
        walk_at "w"
        refine ⟨by decide, fun q nq => ?_⟩
        have s1 := Jl.same_upd (o := .lst []) nq
        refine Jl.s_eqNilP (Jl.dp_same s1 hSd) (Jl.stres_shaped hpok.2.1) upd_same ⟨_, rfl, ?_⟩
        by_cases g : ss = []
        · rw [decide_eq_true (show ss.map Jl.streD = [] by rw [g]; rfl)]; exact t1 _ s1 (.inr g)
        · rw [decide_eq_false (fun z => g (List.map_eq_nil_iff.mp z))]; exact t2 _ s1 fun z => z.elim g1 g
    · have b4 := b3.same s4
      walk_at "w"
      refine ⟨(by show 6 ≤ sizeLine; decide), fun p5 np5 => ?_⟩
      walk_at "w"
      obtain ⟨st, stm, hst⟩ := Jl.atI_in (ns := [1, 1, 2, 4, 16, 65536]) (i := c / 9 % 6) (by show (-6 : Int) ≤ _; omega) (by show _ < (6 : Int); omega)
      have hst0 : 0 < st ∧ st ≤ 65536 := by
        simp only [List.mem_cons, List.not_mem_nil, or_false] at stm
        omega
      refine Jl.s_ixL (xs := [1, 1, 2, 4, 16, 65536].map V.int) Jl.sqU hst ?_
      have s5 := s4.trans (Jl.same_upd (o := .lst [.int 1, .int 1, .int 2, .int 4, .int 16, .int 65536]) np5)
      generalize upd H4 p5 (.lst [.int 1, .int 1, .int 2, .int 4, .int 16, .int 65536]) = H5 at *
      walk_at "w"
      refine Jl.s_ixL (.inl (.inl (s5 _ _ hP))) (atI_last _ _) ?_
      walk_at "w"
      refine Jl.tup_at (i := 1) (s5 _ _ ht) rfl ?_
      refine Jl.s_tyL (s5 _ _ hS1) ?_
      walk_at "w"
      refine ⟨(by show 2 ≤ sizeLine; decide), fun p6 np6 => ?_⟩
      walk_at "w"
      obtain ⟨kd, hkd, hkok⟩ : ∃ kd : Str, atI [V.str "code", V.str "data"] (c / 54 % 2) = some (.str kd) ∧ Jl.isKind kd := by
        have hc : c / 54 % 2 = 0 ∨ c / 54 % 2 = 1 := by omega
        rcases hc with hc | hc
        · rw [hc]; exact ⟨_, rfl, .inl rfl⟩
        · rw [hc]; exact ⟨_, rfl, .inr rfl⟩
      refine Jl.s_ixL Jl.sqU hkd ?_
      have s6 := s5.trans (Jl.same_upd (o := .lst [.str "code", .str "data"]) np6)
      generalize upd H5 p6 (.lst [.str "code", .str "data"]) = H6 at *
      have b6 := b3.same s6
      walk_at "w"
      refine ⟨by decide, fun W nW => ?_⟩
      walk_at "w"
      refine ⟨by decide, fun G nG => ?_⟩
      walk_at "w"
      refine ⟨(by show 4 ≤ sizeLine; decide), fun u nu => ?_⟩
      obtain ⟨xs', t', S', N', sv', hP', ht', hS', hsl', hS4, F', f4, b7⟩ := b6.stre (kind := kd) (step := st) nW nG nu
      obtain ⟨-, rfl⟩ := Jl.last_uniq (s6 _ _ hP) hP'
      have eS : S' = S := by
        rw [s6 _ _ ht] at ht'
        cases ht'; rfl
      subst eS
      refine Jl.s_nil ?_
      refine Jl.s_append hS4 ?_ (Jl.small5' (by rw [hsl']; have : ss.length ≤ (ss.map Jl.wtS).sum := len_sum ss; omega))
      refine hN4 _ _ ⟨F', _, b7, D.last (fun h => h.stre (Jl.GS.new hkok hst0)) ?_ (fun _ h => h), _, _, _, _, _, rfl⟩
      show 1 + ns'.length + ((ss ++ [_]).map Jl.wtS).sum ≤ 1 + ns'.length + (ss.map Jl.wtS).sum + 1
      rw [Jl.sum_app1]
      exact Nat.le_refl _
    have hne : ss ≠ [] := fun h => hp (.inr h)
    obtain ⟨ss0, s, rfl⟩ : ∃ ss0 s, ss = ss0 ++ [s] := by
      rcases List.eq_nil_or_concat ss with h | ⟨l, x, h⟩
      · exact absurd h hne
      · exact ⟨l, x, by rw [h, List.concat_eq_append]⟩
    obtain ⟨skind, sstep, sws, sfs⟩ := s
    have b4 := b3.same s4
    walk_at "w"
    refine Jl.s_iteD (fun g6 => ?_) (fun g6 => ?_)
    · obtain ⟨sv0, u, W, G, gv, g1, g2, g3, g4, g5, g6', cc⟩ := l.open_
      have hu2 := b3.ext _ _ g3
      have hgl := Jl.da_length g6'
      have hP4 := s4 _ _ hP
      have ht4 := s4 _ _ ht
      have g14 := s4 _ _ g1
      have hw0 : 0 ≤ c * 48271 % 4294967296 ∧ c * 48271 % 4294967296 < 4294967296 := by omega
      have hsw : sws.length ≤ 2000 ∧ sfs.length ≤ 2000 := by
        have h1 := (Jl.sum_app1 (ss0 := ss0) (s := ⟨skind, sstep, sws, sfs⟩))
        have h2 : Jl.wtS ⟨skind, sstep, sws, sfs⟩ = 1 + sws.length := rfl
        have h3 : sfs.length ≤ sws.length := ((D.each ps0.length _ (by rw [List.getElem?_append_right (Nat.le_refl _), Nat.sub_self]; rfl)).stres _ (List.mem_append_right _ (List.mem_singleton.mpr rfl))).few
        omega
      have fin : ∀ (H' F' : Hp) (fs' : List Jl.Fill), (fs' = sfs ∨ ∃ f : Jl.Fill, fs' = sfs ++ [f] ∧ f.at_ = sws.length ∧ Jl.isRule5 f.rule ∧ (f.soft = true → f.rule = "whole" ∨ f.rule = "high" ∨ f.rule = "low") ∧ Jl.nmOf nb f.name ∧ (-2147483648 ≤ f.add ∧ f.add ≤ 2147483647)) → Jl.Drawn nb tb strict (i + 1) (ps0 ++ [⟨nm, ss0 ++ [⟨skind, sstep, sws ++ [c * 48271 % 4294967296], fs'⟩], ns'⟩]) := fun H' F' fs' hf => by
        refine D.last (fun h => h.last ?_ ?_) ?_ (fun _ h => h)
        · have hg := h.stres _ (List.mem_append_right _ (List.mem_singleton.mpr rfl))
          rcases hf with rfl | ⟨f, rfl, e1, e2, e3, e4, e5⟩
          · exact hg.word hw0
          · exact hg.fill hw0 e1 e2 e3 e4 e5
        · show sws.length ≤ (sws ++ [_]).length
          rw [List.length_append]; omega
        · unfold Jl.wt
          simp only [Jl.sum_app1]
          unfold Jl.wtS
          simp only [List.length_append, List.length_singleton]
          omega
      walk_at "w"
      refine Jl.s_ixL (.inl (.inl hP4)) (atI_last _ _) ?_
      walk_at "w"
      refine Jl.tup_at (i := 1) ht4 rfl ?_
      walk_at "w"
      refine Jl.s_ixL (.inl (.inl g14)) (atI_last _ _) ?_
      walk_at "w"
      by_cases h9 : c % 9 = 2
      · refine use_word_row (.inl ⟨h9, fun H5 s5 => ?_⟩)
        have s45 := s4.trans s5
        have b5 := b3.same s45
        have hu5 := s45 _ _ hu2
        have g45 := s45 _ _ g4
        walk_at "w"
        refine Jl.tup_at (i := 2) hu5 rfl ?_
        obtain ⟨xs', t', S', N', sv', u', W', G', hP', ht', hS', hu', hW', bw⟩ := b5.word
        obtain ⟨-, rfl⟩ := Jl.last_uniq (s45 _ _ hP) hP'
        have eS : S' = S := by rw [s45 _ _ ht] at ht'; cases ht'; rfl
        subst eS
        obtain ⟨-, rfl⟩ := Jl.last_uniq (s45 _ _ g1) hS'
        have eW : W' = W := by rw [hu5] at hu'; cases hu'; rfl
        subst eW
        walk_at "w"
        · exact hN4 _ _ ⟨F, _, bw _, fin H F _ (.inl rfl), _, _, _, _, _, rfl⟩
        · rw [List.length_map]; exact Jl.small5' (by omega)
      · refine use_word_row (.inr ⟨h9, fun H5 t5 r nmx add soft j s5 nt5 ht5 hr5 hs5 hj hnm hadd => ?_⟩)
        have s45 := s4.trans s5
        have hu5 := s45 _ _ hu2
        have g45 := s45 _ _ g4
        have g55 := s45 _ _ g5
        walk_at "wd"
        refine Jl.tup_at (i := 3) hu5 rfl ?_
        refine Jl.s_tyL g55 ?_
        walk_at "w"
        refine Jl.tup_at (i := 2) hu5 rfl ?_
        walk_at "w"
        refine Jl.s_lenL (.inl (.inl g45)) ?_
        rw [List.length_map]
        walk_at "w"
        refine ⟨(by show 1 ≤ sizeLine; decide), fun p1 np1 => ?_⟩
        have s6 := Jl.same_upd (o := .tup [.int (sws.length : Int)]) np1
        have hp1 : (upd H5 p1 (.tup [.int (sws.length : Int)])) p1 = some (.tup [.int (sws.length : Int)]) := upd_same
        generalize upd H5 p1 (.tup [.int (sws.length : Int)]) = H6 at *
        have s46 := s45.trans s6
        have b6 := b3.same s46
        walk_at "w"
        refine ⟨p1, t5, _, _, rfl, rfl, .inl (.inl hp1), .inl (.inl (s6 _ _ ht5)), (by intro h; cases h), (by show 1 + 4 ≤ sizeLine; decide), (fun h => by cases h), fun _ p7 np7 => ?_⟩
        obtain ⟨b7, f7⟩ := b6.new (o := .tup ([.int (sws.length : Int)] ++ [.str r, .str nmx, .int add, .bl soft])) np7
        have s7 := Jl.same_upd (o := .tup ([.int (sws.length : Int)] ++ [.str r, .str nmx, .int add, .bl soft])) np7
        have s47 := s46.trans s7
        obtain ⟨xs', t', S', N', sv', u', W', G', gv', hP', ht', hS', hu', hW', hG', hgl', b8⟩ := b7.fill (f := ⟨sws.length, r, nmx, add, soft⟩) (a := p7) upd_same
        obtain ⟨-, rfl⟩ := Jl.last_uniq (s47 _ _ hP) hP'
        have eS : S' = S := by rw [s47 _ _ ht] at ht'; cases ht'; rfl
        subst eS
        obtain ⟨-, rfl⟩ := Jl.last_uniq (s47 _ _ g1) hS'
        have eW : W' = W ∧ G' = G := by rw [s47 _ _ hu2] at hu'; cases hu'; exact ⟨rfl, rfl⟩
        obtain ⟨rfl, rfl⟩ := eW
        refine Jl.s_nil ?_
        refine Jl.s_append hG' ?_ (Jl.small5' (by omega))
        obtain ⟨xs2, t2, S2, N2, sv2, u2, W2, G2, hP2, ht2, hS2, hu2', hW2, bw⟩ := b8.word
        have hGu : u ≠ G' := ne_of (s47 _ _ hu2) hG' (by intro z; cases z)
        have hGt : t ≠ G' := ne_of (s47 _ _ ht) hG' (by intro z; cases z)
        have hu8 : (upd (upd H6 p7 (.tup ([.int (sws.length : Int)] ++ [.str r, .str nmx, .int add, .bl soft]))) G' (.lst (gv' ++ [.ref p7]))) u = some (.tup [.str skind, .int sstep, .ref W', .ref G']) := by rw [upd_ne hGu]; exact s47 _ _ hu2
        have ht8 : (upd (upd H6 p7 (.tup ([.int (sws.length : Int)] ++ [.str r, .str nmx, .int add, .bl soft]))) G' (.lst (gv' ++ [.ref p7]))) t = some (.tup [.str nm, .ref S', .ref Nn]) := by rw [upd_ne hGt]; exact s47 _ _ ht
        have nd := cc.nd
        have hP8 : (upd (upd H6 p7 (.tup ([.int (sws.length : Int)] ++ [.str r, .str nmx, .int add, .bl soft]))) G' (.lst (gv' ++ [.ref p7]))) P = some (.lst (xs ++ [.ref t])) := by rw [upd_ne (Jl.nd_ne nd 1 4 (by decide) rfl rfl).symm]; exact s47 _ _ hP
        have hS8 : (upd (upd H6 p7 (.tup ([.int (sws.length : Int)] ++ [.str r, .str nmx, .int add, .bl soft]))) G' (.lst (gv' ++ [.ref p7]))) S' = some (.lst (sv0 ++ [.ref u])) := by rw [upd_ne (Jl.nd_ne nd 1 2 (by decide) rfl rfl).symm]; exact s47 _ _ g1
        obtain ⟨-, rfl⟩ := Jl.last_uniq hP8 hP2
        have eS : S2 = S' := by rw [ht8] at ht2; cases ht2; rfl
        subst eS
        obtain ⟨-, rfl⟩ := Jl.last_uniq hS8 hS2
        have eW : W2 = W' := by rw [hu8] at hu2'; cases hu2'; rfl
        subst eW
        generalize upd (upd H6 p7 (.tup ([.int (sws.length : Int)] ++ [.str r, .str nmx, .int add, .bl soft]))) G' (.lst (gv' ++ [.ref p7])) = H8 at *
        walk_at "w"
        refine Jl.tup_at (i := 2) hu8 rfl ?_
        walk_at "w"
        · exact hN4 _ _ ⟨_, _, bw _, fin H F _ (.inr ⟨_, rfl, rfl, hr5, hs5, ⟨j, hj.1, hj.2, hnm⟩, hadd⟩), _, _, _, _, _, rfl⟩
        · rw [List.length_map]; exact Jl.small5' (by omega)
    · walk_at "w"
      have hq : ∀ q ∈ ps0, q.names.length ≤ 1000 := fun q hq => by
        have h1 := Jl.wt_le hq
        have h2 : Jl.wt q = 1 + q.names.length + (q.stres.map Jl.wtS).sum := rfl
        omega
      have hs0 : ss0.length ≤ 1000 := by
        have h1 := len_sum (ss0 ++ [⟨skind, sstep, sws, sfs⟩])
        rw [List.length_append] at h1
        omega
      refine use_told_by b4 (fun q hq => D.ok q (List.mem_append_left _ hq)) (by omega) hs0 hq (fun H7 => ⟨fun s7 _ => ?_, fun F7 sort f7 b7 h1 h2 h3 => ?_⟩)
      · walk_at "w"
        exact hN4 _ _ ⟨F, _, b4.same s7, D.more (by omega), _, _, _, _, _, rfl⟩
      · walk_at "w"
        refine hN4 _ _ ⟨F7, _, b7, D.last (fun h => h.nam ⟨c / 9 % 12, by omega, by omega, rfl⟩ h2 h1) ?_ (fun hs h q hq => ?_), _, _, _, _, _, rfl⟩
        · unfold Jl.wt
          simp only [List.length_append, List.length_singleton]
          omega
        · intro m hm m' hm' e hh
          rcases List.mem_append.mp hm' with hm' | hm'
          · exact h q hq m hm m' hm' e hh
          · cases List.mem_singleton.mp hm'
            exact h3 hs hh.2 q hq m hm e hh.1
/-! ### _law_copy -/
def sp_law_copy (K : PySem.W.Frag) : Sp := fun vs H Q _ => ∃ (x : V) (p : Jl.Piece) (B G : Hp) (A : List Addr), vs = [x] ∧ Dp K G x (Jl.pieceD p) ∧ p.stres.length ≤ 1000 ∧ Jl.Act B G H A ∧ ∀ v G' H', Jl.Act B G' H' A → Same G G' → Same H H' → Dp K G' v (Jl.pieceD p) → Q v H'
theorem use_copy {K : PySem.W.Frag} {x : V} {p : Jl.Piece} {B G H : Hp} {A : List Addr} {Q : VK} {E : XK} (hd : Dp K G x (Jl.pieceD p)) (hsl : p.stres.length ≤ 1000) (c : Jl.Act B G H A) (z : ∀ v G' H', Jl.Act B G' H' A → Same G G' → Same H H' → Dp K G' v (Jl.pieceD p) → Q v H') : sp_law_copy K [x] H Q E := ⟨x, p, B, G, A, rfl, hd, hsl, c, z⟩
theorem ok_law_copy (T : Txt K mg) (B : LamX.TabB base mg T.c_by_title T.P_by_title) : FnOk P w K mg base CX0 1 T.a_law_copy T.d_law_copy ["_law_piece"] (sp_law_copy K) := by
  refine T.F_law_copy.ok sc_law_copy (fun vs H Q E h => ?_) (fun cdv A outer s H vs Q E hr h => ?_)
  · obtain ⟨x, p, B, G, A, rfl, hd, hsl, c, k⟩ := h
    rfl
  · obtain ⟨x, p, B, G, A, rfl, hd, hsl, c, k⟩ := h
    have hu := hu_of hr
    refine ⟨_, (pss_cons (ps_setLc (i := 1) (own := [("_law_row", 2)]) (g := gName 2) (tt := tYes) (by rfl) sc_law_copy.nd rfl rfl (sw_true rfl rfl rfl (by decide +kernel)) (pi_list (pe_ix (r := rIxT K) ix_tup (pv 0) pe_int (fun _ _ => rfl))) (blkOk_by (own := [("_law_row", 2)]) (N := N_law_copy) (sc := defScope s_law_copy) (by decide +kernel)) (fun _ _ _ _ _ => pg_name (i := 2) sc_law_copy.nd rfl (Or.inl rfl)) (fun _ _ _ _ _ => pts_nil) (fun _ _ _ _ _ => (pe_tup (pa_cons (pe_ix (r := rIxT K) ix_tup (pv 2) pe_int (fun _ _ => rfl)) (pa_cons (pe_ix (r := rIxT K) ix_tup (pv 2) pe_int (fun _ _ => rfl)) (pa_cons (pe_callTy (r := Jl.rListO K) Jl.cl_listO (by rfl) T.n_list (by decide +kernel) (pa_cons (pe_ix (r := rIxT K) ix_tup (pv 2) pe_int (fun _ _ => rfl)) pa_nil)) (pa_cons (pe_callTy (r := Jl.rListO K) Jl.cl_listO (by rfl) T.n_list (by decide +kernel) (pa_cons (pe_ix (r := rIxT K) ix_tup (pv 2) pe_int (fun _ _ => rfl)) pa_nil)) pa_nil)))))))
      (pss_one (ps_ret (pe_tup (pa_cons (pe_ix (r := rIxT K) ix_tup (pv 0) pe_int (fun _ _ => rfl)) (pa_cons (pv 1) (pa_cons (pe_callTy (r := Jl.rListO K) Jl.cl_listO (by rfl) T.n_list (by decide +kernel) (pa_cons (pe_ix (r := rIxT K) ix_tup (pv 0) pe_int (fun _ _ => rfl)) pa_nil)) pa_nil))))))), ?_⟩
    show (_ : TS) _ [some (x), none, none] H
    obtain ⟨t, S, N, sv, nv, rfl, ht, hS, hsv, hN, hnv⟩ := Jl.dp_piece hd
    have hl := Jl.da_length hsv
    walk_at "w"
    refine Jl.s_lcG (xs := sv) c (fun i => (p.stres[i]?).bind fun s => some (Jl.streD s)) (by omega) (fun R z => ?_) (fun i y D G1 H1 Rs Rn hi c1 sG sH hRs hRn => ?_) (fun pd G1 H1 us c1 sG sH hpd hda hul => ?_)
    · walk_at "w"
      exact Jl.s_ixT (Jl.sameT c.ext ht) (i := 1) rfl (z _ _ _ c (Same.refl _) (Same.refl _) hS)
    · obtain ⟨q, hq, hy⟩ := Jl.da_item hsv hi
      obtain ⟨tq, W, L0, gs, rfl, htq, hW, hL0, hgs⟩ := Jl.dp_stre hy
      have s1 := sG.trans c1.ext
      walk_at "w"
      refine ⟨rfl, ?_⟩
      walk_at "w"
      refine Jl.s_ixT (Jl.sameT s1 htq) (i := 0) rfl ?_
      walk_at "w"
      refine Jl.s_ixT (Jl.sameT s1 htq) (i := 1) rfl ?_
      walk_at "w"
      refine Jl.s_ixT (Jl.sameT s1 htq) (i := 2) rfl ?_
      walk_at "w"
      refine Jl.s_listO (s1.seq hW) (fun pW nW => ?_)
      have c2 := c1.new (o := .lst (q.words.map V.int)) nW
      have sA := Jl.same_upd (o := .lst (q.words.map V.int)) nW
      have sA' := Jl.same_upd (o := .lst (q.words.map V.int)) (c1.ext.free nW)
      walk_at "w"
      refine Jl.s_ixT (Jl.sameT (s1.trans sA) htq) (i := 3) rfl ?_
      walk_at "w"
      refine Jl.s_listO ((s1.trans sA).seq hL0) (fun pL nL => ?_)
      have c3 := c2.new (o := .lst gs) nL
      have sB := Jl.same_upd (o := .lst gs) nL
      have sB' := Jl.same_upd (o := .lst gs) (c2.ext.free nL)
      walk_at "w"
      refine ⟨(by show 4 ≤ sizeLine; decide), fun tn ntn => ?_⟩
      have c4 := c3.new (o := .tup [.str q.kind, .int q.step, .ref pW, .ref pL]) ntn
      have sC := Jl.same_upd (o := .tup [.str q.kind, .int q.step, .ref pW, .ref pL]) ntn
      have sC' := Jl.same_upd (o := .tup [.str q.kind, .int q.step, .ref pW, .ref pL]) (c3.ext.free ntn)
      refine hRs _ _ _ (Jl.streD q) (sA'.trans (sB'.trans sC')) c4 (sA.trans (sB.trans sC)) (by rw [hq]; rfl) ?_
      exact .tup (.inl (.inl upd_same)) (.cons (.str _) (.cons (.int _) (.cons (Jl.dp_intL (.inl (.inl (sC' _ _ (sB' _ _ upd_same))))) (.cons (.lst (.inl (.inl (sC' _ _ upd_same))) (Jl.dps_same (sG.trans (sA'.trans (sB'.trans sC'))) hgs)) .nil))))
    rw [hl, Jl.range_items, Jl.filterMap_some] at hda
    obtain ⟨G2, c2, sG2, hpd2⟩ := c1.freeze hpd
    have s1 := (sG.trans sG2).trans c2.ext
    walk_at "w"
    refine Jl.s_ixT (Jl.sameT s1 ht) (i := 0) rfl ?_
    walk_at "w"
    refine Jl.s_ixT (Jl.sameT s1 ht) (i := 2) rfl ?_
    walk_at "w"
    refine Jl.s_listO (s1.seq hN) (fun pN nN => ?_)
    have c3 := c2.new (o := .lst nv) nN
    have sA := Jl.same_upd (o := .lst nv) nN
    have sA' := Jl.same_upd (o := .lst nv) (c2.ext.free nN)
    walk_at "w"
    refine ⟨(by show 3 ≤ sizeLine; decide), fun tn ntn => ?_⟩
    have c4 := c3.new (o := .tup [.str p.name, .ref pd, .ref pN]) ntn
    have sB := Jl.same_upd (o := .tup [.str p.name, .ref pd, .ref pN]) ntn
    have sB' := Jl.same_upd (o := .tup [.str p.name, .ref pd, .ref pN]) (c3.ext.free ntn)
    walk_at "w"
    refine k _ _ _ c4 (sG.trans (sG2.trans (sA'.trans sB'))) (sH.trans (sA.trans sB)) ?_
    exact .tup (.inl (.inl upd_same)) (.cons (.str _) (.cons (.lst (.inl (.inl (sB' _ _ (sA' _ _ hpd2)))) (Jl.dps_same (sG2.trans (sA'.trans sB')) hda)) (.cons (.lst (.inl (.inl (sB' _ _ upd_same))) (Jl.dps_same (sG.trans (sG2.trans (sA'.trans sB'))) hnv)) .nil)))
/-! ### _law_texts -/
def sp_law_texts (K : PySem.W.Frag) : Sp := fun vs H Q _ => ∃ (a b : Addr) (xs ys : List Str), vs = [.ref a, .ref b] ∧ H a = some (.lst (xs.map V.str)) ∧ H b = some (.lst (ys.map V.str)) ∧ ys.length ≤ 1000 ∧ Q (.bl (decide (xs = ys))) H
theorem use_texts {K : PySem.W.Frag} {a b : Addr} {xs ys : List Str} {H : Hp} {Q : VK} {E : XK} (ha : H a = some (.lst (xs.map V.str))) (hb : H b = some (.lst (ys.map V.str))) (hl : ys.length ≤ 1000) (z : Q (.bl (decide (xs = ys))) H) : sp_law_texts K [.ref a, .ref b] H Q E := ⟨a, b, xs, ys, rfl, ha, hb, hl, z⟩
theorem ok_law_texts (T : Txt K mg) (B : LamX.TabB base mg T.c_by_title T.P_by_title) : FnOk P w K mg base CX0 1 T.a_law_texts T.d_law_texts ["_law_found", "_law_due_here"] (sp_law_texts K) := by
  refine T.F_law_texts.ok sc_law_texts (fun vs H Q E h => ?_) (fun cdv A outer s H vs Q E hr h => ?_)
  · obtain ⟨a, b, xs, ys, rfl, ha, hb, hl, k⟩ := h
    rfl
  · obtain ⟨a, b, xs, ys, rfl, ha, hb, hl, k⟩ := h
    have hu := hu_of hr
    refine ⟨_, (pss_cons (ps_if (PW.pt (pw_or (pt_not (pt_val (pe_callB call_isi (by rfl) T.n_isinstance (by decide +kernel) (pa_cons (pv 0) (pa_cons (pe_bltn (v := .ty "list") (u := .type "list") (by rfl) T.n_list (by decide +kernel) rfl) pa_nil))))) (pw_or1 (pt_cmpR op_ne (pe_callB (r := Jl.rLenL K) Jl.cl_lenL (by rfl) T.n_len (by decide +kernel) (pa_cons (pv 0) pa_nil)) (pe_callB (r := Jl.rLenL K) Jl.cl_lenL (by rfl) T.n_len (by decide +kernel) (pa_cons (pv 1) pa_nil)) (nomark _))))) (pss_one (ps_ret pe_bl)) pss_nil)
      (pss_cons (ps_for PassesOwn.never rfl (pi_range1 (by rfl) T.n_range (pa_cons (pe_callB (r := Jl.rLenL K) Jl.cl_lenL (by rfl) T.n_len (by decide +kernel) (pa_cons (pv 1) pa_nil)) pa_nil)) (pg_name (i := 2) sc_law_texts.nd rfl (Or.inl rfl)) (pss_one (ps_if (PW.pt (pw_or (pt_not (pt_val (pe_callB call_isi (by rfl) T.n_isinstance (by decide +kernel) (pa_cons (pe_ix (r := rIxL K) ix_list (pv 0) (pv 2) (fun _ _ => rfl)) (pa_cons (pe_bltn (v := .ty "str") (u := .type "str") (by rfl) T.n_str (by decide +kernel) rfl) pa_nil))))) (pw_or1 (pt_cmpR op_ne (pe_ix (r := rIxL K) ix_list (pv 0) (pv 2) (fun _ _ => rfl)) (pe_ix (r := rIxL K) ix_list (pv 1) (pv 2) (fun _ _ => rfl)) (nomark _))))) (pss_one (ps_ret pe_bl)) pss_nil)))
      (pss_one (ps_ret pe_bl)))), ?_⟩
    show (_ : TS) _ [some (.ref a), some (.ref b), none] H
    walk_at "w"
    refine Jl.s_isi (k := true) (.base (.lst ha)) (kit_ty (by decide +kernel)) ?_
    walk_at "w"
    refine Jl.s_lenL (.inl (.inl ha)) ?_
    walk_at "w"
    refine Jl.s_lenL (.inl (.inl hb)) ?_
    rw [List.length_map, List.length_map]
    walk_at "w"
    refine Jl.s_iteN (fun g => ?_) (fun g => ?_)
    · have g2 : ¬ xs = ys := fun e => by rw [e] at g; omega
      rw [decide_eq_false g2] at k
      walk_at "w"
      exact k
    have g1 : xs.length = ys.length := by omega
    walk_at "w"
    refine Jl.s_seq (Jl.s_forR1 (ys.length : Int) (fun i σ' H' => H' = H ∧ xs.take i = ys.take i ∧ ∃ v, σ' = [some (.ref a), some (.ref b), v]) (fun R z => ?_) (by omega) ⟨rfl, by rw [List.take_zero, List.take_zero], none, rfl⟩ (fun i σ' H' hi h => ?_) (fun σ' H' h => ?_))
    · walk_at "w"
      refine Jl.s_lenL (.inl (.inl hb)) ?_
      rw [List.length_map]
      exact z
    · obtain ⟨rfl, ht, v, rfl⟩ := h
      simp only [List.set_cons_zero, List.set_cons_succ]
      have hix : i < xs.length := by omega
      have hiy : i < ys.length := by omega
      have ax : atI (xs.map V.str) (i : Int) = some (.str xs[i]) := atI_nat (by
        rw [List.getElem?_map, List.getElem?_eq_getElem hix]; rfl)
      have ay : atI (ys.map V.str) (i : Int) = some (.str ys[i]) := atI_nat (by
        rw [List.getElem?_map, List.getElem?_eq_getElem hiy]; rfl)
      have e1 : xs.take (i + 1) = xs.take i ++ [xs[i]] := by rw [List.take_add_one, List.getElem?_eq_getElem hix]; rfl
      have e2 : ys.take (i + 1) = ys.take i ++ [ys[i]] := by rw [List.take_add_one, List.getElem?_eq_getElem hiy]; rfl
      walk_at "w"
      refine Jl.s_ixL (.inl (.inl ha)) ax ?_
      walk_at "w"
      refine Jl.s_ixL (.inl (.inl ha)) ax ?_
      walk_at "w"
      refine Jl.s_ixL (.inl (.inl hb)) ay ?_
      walk_at "w"
      refine Jl.s_iteN (fun g => ?_) (fun g => ?_)
      · have g2 : ¬ xs = ys := fun e => by subst e; exact g rfl
        rw [decide_eq_false g2] at k
        walk_at "w"
        exact k
      · refine ⟨rfl, ?_, _, rfl⟩
        rw [e1, e2, ht, g]
    obtain ⟨rfl, ht, v, rfl⟩ := h
    have e : xs = ys := by
      have h1 : xs.take ys.length = ys.take ys.length := by simpa using ht
      rw [List.take_length, ← g1, List.take_length] at h1
      exact h1
    rw [decide_eq_true e] at k
    walk_at "w"
    exact k
/-! ### _law_due -/
def sp_law_due (K : PySem.W.Frag) : Sp := fun vs H Q _ => ∃ (a : Addr) (xs : List V) (ps : List Jl.Piece) (B G : Hp) (A : List Addr), vs = [.ref a] ∧ SqL K G a xs ∧ DpAll K G xs (ps.map Jl.pieceD) ∧ (∀ p ∈ ps, p.names.length < 64) ∧ (Jl.allN "tell" ps).length < 64 ∧ Jl.Act B G H A ∧ ((∀ z, ¬ 2 ≤ (Jl.twT ps z).length) → ∀ G' H', Jl.Act B G' H' A → Same G G' → Same H H' → Q .non H') ∧ ∀ z t0 t1 rr, Jl.LTw ps z → Jl.twT ps z = t0 :: t1 :: rr → ∀ G' H' q, Jl.Act B G' H' A → Same G G' → Same H H' → G' q = some (.lst ([z, t0, t1].map V.str)) → Q (.ref q) H'
theorem use_law_due {K : PySem.W.Frag} {a : Addr} {xs : List V} {ps : List Jl.Piece} {B G H : Hp} {A : List Addr} {Q : VK} {E : XK} (ha : SqL K G a xs) (hda : DpAll K G xs (ps.map Jl.pieceD)) (hnl : ∀ p ∈ ps, p.names.length < 64) (hall : (Jl.allN "tell" ps).length < 64) (c : Jl.Act B G H A) (z1 : (∀ z, ¬ 2 ≤ (Jl.twT ps z).length) → ∀ G' H', Jl.Act B G' H' A → Same G G' → Same H H' → Q .non H') (z2 : ∀ z t0 t1 rr, Jl.LTw ps z → Jl.twT ps z = t0 :: t1 :: rr → ∀ G' H' q, Jl.Act B G' H' A → Same G G' → Same H H' → G' q = some (.lst ([z, t0, t1].map V.str)) → Q (.ref q) H') : sp_law_due K [.ref a] H Q E := ⟨a, xs, ps, B, G, A, rfl, ha, hda, hnl, hall, c, z1, z2⟩
theorem ok_law_due (T : Txt K mg) (B : LamX.TabB base mg T.c_by_title T.P_by_title) : FnOk P w K mg base CX0 1 T.a_law_due T.d_law_due ["_law_pieces"] (sp_law_due K) := by
  refine T.F_law_due.ok sc_law_due (fun vs H Q E h => ?_) (fun cdv A outer s H vs Q E hr h => ?_)
  · obtain ⟨a, xs, ps, B, G, A, rfl, ha, hda, hnl, hall, c, k1, k2⟩ := h
    rfl
  · obtain ⟨a, xs, ps, B, G, A, rfl, ha, hda, hnl, hall, c, k1, k2⟩ := h
    have hu := hu_of hr
    refine ⟨_, (pss_cons (ps_set (i := 1) sc_law_due.nd rfl (Or.inl rfl) pe_dnewK)
      (pss_cons (ps_for PassesOwn.never rfl (pi_list (pv 0)) (pg_tup rfl (pgs_cons (pg_name (i := 2) sc_law_due.nd rfl (Or.inl rfl)) (pgs_cons (pg_name (i := 3) sc_law_due.nd rfl (Or.inl rfl)) (pgs_cons (pg_name (i := 4) sc_law_due.nd rfl (Or.inl rfl)) pgs_nil)))) (pss_one (ps_for PassesOwn.never rfl (pi_list (pv 4)) (pg_name (i := 5) sc_law_due.nd rfl (Or.inl rfl)) (pss_one (ps_if (pt_cmpR op_eq (pe_ix (r := rIxT K) ix_tup (pv 5) pe_int (fun _ _ => rfl)) pe_str (nomark _)) (pss_one (ps_expr (pe_bm PySem.F.plainAttrs_list PySem.F.slot_list_append PySem.F.type_list_append mt_append (pe_dsetd (pv 1) (pe_ix (r := rIxT K) ix_tup (pv 5) pe_int (fun _ _ => rfl)) (pe_lst pa_nil) ⟨rfl, rfl, rfl, rfl⟩) (pa_cons (pv 2) pa_nil)))) pss_nil)))))
      (pss_cons (ps_for PassesOwn.never rfl (pi_list (pe_callB (Jl.cl_sortedD rfl) (by rfl) T.n_sorted (by decide +kernel) (pa_cons (pv 1) pa_nil))) (pg_name (i := 6) sc_law_due.nd rfl (Or.inl rfl)) (pss_one (ps_if (pt_cmpR op_gt (pe_callB (r := Jl.rLenL K) Jl.cl_lenL (by rfl) T.n_len (by decide +kernel) (pa_cons (pe_dget hu (pv 1) (pv 6) (fun _ _ => rfl)) pa_nil)) pe_int (nomark _)) (pss_one (ps_ret (pe_op (r := Jl.rCatS K) Jl.op_catS (pe_lst (pa_cons (pv 6) pa_nil)) (pe_slice (r := rSlL K) sl_list (pe_callB (r := Jl.rSrtS K) Jl.cl_sortedS (by rfl) T.n_sorted (by decide +kernel) (pa_cons (pe_dget hu (pv 1) (pv 6) (fun _ _ => rfl)) pa_nil)) po_none (po_some pe_int))))) pss_nil)))
      (pss_one (ps_ret pe_non))))), ?_⟩
    show (_ : TS) _ [some (.ref a), none, none, none, none, none, none] H
    have hxl := Jl.da_length hda
    walk_at "w"
    refine fun m nm => ?_
    have g0 := Jl.GD.new c nm
    have s0 := Jl.same_upd (o := .dK []) nm
    generalize upd H m (.dK []) = H0 at *
    walk_at "w"
    refine Jl.s_seq (Jl.s_forLg (xs := xs) (fun i σ' H' => ∃ (G1 : Hp) (zs : List Jl.GDz), Same G G1 ∧ Same H H' ∧ (∀ z ∈ zs, H z.2.1 = none) ∧ Jl.GD B G1 H' m A zs (Jl.allN "tell" (ps.take i)) ∧ ∃ v2 v3 v4 v5 v6 : Option V, σ' = [some (.ref a), some (.ref m), v2, v3, v4, v5, v6]) H0 (fun R z => ?_) (g0.act.ext.seq ha) ⟨G, [], Same.refl _, s0, (fun _ h => nomatch h), g0, none, none, none, none, none, rfl⟩ (fun i σ' H' _ h => ?_) (fun i x σ' H' hi h => ?_) (fun σ' H' h => ?_))
    · walk_at "w"
      exact z
    · obtain ⟨G1, zs, sG, sH, hfr, g, -⟩ := h
      exact g.act.ext.seq (sG.seq ha)
    · obtain ⟨G1, zs, sG, sH, hfr, g, v2, v3, v4, v5, v6, rfl⟩ := h
      obtain ⟨p, hp, hy⟩ := Jl.da_item hda hi
      obtain ⟨tp, S0, N, ss, nv, rfl, htp, -, -, hN, hnv⟩ := Jl.dp_piece hy
      have hnvl := Jl.da_length hnv
      have s1 := sG.trans g.act.ext
      have e3 : Jl.allN "tell" (ps.take (i + 1)) = Jl.allN "tell" (ps.take i) ++ Jl.selN "tell" p p.names := by
        rw [List.take_add_one, hp]
        unfold Jl.allN
        rw [List.flatMap_append]
        show _ ++ (_ ++ []) = _
        rw [List.append_nil]
      refine Jl.s_gTup (Jl.sameT s1 htp) rfl ?_
      walk_at "w"
      refine Jl.s_forLg (xs := nv) (fun j σ' H' => ∃ (G1 : Hp) (zs : List Jl.GDz), Same G G1 ∧ Same H H' ∧ (∀ z ∈ zs, H z.2.1 = none) ∧ Jl.GD B G1 H' m A zs (Jl.allN "tell" (ps.take i) ++ Jl.selN "tell" p (p.names.take j)) ∧ ∃ w5 w6 : Option V, σ' = [some (.ref a), some (.ref m), some (.str p.name), some (.ref S0), some (.ref N), w5, w6]) H' (fun R z => ?_) (s1.seq hN) ⟨G1, zs, sG, sH, hfr, by rw [List.take_zero]; show Jl.GD B G1 H' m A zs (_ ++ []); rw [List.append_nil]; exact g, _, _, rfl⟩ (fun j σ' H2 _ h => ?_) (fun j y σ' H2 hj h => ?_) (fun σ' H2 h => ?_)
      · walk_at "w"
        exact z
      · obtain ⟨G2, zs, sG2, sH2, hfr2, g2, -⟩ := h
        exact g2.act.ext.seq (sG2.seq hN)
      · obtain ⟨G2, zs, sG2, sH2, hfr2, g2, w5, w6, rfl⟩ := h
        obtain ⟨q, hq, hz⟩ := Jl.da_item hnv hj
        obtain ⟨tq, rfl, htq⟩ := Jl.dp_nam hz
        have e4 : Jl.selN "tell" p (p.names.take (j + 1)) = if q.sort = ("tell" : Str) then Jl.selN "tell" p (p.names.take j) ++ [(q.name, Jl.spN p q)] else Jl.selN "tell" p (p.names.take j) := by
          rw [List.take_add_one, hq]; exact Jl.selN_snoc _ _ _ _
        rw [e4]
        clear e4
        have htq2 := Jl.sameT (sG2.trans g2.act.ext) htq
        try simp only [List.set_cons_zero, List.set_cons_succ]
        walk_at "w"
        refine Jl.s_ixT htq2 (i := 1) rfl ?_
        walk_at "w"
        refine Jl.s_iteD (fun g1 => ?_) (fun g1 => ?_)
        rotate_left
        · rw [if_neg g1]
          walk_at "w"
          exact ⟨G2, zs, sG2, sH2, hfr2, g2, _, _, rfl⟩
        rw [if_pos g1, ← List.append_assoc]
        have hxs : (Jl.allN "tell" (ps.take i) ++ Jl.selN "tell" p (p.names.take j)).length < 64 := by
          have h2 : (Jl.allN "tell" (ps.take i) ++ Jl.selN "tell" p (p.names.take j)).Sublist (Jl.allN "tell" ps) := by
            have a1 : (Jl.selN "tell" p (p.names.take j)).Sublist (Jl.selN "tell" p p.names) := ((List.take_sublist j p.names).filter _).map _
            refine (List.Sublist.append (List.Sublist.refl _) a1).trans ?_
            rw [← e3]
            exact Jl.allN_sub _ _ _
          have := h2.length_le
          omega
        generalize Jl.allN "tell" (ps.take i) ++ Jl.selN "tell" p (p.names.take j) = xs0 at *
        have hkl : zs.length < 64 := by
          have h1 := Jl.nodup_le (zs.map (·.1)) _ g2.keys fun z hz => (g2.mem z).mp hz
          rw [List.length_map, List.length_map] at h1
          omega
        walk_at "w"
        refine Jl.s_dsetd ?_
        walk_at "w"
        refine ⟨m, rfl, .inl ⟨_, .inl g2.dict⟩, ?_⟩
        walk_at "w"
        refine Jl.s_ixT htq2 (i := 0) rfl ?_
        walk_at "w"
        refine ⟨by decide, fun pn npn => ?_⟩
        have sp1 := Jl.same_upd (o := .lst []) npn
        obtain ⟨e5, e6⟩ := g2.setd npn (n := q.name)
        refine ⟨_, (Sum.inr q.name : Key), sp1 _ _ g2.dict, rfl, (by rw [List.length_map]; exact Jl.small5' (by omega)), fun v hv => ?_, fun hv => ?_⟩
        · obtain ⟨z, hz, ez, rfl⟩ := e5 v hv
          have g3 := g2.sm sp1
          have hcell := g3.cell z hz
          have hlz : (z.2.2.map V.str).length ≤ 100 := by
            rw [List.length_map, g2.all z hz, List.length_map]
            have := List.length_filter_le (fun x : Str × PyData => decide (x.1 = z.1)) xs0
            show (List.filter _ xs0).length ≤ 100
            omega
          walk_at "w"
          rotate_left
          · exact Jl.small5' (by omega)
          have g4 := Jl.gd_put (t := p.name) (d := Jl.spN p q) rfl g3.dict g3.cell g3.act g3.keys (fun y => by
            rw [g3.mem]
            exact ⟨.inr, fun h => h.elim (fun e => by rw [e, ← ez]; exact (g3.mem _).mp (List.mem_map_of_mem (f := fun z : Jl.GDz => z.1) hz)) id⟩) g3.all hz ez
          refine ⟨G2, _, sG2, Jl.same_mut (sH2.trans sp1) (hfr2 z hz), fun x hx => ?_, g4, _, _, rfl⟩
          obtain ⟨y, hy, rfl⟩ := List.mem_map.mp hx
          split
          · exact hfr2 y hy
          · exact hfr2 y hy
        · obtain ⟨hn, h1, h2, h3, h4⟩ := e6 hv
          walk_at "w"
          rotate_left
          · exact Jl.small5' (by show 0 ≤ 100000; decide)
          have hn2 : q.name ∉ xs0.map (·.1) := fun h => hn ((g2.mem _).mpr h)
          have g4 := Jl.gd_put (t := p.name) (d := Jl.spN p q) (xs := xs0) (n := q.name) (z := (q.name, pn, [])) rfl h2 (fun z hz => by
            rcases List.mem_append.mp hz with hz | hz
            · exact h3 z hz
            · rw [List.mem_singleton.mp hz]; exact h1) h4 (by
            rw [List.map_append, List.nodup_append]
            exact ⟨g2.keys, List.nodup_cons.mpr ⟨List.not_mem_nil, List.nodup_nil⟩, fun a ha b hb e => hn (by rw [show q.name = b from (List.mem_singleton.mp hb).symm, ← e]; exact ha)⟩) (fun y => by
            rw [List.map_append, List.mem_append, g2.mem]
            exact ⟨fun h => h.elim .inr fun h => .inl (List.mem_singleton.mp h), fun h => h.elim (fun h => .inr (by rw [h]; exact List.mem_cons_self)) .inl⟩) (fun z hz => by
            rcases List.mem_append.mp hz with hz | hz
            · exact g2.all z hz
            · rw [List.mem_singleton.mp hz]
              show [] = (Jl.ofN xs0 q.name).map _
              rw [Jl.ofN_nil.mpr hn2]; rfl) (List.mem_append_right _ List.mem_cons_self) rfl
          refine ⟨G2, _, sG2, Jl.same_mut (Jl.same_mut (sH2.trans sp1) nm) (sH2.free npn), fun x hx => ?_, g4, _, _, rfl⟩
          obtain ⟨y, hy, rfl⟩ := List.mem_map.mp hx
          have hy2 : H y.2.1 = none := by
            rcases List.mem_append.mp hy with hy | hy
            · exact hfr2 y hy
            · rw [List.mem_singleton.mp hy]; exact sH2.free npn
          split
          · exact hy2
          · exact hy2
      · obtain ⟨G2, zs, sG2, sH2, hfr2, g2, w5, w6, rfl⟩ := h
        rw [hnvl, List.take_length, ← e3] at g2
        exact ⟨G2, zs, sG2, sH2, hfr2, g2, _, _, _, _, _, rfl⟩
    obtain ⟨G1, zs, sG, sH, hfr, g, v2, v3, v4, v5, v6, rfl⟩ := h
    rw [hxl, List.take_length] at g
    have hkl : zs.length < 64 := by
      have h1 := Jl.nodup_le (zs.map (·.1)) _ g.keys fun z hz => (g.mem z).mp hz
      rw [List.length_map, List.length_map] at h1
      omega
    have htw : ∀ z ∈ zs, z.2.2.length = (Jl.twT ps z.1).length ∧ Jl.sortS z.2.2 = Jl.twT ps z.1 := fun z hz => by
      have h1 := Jl.tw_perm ps z.1
      rw [← g.all z hz] at h1
      exact ⟨h1.length_eq, (Jl.sortS_of h1.symm (Jl.tw_sorted ps z.1)).symm⟩
    have htn : ∀ y, y ∉ zs.map (·.1) → (Jl.twT ps y).length = 0 := fun y hy => by
      have h1 := (Jl.tw_perm ps y).length_eq
      rw [List.length_map, Jl.ofN_nil.mpr fun h => hy ((g.mem y).mpr h)] at h1
      exact h1.symm
    have hsl : (Jl.sortS (zs.map (·.1))).length < 64 := by rw [Jl.sortS_len, List.length_map]; exact hkl
    walk_at "w"
    refine Jl.s_seq (Jl.s_forM (xs := (Jl.sortS (zs.map (·.1))).map V.str) (fun r H2 => ∃ o, H2 = upd H' r o ∧ H' r = none ∧ o = .lst ((Jl.sortS (zs.map (·.1))).map V.str)) (fun r i σ2 H2 => ∃ G2, Same G1 G2 ∧ Same H H2 ∧ Jl.GD B G2 H2 m A zs (Jl.allN "tell" ps) ∧ G2 r = some (.lst ((Jl.sortS (zs.map (·.1))).map V.str)) ∧ (∀ y ∈ (Jl.sortS (zs.map (·.1))).take i, (Jl.twT ps y).length ≤ 1) ∧ ∃ w6 : Option V, σ2 = [some (.ref a), some (.ref m), v2, v3, v4, v5, w6]) (fun R z => ?_) (fun r H2 hM => ?_) (fun r i σ2 H2 _ h => ?_) (fun r i x σ2 H2 hi h => ?_) (fun r σ2 H2 h => ?_))
    · walk_at "w"
      refine Jl.s_sortedD (ks := zs.map (·.1)) g.dict (by rw [List.map_map, List.map_map]; rfl) (by rw [List.length_map]; exact hkl) (fun ys r hpm hso nr => ?_)
      have ey := Jl.sortS_of hpm hso
      subst ey
      exact z _ _ ⟨_, rfl, nr, rfl⟩
    · obtain ⟨o, rfl, nr, rfl⟩ := hM
      have s9 := Jl.same_upd (o := .lst ((Jl.sortS (zs.map (·.1))).map V.str)) nr
      exact ⟨.inl (.inl upd_same), _, Jl.same_upd (g.act.ext.free nr), sH.trans s9, ⟨s9 _ _ g.dict, fun z hz => s9 _ _ (g.cell z hz), g.act.new nr, g.keys, g.mem, g.all⟩, upd_same, by rw [List.take_zero]; exact (fun _ h => nomatch h), _, rfl⟩
    · obtain ⟨G2, sG2, sH2, g2, hr, -⟩ := h
      exact .inl (.inl (g2.act.ext _ _ hr))
    · obtain ⟨G2, sG2, sH2, g2, hr, hle, w6, rfl⟩ := h
      obtain ⟨z, hz, rfl⟩ : ∃ z, (Jl.sortS (zs.map (·.1)))[i]? = some z ∧ x = .str z := by
        rw [List.getElem?_map] at hi
        cases e : (Jl.sortS (zs.map (·.1)))[i]? with
        | none => rw [e] at hi; cases hi
        | some z => rw [e] at hi; cases hi; exact ⟨z, rfl, rfl⟩
      have hzm := Jl.mem_sortS.mp (List.mem_of_getElem? hz)
      obtain ⟨w, hw, ew⟩ := List.mem_map.mp hzm
      obtain ⟨hwl, hws⟩ := htw w hw
      have ew : w.1 = z := ew
      rw [ew] at hwl hws
      have hget := g2.get hw ew
      have hcell := g2.cell w hw
      have hwle : w.2.2.length < 64 := by
        rw [g2.all w hw, List.length_map]
        have := List.length_filter_le (fun x : Str × PyData => decide (x.1 = w.1)) (Jl.allN "tell" ps)
        show (List.filter _ _).length < 64
        omega
      walk_at "w"
      refine Jl.s_dgetR ?_
      walk_at "w"
      refine ⟨m, _, rfl, hget, ?_⟩
      walk_at "w"
      refine Jl.s_lenL (.inl (.inl hcell)) ?_
      rw [List.length_map, hwl]
      walk_at "w"
      refine Jl.s_iteD (fun g1 => ?_) (fun g1 => ?_)
      rotate_left
      · walk_at "w"
        refine ⟨G2, sG2, sH2, g2, hr, fun y hy => ?_, _, rfl⟩
        rw [List.take_add_one, hz] at hy
        rcases List.mem_append.mp hy with hy | hy
        · exact hle y hy
        · rw [List.mem_singleton.mp hy]; omega
      have hlt : Jl.LTw ps z := by
        refine ⟨by omega, fun y hy => ?_⟩
        have hyk : y ∈ Jl.sortS (zs.map (·.1)) := Jl.mem_sortS.mpr (Classical.byContradiction fun h => by
          have := htn y h
          omega)
        obtain ⟨j, hj⟩ := List.getElem?_of_mem hyk
        have hji : ¬ j < i := fun h => by
          have := hle y (by rw [List.mem_iff_getElem?]; exact ⟨j, by rw [List.getElem?_take_of_lt h]; exact hj⟩)
          omega
        exact Jl.sortS_le hz hj (by omega)
      obtain ⟨t0, t1, rr, ett⟩ : ∃ t0 t1 r, Jl.twT ps z = t0 :: t1 :: r := by
        have := hlt.1
        cases e : Jl.twT ps z with
        | nil => rw [e] at this; exact absurd this (by decide)
        | cons a l =>
          cases l with
          | nil => rw [e] at this; exact absurd this (by show ¬ 2 ≤ 1; decide)
          | cons b l => exact ⟨a, b, l, rfl⟩
      walk_at "w"
      refine ⟨(by show 1 ≤ sizeLine; decide), fun p1 n1 => ?_⟩
      have s1 := Jl.same_upd (o := .lst [.str z]) n1
      have g3 := g2.act.new (o := .lst [.str z]) n1
      have f3 := Jl.same_upd (o := .lst [.str z]) (g2.act.ext.free n1)
      walk_at "w"
      refine Jl.s_dgetR ?_
      walk_at "w"
      refine ⟨m, _, rfl, (g2.sm s1).get hw ew, ?_⟩
      refine Jl.s_sortedS (.inl (.inl (s1 _ _ hcell))) hwle (fun ys p2 hpm hso n2 => ?_)
      have ey := Jl.sortS_of hpm hso
      rw [hws, ett] at ey
      subst ey
      have s2 := Jl.same_upd (o := .lst ((t0 :: t1 :: rr).map V.str)) n2
      have g4 := g3.new (o := .lst ((t0 :: t1 :: rr).map V.str)) n2
      have f4 := Jl.same_upd (o := .lst ((t0 :: t1 :: rr).map V.str)) (g3.ext.free n2)
      walk_at "w"
      refine ⟨p2, _, rfl, .inl (.inl upd_same), fun p3 n3 => ?_⟩
      have ec : cutV ((t0 :: t1 :: rr).map V.str) none (some 2) = [V.str t0, V.str t1] := Jl.cutV_two _ _ _
      rw [ec]
      have s3 := Jl.same_upd (o := .lst [V.str t0, .str t1]) n3
      have g5 := g4.new (o := .lst [V.str t0, .str t1]) n3
      have f5 := Jl.same_upd (o := .lst [V.str t0, .str t1]) (g4.ext.free n3)
      refine ⟨p1, p3, _, _, rfl, rfl, .inl (.inl (s3 _ _ (s2 _ _ upd_same))), .inl (.inl upd_same), (by show 1 + 2 ≤ sizeLine; decide), fun p4 n4 => ?_⟩
      have s4 := Jl.same_upd (o := .lst ([V.str z] ++ [V.str t0, .str t1])) n4
      have g6 := (g5.new (o := .lst ([V.str z] ++ [V.str t0, .str t1])) n4).sub (A' := A) ((List.sublist_cons_self _ _).trans (List.sublist_append_right _ _))
      have f6 := Jl.same_upd (o := .lst ([V.str z] ++ [V.str t0, .str t1])) (g5.ext.free n4)
      walk_at "w"
      exact k2 z t0 t1 rr hlt ett _ _ p4 g6 ((sG.trans sG2).trans (f3.trans (f4.trans (f5.trans f6)))) (sH2.trans (s1.trans (s2.trans (s3.trans s4)))) upd_same
    obtain ⟨G2, sG2, sH2, g2, hr, hle, w6, rfl⟩ := h
    walk_at "w"
    refine k1 (fun z hz => ?_) G2 _ (g2.act.sub ((List.sublist_cons_self _ _).trans (List.sublist_append_right _ _))) (sG.trans sG2) sH2
    have hzk : z ∈ Jl.sortS (zs.map (·.1)) := Jl.mem_sortS.mpr (Classical.byContradiction fun h => by
      have := htn z h
      omega)
    rw [List.length_map, List.take_length] at hle
    have := hle z hzk
    omega
/-! ### _law_weaker -/
def sp_law_weaker (K : PySem.W.Frag) : Sp := fun vs H Q _ => ∃ (a : Addr) (xs : List V) (ps : List Jl.Piece) (B G : Hp) (A : List Addr), vs = [.ref a] ∧ SqL K G a xs ∧ DpAll K G xs (ps.map Jl.pieceD) ∧ Jl.Tw ps ∧ Jl.Act B G H A ∧ ∀ r G' H' ys qs, Jl.Act B G' H' A → Same G G' → Same H H' → Jl.WkL ps qs → G' r = some (.lst ys) → DpAll K G' ys (qs.map Jl.pieceD) → Q (.ref r) H'
theorem use_weaker {K : PySem.W.Frag} {a : Addr} {xs : List V} {ps : List Jl.Piece} {B G H : Hp} {A : List Addr} {Q : VK} {E : XK} (ha : SqL K G a xs) (hda : DpAll K G xs (ps.map Jl.pieceD)) (W : Jl.Tw ps) (c : Jl.Act B G H A) (z : ∀ r G' H' ys qs, Jl.Act B G' H' A → Same G G' → Same H H' → Jl.WkL ps qs → G' r = some (.lst ys) → DpAll K G' ys (qs.map Jl.pieceD) → Q (.ref r) H') : sp_law_weaker K [.ref a] H Q E := ⟨a, xs, ps, B, G, A, rfl, ha, hda, W, c, z⟩
theorem ok_law_weaker (T : Txt K mg) (B : LamX.TabB base mg T.c_by_title T.P_by_title) : FnOk P w K mg base CX0 1 T.a_law_weaker T.d_law_weaker ["_law_pieces"] (sp_law_weaker K) := by
  refine T.F_law_weaker.ok sc_law_weaker (fun vs H Q E h => ?_) (fun cdv A outer s H vs Q E hr h => ?_)
  · obtain ⟨a, xs, ps, B, G, A, rfl, ha, hda, W, c, k⟩ := h
    rfl
  · obtain ⟨a, xs, ps, B, G, A, rfl, ha, hda, W, c, k⟩ := h
    have hu := hu_of hr
    refine ⟨_, (pss_cons (ps_set (i := 1) sc_law_weaker.nd rfl (Or.inl rfl) pe_dnewK)
      (pss_cons (ps_set (i := 2) sc_law_weaker.nd rfl (Or.inl rfl) (pe_lst pa_nil))
      (pss_cons (ps_for PassesOwn.never rfl (pi_list (pv 0)) (pg_tup rfl (pgs_cons (pg_name (i := 3) sc_law_weaker.nd rfl (Or.inl rfl)) (pgs_cons (pg_name (i := 4) sc_law_weaker.nd rfl (Or.inl rfl)) (pgs_cons (pg_name (i := 5) sc_law_weaker.nd rfl (Or.inl rfl)) pgs_nil)))) (pss_cons (ps_set (i := 6) sc_law_weaker.nd rfl (Or.inl rfl) (pe_lst pa_nil))
      (pss_cons (ps_for PassesOwn.never rfl (pi_list (pv 5)) (pg_tup rfl (pgs_cons (pg_name (i := 7) sc_law_weaker.nd rfl (Or.inl rfl)) (pgs_cons (pg_name (i := 8) sc_law_weaker.nd rfl (Or.inl rfl)) (pgs_cons (pg_name (i := 9) sc_law_weaker.nd rfl (Or.inl rfl)) (pgs_cons (pg_name (i := 10) sc_law_weaker.nd rfl (Or.inl rfl)) pgs_nil))))) (pss_cons (Jl.ps_ifK (PW.pt (pw_and (pt_cmpR op_eq (pv 8) pe_str (nomark _)) (pw_and1 (pt_cmp (pc_din hu (pv 7) (pv 1)))))) (pss_one (ps_set (i := 8) sc_law_weaker.nd rfl (Or.inl rfl) pe_str)) pss_nil)
      (pss_cons (Jl.ps_ifK (pt_cmpR op_eq (pv 8) pe_str (nomark _)) (pss_one (ps_dput hu (pv 1) (pv 7) pe_bl rfl)) pss_nil)
      (pss_one (ps_expr (pe_bm PySem.F.plainAttrs_list PySem.F.slot_list_append PySem.F.type_list_append mt_append (pv 6) (pa_cons (pe_tup (pa_cons (pv 7) (pa_cons (pv 8) (pa_cons (pv 9) (pa_cons (pv 10) pa_nil))))) pa_nil)))))))
      (pss_one (ps_expr (pe_bm PySem.F.plainAttrs_list PySem.F.slot_list_append PySem.F.type_list_append mt_append (pv 2) (pa_cons (pe_tup (pa_cons (pv 3) (pa_cons (pv 4) (pa_cons (pv 6) pa_nil)))) pa_nil)))))))
      (pss_one (ps_ret (pv 2)))))), ?_⟩
    show (_ : TS) _ [some (.ref a), none, none, none, none, none, none, none, none, none, none] H
    have hxl := Jl.da_length hda
    have hfew := W.few
    walk_at "w"
    refine fun m nm => ?_
    have c1 := c.newA (o := .dK []) nm
    have s1 := Jl.same_upd (o := .dK []) nm
    have d1 : (upd H m (.dK [])) m = some (.dK []) := upd_same
    generalize upd H m (.dK []) = H1 at *
    walk_at "w"
    refine ⟨by decide, fun r nr => ?_⟩
    have c2 := c1.newA (o := .lst []) nr
    have s2 := Jl.same_upd (o := .lst []) nr
    have d2 := s2 _ _ d1
    have r2 : (upd H1 r (.lst [])) r = some (.lst []) := upd_same
    have nr0 : H r = none := s1.free nr
    have nrm : r ≠ m := fun e => by rw [e, d1] at nr; cases nr
    have s02 := s1.trans s2
    generalize upd H1 r (.lst []) = H2 at *
    walk_at "w"
    refine Jl.s_seq (Jl.s_forLg (xs := xs) (fun i σ' H' => ∃ (G1 : Hp) (T : List (Str × PyData)) (ys : List V) (qs : List Jl.Piece), Jl.Act B G1 H' (r :: m :: A) ∧ Same G G1 ∧ Same H H' ∧ Jl.SD K G1 H' m T ∧ T.length ≤ 64 * i ∧ H' r = some (.lst ys) ∧ DpAll K G1 ys (qs.map Jl.pieceD) ∧ Jl.WkL (ps.take i) qs ∧ ∃ v3 v4 v5 v6 v7 v8 v9 v10 : Option V, σ' = [some (.ref a), some (.ref m), some (.ref r), v3, v4, v5, v6, v7, v8, v9, v10]) H2 (fun R z => ?_) (c2.ext.seq ha) ⟨G, [], [], [], c2, Same.refl _, s02, Jl.SD.nil d2, Nat.zero_le _, r2, .nil, .nil, none, none, none, none, none, none, none, none, rfl⟩ (fun i σ' H' _ h => ?_) (fun i x σ' H' hi h => ?_) (fun σ' H' h => ?_))
    · walk_at "w"
      exact z
    · obtain ⟨G1, T, ys, qs, c3, sG, -⟩ := h
      exact c3.ext.seq (sG.seq ha)
    rotate_left
    · obtain ⟨G1, T, ys, qs, c3, sG, sH, D, hT, hr, hys, hw, v3, v4, v5, v6, v7, v8, v9, v10, rfl⟩ := h
      rw [hxl, List.take_length] at hw
      walk_at "w"
      obtain ⟨G2, c4, sG2, hr2⟩ := c3.freeze hr
      exact k r G2 H' ys qs (c4.sub (List.sublist_cons_self _ _)) (sG.trans sG2) sH hw hr2 (Jl.dps_same sG2 hys)
    obtain ⟨G1, T, ys, qs, c3, sG, sH, D, hT, hr, hys, hw, v3, v4, v5, v6, v7, v8, v9, v10, rfl⟩ := h
    obtain ⟨p, hp, hy⟩ := Jl.da_item hda hi
    have hpm := List.mem_of_getElem? hp
    have hpn := (W.fine p hpm).nl
    have hil : i < ps.length := (List.getElem?_eq_some_iff.mp hp).1
    obtain ⟨tp, S0, N, ss, nv, rfl, htp, hS0, hss, hN, hnv⟩ := Jl.dp_piece hy
    have hnvl := Jl.da_length hnv
    have htk : ps.take (i + 1) = ps.take i ++ [p] := by rw [List.take_add_one, hp]; rfl
    have hyl : ys.length ≤ 64 := by
      have h1 := Jl.da_length hys
      have h2 := hw.len
      rw [List.length_take] at h2
      omega
    refine Jl.s_gTup (Jl.sameT (sG.trans c3.ext) htp) rfl ?_
    walk_at "w"
    refine ⟨by decide, fun rr nrr => ?_⟩
    have c4 := c3.newA (o := .lst []) nrr
    have s4 := Jl.same_upd (o := .lst []) nrr
    have D4 := D.ext (Same.refl _) s4
    have hr4 := s4 _ _ hr
    have hrr4 : (upd H' rr (.lst [])) rr = some (.lst []) := upd_same
    have nrr0 : H rr = none := sH.free nrr
    have sH4 := sH.trans s4
    generalize upd H' rr (.lst []) = H4 at *
    clear c3 D hr s4 sH
    walk_at "w"
    refine Jl.s_seq (Jl.s_forLg (xs := nv) (fun j σ' H' => ∃ (G1 : Hp) (T : List (Str × PyData)) (us : List V) (ms : List Jl.Nam), Jl.Act B G1 H' (rr :: r :: m :: A) ∧ Same G G1 ∧ Same H H' ∧ Jl.SD K G1 H' m T ∧ T.length ≤ 64 * i + j ∧ H' r = some (.lst ys) ∧ DpAll K G1 ys (qs.map Jl.pieceD) ∧ H' rr = some (.lst us) ∧ DpAll K G1 us (ms.map Jl.namD) ∧ ms.map Jl.nn = (p.names.take j).map Jl.nn ∧ (∀ m ∈ ms, Jl.isSort m.sort) ∧ ∃ v7 v8 v9 v10 : Option V, σ' = [some (.ref a), some (.ref m), some (.ref r), some (.str p.name), some (.ref S0), some (.ref N), some (.ref rr), v7, v8, v9, v10]) H4 (fun R z => ?_) ((sG.trans c4.ext).seq hN) ⟨G1, T, [], [], c4, sG, sH4, D4, hT, hr4, hys, hrr4, .nil, by rw [List.take_zero], (fun _ h => nomatch h), _, _, _, _, rfl⟩ (fun j σ' H' _ h => ?_) (fun j y σ' H' hj h => ?_) (fun σ' H' h => ?_))
    · walk_at "w"
      exact z
    · obtain ⟨G1, T, us, ms, c5, sG, -⟩ := h
      exact (sG.trans c5.ext).seq hN
    rotate_left
    · obtain ⟨G1, T, us, ms, c5, sG, sH, D, hT, hr, hys, hrr, hus, hms, hmk, v7, v8, v9, v10, rfl⟩ := h
      rw [hnvl, List.take_length] at hms
      obtain ⟨G2, c6, sG2, hrr2⟩ := c5.freeze hrr
      walk_at "w"
      refine ⟨(by show 3 ≤ sizeLine; decide), fun tt ntt => ?_⟩
      have c7 := c6.new (o := .tup [.str p.name, .ref S0, .ref rr]) ntt
      have f7 := Jl.same_upd (o := .tup [.str p.name, .ref S0, .ref rr]) (c6.ext.free ntt)
      have s7 := Jl.same_upd (o := .tup [.str p.name, .ref S0, .ref rr]) ntt
      have D7 := D.ext (sG2.trans f7) s7
      have hr7 := s7 _ _ hr
      have htt : (upd G2 tt (.tup [.str p.name, .ref S0, .ref rr])) tt = some (.tup [.str p.name, .ref S0, .ref rr]) := upd_same
      have hrr7 := f7 _ _ hrr2
      have sG7 := sG.trans (sG2.trans f7)
      have hus7 := Jl.dps_same (sG2.trans f7) hus
      have hys7 := Jl.dps_same (sG2.trans f7) hys
      have sH7 := sH.trans s7
      generalize upd G2 tt (.tup [.str p.name, .ref S0, .ref rr]) = G7 at *
      generalize upd H' tt (.tup [.str p.name, .ref S0, .ref rr]) = H7 at *
      refine Jl.s_nil ?_
      refine Jl.s_append hr7 ?_ (Jl.small5' (by omega))
      have hdp : Dp K G7 (.ref tt) (Jl.pieceD ⟨p.name, p.stres, ms⟩) := .tup (.inl (.inl htt)) (.cons (.str _) (.cons (.lst (sG7.seq hS0) (Jl.dps_same sG7 hss)) (.cons (.lst (.inl (.inl hrr7)) hus7) .nil)))
      refine ⟨G7, T, _, qs ++ [⟨p.name, p.stres, ms⟩], c7.upd (by simp), sG7, Jl.same_mut sH7 nr0, D7.off (fun b hb => upd_ne hb) nrm.symm, by omega, upd_same, ?_, by rw [htk]; exact hw.snoc ⟨rfl, rfl, hms, hmk⟩, _, _, _, _, _, _, _, _, rfl⟩
      rw [List.map_append]
      exact Jl.da_app hys7 (Jl.da_one hdp)
    clear D4 hr4 hrr4 sH4 c4 hys hT
    obtain ⟨G2, T2, us, ms, c5, sG2, sH, D, hT, hr, hys, hrr, hus, hms, hmk, v7, v8, v9, v10, rfl⟩ := h
    obtain ⟨q, hq, hz⟩ := Jl.da_item hnv hj
    obtain ⟨tq, rfl, htq⟩ := Jl.dp_nam hz
    have htkj : p.names.take (j + 1) = p.names.take j ++ [q] := by rw [List.take_add_one, hq]; rfl
    have hqs := W.sorts p hpm q (List.mem_of_getElem? hq)
    have hjl : j < p.names.length := (List.getElem?_eq_some_iff.mp hq).1
    have hul : us.length ≤ 64 := by
      have h1 := Jl.da_length hus
      have h2 := congrArg List.length hms
      rw [List.length_map, List.length_map, List.length_take] at h2
      omega
    have nrrm : rr ≠ m := by
      have := c5.nd
      intro e; subst e; simp at this
    have nrrr : rr ≠ r := by
      have := c5.nd
      intro e; subst e; simp at this
    refine Jl.s_gTup (Jl.sameT (sG2.trans c5.ext) htq) rfl ?_
    walk_at "w"
    refine Jl.s_seq (Jl.s_ifKs (P := q.sort = ("tell" : Str) ∧ Jl.lookL T2 q.name ≠ none) (fun σ' H2 => H2 = H' ∧ ∃ so : Str, Jl.isSort so ∧ σ' = [some (.ref a), some (.ref m), some (.ref r), some (.str p.name), some (.ref S0), some (.ref N), some (.ref rr), some (.str q.name), some (.str so), some (.int q.stre), some (.int q.off)]) (fun TT t1 t2 => ?_) (fun hP N5 hN5 => ?_) (fun hP N5 hN5 => ?_) (fun σ' H5 hM => ?_))
    · walk_at "w"
      by_cases g1 : q.sort = ("tell" : Str)
      · refine Jl.s_iteDt g1 ?_
        refine Jl.s_din ?_
        walk_at "w"
        rcases D.get q.name with ⟨e, g⟩ | ⟨d, v, e, g, -⟩
        · exact ⟨m, none, rfl, g, _, rfl, t2 fun h => h.2 e⟩
        · exact ⟨m, _, rfl, g, _, rfl, t1 ⟨g1, by rw [e]; exact fun h => by cases h⟩⟩
      · refine Jl.s_iteDf g1 ?_
        exact t2 fun h => g1 h.1
    · walk_at "w"
      exact hN5 _ _ ⟨rfl, "weak", .inr (.inl rfl), rfl⟩
    · walk_at "w"
      exact hN5 _ _ ⟨rfl, q.sort, hqs, rfl⟩
    obtain ⟨rfl, so, hso, rfl⟩ := hM
    walk_at "w"
    refine Jl.s_seq (Jl.s_ifKs (P := so = ("tell" : Str)) (fun σ' H2 => ∃ T3, Jl.Act B G2 H2 (rr :: r :: m :: A) ∧ Same H H2 ∧ Jl.SD K G2 H2 m T3 ∧ T3.length ≤ 64 * i + (j + 1) ∧ H2 r = some (.lst ys) ∧ H2 rr = some (.lst us) ∧ σ' = [some (.ref a), some (.ref m), some (.ref r), some (.str p.name), some (.ref S0), some (.ref N), some (.ref rr), some (.str q.name), some (.str so), some (.int q.stre), some (.int q.off)]) (fun TT t1 t2 => ?_) (fun hP N5 hN5 => ?_) (fun hP N5 hN5 => ?_) (fun σ' H6 hM => ?_))
    · walk_at "w"
      by_cases g1 : so = ("tell" : Str)
      · rw [decide_eq_true g1]; exact t1 g1
      · rw [decide_eq_false g1]; exact t2 g1
    · refine Jl.s_dput ?_
      walk_at "w"
      obtain ⟨o, P3, D3⟩ := D.put (z := q.name) (.bl true) (by omega)
      refine ⟨m, _, rfl, P3, hN5 _ _ ⟨_, c5.upd (by simp), Jl.same_mut sH nm, D3, ?_, by rw [upd_ne nrm]; exact hr, by rw [upd_ne nrrm]; exact hrr, rfl⟩⟩
      have := Jl.putL_len (L := T2) (k := q.name) (d := .bool true)
      omega
    · walk_at "w"
      exact hN5 _ _ ⟨T2, c5, sH, D, by omega, hr, hrr, rfl⟩
    obtain ⟨T3, c6, sH6, D6, hT6, hr6, hrr6, rfl⟩ := hM
    clear c5 sH D hT hr hrr
    walk_at "w"
    refine ⟨(by show 4 ≤ sizeLine; decide), fun tn ntn => ?_⟩
    have c7 := c6.new (o := .tup [.str q.name, .str so, .int q.stre, .int q.off]) ntn
    have f7 := Jl.same_upd (o := .tup [.str q.name, .str so, .int q.stre, .int q.off]) (c6.ext.free ntn)
    have s7 := Jl.same_upd (o := .tup [.str q.name, .str so, .int q.stre, .int q.off]) ntn
    have D7 := D6.ext f7 s7
    have hr7 := s7 _ _ hr6
    have hrr7 := s7 _ _ hrr6
    have sH7 := sH6.trans s7
    have hdp : Dp K (upd G2 tn (.tup [.str q.name, .str so, .int q.stre, .int q.off])) (.ref tn) (Jl.namD ⟨q.name, so, q.stre, q.off⟩) := .tup (.inl (.inl upd_same)) (.cons (.str _) (.cons (.str _) (.cons (.int _) (.cons (.int _) .nil))))
    generalize upd G2 tn (.tup [.str q.name, .str so, .int q.stre, .int q.off]) = G7 at *
    generalize upd H6 tn (.tup [.str q.name, .str so, .int q.stre, .int q.off]) = H7 at *
    refine Jl.s_nil ?_
    refine Jl.s_append hrr7 ?_ (Jl.small5' (by omega))
    refine ⟨G7, T3, _, ms ++ [⟨q.name, so, q.stre, q.off⟩], c7.upd (by simp), sG2.trans f7, Jl.same_mut sH7 nrr0, D7.off (fun b hb => upd_ne hb) nrrm.symm, hT6, by rw [upd_ne nrrr.symm]; exact hr7, Jl.dps_same f7 hys, upd_same, ?_, ?_, fun x hx => ?_, _, _, _, _, rfl⟩
    · rw [List.map_append]
      exact Jl.da_app (Jl.dps_same f7 hus) (Jl.da_one hdp)
    · rw [htkj, List.map_append, List.map_append, hms]; rfl
    · rcases List.mem_append.mp hx with hx | hx
      · exact hmk x hx
      · rw [List.mem_singleton.mp hx]; exact hso
/-! ### _law_alone -/
def sp_law_alone (T : Txt K mg) : Sp := fun vs H Q _ => ∃ (a d : Addr) (fs : List (Str × V)), vs = [.ref a] ∧ H a = some (Jl.XO (.ref T.a_Twice) (some d) a) ∧ H d = some (.xd fs) ∧ ∀ H', Same H H' → Q (.bl true) H'
theorem use_alone {T : Txt K mg} {a d : Addr} {fs : List (Str × V)} {H : Hp} {Q : VK} {E : XK} (h : H a = some (Jl.XO (.ref T.a_Twice) (some d) a)) (hd : H d = some (.xd fs)) (z : ∀ H', Same H H' → Q (.bl true) H') : sp_law_alone T [.ref a] H Q E := ⟨a, d, fs, rfl, h, hd, z⟩
theorem ok_law_alone (T : Txt K mg) (B : LamX.TabB base mg T.c_by_title T.P_by_title) : FnOk P w K mg base CX0 3 T.a_law_alone T.d_law_alone ["_law_kept"] (sp_law_alone T) := by
  refine T.F_law_alone.ok sc_law_alone (fun vs H Q E h => ?_) (fun cdv A outer s H vs Q E hr h => ?_)
  · obtain ⟨a, d, fs, rfl, ha, hd, k⟩ := h
    rfl
  · obtain ⟨a, d, fs, rfl, ha, hd, k⟩ := h
    have hu := hu_of hr
    refine ⟨_, (pss_cons (ps_set (i := 1) sc_law_alone.nd rfl (Or.inl rfl) (pe_lst (pa_cons (pe_callB (r := Jl.rIsX K) Jl.cl_isX (by rfl) T.n_isinstance (by decide +kernel) (pa_cons (pv 0) (pa_cons (pe_glob (v := .ref T.a_NoRule) rfl T.g_NoRule rfl) pa_nil))) (pa_cons (pe_callB (r := Jl.rIsX K) Jl.cl_isX (by rfl) T.n_isinstance (by decide +kernel) (pa_cons (pv 0) (pa_cons (pe_glob (v := .ref T.a_NoPiece) rfl T.g_NoPiece rfl) pa_nil))) (pa_cons (pe_callB (r := Jl.rIsX K) Jl.cl_isX (by rfl) T.n_isinstance (by decide +kernel) (pa_cons (pv 0) (pa_cons (pe_glob (v := .ref T.a_Twice) rfl T.g_Twice rfl) pa_nil))) (pa_cons (pe_callB (r := Jl.rIsX K) Jl.cl_isX (by rfl) T.n_isinstance (by decide +kernel) (pa_cons (pv 0) (pa_cons (pe_glob (v := .ref T.a_SameName) rfl T.g_SameName rfl) pa_nil))) pa_nil))))))
      (pss_cons (ps_set (i := 1) sc_law_alone.nd rfl (Or.inl rfl) (pe_op (r := Jl.rCatS K) Jl.op_catS (pv 1) (pe_lst (pa_cons (pe_callB (r := Jl.rIsX K) Jl.cl_isX (by rfl) T.n_isinstance (by decide +kernel) (pa_cons (pv 0) (pa_cons (pe_glob (v := .ref T.a_Unmet) rfl T.g_Unmet rfl) pa_nil))) (pa_cons (pe_callB (r := Jl.rIsX K) Jl.cl_isX (by rfl) T.n_isinstance (by decide +kernel) (pa_cons (pv 0) (pa_cons (pe_glob (v := .ref T.a_TooFar) rfl T.g_TooFar rfl) pa_nil))) (pa_cons (pe_callB (r := Jl.rIsX K) Jl.cl_isX (by rfl) T.n_isinstance (by decide +kernel) (pa_cons (pv 0) (pa_cons (pe_glob (v := .ref T.a_NoWhole) rfl T.g_NoWhole rfl) pa_nil))) pa_nil))))))
      (pss_cons (ps_set (i := 1) sc_law_alone.nd rfl (Or.inl rfl) (pe_op (r := Jl.rCatS K) Jl.op_catS (pv 1) (pe_lst (pa_cons (pe_callB (r := Jl.rIsX K) Jl.cl_isX (by rfl) T.n_isinstance (by decide +kernel) (pa_cons (pv 0) (pa_cons (pe_glob (v := .ref T.a_NoBase) rfl T.g_NoBase rfl) pa_nil))) (pa_cons (pe_callB (r := Jl.rIsX K) Jl.cl_isX (by rfl) T.n_isinstance (by decide +kernel) (pa_cons (pv 0) (pa_cons (pe_glob (v := .ref T.a_Lost) rfl T.g_Lost rfl) pa_nil))) (pa_cons (pe_callB (r := Jl.rIsX K) Jl.cl_isX (by rfl) T.n_isinstance (by decide +kernel) (pa_cons (pv 0) (pa_cons (pe_glob (v := .ref T.a_NoSense) rfl T.g_NoSense rfl) pa_nil))) pa_nil))))))
      (pss_one (ps_ret (pe_and (pe_cmpR op_eq (pe_bm (r := Jl.rCntV K) PySem.F.plainAttrs_list PySem.F.slot_list_count PySem.F.type_list_count Jl.mt_countV (pv 1) (pa_cons pe_bl pa_nil)) pe_int (nomark _)) (pe_and (pe_callB (r := Jl.rIsX K) Jl.cl_isX (by rfl) T.n_isinstance (by decide +kernel) (pa_cons (pv 0) (pa_cons (pe_glob (v := .ref T.a_JoinError) rfl T.g_JoinError rfl) pa_nil))) (pe_one (pe_callB (r := Jl.rIsX K) Jl.cl_isX (by rfl) T.n_isinstance (by decide +kernel) (pa_cons (pv 0) (pa_cons (pe_bltn (v := .ty "ValueError") (u := .type "ValueError") (by rfl) T.n_ValueError (by decide +kernel) rfl) pa_nil))))))))))), ?_⟩
    show (_ : TS) _ [some (.ref a), none] H
    walk_at "w"
    refine Jl.s_isX ha (Jl.xd_some hd) T.ec_Twice (.own _) T.kit_Twice_NoRule ?_
    walk_at "w"
    refine Jl.s_isX ha (Jl.xd_some hd) T.ec_Twice (.own _) T.kit_Twice_NoPiece ?_
    walk_at "w"
    refine Jl.s_isX ha (Jl.xd_some hd) T.ec_Twice (.own _) T.kit_Twice_Twice ?_
    walk_at "w"
    refine Jl.s_isX ha (Jl.xd_some hd) T.ec_Twice (.own _) T.kit_Twice_SameName ?_
    walk_at "w"
    refine ⟨(by show 4 ≤ sizeLine; decide), fun p1 n1 => ?_⟩
    have s1 := Jl.same_upd (o := .lst [V.bl false, V.bl false, V.bl true, V.bl false]) n1
    walk_at "w"
    walk_at "w"
    refine Jl.s_isX (s1 _ _ ha) (Jl.xd_some (s1 _ _ hd)) T.ec_Twice (.own _) T.kit_Twice_Unmet ?_
    walk_at "w"
    refine Jl.s_isX (s1 _ _ ha) (Jl.xd_some (s1 _ _ hd)) T.ec_Twice (.own _) T.kit_Twice_TooFar ?_
    walk_at "w"
    refine Jl.s_isX (s1 _ _ ha) (Jl.xd_some (s1 _ _ hd)) T.ec_Twice (.own _) T.kit_Twice_NoWhole ?_
    walk_at "w"
    refine ⟨(by show 3 ≤ sizeLine; decide), fun p2 n2 => ?_⟩
    have s2 := s1.trans (Jl.same_upd (o := .lst [V.bl false, V.bl false, V.bl false]) n2)
    refine ⟨p1, p2, _, _, rfl, rfl, .inl (.inl (Jl.same_upd n2 _ _ upd_same)), .inl (.inl upd_same), (by show 7 ≤ sizeLine; decide), fun p3 n3 => ?_⟩
    have s3 := s2.trans (Jl.same_upd (o := .lst ([V.bl false, V.bl false, V.bl true, V.bl false] ++ [V.bl false, V.bl false, V.bl false])) n3)
    walk_at "w"
    walk_at "w"
    refine Jl.s_isX (s3 _ _ ha) (Jl.xd_some (s3 _ _ hd)) T.ec_Twice (.own _) T.kit_Twice_NoBase ?_
    walk_at "w"
    refine Jl.s_isX (s3 _ _ ha) (Jl.xd_some (s3 _ _ hd)) T.ec_Twice (.own _) T.kit_Twice_Lost ?_
    walk_at "w"
    refine Jl.s_isX (s3 _ _ ha) (Jl.xd_some (s3 _ _ hd)) T.ec_Twice (.own _) T.kit_Twice_NoSense ?_
    walk_at "w"
    refine ⟨(by show 3 ≤ sizeLine; decide), fun p4 n4 => ?_⟩
    have s4 := s3.trans (Jl.same_upd (o := .lst [V.bl false, V.bl false, V.bl false]) n4)
    refine ⟨p3, p4, _, _, rfl, rfl, .inl (.inl (Jl.same_upd n4 _ _ upd_same)), .inl (.inl upd_same), (by show 10 ≤ sizeLine; decide), fun p5 n5 => ?_⟩
    have s5 := s4.trans (Jl.same_upd (o := .lst ([V.bl false, V.bl false, V.bl true, V.bl false] ++ [V.bl false, V.bl false, V.bl false] ++ [V.bl false, V.bl false, V.bl false])) n5)
    walk_at "w"
    refine Jl.s_tyL upd_same ?_
    walk_at "w"
    refine ⟨p5, _, _, rfl, rfl, .inl (.inl upd_same), rfl, rfl, ?_⟩
    have ec : (([V.bl false, V.bl false, V.bl true, V.bl false] ++ [V.bl false, V.bl false, V.bl false] ++ [V.bl false, V.bl false, V.bl false]).countP (fun z => eqV z (V.bl true)) : Nat) = 1 := by decide
    rw [ec]
    walk_at "wd"
    refine Jl.s_isX (s5 _ _ ha) (Jl.xd_some (s5 _ _ hd)) T.ec_Twice (.own _) T.kit_Twice_JoinError ?_
    walk_at "w"
    refine Jl.s_isX (s5 _ _ ha) (Jl.xd_some (s5 _ _ hd)) T.ec_Twice (.ty _) T.ve_Twice ?_
    exact k _ s5
/-! ### _law_answer -/
def sp_law_answer (T : Txt K mg) : Sp := fun vs H Q E => ∃ (a : Addr) (xs : List V) (ps : List Jl.Piece) (G : Hp), vs = [.ref a] ∧ SqL K G a xs ∧ DpAll K G xs (ps.map Jl.pieceD) ∧ (∀ p ∈ ps, p.names.length < 64) ∧ ps.length ≤ 1000 ∧ Jl.Act G G H [T.P_by_title] ∧ LamX.TabS H T.P_by_title Jl.lamQ ∧ (Jl.foldS (Jl.sortP ps)).m.length < 64 ∧ ((∀ z, ¬ 2 ≤ (Jl.twT ps z).length) → ∀ G' H' t m, Jl.Act G G' H' [m, T.P_by_title] → LamX.TabS H' T.P_by_title Jl.lamQ → Jl.SD K G' H' m (Jl.namesL ps) → H' t = some (.tup [.ref m, .non]) → Q (.ref t) H') ∧ ∀ z t0 t1 r, Jl.LTw ps z → Jl.twT ps z = t0 :: t1 :: r → ∀ G' H' t q, Jl.Act G G' H' [T.P_by_title] → LamX.TabS H' T.P_by_title Jl.lamQ → H' t = some (.tup [.non, .ref q]) → H' q = some (.lst ([z, t0, t1].map V.str)) → Q (.ref t) H'
theorem use_answer {T : Txt K mg} {a : Addr} {xs : List V} {ps : List Jl.Piece} {G H : Hp} {Q : VK} {E : XK} (ha : SqL K G a xs) (hda : DpAll K G xs (ps.map Jl.pieceD)) (hnl : ∀ p ∈ ps, p.names.length < 64) (hpl : ps.length ≤ 1000) (c : Jl.Act G G H [T.P_by_title]) (hT : LamX.TabS H T.P_by_title Jl.lamQ) (hm : (Jl.foldS (Jl.sortP ps)).m.length < 64) (z1 : (∀ z, ¬ 2 ≤ (Jl.twT ps z).length) → ∀ G' H' t m, Jl.Act G G' H' [m, T.P_by_title] → LamX.TabS H' T.P_by_title Jl.lamQ → Jl.SD K G' H' m (Jl.namesL ps) → H' t = some (.tup [.ref m, .non]) → Q (.ref t) H') (z2 : ∀ z t0 t1 r, Jl.LTw ps z → Jl.twT ps z = t0 :: t1 :: r → ∀ G' H' t q, Jl.Act G G' H' [T.P_by_title] → LamX.TabS H' T.P_by_title Jl.lamQ → H' t = some (.tup [.non, .ref q]) → H' q = some (.lst ([z, t0, t1].map V.str)) → Q (.ref t) H') : sp_law_answer T [.ref a] H Q E := ⟨a, xs, ps, G, rfl, ha, hda, hnl, hpl, c, hT, hm, z1, z2⟩
theorem ok_law_answer (T : Txt K mg) (B : LamX.TabB base mg T.c_by_title T.P_by_title) : FnOk P w K mg base CX0 4 T.a_law_answer T.d_law_answer ["_law_pieces"] (sp_law_answer T) := by
  have G_names_of := ok_names_of (P := P) (w := w) (base := base) T B
  have G_law_alone := ok_law_alone (P := P) (w := w) (base := base) T B
  refine T.F_law_answer.ok sc_law_answer (fun vs H Q E h => ?_) (fun cdv A outer s H vs Q E hr h => ?_)
  · obtain ⟨a, xs, ps, G, rfl, ha, hda, hnl, hpl, c, hT, hm, k1, k2⟩ := h
    rfl
  · obtain ⟨a, xs, ps, G, rfl, ha, hda, hnl, hpl, c, hT, hm, k1, k2⟩ := h
    have hu := hu_of hr
    refine ⟨_, (pss_cons (ps_set (i := 1) sc_law_answer.nd rfl (Or.inl rfl) pe_non)
      (pss_cons (ps_set (i := 2) sc_law_answer.nd rfl (Or.inl rfl) pe_non)
      (pss_cons (Jl.ps_caught (i := 3) rfl rfl rfl sc_law_answer.nd rfl rfl ⟨rfl, by decide, Or.inl T.g_JoinError⟩ takes0 (fun W pl xe tk1 po1 => (pss_one (ps_set (i := 2) sc_law_answer.nd rfl (Or.inl rfl) (pe_callS (G_names_of) (hr.mono (by decide)) rfl T.m_names_of T.F_names_of.kp T.b_names_of (fun σ => passAt tk1 σ) (pa_cons (pv 0) pa_nil))))) (fun a u cls d pl hz hf => (pss_one (ps_set (i := 1) sc_law_answer.nd rfl (Or.inl rfl) (pv 3)))))
      (pss_cons (ps_if (pt_cmpR Jl.op_isN1 (pv 1) pe_non (nomark _)) (pss_one (ps_ret (pe_tup (pa_cons (pv 2) (pa_cons pe_non pa_nil))))) pss_nil)
      (pss_cons (ps_if (PW.pt (pw_or (pt_not (pt_val (pe_callB (r := Jl.rIsX K) Jl.cl_isX (by rfl) T.n_isinstance (by decide +kernel) (pa_cons (pv 1) (pa_cons (pe_glob (v := .ref T.a_Twice) rfl T.g_Twice rfl) pa_nil))))) (pw_or1 (pt_not (pt_val (pe_call (G_law_alone) (hr.mono (by decide)) rfl T.m_law_alone T.F_law_alone.kp T.b_law_alone .nil pass0 (pa_cons (pv 1) pa_nil))))))) (pss_one (ps_ret (pe_tup (pa_cons pe_non (pa_cons pe_non pa_nil))))) pss_nil)
      (pss_one (ps_ret (pe_tup (pa_cons pe_non (pa_cons (pe_lst (pa_cons (Jl.pe_xa (pv 1)) (pa_cons (Jl.pe_xa (pv 1)) (pa_cons (Jl.pe_xa (pv 1)) pa_nil)))) pa_nil)))))))))), ?_⟩
    show (_ : TS) _ [some (.ref a), none, none, none] H
    walk_at "w"
    refine use_names_of ha hda hnl hpl c hT hm (fun hno G1 H1 m c1 hT1 D => ?_) (fun z t0 t1 rr hl ett G1 H1 d c1 hT1 hd => ?_)
    · walk_at "w"
      refine ⟨(by show 2 ≤ sizeLine; decide), fun t nt => ?_⟩
      have s2 := Jl.same_upd (o := .tup [.ref m, .non]) nt
      exact k1 hno _ _ t m (c1.sm s2) (hT1.ext s2) (D.ext (Same.refl _) s2) upd_same
    · refine ⟨true, T.exm_Twice, fun _ a na => ?_, fun z => by cases z⟩
      walk_at "w"
      refine Jl.s_outN ?_
      try simp only [List.set_cons_succ, List.set_cons_zero]
      have s3 := Jl.same_upd (o := Jl.XO (.ref T.a_Twice) (some d) a) na
      have hd3 := s3 _ _ (c1.ext _ _ hd)
      have ha3 : (upd H1 a (Jl.XO (.ref T.a_Twice) (some d) a)) a = some (Jl.XO (.ref T.a_Twice) (some d) a) := upd_same
      have c3 := c1.sm s3
      have hT3 := hT1.ext s3
      generalize upd H1 a (Jl.XO (.ref T.a_Twice) (some d) a) = H3 at *
      walk_at "w"
      refine Jl.s_isX ha3 (Jl.xd_some hd3) T.ec_Twice (.own _) T.kit_Twice_Twice ?_
      walk_at "w"
      refine use_alone ha3 hd3 (fun H4 s4 => ?_)
      walk_at "w"
      refine Jl.s_xa (s4 _ _ ha3) (s4 _ _ hd3) (by with_unfolding_all rfl) T.xf_Twice T.no_Twice_name (fun R z => Jl.s_var (by with_unfolding_all rfl) z) ?_
      walk_at "w"
      refine Jl.s_xa (s4 _ _ ha3) (s4 _ _ hd3) (by with_unfolding_all rfl) T.xf_Twice T.no_Twice_one (fun R z => Jl.s_var (by with_unfolding_all rfl) z) ?_
      walk_at "w"
      refine Jl.s_xa (s4 _ _ ha3) (s4 _ _ hd3) (by with_unfolding_all rfl) T.xf_Twice T.no_Twice_other (fun R z => Jl.s_var (by with_unfolding_all rfl) z) ?_
      walk_at "w"
      refine ⟨(by show 3 ≤ sizeLine; decide), fun q nq => ?_⟩
      have s5 := s4.trans (Jl.same_upd (o := .lst [.str z, .str t0, .str t1]) nq)
      walk_at "w"
      refine ⟨(by show 2 ≤ sizeLine; decide), fun t nt => ?_⟩
      have s6 := Jl.same_upd (o := .tup [.non, .ref q]) nt
      exact k2 z t0 t1 rr hl ett _ _ t q (c3.sm (s5.trans s6)) (hT3.ext (s5.trans s6)) upd_same (s6 _ _ upd_same)
/-! ### _law_told_all -/
def sp_law_told_all (K : PySem.W.Frag) : Sp := fun vs H Q _ => ∃ (m a : Addr) (xs : List V) (ps : List Jl.Piece) (F : Hp), vs = [.ref m, .ref a] ∧ Jl.SD K F H m (Jl.namesL ps) ∧ SqL K H a xs ∧ DpAll K H xs (ps.map Jl.pieceD) ∧ Jl.Tw ps ∧ (∀ z, ¬ 2 ≤ (Jl.twT ps z).length) ∧ (∀ H', Same H H' → Q (.bl true) H')
theorem use_told_all {K : PySem.W.Frag} {m a : Addr} {xs : List V} {ps : List Jl.Piece} {F H : Hp} {Q : VK} {E : XK} (D0 : Jl.SD K F H m (Jl.namesL ps)) (ha : SqL K H a xs) (hda : DpAll K H xs (ps.map Jl.pieceD)) (W : Jl.Tw ps) (hno : ∀ z, ¬ 2 ≤ (Jl.twT ps z).length) (z : ∀ H', Same H H' → Q (.bl true) H') : sp_law_told_all K [.ref m, .ref a] H Q E := ⟨m, a, xs, ps, F, rfl, D0, ha, hda, W, hno, z⟩
theorem ok_law_told_all (T : Txt K mg) (B : LamX.TabB base mg T.c_by_title T.P_by_title) : FnOk P w K mg base CX0 1 T.a_law_told_all T.d_law_told_all ["_law_answer_here", "_law_pieces"] (sp_law_told_all K) := by
  refine T.F_law_told_all.ok sc_law_told_all (fun vs H Q E h => ?_) (fun cdv A outer s H vs Q E hr h => ?_)
  · obtain ⟨m, a, xs, ps, F, rfl, D0, ha, hda, W, hno, k⟩ := h
    rfl
  · obtain ⟨m, a, xs, ps, F, rfl, D0, ha, hda, W, hno, k⟩ := h
    have hu := hu_of hr
    refine ⟨_, (pss_cons (ps_set (i := 2) sc_law_told_all.nd rfl (Or.inl rfl) pe_dnewK)
      (pss_cons (ps_for PassesOwn.never rfl (pi_list (pv 1)) (pg_tup rfl (pgs_cons (pg_name (i := 3) sc_law_told_all.nd rfl (Or.inl rfl)) (pgs_cons (pg_name (i := 4) sc_law_told_all.nd rfl (Or.inl rfl)) (pgs_cons (pg_name (i := 5) sc_law_told_all.nd rfl (Or.inl rfl)) pgs_nil)))) (pss_one (ps_for PassesOwn.never rfl (pi_list (pv 5)) (pg_name (i := 6) sc_law_told_all.nd rfl (Or.inl rfl)) (pss_one (ps_if (pt_cmpR op_ne (pe_ix (r := rIxT K) ix_tup (pv 6) pe_int (fun _ _ => rfl)) pe_str (nomark _)) (pss_one (ps_dput hu (pv 2) (pe_ix (r := rIxT K) ix_tup (pv 6) pe_int (fun _ _ => rfl)) pe_bl rfl)) pss_nil)))))
      (pss_one (ps_ret (pe_and (pe_callB call_isi (by rfl) T.n_isinstance (by decide +kernel) (pa_cons (pv 0) (pa_cons (pe_bltn (v := .ty "dict") (u := .type "dict") (by rfl) T.n_dict (by decide +kernel) rfl) pa_nil))) (pe_one (pe_cmpR (op_eqD hr.units) (pe_callB (Jl.cl_sortedD rfl) (by rfl) T.n_sorted (by decide +kernel) (pa_cons (pv 0) pa_nil)) (pe_callB (Jl.cl_sortedD rfl) (by rfl) T.n_sorted (by decide +kernel) (pa_cons (pv 2) pa_nil)) (nomark _)))))))), ?_⟩
    show (_ : TS) _ [some (.ref m), some (.ref a), none, none, none, none, none] H
    have hxl := Jl.da_length hda
    have htl : ∀ i j p, ps[i]? = some p → (Jl.addAll [] (Jl.allT (ps.take i) ++ Jl.toldsOf (p.names.take j))).length < 64 := fun i j p hp => by
      have h1 := Jl.addAll_len (Jl.allT (ps.take i) ++ Jl.toldsOf (p.names.take j)) []
      have h2 := Jl.allT_len (ps.take i)
      have h3 := Jl.toldsOf_len (p.names.take j)
      have h4 : ((ps.take i).flatMap (·.names)).length + p.names.length ≤ (ps.flatMap (·.names)).length := by
        have e : ps.flatMap (·.names) = (ps.take i).flatMap (·.names) ++ (ps.drop i).flatMap (·.names) := by rw [← List.flatMap_append, List.take_append_drop]
        have h5 : p ∈ ps.drop i := by
          rw [List.mem_iff_getElem?]
          exact ⟨0, by rw [List.getElem?_drop, Nat.add_zero]; exact hp⟩
        have h6 := Jl.flat_le' (fun p : Jl.Piece => p.names) h5
        rw [e, List.length_append]
        omega
      have h5 := W.total
      rw [List.length_take] at h3
      rw [List.length_append, List.length_nil] at h1
      omega
    walk_at "w"
    refine fun m2 nm2 => ?_
    have s1 := Jl.same_upd (o := .dK []) nm2
    have d1 : (upd H m2 (.dK [])) m2 = some (.dK []) := upd_same
    generalize upd H m2 (.dK []) = H1 at *
    walk_at "w"
    refine Jl.s_seq (Jl.s_forLg (xs := xs) (fun i σ' H' => Same H H' ∧ Jl.TruD H' m2 (Jl.addAll [] (Jl.allT (ps.take i))) ∧ ∃ v3 v4 v5 v6 : Option V, σ' = [some (.ref m), some (.ref a), some (.ref m2), v3, v4, v5, v6]) H1 (fun R z => ?_) (s1.seq ha) ⟨s1, Jl.TruD.nil d1, none, none, none, none, rfl⟩ (fun i σ' H' _ h => h.1.seq ha) (fun i x σ' H' hi h => ?_) (fun σ' H' h => ?_))
    · walk_at "w"
      exact z
    · obtain ⟨s2, D, v3, v4, v5, v6, rfl⟩ := h
      obtain ⟨p, hp, hy⟩ := Jl.da_item hda hi
      obtain ⟨tp, S0, N, ss, nv, rfl, htp, -, -, hN, hnv⟩ := Jl.dp_piece hy
      have hnvl := Jl.da_length hnv
      have e3 : Jl.allT (ps.take (i + 1)) = Jl.allT (ps.take i) ++ Jl.toldsOf p.names := by
        rw [List.take_add_one, hp]
        unfold Jl.allT
        rw [List.flatMap_append]
        show _ ++ (_ ++ []) = _
        rw [List.append_nil]
      refine Jl.s_gTup (Jl.sameT s2 htp) rfl ?_
      walk_at "w"
      refine Jl.s_forLg (xs := nv) (fun j σ' H' => Same H H' ∧ Jl.TruD H' m2 (Jl.addAll [] (Jl.allT (ps.take i) ++ Jl.toldsOf (p.names.take j))) ∧ ∃ v6 : Option V, σ' = [some (.ref m), some (.ref a), some (.ref m2), some (.str p.name), some (.ref S0), some (.ref N), v6]) H' (fun R z => ?_) (s2.seq hN) ⟨s2, by rw [List.take_zero]; show Jl.TruD H' m2 (Jl.addAll [] (_ ++ [])); rw [List.append_nil]; exact D, _, rfl⟩ (fun j σ' H' _ h => h.1.seq hN) (fun j y σ' H' hj h => ?_) (fun σ' H' h => ?_)
      · walk_at "w"
        exact z
      · obtain ⟨s3, D3, v6, rfl⟩ := h
        obtain ⟨q, hq, hz⟩ := Jl.da_item hnv hj
        obtain ⟨tq, rfl, htq⟩ := Jl.dp_nam hz
        have e4 : Jl.toldsOf (p.names.take (j + 1)) = if q.sort = ("own" : Str) then Jl.toldsOf (p.names.take j) else Jl.toldsOf (p.names.take j) ++ [q.name] := by
          rw [List.take_add_one, hq]; exact Jl.toldsOf_snoc _ _
        have hl := htl i j p hp
        rw [e4]
        walk_at "w"
        refine Jl.s_ixT (Jl.sameT s3 htq) (i := 1) rfl ?_
        walk_at "w"
        refine Jl.s_iteN (fun g => ?_) (fun g => ?_)
        · rw [if_neg g]
          refine Jl.s_dput ?_
          walk_at "w"
          refine Jl.s_ixT (Jl.sameT s3 htq) (i := 0) rfl ?_
          obtain ⟨o, P, D4⟩ := D3.put (n := q.name) (by omega)
          refine ⟨m2, _, rfl, P, Jl.same_mut s3 nm2, ?_, _, rfl⟩
          rw [← List.append_assoc, Jl.addAll_app]
          exact D4
        · rw [if_pos g]
          walk_at "w"
          exact ⟨s3, D3, _, rfl⟩
      · obtain ⟨s3, D3, v6, rfl⟩ := h
        rw [hnvl, List.take_length, ← e3] at D3
        exact ⟨s3, D3, _, _, _, _, rfl⟩
    obtain ⟨s2, D, v3, v4, v5, v6, rfl⟩ := h
    rw [hxl, List.take_length] at D
    have hn := Jl.no_two hno
    have hsm := Jl.told_same hn W.sorts
    have hok : ∀ z ∈ Jl.sortS (Jl.addAll [] (Jl.allT ps)), Jl.okS z := fun z hz => by
      have h1 := Jl.addAll_mem.mp (Jl.mem_sortS.mp hz)
      rcases h1 with h1 | h1
      · cases h1
      · obtain ⟨p, hp, q, hq, -, rfl⟩ := Jl.allT_mem.mp h1
        exact ((W.fine p hp).ok.2.2 q hq).1
    have hl1 : ((Jl.namesL ps).map (·.1)).length < 64 := by
      rw [List.length_map]
      have := Jl.names_len hn W.sorts
      have := W.total
      omega
    have hl2 : (Jl.addAll [] (Jl.allT ps)).length < 64 := by
      have h1 := Jl.addAll_len (Jl.allT ps) []
      have h2 := Jl.allT_len ps
      have := W.total
      rw [List.length_nil] at h1
      omega
    obtain ⟨kvs, hk, hK⟩ := D0
    have hk2 := s2 _ _ hk
    obtain ⟨g1, g2⟩ := D.keys
    walk_at "w"
    refine Jl.s_isi (k := true) (.base (.dK hk2)) (kit_ty (by decide +kernel)) ?_
    walk_at "w"
    refine Jl.s_sortedD (ks := (Jl.namesL ps).map (·.1)) hk2 (by rw [hK.1, List.map_map]; rfl) hl1 (fun ys p1 hpm hso n1 => ?_)
    have ey := Jl.sortS_of hpm hso
    rw [hsm] at ey
    subst ey
    have s3 := Jl.same_upd (o := .lst ((Jl.sortS (Jl.addAll [] (Jl.allT ps))).map V.str)) n1
    walk_at "w"
    refine Jl.s_sortedD (s3 _ _ g1) g2 hl2 (fun ys p2 hpm hso n2 => ?_)
    have ey := Jl.sortS_of hpm hso
    subst ey
    have s4 := Jl.same_upd (o := .lst ((Jl.sortS (Jl.addAll [] (Jl.allT ps))).map V.str)) n2
    exact Jl.s_eqSame (Jl.dp_strL (.inl (.inl (s4 _ _ upd_same)))) (Jl.dp_strL (.inl (.inl upd_same))) (Jl.strs_shaped hok) (k _ (s2.trans (s3.trans s4)))
/-! ### _law_holds -/
def sp_law_holds (T : Txt K mg) : Sp := fun vs H Q _ => ∃ (a : Addr) (xs : List V) (ps : List Jl.Piece) (B G : Hp), vs = [.ref a] ∧ SqL K G a xs ∧ DpAll K G xs (ps.map Jl.pieceD) ∧ Jl.Tw ps ∧ Jl.Act B G H [T.P_by_title] ∧ LamX.TabS H T.P_by_title Jl.lamQ ∧ ∀ G' H', Jl.Act B G' H' [T.P_by_title] → Same G G' → LamX.TabS H' T.P_by_title Jl.lamQ → Q (.bl true) H'
theorem use_holds {T : Txt K mg} {a : Addr} {xs : List V} {ps : List Jl.Piece} {B G H : Hp} {Q : VK} {E : XK} (ha : SqL K G a xs) (hda : DpAll K G xs (ps.map Jl.pieceD)) (W : Jl.Tw ps) (c : Jl.Act B G H [T.P_by_title]) (hT : LamX.TabS H T.P_by_title Jl.lamQ) (z : ∀ G' H', Jl.Act B G' H' [T.P_by_title] → Same G G' → LamX.TabS H' T.P_by_title Jl.lamQ → Q (.bl true) H') : sp_law_holds T [.ref a] H Q E := ⟨a, xs, ps, B, G, rfl, ha, hda, W, c, hT, z⟩
theorem ok_law_holds (T : Txt K mg) (B : LamX.TabB base mg T.c_by_title T.P_by_title) : FnOk P w K mg base CX0 5 T.a_law_holds T.d_law_holds ["_law_pieces"] (sp_law_holds T) := by
  have G_law_copy := ok_law_copy (P := P) (w := w) (base := base) T B
  have G_law_texts := ok_law_texts (P := P) (w := w) (base := base) T B
  have G_law_due := ok_law_due (P := P) (w := w) (base := base) T B
  have G_law_answer := ok_law_answer (P := P) (w := w) (base := base) T B
  have G_law_told_all := ok_law_told_all (P := P) (w := w) (base := base) T B
  refine T.F_law_holds.ok sc_law_holds (fun vs H Q E h => ?_) (fun cdv A outer s H vs Q E hr h => ?_)
  · obtain ⟨a, xs, ps, B, G, rfl, ha, hda, W, c, hT, k⟩ := h
    rfl
  · obtain ⟨a, xs, ps, B, G, rfl, ha, hda, W, c, hT, k⟩ := h
    have hu := hu_of hr
    refine ⟨_, (pss_cons (ps_setLc (i := 1) (own := [("_law_piece", 5)]) (g := gName 5) (tt := tYes) (by rfl) sc_law_holds.nd rfl rfl (sw_true rfl rfl rfl (by decide +kernel)) (pi_list (pv 0)) (blkOk_by (own := [("_law_piece", 5)]) (N := N_law_holds) (sc := defScope s_law_holds) (by decide +kernel)) (fun _ _ _ _ _ => pg_name (i := 5) sc_law_holds.nd rfl (Or.inl rfl)) (fun _ _ _ _ _ => pts_nil) (fun _ _ _ _ _ => (pe_call (G_law_copy) (hr.mono (by decide)) rfl T.m_law_copy T.F_law_copy.kp T.b_law_copy .nil pass0 (pa_cons (pv 5) pa_nil))))
      (pss_cons (ps_set (i := 2) sc_law_holds.nd rfl (Or.inl rfl) (pe_call (G_law_due) (hr.mono (by decide)) rfl T.m_law_due T.F_law_due.kp T.b_law_due .nil pass0 (pa_cons (pv 0) pa_nil)))
      (pss_cons (ps_asg (pe_call (G_law_answer) (hr.mono (by decide)) rfl T.m_law_answer T.F_law_answer.kp T.b_law_answer .nil pass0 (pa_cons (pv 1) pa_nil)) (pg_tup rfl (pgs_cons (pg_name (i := 3) sc_law_holds.nd rfl (Or.inl rfl)) (pgs_cons (pg_name (i := 4) sc_law_holds.nd rfl (Or.inl rfl)) pgs_nil))))
      (pss_cons (ps_if (pt_cmpR Jl.op_isN1 (pv 2) pe_non (nomark _)) (pss_one (ps_ret (pe_and (pe_cmpR Jl.op_isN1 (pv 4) pe_non (nomark _)) (pe_and (pe_call (G_law_told_all) (hr.mono (by decide)) rfl T.m_law_told_all T.F_law_told_all.kp T.b_law_told_all .nil pass0 (pa_cons (pv 3) (pa_cons (pv 0) pa_nil))) (pe_one (pe_cmpR (op_eqD hr.units) (pv 1) (pv 0) (nomark _))))))) pss_nil)
      (pss_one (ps_ret (pe_and (pe_cmpR Jl.op_isN1 (pv 3) pe_non (nomark _)) (pe_and (pe_cmpR Jl.op_notN1 (pv 4) pe_non (nomark _)) (pe_and (pe_call (G_law_texts) (hr.mono (by decide)) rfl T.m_law_texts T.F_law_texts.kp T.b_law_texts .nil pass0 (pa_cons (pv 4) (pa_cons (pv 2) pa_nil))) (pe_one (pe_cmpR (op_eqD hr.units) (pv 1) (pv 0) (nomark _)))))))))))), ?_⟩
    show (_ : TS) _ [some (.ref a), none, none, none, none, none] H
    have hxl := Jl.da_length hda
    have hfew := W.few
    have hall : (Jl.allN "tell" ps).length < 64 := Nat.lt_of_le_of_lt (Jl.allN_len _ _) W.total
    have hml : (Jl.foldS (Jl.sortP ps)).m.length < 64 := Nat.lt_of_le_of_lt (Jl.m_len ps) hall
    have hnl : ∀ p ∈ ps, p.names.length < 64 := fun q hq => (W.fine q hq).nl
    walk_at "w"
    refine Jl.s_lcG (xs := xs) c (fun i => (ps[i]?).bind fun q => some (Jl.pieceD q)) (by omega) (fun R z => ?_) (fun i y DD G3 H4 Rs Rn hi c3 sG3 sH4 hRs hRn => ?_) (fun pd G3 H4 us c3 sG3 sH4 hpd hdu hul => ?_)
    · walk_at "w"
      exact z _ _ _ c (Same.refl _) (Same.refl _) ha
    · obtain ⟨q, hq, hy⟩ := Jl.da_item hda hi
      walk_at "w"
      refine ⟨rfl, ?_⟩
      walk_at "w"
      refine use_copy (Jl.dp_same sG3 hy) (by have := (W.fine q (List.mem_of_getElem? hq)).sl; omega) c3 (fun v G4 H5 c4 sG4 sH5 hv => ?_)
      exact hRs v G4 H5 _ sG4 c4 sH5 (by rw [hq]; rfl) hv
    rw [hxl, Jl.range_items, Jl.filterMap_some] at hdu
    have hT4 := hT.ext sH4
    obtain ⟨G4, c4, sG4, hpd4⟩ := c3.freeze hpd
    have hdu4 := Jl.dps_same sG4 hdu
    have sGa := sG3.trans sG4
    have ha4 := sGa.seq ha
    have hda4 := Jl.dps_same sGa hda
    clear hdu hpd c3 sG3 sG4
    walk_at "w"
    refine use_law_due ha4 hda4 hnl hall c4 (fun hno G5 H5 c5 sG5 sH5 => ?_) (fun z t0 t1 rr hl ett G5 H5 q c5 sG5 sH5 hq => ?_)
    · have hT5 := hT4.ext sH5
      walk_at "w"
      refine use_answer (.inl (.inl (sG5 _ _ hpd4))) (Jl.dps_same sG5 hdu4) hnl (by omega) c5.rebase hT5 hml (fun _ G6 H6 t m c6 hT6 D6 ht => ?_) (fun z t0 t1 r hl => absurd hl.1 (hno z))
      walk_at "w"
      have sG46 := sG5.trans c6.base
      have s46 := sG46.trans c6.ext
      refine use_told_all D6 (s46.seq ha4) (Jl.dps_same s46 hda4) W hno (fun H7 s7 => ?_)
      walk_at "w"
      have s47 := s46.trans s7
      have c7 : Jl.Act B G6 H7 [T.P_by_title] := ((c6.sm s7).sub (by simp)).onto c5.base
      exact Jl.s_eqSame (.lst (.inl (.inl (s47 _ _ hpd4))) (Jl.dps_same s47 hdu4)) (.lst (s47.seq ha4) (Jl.dps_same s47 hda4)) (Jl.pieces_shaped fun p hp => (W.fine p hp).ok) (k _ _ c7 (sGa.trans sG46) (hT6.ext s7))
    · have hT5 := hT4.ext sH5
      walk_at "w"
      refine use_answer (.inl (.inl (sG5 _ _ hpd4))) (Jl.dps_same sG5 hdu4) hnl (by omega) c5.rebase hT5 hml (fun hno => absurd hl.1 (hno z)) (fun z' t0' t1' r hl' ett' G6 H6 t q2 c6 hT6 ht hq2 => ?_)
      have ez := hl.uniq hl'
      subst ez
      rw [ett] at ett'
      cases ett'
      walk_at "w"
      have sG46 := sG5.trans c6.base
      have s46 := sG46.trans c6.ext
      refine use_texts (xs := [z, t0, t1]) (ys := [z, t0, t1]) hq2 (c6.same _ _ hq) (by show 3 ≤ 1000; decide) ?_
      rw [decide_eq_true (rfl : [z, t0, t1] = [z, t0, t1])]
      walk_at "w"
      exact Jl.s_eqSame (.lst (.inl (.inl (s46 _ _ hpd4))) (Jl.dps_same s46 hdu4)) (.lst (s46.seq ha4) (Jl.dps_same s46 hda4)) (Jl.pieces_shaped fun p hp => (W.fine p hp).ok) (k _ _ (c6.onto c5.base) (sGa.trans sG46) hT6)
/-! ### law -/
def sp_law (T : Txt K mg) : Sp := fun vs H Q _ => ∃ (a : Addr) (ns : List Int), vs = [.ref a] ∧ SqL K H a (ns.map V.int) ∧ ns.length ≤ 63 ∧ LamX.TabS H T.P_by_title Jl.lamQ ∧ ∀ H', Q (.bl true) H'
theorem ok_law (T : Txt K mg) (B : LamX.TabB base mg T.c_by_title T.P_by_title) : FnOk P w K mg base CX0 6 T.a_law T.d_law ["_law_script"] (sp_law T) := by
  have G_law_cell_at := ok_law_cell_at (P := P) (w := w) (base := base) T B
  have G_law_name_by := ok_law_name_by (P := P) (w := w) (base := base) T B
  have G_law_drawn := ok_law_drawn (P := P) (w := w) (base := base) T B
  have G_law_weaker := ok_law_weaker (P := P) (w := w) (base := base) T B
  have G_law_holds := ok_law_holds (P := P) (w := w) (base := base) T B
  refine T.F_law.ok sc_law (fun vs H Q E h => ?_) (fun cdv A outer s H vs Q E hr h => ?_)
  · obtain ⟨a, ns, rfl, hS, hlen, hT, k⟩ := h
    rfl
  · obtain ⟨a, ns, rfl, hS, hlen, hT, k⟩ := h
    have hu := hu_of hr
    refine ⟨_, (pss_cons (ps_set (i := 1) sc_law.nd rfl (Or.inl rfl) (pe_call (G_law_cell_at) (hr.mono (by decide)) rfl T.m_law_cell_at T.F_law_cell_at.kp T.b_law_cell_at .nil pass0 (pa_cons (pv 0) (pa_cons pe_int pa_nil))))
      (pss_cons (ps_set (i := 2) sc_law.nd rfl (Or.inl rfl) (pe_call (G_law_cell_at) (hr.mono (by decide)) rfl T.m_law_cell_at T.F_law_cell_at.kp T.b_law_cell_at .nil pass0 (pa_cons (pv 0) (pa_cons pe_int pa_nil))))
      (pss_cons (ps_set (i := 3) sc_law.nd rfl (Or.inl rfl) (pe_call (G_law_drawn) (hr.mono (by decide)) rfl T.m_law_drawn T.F_law_drawn.kp T.b_law_drawn .nil pass0 (pa_cons (pe_slice (r := rSlL K) sl_list (pv 0) (po_some pe_int) (po_some pe_int)) (pa_cons (pv 1) (pa_cons (pv 2) (pa_cons pe_bl pa_nil))))))
      (pss_cons (ps_set (i := 4) sc_law.nd rfl (Or.inl rfl) (pe_call (G_law_cell_at) (hr.mono (by decide)) rfl T.m_law_cell_at T.F_law_cell_at.kp T.b_law_cell_at .nil pass0 (pa_cons (pv 0) (pa_cons pe_int pa_nil))))
      (pss_cons (Jl.ps_ifK (pt_cmpR op_eq (pe_op op_mod (pv 4) pe_int) pe_int (nomark _)) (pss_cons (ps_set (i := 5) sc_law.nd rfl (Or.inl rfl) (pe_call (G_law_name_by) (hr.mono (by decide)) rfl T.m_law_name_by T.F_law_name_by.kp T.b_law_name_by .nil pass0 (pa_cons (pv 1) (pa_cons (pe_op op_mod (pe_op op_fdiv (pv 4) pe_int) pe_int) pa_nil))))
      (pss_cons (ps_expr (pe_bm PySem.F.plainAttrs_list PySem.F.slot_list_append PySem.F.type_list_append mt_append (pv 3) (pa_cons (pe_tup (pa_cons (pe_call (G_law_name_by) (hr.mono (by decide)) rfl T.m_law_name_by T.F_law_name_by.kp T.b_law_name_by .nil pass0 (pa_cons (pv 2) (pa_cons pe_int pa_nil))) (pa_cons (pe_lst (pa_cons (pe_tup (pa_cons pe_str (pa_cons pe_int (pa_cons (pe_lst (pa_cons pe_int pa_nil)) (pa_cons (pe_lst pa_nil) pa_nil))))) pa_nil)) (pa_cons (pe_lst (pa_cons (pe_tup (pa_cons (pv 5) (pa_cons pe_str (pa_cons pe_int (pa_cons pe_int pa_nil))))) pa_nil)) pa_nil)))) pa_nil)))
      (pss_one (ps_expr (pe_bm PySem.F.plainAttrs_list PySem.F.slot_list_insert PySem.F.type_list_insert mt_insert (pv 3) (pa_cons pe_int (pa_cons (pe_tup (pa_cons (pe_call (G_law_name_by) (hr.mono (by decide)) rfl T.m_law_name_by T.F_law_name_by.kp T.b_law_name_by .nil pass0 (pa_cons (pv 2) (pa_cons pe_int pa_nil))) (pa_cons (pe_lst (pa_cons (pe_tup (pa_cons pe_str (pa_cons pe_int (pa_cons (pe_lst pa_nil) (pa_cons (pe_lst pa_nil) pa_nil))))) pa_nil)) (pa_cons (pe_lst (pa_cons (pe_tup (pa_cons (pv 5) (pa_cons pe_str (pa_cons pe_int (pa_cons pe_int pa_nil))))) pa_nil)) pa_nil)))) pa_nil))))))) pss_nil)
      (pss_cons (ps_if (pt_not (pt_val (pe_call (G_law_holds) (hr.mono (by decide)) rfl T.m_law_holds T.F_law_holds.kp T.b_law_holds .nil pass0 (pa_cons (pv 3) pa_nil)))) (pss_one (ps_ret pe_bl)) pss_nil)
      (pss_cons (ps_if (pt_not (pt_val (pe_call (G_law_holds) (hr.mono (by decide)) rfl T.m_law_holds T.F_law_holds.kp T.b_law_holds .nil pass0 (pa_cons (pe_call (G_law_weaker) (hr.mono (by decide)) rfl T.m_law_weaker T.F_law_weaker.kp T.b_law_weaker .nil pass0 (pa_cons (pv 3) pa_nil)) pa_nil)))) (pss_one (ps_ret pe_bl)) pss_nil)
      (pss_one (ps_ret (pe_call (G_law_holds) (hr.mono (by decide)) rfl T.m_law_holds T.F_law_holds.kp T.b_law_holds .nil pass0 (pa_cons (pv 3) pa_nil))))))))))), ?_⟩
    show (_ : TS) _ [some (.ref a), none, none, none, none, none] H
    walk_at "w"
    refine use_cell_at hS (by decide) ?_
    walk_at "w"
    refine use_cell_at hS (by decide) ?_
    walk_at "w"
    obtain ⟨ms, ems, eml⟩ := Jl.cutV_from3 ns (some 201)
    refine ⟨a, _, rfl, hS, fun p np => ?_⟩
    rw [ems]
    have s0 := Jl.same_upd (o := .lst (ms.map V.int)) np
    walk_at "w"
    generalize ns.getD (Int.toNat 0) 0 = nb at *
    generalize ns.getD (Int.toNat 1) 0 = tb at *
    refine use_drawn (.inl (.inl upd_same)) (by omega) (fun H1 F P xs ps c1 hP hxs D => ?_)
    have hxl := Jl.da_length hxs
    have hlen12 := D.len
    have hTw : Jl.Tw ps := D.tw (by omega)
    have htot : (ps.flatMap (·.names)).length ≤ 60 := by
      have h1 := Jl.names_le ps
      have h2 := D.wts
      omega
    clear D
    have sH1 := s0.trans c1.same
    have hT1 := hT.ext sH1
    walk_at "w"
    refine use_cell_at (sH1.seq hS) (by decide) ?_
    walk_at "w"
    generalize ns.getD (Int.toNat 2) 0 = mo at *
    refine Jl.s_seq (Jl.s_ifKs (P := mo % 2 = 1) (fun σ' H' => ∃ (xs' : List V) (ps' : List Jl.Piece), Same H H' ∧ H' P = some (.lst xs') ∧ DpAll K H' xs' (ps'.map Jl.pieceD) ∧ Jl.Tw ps' ∧ ∃ v5 : Option V, σ' = [some (.ref a), some (.int nb), some (.int tb), some (.ref P), some (.int mo), v5]) (fun TT t1 t2 => ?_) (fun hm N hN => ?_) (fun hm N hN => ?_) (fun σ' H2 hM => ?_))
    · walk_at "w"
      by_cases g : mo % 2 = 1
      · rw [decide_eq_true g]; exact t1 g
      · rw [decide_eq_false g]; exact t2 g
    rotate_left
    · walk_at "w"
      exact hN _ _ ⟨xs, ps, sH1, hP, Jl.dps_same c1.ext hxs, hTw, _, rfl⟩
    rotate_left
    · walk_at "w"
      have hzok := Jl.nmT_ok nb (mo / 2 % 12)
      generalize Jl.nmT nb (mo / 2 % 12) = z at *
      walk_at "w"
      refine ⟨(by show 1 ≤ sizeLine; decide), fun pw npw => ?_⟩
      have c2 := c1.new (o := .lst [.int 7]) npw
      have f2 := Jl.same_upd (o := .lst [.int 7]) (c1.ext.free npw)
      have s2 := Jl.same_upd (o := .lst [.int 7]) npw
      have hpw : (upd F pw (.lst [.int 7])) pw = some (.lst [.int 7]) := upd_same
      generalize upd F pw (.lst [.int 7]) = F2 at *
      generalize upd H1 pw (.lst [.int 7]) = H2 at *
      walk_at "w"
      refine ⟨(by show 0 ≤ sizeLine; decide), fun pg npg => ?_⟩
      have c3 := c2.new (o := .lst []) npg
      have f3 := Jl.same_upd (o := .lst []) (c2.ext.free npg)
      have s3 := Jl.same_upd (o := .lst []) npg
      have hpg : (upd F2 pg (.lst [])) pg = some (.lst []) := upd_same
      generalize upd F2 pg (.lst []) = F3 at *
      generalize upd H2 pg (.lst []) = H3 at *
      walk_at "w"
      refine ⟨(by show 4 ≤ sizeLine; decide), fun pu npu => ?_⟩
      have c4 := c3.new (o := .tup [.str "data", .int 1, .ref pw, .ref pg]) npu
      have f4 := Jl.same_upd (o := .tup [.str "data", .int 1, .ref pw, .ref pg]) (c3.ext.free npu)
      have s4 := Jl.same_upd (o := .tup [.str "data", .int 1, .ref pw, .ref pg]) npu
      have hpu : (upd F3 pu (.tup [.str "data", .int 1, .ref pw, .ref pg])) pu = some (.tup [.str "data", .int 1, .ref pw, .ref pg]) := upd_same
      generalize upd F3 pu (.tup [.str "data", .int 1, .ref pw, .ref pg]) = F4 at *
      generalize upd H3 pu (.tup [.str "data", .int 1, .ref pw, .ref pg]) = H4 at *
      walk_at "w"
      refine ⟨(by show 1 ≤ sizeLine; decide), fun pS npS => ?_⟩
      have c5 := c4.new (o := .lst [.ref pu]) npS
      have f5 := Jl.same_upd (o := .lst [.ref pu]) (c4.ext.free npS)
      have s5 := Jl.same_upd (o := .lst [.ref pu]) npS
      have hpS : (upd F4 pS (.lst [.ref pu])) pS = some (.lst [.ref pu]) := upd_same
      generalize upd F4 pS (.lst [.ref pu]) = F5 at *
      generalize upd H4 pS (.lst [.ref pu]) = H5 at *
      walk_at "w"
      refine ⟨(by show 4 ≤ sizeLine; decide), fun pt npt => ?_⟩
      have c6 := c5.new (o := .tup [.str z, .str "tell", .int 0, .int 1]) npt
      have f6 := Jl.same_upd (o := .tup [.str z, .str "tell", .int 0, .int 1]) (c5.ext.free npt)
      have s6 := Jl.same_upd (o := .tup [.str z, .str "tell", .int 0, .int 1]) npt
      have hpt : (upd F5 pt (.tup [.str z, .str "tell", .int 0, .int 1])) pt = some (.tup [.str z, .str "tell", .int 0, .int 1]) := upd_same
      generalize upd F5 pt (.tup [.str z, .str "tell", .int 0, .int 1]) = F6 at *
      generalize upd H5 pt (.tup [.str z, .str "tell", .int 0, .int 1]) = H6 at *
      walk_at "w"
      refine ⟨(by show 1 ≤ sizeLine; decide), fun pN npN => ?_⟩
      have c7 := c6.new (o := .lst [.ref pt]) npN
      have f7 := Jl.same_upd (o := .lst [.ref pt]) (c6.ext.free npN)
      have s7 := Jl.same_upd (o := .lst [.ref pt]) npN
      have hpN : (upd F6 pN (.lst [.ref pt])) pN = some (.lst [.ref pt]) := upd_same
      generalize upd F6 pN (.lst [.ref pt]) = F7 at *
      generalize upd H6 pN (.lst [.ref pt]) = H7 at *
      walk_at "w"
      refine ⟨(by show 3 ≤ sizeLine; decide), fun pz npz => ?_⟩
      have c8 := c7.new (o := .tup [.str (Jl.nmT tb 13), .ref pS, .ref pN]) npz
      have f8 := Jl.same_upd (o := .tup [.str (Jl.nmT tb 13), .ref pS, .ref pN]) (c7.ext.free npz)
      have s8 := Jl.same_upd (o := .tup [.str (Jl.nmT tb 13), .ref pS, .ref pN]) npz
      have hpz : (upd F7 pz (.tup [.str (Jl.nmT tb 13), .ref pS, .ref pN])) pz = some (.tup [.str (Jl.nmT tb 13), .ref pS, .ref pN]) := upd_same
      generalize upd F7 pz (.tup [.str (Jl.nmT tb 13), .ref pS, .ref pN]) = F8 at *
      generalize upd H7 pz (.tup [.str (Jl.nmT tb 13), .ref pS, .ref pN]) = H8 at *
      walk_at "w"
      have hP8 := (s2.trans (s3.trans (s4.trans (s5.trans (s6.trans (s7.trans (s8))))))) _ _ hP
      refine Jl.s_append hP8 ?_ (Jl.small5' (by omega))
      have c9 := c8.upd (a := P) (o := .lst (xs ++ [.ref pz])) (by simp)
      have hP9 : (upd H8 P (.lst (xs ++ [.ref pz]))) P = some (.lst (xs ++ [.ref pz])) := upd_same
      generalize upd H8 P (.lst (xs ++ [.ref pz])) = H9 at *
      walk_at "w"
      refine ⟨(by show 0 ≤ sizeLine; decide), fun qw nqw => ?_⟩
      have c10 := c9.new (o := .lst []) nqw
      have f10 := Jl.same_upd (o := .lst []) (c9.ext.free nqw)
      have s10 := Jl.same_upd (o := .lst []) nqw
      have hqw : (upd F8 qw (.lst [])) qw = some (.lst []) := upd_same
      generalize upd F8 qw (.lst []) = F10 at *
      generalize upd H9 qw (.lst []) = H10 at *
      walk_at "w"
      refine ⟨(by show 0 ≤ sizeLine; decide), fun qg nqg => ?_⟩
      have c11 := c10.new (o := .lst []) nqg
      have f11 := Jl.same_upd (o := .lst []) (c10.ext.free nqg)
      have s11 := Jl.same_upd (o := .lst []) nqg
      have hqg : (upd F10 qg (.lst [])) qg = some (.lst []) := upd_same
      generalize upd F10 qg (.lst []) = F11 at *
      generalize upd H10 qg (.lst []) = H11 at *
      walk_at "w"
      refine ⟨(by show 4 ≤ sizeLine; decide), fun qu nqu => ?_⟩
      have c12 := c11.new (o := .tup [.str "code", .int 4, .ref qw, .ref qg]) nqu
      have f12 := Jl.same_upd (o := .tup [.str "code", .int 4, .ref qw, .ref qg]) (c11.ext.free nqu)
      have s12 := Jl.same_upd (o := .tup [.str "code", .int 4, .ref qw, .ref qg]) nqu
      have hqu : (upd F11 qu (.tup [.str "code", .int 4, .ref qw, .ref qg])) qu = some (.tup [.str "code", .int 4, .ref qw, .ref qg]) := upd_same
      generalize upd F11 qu (.tup [.str "code", .int 4, .ref qw, .ref qg]) = F12 at *
      generalize upd H11 qu (.tup [.str "code", .int 4, .ref qw, .ref qg]) = H12 at *
      walk_at "w"
      refine ⟨(by show 1 ≤ sizeLine; decide), fun qS nqS => ?_⟩
      have c13 := c12.new (o := .lst [.ref qu]) nqS
      have f13 := Jl.same_upd (o := .lst [.ref qu]) (c12.ext.free nqS)
      have s13 := Jl.same_upd (o := .lst [.ref qu]) nqS
      have hqS : (upd F12 qS (.lst [.ref qu])) qS = some (.lst [.ref qu]) := upd_same
      generalize upd F12 qS (.lst [.ref qu]) = F13 at *
      generalize upd H12 qS (.lst [.ref qu]) = H13 at *
      walk_at "w"
      refine ⟨(by show 4 ≤ sizeLine; decide), fun qt nqt => ?_⟩
      have c14 := c13.new (o := .tup [.str z, .str "tell", .int 0, .int 0]) nqt
      have f14 := Jl.same_upd (o := .tup [.str z, .str "tell", .int 0, .int 0]) (c13.ext.free nqt)
      have s14 := Jl.same_upd (o := .tup [.str z, .str "tell", .int 0, .int 0]) nqt
      have hqt : (upd F13 qt (.tup [.str z, .str "tell", .int 0, .int 0])) qt = some (.tup [.str z, .str "tell", .int 0, .int 0]) := upd_same
      generalize upd F13 qt (.tup [.str z, .str "tell", .int 0, .int 0]) = F14 at *
      generalize upd H13 qt (.tup [.str z, .str "tell", .int 0, .int 0]) = H14 at *
      walk_at "w"
      refine ⟨(by show 1 ≤ sizeLine; decide), fun qN nqN => ?_⟩
      have c15 := c14.new (o := .lst [.ref qt]) nqN
      have f15 := Jl.same_upd (o := .lst [.ref qt]) (c14.ext.free nqN)
      have s15 := Jl.same_upd (o := .lst [.ref qt]) nqN
      have hqN : (upd F14 qN (.lst [.ref qt])) qN = some (.lst [.ref qt]) := upd_same
      generalize upd F14 qN (.lst [.ref qt]) = F15 at *
      generalize upd H14 qN (.lst [.ref qt]) = H15 at *
      walk_at "w"
      refine ⟨(by show 3 ≤ sizeLine; decide), fun qz nqz => ?_⟩
      have c16 := c15.new (o := .tup [.str (Jl.nmT tb 12), .ref qS, .ref qN]) nqz
      have f16 := Jl.same_upd (o := .tup [.str (Jl.nmT tb 12), .ref qS, .ref qN]) (c15.ext.free nqz)
      have s16 := Jl.same_upd (o := .tup [.str (Jl.nmT tb 12), .ref qS, .ref qN]) nqz
      have hqz : (upd F15 qz (.tup [.str (Jl.nmT tb 12), .ref qS, .ref qN])) qz = some (.tup [.str (Jl.nmT tb 12), .ref qS, .ref qN]) := upd_same
      generalize upd F15 qz (.tup [.str (Jl.nmT tb 12), .ref qS, .ref qN]) = F16 at *
      generalize upd H15 qz (.tup [.str (Jl.nmT tb 12), .ref qS, .ref qN]) = H16 at *
      walk_at "w"
      have hP16 := (s10.trans (s11.trans (s12.trans (s13.trans (s14.trans (s15.trans (s16))))))) _ _ hP9
      refine ⟨P, _, 0, .ref qz, rfl, rfl, hP16, (by rw [List.length_append, List.length_singleton]; exact Jl.small5' (by omega)), by decide, by decide, ?_⟩
      have ei : (xs ++ [V.ref pz]).take (Int.toNat 0) ++ [V.ref qz] ++ (xs ++ [V.ref pz]).drop (Int.toNat 0) = V.ref qz :: (xs ++ [.ref pz]) := rfl
      rw [ei]
      have c17 := c16.upd (a := P) (o := .lst (V.ref qz :: (xs ++ [.ref pz]))) (by simp)
      have hP17 : (upd H16 P (.lst (V.ref qz :: (xs ++ [.ref pz])))) P = some (.lst (V.ref qz :: (xs ++ [.ref pz]))) := upd_same
      generalize upd H16 P (.lst (V.ref qz :: (xs ++ [.ref pz]))) = H17 at *
      have hz : Jl.okS z := hzok
      have dp : Dp K F16 (.ref pz) (Jl.pieceD ⟨Jl.nmT tb 13, [⟨"data", 1, [7], []⟩], [⟨z, "tell", 0, 1⟩]⟩) := by
        have g8 := (f10.trans (f11.trans (f12.trans (f13.trans (f14.trans (f15.trans (f16)))))))
        have g5 := Same.trans (f6.trans (f7.trans (f8))) g8
        have g4 := f5.trans g5
        exact .tup (.inl (.inl (g8 _ _ hpz))) (.cons (.str _) (.cons (.lst (.inl (.inl (g5 _ _ hpS))) (.cons (.tup (.inl (.inl (g4 _ _ hpu))) (.cons (.str _) (.cons (.int _) (.cons (Jl.dp_intL (ns := [7]) (.inl (.inl ((f3.trans (f4.trans g4)) _ _ hpw)))) (.cons (.lst (.inl (.inl ((f4.trans g4) _ _ hpg))) .nil) .nil))))) .nil)) (.cons (.lst (.inl (.inl ((f8.trans g8) _ _ hpN))) (.cons (.tup (.inl (.inl ((f7.trans (f8.trans g8)) _ _ hpt))) (.cons (.str _) (.cons (.str _) (.cons (.int _) (.cons (.int _) .nil))))) .nil)) .nil)))
      have dq : Dp K F16 (.ref qz) (Jl.pieceD ⟨Jl.nmT tb 12, [⟨"code", 4, [], []⟩], [⟨z, "tell", 0, 0⟩]⟩) := by
        have g5 := (f14.trans (f15.trans (f16)))
        have g4 := f13.trans g5
        exact .tup (.inl (.inl hqz)) (.cons (.str _) (.cons (.lst (.inl (.inl (g5 _ _ hqS))) (.cons (.tup (.inl (.inl (g4 _ _ hqu))) (.cons (.str _) (.cons (.int _) (.cons (Jl.dp_intL (ns := []) (.inl (.inl ((f11.trans (f12.trans g4)) _ _ hqw)))) (.cons (.lst (.inl (.inl ((f12.trans g4) _ _ hqg))) .nil) .nil))))) .nil)) (.cons (.lst (.inl (.inl (f16 _ _ hqN))) (.cons (.tup (.inl (.inl ((f15.trans f16) _ _ hqt))) (.cons (.str _) (.cons (.str _) (.cons (.int _) (.cons (.int _) .nil))))) .nil)) .nil)))
      have hxs16 := Jl.dps_same (Same.trans (f2.trans (f3.trans (f4.trans (f5.trans (f6.trans (f7.trans (f8))))))) (f10.trans (f11.trans (f12.trans (f13.trans (f14.trans (f15.trans (f16)))))))) hxs
      refine hN _ _ ⟨_, ⟨Jl.nmT tb 12, [⟨"code", 4, [], []⟩], [⟨z, "tell", 0, 0⟩]⟩ :: (ps ++ [⟨Jl.nmT tb 13, [⟨"data", 1, [7], []⟩], [⟨z, "tell", 0, 1⟩]⟩]), s0.trans c17.same, hP17, ?_, ?_, _, rfl⟩
      · refine .cons (Jl.dp_same c17.ext dq) ?_
        rw [List.map_append]
        exact Jl.da_app (Jl.dps_same c17.ext hxs16) (Jl.da_one (Jl.dp_same c17.ext dp))
      · exact hTw.more (Jl.tw_one (Jl.nmT_ok _ _) hz (.inl rfl)) (Jl.tw_one (Jl.nmT_ok _ _) hz (.inr rfl)) htot hlen12
    obtain ⟨xs', ps', sH2, hP2, hda2, hTw2, v5, rfl⟩ := hM
    have hT2 := hT.ext sH2
    clear hxs hP c1 hxl hlen12 hTw htot hT1 sH1
    have c := Jl.act_tab hT2
    have hPG := Jl.del_keep hT2 _ _ hP2 (fun _ e => by cases e)
    have hdaG := Jl.dps_keep (Jl.del_keep hT2) hda2
    generalize del H2 T.P_by_title = G0 at *
    walk_at "w"
    refine use_holds (.inl (.inl hPG)) hdaG hTw2 c hT2 (fun G3 H3 c3 sG3 hT3 => ?_)
    walk_at "w"
    refine use_weaker (.inl (.inl (sG3 _ _ hPG))) (Jl.dps_same sG3 hdaG) hTw2 c3 (fun r G4 H4 ys qs c4 sG4 sH4 hw hr hys => ?_)
    walk_at "w"
    refine use_holds (.inl (.inl hr)) hys (hTw2.weaker hw) c4 (hT3.ext sH4) (fun G5 H5 c5 sG5 hT5 => ?_)
    walk_at "w"
    have s05 := sG3.trans (sG4.trans sG5)
    refine use_holds (.inl (.inl (s05 _ _ hPG))) (Jl.dps_same s05 hdaG) hTw2 c5 hT5 (fun G6 H6 c6 sG6 hT6 => ?_)
    exact k _
end
theorem all_mk {l : PySem.W.OpenLaw} {w : World} {K : PySem.W.Frag} {h : Heap} {mg : Str → Option Value} {fa a_JoinError a_NoRule a_NoPiece a_Twice a_SameName a_Unmet a_TooFar a_NoWhole a_NoBase a_Lost a_NoSense a_Twice___init__ a_by_title a_names_of a_law_cell_at a_law_name_by a_law_word_row a_law_told_by a_law_drawn a_law_copy a_law_texts a_law_due a_law_weaker a_law_alone a_law_answer a_law_told_all a_law_holds a_law : Addr} (X : K.In h) (G : h.Ns mainGlobals mg) (hfa : mg "law" = some (.ref fa))
    {od_Twice___init__ an_Twice___init__ : Option Addr} {sl_Twice___init__ : Array (Option Value)} {oc_Twice___init__ kV_Twice___init__ dc_Twice___init__ pm_Twice___init__ cd_Twice___init__ ct_Twice___init__ : Value}
    {od_by_title an_by_title : Option Addr} {sl_by_title : Array (Option Value)} {oc_by_title kV_by_title dc_by_title pm_by_title ct_by_title : Value} {c_by_title P_by_title : Addr}
    {od_names_of an_names_of : Option Addr} {sl_names_of : Array (Option Value)} {oc_names_of kV_names_of dc_names_of pm_names_of cd_names_of ct_names_of : Value}
    {od_law_cell_at an_law_cell_at : Option Addr} {sl_law_cell_at : Array (Option Value)} {oc_law_cell_at kV_law_cell_at dc_law_cell_at pm_law_cell_at cd_law_cell_at ct_law_cell_at : Value}
    {od_law_name_by an_law_name_by : Option Addr} {sl_law_name_by : Array (Option Value)} {oc_law_name_by kV_law_name_by dc_law_name_by pm_law_name_by cd_law_name_by ct_law_name_by : Value}
    {od_law_word_row an_law_word_row : Option Addr} {sl_law_word_row : Array (Option Value)} {oc_law_word_row kV_law_word_row dc_law_word_row pm_law_word_row cd_law_word_row ct_law_word_row : Value}
    {od_law_told_by an_law_told_by : Option Addr} {sl_law_told_by : Array (Option Value)} {oc_law_told_by kV_law_told_by dc_law_told_by pm_law_told_by cd_law_told_by ct_law_told_by : Value}
    {od_law_drawn an_law_drawn : Option Addr} {sl_law_drawn : Array (Option Value)} {oc_law_drawn kV_law_drawn dc_law_drawn pm_law_drawn cd_law_drawn ct_law_drawn : Value}
    {od_law_copy an_law_copy : Option Addr} {sl_law_copy : Array (Option Value)} {oc_law_copy kV_law_copy dc_law_copy pm_law_copy cd_law_copy ct_law_copy : Value}
    {od_law_texts an_law_texts : Option Addr} {sl_law_texts : Array (Option Value)} {oc_law_texts kV_law_texts dc_law_texts pm_law_texts cd_law_texts ct_law_texts : Value}
    {od_law_due an_law_due : Option Addr} {sl_law_due : Array (Option Value)} {oc_law_due kV_law_due dc_law_due pm_law_due cd_law_due ct_law_due : Value}
    {od_law_weaker an_law_weaker : Option Addr} {sl_law_weaker : Array (Option Value)} {oc_law_weaker kV_law_weaker dc_law_weaker pm_law_weaker cd_law_weaker ct_law_weaker : Value}
    {od_law_alone an_law_alone : Option Addr} {sl_law_alone : Array (Option Value)} {oc_law_alone kV_law_alone dc_law_alone pm_law_alone cd_law_alone ct_law_alone : Value}
    {od_law_answer an_law_answer : Option Addr} {sl_law_answer : Array (Option Value)} {oc_law_answer kV_law_answer dc_law_answer pm_law_answer cd_law_answer ct_law_answer : Value}
    {od_law_told_all an_law_told_all : Option Addr} {sl_law_told_all : Array (Option Value)} {oc_law_told_all kV_law_told_all dc_law_told_all pm_law_told_all cd_law_told_all ct_law_told_all : Value}
    {od_law_holds an_law_holds : Option Addr} {sl_law_holds : Array (Option Value)} {oc_law_holds kV_law_holds dc_law_holds pm_law_holds cd_law_holds ct_law_holds : Value}
    {od_law an_law : Option Addr} {sl_law : Array (Option Value)} {oc_law kV_law dc_law pm_law cd_law ct_law : Value}
    {nm_Twice q_Twice : Str} {N_Twice : Addr} {bs_Twice : List Value} {sn_Twice : List Str} {sub_Twice : List Value} {ab_Twice : Bool} {col_Twice : Option Bool} {dd_Twice : Option Addr} {m0_Twice m1_Twice m2_Twice m3_Twice m5_Twice : Option Value}
    (ns_JoinError : PySem.W.nsIn K mainGlobals "JoinError" = some (some (.ref a_JoinError)))
    (ns_NoRule : PySem.W.nsIn K mainGlobals "NoRule" = some (some (.ref a_NoRule)))
    (ns_NoPiece : PySem.W.nsIn K mainGlobals "NoPiece" = some (some (.ref a_NoPiece)))
    (ns_Twice : PySem.W.nsIn K mainGlobals "Twice" = some (some (.ref a_Twice)))
    (ns_SameName : PySem.W.nsIn K mainGlobals "SameName" = some (some (.ref a_SameName)))
    (ns_Unmet : PySem.W.nsIn K mainGlobals "Unmet" = some (some (.ref a_Unmet)))
    (ns_TooFar : PySem.W.nsIn K mainGlobals "TooFar" = some (some (.ref a_TooFar)))
    (ns_NoWhole : PySem.W.nsIn K mainGlobals "NoWhole" = some (some (.ref a_NoWhole)))
    (ns_NoBase : PySem.W.nsIn K mainGlobals "NoBase" = some (some (.ref a_NoBase)))
    (ns_Lost : PySem.W.nsIn K mainGlobals "Lost" = some (some (.ref a_Lost)))
    (ns_NoSense : PySem.W.nsIn K mainGlobals "NoSense" = some (some (.ref a_NoSense)))
    (ini_Twice : PySem.W.findIn K (.ref a_Twice) "__init__" = some (some (.ref a_Twice___init__)))
    (ns_by_title : PySem.W.nsIn K mainGlobals "by_title" = some (some (.ref a_by_title)))
    (ns_names_of : PySem.W.nsIn K mainGlobals "names_of" = some (some (.ref a_names_of)))
    (ns_law_cell_at : PySem.W.nsIn K mainGlobals "_law_cell_at" = some (some (.ref a_law_cell_at)))
    (ns_law_name_by : PySem.W.nsIn K mainGlobals "_law_name_by" = some (some (.ref a_law_name_by)))
    (ns_law_word_row : PySem.W.nsIn K mainGlobals "_law_word_row" = some (some (.ref a_law_word_row)))
    (ns_law_told_by : PySem.W.nsIn K mainGlobals "_law_told_by" = some (some (.ref a_law_told_by)))
    (ns_law_drawn : PySem.W.nsIn K mainGlobals "_law_drawn" = some (some (.ref a_law_drawn)))
    (ns_law_copy : PySem.W.nsIn K mainGlobals "_law_copy" = some (some (.ref a_law_copy)))
    (ns_law_texts : PySem.W.nsIn K mainGlobals "_law_texts" = some (some (.ref a_law_texts)))
    (ns_law_due : PySem.W.nsIn K mainGlobals "_law_due" = some (some (.ref a_law_due)))
    (ns_law_weaker : PySem.W.nsIn K mainGlobals "_law_weaker" = some (some (.ref a_law_weaker)))
    (ns_law_alone : PySem.W.nsIn K mainGlobals "_law_alone" = some (some (.ref a_law_alone)))
    (ns_law_answer : PySem.W.nsIn K mainGlobals "_law_answer" = some (some (.ref a_law_answer)))
    (ns_law_told_all : PySem.W.nsIn K mainGlobals "_law_told_all" = some (some (.ref a_law_told_all)))
    (ns_law_holds : PySem.W.nsIn K mainGlobals "_law_holds" = some (some (.ref a_law_holds)))
    (ns_law : PySem.W.nsIn K mainGlobals "law" = some (some (.ref a_law)))
    (lk_Twice___init__ : K.lookup a_Twice___init__ = some ⟨oc_Twice___init__, od_Twice___init__, .func (PySem.W.fnOf "__init__" "Twice.__init__" (defArgs s_Twice___init__) (defBody s_Twice___init__) (defScope s_Twice___init__) .none kV_Twice___init__ dc_Twice___init__ pm_Twice___init__ an_Twice___init__ cd_Twice___init__ ct_Twice___init__), sl_Twice___init__⟩)
    (cd_is_Twice___init__ : PySem.W.codeIn K cd_Twice___init__ "Twice.__init__" = true)
    (kp_Twice___init__ : PySem.W.keepIn K (.ref a_Twice___init__) = true)
    (isf_Twice___init__ : PySem.W.isFn K (.ref a_Twice___init__) = true)
    (lk_by_title : K.lookup a_by_title = some ⟨oc_by_title, od_by_title, .func (PySem.W.fnOf "by_title" "by_title" (defArgs s_by_title) (defBody s_by_title) (defScope s_by_title) .none kV_by_title dc_by_title pm_by_title an_by_title (.ref c_by_title) ct_by_title), sl_by_title⟩)
    (cd_is_by_title : PySem.W.codeIn K (.ref c_by_title) "by_title" = true)
    (kp_by_title : PySem.W.keepIn K (.ref a_by_title) = true)
    (lk_names_of : K.lookup a_names_of = some ⟨oc_names_of, od_names_of, .func (PySem.W.fnOf "names_of" "names_of" (defArgs s_names_of) (defBody s_names_of) (defScope s_names_of) .none kV_names_of dc_names_of pm_names_of an_names_of cd_names_of ct_names_of), sl_names_of⟩)
    (cd_is_names_of : PySem.W.codeIn K cd_names_of "names_of" = true)
    (kp_names_of : PySem.W.keepIn K (.ref a_names_of) = true)
    (lk_law_cell_at : K.lookup a_law_cell_at = some ⟨oc_law_cell_at, od_law_cell_at, .func (PySem.W.fnOf "_law_cell_at" "_law_cell_at" (defArgs s_law_cell_at) (defBody s_law_cell_at) (defScope s_law_cell_at) .none kV_law_cell_at dc_law_cell_at pm_law_cell_at an_law_cell_at cd_law_cell_at ct_law_cell_at), sl_law_cell_at⟩)
    (cd_is_law_cell_at : PySem.W.codeIn K cd_law_cell_at "_law_cell_at" = true)
    (kp_law_cell_at : PySem.W.keepIn K (.ref a_law_cell_at) = true)
    (lk_law_name_by : K.lookup a_law_name_by = some ⟨oc_law_name_by, od_law_name_by, .func (PySem.W.fnOf "_law_name_by" "_law_name_by" (defArgs s_law_name_by) (defBody s_law_name_by) (defScope s_law_name_by) .none kV_law_name_by dc_law_name_by pm_law_name_by an_law_name_by cd_law_name_by ct_law_name_by), sl_law_name_by⟩)
    (cd_is_law_name_by : PySem.W.codeIn K cd_law_name_by "_law_name_by" = true)
    (kp_law_name_by : PySem.W.keepIn K (.ref a_law_name_by) = true)
    (lk_law_word_row : K.lookup a_law_word_row = some ⟨oc_law_word_row, od_law_word_row, .func (PySem.W.fnOf "_law_word_row" "_law_word_row" (defArgs s_law_word_row) (defBody s_law_word_row) (defScope s_law_word_row) .none kV_law_word_row dc_law_word_row pm_law_word_row an_law_word_row cd_law_word_row ct_law_word_row), sl_law_word_row⟩)
    (cd_is_law_word_row : PySem.W.codeIn K cd_law_word_row "_law_word_row" = true)
    (kp_law_word_row : PySem.W.keepIn K (.ref a_law_word_row) = true)
    (lk_law_told_by : K.lookup a_law_told_by = some ⟨oc_law_told_by, od_law_told_by, .func (PySem.W.fnOf "_law_told_by" "_law_told_by" (defArgs s_law_told_by) (defBody s_law_told_by) (defScope s_law_told_by) .none kV_law_told_by dc_law_told_by pm_law_told_by an_law_told_by cd_law_told_by ct_law_told_by), sl_law_told_by⟩)
    (cd_is_law_told_by : PySem.W.codeIn K cd_law_told_by "_law_told_by" = true)
    (kp_law_told_by : PySem.W.keepIn K (.ref a_law_told_by) = true)
    (lk_law_drawn : K.lookup a_law_drawn = some ⟨oc_law_drawn, od_law_drawn, .func (PySem.W.fnOf "_law_drawn" "_law_drawn" (defArgs s_law_drawn) (defBody s_law_drawn) (defScope s_law_drawn) .none kV_law_drawn dc_law_drawn pm_law_drawn an_law_drawn cd_law_drawn ct_law_drawn), sl_law_drawn⟩)
    (cd_is_law_drawn : PySem.W.codeIn K cd_law_drawn "_law_drawn" = true)
    (kp_law_drawn : PySem.W.keepIn K (.ref a_law_drawn) = true)
    (lk_law_copy : K.lookup a_law_copy = some ⟨oc_law_copy, od_law_copy, .func (PySem.W.fnOf "_law_copy" "_law_copy" (defArgs s_law_copy) (defBody s_law_copy) (defScope s_law_copy) .none kV_law_copy dc_law_copy pm_law_copy an_law_copy cd_law_copy ct_law_copy), sl_law_copy⟩)
    (cd_is_law_copy : PySem.W.codeIn K cd_law_copy "_law_copy" = true)
    (kp_law_copy : PySem.W.keepIn K (.ref a_law_copy) = true)
    (lk_law_texts : K.lookup a_law_texts = some ⟨oc_law_texts, od_law_texts, .func (PySem.W.fnOf "_law_texts" "_law_texts" (defArgs s_law_texts) (defBody s_law_texts) (defScope s_law_texts) .none kV_law_texts dc_law_texts pm_law_texts an_law_texts cd_law_texts ct_law_texts), sl_law_texts⟩)
    (cd_is_law_texts : PySem.W.codeIn K cd_law_texts "_law_texts" = true)
    (kp_law_texts : PySem.W.keepIn K (.ref a_law_texts) = true)
    (lk_law_due : K.lookup a_law_due = some ⟨oc_law_due, od_law_due, .func (PySem.W.fnOf "_law_due" "_law_due" (defArgs s_law_due) (defBody s_law_due) (defScope s_law_due) .none kV_law_due dc_law_due pm_law_due an_law_due cd_law_due ct_law_due), sl_law_due⟩)
    (cd_is_law_due : PySem.W.codeIn K cd_law_due "_law_due" = true)
    (kp_law_due : PySem.W.keepIn K (.ref a_law_due) = true)
    (lk_law_weaker : K.lookup a_law_weaker = some ⟨oc_law_weaker, od_law_weaker, .func (PySem.W.fnOf "_law_weaker" "_law_weaker" (defArgs s_law_weaker) (defBody s_law_weaker) (defScope s_law_weaker) .none kV_law_weaker dc_law_weaker pm_law_weaker an_law_weaker cd_law_weaker ct_law_weaker), sl_law_weaker⟩)
    (cd_is_law_weaker : PySem.W.codeIn K cd_law_weaker "_law_weaker" = true)
    (kp_law_weaker : PySem.W.keepIn K (.ref a_law_weaker) = true)
    (lk_law_alone : K.lookup a_law_alone = some ⟨oc_law_alone, od_law_alone, .func (PySem.W.fnOf "_law_alone" "_law_alone" (defArgs s_law_alone) (defBody s_law_alone) (defScope s_law_alone) .none kV_law_alone dc_law_alone pm_law_alone an_law_alone cd_law_alone ct_law_alone), sl_law_alone⟩)
    (cd_is_law_alone : PySem.W.codeIn K cd_law_alone "_law_alone" = true)
    (kp_law_alone : PySem.W.keepIn K (.ref a_law_alone) = true)
    (lk_law_answer : K.lookup a_law_answer = some ⟨oc_law_answer, od_law_answer, .func (PySem.W.fnOf "_law_answer" "_law_answer" (defArgs s_law_answer) (defBody s_law_answer) (defScope s_law_answer) .none kV_law_answer dc_law_answer pm_law_answer an_law_answer cd_law_answer ct_law_answer), sl_law_answer⟩)
    (cd_is_law_answer : PySem.W.codeIn K cd_law_answer "_law_answer" = true)
    (kp_law_answer : PySem.W.keepIn K (.ref a_law_answer) = true)
    (lk_law_told_all : K.lookup a_law_told_all = some ⟨oc_law_told_all, od_law_told_all, .func (PySem.W.fnOf "_law_told_all" "_law_told_all" (defArgs s_law_told_all) (defBody s_law_told_all) (defScope s_law_told_all) .none kV_law_told_all dc_law_told_all pm_law_told_all an_law_told_all cd_law_told_all ct_law_told_all), sl_law_told_all⟩)
    (cd_is_law_told_all : PySem.W.codeIn K cd_law_told_all "_law_told_all" = true)
    (kp_law_told_all : PySem.W.keepIn K (.ref a_law_told_all) = true)
    (lk_law_holds : K.lookup a_law_holds = some ⟨oc_law_holds, od_law_holds, .func (PySem.W.fnOf "_law_holds" "_law_holds" (defArgs s_law_holds) (defBody s_law_holds) (defScope s_law_holds) .none kV_law_holds dc_law_holds pm_law_holds an_law_holds cd_law_holds ct_law_holds), sl_law_holds⟩)
    (cd_is_law_holds : PySem.W.codeIn K cd_law_holds "_law_holds" = true)
    (kp_law_holds : PySem.W.keepIn K (.ref a_law_holds) = true)
    (lk_law : K.lookup a_law = some ⟨oc_law, od_law, .func (PySem.W.fnOf "law" "law" (defArgs s_law) (defBody s_law) (defScope s_law) .none kV_law dc_law pm_law an_law cd_law ct_law), sl_law⟩)
    (cd_is_law : PySem.W.codeIn K cd_law "law" = true)
    (kp_law : PySem.W.keepIn K (.ref a_law) = true)
    (en : PySem.W.specialIn K (.builtin "object.__class__") "__get__" = some (some (.builtin "getset_descriptor.__get__")))
    (et : PySem.W.takesIn K (.builtin "object.__class__") = some true)
    (bej : PySem.W.subIn K (.ref a_JoinError) (.type "BaseException") = some true)
    (hdj : PySem.W.hasDictIn K a_JoinError = true)
    (tyj : PySem.W.typeIn K (.ref a_JoinError) = some (.type "type"))
    (be_Twice : PySem.W.subIn K (.ref a_Twice) (.type "BaseException") = some true)
    (ty_Twice : PySem.W.typeIn K (.ref a_Twice) = some (.type "type"))
    (kc_Twice : PySem.W.keepIn K (.ref a_Twice) = true)
    (eg_Twice : PySem.W.findIn K (.ref a_Twice) "__getattribute__" = some (some (.builtin "BaseException.__getattribute__")))
    (ek_Twice : PySem.W.findIn K (.ref a_Twice) "__getattr__" = some none)
    (hd_Twice : PySem.W.hasDictIn K a_Twice = true)
    (ea_Twice : PySem.W.findIn K (.ref a_Twice) "__class__" = some (some (.builtin "object.__class__")))
    (em_Twice : PySem.W.mroIn K a_Twice (.type "object") = some true)
    (ve_Twice : PySem.W.kitOne K (.ref a_Twice) (.type "ValueError") = some true)
    (xl_Twice : K.lookup a_Twice = some (PySem.excClassObj nm_Twice q_Twice a_Twice N_Twice bs_Twice [.ref a_JoinError, .type "ValueError", .type "Exception", .type "BaseException", .type "object"] true sn_Twice sub_Twice ab_Twice col_Twice dd_Twice m0_Twice m1_Twice m2_Twice m3_Twice m5_Twice "ValueError.__new__"))
    (sa_Twice : PySem.W.findIn K (.ref a_Twice) "__setattr__" = some (some (.builtin "object.__setattr__")))
    (tf_Twice : PySem.W.typeIn K (.ref a_Twice___init__) = some (.type "function"))
    (no_Twice_name : PySem.W.findIn K (.ref a_Twice) "name" = some none)
    (no_Twice_one : PySem.W.findIn K (.ref a_Twice) "one" = some none)
    (no_Twice_other : PySem.W.findIn K (.ref a_Twice) "other" = some none)
    (kit_Twice_JoinError : PySem.W.kitOne K (.ref a_Twice) (.ref a_JoinError) = some true)
    (kit_Twice_NoRule : PySem.W.kitOne K (.ref a_Twice) (.ref a_NoRule) = some false)
    (kit_Twice_NoPiece : PySem.W.kitOne K (.ref a_Twice) (.ref a_NoPiece) = some false)
    (kit_Twice_Twice : PySem.W.kitOne K (.ref a_Twice) (.ref a_Twice) = some true)
    (kit_Twice_SameName : PySem.W.kitOne K (.ref a_Twice) (.ref a_SameName) = some false)
    (kit_Twice_Unmet : PySem.W.kitOne K (.ref a_Twice) (.ref a_Unmet) = some false)
    (kit_Twice_TooFar : PySem.W.kitOne K (.ref a_Twice) (.ref a_TooFar) = some false)
    (kit_Twice_NoWhole : PySem.W.kitOne K (.ref a_Twice) (.ref a_NoWhole) = some false)
    (kit_Twice_NoBase : PySem.W.kitOne K (.ref a_Twice) (.ref a_NoBase) = some false)
    (kit_Twice_Lost : PySem.W.kitOne K (.ref a_Twice) (.ref a_Lost) = some false)
    (kit_Twice_NoSense : PySem.W.kitOne K (.ref a_Twice) (.ref a_NoSense) = some false)
    (sj_Twice : PySem.W.subIn K (.ref a_Twice) (.ref a_JoinError) = some true)
    (ns_ValueError : PySem.W.nsIn K mainGlobals "ValueError" = some none)
    (ns_dict : PySem.W.nsIn K mainGlobals "dict" = some none)
    (ns_int : PySem.W.nsIn K mainGlobals "int" = some none)
    (ns_isinstance : PySem.W.nsIn K mainGlobals "isinstance" = some none)
    (ns_len : PySem.W.nsIn K mainGlobals "len" = some none)
    (ns_list : PySem.W.nsIn K mainGlobals "list" = some none)
    (ns_range : PySem.W.nsIn K mainGlobals "range" = some none)
    (ns_sorted : PySem.W.nsIn K mainGlobals "sorted" = some none)
    (ns_str : PySem.W.nsIn K mainGlobals "str" = some none)
    (tabs : ∀ Z ∈ [P_by_title], h.get? Z = some (PySem.W.tabObj #[])) (chd : PySem.W.codeHdIn K c_by_title P_by_title = true) (nlk : K.lookup P_by_title = none)
    : LamX.LawAtS l w K CX0 6 63 "_law_script" mg fa h := by
  have e := hfa.symm.trans (PySem.W.mg_of X G ns_law)
  cases e
  let T : Txt K mg := {
    a_Twice___init__ := _, d_Twice___init__ := _, F_Twice___init__ := fun_mk (st := s_Twice___init__) lk_Twice___init__ cd_is_Twice___init__ kp_Twice___init__,
    b_Twice___init__ := (fun_mk (st := s_Twice___init__) lk_Twice___init__ cd_is_Twice___init__ kp_Twice___init__).binds (ps := ["self", "name", "one", "other"]) fun _ _ _ _ _ _ us hl => match us, hl with | [_, _, _, _], _ => rfl,
    a_by_title := _, d_by_title := _, F_by_title := fun_mk (st := s_by_title) lk_by_title cd_is_by_title kp_by_title,
    m_by_title := PySem.W.mg_of X G ns_by_title,
    b_by_title := (fun_mk (st := s_by_title) lk_by_title cd_is_by_title kp_by_title).binds (ps := ["pieces"]) fun _ _ _ _ _ _ us hl => match us, hl with | [_], _ => rfl,
    a_names_of := _, d_names_of := _, F_names_of := fun_mk (st := s_names_of) lk_names_of cd_is_names_of kp_names_of,
    m_names_of := PySem.W.mg_of X G ns_names_of,
    b_names_of := (fun_mk (st := s_names_of) lk_names_of cd_is_names_of kp_names_of).binds (ps := ["pieces"]) fun _ _ _ _ _ _ us hl => match us, hl with | [_], _ => rfl,
    a_law_cell_at := _, d_law_cell_at := _, F_law_cell_at := fun_mk (st := s_law_cell_at) lk_law_cell_at cd_is_law_cell_at kp_law_cell_at,
    m_law_cell_at := PySem.W.mg_of X G ns_law_cell_at,
    b_law_cell_at := (fun_mk (st := s_law_cell_at) lk_law_cell_at cd_is_law_cell_at kp_law_cell_at).binds (ps := ["_law_script", "_law_k"]) fun _ _ _ _ _ _ us hl => match us, hl with | [_, _], _ => rfl,
    a_law_name_by := _, d_law_name_by := _, F_law_name_by := fun_mk (st := s_law_name_by) lk_law_name_by cd_is_law_name_by kp_law_name_by,
    m_law_name_by := PySem.W.mg_of X G ns_law_name_by,
    b_law_name_by := (fun_mk (st := s_law_name_by) lk_law_name_by cd_is_law_name_by kp_law_name_by).binds (ps := ["_law_cell", "_law_k"]) fun _ _ _ _ _ _ us hl => match us, hl with | [_, _], _ => rfl,
    a_law_word_row := _, d_law_word_row := _, F_law_word_row := fun_mk (st := s_law_word_row) lk_law_word_row cd_is_law_word_row kp_law_word_row,
    m_law_word_row := PySem.W.mg_of X G ns_law_word_row,
    b_law_word_row := (fun_mk (st := s_law_word_row) lk_law_word_row cd_is_law_word_row kp_law_word_row).binds (ps := ["_law_cell", "_law_names_by"]) fun _ _ _ _ _ _ us hl => match us, hl with | [_, _], _ => rfl,
    a_law_told_by := _, d_law_told_by := _, F_law_told_by := fun_mk (st := s_law_told_by) lk_law_told_by cd_is_law_told_by kp_law_told_by,
    m_law_told_by := PySem.W.mg_of X G ns_law_told_by,
    b_law_told_by := (fun_mk (st := s_law_told_by) lk_law_told_by cd_is_law_told_by kp_law_told_by).binds (ps := ["_law_pieces", "_law_cell", "_law_names_by", "_law_strict"]) fun _ _ _ _ _ _ us hl => match us, hl with | [_, _, _, _], _ => rfl,
    a_law_drawn := _, d_law_drawn := _, F_law_drawn := fun_mk (st := s_law_drawn) lk_law_drawn cd_is_law_drawn kp_law_drawn,
    m_law_drawn := PySem.W.mg_of X G ns_law_drawn,
    b_law_drawn := (fun_mk (st := s_law_drawn) lk_law_drawn cd_is_law_drawn kp_law_drawn).binds (ps := ["_law_cells", "_law_names_by", "_law_titles_by", "_law_strict"]) fun _ _ _ _ _ _ us hl => match us, hl with | [_, _, _, _], _ => rfl,
    a_law_copy := _, d_law_copy := _, F_law_copy := fun_mk (st := s_law_copy) lk_law_copy cd_is_law_copy kp_law_copy,
    m_law_copy := PySem.W.mg_of X G ns_law_copy,
    b_law_copy := (fun_mk (st := s_law_copy) lk_law_copy cd_is_law_copy kp_law_copy).binds (ps := ["_law_piece"]) fun _ _ _ _ _ _ us hl => match us, hl with | [_], _ => rfl,
    a_law_texts := _, d_law_texts := _, F_law_texts := fun_mk (st := s_law_texts) lk_law_texts cd_is_law_texts kp_law_texts,
    m_law_texts := PySem.W.mg_of X G ns_law_texts,
    b_law_texts := (fun_mk (st := s_law_texts) lk_law_texts cd_is_law_texts kp_law_texts).binds (ps := ["_law_found", "_law_due_here"]) fun _ _ _ _ _ _ us hl => match us, hl with | [_, _], _ => rfl,
    a_law_due := _, d_law_due := _, F_law_due := fun_mk (st := s_law_due) lk_law_due cd_is_law_due kp_law_due,
    m_law_due := PySem.W.mg_of X G ns_law_due,
    b_law_due := (fun_mk (st := s_law_due) lk_law_due cd_is_law_due kp_law_due).binds (ps := ["_law_pieces"]) fun _ _ _ _ _ _ us hl => match us, hl with | [_], _ => rfl,
    a_law_weaker := _, d_law_weaker := _, F_law_weaker := fun_mk (st := s_law_weaker) lk_law_weaker cd_is_law_weaker kp_law_weaker,
    m_law_weaker := PySem.W.mg_of X G ns_law_weaker,
    b_law_weaker := (fun_mk (st := s_law_weaker) lk_law_weaker cd_is_law_weaker kp_law_weaker).binds (ps := ["_law_pieces"]) fun _ _ _ _ _ _ us hl => match us, hl with | [_], _ => rfl,
    a_law_alone := _, d_law_alone := _, F_law_alone := fun_mk (st := s_law_alone) lk_law_alone cd_is_law_alone kp_law_alone,
    m_law_alone := PySem.W.mg_of X G ns_law_alone,
    b_law_alone := (fun_mk (st := s_law_alone) lk_law_alone cd_is_law_alone kp_law_alone).binds (ps := ["_law_kept"]) fun _ _ _ _ _ _ us hl => match us, hl with | [_], _ => rfl,
    a_law_answer := _, d_law_answer := _, F_law_answer := fun_mk (st := s_law_answer) lk_law_answer cd_is_law_answer kp_law_answer,
    m_law_answer := PySem.W.mg_of X G ns_law_answer,
    b_law_answer := (fun_mk (st := s_law_answer) lk_law_answer cd_is_law_answer kp_law_answer).binds (ps := ["_law_pieces"]) fun _ _ _ _ _ _ us hl => match us, hl with | [_], _ => rfl,
    a_law_told_all := _, d_law_told_all := _, F_law_told_all := fun_mk (st := s_law_told_all) lk_law_told_all cd_is_law_told_all kp_law_told_all,
    m_law_told_all := PySem.W.mg_of X G ns_law_told_all,
    b_law_told_all := (fun_mk (st := s_law_told_all) lk_law_told_all cd_is_law_told_all kp_law_told_all).binds (ps := ["_law_answer_here", "_law_pieces"]) fun _ _ _ _ _ _ us hl => match us, hl with | [_, _], _ => rfl,
    a_law_holds := _, d_law_holds := _, F_law_holds := fun_mk (st := s_law_holds) lk_law_holds cd_is_law_holds kp_law_holds,
    m_law_holds := PySem.W.mg_of X G ns_law_holds,
    b_law_holds := (fun_mk (st := s_law_holds) lk_law_holds cd_is_law_holds kp_law_holds).binds (ps := ["_law_pieces"]) fun _ _ _ _ _ _ us hl => match us, hl with | [_], _ => rfl,
    a_law := _, d_law := _, F_law := fun_mk (st := s_law) lk_law cd_is_law kp_law,
    m_law := PySem.W.mg_of X G ns_law,
    b_law := (fun_mk (st := s_law) lk_law cd_is_law kp_law).binds (ps := ["_law_script"]) fun _ _ _ _ _ _ us hl => match us, hl with | [_], _ => rfl,
    c_by_title := _, P_by_title := P_by_title, cd_by_title := rfl,
    a_JoinError := _, g_JoinError := PySem.W.mg_of X G ns_JoinError,
    a_NoRule := _, g_NoRule := PySem.W.mg_of X G ns_NoRule,
    a_NoPiece := _, g_NoPiece := PySem.W.mg_of X G ns_NoPiece,
    a_Twice := _, g_Twice := PySem.W.mg_of X G ns_Twice,
    a_SameName := _, g_SameName := PySem.W.mg_of X G ns_SameName,
    a_Unmet := _, g_Unmet := PySem.W.mg_of X G ns_Unmet,
    a_TooFar := _, g_TooFar := PySem.W.mg_of X G ns_TooFar,
    a_NoWhole := _, g_NoWhole := PySem.W.mg_of X G ns_NoWhole,
    a_NoBase := _, g_NoBase := PySem.W.mg_of X G ns_NoBase,
    a_Lost := _, g_Lost := PySem.W.mg_of X G ns_Lost,
    a_NoSense := _, g_NoSense := PySem.W.mg_of X G ns_NoSense,
    be_Twice := be_Twice, ty_Twice := ty_Twice, kc_Twice := kc_Twice, ec_Twice := ⟨eg_Twice, ek_Twice, be_Twice, hd_Twice, ea_Twice, en, et, em_Twice⟩, ve_Twice := ve_Twice,
    o_Twice := ⟨⟨_, _, _, _, _, _, _, _, _, _, _, _, _, _, _, xl_Twice, by rfl⟩, sa_Twice, be_Twice, ty_Twice, kc_Twice⟩, i_Twice := ini_Twice, t_Twice := tf_Twice, xf_Twice := ⟨eg_Twice, ek_Twice, be_Twice, hd_Twice⟩,
    no_Twice_name := no_Twice_name,
    no_Twice_one := no_Twice_one,
    no_Twice_other := no_Twice_other,
    kit_Twice_JoinError := kit_Twice_JoinError,
    kit_Twice_NoRule := kit_Twice_NoRule,
    kit_Twice_NoPiece := kit_Twice_NoPiece,
    kit_Twice_Twice := kit_Twice_Twice,
    kit_Twice_SameName := kit_Twice_SameName,
    kit_Twice_Unmet := kit_Twice_Unmet,
    kit_Twice_TooFar := kit_Twice_TooFar,
    kit_Twice_NoWhole := kit_Twice_NoWhole,
    kit_Twice_NoBase := kit_Twice_NoBase,
    kit_Twice_Lost := kit_Twice_Lost,
    kit_Twice_NoSense := kit_Twice_NoSense,
    exm_Twice := PySem.W.exm_ref bej hdj tyj sj_Twice,
    n_ValueError := PySem.W.mg_none_of X G ns_ValueError,
    n_dict := PySem.W.mg_none_of X G ns_dict,
    n_int := PySem.W.mg_none_of X G ns_int,
    n_isinstance := PySem.W.mg_none_of X G ns_isinstance,
    n_len := PySem.W.mg_none_of X G ns_len,
    n_list := PySem.W.mg_none_of X G ns_list,
    n_range := PySem.W.mg_none_of X G ns_range,
    n_sorted := PySem.W.mg_none_of X G ns_sorted,
    n_str := PySem.W.mg_none_of X G ns_str }
  refine ⟨_, [(c_by_title, P_by_title)], sp_law T, fun p hp => ?_, fun p hp => ?_, fun p hp => ?_, fun s v => .of_eq rfl, fun H a ns hl _ hH hS => ?_, fun base _ _ hB => ok_law (P := l.prog) (w := w) (base := base) T (hB _ List.mem_cons_self)⟩
  · cases List.mem_singleton.mp hp; exact tabs _ List.mem_cons_self
  · cases List.mem_singleton.mp hp; exact nlk
  · cases List.mem_singleton.mp hp; exact PySem.W.codeHd_of_K X chd
  · exact ⟨a, ns, rfl, hS, hl, LamX.TabS.nil (hH _ List.mem_cons_self), fun _ => rfl⟩
end Jw
open PySem PySem.W PyProof.Rows
set_option maxRecDepth 100000 in
set_option maxHeartbeats 0 in
theorem PySem.Challenge.cw_joinload_k17_told_twice_holds : PySem.Challenge.rw_joinload_k17_told_twice.Holds := by
  w_on; o_law; k_head; (case hw => w_witness2)
  k_fill
  refine LamX.walk_ofTs (l := PySem.Challenge.rw_joinload_k17_told_twice) (n := 63) (k := 6) (CX := fun _ => L2.CX0) (x := "_law_script") rfl (by decide) rfl ⟨rfl, by decide, by decide⟩ (fun w h Y => PySem.W.km_in_of Y) ?F (fun _ _ _ _ _ z => z)
  case F =>
    intro w mg fa h Y KX G hmg
    refine' Jw.all_mk KX G hmg ?ns_JoinError ?ns_NoRule ?ns_NoPiece ?ns_Twice ?ns_SameName ?ns_Unmet ?ns_TooFar ?ns_NoWhole ?ns_NoBase ?ns_Lost ?ns_NoSense ?ini_Twice ?ns_by_title ?ns_names_of ?ns_law_cell_at ?ns_law_name_by ?ns_law_word_row ?ns_law_told_by ?ns_law_drawn ?ns_law_copy ?ns_law_texts ?ns_law_due ?ns_law_weaker ?ns_law_alone ?ns_law_answer ?ns_law_told_all ?ns_law_holds ?ns_law ?lk_Twice___init__ ?cd_is_Twice___init__ ?kp_Twice___init__ ?isf_Twice___init__ ?lk_by_title ?cd_is_by_title ?kp_by_title ?lk_names_of ?cd_is_names_of ?kp_names_of ?lk_law_cell_at ?cd_is_law_cell_at ?kp_law_cell_at ?lk_law_name_by ?cd_is_law_name_by ?kp_law_name_by ?lk_law_word_row ?cd_is_law_word_row ?kp_law_word_row ?lk_law_told_by ?cd_is_law_told_by ?kp_law_told_by ?lk_law_drawn ?cd_is_law_drawn ?kp_law_drawn ?lk_law_copy ?cd_is_law_copy ?kp_law_copy ?lk_law_texts ?cd_is_law_texts ?kp_law_texts ?lk_law_due ?cd_is_law_due ?kp_law_due ?lk_law_weaker ?cd_is_law_weaker ?kp_law_weaker ?lk_law_alone ?cd_is_law_alone ?kp_law_alone ?lk_law_answer ?cd_is_law_answer ?kp_law_answer ?lk_law_told_all ?cd_is_law_told_all ?kp_law_told_all ?lk_law_holds ?cd_is_law_holds ?kp_law_holds ?lk_law ?cd_is_law ?kp_law ?en ?et ?bej ?hdj ?tyj ?be_Twice ?ty_Twice ?kc_Twice ?eg_Twice ?ek_Twice ?hd_Twice ?ea_Twice ?em_Twice ?ve_Twice ?xl_Twice ?sa_Twice ?tf_Twice ?no_Twice_name ?no_Twice_one ?no_Twice_other ?kit_Twice_JoinError ?kit_Twice_NoRule ?kit_Twice_NoPiece ?kit_Twice_Twice ?kit_Twice_SameName ?kit_Twice_Unmet ?kit_Twice_TooFar ?kit_Twice_NoWhole ?kit_Twice_NoBase ?kit_Twice_Lost ?kit_Twice_NoSense ?sj_Twice ?ns_ValueError ?ns_dict ?ns_int ?ns_isinstance ?ns_len ?ns_list ?ns_range ?ns_sorted ?ns_str (PySem.W.km_tabs_of Y) ?chd ?nlk
    (case ns_JoinError => first | k_is | k_exc | kit_is)
    (case ns_NoRule => first | k_is | k_exc | kit_is)
    (case ns_NoPiece => first | k_is | k_exc | kit_is)
    (case ns_Twice => first | k_is | k_exc | kit_is)
    (case ns_SameName => first | k_is | k_exc | kit_is)
    (case ns_Unmet => first | k_is | k_exc | kit_is)
    (case ns_TooFar => first | k_is | k_exc | kit_is)
    (case ns_NoWhole => first | k_is | k_exc | kit_is)
    (case ns_NoBase => first | k_is | k_exc | kit_is)
    (case ns_Lost => first | k_is | k_exc | kit_is)
    (case ns_NoSense => first | k_is | k_exc | kit_is)
    (case ini_Twice => first | k_is | k_exc | kit_is)
    (case ns_by_title => first | k_is | k_exc | kit_is)
    (case ns_names_of => first | k_is | k_exc | kit_is)
    (case ns_law_cell_at => first | k_is | k_exc | kit_is)
    (case ns_law_name_by => first | k_is | k_exc | kit_is)
    (case ns_law_word_row => first | k_is | k_exc | kit_is)
    (case ns_law_told_by => first | k_is | k_exc | kit_is)
    (case ns_law_drawn => first | k_is | k_exc | kit_is)
    (case ns_law_copy => first | k_is | k_exc | kit_is)
    (case ns_law_texts => first | k_is | k_exc | kit_is)
    (case ns_law_due => first | k_is | k_exc | kit_is)
    (case ns_law_weaker => first | k_is | k_exc | kit_is)
    (case ns_law_alone => first | k_is | k_exc | kit_is)
    (case ns_law_answer => first | k_is | k_exc | kit_is)
    (case ns_law_told_all => first | k_is | k_exc | kit_is)
    (case ns_law_holds => first | k_is | k_exc | kit_is)
    (case ns_law => first | k_is | k_exc | kit_is)
    (case lk_Twice___init__ => first | k_is | k_exc | kit_is)
    (case cd_is_Twice___init__ => first | k_is | k_exc | kit_is)
    (case kp_Twice___init__ => first | k_is | k_exc | kit_is)
    (case isf_Twice___init__ => first | k_is | k_exc | kit_is)
    (case lk_by_title => first | k_is | k_exc | kit_is)
    (case cd_is_by_title => first | k_is | k_exc | kit_is)
    (case kp_by_title => first | k_is | k_exc | kit_is)
    (case lk_names_of => first | k_is | k_exc | kit_is)
    (case cd_is_names_of => first | k_is | k_exc | kit_is)
    (case kp_names_of => first | k_is | k_exc | kit_is)
    (case lk_law_cell_at => first | k_is | k_exc | kit_is)
    (case cd_is_law_cell_at => first | k_is | k_exc | kit_is)
    (case kp_law_cell_at => first | k_is | k_exc | kit_is)
    (case lk_law_name_by => first | k_is | k_exc | kit_is)
    (case cd_is_law_name_by => first | k_is | k_exc | kit_is)
    (case kp_law_name_by => first | k_is | k_exc | kit_is)
    (case lk_law_word_row => first | k_is | k_exc | kit_is)
    (case cd_is_law_word_row => first | k_is | k_exc | kit_is)
    (case kp_law_word_row => first | k_is | k_exc | kit_is)
    (case lk_law_told_by => first | k_is | k_exc | kit_is)
    (case cd_is_law_told_by => first | k_is | k_exc | kit_is)
    (case kp_law_told_by => first | k_is | k_exc | kit_is)
    (case lk_law_drawn => first | k_is | k_exc | kit_is)
    (case cd_is_law_drawn => first | k_is | k_exc | kit_is)
    (case kp_law_drawn => first | k_is | k_exc | kit_is)
    (case lk_law_copy => first | k_is | k_exc | kit_is)
    (case cd_is_law_copy => first | k_is | k_exc | kit_is)
    (case kp_law_copy => first | k_is | k_exc | kit_is)
    (case lk_law_texts => first | k_is | k_exc | kit_is)
    (case cd_is_law_texts => first | k_is | k_exc | kit_is)
    (case kp_law_texts => first | k_is | k_exc | kit_is)
    (case lk_law_due => first | k_is | k_exc | kit_is)
    (case cd_is_law_due => first | k_is | k_exc | kit_is)
    (case kp_law_due => first | k_is | k_exc | kit_is)
    (case lk_law_weaker => first | k_is | k_exc | kit_is)
    (case cd_is_law_weaker => first | k_is | k_exc | kit_is)
    (case kp_law_weaker => first | k_is | k_exc | kit_is)
    (case lk_law_alone => first | k_is | k_exc | kit_is)
    (case cd_is_law_alone => first | k_is | k_exc | kit_is)
    (case kp_law_alone => first | k_is | k_exc | kit_is)
    (case lk_law_answer => first | k_is | k_exc | kit_is)
    (case cd_is_law_answer => first | k_is | k_exc | kit_is)
    (case kp_law_answer => first | k_is | k_exc | kit_is)
    (case lk_law_told_all => first | k_is | k_exc | kit_is)
    (case cd_is_law_told_all => first | k_is | k_exc | kit_is)
    (case kp_law_told_all => first | k_is | k_exc | kit_is)
    (case lk_law_holds => first | k_is | k_exc | kit_is)
    (case cd_is_law_holds => first | k_is | k_exc | kit_is)
    (case kp_law_holds => first | k_is | k_exc | kit_is)
    (case lk_law => first | k_is | k_exc | kit_is)
    (case cd_is_law => first | k_is | k_exc | kit_is)
    (case kp_law => first | k_is | k_exc | kit_is)
    (case en => first | k_is | k_exc | kit_is)
    (case et => first | k_is | k_exc | kit_is)
    (case bej => first | k_is | k_exc | kit_is)
    (case hdj => first | k_is | k_exc | kit_is)
    (case tyj => first | k_is | k_exc | kit_is)
    (case be_Twice => first | k_is | k_exc | kit_is)
    (case ty_Twice => first | k_is | k_exc | kit_is)
    (case kc_Twice => first | k_is | k_exc | kit_is)
    (case eg_Twice => first | k_is | k_exc | kit_is)
    (case ek_Twice => first | k_is | k_exc | kit_is)
    (case hd_Twice => first | k_is | k_exc | kit_is)
    (case ea_Twice => first | k_is | k_exc | kit_is)
    (case em_Twice => first | k_is | k_exc | kit_is)
    (case ve_Twice => first | k_is | k_exc | kit_is)
    (case xl_Twice => first | k_is | k_exc | kit_is)
    (case sa_Twice => first | k_is | k_exc | kit_is)
    (case tf_Twice => first | k_is | k_exc | kit_is)
    (case no_Twice_name => first | k_is | k_exc | kit_is)
    (case no_Twice_one => first | k_is | k_exc | kit_is)
    (case no_Twice_other => first | k_is | k_exc | kit_is)
    (case kit_Twice_JoinError => first | k_is | k_exc | kit_is)
    (case kit_Twice_NoRule => first | k_is | k_exc | kit_is)
    (case kit_Twice_NoPiece => first | k_is | k_exc | kit_is)
    (case kit_Twice_Twice => first | k_is | k_exc | kit_is)
    (case kit_Twice_SameName => first | k_is | k_exc | kit_is)
    (case kit_Twice_Unmet => first | k_is | k_exc | kit_is)
    (case kit_Twice_TooFar => first | k_is | k_exc | kit_is)
    (case kit_Twice_NoWhole => first | k_is | k_exc | kit_is)
    (case kit_Twice_NoBase => first | k_is | k_exc | kit_is)
    (case kit_Twice_Lost => first | k_is | k_exc | kit_is)
    (case kit_Twice_NoSense => first | k_is | k_exc | kit_is)
    (case sj_Twice => first | k_is | k_exc | kit_is)
    (case ns_ValueError => first | k_is | k_exc | kit_is)
    (case ns_dict => first | k_is | k_exc | kit_is)
    (case ns_int => first | k_is | k_exc | kit_is)
    (case ns_isinstance => first | k_is | k_exc | kit_is)
    (case ns_len => first | k_is | k_exc | kit_is)
    (case ns_list => first | k_is | k_exc | kit_is)
    (case ns_range => first | k_is | k_exc | kit_is)
    (case ns_sorted => first | k_is | k_exc | kit_is)
    (case ns_str => first | k_is | k_exc | kit_is)
    (case chd => kernel_rfl)
    (case nlk => kernel_rfl)
