import PyProof.Rows.All
import Wide.All
import OpenK.AllK
import Wide.FinOn
import HandS.WordsExc
import KE.RegKIsAll
import HandS.Replace
import KE.IntTextLaws
import PyProof.StrOps2
import HandS.TryOnly
import HandS.ForMost
import HandS.IsInst
import HandS.Wide
import HandS.WideBits
import HandS.Style
import PyProof.Rows.BitMore
import KE.BitLaws
import PyProof.Rows.All
import Wide.All
import OpenK.AllK
import Wide.FinOn
import HandS.ForMost
import HandS.IsInst
import HandS.Wide
import HandS.WideBits
import HandS.Style
import HandS.More
import HandS.Replace
import KE.IntTextLaws
import PyProof.StrOps2
import HandS.Exc
import HandS.ExcOwn
import HandS.ExcValue
import HandS.ExcIs
import HandS.ExcField
import HandS.ExcInit
import HandS.Text
import KE.KExcIs
import HandS.Finally
import PyProof.Rows.TmSorted
import PyProof.Rows.StrMeet
import HandS.SetKeys
import HandS.WordsDict
import HandS.Lambda
import KE.SortData
import HandS.SortKw
import PyProof.WalkInts
import KE.KMinKey
import PyProof.Rows.MinMaxN
import HandS.Rev
import KE.KRevIter
import PyProof.ListNew
import HandS.StrMore
import HandS.FStr
import PySem.Challenge.RW_joinload_k12_rows_read
set_option Elab.async false
set_option linter.all false
set_option maxRecDepth 100000
set_option maxHeartbeats 4000000
set_option maxHeartbeats 4000000
/-! Bits of whole numbers of any size: & and ^ by halves; a field put in. -/
namespace Jl
open PySem PyProof.Rows
theorem nat_and_rec (a b : Nat) : (a &&& b) = 2 * (a / 2 &&& b / 2) + (if a % 2 = 1 ∧ b % 2 = 1 then 1 else 0) := by
  have e : (a &&& b) / 2 = a / 2 &&& b / 2 := Nat.and_div_two
  have o := @Nat.and_mod_two_eq_one a b
  split <;> rename_i h
  · have := o.mpr h; omega
  · have : ¬ (a &&& b) % 2 = 1 := fun z => h (o.mp z)
    omega
theorem nat_or_rec (a b : Nat) : (a ||| b) = 2 * (a / 2 ||| b / 2) + (if a % 2 = 1 ∨ b % 2 = 1 then 1 else 0) := by
  have e : (a ||| b) / 2 = a / 2 ||| b / 2 := Nat.or_div_two
  have o := @Nat.or_mod_two_eq_one a b
  split <;> rename_i h
  · have := o.mpr h; omega
  · have : ¬ (a ||| b) % 2 = 1 := fun z => h (o.mp z)
    omega
theorem toNat_half {x : Int} (h : 0 ≤ x) : x.toNat / 2 = (x / 2).toNat := by omega
theorem not_half (x : Int) : Builtin.bitNot x / 2 = Builtin.bitNot (x / 2) := by unfold Builtin.bitNot; omega
/-- & by halves -/
theorem and_rec (x y : Int) : Builtin.bitAnd x y = 2 * Builtin.bitAnd (x / 2) (y / 2) + (if x % 2 = 1 ∧ y % 2 = 1 then 1 else 0) := by
  by_cases hx : 0 ≤ x
  · have hx' : 0 ≤ x / 2 := by omega
    by_cases hy : 0 ≤ y
    · have hy' : 0 ≤ y / 2 := by omega
      rw [bitAnd_pp hx hy, bitAnd_pp hx' hy', nat_and_rec, toNat_half hx, toNat_half hy]
      split <;> split <;> omega
    · have hy' : ¬ 0 ≤ y / 2 := by omega
      have hn : 0 ≤ Builtin.bitNot y := by unfold Builtin.bitNot; omega
      rw [bitAnd_comm x y, bitAnd_comm (x / 2), bitAnd_np hy hx, bitAnd_np hy' hx', nat_and_rec, toNat_half hx, toNat_half hn, not_half]
      have e1 : x.toNat % 2 = 1 ↔ x % 2 = 1 := by omega
      have e2 : (Builtin.bitNot y).toNat % 2 = 1 ↔ ¬ y % 2 = 1 := by unfold Builtin.bitNot at *; omega
      split <;> split <;> omega
  · have hx' : ¬ 0 ≤ x / 2 := by omega
    have hnx : 0 ≤ Builtin.bitNot x := by unfold Builtin.bitNot; omega
    have e2 : (Builtin.bitNot x).toNat % 2 = 1 ↔ ¬ x % 2 = 1 := by unfold Builtin.bitNot at *; omega
    by_cases hy : 0 ≤ y
    · have hy' : 0 ≤ y / 2 := by omega
      rw [bitAnd_np hx hy, bitAnd_np hx' hy', nat_and_rec, toNat_half hy, toNat_half hnx, not_half]
      have e1 : y.toNat % 2 = 1 ↔ y % 2 = 1 := by omega
      split <;> split <;> omega
    · have hy' : ¬ 0 ≤ y / 2 := by omega
      have hny : 0 ≤ Builtin.bitNot y := by unfold Builtin.bitNot; omega
      have e3 : (Builtin.bitNot y).toNat % 2 = 1 ↔ ¬ y % 2 = 1 := by unfold Builtin.bitNot at *; omega
      rw [bitAnd_nn hx hy, bitAnd_nn hx' hy', nat_or_rec, toNat_half hnx, toNat_half hny, not_half, not_half]
      have u : ∀ z : Int, Builtin.bitNot z = -z - 1 := fun _ => rfl
      rw [u (_ : Nat), u (_ : Nat)]
      split <;> split <;> omega
/-- ^ by halves -/
theorem xor_rec (x y : Int) : Builtin.bitXor x y = 2 * Builtin.bitXor (x / 2) (y / 2) + (x + y) % 2 := by
  rw [bitXor_and, bitXor_and, and_rec]
  split <;> omega
theorem and_two (x y : Int) (c d : Int) (hc : c = 0 ∨ c = 1) (hd : d = 0 ∨ d = 1) : Builtin.bitAnd (2 * x + c) (2 * y + d) = 2 * Builtin.bitAnd x y + c * d := by
  rw [and_rec]
  have e1 : (2 * x + c) / 2 = x := by omega
  have e2 : (2 * y + d) / 2 = y := by omega
  rw [e1, e2]
  rcases hc with rfl | rfl <;> rcases hd with rfl | rfl <;> (split <;> omega)
theorem xor_two (x y : Int) (c d : Int) (hc : c = 0 ∨ c = 1) (hd : d = 0 ∨ d = 1) : Builtin.bitXor (2 * x + c) (2 * y + d) = 2 * Builtin.bitXor x y + (c + d) % 2 := by
  rw [xor_rec]
  have e1 : (2 * x + c) / 2 = x := by omega
  have e2 : (2 * y + d) / 2 = y := by omega
  rw [e1, e2]
  omega
theorem two_pow_pos (k : Nat) : (0 : Int) < 2 ^ k := Int.pow_pos (by decide)
theorem pow_succ2 (k : Nat) : (2 : Int) ^ (k + 1) = 2 * 2 ^ k := by rw [Int.pow_succ]; omega
theorem emod_two_mul (a : Int) {m : Int} (hm : 0 < m) : a % (2 * m) = 2 * (a / 2 % m) + a % 2 := by
  have h1 : a / 2 = m * (a / 2 / m) + a / 2 % m := (Int.mul_ediv_add_emod (a / 2) m).symm
  have h2 := Int.emod_nonneg (a / 2) (show m ≠ 0 by omega)
  have h3 := Int.emod_lt_of_pos (a / 2) hm
  have h4 : a = (2 * (a / 2 % m) + a % 2) + (2 * m) * (a / 2 / m) := by
    have : (2 * m) * (a / 2 / m) = 2 * (m * (a / 2 / m)) := Int.mul_assoc ..
    omega
  have h5 : a % (2 * m) = (2 * (a / 2 % m) + a % 2) % (2 * m) := by
    conv => lhs; rw [h4]
    rw [Int.add_mul_emod_self_left]
  rw [h5, Int.emod_eq_of_lt (by omega) (by omega)]
theorem ediv_two_pow (a : Int) (k : Nat) : a / 2 ^ (k + 1) = a / 2 / 2 ^ k := by
  rw [pow_succ2, Int.ediv_ediv_of_nonneg (by decide)]
/-- x & (2 ** k - 1), x any number -/
theorem and_mask (k : Nat) : ∀ x : Int, Builtin.bitAnd x (2 ^ k - 1) = x % 2 ^ k := by
  induction k with
  | zero => intro x; show Builtin.bitAnd x 0 = x % 1; rw [bitAnd_zero]; omega
  | succ k ih =>
    intro x
    have e : (2 : Int) ^ (k + 1) - 1 = 2 * (2 ^ k - 1) + 1 := by rw [pow_succ2]; omega
    have hx : x = 2 * (x / 2) + x % 2 := by omega
    rw [e]
    conv => lhs; rw [hx]
    rw [and_two _ _ _ _ (by omega) (by omega), ih, pow_succ2, emod_two_mul _ (two_pow_pos k)]
    omega
/-- the field put in: what with_field reckons -/
theorem put_low (many : Nat) : ∀ w n : Int, Builtin.bitXor w (Builtin.bitAnd (Builtin.bitXor w n) (2 ^ many - 1)) = w - w % 2 ^ many + n % 2 ^ many := by
  induction many with
  | zero => intro w n; show Builtin.bitXor w (Builtin.bitAnd (Builtin.bitXor w n) 0) = w - w % 1 + n % 1; rw [bitAnd_zero, bitXor_zero]; omega
  | succ k ih =>
    intro w n
    have e : (2 : Int) ^ (k + 1) - 1 = 2 * (2 ^ k - 1) + 1 := by rw [pow_succ2]; omega
    have hw : w = 2 * (w / 2) + w % 2 := by omega
    have hn : n = 2 * (n / 2) + n % 2 := by omega
    have i := ih (w / 2) (n / 2)
    have q1 := emod_two_mul w (two_pow_pos k)
    have q2 := emod_two_mul n (two_pow_pos k)
    rw [e]
    conv => lhs; rw [hw, hn]
    rw [xor_two _ _ _ _ (by omega) (by omega), and_two _ _ _ _ (by omega) (by omega), xor_two _ _ _ _ (by omega) (by omega), i, pow_succ2, q1, q2]
    omega
theorem put_at (low many : Nat) : ∀ w n : Int, Builtin.bitXor w (Builtin.bitAnd (Builtin.bitXor w (n * 2 ^ low)) ((2 ^ many - 1) * 2 ^ low)) =
    w - (w / 2 ^ low % 2 ^ many) * 2 ^ low + (n % 2 ^ many) * 2 ^ low := by
  induction low with
  | zero => intro w n; simp only [Int.pow_zero, Int.mul_one, Int.ediv_one]; exact put_low many w n
  | succ k ih =>
    intro w n
    have hw : w = 2 * (w / 2) + w % 2 := by omega
    have e1 : n * 2 ^ (k + 1) = 2 * (n * 2 ^ k) + 0 := by rw [pow_succ2, Int.mul_left_comm]; omega
    have e2 : ((2 : Int) ^ many - 1) * 2 ^ (k + 1) = 2 * ((2 ^ many - 1) * 2 ^ k) + 0 := by rw [pow_succ2, Int.mul_left_comm]; omega
    have i := ih (w / 2) n
    rw [e1, e2, ediv_two_pow, pow_succ2]
    conv => lhs; rw [hw]
    rw [xor_two _ _ _ _ (by omega) (by omega), and_two _ _ _ _ (by omega) (by omega), xor_two _ _ _ _ (by omega) (by omega), i]
    rw [Int.mul_left_comm _ 2, Int.mul_left_comm _ 2]
    omega
/-- what with_field(word, low, many, number) reckons -/
def wf (w low many n : Int) : Int := w - (w / 2 ^ low.toNat % 2 ^ many.toNat) * 2 ^ low.toNat + (n % 2 ^ many.toNat) * 2 ^ low.toNat
end Jl
namespace Jl
/-- signed(number, many) -/
def sgn (n : Int) (m : Nat) : Int := (n + 2 ^ (m - 1)) % (2 ^ (m - 1) * 2) - 2 ^ (m - 1)
theorem sgn_facts (n : Int) {m : Nat} (h : 1 ≤ m) : -(2 ^ (m - 1)) ≤ sgn n m ∧ sgn n m < 2 ^ (m - 1) ∧ (n - sgn n m) % 2 ^ m = 0 := by
  obtain ⟨k, rfl⟩ : ∃ k, m = k + 1 := ⟨m - 1, by omega⟩
  have hp := two_pow_pos k
  have e : k + 1 - 1 = k := by omega
  unfold sgn
  rw [e, pow_succ2]
  have h1 := Int.emod_nonneg (n + 2 ^ k) (show (2 : Int) ^ k * 2 ≠ 0 by omega)
  have h2 := Int.emod_lt_of_pos (n + 2 ^ k) (show (0 : Int) < 2 ^ k * 2 by omega)
  refine ⟨by omega, by omega, ?_⟩
  have h3 := Int.mul_ediv_add_emod (n + 2 ^ k) (2 ^ k * 2)
  have h4 : n - ((n + 2 ^ k) % (2 ^ k * 2) - 2 ^ k) = (2 * 2 ^ k) * ((n + 2 ^ k) / (2 ^ k * 2)) := by
    have : (2 * 2 ^ k) * ((n + 2 ^ k) / (2 ^ k * 2)) = 2 ^ k * 2 * ((n + 2 ^ k) / (2 ^ k * 2)) := by rw [Int.mul_comm 2]
    omega
  rw [h4]
  exact Int.mul_emod_right _ _
end Jl
namespace Jl
theorem pow_lt {m : Nat} (h : m ≤ 99) : ((2 : Int) ^ m - 1).natAbs < 2 ^ 100 := by
  have e : ((2 : Int) ^ m) = ((2 ^ m : Nat) : Int) := by simp
  have h2 : (2 : Nat) ^ m ≤ 2 ^ 99 := Nat.pow_le_pow_right (by decide) h
  have h3 : (2 : Nat) ^ 99 < 2 ^ 100 := by decide
  have h4 : 0 < (2 : Nat) ^ m := Nat.two_pow_pos m
  rw [e]
  omega
theorem pow_lt' {m : Nat} (h : m ≤ 99) : ((2 : Int) ^ m).natAbs < 2 ^ 100 := by
  have e : ((2 : Int) ^ m) = ((2 ^ m : Nat) : Int) := by simp
  have h2 : (2 : Nat) ^ m ≤ 2 ^ 99 := Nat.pow_le_pow_right (by decide) h
  have h3 : (2 : Nat) ^ 99 < 2 ^ 100 := by decide
  rw [e, Int.natAbs_natCast]
  omega
/-- what lies within sixty figures (and some more) -/
theorem big_of {n : Int} (h : -(10 ^ 65) ≤ n) (h2 : n ≤ 10 ^ 65) : n.natAbs < 2 ^ 250 := by
  have e : (10 : Nat) ^ 65 < 2 ^ 250 := by decide
  omega
end Jl
namespace Jl
theorem half_pow {m : Nat} (h : 1 ≤ m) : (2 : Int) ^ m / 2 = 2 ^ (m - 1) := by
  obtain ⟨k, rfl⟩ : ∃ k, m = k + 1 := ⟨m - 1, by omega⟩
  rw [pow_succ2, Nat.add_sub_cancel]
  omega
end Jl
namespace Jl
theorem half_more (a : Int) (k : Nat) : a / 2 ^ k / 2 = a / 2 ^ (k + 1) := by
  rw [Int.pow_succ, Int.ediv_ediv_of_nonneg (Int.le_of_lt (two_pow_pos k))]
theorem dbl_more (k : Nat) : (2 : Int) ^ k * 2 = 2 ^ (k + 1) := by rw [Int.pow_succ]
end Jl
namespace Jl
theorem mod_bit (x : Int) : ∀ (j m : Nat), j < m → (x % 2 ^ m) / 2 ^ j % 2 = x / 2 ^ j % 2 := by
  intro j
  induction j generalizing x with
  | zero =>
    intro m h
    obtain ⟨k, rfl⟩ : ∃ k, m = k + 1 := ⟨m - 1, by omega⟩
    rw [pow_succ2, emod_two_mul _ (two_pow_pos k)]
    simp only [Int.pow_zero, Int.ediv_one]
    omega
  | succ j ih =>
    intro m h
    obtain ⟨k, rfl⟩ : ∃ k, m = k + 1 := ⟨m - 1, by omega⟩
    have e : x % 2 ^ (k + 1) / 2 = x / 2 % 2 ^ k := by
      rw [pow_succ2, emod_two_mul _ (two_pow_pos k)]
      omega
    rw [ediv_two_pow, ediv_two_pow, e]
    exact ih (x / 2) k (by omega)
theorem pow_add2 (a b : Nat) : (2 : Int) ^ (a + b) = 2 ^ a * 2 ^ b := Int.pow_add ..
theorem div_more (x : Int) (a b : Nat) : x / 2 ^ (a + b) = x / 2 ^ a / 2 ^ b := by
  rw [pow_add2, Int.ediv_ediv_of_nonneg (Int.le_of_lt (two_pow_pos a))]
def wfN (w : Int) (low many : Nat) (n : Int) : Int := w - (w / 2 ^ low % 2 ^ many) * 2 ^ low + (n % 2 ^ many) * 2 ^ low
theorem wf_parts (w : Int) (low many : Nat) (n : Int) : wfN w low many n / 2 ^ low = 2 ^ many * (w / 2 ^ low / 2 ^ many) + n % 2 ^ many ∧ wfN w low many n % 2 ^ low = w % 2 ^ low := by
  have hp := two_pow_pos low
  have e1 := Int.mul_ediv_add_emod w (2 ^ low)
  have e2 := Int.mul_ediv_add_emod (w / 2 ^ low) (2 ^ many)
  have r1 := Int.emod_nonneg w (show (2 : Int) ^ low ≠ 0 by omega)
  have r2 := Int.emod_lt_of_pos w hp
  have e3 : wfN w low many n = 2 ^ low * (2 ^ many * (w / 2 ^ low / 2 ^ many) + n % 2 ^ many) + w % 2 ^ low := by
    unfold wfN
    generalize w / 2 ^ low % 2 ^ many = f at *
    generalize w % 2 ^ low = r at *
    generalize n % 2 ^ many = g at *
    generalize w / 2 ^ low / 2 ^ many = A at *
    have e4 : 2 ^ low * (w / 2 ^ low) = 2 ^ low * (2 ^ many * A) + f * 2 ^ low := by
      rw [Int.mul_comm f, ← Int.mul_add, e2]
    have e5 : (2 : Int) ^ low * (2 ^ many * A + g) = 2 ^ low * (2 ^ many * A) + g * 2 ^ low := by
      rw [Int.mul_add, Int.mul_comm g]
    omega
  rw [e3]
  constructor
  · rw [Int.add_comm (2 ^ low * _), Int.add_mul_ediv_left _ _ (by omega), Int.ediv_eq_zero_of_lt r1 r2]
    omega
  · rw [Int.add_comm (2 ^ low * _), Int.add_mul_emod_self_left, Int.emod_eq_of_lt r1 r2]
theorem wf_field (w : Int) (low many : Nat) (n : Int) : wfN w low many n / 2 ^ low % 2 ^ many = n % 2 ^ many := by
  rw [(wf_parts w low many n).1, Int.add_comm, Int.add_mul_emod_self_left, Int.emod_emod]
theorem wf_high (w : Int) (low many : Nat) (n : Int) : wfN w low many n / 2 ^ (low + many) = w / 2 ^ (low + many) := by
  have hp := two_pow_pos many
  have r1 := Int.emod_nonneg n (show (2 : Int) ^ many ≠ 0 by omega)
  have r2 := Int.emod_lt_of_pos n hp
  rw [div_more, div_more, (wf_parts w low many n).1, Int.add_comm, Int.add_mul_ediv_left _ _ (by omega), Int.ediv_eq_zero_of_lt r1 r2]
  omega
theorem wf_bit (w : Int) (low many : Nat) (n : Int) (i : Nat) : wfN w low many n / 2 ^ i % 2 = if low ≤ i ∧ i < low + many then n / 2 ^ (i - low) % 2 else w / 2 ^ i % 2 := by
  by_cases h : i < low
  · rw [if_neg (by omega), ← mod_bit _ i low h, (wf_parts w low many n).2, mod_bit _ i low h]
  · by_cases h2 : i < low + many
    · rw [if_pos ⟨by omega, h2⟩]
      obtain ⟨j, rfl⟩ : ∃ j, i = low + j := ⟨i - low, by omega⟩
      rw [div_more, Nat.add_sub_cancel_left, ← mod_bit (wfN w low many n / 2 ^ low) j many (by omega), wf_field, mod_bit _ j many (by omega)]
    · rw [if_neg (by omega)]
      obtain ⟨j, rfl⟩ : ∃ j, i = (low + many) + j := ⟨i - (low + many), by omega⟩
      rw [div_more, wf_high, ← div_more]
/-- two numbers in a word's range, by their parts -/
theorem lt_pow_of_div {x : Int} {a b : Nat} (h0 : 0 ≤ x / 2 ^ a) (h : x / 2 ^ a < 2 ^ b) : 0 ≤ x ∧ x < 2 ^ (a + b) := by
  have hp := two_pow_pos a
  have e1 := Int.mul_ediv_add_emod x (2 ^ a)
  have r1 := Int.emod_nonneg x (show (2 : Int) ^ a ≠ 0 by omega)
  have r2 := Int.emod_lt_of_pos x hp
  have m0 := Int.mul_nonneg (Int.le_of_lt hp) h0
  have m1 : (2 : Int) ^ a * (x / 2 ^ a + 1) ≤ 2 ^ a * 2 ^ b := Int.mul_le_mul_of_nonneg_left (by omega) (Int.le_of_lt hp)
  rw [pow_add2]
  rw [Int.mul_add] at m1
  omega
theorem div_lt_pow {x : Int} {a b : Nat} (h0 : 0 ≤ x) (h : x < 2 ^ (a + b)) : 0 ≤ x / 2 ^ a ∧ x / 2 ^ a < 2 ^ b := by
  have hp := two_pow_pos a
  refine ⟨Int.ediv_nonneg h0 (Int.le_of_lt hp), ?_⟩
  refine Int.ediv_lt_of_lt_mul hp ?_
  rw [Int.mul_comm, ← pow_add2]
  exact h
theorem wf_range (w : Int) (low many k : Nat) (n : Int) (hk : low + many ≤ k) (h0 : 0 ≤ w) (h : w < 2 ^ k) : 0 ≤ wfN w low many n ∧ wfN w low many n < 2 ^ k := by
  obtain ⟨j, rfl⟩ : ∃ j, k = (low + many) + j := ⟨k - (low + many), by omega⟩
  obtain ⟨a, b⟩ := div_lt_pow h0 h
  rw [← wf_high w low many n] at a b
  exact lt_pow_of_div a b
theorem wf_is (w low many n : Int) : wf w low many n = wfN w low.toNat many.toNat n := rfl
end Jl
namespace Jl
/-- the lowest n bits, the lowest one first -/
def bitsOf (w : Int) (n : Nat) : List Int := (List.range n).map fun i => w / 2 ^ i % 2
end Jl
namespace Jl
theorem turn_bits (w : Int) (h0 : 0 ≤ w) (h1 : w < 2 ^ 32) (m : Nat) (hm : m ≤ 32) (i : Nat) (hi : i < 32) :
    ((w / 2 ^ m + w * 2 ^ (32 - m)) % 2 ^ 32) / 2 ^ i % 2 = w / 2 ^ (if i + m < 32 then i + m else i + m - 32) % 2 := by
  rw [mod_bit _ i 32 hi]
  have hp := two_pow_pos (32 - m)
  have ha : 0 ≤ w / 2 ^ m ∧ w / 2 ^ m < 2 ^ (32 - m) := div_lt_pow h0 (by rw [show m + (32 - m) = 32 by omega]; exact h1)
  by_cases h : i + m < 32
  · rw [if_pos h, ← mod_bit _ i (32 - m) (by omega), Int.mul_comm w, Int.add_mul_emod_self_left, Int.emod_eq_of_lt ha.1 ha.2, ← div_more, Nat.add_comm m]
  · rw [if_neg h]
    obtain ⟨j, rfl⟩ : ∃ j, i = (32 - m) + j := ⟨i - (32 - m), by omega⟩
    rw [div_more, Int.mul_comm w, Int.add_mul_ediv_left _ _ (by omega), Int.ediv_eq_zero_of_lt ha.1 ha.2, Int.zero_add, show 32 - m + j + m - 32 = j by omega]
theorem bitsOf_get (w : Int) {n i : Nat} (h : i < n) : (bitsOf w n)[i]? = some (w / 2 ^ i % 2) := by
  unfold bitsOf
  rw [List.getElem?_map, List.getElem?_range h]; rfl
theorem bitsOf_succ (w : Int) (n : Nat) : bitsOf w (n + 1) = bitsOf w n ++ [w / 2 ^ n % 2] := by
  unfold bitsOf
  rw [List.range_succ, List.map_append]; rfl
theorem bitsOf_len (w : Int) (n : Nat) : (bitsOf w n).length = n := by
  unfold bitsOf
  rw [List.length_map, List.length_range]
end Jl
namespace Jl
theorem f0_16 (w : Int) : w / 2 ^ (0 : Int).toNat % 2 ^ (16 : Int).toNat = w % 65536 := by
  show w / 1 % 65536 = _
  rw [Int.ediv_one]
theorem f0_7 (w : Int) : w / 2 ^ (0 : Int).toNat % 2 ^ (7 : Int).toNat = w % 128 := by
  show w / 1 % 128 = _
  rw [Int.ediv_one]
theorem f14_5 (w : Int) : w / 2 ^ (14 : Int).toNat % 2 ^ (5 : Int).toNat = w / 16384 % 32 := rfl
theorem wf_16 (w n : Int) : wf w 0 16 n = w - w % 65536 + n % 65536 := by
  show w - (w / 1 % 65536) * 1 + (n % 65536) * 1 = _
  rw [Int.ediv_one]; omega
theorem wf_19 (w n : Int) : wf w 0 19 n = w - w % 524288 + n % 524288 := by
  show w - (w / 1 % 524288) * 1 + (n % 524288) * 1 = _
  rw [Int.ediv_one]; omega
theorem wf_7 (w n : Int) : wf w 0 7 n = w - w % 128 + n % 128 := by
  show w - (w / 1 % 128) * 1 + (n % 128) * 1 = _
  rw [Int.ediv_one]; omega
theorem wf_14 (w n : Int) : wf w 14 5 n = w - w / 16384 % 32 * 16384 + n % 32 * 16384 := rfl
theorem sgn_16 (w : Int) : sgn w (16 : Int).toNat = (w + 32768) % 65536 - 32768 := rfl
theorem sgn_19 (w : Int) : sgn w (19 : Int).toNat = (w + 262144) % 524288 - 262144 := rfl
theorem sgn_12 (w : Int) : sgn w (12 : Int).toNat = (w + 2048) % 4096 - 2048 := rfl
end Jl
namespace Jl
/-- what the fill of split makes of a word -/
def sf (w y : Int) : Int := 524288 * (w / 524288) + 16384 * (y / 128 % 32) + 128 * (w / 128 % 128) + y % 128
theorem sf_is (w y : Int) : (w - w % 128 + y % 128) - (w - w % 128 + y % 128) / 16384 % 32 * 16384 + y / 128 % 32 * 16384 = sf w y := by
  unfold sf
  have h1 : (w - w % 128 + y % 128) / 16384 = w / 16384 := by omega
  have h2 : w / 16384 = 32 * (w / 524288) + w / 16384 % 32 := by omega
  have h3 : w / 128 = 128 * (w / 16384) + w / 128 % 128 := by omega
  rw [h1]
  omega
theorem sf_parts (w y : Int) : sf w y / 524288 = w / 524288 ∧ sf w y / 128 % 128 = w / 128 % 128 ∧ sf w y % 128 = y % 128 ∧ sf w y / 16384 % 32 = y / 128 % 32 := by
  have a1 := Int.emod_nonneg (y / 128) (show (32 : Int) ≠ 0 by decide)
  have a2 := Int.emod_lt_of_pos (y / 128) (show (0 : Int) < 32 by decide)
  have b1 := Int.emod_nonneg (w / 128) (show (128 : Int) ≠ 0 by decide)
  have b2 := Int.emod_lt_of_pos (w / 128) (show (0 : Int) < 128 by decide)
  have c1 := Int.emod_nonneg y (show (128 : Int) ≠ 0 by decide)
  have c2 := Int.emod_lt_of_pos y (show (0 : Int) < 128 by decide)
  unfold sf
  generalize y / 128 % 32 = a at *
  generalize w / 128 % 128 = b at *
  generalize y % 128 = c at *
  generalize w / 524288 = d at *
  refine ⟨by omega, by omega, by omega, by omega⟩
theorem sf_again (w y z : Int) : sf (sf w y) z = sf w z := by
  have h := sf_parts w y
  unfold sf at *
  omega
theorem low12 (y : Int) : y % 128 + y / 128 % 32 * 128 = y % 4096 := by omega
end Jl

/-! Steps: one lemma for each reading, to be walked from the left. -/
namespace Jl
open PySem L2
section
variable {X : Cx}
/-- a list + a list, each to be read (the script, too) -/
def rCatS (K : PySem.W.Frag) : R2 := fun x y H Q => ∃ l b xs zs, x = .ref l ∧ y = .ref b ∧ SqL K H l xs ∧ SqL K H b zs ∧ xs.length + zs.length ≤ sizeLine ∧ ∀ p, H p = none → Q (.ref p) (upd H p (.lst (xs ++ zs)))
theorem op_catS : OpR X (binaryOp .Add) (rCatS X.K) := by
  intro pins s σ H x y v u Q I rx ry h
  obtain ⟨l, b, xs, zs, rfl, rfl, hH, hB, hz, q⟩ := h
  cases rx
  cases ry
  obtain ⟨its, r, p, _⟩ := I.list hH
  obtain ⟨its2, r2, p2, _⟩ := I.list hB
  have hl := p.isList
  have hb := p2.isList
  have hsz : its.length + its2.length ≤ sizeLine := by rw [← r.length, ← r2.length]; exact hz
  obtain ⟨⟨cls, dd, data, sl⟩, ho, hc, n, hd⟩ := id hl
  obtain ⟨⟨cls2, dd2, data2, sl2⟩, ho2, hc2, n2, hd2⟩ := id hb
  simp only at hc hd hc2 hd2
  subst hc hd hc2 hd2
  have e : its.toArray ++ its2.toArray = (its ++ its2).toArray := by simp
  refine PySem.concat_meets ⟨_, ho, rfl⟩ ⟨_, ho2, rfl⟩ PySem.noFill_list_add PySem.seq_list_add PySem.F.slot_list_add PySem.F.entry_list_add (PySem.F.args_list_add_2 _ _) (PyProof.Rows.list_addW l b its.toArray its2.toArray n n2 dd dd2 sl sl2 (by simpa using hsz)) ⟨ho, ho2, ?_⟩
  rw [e]
  exact ⟨.ref _, _, I.lnew (t' := s.toks) (r.append r2) (by rw [List.length_append]; omega), rfl, q _ I.fresh⟩
end
section
variable {K : PySem.W.Frag} {σ : L2.St} {H : Hp} {Q : VK} {ta tb tc te : TE} {tt t1 t2 : TT} {tr : TA} {i j : Int} {x y v : V} {b c : Bool} {p q A B : Prop} {nx bk ct : L2.St → Hp → Prop} {rt : VK} {ts tu tw : TS} {g : Int → Int → V} {R : List V → Hp → Prop} {T : Bool → Hp → Prop} {E : XK} {sp : Sp}
theorem s_var {k : Nat} (h : σ[k]? = some (some v)) (z : Q v H) : tVar k σ H Q := ⟨v, h, z⟩
theorem s_c (z : Q v H) : tC v σ H Q := z
theorem s_op {r : R2} (z : ta σ H fun x H1 => tb σ H1 fun y H2 => r x y H2 Q) : tOp r ta tb σ H Q := z
theorem s_un {r : V → Hp → VK → Prop} (z : ta σ H fun x H1 => r x H1 Q) : tUn r ta σ H Q := z
theorem s_I0 (z : Q (g i j) H) : rI0 g (.int i) (.int j) H Q := ⟨i, j, rfl, rfl, z⟩
theorem s_I {C : Int → Int → Prop} (hc : C i j) (z : Q (g i j) H) : rI C g (.int i) (.int j) H Q := ⟨i, j, rfl, rfl, hc, z⟩
theorem s_U {f : Int → V} (z : Q (f i) H) : rU f (.int i) H Q := ⟨i, rfl, z⟩
theorem s_eqI (z : Q (.bl (decide (i = j))) H) : rEq (.int i) (.int j) H Q := ⟨rfl, by
  have e : decide (V.int i = V.int j) = decide (i = j) := by rw [Bool.eq_iff_iff]; simp
  rw [e]; exact z⟩
theorem s_neI (z : Q (.bl (!decide (i = j))) H) : rNe (.int i) (.int j) H Q := ⟨rfl, by
  have e : decide (V.int i = V.int j) = decide (i = j) := by rw [Bool.eq_iff_iff]; simp
  rw [e]; exact z⟩
theorem s_eqS {z w : Str} (k : Q (.bl (decide (z = w))) H) : rEq (.str z) (.str w) H Q := ⟨rfl, by
  have e : decide (V.str z = V.str w) = decide (z = w) := by rw [Bool.eq_iff_iff]; simp
  rw [e]; exact k⟩
theorem s_neS {z w : Str} (k : Q (.bl (!decide (z = w))) H) : rNe (.str z) (.str w) H Q := ⟨rfl, by
  have e : decide (V.str z = V.str w) = decide (z = w) := by rw [Bool.eq_iff_iff]; simp
  rw [e]; exact k⟩
theorem s_eqB (k : Q (.bl (decide (b = c))) H) : rEq (.bl b) (.bl c) H Q := ⟨rfl, by
  have e : decide (V.bl b = V.bl c) = decide (b = c) := by rw [Bool.eq_iff_iff]; simp
  rw [e]; exact k⟩
theorem s_neB (k : Q (.bl (!decide (b = c))) H) : rNe (.bl b) (.bl c) H Q := ⟨rfl, by
  have e : decide (V.bl b = V.bl c) = decide (b = c) := by rw [Bool.eq_iff_iff]; simp
  rw [e]; exact k⟩
theorem s_isB (k : Q (.bl (decide (b = c))) H) : rIsB (.bl b) (.bl c) H Q := ⟨b, c, rfl, rfl, k⟩
theorem s_notB (k : Q (.bl (!decide (b = c))) H) : rNotB (.bl b) (.bl c) H Q := ⟨b, c, rfl, rfl, k⟩
theorem s_test {t : TE} (z : t σ H fun x H' => ∃ k, x = .bl k ∧ T k H') : tTest t σ H T := z
theorem s_tB {t : TE} (z : t σ H fun x H' => ∃ k, x = .bl k ∧ T k H') : tB t σ H T := z
theorem s_chain {r r' : R2} (z : ta σ H fun x H1 => tb σ H1 fun y H2 => r x y H2 fun z H3 => ∃ k, z = .bl k ∧ (if k = true then tc σ H3 fun w' H4 => r' y w' H4 Q else Q (.bl false) H3)) : tChain r r' ta tb tc σ H Q := z
theorem s_and (z : t1 σ H fun c H1 => if c = true then t2 σ H1 T else T false H1) : tAnd t1 t2 σ H T := z
theorem s_or (z : t1 σ H fun c H1 => if c = true then T true H1 else t2 σ H1 T) : tOr t1 t2 σ H T := z
theorem s_not (z : t1 σ H fun c H1 => T (!c) H1) : tNot t1 σ H T := z
theorem s_andV (z : ta σ H fun x H1 => ∃ c, x = .bl c ∧ if c = true then tb σ H1 Q else Q (.bl false) H1) : tAndV ta tb σ H Q := z
theorem s_orV (z : ta σ H fun x H1 => ∃ c, x = .bl c ∧ if c = true then Q (.bl true) H1 else tb σ H1 Q) : tOrV ta tb σ H Q := z
theorem s_notV (z : ta σ H fun x H1 => ∃ c, x = .bl c ∧ Q (.bl (!c)) H1) : tNotV ta σ H Q := z
theorem s_ifE (z : tt σ H fun c H1 => if c = true then ta σ H1 Q else tb σ H1 Q) : tIf tt ta tb σ H Q := z
theorem s_exbl {P : Bool → Prop} (z : P b) : ∃ k, V.bl b = V.bl k ∧ P k := ⟨b, rfl, z⟩
theorem s_next (z : nx σ H) : tNext ⟨nx, rt, bk, ct⟩ σ H := z
theorem s_seq (z : ts ⟨tu ⟨nx, rt, bk, ct⟩, rt, bk, ct⟩ σ H) : tSeq ts tu ⟨nx, rt, bk, ct⟩ σ H := z
theorem s_seq_assoc (z : tSeq ts tu ⟨tw ⟨nx, rt, bk, ct⟩, rt, bk, ct⟩ σ H) : tSeq ts (tSeq tu tw) ⟨nx, rt, bk, ct⟩ σ H := z
theorem s_drop (z : te σ H fun _ H1 => nx σ H1) : tDrop te ⟨nx, rt, bk, ct⟩ σ H := z
theorem s_ret (z : te σ H rt) : tRet te ⟨nx, rt, bk, ct⟩ σ H := z
theorem s_break (z : bk σ H) : tBreak ⟨nx, rt, bk, ct⟩ σ H := z
theorem s_cont (z : ct σ H) : tCont ⟨nx, rt, bk, ct⟩ σ H := z
theorem s_ifS (z : tt σ H fun b H1 => if b = true then ts ⟨nx, rt, bk, ct⟩ σ H1 else tu ⟨nx, rt, bk, ct⟩ σ H1) : tIfS tt ts tu ⟨nx, rt, bk, ct⟩ σ H := z
theorem s_asg {gg : TG} (z : te σ H fun x H1 => gg x σ H1 nx) : tAsg te gg ⟨nx, rt, bk, ct⟩ σ H := z
theorem s_name {k : Nat} {W : L2.St → Hp → Prop} (z : W (σ.set k (some v)) H) : gName k v σ H W := z
theorem s_nil (z : R [] H) : tNil σ H R := z
theorem s_cons (z : ta σ H fun x H1 => tr σ H1 fun xs H2 => R (x :: xs) H2) : tCons ta tr σ H R := z
theorem s_call {t : TA} (z : t σ H fun vs H1 => sp vs H1 Q E) : tCall sp [] E t σ H Q := by
  have e : (fun vs H1 => sp vs H1 Q E) = (fun vs H1 => sp (vs ++ []) H1 Q E) := by
    funext vs H1
    rw [List.append_nil]
  unfold tCall
  rw [← e]
  exact z
theorem s_CB {r : List V → Hp → VK → Prop} {t : TA} (z : t σ H fun vs H1 => r vs H1 Q) : tCB r t σ H Q := z
theorem s_iteT (z : A) : if true = true then A else B := by rw [if_pos rfl]; exact z
theorem s_iteF (z : B) : if false = true then A else B := by rw [if_neg Bool.false_ne_true]; exact z
theorem s_iteD [Decidable p] (h1 : p → A) (h2 : ¬ p → B) : if decide p = true then A else B := by
  by_cases h : p
  · rw [if_pos (decide_eq_true h)]; exact h1 h
  · rw [if_neg (by rw [decide_eq_false h]; exact Bool.false_ne_true)]; exact h2 h
theorem s_iteN [Decidable p] (h1 : ¬ p → A) (h2 : p → B) : if (!decide p) = true then A else B := by
  by_cases h : p
  · rw [if_neg (by rw [decide_eq_true h]; exact Bool.false_ne_true)]; exact h2 h
  · rw [if_pos (by rw [decide_eq_false h]; rfl)]; exact h1 h
theorem s_iteNN [Decidable p] (h1 : p → A) (h2 : ¬ p → B) : if (!!decide p) = true then A else B := by rw [Bool.not_not]; exact s_iteD h1 h2
theorem s_iteNT (z : B) : if (!true) = true then A else B := by rw [if_neg (by decide)]; exact z
theorem s_iteNF (z : A) : if (!false) = true then A else B := by rw [if_pos (by decide)]; exact z
theorem s_iteB (h1 : b = true → A) (h2 : b = false → B) : if b = true then A else B := by
  cases b with
  | true => exact s_iteT (h1 rfl)
  | false => exact s_iteF (h2 rfl)
theorem s_iteNB (h1 : b = false → A) (h2 : b = true → B) : if (!b) = true then A else B := by
  cases b with
  | false => exact s_iteNF (h1 rfl)
  | true => exact s_iteNT (h2 rfl)
theorem s_isi {xs : V} {cn : String} {k : Bool} {t : Value} (ty : TyX K H xs t) (hk : PySem.W.kitOne K t (.type cn) = some k) (z : Q (.bl k) H) : rIsi K [xs, .ty cn] H Q := ⟨xs, .ty cn, t, .type cn, k, rfl, .ty cn, ty, hk, z⟩
theorem s_isi_ii (z : Q (.bl true) H) : rIsi K [.int i, .ty "int"] H Q := s_isi (.base (.int i)) (kit_ty (by decide +kernel)) z
theorem s_isi_ib (z : Q (.bl false) H) : rIsi K [.int i, .ty "bool"] H Q := s_isi (.base (.int i)) (kit_ty (by decide +kernel)) z
theorem s_isi_bb (z : Q (.bl true) H) : rIsi K [.bl b, .ty "bool"] H Q := s_isi (.base (.bl b)) (kit_ty (by decide +kernel)) z
theorem s_isi_bi (z : Q (.bl true) H) : rIsi K [.bl b, .ty "int"] H Q := s_isi (.base (.bl b)) (kit_ty (by decide +kernel)) z
theorem s_isi_ss {w : Str} (z : Q (.bl true) H) : rIsi K [.str w, .ty "str"] H Q := s_isi (.base (.str w)) (kit_ty (by decide +kernel)) z
theorem s_isN (z : Q (.bl (decide (x = .non))) H) : (fun x y H Q => y = V.non ∧ Q (.bl (decide (x = .non))) H : R2) x .non H Q := ⟨rfl, z⟩
theorem c_div (h : 0 < j) (h2 : j < 1073741824) : CDiv i j := ⟨h, h2⟩
theorem c_mulR (h : -(2 ^ 64) < j) (h2 : j < 2 ^ 64) : CMul i j := .inr ⟨h, h2⟩
theorem c_mulL (h : -(2 ^ 64) < i) (h2 : i < 2 ^ 64) : CMul i j := .inl ⟨h, h2⟩
theorem c_pow (h : 0 ≤ j) (h1 : j ≤ 1000000) (h2 : i.natAbs < 2 ^ 64) : CPow i j := ⟨h, h1, h2⟩
/-! the ends -/
theorem fin_int (z : Q (.int i) H) (e : i = j) : Q (.int j) H := by rw [← e]; exact z
theorem fin_bl (z : Q (.bl b) H) (e : b = c) : Q (.bl c) H := by rw [← e]; exact z
theorem fin_dec [Decidable p] (z : Q (.bl true) H) (h : p) : Q (.bl (decide p)) H := by rw [decide_eq_true h]; exact z
theorem fin_ndec [Decidable p] (z : Q (.bl true) H) (h : ¬ p) : Q (.bl (!decide p)) H := by rw [decide_eq_false h]; exact z
theorem dec_t (h : p) [Decidable p] : decide p = true := decide_eq_true h
theorem s_iteDt [Decidable p] (h : p) (z : A) : if decide p = true then A else B := s_iteD (fun _ => z) fun n => absurd h n
theorem s_iteDf [Decidable p] (h : ¬ p) (z : B) : if decide p = true then A else B := s_iteD (fun n => absurd n h) fun _ => z
theorem s_iteNt [Decidable p] (h : p) (z : B) : if (!decide p) = true then A else B := s_iteN (fun n => absurd h n) fun _ => z
theorem s_iteNf [Decidable p] (h : ¬ p) (z : A) : if (!decide p) = true then A else B := s_iteN (fun _ => z) fun n => absurd n h
/-- a test by itself: its outcome -/
theorem s_ifS_f (h : ∀ T : Bool → Hp → Prop, T false H → tt σ H T) (z : tu ⟨nx, rt, bk, ct⟩ σ H) : tIfS tt ts tu ⟨nx, rt, bk, ct⟩ σ H := h _ (s_iteF z)
theorem s_ifS_t (h : ∀ T : Bool → Hp → Prop, T true H → tt σ H T) (z : ts ⟨nx, rt, bk, ct⟩ σ H) : tIfS tt ts tu ⟨nx, rt, bk, ct⟩ σ H := h _ (s_iteT z)
theorem s_ifS_d (p : Prop) [Decidable p] (h : ∀ T : Bool → Hp → Prop, T (decide p) H → tt σ H T) (z1 : p → ts ⟨nx, rt, bk, ct⟩ σ H) (z2 : ¬ p → tu ⟨nx, rt, bk, ct⟩ σ H) : tIfS tt ts tu ⟨nx, rt, bk, ct⟩ σ H := h _ (s_iteD z1 z2)
/-- a shift to the left -/
theorem shl_ok (a : Nat) (h : i.natAbs < 2 ^ a) (h0 : 0 ≤ j) (hj : j ≤ 1000000) (ha : a ≤ 1000000) : CShl i j := by
  refine ⟨h0, ?_⟩
  have b : Builtin.Int.intBits i ≤ i.natAbs.log2 + 1 := by
    unfold Builtin.Int.intBits
    split <;> omega
  have h2 : i.natAbs.log2 ≤ a := by
    by_cases z : i.natAbs = 0
    · rw [z]; simp
    · have := (Nat.log2_lt z).mpr h; omega
  have e : (2 : Int) ^ 27 = 134217728 := by decide
  rw [e]
  omega
/-! lists -/
theorem s_tup {t : TA} (z : t σ H fun xs H1 => xs.length ≤ sizeLine ∧ ∀ p, H1 p = none → Q (.ref p) (upd H1 p (.tup xs))) : tTup t σ H Q := z
theorem s_lst {t : TA} (z : t σ H fun xs H1 => xs.length ≤ sizeLine ∧ ∀ p, H1 p = none → Q (.ref p) (upd H1 p (.lst xs))) : tLst t σ H Q := z
theorem s_ixL {l : Addr} {xs : List V} (h : SqL K H l xs) (ha : atI xs i = some v) (z : Q v H) : rIxL K (.ref l) (.int i) H Q := ⟨l, xs, i, v, rfl, rfl, h, ha, z⟩
theorem s_ixT {l : Addr} {xs : List V} (h : SqT K H l xs) (ha : atI xs i = some v) (z : Q v H) : rIxT K (.ref l) (.int i) H Q := ⟨l, xs, i, v, rfl, rfl, h, ha, z⟩
theorem s_len {l : Addr} {xs : List V} (h : SqL K H l xs) (z : Q (.int xs.length) H) : (fun xs H Q => ∃ p ys, xs = [V.ref p] ∧ (SqL K H p ys ∨ SqT K H p ys) ∧ Q (.int ys.length) H : List V → Hp → VK → Prop) [.ref l] H Q := ⟨l, xs, rfl, .inl h, z⟩
theorem sqU {l : Addr} {xs : List V} : SqL K (upd H l (.lst xs)) l xs := .inl (.inl upd_same)
theorem same_upd {l : Addr} {o : HO} (h : H l = none) : Same H (upd H l o) := fun b u e => by
  rw [upd_ne (ne_of_none e h)]
  exact e
/-- range(n): what holds ahead of each turn -/
theorem s_forR1 {k : Nat} {ta : TA} (n : Int) (Pv : Nat → L2.St → Hp → Prop) (ha : ∀ R : List V → Hp → Prop, R [.int n] H → ta σ H R) (hn : -(2 ^ 62) ≤ n ∧ n < 2 ^ 62) (h0 : Pv 0 σ H)
    (hs : ∀ (i : Nat) σ' H', (i : Int) < n → Pv i σ' H' → tu ⟨Pv (i + 1), rt, nx, Pv (i + 1)⟩ (σ'.set k (some (.int (i : Int)))) H') (hd : ∀ σ' H', Pv n.toNat σ' H' → nx σ' H') : tFor (iRng1 ta) (gName k) tu ⟨nx, rt, bk, ct⟩ σ H := by
  refine ha _ ⟨n, rfl, hn.1, hn.2, ?_⟩
  refine for_range (lo := 0) (n := n.toNat) Pv h0 (fun i σ' H' hi h => ?_) hd
  show tu _ (σ'.set k (some (.int ((0 : Int) + (i : Int))))) H'
  rw [Int.zero_add]
  exact hs i σ' H' (by omega) h
/-- a list of known items -/
theorem s_forL {k : Nat} {tl : TE} {a : Addr} {xs : List V} (Pv : Nat → L2.St → Hp → Prop) (H1 : Hp) (ha : ∀ R : VK, R (.ref a) H1 → tl σ H R) (hx : SqL K H1 a xs) (h0 : Pv 0 σ H1)
    (hl : ∀ i σ' H', i ≤ xs.length → Pv i σ' H' → SqL K H' a xs)
    (hs : ∀ (i : Nat) x σ' H', xs[i]? = some x → Pv i σ' H' → tu ⟨Pv (i + 1), rt, nx, Pv (i + 1)⟩ (σ'.set k (some x)) H') (hd : ∀ σ' H', Pv xs.length σ' H' → nx σ' H') : tFor (iList K tl) (gName k) tu ⟨nx, rt, bk, ct⟩ σ H := by
  refine ha _ ⟨a, rfl, ⟨xs, hx⟩, ?_⟩
  exact for_list (xs := xs) Pv h0 hl (fun i x σ' H' hi h => hs i x σ' H' hi h) hd
theorem ints_get {ns : List Int} {k : Nat} {x : V} (h : (ns.map V.int)[k]? = some x) : ∃ z, ns[k]? = some z ∧ x = .int z := by
  rw [List.getElem?_map] at h
  cases e : ns[k]? with
  | none => rw [e] at h; cases h
  | some z => rw [e] at h; exact ⟨z, rfl, (Option.some.inj h).symm⟩
theorem atI_int {ns : List Int} {i : Int} {k : Nat} {z : Int} (h : ns[k]? = some z) (e : i = k) : atI (ns.map V.int) i = some (.int z) := by
  subst e
  refine atI_nat ?_
  rw [List.getElem?_map, h]; rfl
theorem atI_any {ns : List Int} {i : Int} (h1 : -(ns.length : Int) ≤ i) (h2 : i < ns.length) : ∃ z, atI (ns.map V.int) i = some (.int z) := by
  unfold atI ixN
  rw [List.length_map]
  by_cases h : 0 ≤ i
  · rw [if_pos h, if_pos h2]
    obtain ⟨z, hz⟩ : ∃ z, ns[i.toNat]? = some z := ⟨_, List.getElem?_eq_getElem (by omega)⟩
    refine ⟨z, ?_⟩
    show (ns.map V.int)[i.toNat]? = _
    rw [List.getElem?_map, hz]; rfl
  · rw [if_neg h, if_pos h1]
    obtain ⟨z, hz⟩ : ∃ z, ns[(i + ns.length).toNat]? = some z := ⟨_, List.getElem?_eq_getElem (by omega)⟩
    refine ⟨z, ?_⟩
    show (ns.map V.int)[(i + ns.length).toNat]? = _
    rw [List.getElem?_map, hz]; rfl
theorem small63 {n m : Nat} (h : n ≤ 63) (h2 : m ≤ 100) : n + m ≤ sizeLine := Nat.le_trans (by omega : n + m ≤ 200) (by decide)
/-- for cell in [0] + script: .. -/
theorem law0 {a : Addr} {ns : List Int} (hS : SqL K H a (ns.map V.int)) (hn : ns.length ≤ 63)
    (hb : ∀ (c : Int) (N : L2.St → Hp → Prop) H1, Same H H1 → (∀ v H2, Same H1 H2 → N [some (.ref a), v] H2) → tu ⟨N, rt, nx, N⟩ [some (.ref a), some (.int c)] H1)
    (hd : ∀ v H1, Same H H1 → nx [some (.ref a), v] H1) :
    tFor (iList K (tOp (rCatS K) (tLst (tCons (tC (.int 0)) tNil)) (tVar 0))) (gName 1) tu ⟨nx, rt, bk, ct⟩ [some (.ref a), none] H := by
  show _ ∧ ∀ _, _
  refine ⟨by decide, fun p hp => ?_⟩
  refine ⟨_, rfl, p, a, [.int 0], ns.map V.int, rfl, rfl, sqU, (same_upd hp).seq hS, (by rw [List.length_map]; show 1 + ns.length ≤ _; rw [Nat.add_comm]; exact small63 hn (by decide)), fun q hq => ?_⟩
  have s1 : Same H (upd (upd H p (.lst [.int 0])) q (.lst ([.int 0] ++ ns.map V.int))) := (same_upd hp).trans (same_upd hq)
  refine ⟨q, rfl, ⟨_, sqU⟩, ?_⟩
  refine for_list (xs := [.int 0] ++ ns.map V.int) (fun i σ H' => (∃ v, σ = [some (.ref a), v]) ∧ Same (upd (upd H p (.lst [.int 0])) q (.lst ([.int 0] ++ ns.map V.int))) H') ⟨⟨_, rfl⟩, Same.refl _⟩ (fun i σ' H' _ h => h.2.seq sqU) (fun i x σ' H' hi h => ?_) (fun σ' H' h => ?_)
  · obtain ⟨⟨v, rfl⟩, s2⟩ := h
    have e : [V.int 0] ++ ns.map V.int = (0 :: ns).map V.int := rfl
    rw [e] at hi
    obtain ⟨z, _, rfl⟩ := ints_get hi
    exact hb z _ H' (s1.trans s2) fun v H2 s3 => ⟨⟨v, rfl⟩, s2.trans s3⟩
  · obtain ⟨⟨v, rfl⟩, s2⟩ := h
    exact hd v H' (s1.trans s2)
/-- cells = script + [e, ..]; for k in range(len(cells)): .. -/
theorem law1 {a : Addr} {ns ms : List Int} (hS : SqL K H a (ns.map V.int)) (hn : ns.length ≤ 63) (hm : ms.length ≤ 100) {tl : TE}
    (hl : ∀ (R : VK), (∀ p, H p = none → R (.ref p) (upd H p (.lst (ms.map V.int)))) → tl [some (.ref a), none, none] H R) {te : TE}
    (he : ∀ (p : Addr) (H1 : Hp) (R : List V → Hp → Prop), SqL K H1 p ((ns ++ ms).map V.int) → R [.int ((ns ++ ms).length : Int)] H1 → tCons te tNil [some (.ref a), some (.ref p), none] H1 R)
    (hb : ∀ (p : Addr) (c : Int) (N : L2.St → Hp → Prop) H1, Same H H1 → SqL K H1 p ((ns ++ ms).map V.int) → 0 ≤ c → c < ((ns ++ ms).length : Int) → (∀ v H2, Same H1 H2 → N [some (.ref a), some (.ref p), v] H2) → tu ⟨N, rt, nx, N⟩ [some (.ref a), some (.ref p), some (.int c)] H1)
    (hd : ∀ p v H1, Same H H1 → nx [some (.ref a), some (.ref p), v] H1) :
    tSeq (tAsg (tOp (rCatS K) (tVar 0) tl) (gName 1)) (tFor (iRng1 (tCons te tNil)) (gName 2) tu) ⟨nx, rt, bk, ct⟩ [some (.ref a), none, none] H := by
  refine s_seq (s_asg (s_op (s_var rfl (hl _ fun p hp => ?_))))
  refine ⟨a, p, ns.map V.int, ms.map V.int, rfl, rfl, (same_upd hp).seq hS, sqU, (by rw [List.length_map, List.length_map]; exact small63 hn hm), fun q hq => ?_⟩
  rw [← List.map_append]
  have s1 : Same H (upd (upd H p (.lst (ms.map V.int))) q (.lst ((ns ++ ms).map V.int))) := (same_upd hp).trans (same_upd hq)
  have hlen : (ns ++ ms).length ≤ 163 := by rw [List.length_append]; omega
  refine s_forR1 ((ns ++ ms).length : Int) (fun i σ H' => (∃ v, σ = [some (.ref a), some (.ref q), v]) ∧ Same (upd (upd H p (.lst (ms.map V.int))) q (.lst ((ns ++ ms).map V.int))) H') (fun R z => he q _ R sqU z) (by omega) ⟨⟨_, rfl⟩, Same.refl _⟩ (fun i σ' H' hi h => ?_) (fun σ' H' h => ?_)
  · obtain ⟨⟨v, rfl⟩, s2⟩ := h
    exact hb q i _ H' (s1.trans s2) (s2.seq sqU) (by omega) hi fun v H2 s3 => ⟨⟨v, rfl⟩, s2.trans s3⟩
  · obtain ⟨⟨v, rfl⟩, s2⟩ := h
    exact hd q v H' (s1.trans s2)
/-- the same, two names more -/
theorem law1x {a : Addr} {ns ms : List Int} (hS : SqL K H a (ns.map V.int)) (hn : ns.length ≤ 63) (hm : ms.length ≤ 100) {tl : TE}
    (hl : ∀ (R : VK), (∀ p, H p = none → R (.ref p) (upd H p (.lst (ms.map V.int)))) → tl [some (.ref a), none, none, none, none] H R) {te : TE}
    (he : ∀ (p : Addr) (H1 : Hp) (R : List V → Hp → Prop), SqL K H1 p ((ns ++ ms).map V.int) → R [.int ((ns ++ ms).length : Int)] H1 → tCons te tNil [some (.ref a), some (.ref p), none, none, none] H1 R)
    (hb : ∀ (p : Addr) (c : Int) (v1 v2 : Option V) (N : L2.St → Hp → Prop) H1, Same H H1 → SqL K H1 p ((ns ++ ms).map V.int) → 0 ≤ c → c < ((ns ++ ms).length : Int) → (∀ v v1 v2 H2, Same H1 H2 → N [some (.ref a), some (.ref p), v, v1, v2] H2) → tu ⟨N, rt, nx, N⟩ [some (.ref a), some (.ref p), some (.int c), v1, v2] H1)
    (hd : ∀ p v v1 v2 H1, Same H H1 → nx [some (.ref a), some (.ref p), v, v1, v2] H1) :
    tSeq (tAsg (tOp (rCatS K) (tVar 0) tl) (gName 1)) (tFor (iRng1 (tCons te tNil)) (gName 2) tu) ⟨nx, rt, bk, ct⟩ [some (.ref a), none, none, none, none] H := by
  refine s_seq (s_asg (s_op (s_var rfl (hl _ fun p hp => ?_))))
  refine ⟨a, p, ns.map V.int, ms.map V.int, rfl, rfl, (same_upd hp).seq hS, sqU, (by rw [List.length_map, List.length_map]; exact small63 hn hm), fun q hq => ?_⟩
  rw [← List.map_append]
  have s1 : Same H (upd (upd H p (.lst (ms.map V.int))) q (.lst ((ns ++ ms).map V.int))) := (same_upd hp).trans (same_upd hq)
  have hlen : (ns ++ ms).length ≤ 163 := by rw [List.length_append]; omega
  refine s_forR1 ((ns ++ ms).length : Int) (fun i σ H' => (∃ v v1 v2, σ = [some (.ref a), some (.ref q), v, v1, v2]) ∧ Same (upd (upd H p (.lst (ms.map V.int))) q (.lst ((ns ++ ms).map V.int))) H') (fun R z => he q _ R sqU z) (by omega) ⟨⟨_, _, _, rfl⟩, Same.refl _⟩ (fun i σ' H' hi h => ?_) (fun σ' H' h => ?_)
  · obtain ⟨⟨v, v1, v2, rfl⟩, s2⟩ := h
    exact hb q i v1 v2 _ H' (s1.trans s2) (s2.seq sqU) (by omega) hi fun v v1 v2 H2 s3 => ⟨⟨v, v1, v2, rfl⟩, s2.trans s3⟩
  · obtain ⟨⟨v, v1, v2, rfl⟩, s2⟩ := h
    exact hd q v v1 v2 H' (s1.trans s2)
/-- if p: x = e, x being an int: one way -/
theorem s_ifAsgI {k : Nat} (a b : Int) {p : Prop} [Decidable p] (ht : ∀ T : Bool → Hp → Prop, T (decide p) H → tt σ H T) (he : p → ∀ R : VK, R (.int b) H → te σ H R) (hσ : σ[k]? = some (some (.int a)))
    (z : nx (σ.set k (some (.int (if p then b else a)))) H) : tIfS tt (tAsg te (gName k)) tNext ⟨nx, rt, bk, ct⟩ σ H := by
  refine ht _ (s_iteD (fun h => he h _ ?_) (fun h => ?_))
  · rw [if_pos h] at z; exact z
  · rw [if_neg h] at z
    have e : σ.set k (some (.int a)) = σ := by
      obtain ⟨h1, h2⟩ := List.getElem?_eq_some_iff.mp hσ
      rw [← h2]; exact List.set_getElem_self h1
    rw [e] at z
    exact z
theorem s_iteAsgI {k : Nat} (a b : Int) {p : Prop} [Decidable p] (he : p → ∀ R : VK, R (.int b) H → te σ H R) (hσ : σ[k]? = some (some (.int a)))
    (z : nx (σ.set k (some (.int (if p then b else a)))) H) : if decide p = true then tAsg te (gName k) ⟨nx, rt, bk, ct⟩ σ H else tNext ⟨nx, rt, bk, ct⟩ σ H :=
  s_ifAsgI (tt := fun _ H T => T (decide p) H) (bk := bk) (ct := ct) (rt := rt) a b (fun _ h => h) he hσ z
theorem s_iteAsgV {k : Nat} (a b : V) {p : Prop} [Decidable p] (he : p → ∀ R : VK, R b H → te σ H R) (hσ : σ[k]? = some (some a))
    (z : nx (σ.set k (some (if p then b else a))) H) : if decide p = true then tAsg te (gName k) ⟨nx, rt, bk, ct⟩ σ H else tNext ⟨nx, rt, bk, ct⟩ σ H := by
  refine s_iteD (fun h => he h _ ?_) (fun h => ?_)
  · rw [if_pos h] at z; exact z
  · rw [if_neg h] at z
    have e : σ.set k (some a) = σ := by
      obtain ⟨h1, h2⟩ := List.getElem?_eq_some_iff.mp hσ
      rw [← h2]; exact List.set_getElem_self h1
    rw [e] at z
    exact z
theorem ite_str (p : Prop) [Decidable p] (a b : Str) : (if p then V.str a else V.str b) = V.str (if p then a else b) := by split <;> rfl
end
end Jl

/-! Steps over lists: append, comprehensions over a range, equality of lists. -/
namespace Jl
open PySem L2
section
variable {K : PySem.W.Frag} {σ : L2.St} {H H' : Hp} {Q : VK} {ta tb tc te to : TE} {tr : TA} {i j : Int} {x y v : V} {a p : Addr} {xs ys : List V}
theorem sameT (e : Same H H') (h : SqT K H a xs) : SqT K H' a xs := by
  rcases h with (h | ⟨o, h⟩) | h
  · exact .inl (.inl (e _ _ h))
  · exact .inl (.inr ⟨o, e _ _ h⟩)
  · exact .inr h
mutual
theorem dp_same (e : Same H H') : ∀ {v : V} {d : PyData}, Dp K H v d → Dp K H' v d
  | _, _, .non => .non
  | _, _, .bl b => .bl b
  | _, _, .int i => .int i
  | _, _, .str x => .str x
  | _, _, .lst h hs => .lst (e.seq h) (dps_same e hs)
  | _, _, .tup h hs => .tup (sameT e h) (dps_same e hs)
theorem dps_same (e : Same H H') : ∀ {vs : List V} {ds : List PyData}, DpAll K H vs ds → DpAll K H' vs ds
  | _, _, .nil => .nil
  | _, _, .cons h hs => .cons (dp_same e h) (dps_same e hs)
end
theorem dp_ints : ∀ ns : List Int, DpAll K H (ns.map V.int) (ns.map PyData.int)
  | [] => .nil
  | n :: ns => .cons (.int n) (dp_ints ns)
theorem dp_intL {ns : List Int} (h : SqL K H a (ns.map V.int)) : Dp K H (.ref a) (.list (ns.map PyData.int)) := .lst h (dp_ints ns)
theorem lay_ints : ∀ ns : List Int, PyData.canLayAll0 (ns.map PyData.int) = true
  | [] => rfl
  | n :: ns => by show (true && PyData.canLayAll0 (ns.map PyData.int)) = true; rw [lay_ints ns]; rfl
theorem depth_ints : ∀ ns : List Int, PyData.depthAll (ns.map PyData.int) ≤ 1
  | [] => by show (0 : Nat) ≤ 1; decide
  | n :: ns => by
    have h := depth_ints ns
    show max (PyData.depth (.int n)) (PyData.depthAll (ns.map PyData.int)) ≤ 1
    have e : PyData.depth (.int n) = 0 := by unfold PyData.depth; rfl
    omega
theorem shaped_ints (ns : List Int) : SeqAt.shaped (.list (ns.map PyData.int)) = true := by
  have h := depth_ints ns
  refine Bool.and_eq_true_iff.mpr ⟨lay_ints ns, decide_eq_true ?_⟩
  show PyData.depthAll (ns.map PyData.int) + 1 ≤ 64
  omega
theorem eqv_ints : ∀ ns ms : List Int, PyData.eqvAll (ns.map PyData.int) (ms.map PyData.int) = decide (ns = ms)
  | [], [] => rfl
  | [], _ :: _ => rfl
  | _ :: _, [] => rfl
  | n :: ns, m :: ms => by
    show ((n == m) && PyData.eqvAll (ns.map PyData.int) (ms.map PyData.int)) = _
    rw [eqv_ints ns ms, Bool.eq_iff_iff]
    simp
theorem s_eqInts {p q : Addr} {ns ms : List Int} (h1 : SqL K H p (ns.map V.int)) (h2 : SqL K H q (ms.map V.int)) (z : Q (.bl (decide (ns = ms))) H) : rEqD K (.ref p) (.ref q) H Q :=
  ⟨_, _, dp_intL h1, dp_intL h2, shaped_ints ns, shaped_ints ms, by
    show Q (.bl (PyData.eqvAll (ns.map PyData.int) (ms.map PyData.int))) H
    rw [eqv_ints]; exact z⟩
theorem s_BM {T : String} {r : V → List V → Hp → VK → Prop} {t : TA} (z : to σ H fun x H1 => tyV K T x H1 ∧ t σ H1 fun xs H2 => r x xs H2 Q) : tBM K T r to t σ H Q := z
theorem ty_list (h : SqL K H p xs) : tyV K "list" (.ref p) H := .inl ⟨rfl, _, h⟩
theorem s_tyL {B : Prop} (h : H p = some (.lst xs)) (z : B) : tyV K "list" (.ref p) H ∧ B := ⟨ty_list (.inl (.inl h)), z⟩
theorem s_append (h : H p = some (.lst xs)) (z : Q .non (upd H p (.lst (xs ++ [v])))) (hl : xs.length < sizeLine) : rAppend (.ref p) [v] H Q := ⟨p, xs, v, rfl, rfl, h, hl, z⟩
/-- what H0 knew stands, when an object that it did not know is written -/
theorem same_mut {H0 : Hp} {o : HO} (e : Same H0 H) (h : H0 p = none) : Same H0 (upd H p o) := fun b u hb => by
  rw [upd_ne (ne_of_none hb h)]
  exact e b u hb
theorem small5 {n : Nat} (h : n ≤ 100000) : n ≤ sizeLine := Nat.le_trans h (by decide)
theorem small5' {n : Nat} (h : n ≤ 100000) : n < sizeLine := Nat.lt_of_le_of_lt h (by decide)
/-- [e for i in range(n)] -/
theorem s_lcR {t : TA} {k : Nat} {vs : List Nat} (n : Int) (f : Nat → V) (ha : ∀ R : List V → Hp → Prop, R [.int n] H → t σ H R) (hn : 0 ≤ n ∧ n ≤ 100000) (hw : ∀ x, wipe ((wipe σ vs).set k (some x)) vs = wipe σ vs)
    (he : ∀ (i : Nat) H1 (R : VK), Same H H1 → (i : Int) < n → (∀ H2, Same H1 H2 → R (f i) H2) → te ((wipe σ vs).set k (some (.int (i : Int)))) H1 R)
    (z : ∀ p H1, Same H H1 → H p = none → H1 p = some (.lst ((List.range n.toNat).map f)) → Q (.ref p) H1) : tLc (iRng1 t) (gName k) tYes te vs σ H Q := by
  refine ha _ ⟨n, rfl, by omega, by omega, fun D hD => ?_⟩
  refine lc_range (lo := 0) (n := n.toNat) (fun i H' => Same H H' ∧ H' D = some (.lst ((List.range i).map f))) ⟨same_upd hD, upd_same⟩ (fun i H1 hi h => ?_) (fun H1 h => z D H1 h.1 hD h.2)
  obtain ⟨s1, h1⟩ := h
  have e0 : (0 : Int) + (i : Int) = (i : Int) := Int.zero_add _
  show wipe ((wipe σ vs).set k (some (.int ((0 : Int) + (i : Int))))) vs = wipe σ vs ∧ te ((wipe σ vs).set k (some (.int ((0 : Int) + (i : Int))))) H1 _
  rw [e0]
  refine ⟨hw _, he i H1 _ s1 (by omega) fun H2 s2 => ⟨_, s2 D _ h1, small5' (by rw [List.length_map, List.length_range]; omega), same_mut (s1.trans s2) hD, ?_⟩⟩
  rw [upd_same, List.range_succ, List.map_append]
  rfl
theorem bitsOf_atI (w : Int) {i : Int} (h0 : 0 ≤ i) (h : i < 32) : atI ((bitsOf w 32).map V.int) i = some (.int (w / 2 ^ i.toNat % 2)) :=
  atI_int (bitsOf_get w (by omega)) (by omega)
/-! objects -/
theorem s_make {C : Addr} {sp : Sp} {E : XK} {t : TA} (z : t σ H fun vs H1 => ∀ x dx, H1 x = none → H1 dx = none → dx ≠ x → sp (.ref x :: vs) (upd (upd H1 dx (.own x)) x (.ins C dx [])) (fun v H2 => v = .non ∧ Q (.ref x) H2) E) : tMake C sp [] E t σ H Q := by
  have e : (fun vs H1 => ∀ x dx, H1 x = none → H1 dx = none → dx ≠ x → sp (.ref x :: vs) (upd (upd H1 dx (.own x)) x (.ins C dx [])) (fun v H2 => v = .non ∧ Q (.ref x) H2) E) = (fun vs H1 => ∀ x dx, H1 x = none → H1 dx = none → dx ≠ x → sp (.ref x :: (vs ++ [])) (upd (upd H1 dx (.own x)) x (.ins C dx [])) (fun v H2 => v = .non ∧ Q (.ref x) H2) E) := by
    funext vs H1
    rw [List.append_nil]
  unfold tMake
  rw [← e]
  exact z
theorem same_made {x dx C : Addr} {o : HO} (nx : H x = none) (nd : H dx = none) : Same H (upd (upd (upd H dx (.own x)) x (.ins C dx [])) x o) := fun b u e => by
  rw [upd_ne (ne_of_none e nx), upd_ne (ne_of_none e nx), upd_ne (ne_of_none e nd)]
  exact e
/-- an object with a title -/
def RuleAt (H : Hp) (p C : Addr) (t : Str) : Prop := ∃ dx, H p = some (.ins C dx (putF "title" (.str t) []))
theorem RuleAt.same {C : Addr} {t : Str} (e : Same H H') (h : RuleAt H p C t) : RuleAt H' p C t := by
  obtain ⟨dx, h⟩ := h
  exact ⟨dx, e _ _ h⟩
theorem s_meth {C : Addr} {m t : Str} {sp : Sp} {E : XK} (hR : RuleAt H p C t) (hv : ∀ R : VK, R (.ref p) H → ta σ H R) (hm : ¬ m = "title") (z : tr σ H fun vs H2 => sp (.ref p :: vs) H2 Q E) : tMeth C m sp [] E ta tr σ H Q := by
  obtain ⟨dx, h⟩ := hR
  refine hv _ ⟨p, dx, _, rfl, h, (by rw [lookup_putF, if_neg hm]; rfl), ?_⟩
  have e : (fun vs H2 => sp (.ref p :: vs) H2 Q E) = (fun vs H2 => sp (.ref p :: (vs ++ [])) H2 Q E) := by
    funext vs H1
    rw [List.append_nil]
  rw [← e]
  exact z
/-! an if at which the walk stops: its ways joined -/
def tIfK (c : TT) (t u : TS) : TS := tIfS c t u
theorem s_ifKw {k : Nat} {nx bk ct : L2.St → Hp → Prop} {rt : VK} {tt : TT} {P : Prop} (a0 : V) (M : V → Hp → Prop) (hσ : σ[k]? = some (some a0)) (ht : ∀ T : Bool → Hp → Prop, (P → T true H) → (¬ P → T false H) → tt σ H T)
    (h1 : P → ∀ R : VK, (∀ v H', M v H' → R v H') → te σ H R) (h2 : ¬ P → M a0 H) (z : ∀ v H', M v H' → nx (σ.set k (some v)) H') : tIfK tt (tAsg te (gName k)) tNext ⟨nx, rt, bk, ct⟩ σ H := by
  refine ht _ (fun hp => ?_) (fun hp => ?_)
  · exact s_iteT (h1 hp _ fun v H' hm => z v H' hm)
  · refine s_iteF ?_
    have q := z a0 H (h2 hp)
    have e : σ.set k (some a0) = σ := by
      obtain ⟨h1, h2⟩ := List.getElem?_eq_some_iff.mp hσ
      rw [← h2]; exact List.set_getElem_self h1
    rw [e] at q
    exact q
/-- the same, the ways being statements: what holds behind -/
theorem s_ifKs {nx bk ct : L2.St → Hp → Prop} {rt : VK} {tt : TT} {ts tu : TS} {P : Prop} (M : L2.St → Hp → Prop) (ht : ∀ T : Bool → Hp → Prop, (P → T true H) → (¬ P → T false H) → tt σ H T)
    (h1 : P → ∀ N : L2.St → Hp → Prop, (∀ σ' H', M σ' H' → N σ' H') → ts ⟨N, rt, bk, ct⟩ σ H) (h2 : ¬ P → ∀ N : L2.St → Hp → Prop, (∀ σ' H', M σ' H' → N σ' H') → tu ⟨N, rt, bk, ct⟩ σ H) (z : ∀ σ' H', M σ' H' → nx σ' H') : tIfK tt ts tu ⟨nx, rt, bk, ct⟩ σ H := by
  refine ht _ (fun hp => ?_) (fun hp => ?_)
  · exact s_iteT (h1 hp _ z)
  · exact s_iteF (h2 hp _ z)
end
theorem ps_ifK {X : Cx} {c : Expr} {a b : List Stmt} {tc : TT} {t u : TS} {pos : Pos} (hc : PT X c tc) (ha : PSs X a t) (hb : PSs X b u) : PS X (.If c a b pos) (tIfK tc t u) := ps_if hc ha hb
end Jl

/-! Steps over texts. -/
namespace Jl
open PySem L2
def rAddS : R2 := fun x y H Q => ∃ i j, x = .str i ∧ y = .str j ∧ i.length + j.length ≤ sizeLine ∧ Q (.str (i ++ j)) H
def rInS : R2 := fun x y H Q => ∃ (c : Nat) (z : Str), x = .str ⟨#[c]⟩ ∧ y = .str z ∧ Q (.bl (decide (c ∈ z.cps.toList))) H
def rNotInS : R2 := fun x y H Q => ∃ (c : Nat) (z : Str), x = .str ⟨#[c]⟩ ∧ y = .str z ∧ Q (.bl (!decide (c ∈ z.cps.toList))) H
def rIsN : R2 := fun x y H Q => y = .non ∧ Q (.bl (decide (x = .non))) H
def rNotN : R2 := fun x y H Q => y = .non ∧ Q (.bl (!decide (x = .non))) H
def rLenS : List V → Hp → VK → Prop := fun xs H Q => ∃ z, xs = [.str z] ∧ z.length ≤ sizeLine ∧ Q (.int z.length) H
def rLenL (K : PySem.W.Frag) : List V → Hp → VK → Prop := fun xs H Q => ∃ p ys, xs = [.ref p] ∧ (SqL K H p ys ∨ SqT K H p ys) ∧ Q (.int ys.length) H
def rMax2 : List V → Hp → VK → Prop := fun xs H Q => ∃ i j, xs = [.int i, .int j] ∧ Q (.int (if j > i then j else i)) H
def rMin2 : List V → Hp → VK → Prop := fun xs H Q => ∃ i j, xs = [.int i, .int j] ∧ Q (.int (if j < i then j else i)) H
def rInt1 : List V → Hp → VK → Prop := fun xs H Q => (∃ i, xs = [.int i] ∧ Q (.int i) H) ∨ ∃ k, xs = [.bl k] ∧ Q (.int (if k then 1 else 0)) H
def rIntS : List V → Hp → VK → Prop := fun xs H Q => ∃ a n, xs = [.str a] ∧ PySem.intText? a = some n ∧ a.length ≤ 640 ∧ Q (.int n) H
def rStrI : List V → Hp → VK → Prop := fun xs H Q => ∃ i, xs = [.int i] ∧ i.natAbs.log2 < 1920 ∧ Q (.str (toString i)) H
section
variable {X : Cx}
theorem op_addS : OpR X (binaryOp .Add) rAddS := op_add_str
theorem op_inS : OpR X (compareOp .In) rInS := op_in_sign
theorem op_notInS : OpR X (compareOp .NotIn) rNotInS := op_notIn_sign
theorem op_isN1 : OpR X (compareOp .Is) rIsN := op_isN
theorem op_notN1 : OpR X (compareOp .IsNot) rNotN := op_notN
theorem cl_lenS : CallR X (.builtin "len") rLenS := call_len_str
theorem cl_lenL : CallR X (.builtin "len") (rLenL X.K) := call_len_seq
theorem cl_max2 (hc : X.calm = true) : CallR X (.builtin "max") rMax2 := call_max2 hc
theorem cl_min2 (hc : X.calm = true) : CallR X (.builtin "min") rMin2 := call_min2 hc
theorem cl_int1 : CallR X (.type "int") rInt1 := call_int1
theorem cl_intS : CallR X (.type "int") rIntS := call_int_str
theorem cl_strI : CallR X (.type "str") rStrI := call_str_int
end
section
variable {K : PySem.W.Frag} {σ : L2.St} {H H' : Hp} {Q : VK} {ta tb tc te to : TE} {tr : TA} {i j : Int} {x y v : V} {a p : Addr} {xs ys : List V} {z w : Str} {c : Nat} {b : Bool} {nx bk ct : L2.St → Hp → Prop} {rt : VK} {tu : TS} {tl th : TO} {RO : Option Int → Hp → Prop}
theorem s_addS (k : Q (.str (z ++ w)) H) (h : z.length + w.length ≤ 100000) : rAddS (.str z) (.str w) H Q := ⟨z, w, rfl, rfl, small5 h, k⟩
theorem s_inS (k : Q (.bl (decide (c ∈ w.cps.toList))) H) : rInS (.str ⟨#[c]⟩) (.str w) H Q := ⟨c, w, rfl, rfl, k⟩
theorem s_notInS (k : Q (.bl (!decide (c ∈ w.cps.toList))) H) : rNotInS (.str ⟨#[c]⟩) (.str w) H Q := ⟨c, w, rfl, rfl, k⟩
theorem s_isNn (k : Q (.bl true) H) : rIsN .non .non H Q := ⟨rfl, k⟩
theorem s_isNi (k : Q (.bl false) H) : rIsN (.int i) .non H Q := ⟨rfl, k⟩
theorem s_isNs (k : Q (.bl false) H) : rIsN (.str z) .non H Q := ⟨rfl, k⟩
theorem s_isNr (k : Q (.bl false) H) : rIsN (.ref a) .non H Q := ⟨rfl, k⟩
theorem s_notNn (k : Q (.bl false) H) : rNotN .non .non H Q := ⟨rfl, k⟩
theorem s_notNi (k : Q (.bl true) H) : rNotN (.int i) .non H Q := ⟨rfl, k⟩
theorem s_notNs (k : Q (.bl true) H) : rNotN (.str z) .non H Q := ⟨rfl, k⟩
theorem s_notNr (k : Q (.bl true) H) : rNotN (.ref a) .non H Q := ⟨rfl, k⟩
theorem s_lenS (k : Q (.int (z.length : Int)) H) (h : z.length ≤ 100000) : rLenS [.str z] H Q := ⟨z, rfl, small5 h, k⟩
theorem s_lenL (h : SqL K H p xs) (k : Q (.int (xs.length : Int)) H) : rLenL K [.ref p] H Q := ⟨p, xs, rfl, .inl h, k⟩
theorem s_max2 (k : Q (.int (max i j)) H) : rMax2 [.int i, .int j] H Q := ⟨i, j, rfl, by
  have e : (if j > i then j else i) = max i j := by split <;> omega
  rw [e]; exact k⟩
theorem s_min2 (k : Q (.int (min i j)) H) : rMin2 [.int i, .int j] H Q := ⟨i, j, rfl, by
  have e : (if j < i then j else i) = min i j := by split <;> omega
  rw [e]; exact k⟩
theorem s_int1 (k : Q (.int i) H) : rInt1 [.int i] H Q := .inl ⟨i, rfl, k⟩
theorem s_int1b (k : Q (.int (if b = true then 1 else 0)) H) : rInt1 [.bl b] H Q := .inr ⟨b, rfl, k⟩
theorem s_ixS (h : atI z.cps.toList i = some c) (k : Q (.str ⟨#[c]⟩) H) (hz : z.length ≤ 100000) : rIxS (.str z) (.int i) H Q := ⟨z, i, c, rfl, rfl, small5 hz, h, k⟩
theorem s_sl {r : V → Option Int → Option Int → Hp → VK → Prop} (k : te σ H fun x H1 => tl σ H1 fun l H2 => th σ H2 fun u H3 => r x l u H3 Q) : tSl r te tl th σ H Q := k
theorem s_noP (k : RO none H) : tNoPart σ H RO := k
theorem s_part (k : te σ H fun x H1 => ∃ i, x = .int i ∧ RO (some i) H1) : tPart te σ H RO := k
theorem s_exi {R : Int → Prop} (k : R i) : ∃ j, V.int i = V.int j ∧ R j := ⟨i, rfl, k⟩
theorem s_slS {lo hi : Option Int} (k : Q (.str (cutS z lo hi)) H) (h : z.length ≤ 100000) : rSlS (.str z) lo hi H Q := ⟨z, rfl, small5 h, k⟩
/-- for c in z -/
theorem s_forS {n : Nat} (Pv : Nat → L2.St → Hp → Prop) (ha : ∀ R : VK, R (.str z) H → te σ H R) (h0 : Pv 0 σ H)
    (hs : ∀ (i : Nat) (c : Nat) σ' H', z.cps.toList[i]? = some c → Pv i σ' H' → tu ⟨Pv (i + 1), rt, nx, Pv (i + 1)⟩ (σ'.set n (some (.str ⟨#[c]⟩))) H') (hd : ∀ σ' H', Pv z.length σ' H' → nx σ' H') : tFor (iStr te) (gName n) tu ⟨nx, rt, bk, ct⟩ σ H := by
  refine ha _ ⟨z, rfl, ?_⟩
  refine ⟨fun i m σ H => m = z.length - i ∧ i ≤ z.length ∧ Pv i σ H, ⟨z.length, by simp, Nat.zero_le _, h0⟩, ?_⟩
  rintro i m σ' H1 ⟨rfl, hi, q⟩
  by_cases hlt : i < z.length
  · refine .inr ⟨hlt, Pv (i + 1), fun σ2 H2 q' => ⟨z.length - (i + 1), by omega, rfl, hlt, q'⟩, fun x H2 y => ?_⟩
    obtain ⟨e, c, hc, rfl⟩ := y
    subst e
    exact hs i c σ' _ (by rw [Array.getElem?_toList]; exact hc) q
  · have e : i = z.length := by omega
    subst e
    exact .inl ⟨Nat.le_refl _, hd σ' H1 q⟩
theorem len_app (z w : Str) : (z ++ w).length = z.length + w.length := PySem.Str.length_append z w
theorem cps_app (z w : Str) : (z ++ w).cps.toList = z.cps.toList ++ w.cps.toList := by
  have e : (z ++ w).cps = z.cps ++ w.cps := rfl
  rw [e, Array.toList_append]
theorem len_one (c : Nat) : (⟨#[c]⟩ : Str).length = 1 := rfl
theorem len_cut (z : Str) (lo hi : Option Int) : (cutS z lo hi).length ≤ z.length := cutS_length z lo hi
theorem len_list (z : Str) : z.cps.toList.length = z.length := Array.length_toList
theorem str_ext {z w : Str} (h : z.cps.toList = w.cps.toList) : z = w := by
  obtain ⟨a⟩ := z
  obtain ⟨b⟩ := w
  have e : a = b := Array.toList_inj.mp h
  rw [e]
theorem atI_some {α : Type} {l : List α} {i : Int} (h1 : -(l.length : Int) ≤ i) (h2 : i < l.length) : ∃ z, atI l i = some z := by
  unfold atI ixN
  by_cases h : 0 ≤ i
  · rw [if_pos h, if_pos h2]
    exact ⟨_, List.getElem?_eq_getElem (by omega)⟩
  · rw [if_neg h, if_pos h1]
    exact ⟨_, List.getElem?_eq_getElem (by omega)⟩
theorem atI_of0 {α : Type} {l : List α} {x : α} (h : l[0]? = some x) : atI l 0 = some x := atI_nat h
theorem one_eq {c d : Nat} : ((⟨#[c]⟩ : Str) = ⟨#[d]⟩) ↔ c = d := by
  constructor
  · intro h
    have e := congrArg (fun z : Str => z.cps.toList) h
    simpa using e
  · rintro rfl; rfl
theorem all_false {α : Type} {l : List α} {f : α → Bool} {i : Nat} {x : α} (h : l[i]? = some x) (hf : f x = false) : l.all f = false := by
  rw [List.all_eq_false]
  exact ⟨x, List.mem_of_getElem? h, by rw [hf]; decide⟩
theorem all_true {α : Type} {l : List α} {f : α → Bool} (h : ∀ (i : Nat) x, l[i]? = some x → f x = true) : l.all f = true := by
  rw [List.all_eq_true]
  intro x hx
  obtain ⟨i, hi⟩ := List.getElem?_of_mem hx
  exact h i x hi
end
end Jl

/-! The machine over words: what it is, what a step makes of it; steps over objects, tuples, dicts. -/
namespace Jl
open PySem L2
def opI (w : Int) : Int := w / 268435456 % 16
def fA (w : Int) : Int := w / 33554432 % 8
def fB (w : Int) : Int := w / 4194304 % 8
def fC (w : Int) : Int := w / 524288 % 8
def fN (w : Int) : Int := w % 65536
def nearI (w : Int) : Int := (w + 262144) % 524288 - 262144
def splitI (w : Int) : Int := (w % 128 + 128 * (w / 16384 % 32) + 2048) % 4096 - 2048
def s16 (n : Int) : Int := (n + 32768) % 65536 - 32768
def turnI (w b : Int) : Int := (w / 2 ^ (b % 32).toNat + w * 2 ^ (32 - (b % 32).toNat)) % 4294967296
def reckI (op l r n : Int) : Int :=
  if op = 2 then n else if op = 3 then 65536 * n else if op = 4 then (l + s16 n) % 4294967296 else if op = 7 then (l + r) % 4294967296
  else if op = 8 then (l - r) % 4294967296 else if op = 9 then Builtin.bitAnd l r else if op = 10 then Builtin.bitXor l r else turnI l r
def reg (l : List Int) (i : Int) : Int := l.getD i.toNat 0
structure MSt where
  mem : Int → Option Int
  spot : Int
  regs : List Int
  outs : List Int
  fin : Bool
def thereI (s : MSt) (w : Int) : Int := (reg s.regs (fB w) + s16 (fN w)) % 4294967296
def nextI (s : MSt) : Int := (s.spot + 1) % 4294967296
def goneI (s : MSt) (w : Int) : Int :=
  if opI w = 15 then reg s.regs (fA w) else if opI w = 14 then (s.spot + 1 + nearI w) % 4294967296
  else if (opI w = 12 ∧ reg s.regs (fA w) = reg s.regs (fB w)) ∨ (opI w = 13 ∧ reg s.regs (fA w) < reg s.regs (fB w)) then (s.spot + 1 + splitI w) % 4294967296 else nextI s
def memPut (f : Int → Option Int) (a w : Int) : Int → Option Int := fun x => if x = a then some w else f x
def stepI (s : MSt) (w : Int) : MSt :=
  if opI w = 0 then { s with fin := true }
  else if opI w = 1 then { s with outs := s.outs ++ [reg s.regs (fA w)], spot := nextI s }
  else if opI w = 5 then { s with regs := s.regs.set (fA w).toNat ((s.mem (thereI s w)).getD 0), spot := nextI s }
  else if opI w = 6 then { s with mem := memPut s.mem (thereI s w) (reg s.regs (fA w)), spot := nextI s }
  else if opI w > 11 then { s with regs := if opI w = 14 then s.regs.set (fA w).toNat (nextI s) else s.regs, spot := goneI s w }
  else { s with regs := s.regs.set (fA w).toNat (reckI (opI w) (reg s.regs (fB w)) (reg s.regs (fC w)) (fN w)), spot := nextI s }
/-! the fields -/
def mf (m s r o e : V) : List (Str × V) := putF "ended" e (putF "outputs" o (putF "registers" r (putF "spot" s (putF "memory" m []))))
theorem putF_ne {f g : Str} {v x : V} {r : List (Str × V)} (h : ¬ g = f) : putF f v ((g, x) :: r) = (g, x) :: putF f v r := if_neg h
theorem putF_eq {f : Str} {v x : V} {r : List (Str × V)} : putF f v ((f, x) :: r) = (f, v) :: r := if_pos rfl
theorem mf_is (m s r o e : V) : mf m s r o e = ([("memory", m), ("spot", s), ("registers", r), ("outputs", o), ("ended", e)] : List (Str × V)) := by
  have e0 : putF "memory" m [] = ([("memory", m)] : List (Str × V)) := rfl
  have e1 : putF "spot" s ([("memory", m)] : List (Str × V)) = ([("memory", m), ("spot", s)] : List (Str × V)) := putF_ne (by decide +kernel)
  have e2 : putF "registers" r ([("memory", m), ("spot", s)] : List (Str × V)) = ([("memory", m), ("spot", s), ("registers", r)] : List (Str × V)) := by
    rw [putF_ne (by decide +kernel), putF_ne (by decide +kernel)]; rfl
  have e3 : putF "outputs" o ([("memory", m), ("spot", s), ("registers", r)] : List (Str × V)) = ([("memory", m), ("spot", s), ("registers", r), ("outputs", o)] : List (Str × V)) := by
    rw [putF_ne (by decide +kernel), putF_ne (by decide +kernel), putF_ne (by decide +kernel)]; rfl
  unfold mf
  rw [e0, e1, e2, e3, putF_ne (by decide +kernel), putF_ne (by decide +kernel), putF_ne (by decide +kernel), putF_ne (by decide +kernel)]
  rfl
theorem mf_memory (m s r o e : V) : (mf m s r o e).lookup ("memory" : Str) = some m := by
  unfold mf
  rw [lookup_putF, if_neg (by decide +kernel), lookup_putF, if_neg (by decide +kernel), lookup_putF, if_neg (by decide +kernel), lookup_putF, if_neg (by decide +kernel), lookup_putF, if_pos rfl]
theorem mf_spot (m s r o e : V) : (mf m s r o e).lookup ("spot" : Str) = some s := by
  unfold mf
  rw [lookup_putF, if_neg (by decide +kernel), lookup_putF, if_neg (by decide +kernel), lookup_putF, if_neg (by decide +kernel), lookup_putF, if_pos rfl]
theorem mf_registers (m s r o e : V) : (mf m s r o e).lookup ("registers" : Str) = some r := by
  unfold mf
  rw [lookup_putF, if_neg (by decide +kernel), lookup_putF, if_neg (by decide +kernel), lookup_putF, if_pos rfl]
theorem mf_outputs (m s r o e : V) : (mf m s r o e).lookup ("outputs" : Str) = some o := by
  unfold mf
  rw [lookup_putF, if_neg (by decide +kernel), lookup_putF, if_pos rfl]
theorem mf_ended (m s r o e : V) : (mf m s r o e).lookup ("ended" : Str) = some e := by
  unfold mf
  rw [lookup_putF, if_pos rfl]
theorem mf_no (m s r o e : V) {f : Str} (h1 : ¬ f = "ended") (h2 : ¬ f = "outputs") (h3 : ¬ f = "registers") (h4 : ¬ f = "spot") (h5 : ¬ f = "memory") : (mf m s r o e).lookup f = none := by
  unfold mf
  rw [lookup_putF, if_neg h1, lookup_putF, if_neg h2, lookup_putF, if_neg h3, lookup_putF, if_neg h4, lookup_putF, if_neg h5]
  rfl
theorem mf_len (m s r o e : V) : (mf m s r o e).length < 1000 := by rw [mf_is]; show 5 < 1000; decide
theorem mf_putSpot (m s r o e v : V) : putF "spot" v (mf m s r o e) = mf m v r o e := by
  rw [mf_is, mf_is, putF_ne (by decide +kernel), putF_eq]
theorem mf_putEnded (m s r o e v : V) : putF "ended" v (mf m s r o e) = mf m s r o v := by
  rw [mf_is, mf_is, putF_ne (by decide +kernel), putF_ne (by decide +kernel), putF_ne (by decide +kernel), putF_ne (by decide +kernel), putF_eq]
/-! a machine in the heap -/
structure MachAt (C : Addr) (H : Hp) (p dx m r o : Addr) (s : MSt) : Prop where
  ob : H p = some (.ins C dx (mf (.ref m) (.int s.spot) (.ref r) (.ref o) (.bl s.fin)))
  dc : ∃ kvs, H m = some (.dK kvs) ∧ kvs.length ≤ 100000 ∧ ∀ a : Int, valV kvs (Sum.inl a : Key) = (s.mem a).map V.int
  rg : H r = some (.lst (s.regs.map V.int))
  ou : H o = some (.lst (s.outs.map V.int))
  ne : r ≠ o
theorem MachAt.same {C : Addr} {H H' : Hp} {p dx m r o : Addr} {s : MSt} (e : Same H H') (h : MachAt C H p dx m r o s) : MachAt C H' p dx m r o s := by
  obtain ⟨kvs, h1, h2, h3⟩ := h.dc
  exact ⟨e _ _ h.ob, ⟨kvs, e _ _ h1, h2, h3⟩, e _ _ h.rg, e _ _ h.ou, h.ne⟩
/-- all but a machine's own cells stands -/
def Keep (H H' : Hp) (p m r o : Addr) : Prop := ∀ b v, H b = some v → b ≠ p → b ≠ m → b ≠ r → b ≠ o → H' b = some v
theorem Keep.same {B H H' : Hp} {p m r o : Addr} (k : Keep H H' p m r o) (e : Same B H) (h1 : B p = none) (h2 : B m = none) (h3 : B r = none) (h4 : B o = none) : Same B H' := fun b v hb =>
  k b v (e b v hb) (ne_of_none hb h1) (ne_of_none hb h2) (ne_of_none hb h3) (ne_of_none hb h4)
theorem Keep.of {H H' : Hp} {p m r o : Addr} (e : Same H H') : Keep H H' p m r o := fun b v h _ _ _ _ => e b v h
theorem Keep.trans {H H1 H2 : Hp} {p m r o : Addr} (a : Keep H H1 p m r o) (b : Keep H1 H2 p m r o) : Keep H H2 p m r o := fun c v h h1 h2 h3 h4 => b c v (a c v h h1 h2 h3 h4) h1 h2 h3 h4
section
variable {K : PySem.W.Frag} {σ : L2.St} {H H' : Hp} {Q : VK} {ta tb tc te to tv td ty : TE} {tr : TA} {i j : Int} {x y v : V} {a p dx C m r o : Addr} {xs ys : List V} {f : Str} {fs : List (Str × V)} {nx bk ct : L2.St → Hp → Prop} {rt : VK} {W : L2.St → Hp → Prop} {s : MSt}
theorem s_fld (hv : ∀ R : VK, R (.ref p) H → ta σ H R) (h : H p = some (.ins C dx fs)) (c : Cls K C) (n : NoAttr K C f) (l : fs.lookup f = some v) (z : Q v H) : tFld K ta f σ H Q := hv _ ⟨p, C, dx, fs, v, rfl, h, c, n, l, z⟩
theorem s_sFld (z : tv σ H fun y H1 => ta σ H1 fun x H2 => ∃ a C dx fs, x = .ref a ∧ H2 a = some (.ins C dx fs) ∧ Cls K C ∧ NoAttr K C f ∧ fs.length < 1000 ∧ nx σ (upd H2 a (.ins C dx (putF f y fs)))) : sFld K ta tv f ⟨nx, rt, bk, ct⟩ σ H := z
theorem s_setF (h : H p = some (.ins C dx fs)) (c : Cls K C) (n : NoAttr K C f) (hl : fs.length < 1000) (z : nx σ (upd H p (.ins C dx (putF f y fs)))) :
    ∃ a C dx fs, V.ref p = .ref a ∧ H a = some (.ins C dx fs) ∧ Cls K C ∧ NoAttr K C f ∧ fs.length < 1000 ∧ nx σ (upd H a (.ins C dx (putF f y fs))) := ⟨p, C, dx, fs, rfl, h, c, n, hl, z⟩
theorem s_gTup {n : Nat} {t : TGs} (h : SqT K H p xs) (hl : xs.length = n) (z : t xs σ H W) : gTup K n t (.ref p) σ H W := ⟨p, xs, rfl, h, hl, z⟩
theorem s_gTupA {n : Nat} {t : TGs} (h : H p = some (.tup xs)) (hl : xs.length = n) (z : t xs σ H W) : gTup K n t (.ref p) σ H W := ⟨p, xs, rfl, .inl (.inl h), hl, z⟩
theorem s_gCons {t : TG} {u : TGs} (z : t v σ H fun σ' H' => u xs σ' H' W) : gCons t u (v :: xs) σ H W := ⟨v, xs, rfl, z⟩
theorem s_gNil (z : W σ H) : gNil [] σ H W := ⟨rfl, z⟩
theorem s_gSub {t : TSet} (z : to σ H fun o H1 => te σ H1 fun i H2 => t o i v H2 fun H3 => W σ H3) : gSub to te t v σ H W := z
theorem s_setL {Z : Hp → Prop} {k : Nat} (h : H p = some (.lst xs)) (hi : ixN xs.length i = some k) (z : Z (upd H p (.lst (xs.set k v)))) : rSetL (.ref p) (.int i) v H Z := ⟨p, xs, i, k, rfl, rfl, h, hi, z⟩
theorem ixN_ok {n : Nat} (h0 : 0 ≤ i) (h : i < n) : ixN n i = some i.toNat := by
  unfold ixN
  rw [if_pos h0, if_pos h]
theorem atI_reg {l : List Int} {n : Nat} (hl : l.length = n) (h0 : 0 ≤ i) (h : i < n) : atI (l.map V.int) i = some (.int (reg l i)) := by
  have hi : i.toNat < l.length := by omega
  refine atI_int (k := i.toNat) ?_ (by omega)
  unfold reg
  rw [List.getD_eq_getElem?_getD, List.getElem?_eq_getElem hi]; rfl
theorem map_set {l : List Int} {n : Nat} {z : Int} : (l.map V.int).set n (.int z) = (l.set n z).map V.int := by rw [List.map_set]
theorem tup_at {i : Nat} {v : V} (h : H p = some (.tup xs)) (hv : xs[i]? = some v) (z : Q v H) : rIxT K (.ref p) (.int (i : Int)) H Q := s_ixT (.inl (.inl h)) (atI_nat hv) z
theorem s_methO {sp : Sp} {E : XK} (hv : ∀ R : VK, R (.ref p) H → ta σ H R) (h : H p = some (.ins C dx fs)) (hm : fs.lookup f = none) (z : tr σ H fun vs H2 => sp (.ref p :: vs) H2 Q E) : tMeth C f sp [] E ta tr σ H Q := by
  refine hv _ ⟨p, dx, _, rfl, h, hm, ?_⟩
  have e : (fun vs H2 => sp (.ref p :: vs) H2 Q E) = (fun vs H2 => sp (.ref p :: (vs ++ [])) H2 Q E) := by
    funext vs H1
    rw [List.append_nil]
  rw [← e]
  exact z
/-! dicts and copies -/
theorem s_dnotin (z : ty σ H fun y H1 => td σ H1 fun x H2 => ∃ a o, x = .ref a ∧ DGet H2 a y o ∧ Q (.bl (!o.isSome)) H2) : tDNotIn ty td σ H Q := z
theorem s_din (z : ty σ H fun y H1 => td σ H1 fun x H2 => ∃ a o, x = .ref a ∧ DGet H2 a y o ∧ Q (.bl o.isSome) H2) : tDIn ty td σ H Q := z
theorem s_dgetR (z : td σ H fun x H1 => ty σ H1 fun y H2 => ∃ a v, x = .ref a ∧ DGet H2 a y (some v) ∧ Q v H2) : tDGet td ty σ H Q := z
theorem s_dput (z : tv σ H fun v H1 => td σ H1 fun x H2 => ty σ H2 fun y H3 => ∃ a H4, x = .ref a ∧ DPut H3 a y v H4 ∧ nx σ H4) : sDPut td ty tv ⟨nx, rt, bk, ct⟩ σ H := z
theorem s_dget1 (z : td σ H fun x H1 => ∃ a, x = .ref a ∧ IsD H1 a ∧ ty σ H1 fun y H2 => ∃ o, DGet H2 a y o ∧ Q (o.getD .non) H2) : tDGet1 td ty σ H Q := z
end
def rDictD : List V → Hp → VK → Prop := fun xs H Q => ∃ (a : Addr) (kvs : List (Key × V)), xs = [.ref a] ∧ Rd H a (.dK kvs) ∧ ∀ p, H p = none → Q (.ref p) (upd H p (.dK kvs))
def rListO (K : PySem.W.Frag) : List V → Hp → VK → Prop := fun xs H Q => ∃ p ys, xs = [.ref p] ∧ (SqL K H p ys ∨ SqT K H p ys) ∧ ∀ l, H l = none → Q (.ref l) (upd H l (.lst ys))
theorem cl_dictD {X : Cx} : CallR X (.type "dict") rDictD := call_dictD
theorem cl_listO {X : Cx} : CallR X (.type "list") (rListO X.K) := call_list_of
theorem s_dictD {H : Hp} {Q : VK} {a : Addr} {kvs : List (Key × V)} (h : H a = some (.dK kvs)) (z : ∀ p, H p = none → Q (.ref p) (upd H p (.dK kvs))) : rDictD [.ref a] H Q := ⟨a, kvs, rfl, .inl h, z⟩
theorem s_listO {K : PySem.W.Frag} {H : Hp} {Q : VK} {a : Addr} {xs : List V} (h : SqL K H a xs) (z : ∀ p, H p = none → Q (.ref p) (upd H p (.lst xs))) : rListO K [.ref a] H Q := ⟨a, xs, rfl, .inl h, z⟩
/-- the key of an int -/
def kI (a : Int) : Key := Sum.inl a
/-- all but one object stands -/
def But (H H' : Hp) (p : Addr) : Prop := ∀ b v, H b = some v → b ≠ p → H' b = some v
theorem But.refl (H : Hp) (p : Addr) : But H H p := fun _ _ h _ => h
theorem But.at {H H' : Hp} {p : Addr} {o : HO} (e : But H H' p) : But H (upd H' p o) p := fun b v h n => by
  rw [upd_ne n]; exact e b v h n
theorem But.new {H H' : Hp} {p q : Addr} {o : HO} (e : But H H' p) (hq : H q = none) : But H (upd H' q o) p := fun b v h n => by
  rw [upd_ne (ne_of_none h hq)]; exact e b v h n
theorem But.sq {K : PySem.W.Frag} {H H' : Hp} {p dx C a : Addr} {fs : List (Str × V)} {xs : List V} (e : But H H' p) (hp : H p = some (.ins C dx fs)) (h : SqL K H a xs) : SqL K H' a xs := by
  rcases h with (h | ⟨o, h⟩) | h
  · exact .inl (.inl (e _ _ h (ne_of h hp (by intro z; cases z))))
  · exact .inl (.inr ⟨o, e _ _ h (ne_of h hp (by intro z; cases z))⟩)
  · exact .inr h
theorem But.free {H H' : Hp} {p q dx C : Addr} {fs : List (Str × V)} (e : But H H' p) (hp : H p = some (.ins C dx fs)) (h' : ∃ v, H' p = some v) (h : H' q = none) : H q = none := by
  cases z : H q with
  | none => rfl
  | some v =>
    by_cases hq : q = p
    · subst hq
      obtain ⟨v, hv⟩ := h'
      rw [hv] at h; cases h
    · rw [e q v z hq] at h; cases h
theorem lp1 {f : Str} {v : V} {fs : List (Str × V)} {n : Nat} (h : fs.length ≤ n) : (putF f v fs).length ≤ n + 1 := Nat.le_trans (length_putF f v fs) (by omega)
theorem lp {n : Nat} {fs : List (Str × V)} (h : fs.length ≤ n) (hn : n ≤ 100) : fs.length < 1000 := by omega
theorem nil0 : ([] : List (Str × V)).length ≤ 0 := Nat.le_refl 0
section
variable {C p dx m r o : Addr} {H H' : Hp} {s : MSt}
theorem MachAt.pm (M : MachAt C H p dx m r o s) : p ≠ m := by obtain ⟨k, h, _⟩ := M.dc; exact ne_of M.ob h (by intro z; cases z)
theorem MachAt.pr (M : MachAt C H p dx m r o s) : p ≠ r := ne_of M.ob M.rg (by intro z; cases z)
theorem MachAt.po (M : MachAt C H p dx m r o s) : p ≠ o := ne_of M.ob M.ou (by intro z; cases z)
theorem MachAt.rm (M : MachAt C H p dx m r o s) : r ≠ m := by obtain ⟨k, h, _⟩ := M.dc; exact ne_of M.rg h (by intro z; cases z)
theorem MachAt.om (M : MachAt C H p dx m r o s) : o ≠ m := by obtain ⟨k, h, _⟩ := M.dc; exact ne_of M.ou h (by intro z; cases z)
theorem MachAt.setSpot (M : MachAt C H p dx m r o s) (v : Int) : MachAt C (upd H p (.ins C dx (putF "spot" (.int v) (mf (.ref m) (.int s.spot) (.ref r) (.ref o) (.bl s.fin))))) p dx m r o { s with spot := v } := by
  obtain ⟨kvs, h1, h2, h3⟩ := M.dc
  rw [mf_putSpot]
  exact ⟨upd_same, ⟨kvs, by rw [upd_ne M.pm.symm]; exact h1, h2, h3⟩, by rw [upd_ne M.pr.symm]; exact M.rg, by rw [upd_ne M.po.symm]; exact M.ou, M.ne⟩
theorem MachAt.setEnded (M : MachAt C H p dx m r o s) (v : Bool) : MachAt C (upd H p (.ins C dx (putF "ended" (.bl v) (mf (.ref m) (.int s.spot) (.ref r) (.ref o) (.bl s.fin))))) p dx m r o { s with fin := v } := by
  obtain ⟨kvs, h1, h2, h3⟩ := M.dc
  rw [mf_putEnded]
  exact ⟨upd_same, ⟨kvs, by rw [upd_ne M.pm.symm]; exact h1, h2, h3⟩, by rw [upd_ne M.pr.symm]; exact M.rg, by rw [upd_ne M.po.symm]; exact M.ou, M.ne⟩
theorem MachAt.setReg (M : MachAt C H p dx m r o s) (i : Nat) (v : Int) : MachAt C (upd H r (.lst ((s.regs.map V.int).set i (.int v)))) p dx m r o { s with regs := s.regs.set i v } := by
  obtain ⟨kvs, h1, h2, h3⟩ := M.dc
  refine ⟨by rw [upd_ne M.pr]; exact M.ob, ⟨kvs, by rw [upd_ne M.rm.symm]; exact h1, h2, h3⟩, ?_, by rw [upd_ne M.ne.symm]; exact M.ou, M.ne⟩
  rw [map_set]; exact upd_same
theorem MachAt.app (M : MachAt C H p dx m r o s) (v : Int) : MachAt C (upd H o (.lst (s.outs.map V.int ++ [.int v]))) p dx m r o { s with outs := s.outs ++ [v] } := by
  obtain ⟨kvs, h1, h2, h3⟩ := M.dc
  refine ⟨by rw [upd_ne M.po]; exact M.ob, ⟨kvs, by rw [upd_ne M.om.symm]; exact h1, h2, h3⟩, by rw [upd_ne M.ne]; exact M.rg, ?_, M.ne⟩
  have e : (s.outs ++ [v]).map V.int = s.outs.map V.int ++ [.int v] := by rw [List.map_append]; rfl
  rw [e]; exact upd_same
theorem Keep.atP {v : HO} (k : Keep H H' p m r o) : Keep H (upd H' p v) p m r o := fun b u h h1 h2 h3 h4 => by rw [upd_ne h1]; exact k b u h h1 h2 h3 h4
theorem Keep.atR {v : HO} (k : Keep H H' p m r o) : Keep H (upd H' r v) p m r o := fun b u h h1 h2 h3 h4 => by rw [upd_ne h3]; exact k b u h h1 h2 h3 h4
theorem Keep.atO {v : HO} (k : Keep H H' p m r o) : Keep H (upd H' o v) p m r o := fun b u h h1 h2 h3 h4 => by rw [upd_ne h4]; exact k b u h h1 h2 h3 h4
theorem Keep.atM {H2 : Hp} (k : Keep H H' p m r o) (e : ∀ b, b ≠ m → H2 b = H' b) : Keep H H2 p m r o := fun b u h h1 h2 h3 h4 => by rw [e b h2]; exact k b u h h1 h2 h3 h4
theorem Keep.sm {H2 : Hp} (k : Keep H H' p m r o) (e : Same H' H2) : Keep H H2 p m r o := fun b u h h1 h2 h3 h4 => e b u (k b u h h1 h2 h3 h4)
end
/-- what a step asks -/
structure Goes (s : MSt) (w : Int) : Prop where
  run : s.fin = false
  here : s.mem s.spot = some w
  r8 : s.regs.length = 8
  rr : ∀ i, 0 ≤ i → i < 8 → 0 ≤ reg s.regs i ∧ reg s.regs i < 4294967296
  few : s.outs.length ≤ 1000
  has : opI w = 5 ∨ opI w = 6 → ∃ v, s.mem (thereI s w) = some v
def optW : Option Int → V
  | none => .non
  | some n => .int n
section
variable {K : PySem.W.Frag} {σ : L2.St} {H H' : Hp} {Q : VK} {ta tb tc te to tv td ty tl : TE} {tt : TT} {tr : TA} {i j : Int} {x y v : V} {a p q dx C m r o : Addr} {xs ys : List V}
theorem s_isi_tt {cn : String} {k : Bool} (h : H q = some (.tup xs)) (hk : kitB "tuple" cn = some k) (z : Q (.bl k) H) : rIsi K [.ref q, .ty cn] H Q := s_isi (.base (.tup h)) (kit_ty hk) z
/-- a machine's state as data -/
def stD (s : MSt) : PyData := .tuple [.int s.spot, .list (s.regs.map PyData.int), .list (s.outs.map PyData.int), .bool s.fin]
theorem dp_st {s : MSt} (h : H q = some (.tup [.int s.spot, .ref r, .ref o, .bl s.fin])) (hr : SqL K H r (s.regs.map V.int)) (ho : SqL K H o (s.outs.map V.int)) : Dp K H (.ref q) (stD s) :=
  .tup (.inl (.inl h)) (.cons (.int _) (.cons (dp_intL hr) (.cons (dp_intL ho) (.cons (.bl _) .nil))))
theorem shaped_st (s : MSt) : SeqAt.shaped (stD s) = true := by
  have h1 := depth_ints s.regs
  have h2 := depth_ints s.outs
  refine Bool.and_eq_true_iff.mpr ⟨?_, decide_eq_true ?_⟩
  · show (true && (PyData.canLayAll0 (s.regs.map PyData.int) && (PyData.canLayAll0 (s.outs.map PyData.int) && (true && true)))) = true
    rw [lay_ints, lay_ints]; rfl
  · show (max 0 (max (PyData.depthAll (s.regs.map PyData.int) + 1) (max (PyData.depthAll (s.outs.map PyData.int) + 1) (max 0 0)))) + 1 ≤ 64
    omega
theorem s_neSt {s : MSt} (h1 : Dp K H x (stD s)) (h2 : Dp K H y (stD s)) (z : Q (.bl false) H) : rNeD K x y H Q :=
  ⟨_, _, h1, h2, shaped_st s, shaped_st s, by
    rw [SeqAt.eqv_refl _ (SeqAt.canLay_of_shaped (shaped_st s))]; exact z⟩
/-- [e for x in xs if t], t false of each -/
theorem s_lcNo {k : Nat} {vs : List Nat} {xs : List V} (ha : ∀ R : VK, (∀ a H1, Same H H1 → SqL K H1 a xs → R (.ref a) H1) → tl σ H R) (hw : ∀ x, wipe ((wipe σ vs).set k (some x)) vs = wipe σ vs)
    (ht : ∀ (i : Nat) x H1 (T : Bool → Hp → Prop), xs[i]? = some x → Same H H1 → (∀ H2, Same H1 H2 → T false H2) → tt ((wipe σ vs).set k (some x)) H1 T)
    (z : ∀ p H1, Same H H1 → H1 p = some (.lst []) → Q (.ref p) H1) : tLc (iList K tl) (gName k) tt te vs σ H Q := by
  refine ha _ fun a H0 s0 hx => ⟨a, rfl, ⟨xs, hx⟩, fun D hD => ?_⟩
  refine lc_list (xs := xs) (fun i H' => Same H0 H' ∧ H' D = some (.lst [])) ⟨same_upd hD, upd_same⟩ (fun i H' _ h => h.1.seq hx) (fun i x H1 hi h => ?_) (fun H1 h => z D H1 (s0.trans h.1) h.2)
  obtain ⟨s1, h1⟩ := h
  refine ⟨hw _, ht i x H1 _ hi (s0.trans s1) fun H2 s2 => ?_⟩
  rw [if_neg Bool.false_ne_true]
  exact ⟨s1.trans s2, s2 D _ h1⟩
theorem s_eqNil (h1 : H p = some (.lst [])) (h2 : H q = some (.lst [])) (z : Q (.bl true) H) : rEqD K (.ref p) (.ref q) H Q :=
  s_eqInts (ns := []) (ms := []) (.inl (.inl h1)) (.inl (.inl h2)) z
end
theorem s_disp {trs : List (TE × TE)} {σ : L2.St} {H : Hp} {Q : VK} (z : ∀ p, H p = none → tPairs trs σ (upd H p (.dK [])) fun ps H2 => H2 p = some (.dK []) ∧ ∃ kvs : List (Key × V), ps = kvs.map (fun kv => (kV kv.1, kv.2)) ∧ kvs.length ≤ 15 ∧ Q (.ref p) (upd H2 p (.dK (mergeK [] kvs)))) : tDisp trs σ H Q := z
theorem s_tPc {tk tv : TE} {r : List (TE × TE)} {σ : L2.St} {H : Hp} {R : List (V × V) → Hp → Prop} (z : tk σ H fun x H1 => tv σ H1 fun y H2 => tPairs r σ H2 fun ps H3 => R ((x, y) :: ps) H3) : tPairs ((tk, tv) :: r) σ H R := z
theorem s_tPn {σ : L2.St} {H : Hp} {R : List (V × V) → Hp → Prop} (z : R [] H) : tPairs [] σ H R := z
/-- a word put together -/
theorem word_parts {op a b c low : Int} (h1 : 0 ≤ op ∧ op < 16) (h2 : 0 ≤ a ∧ a < 8) (h3 : 0 ≤ b ∧ b < 8) (h4 : 0 ≤ c ∧ c < 8) (h5 : 0 ≤ low ∧ low < 524288) :
    let w := op * 268435456 + a * 33554432 + b * 4194304 + c * 524288 + low
    (0 ≤ w ∧ w < 4294967296) ∧ opI w = op ∧ fA w = a ∧ fB w = b ∧ fC w = c ∧ fN w = low % 65536 ∧ nearI w = nearI low ∧ splitI w = splitI low := by
  intro w
  have hw : w = op * 268435456 + a * 33554432 + b * 4194304 + c * 524288 + low := rfl
  clear_value w
  unfold opI fA fB fC fN nearI splitI
  refine ⟨by omega, by omega, by omega, by omega, by omega, by omega, by omega, ?_⟩
  have e1 : w % 128 = low % 128 := by omega
  have e2 : w / 16384 % 32 = low / 16384 % 32 := by omega
  rw [e1, e2]
theorem near_low {low : Int} (h : 0 ≤ low ∧ low < 524288) : nearI low = if low > 262143 then low - 524288 else low := by
  unfold nearI; split <;> omega
theorem split_low (low : Int) : splitI low = if low % 128 + low / 16384 % 32 * 128 > 2047 then low % 128 + low / 16384 % 32 * 128 - 4096 else low % 128 + low / 16384 % 32 * 128 := by
  unfold splitI; split <;> omega
def onw (op one other beside low : Int) : Int :=
  if op = 15 then one else if op = 14 then (beside + nearI low) % 4294967296 else if (op = 12 ∧ one = other) ∨ (op = 13 ∧ one < other) then (beside + splitI low) % 4294967296 else beside
theorem reg_set {l : List Int} {i j v : Int} (h : i < l.length) (h0 : 0 ≤ i) (j0 : 0 ≤ j) : reg (l.set i.toNat v) j = if j = i then v else reg l j := by
  unfold reg
  rw [List.getD_eq_getElem?_getD, List.getElem?_set, List.getD_eq_getElem?_getD]
  by_cases e : j = i
  · rw [if_pos (by rw [e]), if_pos (by omega), if_pos e]; rfl
  · rw [if_neg (by omega), if_neg e]
/-- an object that is none of a machine's cells is written -/
theorem MachAt.off {C : Addr} {H : Hp} {p dx m r o q : Addr} {s : MSt} {v : HO} (M : MachAt C H p dx m r o s) (h1 : q ≠ p) (h2 : q ≠ m) (h3 : q ≠ r) (h4 : q ≠ o) : MachAt C (upd H q v) p dx m r o s := by
  obtain ⟨kvs, k1, k2, k3⟩ := M.dc
  exact ⟨by rw [upd_ne h1.symm]; exact M.ob, ⟨kvs, by rw [upd_ne h2.symm]; exact k1, k2, k3⟩, by rw [upd_ne h3.symm]; exact M.rg, by rw [upd_ne h4.symm]; exact M.ou, M.ne⟩
end Jl

namespace Jl
open PySem PyProof.Rows L2
theorem and_bit (i : Nat) : ∀ x y : Int, Builtin.bitAnd x y / 2 ^ i % 2 = if x / 2 ^ i % 2 = 1 ∧ y / 2 ^ i % 2 = 1 then 1 else 0 := by
  induction i with
  | zero =>
    intro x y
    rw [and_rec]
    simp only [Int.pow_zero, Int.ediv_one]
    split <;> omega
  | succ i ih =>
    intro x y
    rw [ediv_two_pow, ediv_two_pow, ediv_two_pow]
    have e : Builtin.bitAnd x y / 2 = Builtin.bitAnd (x / 2) (y / 2) := by
      rw [and_rec]; split <;> omega
    rw [e]
    exact ih (x / 2) (y / 2)
theorem xor_bit (i : Nat) : ∀ x y : Int, Builtin.bitXor x y / 2 ^ i % 2 = (x / 2 ^ i % 2 + y / 2 ^ i % 2) % 2 := by
  induction i with
  | zero =>
    intro x y
    rw [xor_rec]
    simp only [Int.pow_zero, Int.ediv_one]
    omega
  | succ i ih =>
    intro x y
    rw [ediv_two_pow, ediv_two_pow, ediv_two_pow]
    have e : Builtin.bitXor x y / 2 = Builtin.bitXor (x / 2) (y / 2) := by
      rw [xor_rec]; omega
    rw [e]
    exact ih (x / 2) (y / 2)
theorem mod_more (x : Int) (i : Nat) : x % 2 ^ (i + 1) = x % 2 ^ i + x / 2 ^ i % 2 * 2 ^ i := by
  have hp := two_pow_pos i
  have h1 := Int.mul_ediv_add_emod x (2 ^ i)
  have h2 := Int.mul_ediv_add_emod (x / 2 ^ i) 2
  have r1 := Int.emod_nonneg x (show (2 : Int) ^ i ≠ 0 by omega)
  have r2 := Int.emod_lt_of_pos x hp
  have r3 : x / 2 ^ i % 2 = 0 ∨ x / 2 ^ i % 2 = 1 := by omega
  have e : x = (x % 2 ^ i + x / 2 ^ i % 2 * 2 ^ i) + 2 ^ (i + 1) * (x / 2 ^ i / 2) := by
    have : (2 : Int) ^ (i + 1) * (x / 2 ^ i / 2) = 2 ^ i * (2 * (x / 2 ^ i / 2)) := by rw [Int.pow_succ, Int.mul_assoc]
    rw [this]
    have e3 : (2 : Int) ^ i * (x / 2 ^ i) = 2 ^ i * (2 * (x / 2 ^ i / 2)) + 2 ^ i * (x / 2 ^ i % 2) := by rw [← Int.mul_add, h2]
    have e4 : (2 : Int) ^ i * (x / 2 ^ i % 2) = x / 2 ^ i % 2 * 2 ^ i := Int.mul_comm ..
    omega
  have hr : 0 ≤ x % 2 ^ i + x / 2 ^ i % 2 * 2 ^ i ∧ x % 2 ^ i + x / 2 ^ i % 2 * 2 ^ i < 2 ^ (i + 1) := by
    rw [pow_succ2]
    rcases r3 with r3 | r3 <;> rw [r3] <;> omega
  conv => lhs; rw [e]
  rw [Int.add_mul_emod_self_left, Int.emod_eq_of_lt hr.1 hr.2]
theorem and_word {x y : Int} (_hx : 0 ≤ x) (hy : 0 ≤ y) (h : y < 2 ^ 32) : Builtin.bitAnd x y % 2 ^ 32 = Builtin.bitAnd x y := by
  have := bitAnd_range x hy
  exact Int.emod_eq_of_lt this.1 (by omega)
theorem xor_word {x y : Int} (hx : 0 ≤ x) (hy : 0 ≤ y) (h1 : x < 2 ^ 32) (h : y < 2 ^ 32) : Builtin.bitXor x y % 2 ^ 32 = Builtin.bitXor x y := by
  have h0 : 0 ≤ Builtin.bitXor x y := _root_.Bits.bitXor_nonneg hx hy
  refine Int.emod_eq_of_lt h0 ?_
  rw [_root_.Bits.bitXor_pp hx hy]
  have := Nat.xor_lt_two_pow (n := 32) (x := x.toNat) (y := y.toNat) (by omega) (by omega)
  omega
def rotI (w : Int) (m : Nat) : Int := w / 2 ^ m + w % 2 ^ m * 2 ^ (32 - m)
theorem rot_is {w : Int} (h0 : 0 ≤ w) (h1 : w < 2 ^ 32) {m : Nat} (hm : m ≤ 32) : (w / 2 ^ m + w * 2 ^ (32 - m)) % 2 ^ 32 = rotI w m ∧ 0 ≤ rotI w m ∧ rotI w m < 2 ^ 32 := by
  have hp := two_pow_pos m
  have hq := two_pow_pos (32 - m)
  have e32 : (2 : Int) ^ m * 2 ^ (32 - m) = 2 ^ 32 := by rw [← pow_add2, show m + (32 - m) = 32 by omega]
  have hA : 0 ≤ w / 2 ^ m ∧ w / 2 ^ m < 2 ^ (32 - m) := div_lt_pow h0 (by rw [show m + (32 - m) = 32 by omega]; exact h1)
  have r1 := Int.emod_nonneg w (show (2 : Int) ^ m ≠ 0 by omega)
  have r2 := Int.emod_lt_of_pos w hp
  have e1 := Int.mul_ediv_add_emod w (2 ^ m)
  have hb : 0 ≤ w % 2 ^ m * 2 ^ (32 - m) ∧ w % 2 ^ m * 2 ^ (32 - m) ≤ 2 ^ 32 - 2 ^ (32 - m) := by
    refine ⟨Int.mul_nonneg r1 (Int.le_of_lt hq), ?_⟩
    have : w % 2 ^ m * 2 ^ (32 - m) ≤ (2 ^ m - 1) * 2 ^ (32 - m) := Int.mul_le_mul_of_nonneg_right (by omega) (Int.le_of_lt hq)
    rw [Int.sub_mul, e32, Int.one_mul] at this
    exact this
  have e2 : w * 2 ^ (32 - m) = 2 ^ 32 * (w / 2 ^ m) + w % 2 ^ m * 2 ^ (32 - m) := by
    conv => lhs; rw [← e1]
    rw [Int.add_mul, Int.mul_right_comm, e32]
  have hr : 0 ≤ rotI w m ∧ rotI w m < 2 ^ 32 := by unfold rotI; omega
  refine ⟨?_, hr⟩
  have e3 : w / 2 ^ m + w * 2 ^ (32 - m) = rotI w m + 2 ^ 32 * (w / 2 ^ m) := by unfold rotI; omega
  rw [e3, Int.add_mul_emod_self_left, Int.emod_eq_of_lt hr.1 hr.2]
theorem rot_more {w : Int} {m : Nat} (hm : m < 32) : rotI w m / 2 + rotI w m % 2 * 2147483648 = rotI w (m + 1) := by
  unfold rotI
  obtain ⟨k, hk⟩ : ∃ k, 32 - m = k + 1 := ⟨31 - m, by omega⟩
  have hk2 : 32 - (m + 1) = k := by omega
  have e31 : (2 : Int) ^ m * 2 ^ k = 2147483648 := by rw [← pow_add2, show m + k = 31 by omega]; rfl
  rw [hk, hk2, ← half_more, mod_more w m, pow_succ2 k, Int.mul_left_comm]
  rw [Int.add_mul, Int.mul_assoc _ (2 ^ m), e31]
  generalize hB : w % 2 ^ m * 2 ^ k = B
  have h2 : w / 2 ^ m % 2 = 0 ∨ w / 2 ^ m % 2 = 1 := by omega
  omega
theorem turn_is {w : Int} (h0 : 0 ≤ w) (h1 : w < 4294967296) (b : Int) : turnI w b = rotI w (b % 32).toNat := by
  have := (rot_is h0 h1 (m := (b % 32).toNat) (by omega)).1
  exact this
theorem rot_zero (w : Int) : rotI w 0 = w := by
  unfold rotI
  rw [Int.pow_zero]; omega
theorem and_more (x y : Int) (i : Nat) : Builtin.bitAnd x y % 2 ^ (i + 1) = if x / 2 ^ i % 2 + y / 2 ^ i % 2 = 2 then Builtin.bitAnd x y % 2 ^ i + 2 ^ i else Builtin.bitAnd x y % 2 ^ i := by
  rw [mod_more, and_bit]
  have a := Int.emod_two_eq (x / 2 ^ i)
  have b := Int.emod_two_eq (y / 2 ^ i)
  by_cases h : x / 2 ^ i % 2 = 1 ∧ y / 2 ^ i % 2 = 1
  · rw [if_pos h, if_pos (by omega), Int.one_mul]
  · rw [if_neg h, if_neg (by omega), Int.zero_mul, Int.add_zero]
theorem xor_more (x y : Int) (i : Nat) : Builtin.bitXor x y % 2 ^ (i + 1) = if x / 2 ^ i % 2 + y / 2 ^ i % 2 = 1 then Builtin.bitXor x y % 2 ^ i + 2 ^ i else Builtin.bitXor x y % 2 ^ i := by
  rw [mod_more, xor_bit]
  have a := Int.emod_two_eq (x / 2 ^ i)
  have b := Int.emod_two_eq (y / 2 ^ i)
  by_cases h : x / 2 ^ i % 2 + y / 2 ^ i % 2 = 1
  · rw [if_pos h, h]; omega
  · rw [if_neg h]
    have e : (x / 2 ^ i % 2 + y / 2 ^ i % 2) % 2 = 0 := by omega
    rw [e]; omega
theorem cut_all {xs : List V} {n : Int} (h0 : 0 ≤ n) (h : (xs.length : Int) ≤ n) : cutV xs none (some n) = xs := by
  unfold cutV
  have e1 : HT.sIx xs.length 0 none = 0 := rfl
  have e2 : HT.sIx xs.length xs.length (some n) = xs.length := by
    show (if n < 0 then _ else min n.toNat xs.length) = _
    rw [if_neg (by omega)]; omega
  rw [e1, e2, List.drop_zero, Nat.sub_zero, List.take_length]
section
variable {K : PySem.W.Frag} {H : Hp} {nx bk ct : L2.St → Hp → Prop} {rt : VK} {tu : TS}
/-- cells = script[:63] + ms; a loop over its places -/
theorem law1S {a : Addr} {ns ms : List Int} (hS : SqL K H a (ns.map V.int)) (hn : ns.length ≤ 63) (hm : ms.length ≤ 100) {tf tl : TE} {te : TE}
    (hf : ∀ (R : VK), (∀ p, H p = none → R (.ref p) (upd H p (.lst (ns.map V.int)))) → tf [some (.ref a), none, none] H R)
    (hl : ∀ (H1 : Hp) (R : VK), (∀ p, H1 p = none → R (.ref p) (upd H1 p (.lst (ms.map V.int)))) → tl [some (.ref a), none, none] H1 R)
    (he : ∀ (p : Addr) (H1 : Hp) (R : List V → Hp → Prop), SqL K H1 p ((ns ++ ms).map V.int) → R [.int ((ns ++ ms).length : Int)] H1 → tCons te tNil [some (.ref a), some (.ref p), none] H1 R)
    (hb : ∀ (p : Addr) (c : Int) (N : L2.St → Hp → Prop) H1, Same H H1 → SqL K H1 p ((ns ++ ms).map V.int) → 0 ≤ c → c < ((ns ++ ms).length : Int) → (∀ v H2, Same H1 H2 → N [some (.ref a), some (.ref p), v] H2) → tu ⟨N, rt, nx, N⟩ [some (.ref a), some (.ref p), some (.int c)] H1)
    (hd : ∀ p v H1, Same H H1 → nx [some (.ref a), some (.ref p), v] H1) :
    tSeq (tAsg (tOp (rCatS K) tf tl) (gName 1)) (tFor (iRng1 (tCons te tNil)) (gName 2) tu) ⟨nx, rt, bk, ct⟩ [some (.ref a), none, none] H := by
  refine s_seq (s_asg (s_op (hf _ fun f hf => hl _ _ fun p hp => ?_)))
  refine ⟨f, p, ns.map V.int, ms.map V.int, rfl, rfl, (same_upd hp).seq sqU, sqU, (by rw [List.length_map, List.length_map]; exact small63 hn hm), fun q hq => ?_⟩
  rw [← List.map_append]
  have s0 : Same H (upd (upd H f (.lst (ns.map V.int))) p (.lst (ms.map V.int))) := (same_upd hf).trans (same_upd hp)
  have s1 := s0.trans (same_upd (o := .lst ((ns ++ ms).map V.int)) hq)
  have hlen : (ns ++ ms).length ≤ 163 := by rw [List.length_append]; omega
  refine s_forR1 ((ns ++ ms).length : Int) (fun i σ H' => (∃ v, σ = [some (.ref a), some (.ref q), v]) ∧ Same (upd (upd (upd H f (.lst (ns.map V.int))) p (.lst (ms.map V.int))) q (.lst ((ns ++ ms).map V.int))) H') (fun R z => he q _ R sqU z) (by omega) ⟨⟨_, rfl⟩, Same.refl _⟩ (fun i σ' H' hi h => ?_) (fun σ' H' h => ?_)
  · obtain ⟨⟨v, rfl⟩, s2⟩ := h
    exact hb q i _ H' (s1.trans s2) (s2.seq sqU) (by omega) hi fun v H2 s3 => ⟨⟨v, rfl⟩, s2.trans s3⟩
  · obtain ⟨⟨v, rfl⟩, s2⟩ := h
    exact hd q v H' (s1.trans s2)
end
theorem atI_in {ns : List Int} {i : Int} (h1 : -(ns.length : Int) ≤ i) (h2 : i < ns.length) : ∃ z ∈ ns, atI (ns.map V.int) i = some (.int z) := by
  by_cases h : 0 ≤ i
  · have hi : i.toNat < ns.length := by omega
    exact ⟨ns[i.toNat], List.getElem_mem hi, atI_int (List.getElem?_eq_getElem hi) (by omega)⟩
  · have hi : (i + ns.length).toNat < ns.length := by omega
    refine ⟨ns[(i + ns.length).toNat], List.getElem_mem hi, ?_⟩
    unfold atI ixN
    rw [List.length_map, if_neg h, if_pos h1]
    show (ns.map V.int)[(i + ns.length).toNat]? = _
    rw [List.getElem?_map, List.getElem?_eq_getElem hi]; rfl
theorem small15 {n : Nat} (h : n ≤ 15) : n ≤ 100000 := by omega
end Jl

/-! Numbers written as texts. -/
namespace Jl
open PySem L2
def optI : Option Int → V
  | none => .non
  | some n => .int n
def figs (l : List Nat) : List Nat := if l.head? = some 45 then l.tail else l
def valOf (l : List Nat) : Int := if l.head? = some 45 then 0 - (NumText.digitsVal (figs l) : Int) else (NumText.digitsVal (figs l) : Int)
def isFig (c : Nat) : Bool := decide (48 ≤ c ∧ c ≤ 57)
/-- what a text writes -/
def numOf (l : List Nat) (a b : Int) : Option Int :=
  if (1 ≤ (figs l).length ∧ (figs l).length ≤ 10) ∧ ¬ ((figs l).getD 0 0 = 48 ∧ l ≠ [48]) ∧ (figs l).all isFig = true ∧ (a ≤ valOf l ∧ valOf l ≤ b) then some (valOf l) else none
theorem numOf_none {l : List Nat} {a b : Int} (h : ¬ ((1 ≤ (figs l).length ∧ (figs l).length ≤ 10) ∧ ¬ ((figs l).getD 0 0 = 48 ∧ l ≠ [48]) ∧ (figs l).all isFig = true ∧ (a ≤ valOf l ∧ valOf l ≤ b))) : numOf l a b = none := if_neg h
theorem numOf_some {l : List Nat} {a b : Int} (h1 : 1 ≤ (figs l).length ∧ (figs l).length ≤ 10) (h2 : ¬ ((figs l).getD 0 0 = 48 ∧ l ≠ [48])) (h3 : (figs l).all isFig = true) (h4 : a ≤ valOf l ∧ valOf l ≤ b) : numOf l a b = some (valOf l) := if_pos ⟨h1, h2, h3, h4⟩
theorem figures_are : ("0123456789" : Str).cps.toList = [48, 49, 50, 51, 52, 53, 54, 55, 56, 57] := by decide +kernel
theorem fig_iff (c : Nat) : c ∈ ("0123456789" : Str).cps.toList ↔ 48 ≤ c ∧ c ≤ 57 := by
  rw [figures_are]
  simp only [List.mem_cons, List.not_mem_nil, or_false]
  omega
theorem figs_digits {l : List Nat} (h : (figs l).all isFig = true) : NumText.AllDigits (figs l) := fun c hc => of_decide_eq_true (List.all_eq_true.mp h c hc)
theorem dv_snoc (l : List Nat) (c : Nat) : NumText.digitsVal (l ++ [c]) = NumText.digitsVal l * 10 + (c - 48) := by
  unfold NumText.digitsVal
  rw [List.foldl_append]; rfl
theorem take_more {α : Type} {l : List α} {i : Nat} {x : α} (h : l[i]? = some x) : l.take (i + 1) = l.take i ++ [x] := by
  rw [List.take_add_one, h]; rfl
/-- text[:1] == '-' -/
theorem cut1 (z : Str) : (cutS z none (some 1)).cps.toList = z.cps.toList.take 1 := by
  have hl := len_list z
  show (((z.cps.toList.drop (HT.sIx z.length 0 none)).take (HT.sIx z.length z.length (some 1) - HT.sIx z.length 0 none)).toArray).toList = _
  rw [HT.sIx_none, show (some (1 : Int)) = some ((1 : Nat) : Int) from rfl, HT.sIx_nat, List.drop_zero, Nat.sub_zero]
  show (z.cps.toList.take (min 1 z.length)) = _
  rw [← hl, List.take_eq_take_iff]
  omega
theorem cutT (z : Str) : (cutS z (some 1) none).cps.toList = z.cps.toList.tail := by
  have hl := len_list z
  show (((z.cps.toList.drop (HT.sIx z.length 0 (some 1))).take (HT.sIx z.length z.length none - HT.sIx z.length 0 (some 1))).toArray).toList = _
  rw [HT.sIx_none, show (some (1 : Int)) = some ((1 : Nat) : Int) from rfl, HT.sIx_nat]
  show (z.cps.toList.drop (min 1 z.length)).take (z.length - min 1 z.length) = _
  generalize z.cps.toList = l at *
  rw [← hl]
  cases l with
  | nil => rfl
  | cons x r =>
    have e : min 1 (x :: r).length = 1 := by simp only [List.length_cons]; omega
    rw [e]
    show r.take ((x :: r).length - 1) = r
    exact List.take_of_length_le (by simp)
theorem minus_iff (z : Str) : cutS z none (some 1) = "-" ↔ z.cps.toList.head? = some 45 := by
  have e := cut1 z
  have m : ("-" : Str).cps.toList = [45] := by decide +kernel
  constructor
  · intro h
    rw [h, m] at e
    generalize z.cps.toList = l at *
    cases l with
    | nil => cases e
    | cons x r => cases e; rfl
  · intro h
    apply str_ext
    rw [e, m]
    generalize z.cps.toList = l at *
    cases l with
    | nil => cases h
    | cons x r => cases h; rfl
/-- the figures of a text -/
theorem figs_text (z : Str) : (if cutS z none (some 1) = "-" then cutS z (some 1) none else z).cps.toList = figs z.cps.toList := by
  unfold figs
  by_cases h : cutS z none (some 1) = "-"
  · rw [if_pos h, if_pos ((minus_iff z).mp h), cutT]
  · rw [if_neg h, if_neg ((not_congr (minus_iff z)).mp h)]
theorem zero_iff (z : Str) : z = "0" ↔ z.cps.toList = [48] := by
  have m : ("0" : Str).cps.toList = [48] := by decide +kernel
  constructor
  · rintro rfl; exact m
  · intro h; exact str_ext (h.trans m.symm)
theorem empty_iff (z : Str) : z = "" ↔ z.length = 0 := by
  constructor
  · rintro rfl; rfl
  · intro h
    apply str_ext
    have e := List.eq_nil_of_length_eq_zero ((len_list z).trans h)
    rw [e]; rfl
theorem one_is {c d : Nat} {z : Str} (hz : z.cps.toList = [d]) : ((⟨#[c]⟩ : Str) = z) ↔ c = d := by
  constructor
  · intro h
    rw [← h] at hz
    simpa using hz
  · rintro rfl
    exact str_ext hz.symm
def rSindex : V → List V → Hp → VK → Prop := fun x xs H Q => ∃ a b i rest, x = .str a ∧ xs = [.str b] ∧ Builtin.Str.occurrences a b 0 a.length 1 = i :: rest ∧ Q (.int (i : Nat)) H
/-- a text as often as told, some two times or more: a text of some length -/
def rMulS : R2 := fun x y H Q => ∃ z k, x = .str z ∧ y = .int k ∧ 2 ≤ k ∧ k ≤ 1000 ∧ z.length ≤ 10 ∧ ∀ w : Str, w.length ≤ 20000 → Q (.str w) H
section
variable {X : Cx}
theorem mt_sindex1 : MtR X "str.index" rSindex := mt_sindex
theorem fold_len (x : Array Nat) : ∀ (n : Nat) (a : Array Nat), ((List.replicate n x).foldl (· ++ ·) a).size = a.size + n * x.size
  | 0, a => by simp
  | n + 1, a => by
    rw [List.replicate_succ, List.foldl_cons, fold_len x n, Array.size_append, Nat.succ_mul]
    omega
theorem op_mulS : OpR X (binaryOp .Mult) rMulS := by
  intro pins s σ H x y v u Q I rx ry h
  obtain ⟨z, k, rfl, rfl, h1, h2, hz, q⟩ := h
  obtain ⟨t, rfl⟩ := rx
  obtain ⟨t', rfl⟩ := ry
  have hm : z.length * k.toNat ≤ 10000 := Nat.le_trans (Nat.mul_le_mul hz (show k.toNat ≤ 1000 by omega)) (by decide)
  have hline : (sizeLine : Nat) = 16777216 := sizeLine_eq
  have hfit : z.length * k.toNat ≤ sizeLine := by omega
  refine PySem.P.mul_str ?_ (fun _ _ => ?_) (fun _ _ => ?_) ?_
  · rw [decide_eq_false (by omega), decide_eq_false (by omega)]; rfl
  · have h4 : 100 ≤ ((2 : Int) ^ 63 - 1) / k := Int.le_ediv_of_mul_le (by omega) (by omega)
    omega
  · unfold Builtin.Str.tooLong
    exact decide_eq_false (by omega)
  · rw [if_neg (by omega)]
    split
    · exact ⟨.str z, H, I, ⟨_, rfl⟩, q z (by omega)⟩
    · have hw : (⟨(List.replicate k.toNat z.cps).foldl (· ++ ·) #[]⟩ : Str).length ≤ 10000 := by
        show ((List.replicate k.toNat z.cps).foldl (· ++ ·) #[]).size ≤ 10000
        rw [fold_len]
        have e0 : (#[] : Array Nat).size = 0 := rfl
        have e : z.cps.size = z.length := rfl
        rw [e0, e, Nat.mul_comm]
        omega
      exact ⟨by omega, ⟨.str _, H, I.tok _, ⟨_, rfl⟩, q _ (by omega)⟩⟩
end
section
variable {K : PySem.W.Frag} {σ : L2.St} {H H' : Hp} {Q : VK} {z w : Str} {c : Nat}
theorem s_index {i : Nat} {rest : List Nat} (h : Builtin.Str.occurrences z w 0 z.length 1 = i :: rest) (k : Q (.int (i : Nat)) H) : rSindex (.str z) [.str w] H Q := ⟨z, w, i, rest, rfl, rfl, h, k⟩
theorem fig_index (h : 48 ≤ c ∧ c ≤ 57) : Builtin.Str.occurrences ("0123456789" : Str) ⟨#[c]⟩ 0 ("0123456789" : Str).length 1 = [c - 48] := by
  have : c = 48 ∨ c = 49 ∨ c = 50 ∨ c = 51 ∨ c = 52 ∨ c = 53 ∨ c = 54 ∨ c = 55 ∨ c = 56 ∨ c = 57 := by omega
  rcases this with rfl | rfl | rfl | rfl | rfl | rfl | rfl | rfl | rfl | rfl <;> decide +kernel
theorem s_figIndex (h : 48 ≤ c ∧ c ≤ 57) (k : Q (.int ((c - 48 : Nat) : Int)) H) : rSindex (.str ("0123456789" : Str)) [.str ⟨#[c]⟩] H Q := s_index (fig_index h) k
theorem s_tyS {B : Prop} (k : B) : tyV K "str" (.str z) H ∧ B := ⟨rfl, k⟩
end
theorem cut_last (z : Str) : (cutS z (some (-1)) none).length ≤ 1 := by
  have hl := len_list z
  rw [← len_list]
  show (((z.cps.toList.drop (HT.sIx z.length 0 (some (-1)))).take (HT.sIx z.length z.length none - HT.sIx z.length 0 (some (-1)))).toArray).toList.length ≤ 1
  have e : HT.sIx z.length 0 (some (-1)) = ((-1 : Int) + z.length).toNat := rfl
  rw [e, HT.sIx_none]
  show ((z.cps.toList.drop ((-1 : Int) + z.length).toNat).take (z.length - ((-1 : Int) + z.length).toNat)).length ≤ 1
  rw [List.length_take, List.length_drop, hl]
  omega
theorem log_ok {n : Int} (h1 : -(10 ^ 11) ≤ n) (h2 : n ≤ 10 ^ 11) : n.natAbs.log2 < 1920 := by
  by_cases z : n.natAbs = 0
  · rw [z]; decide
  · exact Nat.lt_of_lt_of_le ((Nat.log2_lt (k := 40) z).mpr (by omega)) (by decide)
end Jl

/-! Exceptions that were caught and are held as values behind their clause. -/
namespace Jl
open PySem L2 PySem.Spec PyProof.Rows
/-- an exception, of class cls and with the dict d, held as a value -/
def XO (cls : Value) (d : Option Addr) (a : Addr) : HO := .ext fun h => ∃ u fl, h.get? a = some u ∧ Zc cls d u ∧ u.data = .fields fl
theorem xo_ok {P : Program} {w : World} {H : Hp} {h : Heap} {a : Addr} {cls : Value} {d : Option Addr} {u : Obj} {fl : Array Value} (e : h.get? a = some u) (z : Zc cls d u) (f : u.data = .fields fl) : ObjOk P w H h a (XO cls d a) :=
  ⟨⟨u, fl, e, z, f⟩, ⟨u, e⟩, fun _ _ ⟨u, fl, e, r⟩ k => ⟨u, fl, k u e, r⟩⟩
section
variable {X : Cx} {pins : List (Addr × Obj)} {σ : L2.St} {H : Hp} {s : Shared} {a : Addr} {o : HO}
/-- an object that stands, of which nothing was told, is told of -/
theorem track (I : Inv X pins σ H s) (n0 : X.s_0.heap.get? a = none) (hn : H a = none) (nL : a ≠ X.env.locals) (nC : ∀ y z, X.env.cells.lookup y = some z → z ≠ a) (nP : ∀ p ∈ X.pn ++ pins, p.1 ≠ a)
    (new : ObjOk X.prog X.w (upd H a o) s.heap a o) : Inv X pins σ (upd H a o) s := by
  have old : ∀ z u, X.s_0.heap.get? z = some u → z ≠ a := fun z u e q => by rw [q, n0] at e; cases e
  have far : ∀ z {u}, H z = some u → upd H a o z = some u := fun z {u} e => by rw [upd_ne (ne_of_none e hn)]; exact e
  refine { ok := I.ok, os := I.os, bare := I.bare, base := ?_, loc := I.loc, cell := I.cell, free := ?_, freeC := ?_, pin := ?_, hok := I.hok.laidN (fun _ _ z => z) hn new, len := I.len }
  · refine { keep := I.base.keep, slot := I.base.slot, there := I.base.there, free := ?_, tups := ?_, frzs := ?_, tbls := ?_ }
    · intro z u e n q
      rw [upd_ne (old z u e)]
      exact I.base.free z u e n q
    · intro z xs e
      exact far z (I.base.tups z xs e)
    · intro z u xs e
      exact far z (I.base.frzs z u xs e)
    · intro z ps e
      obtain ⟨m, q⟩ := I.base.tbls z ps e
      exact ⟨m, far z q⟩
  · rw [upd_ne nL.symm]; exact I.free
  · intro y z e
    rw [upd_ne (nC y z e)]
    exact I.freeC y z e
  · intro p hp
    obtain ⟨e, n, r⟩ := I.pin p hp
    exact ⟨e, by rw [upd_ne (nP p hp)]; exact n, r⟩
end
/-- the ends behind the clause: its name is gone, the exception is told of -/
def outE (i : Nat) (a : Addr) (cls : Value) (d : Option Addr) (D : Ends) : Ends where
  nx := fun σ H => D.nx (σ.set i none) (upd H a (XO cls d a))
  rt := fun v H => D.rt v (upd H a (XO cls d a))
  bk := fun σ H => D.bk (σ.set i none) (upd H a (XO cls d a))
  ct := fun σ H => D.ct (σ.set i none) (upd H a (XO cls d a))
/-- what the clause 'except x as n' wishes of an exception (n at slot i) that is to be held behind it -/
def wOut (K : PySem.W.Frag) (c : Value) (i : Nat) (ts : Addr → Value → Option Addr → TS) (Wo : WX) (D : Ends) : WX := fun cls d σ H =>
  ∃ yn, PySem.W.exmOne K cls c = some yn ∧ (yn = true → ∀ a, H a = none → ts a cls d (outE i a cls d D) (σ.set i (some (.ref a))) H) ∧ (yn = false → Wo cls d σ H)
/-- the clauses are looked at -/
def looked (X : Cx) (hds : List ExceptHandler) (S : Flow → Shared → Prop) (e : Value) (t : Shared) : Prop :=
  wpAny (model X.prog X.w) X.A (noteFrame e X.env) (fun _ t2 => wpAny (model X.prog X.w) X.A (setFlight e none) (fun _ t3 => wpAny (model X.prog X.w) X.A (handleBy e X.env hds) S X.xe t3) X.xe t2) X.xe t
section
variable {X : Cx} {x n : Str} {c : Value} {i : Nat} {body suite : List Stmt} {st0 : Stmt} {q1 q2 q3 : Pos} {tb : WX → TS} {ts : Addr → Value → Option Addr → TS} {Wo : WX}
theorem ps_caught (stk : X.stack = X.env :: X.outer) (frm : X.env.frame = some X.env.locals) (hex : X.ex = []) (nod : X.N.Nodup) (ix : X.N[i]? = some n) (loc : X.env.kindOf n = some .local) (nm : Names X x c) (tk : Takes X Wo)
    (hb : ∀ (W : WX) (pl : List (Addr × Obj)) (xe : Value → Shared → Prop), Takes (X.tr pl xe) W → PassesOwn (model X.prog X.w) X.A X.env xe → PSs (X.tr pl xe) body (tb W))
    (hu : ∀ (a : Addr) (u : Obj) (cls : Value) (d : Option Addr) (pl : List (Addr × Obj)), Zc cls d u → (∃ fl, u.data = .fields fl) → PSs (X.suite a ((a, u) :: pl)) (st0 :: suite) (ts a cls d)) :
    PS X (.Try body [.ExceptHandler (some (.Name x q1)) (some n) (st0 :: suite) q2] [] [] q3) (fun D σ H => tb (wOut X.K c i ts Wo D) D σ H) := by
  constructor
  intro pins s σ H D I h
  have frames : X.A.frames = some (X.env :: X.outer) := I.ok.frames.trans (congrArg some stk)
  have here : Loc X.env.scope n := Or.inl loc
  have catch_ : Takes (X.tr (X.pn ++ pins) (looked X [.ExceptHandler (some (.Name x q1)) (some n) (st0 :: suite) q2] (SP X pins D))) (wOut X.K c i ts Wo D) := by
    rintro w t ⟨a, B, tI, pl, σ1, H1, cls, d, rfl, J0, nb, up, sky, na, os, ag, yn, exm, yes, no⟩
    have J : Inv X pins σ1 H1 tI := J0.ofTry I.ok
    replace sky : Sky B (X.env :: X.outer) a (Zc cls d) X.env.locals t.heap := stk ▸ sky
    show wpAny (model X.prog X.w) X.A (noteFrame (.ref a) X.env) _ _ _
    refine Sky.land Zc.steady frames frm sky fun h3 F3 up3 => ?_
    have G3 : Inv X pins σ1 H1 { t with heap := h3 } := J.landed nb F3.1 (up.trans up3) os ag
    obtain ⟨u3, fl3, get3, z3, dat3⟩ := F3.there
    have away : a ∉ frs (X.env :: X.outer) := fun hm => by
      obtain ⟨_, u, e, nf⟩ := F3.2.2.1.mem hm
      cases get3.symm.trans e
      exact nf _ dat3
    have noL : a ≠ X.env.locals := fun z => away (List.mem_filterMap.mpr ⟨X.env, List.mem_cons_self, by rw [z]; exact frm⟩)
    have noF : a ∉ X.fs := fun hm => by
      obtain ⟨e, he, q⟩ := List.mem_filterMap.mp hm
      exact away (List.mem_filterMap.mpr ⟨e, List.mem_cons_of_mem _ he, q⟩)
    -- the exception is new to the state without it
    have lone : tI.heap.get? a = none := by
      cases e : tI.heap.get? a with
      | none => rfl
      | some u =>
        have q := nb a u e (by rw [stk]; exact away)
        rw [F3.2.1] at q; cases q
    have n0 : X.s_0.heap.get? a = none := by
      cases e : X.s_0.heap.get? a with
      | none => rfl
      | some u =>
        obtain ⟨u', q⟩ := J.base.there a u e (by rw [hex]; exact fun z => nomatch z)
        rw [lone] at q; cases q
    have apart : ∀ p ∈ X.pn ++ pins, p.1 ≠ a := fun p hp z => by
      have q := (J.pin p hp).1
      rw [z, lone] at q; cases q
    have T3 := G3.suite get3 dat3 na noL noF
    refine wpAny_handleBy_cons (codeAny_handlers_test ?_) (by intro z; cases z)
    have ty : PySem.W.Looks (model X.prog X.w) h3 (typeOf (.ref a)) cls := fun _ _ _ _ k q => wpAny_typeOf_ref (k _ _ get3) (z3.1.symm ▸ q)
    have matches_ := PySem.W.exm_one (M := model X.prog X.w) G3.kIn ty exm
    have asked : ∀ {Q E : Value → Shared → Prop}, Q c { t with heap := h3 } → wpAny (model X.prog X.w) (X.A.mark (some (.ref a))) (eval (.Name x q1) X.env) Q E { t with heap := h3 } := by
      intro Q E q
      rcases nm with ⟨gl, db, mg | ⟨mg, bl, nn⟩⟩
      · exact ld_glob T3 gl mg q db
      · exact ld_blt T3 gl mg bl q nn db
    refine asked (matches_.here ?_)
    cases yn with
    | false =>
      show wpAny _ X.A (handleBy (.ref a) X.env []) _ _ _
      refine wpAny_handleBy_nil ?_
      obtain ⟨_, _, _, _, _, T, _, _, e, _, f, f1, _⟩ := id F3
      unfold PySem.passOn
      refine wpAny_bind (wpAny_field e f f1 ?_)
      rw [if_neg (by simp)]
      have fly : wpAny (model X.prog X.w) X.A (setFlight (.ref a) X.env.frame) (fun _ t4 => wpAny (model X.prog X.w) X.A (throw (.ref a) : Sem Flow) (SP X pins D) X.xe t4) X.xe { t with heap := h3 } := by
        rw [frm]
        exact HandSPX.setFlight_upZ F3 fun h4 F4 up4 => wpAny_throw (tk _ _ ⟨a, B, tI, pins, σ1, H1, cls, d, rfl, J, nb, (up.trans up3).trans up4, .inr (.inr (stk ▸ F4)), na, os, ag, no rfl⟩)
      first
        | exact wpAny_bind (wpAny_pure (wpAny_bind fly))
        | exact wpAny_bind fly
    | true =>
      refine codeAny_handlers_suite_as (HandSPX.lands_againZ F3 fun h4 F4 up4 => ?_)
      have G4 : Inv X pins σ1 H1 { t with heap := h4 } := J.landed nb F4.1 ((up.trans up3).trans up4) os ag
      obtain ⟨u4, fl4, get4, z4, dat4⟩ := F4.there
      have T4 := G4.suite get4 dat4 na noL noF
      refine store_ok (X := X.suite a ((a, u4) :: (X.pn ++ pins))) (v := .ref a) T4 nod ix here rfl (fun t5 T5 => ?_) (Or.inr loc)
      refine wpAny_mono ((hu a u4 cls d (X.pn ++ pins) z4 ⟨_, dat4⟩).run [] t5 _ H1 _ T5 (yes rfl a na)) (fun f t6 r => ?_) (fun _ _ z => z.elim)
      have leave : ∀ {σ6 : L2.St} {H6 : Hp} {Q : Shared → Prop}, Inv (X.suite a ((a, u4) :: (X.pn ++ pins))) [] σ6 H6 t6 → (∀ t7, Inv X pins (σ6.set i none) (upd H6 a (XO cls d a)) t7 → Q t7) →
          wpAny (model X.prog X.w) X.A (do bindName X.env n .none; unbindBehindTheSuite X.env n q2) (fun _ t7 => Q t7) X.xe t6 := by
        intro σ6 H6 Q T6 hq
        obtain ⟨e6, n6, _⟩ := T6.pin (a, u4) (List.mem_append_left _ List.mem_cons_self)
        have cells : ∀ y z, X.env.cells.lookup y = some z → z ≠ a := fun y z e q => by
          obtain ⟨v, ob, e7, dc⟩ := T6.cell y z e
          rw [q] at e7
          cases e6.symm.trans e7
          rw [dat4] at dc; cases dc
        exact gone_ok (track (T6.unsuite I.ok) n0 n6 noL cells apart (xo_ok e6 z4 dat4)) nod ix loc hq
      cases f with
      | next => exact let ⟨σ6, H6, T6, q⟩ := r; leave T6 fun t7 J7 => ⟨_, _, J7, q⟩
      | brk => exact let ⟨σ6, H6, T6, q⟩ := r; leave T6 fun t7 J7 => ⟨_, _, J7, q⟩
      | cont => exact let ⟨σ6, H6, T6, q⟩ := r; leave T6 fun t7 J7 => ⟨_, _, J7, q⟩
      | ret v => exact let ⟨v6, σ6, H6, T6, rv, q⟩ := r; leave T6 fun t7 J7 => ⟨_, _, _, J7, rv, q⟩
  refine wpAny_Try_except (wpAny_mono ((hb (wOut X.K c i ts Wo D) (X.pn ++ pins) _ catch_ PassesOwn.looking).run [] s σ H D (I.toTry _) h) (fun f t r => ?_) fun _ _ z => z)
  cases f with
  | next => exact let ⟨σ6, H6, T6, q⟩ := r; wpAny_execs_nil ⟨σ6, H6, T6.ofTry I.ok, q⟩
  | brk => exact let ⟨σ6, H6, T6, q⟩ := r; ⟨σ6, H6, T6.ofTry I.ok, q⟩
  | cont => exact let ⟨σ6, H6, T6, q⟩ := r; ⟨σ6, H6, T6.ofTry I.ok, q⟩
  | ret v => exact let ⟨v6, σ6, H6, T6, rv, q⟩ := r; ⟨v6, σ6, H6, T6.ofTry I.ok, rv, q⟩
end
/-! isinstance and fields of such -/
/-- the exception's dict, if it has one, is told of -/
def XD (H : Hp) (d : Option Addr) : Prop := ∀ b, d = some b → ∃ fs, H b = some (.xd fs)
theorem xd_none {H : Hp} : XD H none := fun _ z => nomatch z
theorem xd_some {H : Hp} {b : Addr} {fs : List (Str × V)} (h : H b = some (.xd fs)) : XD H (some b) := fun c z => by cases z; exact ⟨fs, h⟩
theorem xo_inst {X : Cx} {pins : List (Addr × Obj)} {σ : L2.St} {H : Hp} {s : Shared} {a D : Addr} {d : Option Addr} (I : Inv X pins σ H s) (h : H a = some (XO (.ref D) d a)) (hd : XD H d) : ∃ u od, PySem.W.InstAt s.heap a u D od := by
  obtain ⟨⟨u, fl, e, z, f⟩, _, _⟩ := I.hok a _ h
  have nc : PySem.W.notCls u = true := by unfold PySem.W.notCls; rw [f]
  cases d with
  | none => exact ⟨u, none, e, z.1, nc, by rw [z.2]; trivial⟩
  | some b =>
    obtain ⟨fs, hb⟩ := hd b rfl
    obtain ⟨m, ns, _⟩ := I.hok b _ hb
    obtain ⟨o, ho, _⟩ := lookIn_ns ns
    exact ⟨u, some o, e, z.1, nc, by rw [z.2]; exact ho⟩
/-- isinstance(x, c), x such an exception -/
def rIsX (K : PySem.W.Frag) : List V → Hp → VK → Prop := fun xs H Q => ∃ (a D : Addr) (d : Option Addr) (c : V) (cv : Value) (yn : Bool), xs = [.ref a, c] ∧ H a = some (XO (.ref D) d a) ∧ XD H d ∧ ExcC K D ∧ ClsV c cv ∧ PySem.W.kitOne K (.ref D) cv = some yn ∧ Q (.bl yn) H
/-- isinstance(x, (c1, c2, ..)), x such an exception -/
def rIsXT (K : PySem.W.Frag) : List V → Hp → VK → Prop := fun xs H Q => ∃ (a D : Addr) (d : Option Addr) (tp : Addr) (cs : List V) (cvs : List Value) (yn : Bool), xs = [.ref a, .ref tp] ∧ H a = some (XO (.ref D) d a) ∧ XD H d ∧ ExcC K D ∧
  H tp = some (.tup cs) ∧ Paired ClsV cs cvs ∧ PySem.W.kitAny K (.ref D) cvs = some yn ∧ Q (.bl yn) H
theorem kit_x {K : PySem.W.Frag} {a D : Addr} {u : Obj} {od : Option Obj} (C : ExcC K D) : PySem.W.KitX K (.ref a) (.ref D) (fun h => PySem.W.InstAt h a u D od) := by
  refine PySem.W.kitx_exc ?_ C.hg C.hk C.hs C.ha C.hn C.ht C.hm
  obtain ⟨cd, e, _⟩ := PySem.W.any_some C.hd
  rw [e]; rfl
section
variable {X : Cx}
theorem cl_isX : CallR X (.builtin "isinstance") (rIsX X.K) := by
  intro pins s σ H xs us Q I r h
  obtain ⟨a, D, d, c, cv, yn, rfl, ha, hd, C, k, e, q⟩ := h
  obtain ⟨w1, w2, rfl, r1, r2⟩ := vals2 r
  cases k.eq r2
  cases (show w1 = Value.ref a from r1)
  obtain ⟨u, od, J⟩ := xo_inst I ha hd
  exact PySem.W.kia_one (kit_x C) I.kIn J e (fun z => nomatch z) fun tk => ⟨.bl yn, H, I.tok tk, rfl, q⟩
theorem cl_isXT : CallR X (.builtin "isinstance") (rIsXT X.K) := by
  intro pins s σ H xs us Q I r h
  obtain ⟨a, D, d, tp, cs, cvs, yn, rfl, ha, hd, C, ht, k, e, q⟩ := h
  obtain ⟨w1, w2, rfl, r1, r2⟩ := vals2 r
  cases (show w1 = Value.ref a from r1)
  cases (show w2 = Value.ref tp from r2)
  obtain ⟨u, od, J⟩ := xo_inst I ha hd
  obtain ⟨_, its, rv, ob, get, c1, n, c2⟩ := I.hok tp _ ht
  cases ClsV.all k rv
  obtain ⟨oc, odd, dt, sl⟩ := ob
  dsimp only at c1 c2
  subst c1 c2
  exact PySem.W.kia_tup (kit_x C) I.kIn J get e (fun z => nomatch z) fun tk => ⟨.bl yn, H, I.tok tk, rfl, q⟩
/-- x.f, x such an exception -/
def tXA (K : PySem.W.Frag) (f : Str) (te : TE) : TE := fun σ H Q => te σ H fun x H1 => ∃ (a D b : Addr) (fs : List (Str × V)) (v : V), x = .ref a ∧ H1 a = some (XO (.ref D) (some b) a) ∧ H1 b = some (.xd fs) ∧ fs.lookup f = some v ∧ XfC K D ∧ PySem.W.findIn K (.ref D) f = some none ∧ Q v H1
theorem pe_xa {e : Expr} {te : TE} {f : Str} {pos : Pos} (he : PE X e te) (hb : attributeBase e f X.env (eval e X.env) = eval e X.env := by rfl) : PE X (.Attribute e f pos) (tXA X.K f te) := by
  constructor
  intro pins s σ H Q I h
  refine attr_of hb (thn (he.run pins s σ H _ I h) fun u s1 z => ?_)
  obtain ⟨x, H1, I1, rx, a, D, b, fs, v, rfl, ha, hb, l, C, no, q⟩ := z
  cases (show u = Value.ref a from rx)
  obtain ⟨⟨u, fl, e, z, f⟩, _, _⟩ := I1.hok a _ ha
  obtain ⟨m, ns, rel⟩ := I1.hok b _ hb
  obtain ⟨o, ho, look⟩ := lookIn_ns ns
  have rl := rel ‹Str›
  rw [l] at rl
  obtain ⟨w, mw, rw_⟩ := RelO.some_of rl
  have J : PySem.W.InstAt s1.heap a u D (some o) := ⟨e, z.1, by unfold PySem.W.notCls; rw [f], by rw [z.2]; exact ho⟩
  exact HandSPX.exc_get I1.kIn J C.ga C.gg C.exC (PySem.W.findObj_own C.hdC no rfl (by rw [look, mw])) (handed_of rw_) ⟨v, H1, I1.tok _, rw_, q⟩
end
/-! calls of methods that may let an exception out, at the slots as they stand -/
def tMethX (C : Addr) (m : Str) (sp : Sp) (E : L2.St → XK) (ta : TE) (t : TA) : TE := fun σ H Q => ta σ H fun x H1 => ∃ a dx fs, x = .ref a ∧ H1 a = some (.ins C dx fs) ∧ fs.lookup m = none ∧ t σ H1 fun vs H2 => sp (.ref a :: vs) H2 Q (E σ)
section
variable {X : Cx} {Y : CXT} {k : Nat} {f C : Addr} {fd : FuncData} {ps : List Str} {sp : Sp} {E : L2.St → XK} {x m : Str} {p pos apos : Pos} {e o : Expr} {es : List Expr} {ta : TE} {t : TA} {pl : Sem Bool}
theorem pe_methX (he : PE X o ta) (c : Cls X.K C) (hm : Meth X.K C m f) (F : FnOk X.prog X.w X.K X.mg X.base Y k f fd ps sp) (hr : Room k X.A) (hb : Binds X.K fd ps []) (hx : ∀ σ, PassesAt Y X σ (E σ)) (ha : PA X (e :: es) t)
    (h1 : starEach (e :: es) X.env = (false, eval e X.env) :: starEach es X.env := by rfl) (h2 : (backTo pos (starEach es X.env)).any (·.1) = false := by rfl)
    (h3 : eval (.Call (.Attribute o m apos) (e :: es) [] pos) X.env = (do let v ← eval o X.env; standAt apos.atName; let (g, u) ← holding [v] (getMethod v m pl); callWith pos g u (backTo pos (starEach (e :: es) X.env)) (backToKw pos (keywordEach [] X.env))) := by rfl) :
    PE X (.Call (.Attribute o m apos) (e :: es) [] pos) (tMethX C m sp E ta t) := by
  constructor
  intro pins s σ H Q I h
  refine PySem.W.methodCall_KW (pl := pl) (thn (he.run pins s σ H _ I h) fun u t1 z => ?_) h3
  obtain ⟨y, H1, I1, ry, a, dx, fs, rfl, at_, no, z⟩ := z
  cases (show u = Value.ref a from ry)
  refine getmeth_ok I1 at_ c hm no (PySem.W.callWith_K (first := [.ref a]) (h₀ := X.base) I.ok.mod.kin hm.kp (thn (ha.run pos pins t1 σ H1 _ I1 z) fun us t2 y => ?_) h1 h2)
  obtain ⟨vs, H2, I2, r, q⟩ := y
  exact ⟨I2.kIn, run_fnS (us := .ref a :: us) (vs := .ref a :: vs) F hr hb (hx σ) I2 (.cons rfl r) q⟩
theorem pe_methX0 (he : PE X o ta) (c : Cls X.K C) (hm : Meth X.K C m f) (F : FnOk X.prog X.w X.K X.mg X.base Y k f fd ps sp) (hr : Room k X.A) (hb : Binds X.K fd ps []) (hx : ∀ σ, PassesAt Y X σ (E σ))
    (h3 : eval (.Call (.Attribute o m apos) [] [] pos) X.env = (do let v ← eval o X.env; standAt apos.atName; let (g, u) ← holding [v] (getMethod v m pl); callWith pos g u (backTo pos (starEach [] X.env)) (backToKw pos (keywordEach [] X.env))) := by rfl) :
    PE X (.Call (.Attribute o m apos) [] [] pos) (tMethX C m sp E ta tNil) := by
  constructor
  intro pins s σ H Q I h
  refine PySem.W.methodCall_KW (pl := pl) (thn (he.run pins s σ H _ I h) fun u t1 z => ?_) h3
  obtain ⟨y, H1, I1, ry, a, dx, fs, rfl, at_, no, z⟩ := z
  cases (show u = Value.ref a from ry)
  exact getmeth_ok I1 at_ c hm no (PySem.W.callWith_K0 (first := [.ref a]) I1.kIn hm.kp (run_fnS (us := [.ref a]) (vs := [.ref a]) F hr hb (hx σ) I1 (.cons rfl .nil) z))
theorem pe_callX0 (F : FnOk X.prog X.w X.K X.mg X.base Y k f fd ps sp) (hr : Room k X.A) (hg : Gl X x) (hm : X.mg x = some (.ref f)) (hk : PySem.W.keepIn X.K (.ref f) = true) (hb : Binds X.K fd ps []) (hx : ∀ σ, PassesAt Y X σ (E σ))
    (hd : (x == ("__debug__" : Str)) = false := by decide) : PE X (.Call (.Name x p) [] [] pos) (tCallS sp E tNil) := by
  constructor
  intro pins s σ H Q I h
  exact wpAny_Call_Name_kw (ld_glob I hg hm (PySem.W.callWith_K0 I.kIn hk (run_fnS (us := []) F hr hb (hx σ) I .nil h)) hd)
end
/-! steps -/
section
variable {K : PySem.W.Frag} {σ : L2.St} {H : Hp} {Q : VK} {ta te : TE} {tr t : TA} {sp : Sp} {E : L2.St → XK} {a b C D dx : Addr} {d : Option Addr} {fs : List (Str × V)} {f m : Str} {v c : V} {cv : Value} {yn : Bool} {cs : List V} {cvs : List Value} {W : WX}
theorem s_callS (z : t σ H fun vs H1 => sp vs H1 Q (E σ)) : tCallS sp E t σ H Q := z
theorem s_methX (hv : ∀ R : VK, R (.ref a) H → ta σ H R) (h : H a = some (.ins C dx fs)) (hm : fs.lookup m = none) (z : tr σ H fun vs H2 => sp (.ref a :: vs) H2 Q (E σ)) : tMethX C m sp E ta tr σ H Q := hv _ ⟨a, dx, fs, rfl, h, hm, z⟩
theorem s_isX (h : H a = some (XO (.ref D) d a)) (hd : XD H d) (C : ExcC K D) (hc : ClsV c cv) (e : PySem.W.kitOne K (.ref D) cv = some yn) (z : Q (.bl yn) H) : rIsX K [.ref a, c] H Q := ⟨a, D, d, c, cv, yn, rfl, h, hd, C, hc, e, z⟩
theorem s_isXT (h : H a = some (XO (.ref D) d a)) (hd : XD H d) (C : ExcC K D) (ht : H b = some (.tup cs)) (hc : Paired ClsV cs cvs) (e : PySem.W.kitAny K (.ref D) cvs = some yn) (z : Q (.bl yn) H) : rIsXT K [.ref a, .ref b] H Q := ⟨a, D, d, b, cs, cvs, yn, rfl, h, hd, C, ht, hc, e, z⟩
theorem s_xa (h : H a = some (XO (.ref D) (some b) a)) (hb : H b = some (.xd fs)) (l : fs.lookup f = some v) (C : XfC K D) (no : PySem.W.findIn K (.ref D) f = some none) (hv : ∀ R : VK, R (.ref a) H → te σ H R) (z : Q v H) : tXA K f te σ H Q :=
  hv _ ⟨a, D, b, fs, v, rfl, h, hb, l, C, no, z⟩
end
/-- a class of which none of some is an ancestor -/
theorem kitNone {K : PySem.W.Frag} {t : Value} : ∀ {cs : List Value}, (∀ c ∈ cs, PySem.W.kitOne K t c = some false) → PySem.W.kitAny K t cs = some false
  | [], _ => rfl
  | c :: cs, h => by
    unfold PySem.W.kitAny
    rw [h c List.mem_cons_self]
    exact kitNone fun z hz => h z (List.mem_cons_of_mem _ hz)
theorem own_all : ∀ l : List Addr, Paired ClsV (l.map V.ref) (l.map Value.ref)
  | [] => .nil
  | a :: l => .cons (.own a) (own_all l)
theorem kit_own {K : PySem.W.Frag} {D C : Addr} {yn : Bool} (hne : yn = false → D ≠ C) (hd : PySem.W.hasDictIn K C = true) (ht : PySem.W.typeIn K (.ref C) = some (.type "type")) (hs : PySem.W.subIn K (.ref D) (.ref C) = some yn) : PySem.W.kitOne K (.ref D) (.ref C) = some yn := by
  unfold PySem.W.kitOne
  by_cases e : D = C
  · rw [if_pos (by rw [e]; simp)]
    cases yn with
    | true => rfl
    | false => exact absurd e (hne rfl)
  · rw [if_neg (by simpa using e)]
    obtain ⟨cd, hc, _⟩ := PySem.W.any_some hd
    show (if _ then PySem.W.subIn K (.ref D) (.ref C) else none) = _
    rw [if_pos (by rw [hc, ht]; rfl)]
    exact hs
/-! one of several readings -/
def tEi (t u : TE) : TE := fun σ H Q => t σ H Q ∨ u σ H Q
theorem pe_ei {X : Cx} {e : Expr} {t u : TE} (h1 : PE X e t) (h2 : PE X e u) : PE X e (tEi t u) := ⟨fun pins s σ H Q I h => h.elim (h1.run pins s σ H Q I) (h2.run pins s σ H Q I)⟩
section
variable {K : PySem.W.Frag} {σ : L2.St} {H : Hp} {Q : VK} {t u te to : TE} {a p C dx : Addr} {fs : List (Str × V)} {cv : Value} {yn : Bool} {z : Str} {xs : List V} {ys : List Str}
theorem s_ei1 (h : t σ H Q) : tEi t u σ H Q := .inl h
theorem s_ei2 (h : u σ H Q) : tEi t u σ H Q := .inr h
theorem s_isiO (h : H p = some (.ins C dx fs)) (c : Cls K C) (ha : PySem.W.findIn K (.ref C) "__class__" = some (some (.builtin "object.__class__"))) (hn : PySem.W.specialIn K (.builtin "object.__class__") "__get__" = some (some (.builtin "getset_descriptor.__get__")))
    (ht : PySem.W.takesIn K (.builtin "object.__class__") = some true) (hm : PySem.W.mroIn K C (.type "object") = some true) {D : Addr} (e : PySem.W.kitOne K (.ref C) (.ref D) = some yn) (k : Q (.bl yn) H) : rIsi K [.ref p, .ref D] H Q :=
  ⟨_, _, _, _, yn, rfl, .own D, .base (.ins h c ha hn ht hm), e, k⟩
end
/-! join -/
def rJoin (K : PySem.W.Frag) : V → List V → Hp → VK → Prop := fun x xs H Q => ∃ a p, ∃ ys : List Str, x = .str a ∧ xs = [.ref p] ∧ (SqL K H p (ys.map V.str) ∨ SqT K H p (ys.map V.str)) ∧ (ys.map (·.length)).sum + ys.length * a.length ≤ 16777216 ∧ Q (.str (Txt.join a ys)) H
theorem mt_joinS {X : Cx} : MtR X "str.join" (rJoin X.K) := mt_join
theorem s_tM1 {σ : L2.St} {H : Hp} {Q : VK} {to te : TE} {r : V → List V → Hp → VK → Prop} {a : Str} (hv : ∀ R : VK, R (.str a) H → to σ H R) (z : te σ H fun y H2 => r (.str a) [y] H2 Q) : tM1 r to te σ H Q := hv _ ⟨⟨a, rfl⟩, z⟩
theorem s_join {K : PySem.W.Frag} {H : Hp} {Q : VK} {a : Str} {p : Addr} {ys : List Str} (h : SqL K H p (ys.map V.str)) (hl : (ys.map (·.length)).sum + ys.length * a.length ≤ 16777216) (z : ∀ w, w = Txt.join a ys → Q (.str w) H) : rJoin K (.str a) [.ref p] H Q := ⟨a, p, ys, rfl, rfl, .inl h, hl, z _ rfl⟩
theorem sum_le {m : Nat} : ∀ l : List Nat, (∀ x ∈ l, x ≤ m) → l.sum ≤ m * l.length
  | [], _ => by simp
  | x :: l, h => by
    have h1 := h x List.mem_cons_self
    have h2 := sum_le l fun y hy => h y (List.mem_cons_of_mem _ hy)
    rw [List.sum_cons, List.length_cons, Nat.mul_succ]
    omega
theorem s_outN {i : Nat} {a : Addr} {cls : Value} {d : Option Addr} {nx bk ct : L2.St → Hp → Prop} {rt : VK} {σ : L2.St} {H : Hp} (z : nx (σ.set i none) (upd H a (XO cls d a))) : (outE i a cls d ⟨nx, rt, bk, ct⟩).nx σ H := z
/-- an if whose test makes objects; the ways are joined -/
theorem s_ifKh {nx bk ct : L2.St → Hp → Prop} {rt : VK} {tt : TT} {ts tu : TS} {P : Prop} {σ : L2.St} {H : Hp} (M : L2.St → Hp → Prop) (ht : ∀ T : Bool → Hp → Prop, (∀ H', Same H H' → P → T true H') → (∀ H', Same H H' → ¬ P → T false H') → tt σ H T)
    (h1 : P → ∀ (H1 : Hp) (N : L2.St → Hp → Prop), Same H H1 → (∀ σ' H', M σ' H' → N σ' H') → ts ⟨N, rt, bk, ct⟩ σ H1) (h2 : ¬ P → ∀ (H1 : Hp) (N : L2.St → Hp → Prop), Same H H1 → (∀ σ' H', M σ' H' → N σ' H') → tu ⟨N, rt, bk, ct⟩ σ H1) (z : ∀ σ' H', M σ' H' → nx σ' H') : tIfK tt ts tu ⟨nx, rt, bk, ct⟩ σ H :=
  ht _ (fun H1 s hp => s_iteT (h1 hp H1 _ s z)) fun H1 s hp => s_iteF (h2 hp H1 _ s z)
/-! an exception with a field of its own is made -/
theorem oex_heap {H : Hp} {a d : Addr} {o1 o2 o3 o4 : HO} (ha : H a = none) (hd : d ≠ a) : upd (del (upd (upd (upd H a o1) d o2) a o3) a) d o4 = upd H d o4 := by
  funext b
  by_cases h : b = d
  · rw [h, upd_same, upd_same]
  · rw [upd_ne h, upd_ne h]
    by_cases g : b = a
    · rw [g, del_same, ha]
    · rw [del_ne g, upd_ne g, upd_ne h, upd_ne g]
/-- C(v), C's __init__ storing v as f -/
theorem s_mkO {C : Addr} {sp : Sp} {σ : L2.St} {H : Hp} {Q : XK} {t : TA} {f : Str} {v : V} (ht : ∀ R : List V → Hp → Prop, R [v] H → t σ H R)
    (hs : ∀ (a : Addr) (H' : Hp) (Q' : VK), H' a = some (exo a C none) → (∀ dx, H' dx = none → dx ≠ a → Q' .non (upd (upd H' dx (exd dx [(f, v)])) a (exo a C (some dx)))) → sp [.ref a, v] H' Q' (fun _ _ _ => False))
    (z : ∀ d, H d = none → Q (.ref C) (some d) (upd H d (.xd [(f, v)]))) : tMkO C sp [] t σ H Q := by
  refine ht _ ⟨by show 1 ≤ 1000; decide, fun a ha => ?_⟩
  refine hs a _ _ upd_same fun dx nd ne => ⟨rfl, dx, [(f, v)], upd_same, ?_, ?_, ?_⟩
  · rw [upd_ne ne, upd_same]
  · rw [upd_ne ne] at nd; exact nd
  · rw [upd_ne ne] at nd
    rw [oex_heap ha ne]
    exact z dx nd
theorem s_ost {K : PySem.W.Frag} {f : Str} {to te : TE} {nx bk ct : L2.St → Hp → Prop} {rt : VK} {σ : L2.St} {H : Hp} {a C : Addr} {v : V} (he : ∀ R : VK, R v H → te σ H R) (ho : ∀ R : VK, R (.ref a) H → to σ H R) (T : OexC K C) (no : PySem.W.findIn K (.ref C) f = some none) (h : H a = some (exo a C none))
    (z : ∀ dx, H dx = none → dx ≠ a → nx σ (upd (upd H dx (exd dx [(f, v)])) a (exo a C (some dx)))) : tOst K f to te ⟨nx, rt, bk, ct⟩ σ H := he _ (ho _ ⟨a, C, rfl, T, no, .inl ⟨h, z⟩⟩)
end Jl

/-! Data at any depth: read by its shape; made in cells that are still written (active) over a part that stands (frozen). -/
namespace Jl
open PySem L2
section
variable {K : PySem.W.Frag} {H H' Hf B : Hp} {x y v : V} {a b p : Addr} {o u : HO} {xs ys : List V} {d e : PyData} {ds es : List PyData} {A : List Addr}
theorem dp_list (h : Dp K H x (.list ds)) : ∃ a xs, x = .ref a ∧ SqL K H a xs ∧ DpAll K H xs ds := by
  cases h with
  | lst h1 h2 => exact ⟨_, _, rfl, h1, h2⟩
theorem dp_tup (h : Dp K H x (.tuple ds)) : ∃ a xs, x = .ref a ∧ SqT K H a xs ∧ DpAll K H xs ds := by
  cases h with
  | tup h1 h2 => exact ⟨_, _, rfl, h1, h2⟩
theorem dp_int {i : Int} (h : Dp K H x (.int i)) : x = .int i := by cases h; rfl
theorem dp_str {z : Str} (h : Dp K H x (.str z)) : x = .str z := by cases h; rfl
theorem dp_bl {c : Bool} (h : Dp K H x (.bool c)) : x = .bl c := by cases h; rfl
theorem dp_non (h : Dp K H x .none) : x = .non := by cases h; rfl
theorem da_nil (h : DpAll K H xs []) : xs = [] := by cases h; rfl
theorem da_cons (h : DpAll K H xs (d :: ds)) : ∃ v vs, xs = v :: vs ∧ Dp K H v d ∧ DpAll K H vs ds := by
  cases h with
  | cons h1 h2 => exact ⟨_, _, rfl, h1, h2⟩
theorem da_int {i : Int} (h : DpAll K H xs (.int i :: ds)) : ∃ vs, xs = .int i :: vs ∧ DpAll K H vs ds := by
  obtain ⟨v, vs, rfl, h1, h2⟩ := da_cons h
  cases dp_int h1
  exact ⟨vs, rfl, h2⟩
theorem da_str {i : Str} (h : DpAll K H xs (.str i :: ds)) : ∃ vs, xs = .str i :: vs ∧ DpAll K H vs ds := by
  obtain ⟨v, vs, rfl, h1, h2⟩ := da_cons h
  cases dp_str h1
  exact ⟨vs, rfl, h2⟩
theorem da_bl {i : Bool} (h : DpAll K H xs (.bool i :: ds)) : ∃ vs, xs = .bl i :: vs ∧ DpAll K H vs ds := by
  obtain ⟨v, vs, rfl, h1, h2⟩ := da_cons h
  cases dp_bl h1
  exact ⟨vs, rfl, h2⟩
theorem da_ref {d : PyData} (h : DpAll K H xs (d :: ds)) (hd : ∀ v, Dp K H v d → ∃ a, v = .ref a) : ∃ a vs, xs = .ref a :: vs ∧ Dp K H (.ref a) d ∧ DpAll K H vs ds := by
  obtain ⟨v, vs, rfl, h1, h2⟩ := da_cons h
  obtain ⟨a, rfl⟩ := hd v h1
  exact ⟨a, vs, rfl, h1, h2⟩
theorem da_len : ∀ {xs : List V} {ds : List PyData}, DpAll K H xs ds → xs.length = ds.length
  | _, [], h => by rw [da_nil h]; rfl
  | _, d :: ds, h => by
    obtain ⟨v, vs, rfl, _, h2⟩ := da_cons h
    rw [List.length_cons, List.length_cons, da_len h2]
theorem da_get : ∀ {xs : List V} {ds : List PyData} {i : Nat} {x : V}, DpAll K H xs ds → xs[i]? = some x → ∃ d, ds[i]? = some d ∧ Dp K H x d
  | _, [], i, x, h, e => by rw [da_nil h] at e; cases e
  | _, d :: ds, i, x, h, e => by
    obtain ⟨v, vs, rfl, h1, h2⟩ := da_cons h
    cases i with
    | zero => cases e; exact ⟨d, rfl, h1⟩
    | succ i => exact da_get (i := i) h2 e
theorem da_at : ∀ {xs : List V} {ds : List PyData} {i : Nat} {d : PyData}, DpAll K H xs ds → ds[i]? = some d → ∃ x, xs[i]? = some x ∧ Dp K H x d
  | _, [], i, d, h, e => by cases e
  | _, d' :: ds, i, d, h, e => by
    obtain ⟨v, vs, rfl, h1, h2⟩ := da_cons h
    cases i with
    | zero => cases e; exact ⟨v, rfl, h1⟩
    | succ i => exact da_at (i := i) h2 e
theorem da_app : ∀ {xs ys : List V} {ds es : List PyData}, DpAll K H xs ds → DpAll K H ys es → DpAll K H (xs ++ ys) (ds ++ es)
  | _, ys, [], es, h, h2 => by rw [da_nil h]; exact h2
  | _, ys, d :: ds, es, h, h2 => by
    obtain ⟨v, vs, rfl, h1, h3⟩ := da_cons h
    exact .cons h1 (da_app h3 h2)
theorem da_one (h : Dp K H x d) : DpAll K H [x] [d] := .cons h .nil
theorem da_split : ∀ {xs : List V} {ds es : List PyData}, DpAll K H xs (ds ++ es) → ∃ ys zs, xs = ys ++ zs ∧ DpAll K H ys ds ∧ DpAll K H zs es
  | xs, [], es, h => ⟨[], xs, rfl, .nil, h⟩
  | xs, d :: ds, es, h => by
    obtain ⟨v, vs, rfl, h1, h3⟩ := da_cons h
    obtain ⟨ys, zs, rfl, h4, h5⟩ := da_split h3
    exact ⟨v :: ys, zs, rfl, .cons h1 h4, h5⟩
theorem da_drop : ∀ {n : Nat} {xs : List V} {ds : List PyData}, DpAll K H xs ds → DpAll K H (xs.drop n) (ds.drop n)
  | 0, _, _, h => h
  | n + 1, xs, [], h => by rw [da_nil h]; exact .nil
  | n + 1, xs, d :: ds, h => by
    obtain ⟨v, vs, rfl, _, h3⟩ := da_cons h
    exact da_drop (n := n) h3
theorem da_take : ∀ {n : Nat} {xs : List V} {ds : List PyData}, DpAll K H xs ds → DpAll K H (xs.take n) (ds.take n)
  | 0, _, _, h => .nil
  | n + 1, xs, [], h => by rw [da_nil h]; exact .nil
  | n + 1, xs, d :: ds, h => by
    obtain ⟨v, vs, rfl, h1, h3⟩ := da_cons h
    exact .cons h1 (da_take (n := n) h3)
theorem da_ints : ∀ {xs : List V} {ns : List Int}, DpAll K H xs (ns.map PyData.int) → xs = ns.map V.int
  | _, [], h => da_nil h
  | _, n :: ns, h => by
    obtain ⟨vs, rfl, h2⟩ := da_int h
    rw [da_ints h2]; rfl
theorem da_strs : ∀ {xs : List V} {ns : List Str}, DpAll K H xs (ns.map PyData.str) → xs = ns.map V.str
  | _, [], h => da_nil h
  | _, n :: ns, h => by
    obtain ⟨vs, rfl, h2⟩ := da_str h
    rw [da_strs h2]; rfl
theorem dp_strs : ∀ ns : List Str, DpAll K H (ns.map V.str) (ns.map PyData.str)
  | [] => .nil
  | n :: ns => .cons (.str n) (dp_strs ns)
theorem dp_intl {ns : List Int} (h : Dp K H x (.list (ns.map PyData.int))) : ∃ a, x = .ref a ∧ SqL K H a (ns.map V.int) := by
  obtain ⟨a, xs, rfl, h1, h2⟩ := dp_list h
  rw [da_ints h2] at h1
  exact ⟨a, rfl, h1⟩
theorem dp_strl {ns : List Str} (h : Dp K H x (.list (ns.map PyData.str))) : ∃ a, x = .ref a ∧ SqL K H a (ns.map V.str) := by
  obtain ⟨a, xs, rfl, h1, h2⟩ := dp_list h
  rw [da_strs h2] at h1
  exact ⟨a, rfl, h1⟩
/-- data that stands in the part of a heap -/
theorem sqT_of (h : H a = some (.tup xs)) : SqT K H a xs := .inl (.inl h)
theorem sqL_of (h : H a = some (.lst xs)) : SqL K H a xs := .inl (.inl h)
/-! the shape of data -/
theorem shaped_of (h1 : d.canLay0 = true) (h2 : d.depth ≤ 64) : SeqAt.shaped d = true := Bool.and_eq_true_iff.mpr ⟨h1, decide_eq_true h2⟩
theorem lay_all {l : List PyData} : (∀ d ∈ l, d.canLay0 = true) → PyData.canLayAll0 l = true := by
  induction l with
  | nil => intro _; rfl
  | cons d l ih =>
    intro h
    show (d.canLay0 && PyData.canLayAll0 l) = true
    rw [h d List.mem_cons_self, ih fun z hz => h z (List.mem_cons_of_mem _ hz)]; rfl
theorem depth_all {n : Nat} {l : List PyData} : (∀ d ∈ l, d.depth ≤ n) → PyData.depthAll l ≤ n := by
  induction l with
  | nil => intro _; exact Nat.zero_le _
  | cons d l ih =>
    intro h
    show max d.depth (PyData.depthAll l) ≤ n
    have h1 := h d List.mem_cons_self
    have h2 := ih fun z hz => h z (List.mem_cons_of_mem _ hz)
    omega
theorem depth_list {n : Nat} {l : List PyData} (h : ∀ d ∈ l, d.depth ≤ n) : (PyData.list l).depth ≤ n + 1 := by
  have := depth_all h
  show PyData.depthAll l + 1 ≤ n + 1
  omega
theorem depth_tuple {n : Nat} {l : List PyData} (h : ∀ d ∈ l, d.depth ≤ n) : (PyData.tuple l).depth ≤ n + 1 := by
  have := depth_all h
  show PyData.depthAll l + 1 ≤ n + 1
  omega
theorem s_eqSame {Q : VK} (h1 : Dp K H x d) (h2 : Dp K H y d) (hs : SeqAt.shaped d = true) (z : Q (.bl true) H) : rEqD K x y H Q :=
  ⟨_, _, h1, h2, hs, hs, by rw [SeqAt.eqv_refl _ (SeqAt.canLay_of_shaped hs)]; exact z⟩
theorem s_neSame {Q : VK} (h1 : Dp K H x d) (h2 : Dp K H y d) (hs : SeqAt.shaped d = true) (z : Q (.bl false) H) : rNeD K x y H Q :=
  ⟨_, _, h1, h2, hs, hs, by rw [SeqAt.eqv_refl _ (SeqAt.canLay_of_shaped hs)]; exact z⟩
theorem eqv_strs : ∀ ns ms : List Str, PyData.eqvAll (ns.map PyData.str) (ms.map PyData.str) = decide (ns = ms)
  | [], [] => rfl
  | [], _ :: _ => rfl
  | _ :: _, [] => rfl
  | n :: ns, m :: ms => by
    show ((n == m) && PyData.eqvAll (ns.map PyData.str) (ms.map PyData.str)) = _
    rw [eqv_strs ns ms, Bool.eq_iff_iff]
    simp
theorem depth_strs : ∀ ns : List Str, PyData.depthAll (ns.map PyData.str) ≤ 0 := fun ns => depth_all fun d hd => by
  obtain ⟨s, _, rfl⟩ := List.mem_map.mp hd
  exact Nat.le_refl _
/-! cells that are still written -/
structure Act (B Hf H : Hp) (A : List Addr) : Prop where
  base : Same B Hf
  ext : Same Hf H
  free : ∀ a ∈ A, Hf a = none ∧ ∃ o, H a = some o
  nd : A.Nodup
theorem Act.start (H : Hp) : Act H H H [] := ⟨Same.refl _, Same.refl _, fun _ h => (by cases h), List.nodup_nil⟩
theorem Act.same (c : Act B Hf H A) : Same B H := c.base.trans c.ext
theorem Act.sm (c : Act B Hf H A) (s : Same H H') : Act B Hf H' A := ⟨c.base, c.ext.trans s, fun a ha => ⟨(c.free a ha).1, by obtain ⟨o, h⟩ := (c.free a ha).2; exact ⟨o, s _ _ h⟩⟩, c.nd⟩
theorem Act.upd (c : Act B Hf H A) (ha : a ∈ A) : Act B Hf (L2.upd H a o) A :=
  ⟨c.base, same_mut c.ext (c.free a ha).1, fun b hb => ⟨(c.free b hb).1, by
    by_cases e : b = a
    · rw [e, upd_same]; exact ⟨_, rfl⟩
    · rw [upd_ne e]; exact (c.free b hb).2⟩, c.nd⟩
theorem Act.out (c : Act B Hf H A) (hp : H p = none) : p ∉ A := fun h => by
  obtain ⟨o, e⟩ := (c.free p h).2
  rw [hp] at e; cases e
theorem Act.new (c : Act B Hf H A) (hp : H p = none) : Act B (L2.upd Hf p o) (L2.upd H p o) A := by
  have hf := c.ext.free hp
  refine ⟨c.base.trans (same_upd hf), fun b u e => ?_, fun b hb => ?_, c.nd⟩
  · by_cases q : b = p
    · rw [q, upd_same] at e ⊢; exact e
    · rw [upd_ne q] at e ⊢; exact c.ext b u e
  · have q : b ≠ p := fun q => c.out hp (q ▸ hb)
    rw [upd_ne q, upd_ne q]; exact c.free b hb
theorem Act.newA (c : Act B Hf H A) (hp : H p = none) : Act B Hf (L2.upd H p o) (p :: A) := by
  refine ⟨c.base, c.ext.trans (same_upd hp), fun b hb => ?_, List.nodup_cons.mpr ⟨c.out hp, c.nd⟩⟩
  rcases List.mem_cons.mp hb with rfl | hb
  · exact ⟨c.ext.free hp, _, upd_same⟩
  · have q : b ≠ p := fun q => c.out hp (q ▸ hb)
    rw [upd_ne q]; exact c.free b hb
theorem Act.fz (c : Act B Hf H (a :: A)) (e : H a = some o) : Act B (L2.upd Hf a o) H A := by
  have n := List.nodup_cons.mp c.nd
  refine ⟨c.base.trans (same_upd (c.free a List.mem_cons_self).1), fun b u h => ?_, fun b hb => ?_, n.2⟩
  · by_cases q : b = a
    · rw [q, upd_same] at h; rw [q, e]; exact h
    · rw [upd_ne q] at h; exact c.ext b u h
  · have q : b ≠ a := fun q => n.1 (q ▸ hb)
    rw [upd_ne q]; exact c.free b (List.mem_cons_of_mem _ hb)
theorem Act.fz_same (c : Act B Hf H (a :: A)) : Same Hf (L2.upd Hf a o) := same_upd (c.free a List.mem_cons_self).1
theorem Act.perm {A' : List Addr} (c : Act B Hf H A) (h : A.Perm A') : Act B Hf H A' := ⟨c.base, c.ext, fun a ha => c.free a (h.mem_iff.mpr ha), h.nodup_iff.mp c.nd⟩
theorem Act.sub {A' : List Addr} (c : Act B Hf H A) (h : A'.Sublist A) : Act B Hf H A' := ⟨c.base, c.ext, fun a ha => c.free a (h.subset ha), h.nodup c.nd⟩
theorem Act.frz (c : Act B Hf H A) (hp : H p = some o) (hA : p ∉ A) : ∃ Hg, Same Hf Hg ∧ Act B Hg H A ∧ Hg p = some o := by
  cases hf : Hf p with
  | some u =>
    have := c.ext _ _ hf
    rw [hp] at this
    cases this
    exact ⟨Hf, Same.refl _, c, hf⟩
  | none =>
    refine ⟨L2.upd Hf p o, same_upd hf, ⟨c.base.trans (same_upd hf), fun b u h => ?_, fun b hb => ?_, c.nd⟩, upd_same⟩
    · by_cases q : b = p
      · rw [q, upd_same] at h; rw [q, hp]; exact h
      · rw [upd_ne q] at h; exact c.ext b u h
    · have q : b ≠ p := fun q => hA (q ▸ hb)
      rw [upd_ne q]; exact c.free b hb
end
end Jl

/-! Dicts from ints to ints. -/
namespace Jl
open PySem L2
def DI (H : Hp) (m : Addr) (f : Int → Option Int) (n : Nat) : Prop := ∃ kvs : List (Key × V), H m = some (.dK kvs) ∧ kvs.length ≤ n ∧ ∀ a : Int, valV kvs (Sum.inl a : Key) = (f a).map V.int
section
variable {H H' : Hp} {m p : Addr} {f : Int → Option Int} {n : Nat}
theorem DI.same (s : Same H H') (D : DI H m f n) : DI H' m f n := by
  obtain ⟨k, h1, h2, h3⟩ := D
  exact ⟨k, s _ _ h1, h2, h3⟩
theorem DI.to (D : DI H m f n) (e : H' m = H m) : DI H' m f n := by
  obtain ⟨k, h1, h2, h3⟩ := D
  exact ⟨k, e.trans h1, h2, h3⟩
theorem DI.off {o : HO} (D : DI H m f n) (e : p ≠ m) : DI (upd H p o) m f n := D.to (upd_ne e.symm)
theorem DI.get (D : DI H m f n) (a : Int) : DGet H m (.int a) ((f a).map V.int) := by
  obtain ⟨k, h1, h2, h3⟩ := D
  rw [← h3 a]
  exact DGet.k (k := kI a) h1
theorem DI.some_ {a w : Int} (D : DI H m f n) (e : f a = some w) : DGet H m (.int a) (some (.int w)) := by
  have := D.get a
  rw [e] at this
  exact this
theorem DI.put (D : DI H m f n) (hn : n ≤ 99999) (a w : Int) : ∃ o, DPut H m (.int a) (.int w) (upd H m o) ∧ DI (upd H m o) m (memPut f a w) (n + 1) := by
  obtain ⟨k, h1, h2, h3⟩ := D
  refine ⟨_, DPut.k (k := kI a) (v := .int w) h1 (small5' (by omega)), _, upd_same, ?_, fun b => ?_⟩
  · have := length_putK k (kI a) (V.int w)
    omega
  · rw [valV_put]
    show _ = (memPut f a w b).map V.int
    unfold memPut
    by_cases q : b = a
    · rw [if_pos (by rw [q]; rfl), if_pos q]; rfl
    · rw [if_neg (show ¬ (Sum.inl b : Key) = kI a from fun y => q (Sum.inl.inj y)), if_neg q]; exact h3 b
theorem DI.new : DI (upd H m (.dK [])) m (fun _ => none) 0 := ⟨[], upd_same, Nat.le_refl _, fun a => rfl⟩
theorem DI.le {k : Nat} (D : DI H m f n) (h : n ≤ k) : DI H m f k := by
  obtain ⟨k', h1, h2, h3⟩ := D
  exact ⟨k', h1, Nat.le_trans h2 h, h3⟩
theorem memPut_eq {a w : Int} : memPut f a w a = some w := if_pos rfl
theorem memPut_ne {a w x : Int} (h : x ≠ a) : memPut f a w x = f x := if_neg h
end
section
variable {K : PySem.W.Frag} {σ : L2.St} {H : Hp} {Q : VK} {to : TE} {p : Addr} {xs : List V} {kvs : List (Key × V)} {T : String} {nx bk ct : L2.St → Hp → Prop} {rt : VK} {tl : TE} {tu : TS}
theorem s_BM0 {r : V → List V → Hp → VK → Prop} (z : to σ H fun x H1 => tyV K T x H1 ∧ r x [] H1 Q) : tBM0 K T r to σ H Q := z
theorem s_clear (h : H p = some (.lst xs)) (z : Q .non (upd H p (.lst []))) : rClear (.ref p) [] H Q := ⟨p, xs, rfl, rfl, h, z⟩
theorem s_dclear (h : H p = some (.dK kvs)) (z : Q .non (upd H p (.dK []))) : tyV K "dict" (.ref p) H ∧ rDClear (.ref p) [] H Q := ⟨.inr (.inr (.inl ⟨rfl, .inl ⟨kvs, h⟩⟩)), p, kvs, rfl, rfl, h, z⟩
/-- a loop over a list made for it -/
theorem s_forN {k : Nat} {xs : List V} (Pv : Addr → Nat → L2.St → Hp → Prop) (ha : ∀ R : VK, (∀ a, H a = none → R (.ref a) (upd H a (.lst xs))) → tl σ H R) (h0 : ∀ a, H a = none → Pv a 0 σ (upd H a (.lst xs)))
    (hl : ∀ a i σ' H', H a = none → i ≤ xs.length → Pv a i σ' H' → SqL K H' a xs)
    (hs : ∀ (a : Addr) (i : Nat) x σ' H', H a = none → xs[i]? = some x → Pv a i σ' H' → tu ⟨Pv a (i + 1), rt, nx, Pv a (i + 1)⟩ (σ'.set k (some x)) H') (hd : ∀ a σ' H', H a = none → Pv a xs.length σ' H' → nx σ' H') : tFor (iList K tl) (gName k) tu ⟨nx, rt, bk, ct⟩ σ H := by
  refine ha _ fun a na => ⟨a, rfl, ⟨xs, sqU⟩, ?_⟩
  exact for_list (xs := xs) (Pv a) (h0 a na) (fun i σ' H' hi z => hl a i σ' H' na hi z) (fun i x σ' H' hi h => hs a i x σ' H' na hi h) (fun σ' H' h => hd a σ' H' na h)
end
section
variable {B Hf H H' : Hp} {A : List Addr} {p : Addr}
theorem Act.call (c : Act B Hf H A) (s : Same H H') (hp : H p = none) {o : HO} (e : H' p = some o) : Act B Hf H' (p :: A) := by
  refine ⟨c.base, c.ext.trans s, fun b hb => ?_, List.nodup_cons.mpr ⟨c.out hp, c.nd⟩⟩
  rcases List.mem_cons.mp hb with rfl | hb
  · exact ⟨c.ext.free hp, _, e⟩
  · obtain ⟨h1, o, h2⟩ := c.free b hb
    exact ⟨h1, o, s _ _ h2⟩
theorem Act.chg {C : List Addr} (c : Act B Hf H A) (k : ∀ b v, H b = some v → b ∉ C → H' b = some v) (hC : ∀ b ∈ C, b ∈ A ∧ ∃ o, H' b = some o) : Act B Hf H' A := by
  refine ⟨c.base, fun b u h => ?_, fun b hb => ⟨(c.free b hb).1, ?_⟩, c.nd⟩
  · refine k b u (c.ext b u h) fun hb => ?_
    have := (c.free b (hC b hb).1).1
    rw [h] at this; cases this
  · by_cases q : b ∈ C
    · exact (hC b q).2
    · obtain ⟨o, h⟩ := (c.free b hb).2
      exact ⟨o, k b o h q⟩
theorem Act.mach {C dx m r o : Addr} {st : MSt} (c : Act B Hf H A) (s : Same H H') (np : H p = none) (nm : H m = none) (nr : H r = none) (no : H o = none) (M : MachAt C H' p dx m r o st) : Act B Hf H' (p :: m :: r :: o :: A) := by
  obtain ⟨kvs, hm, _⟩ := M.dc
  have h1 := M.pm; have h2 := M.pr; have h3 := M.po; have h4 := M.rm; have h5 := M.om; have h6 := M.ne
  refine ⟨c.base, c.ext.trans s, fun b hb => ?_, ?_⟩
  · simp only [List.mem_cons] at hb
    rcases hb with rfl | rfl | rfl | rfl | hb
    · exact ⟨c.ext.free np, _, M.ob⟩
    · exact ⟨c.ext.free nm, _, hm⟩
    · exact ⟨c.ext.free nr, _, M.rg⟩
    · exact ⟨c.ext.free no, _, M.ou⟩
    · obtain ⟨h1, o, h2⟩ := c.free b hb
      exact ⟨h1, o, s _ _ h2⟩
  · simp only [List.nodup_cons, List.mem_cons, not_or]
    exact ⟨⟨h1, h2, h3, c.out np⟩, ⟨h4.symm, h5.symm, c.out nm⟩, ⟨h6, c.out nr⟩, c.out no, c.nd⟩
end
/-- a machine, and what a law holds beside it -/
structure Gp where
  p : Addr
  dx : Addr
  m : Addr
  r : Addr
  o : Addr
  a : Addr
  t : Addr
def Gp.cells (g : Gp) : List Addr := [g.p, g.m, g.r, g.o, g.t, g.a]
structure One (C : Addr) (H : Hp) (g : Gp) (s : MSt) : Prop where
  M : MachAt C H g.p g.dx g.m g.r g.o s
  row : H g.a = some (.lst (s.regs.map V.int))
  told : H g.t = some (.lst (s.outs.map V.int))
  nd : g.cells.Nodup
section
variable {C : Addr} {H H' : Hp} {g g0 g1 : Gp} {s : MSt} {P P' : MSt → Prop} {i : Nat}
theorem One.keep (h : One C H g s) (k : ∀ b v, H b = some v → b ∈ g.cells → H' b = some v) : One C H' g s := by
  obtain ⟨kvs, h1, h2, h3⟩ := h.M.dc
  exact ⟨⟨k _ _ h.M.ob (by simp [Gp.cells]), ⟨kvs, k _ _ h1 (by simp [Gp.cells]), h2, h3⟩, k _ _ h.M.rg (by simp [Gp.cells]), k _ _ h.M.ou (by simp [Gp.cells]), h.M.ne⟩, k _ _ h.row (by simp [Gp.cells]), k _ _ h.told (by simp [Gp.cells]), h.nd⟩
theorem One.same (h : One C H g s) (e : Same H H') : One C H' g s := h.keep fun b v hb _ => e b v hb
theorem One.has (h : One C H g s) : ∀ b ∈ g.cells, ∃ o, H b = some o := by
  obtain ⟨kvs, h1, _⟩ := h.M.dc
  intro b hb
  simp only [Gp.cells, List.mem_cons, List.not_mem_nil, or_false] at hb
  rcases hb with rfl | rfl | rfl | rfl | rfl | rfl
  · exact ⟨_, h.M.ob⟩
  · exact ⟨_, h1⟩
  · exact ⟨_, h.M.rg⟩
  · exact ⟨_, h.M.ou⟩
  · exact ⟨_, h.told⟩
  · exact ⟨_, h.row⟩
/-- two of these, of which the first i have gone on -/
def Both (C : Addr) (g0 g1 : Gp) (P P' : MSt → Prop) (i : Nat) (H : Hp) : Prop := ∃ s0 s1, One C H g0 s0 ∧ One C H g1 s1 ∧ (if 0 < i then P' s0 else P s0) ∧ (if 1 < i then P' s1 else P s1)
theorem Both.same (h : Both C g0 g1 P P' i H) (e : Same H H') : Both C g0 g1 P P' i H' := by
  obtain ⟨s0, s1, a, b, c, d⟩ := h
  exact ⟨s0, s1, a.same e, b.same e, c, d⟩
theorem Both.turn (hd : ∀ b ∈ g0.cells, b ∉ g1.cells) (hi : i < 2) (h : Both C g0 g1 P P' i H) : ∃ g s, ((i = 0 ∧ g = g0) ∨ (i = 1 ∧ g = g1)) ∧ One C H g s ∧ P s ∧
    ∀ H' s', One C H' g s' → P' s' → (∀ b v, H b = some v → b ∉ g.cells → H' b = some v) → Both C g0 g1 P P' (i + 1) H' := by
  obtain ⟨s0, s1, a, b, c, d⟩ := h
  have hi' : i = 0 ∨ i = 1 := by omega
  rcases hi' with rfl | rfl
  · refine ⟨g0, s0, .inl ⟨rfl, rfl⟩, a, c, fun H' s' o p k => ⟨s', s1, o, b.keep fun x v hx hc => k x v hx fun z => hd x z hc, p, d⟩⟩
  · refine ⟨g1, s1, .inr ⟨rfl, rfl⟩, b, d, fun H' s' o p k => ⟨s0, s', a.keep fun x v hx hc => k x v hx (hd x hc), o, c, p⟩⟩
theorem Both.next {P'' : MSt → Prop} (h : Both C g0 g1 P P' 2 H) : Both C g0 g1 P' P'' 0 H := h
/-- a machine steps, the law's own row and list have gone ahead -/
theorem One.stepped {s' : MSt} {H1 H2 : Hp} (h : One C H g s) (hb : ∀ b, b ≠ g.a → b ≠ g.t → H1 b = H b) (hr : H1 g.a = some (.lst (s'.regs.map V.int))) (ht : H1 g.t = some (.lst (s'.outs.map V.int)))
    (k : Keep H1 H2 g.p g.m g.r g.o) (M : MachAt C H2 g.p g.dx g.m g.r g.o s') : One C H2 g s' ∧ ∀ b v, H b = some v → b ∉ g.cells → H2 b = some v := by
  have nd := h.nd
  simp only [Gp.cells, List.nodup_cons, List.mem_cons, List.not_mem_nil, or_false, not_or] at nd
  obtain ⟨⟨n1, n2, n3, n4, n5⟩, ⟨n6, n7, n8, n9⟩, ⟨n10, n11, n12⟩, ⟨n13, n14⟩, n15, -⟩ := nd
  refine ⟨⟨M, k _ _ hr (fun e => n5 e.symm) (fun e => n9 e.symm) (fun e => n12 e.symm) fun e => n14 e.symm, k _ _ ht (fun e => n4 e.symm) (fun e => n8 e.symm) (fun e => n11 e.symm) fun e => n13 e.symm, h.nd⟩, fun b v e hc => ?_⟩
  simp only [Gp.cells, List.mem_cons, List.not_mem_nil, or_false, not_or] at hc
  obtain ⟨c1, c2, c3, c4, c5, c6⟩ := hc
  refine k b v ?_ c1 c2 c3 c4
  rw [hb b c6 c5]; exact e
theorem One.ma {H1 : Hp} (h : One C H g s) (hb : ∀ b, b ≠ g.a → b ≠ g.t → H1 b = H b) : MachAt C H1 g.p g.dx g.m g.r g.o s := by
  have nd := h.nd
  simp only [Gp.cells, List.nodup_cons, List.mem_cons, List.not_mem_nil, or_false, not_or] at nd
  obtain ⟨⟨n1, n2, n3, n4, n5⟩, ⟨n6, n7, n8, n9⟩, ⟨n10, n11, n12⟩, ⟨n13, n14⟩, n15, -⟩ := nd
  obtain ⟨kvs, h1, h2, h3⟩ := h.M.dc
  exact ⟨by rw [hb _ n5 n4]; exact h.M.ob, ⟨kvs, by rw [hb _ n9 n8]; exact h1, h2, h3⟩, by rw [hb _ n12 n11]; exact h.M.rg, by rw [hb _ n14 n13]; exact h.M.ou, h.M.ne⟩
theorem One.at_ (h : One C H g s) : g.a ≠ g.t := by
  have nd := h.nd
  simp only [Gp.cells, List.nodup_cons, List.mem_cons, List.not_mem_nil, or_false, not_or] at nd
  obtain ⟨⟨n1, n2, n3, n4, n5⟩, ⟨n6, n7, n8, n9⟩, ⟨n10, n11, n12⟩, ⟨n13, n14⟩, n15, -⟩ := nd
  exact fun e => n15 e.symm
end
theorem cutV_mid {xs : List V} (i j : Nat) (h : i ≤ j) : cutV xs (some (i : Int)) (some (j : Int)) = (xs.drop i).take (j - i) := by
  unfold cutV
  have e1 : ∀ d k : Nat, HT.sIx xs.length d (some (k : Int)) = min k xs.length := fun d k => HT.sIx_nat _ _ _
  rw [e1, e1]
  rcases Nat.lt_or_ge i xs.length with hi | hi
  · rw [Nat.min_eq_left (Nat.le_of_lt hi)]
    rcases Nat.lt_or_ge j xs.length with hj | hj
    · rw [Nat.min_eq_left (Nat.le_of_lt hj)]
    · rw [Nat.min_eq_right hj, List.take_of_length_le (by rw [List.length_drop]; omega), List.take_of_length_le (by rw [List.length_drop]; omega)]
  · rw [Nat.min_eq_right hi, List.drop_of_length_le hi, List.drop_of_length_le (Nat.le_refl _), List.take_nil, List.take_nil]
theorem nd_ne {A : List Addr} (h : A.Nodup) (i j : Nat) (hij : i < j) {a b : Addr} (ha : A[i]? = some a) (hb : A[j]? = some b) : a ≠ b := by
  obtain ⟨hi, rfl⟩ := List.getElem?_eq_some_iff.mp ha
  obtain ⟨hj, rfl⟩ := List.getElem?_eq_some_iff.mp hb
  exact List.pairwise_iff_getElem.mp h i j hi hj hij
section
variable {K : PySem.W.Frag} {σ : L2.St} {H : Hp} {Q : VK} {p q : Addr} {ns ms : List Int} {ss : List Str} {i : Int} {z : Str} {nx bk ct : L2.St → Hp → Prop} {rt : VK} {tu : TS}
theorem inV_ints : ∀ ns : List Int, inV (.int i) (ns.map V.int) = decide (i ∈ ns)
  | [] => rfl
  | n :: ns => by
    show ((n == i) || inV (.int i) (ns.map V.int)) = _
    rw [inV_ints ns, Bool.eq_iff_iff, Bool.or_eq_true, beq_iff_eq, decide_eq_true_iff, decide_eq_true_iff, List.mem_cons]
    exact ⟨fun h => h.imp Eq.symm id, fun h => h.imp Eq.symm id⟩
theorem inV_strs : ∀ ns : List Str, inV (.str z) (ns.map V.str) = decide (z ∈ ns)
  | [] => rfl
  | n :: ns => by
    show ((n == z) || inV (.str z) (ns.map V.str)) = _
    rw [inV_strs ns, Bool.eq_iff_iff, Bool.or_eq_true, beq_iff_eq, decide_eq_true_iff, decide_eq_true_iff, List.mem_cons]
    exact ⟨fun h => h.imp Eq.symm id, fun h => h.imp Eq.symm id⟩
theorem flat_ints : ∀ ns : List Int, (ns.map V.int).all flatV = true
  | [] => rfl
  | n :: ns => by show (true && (ns.map V.int).all flatV) = true; rw [flat_ints ns]; rfl
theorem flat_strs : ∀ ns : List Str, (ns.map V.str).all flatV = true
  | [] => rfl
  | n :: ns => by show (true && (ns.map V.str).all flatV) = true; rw [flat_strs ns]; rfl
theorem s_inInts (h : SqL K H p (ns.map V.int)) (k : Q (.bl (decide (i ∈ ns))) H) : rIn K false (.int i) (.ref p) H Q := ⟨p, _, rfl, .inl h, rfl, flat_ints ns, by rw [if_neg Bool.false_ne_true, inV_ints]; exact k⟩
theorem s_notInInts (h : SqL K H p (ns.map V.int)) (k : Q (.bl (!decide (i ∈ ns))) H) : rIn K true (.int i) (.ref p) H Q := ⟨p, _, rfl, .inl h, rfl, flat_ints ns, by rw [if_pos rfl, inV_ints]; exact k⟩
theorem s_inStrs (h : SqL K H p (ss.map V.str)) (k : Q (.bl (decide (z ∈ ss))) H) : rIn K false (.str z) (.ref p) H Q := ⟨p, _, rfl, .inl h, rfl, flat_strs ss, by rw [if_neg Bool.false_ne_true, inV_strs]; exact k⟩
theorem s_notInStrs (h : SqL K H p (ss.map V.str)) (k : Q (.bl (!decide (z ∈ ss))) H) : rIn K true (.str z) (.ref p) H Q := ⟨p, _, rfl, .inl h, rfl, flat_strs ss, by rw [if_pos rfl, inV_strs]; exact k⟩
theorem s_neInts (h1 : SqL K H p (ns.map V.int)) (h2 : SqL K H q (ms.map V.int)) (k : Q (.bl (!decide (ns = ms))) H) : rNeD K (.ref p) (.ref q) H Q :=
  ⟨_, _, dp_intL h1, dp_intL h2, shaped_ints ns, shaped_ints ms, by
    show Q (.bl (!PyData.eqvAll (ns.map PyData.int) (ms.map PyData.int))) H
    rw [eqv_ints]; exact k⟩
/-- range(lo, hi) -/
theorem s_forR2 {k : Nat} {ta : TA} (lo hi : Int) (Pv : Nat → L2.St → Hp → Prop) (ha : ∀ R : List V → Hp → Prop, R [.int lo, .int hi] H → ta σ H R) (hb : -(2 ^ 62) ≤ lo ∧ lo < 2 ^ 62 ∧ -(2 ^ 62) ≤ hi ∧ hi < 2 ^ 62) (h0 : Pv 0 σ H)
    (hs : ∀ (i : Nat) σ' H', lo + (i : Int) < hi → Pv i σ' H' → tu ⟨Pv (i + 1), rt, nx, Pv (i + 1)⟩ (σ'.set k (some (.int (lo + (i : Int))))) H') (hd : ∀ σ' H', Pv (hi - lo).toNat σ' H' → nx σ' H') : tFor (iRng2 ta) (gName k) tu ⟨nx, rt, bk, ct⟩ σ H := by
  refine ha _ ⟨lo, hi, rfl, hb, ?_⟩
  refine for_range (lo := lo) (n := (hi - lo).toNat) Pv h0 (fun i σ' H' hi' h => ?_) hd
  exact hs i σ' H' (by omega) h
end
section
variable {K : PySem.W.Frag} {σ : L2.St} {H : Hp} {nx bk ct : L2.St → Hp → Prop} {rt : VK} {tu : TS}
/-- a list of known items, any target -/
theorem s_forLg {g : TG} {tl : TE} {a : Addr} {xs : List V} (Pv : Nat → L2.St → Hp → Prop) (H1 : Hp) (ha : ∀ R : VK, R (.ref a) H1 → tl σ H R) (hx : SqL K H1 a xs) (h0 : Pv 0 σ H1)
    (hl : ∀ i σ' H', i ≤ xs.length → Pv i σ' H' → SqL K H' a xs)
    (hs : ∀ (i : Nat) x σ' H', xs[i]? = some x → Pv i σ' H' → g x σ' H' fun σ2 H2 => tu ⟨Pv (i + 1), rt, nx, Pv (i + 1)⟩ σ2 H2) (hd : ∀ σ' H', Pv xs.length σ' H' → nx σ' H') : tFor (iList K tl) g tu ⟨nx, rt, bk, ct⟩ σ H := by
  refine ha _ ⟨a, rfl, ⟨xs, hx⟩, ?_⟩
  exact for_list (xs := xs) Pv h0 hl (fun i x σ' H' hi h => hs i x σ' H' hi h) hd
end
section
variable {K : PySem.W.Frag} {σ : L2.St} {H : Hp} {nx bk ct : L2.St → Hp → Prop} {rt : VK} {tu : TS}
/-- for (i, x) in enumerate(xs) -/
theorem s_forE {g : TG} {ta : TA} {a : Addr} {xs : List V} (Pv : Nat → L2.St → Hp → Prop) (H1 : Hp) (ha : ∀ R : List V → Hp → Prop, R [.ref a] H1 → ta σ H R) (hx : SqL K H1 a xs) (h0 : Pv 0 σ H1)
    (hl : ∀ i σ' H', i ≤ xs.length → Pv i σ' H' → SqL K H' a xs)
    (hs : ∀ (i : Nat) x σ' H' T, xs[i]? = some x → Pv i σ' H' → H' T = none → g (.ref T) σ' (upd H' T (.tup [.int (i : Int), x])) fun σ2 H2 => tu ⟨Pv (i + 1), rt, nx, Pv (i + 1)⟩ σ2 H2) (hd : ∀ σ' H', Pv xs.length σ' H' → nx σ' H') : tFor (iEnum K ta) g tu ⟨nx, rt, bk, ct⟩ σ H := by
  refine ha _ ⟨a, xs, rfl, hx, ?_⟩
  refine ⟨fun i m σ H => m = xs.length - i ∧ i ≤ xs.length ∧ Pv i σ H, ⟨xs.length, by simp, Nat.zero_le _, h0⟩, ?_⟩
  rintro i m σ' H2 ⟨rfl, hi, q⟩
  have hq := hl i σ' H2 hi q
  by_cases hlt : i < xs.length
  · refine .inr ⟨⟨xs, _, hq, List.getElem?_eq_getElem hlt⟩, Pv (i + 1), fun σ3 H3 q' => ⟨xs.length - (i + 1), by omega, rfl, hlt, q'⟩, fun v H3 y => ?_⟩
    obtain ⟨T, x, rfl, hT, rfl, hx⟩ := y
    exact hs i x σ' H2 T (hx xs hq) q hT
  · have e : i = xs.length := by omega
    subst e
    exact .inl ⟨⟨xs, hq, Nat.le_refl _⟩, hd σ' H2 q⟩
end
section
variable {K : PySem.W.Frag} {σ : L2.St} {H : Hp} {Q : VK}
/-- [e for g in xs if t]: what the items are, as data; D is the list in the making -/
theorem s_lcA {g : TG} {tt : TT} {te tl : TE} {vs : List Nat} {xs : List V} (d : Nat → Option PyData) (hl : xs.length ≤ 100000) (ha : ∀ R : VK, (∀ a H1, Same H H1 → SqL K H1 a xs → R (.ref a) H1) → tl σ H R)
    (hs : ∀ (i : Nat) x D F H1 (Rs : VK) (Rn : Hp → Prop), xs[i]? = some x → Act H F H1 [D] → (∀ v F' H2 dd, Same F F' → Act H F' H2 [D] → Same H1 H2 → d i = some dd → Dp K F' v dd → Rs v H2) → (∀ F' H2, Same F F' → Act H F' H2 [D] → Same H1 H2 → d i = none → Rn H2) →
      g x (wipe σ vs) H1 fun σ2 H2 => wipe σ2 vs = wipe σ vs ∧ tt σ2 H2 fun b H3 => if b = true then te σ2 H3 Rs else Rn H3)
    (z : ∀ p H1 us, Same H H1 → H p = none → H1 p = some (.lst us) → DpAll K H1 us ((List.range xs.length).filterMap d) → Q (.ref p) H1) : tLc (iList K tl) g tt te vs σ H Q := by
  refine ha _ fun a H0 s0 hx => ⟨a, rfl, ⟨xs, hx⟩, fun D hD => ?_⟩
  have c0 : Act H H0 (upd H0 D (.lst [])) [D] := ⟨s0, same_upd hD, fun b hb => by cases List.mem_singleton.mp hb; exact ⟨hD, _, upd_same⟩, List.nodup_cons.mpr ⟨List.not_mem_nil, List.nodup_nil⟩⟩
  refine lc_list (xs := xs) (fun i H' => i ≤ xs.length ∧ ∃ F us, Same H0 F ∧ Act H F H' [D] ∧ H' D = some (.lst us) ∧ us.length ≤ i ∧ DpAll K F us ((List.range i).filterMap d)) ⟨Nat.zero_le _, H0, [], Same.refl _, c0, upd_same, Nat.le_refl _, .nil⟩ (fun i H' _ h => ?_) (fun i x H1 hi h => ?_) (fun H1 h => ?_)
  · obtain ⟨_, F, us, sF, c, _⟩ := h
    exact c.ext.seq (sF.seq hx)
  · obtain ⟨_, F, us, sF, c, hus, hul, hda⟩ := h
    have hi' : i < xs.length := (List.getElem?_eq_some_iff.mp hi).1
    refine hs i x D F H1 _ _ hi c (fun v F' H2 dd sF' c' s12 hd hv => ?_) (fun F' H2 sF' c' s12 hd => ?_)
    · refine ⟨us, s12 _ _ hus, small5' (by omega), hi', F', us ++ [v], sF.trans sF', c'.upd (by simp), upd_same, by rw [List.length_append, List.length_singleton]; omega, ?_⟩
      rw [List.range_succ, List.filterMap_append]
      refine da_app (dps_same sF' hda) ?_
      show DpAll K F' [v] ([i].filterMap d)
      rw [List.filterMap_cons, hd]
      exact da_one hv
    · refine ⟨hi', F', us, sF.trans sF', c', s12 _ _ hus, by omega, ?_⟩
      rw [List.range_succ, List.filterMap_append]
      show DpAll K F' us (_ ++ [i].filterMap d)
      rw [List.filterMap_cons, hd]
      show DpAll K F' us (_ ++ [])
      rw [List.append_nil]
      exact dps_same sF' hda
  · obtain ⟨_, F, us, sF, c, hus, hul, hda⟩ := h
    exact z D H1 us c.same (s0.free hD) hus (dps_same c.ext hda)
/-- [e for g in xs if t]: what the items are, as data; D is the list in the making -/
theorem s_lcF {g : TG} {tt : TT} {te tl : TE} {vs : List Nat} {xs : List V} (d : Nat → Option PyData) (hl : xs.length ≤ 100000) (ha : ∀ R : VK, (∀ a H1, Same H H1 → SqL K H1 a xs → R (.ref a) H1) → tl σ H R)
    (hs : ∀ (i : Nat) x D F H1 (Rs : VK) (Rn : Hp → Prop), xs[i]? = some x → Act H F H1 [D] → (∀ v F' H2 dd, Same F F' → Act H F' H2 [D] → Same H1 H2 → d i = some dd → Dp K F' v dd → Rs v H2) → (∀ F' H2, Same F F' → Act H F' H2 [D] → Same H1 H2 → d i = none → Rn H2) →
      g x (wipe σ vs) H1 fun σ2 H2 => wipe σ2 vs = wipe σ vs ∧ tt σ2 H2 fun b H3 => if b = true then te σ2 H3 Rs else Rn H3)
    (z : ∀ p F H1 us, Act H F H1 [p] → H1 p = some (.lst us) → DpAll K F us ((List.range xs.length).filterMap d) → us.length ≤ xs.length → Q (.ref p) H1) : tLc (iList K tl) g tt te vs σ H Q := by
  refine ha _ fun a H0 s0 hx => ⟨a, rfl, ⟨xs, hx⟩, fun D hD => ?_⟩
  have c0 : Act H H0 (upd H0 D (.lst [])) [D] := ⟨s0, same_upd hD, fun b hb => by cases List.mem_singleton.mp hb; exact ⟨hD, _, upd_same⟩, List.nodup_cons.mpr ⟨List.not_mem_nil, List.nodup_nil⟩⟩
  refine lc_list (xs := xs) (fun i H' => i ≤ xs.length ∧ ∃ F us, Same H0 F ∧ Act H F H' [D] ∧ H' D = some (.lst us) ∧ us.length ≤ i ∧ DpAll K F us ((List.range i).filterMap d)) ⟨Nat.zero_le _, H0, [], Same.refl _, c0, upd_same, Nat.le_refl _, .nil⟩ (fun i H' _ h => ?_) (fun i x H1 hi h => ?_) (fun H1 h => ?_)
  · obtain ⟨_, F, us, sF, c, _⟩ := h
    exact c.ext.seq (sF.seq hx)
  · obtain ⟨_, F, us, sF, c, hus, hul, hda⟩ := h
    have hi' : i < xs.length := (List.getElem?_eq_some_iff.mp hi).1
    refine hs i x D F H1 _ _ hi c (fun v F' H2 dd sF' c' s12 hd hv => ?_) (fun F' H2 sF' c' s12 hd => ?_)
    · refine ⟨us, s12 _ _ hus, small5' (by omega), hi', F', us ++ [v], sF.trans sF', c'.upd (by simp), upd_same, by rw [List.length_append, List.length_singleton]; omega, ?_⟩
      rw [List.range_succ, List.filterMap_append]
      refine da_app (dps_same sF' hda) ?_
      show DpAll K F' [v] ([i].filterMap d)
      rw [List.filterMap_cons, hd]
      exact da_one hv
    · refine ⟨hi', F', us, sF.trans sF', c', s12 _ _ hus, by omega, ?_⟩
      rw [List.range_succ, List.filterMap_append]
      show DpAll K F' us (_ ++ [i].filterMap d)
      rw [List.filterMap_cons, hd]
      show DpAll K F' us (_ ++ [])
      rw [List.append_nil]
      exact dps_same sF' hda
  · obtain ⟨_, F, us, sF, c, hus, hul, hda⟩ := h
    exact z D F H1 us c hus hda hul
theorem range_bind {α β : Type} (xs : List α) (f : α → Option β) : ∀ n, (List.range n).filterMap (fun i => (xs[i]?).bind f) = (xs.take n).filterMap f
  | 0 => rfl
  | n + 1 => by
    rw [List.range_succ, List.filterMap_append, range_bind xs f n, List.take_add_one, List.filterMap_append]
    congr 1
    cases h : xs[n]? with
    | none => simp [h]
    | some x => cases hf : f x <;> simp [h, hf]
theorem range_items {α β : Type} (xs : List α) (f : α → Option β) : (List.range xs.length).filterMap (fun i => (xs[i]?).bind f) = xs.filterMap f := by
  rw [range_bind, List.take_length]
theorem filterMap_some {α β : Type} (xs : List α) (f : α → β) : xs.filterMap (fun x => some (f x)) = xs.map f := by
  induction xs with
  | nil => rfl
  | cons x xs ih => rw [List.filterMap_cons, ih]; rfl
end
section
variable {K : PySem.W.Frag} {σ : L2.St} {H : Hp} {nx bk ct : L2.St → Hp → Prop} {rt : VK} {tu : TS}
/-- a loop over a list that is made for it somehow -/
theorem s_forN2 {k : Nat} {tl : TE} {xs : List V} (Pv : Nat → L2.St → Hp → Prop) (ha : ∀ R : VK, (∀ a H1, Same H H1 → H a = none → H1 a = some (.lst xs) → R (.ref a) H1) → tl σ H R) (h0 : ∀ H1, Same H H1 → Pv 0 σ H1)
    (hs : ∀ (i : Nat) x σ' H', xs[i]? = some x → Pv i σ' H' → tu ⟨fun σ2 H2 => Same H' H2 ∧ Pv (i + 1) σ2 H2, rt, nx, fun σ2 H2 => Same H' H2 ∧ Pv (i + 1) σ2 H2⟩ (σ'.set k (some x)) H') (hd : ∀ σ' H', Pv xs.length σ' H' → nx σ' H') : tFor (iList K tl) (gName k) tu ⟨nx, rt, bk, ct⟩ σ H := by
  refine ha _ fun a H1 s1 na h1 => ⟨a, rfl, ⟨xs, .inl (.inl h1)⟩, ?_⟩
  refine ⟨fun i m σ' H' => m = xs.length - i ∧ i ≤ xs.length ∧ H' a = some (.lst xs) ∧ Pv i σ' H', ⟨xs.length, by simp, Nat.zero_le _, h1, h0 H1 s1⟩, ?_⟩
  rintro i m σ' H2 ⟨rfl, hi, hq, q⟩
  by_cases hlt : i < xs.length
  · refine .inr ⟨⟨xs, xs[i], .inl (.inl hq), by simp [hlt]⟩, fun σ2 H3 => Same H2 H3 ∧ Pv (i + 1) σ2 H3, fun σ3 H3 q' => ⟨xs.length - (i + 1), by omega, rfl, hlt, q'.1 _ _ hq, q'.2⟩, fun x H3 y => ?_⟩
    obtain ⟨rfl, hx⟩ := y
    exact hs i x σ' _ (hx xs (.inl (.inl hq))) q
  · have e : i = xs.length := by omega
    subst e
    exact .inl ⟨⟨xs, .inl (.inl hq), Nat.le_refl _⟩, hd σ' H2 q⟩
end
theorem s_yes {σ : L2.St} {H : Hp} {T : Bool → Hp → Prop} (z : T true H) : tYes σ H T := z
end Jl

/-! Wholes: what they are, how a law makes one. -/
namespace Jl
open PySem L2
abbrev Part := Int × List Int
abbrev Lea := Int × Str × Int
structure Wh where
  step : Int
  size : Int
  entry : Int
  parts : List Part
  leans : List Lea
def partD (p : Part) : PyData := .tuple [.int p.1, .list (p.2.map PyData.int)]
def leanD (l : Lea) : PyData := .tuple [.int l.1, .str l.2.1, .int l.2.2]
def whD (w : Wh) : PyData := .tuple [.int w.step, .int w.size, .int w.entry, .list (w.parts.map partD), .list (w.leans.map leanD)]
def isRule (t : Str) : Prop := t = "whole" ∨ t = "high" ∨ t = "low"
def posW (pl : Int) : List Int → List (Int × Int)
  | [] => []
  | w :: ws => (pl, w) :: posW (pl + 1) ws
def wordsAt (ps : List Part) : List (Int × Int) := ps.flatMap fun p => posW p.1 p.2
def endOf (ps : List Part) : Int := match ps.getLast? with
  | none => 0
  | some p => p.1 + (p.2.length : Int)
theorem posW_app (pl : Int) : ∀ a b : List Int, posW pl (a ++ b) = posW pl a ++ posW (pl + (a.length : Int)) b := by
  intro a
  induction a generalizing pl with
  | nil => intro b; show posW pl b = [] ++ posW (pl + 0) b; rw [Int.add_zero]; rfl
  | cons w a ih =>
    intro b
    show (pl, w) :: posW (pl + 1) (a ++ b) = (pl, w) :: (posW (pl + 1) a ++ posW (pl + ((a.length + 1 : Nat) : Int)) b)
    rw [ih, show pl + 1 + (a.length : Int) = pl + ((a.length + 1 : Nat) : Int) by omega]
theorem posW_len (pl : Int) : ∀ a : List Int, (posW pl a).length = a.length := by
  intro a
  induction a generalizing pl with
  | nil => rfl
  | cons w a ih => show (posW (pl + 1) a).length + 1 = a.length + 1; rw [ih]
theorem wordsAt_part (ps : List Part) (pl : Int) : wordsAt (ps ++ [(pl, [])]) = wordsAt ps := by
  unfold wordsAt
  rw [List.flatMap_append]
  show _ ++ [] = _
  rw [List.append_nil]
theorem wordsAt_word (ps : List Part) (pl w : Int) (ws : List Int) : wordsAt (ps ++ [(pl, ws ++ [w])]) = wordsAt (ps ++ [(pl, ws)]) ++ [(pl + (ws.length : Int), w)] := by
  unfold wordsAt
  rw [List.flatMap_append, List.flatMap_append]
  show _ ++ (posW pl (ws ++ [w]) ++ []) = _ ++ (posW pl ws ++ []) ++ _
  rw [posW_app, List.append_nil, List.append_nil, List.append_assoc]
  rfl
theorem endOf_app (ps : List Part) (pl : Int) (ws : List Int) : endOf (ps ++ [(pl, ws)]) = pl + (ws.length : Int) := by
  unfold endOf
  rw [List.getLast?_append]
  rfl
/-- what is so of the parts and the leans of a whole in the making, n numbers gone -/
structure Fit (n : Nat) (ps : List Part) (ls : List Lea) : Prop where
  inc : ((wordsAt ps).map (·.1)).Pairwise (· < ·)
  low : ∀ x ∈ wordsAt ps, 0 ≤ x.1 ∧ x.1 < endOf ps ∧ 0 ≤ x.2 ∧ x.2 < 4294967296
  end0 : 0 ≤ endOf ps
  end1 : endOf ps ≤ 10000001 * n
  linc : (ls.map (·.1)).Pairwise (· < ·)
  lat : ∀ l ∈ ls, l.1 ∈ (wordsAt ps).map (·.1)
  lok : ∀ l ∈ ls, isRule l.2.1 ∧ -(10 ^ 11) ≤ l.2.2 ∧ l.2.2 ≤ 10 ^ 11
  np : ps.length ≤ n
  nl : ls.length ≤ n
  nw : (wordsAt ps).length ≤ n
  ppos : ∀ p ∈ ps, 0 ≤ p.1
theorem Fit.nil : Fit 0 [] [] where
  inc := List.Pairwise.nil
  low := fun _ h => by simp [wordsAt] at h
  end0 := Int.le_refl _
  end1 := Int.le_refl _
  linc := List.Pairwise.nil
  lat := fun _ h => by cases h
  lok := fun _ h => by cases h
  np := Nat.le_refl _
  nl := Nat.le_refl _
  nw := Nat.le_refl _
  ppos := fun _ h => by cases h
theorem Fit.part {n : Nat} {ps : List Part} {ls : List Lea} (h : Fit n ps ls) {pl : Int} (h1 : endOf ps ≤ pl) (h2 : pl < endOf ps + 10000000) : Fit (n + 1) (ps ++ [(pl, [])]) ls := by
  have e := endOf_app ps pl []
  have e0 : (([] : List Int).length : Int) = 0 := rfl
  rw [e0] at e
  have h3 := h.end0
  have h4 := h.end1
  refine ⟨by rw [wordsAt_part]; exact h.inc, fun x hx => ?_, by omega, by omega, h.linc, by rw [wordsAt_part]; exact h.lat, h.lok, ?_, Nat.le_succ_of_le h.nl, by rw [wordsAt_part]; exact Nat.le_succ_of_le h.nw, fun p hp => ?_⟩
  · rw [wordsAt_part] at hx
    have := h.low x hx
    omega
  · rw [List.length_append]; exact Nat.succ_le_succ h.np
  · rcases List.mem_append.mp hp with hp | hp
    · exact h.ppos p hp
    · cases List.mem_singleton.mp hp
      show 0 ≤ pl
      omega
theorem Fit.word {n : Nat} {ps : List Part} {ls ls' : List Lea} {pl w : Int} {ws : List Int} (h : Fit n (ps ++ [(pl, ws)]) ls) (hw : 0 ≤ w ∧ w < 4294967296)
    (hl : ls' = ls ∨ ∃ t g, ls' = ls ++ [(endOf (ps ++ [(pl, ws)]), t, g)] ∧ isRule t ∧ -(10 ^ 11) ≤ g ∧ g ≤ 10 ^ 11) : Fit (n + 1) (ps ++ [(pl, ws ++ [w])]) ls' := by
  have e1 := endOf_app ps pl ws
  have e2 := endOf_app ps pl (ws ++ [w])
  rw [List.length_append] at e2
  have e3 : ([w] : List Int).length = 1 := rfl
  have h3 := h.end0
  have h4 := h.end1
  have hm : (wordsAt (ps ++ [(pl, ws ++ [w])])).map (·.1) = (wordsAt (ps ++ [(pl, ws)])).map (·.1) ++ [pl + (ws.length : Int)] := by rw [wordsAt_word, List.map_append]; rfl
  have hlt : ∀ x ∈ (wordsAt (ps ++ [(pl, ws)])).map (·.1), x < pl + (ws.length : Int) := fun x hx => by
    obtain ⟨y, hy, rfl⟩ := List.mem_map.mp hx
    have := (h.low y hy).2.1
    omega
  refine ⟨?_, fun x hx => ?_, by omega, by omega, ?_, fun l hl' => ?_, fun l hl' => ?_, ?_, ?_, ?_, fun p hp => ?_⟩
  · rw [hm, List.pairwise_append]
    exact ⟨h.inc, List.pairwise_singleton _ _, fun x hx y hy => by cases List.mem_singleton.mp hy; exact hlt x hx⟩
  · rw [wordsAt_word] at hx
    rcases List.mem_append.mp hx with hx | hx
    · have := h.low x hx
      omega
    · cases List.mem_singleton.mp hx
      show 0 ≤ pl + (ws.length : Int) ∧ pl + (ws.length : Int) < _ ∧ 0 ≤ w ∧ w < 4294967296
      omega
  · rcases hl with rfl | ⟨t, g, rfl, _⟩
    · exact h.linc
    · rw [List.map_append, List.pairwise_append]
      refine ⟨h.linc, List.pairwise_singleton _ _, fun x hx y hy => ?_⟩
      obtain ⟨l, hl, rfl⟩ := List.mem_map.mp hx
      cases List.mem_singleton.mp hy
      show l.1 < endOf (ps ++ [(pl, ws)])
      have := hlt _ (h.lat l hl)
      omega
  · rw [hm]
    rcases hl with rfl | ⟨t, g, rfl, _⟩
    · exact List.mem_append_left _ (h.lat l hl')
    · rcases List.mem_append.mp hl' with hl' | hl'
      · exact List.mem_append_left _ (h.lat l hl')
      · cases List.mem_singleton.mp hl'
        refine List.mem_append_right _ ?_
        show endOf (ps ++ [(pl, ws)]) ∈ _
        rw [e1]; exact List.mem_singleton.mpr rfl
  · rcases hl with rfl | ⟨t, g, rfl, h5⟩
    · exact h.lok l hl'
    · rcases List.mem_append.mp hl' with hl' | hl'
      · exact h.lok l hl'
      · cases List.mem_singleton.mp hl'
        exact h5
  · have := h.np
    rw [List.length_append] at this ⊢
    have e4 : ([(pl, ws)] : List Part).length = 1 := rfl
    have e5 : ([(pl, ws ++ [w])] : List Part).length = 1 := rfl
    omega
  · have := h.nl
    rcases hl with rfl | ⟨t, g, rfl, _⟩
    · omega
    · rw [List.length_append]
      have e4 : ([(endOf (ps ++ [(pl, ws)]), t, g)] : List Lea).length = 1 := rfl
      omega
  · have := h.nw
    rw [wordsAt_word, List.length_append]
    exact Nat.succ_le_succ this
  · rcases List.mem_append.mp hp with hp | hp
    · exact h.ppos p (List.mem_append_left _ hp)
    · cases List.mem_singleton.mp hp
      exact h.ppos (pl, ws) (List.mem_append_right _ (List.mem_singleton.mpr rfl))
/-- a whole that a law has made -/
structure Good (most : Int) (w : Wh) : Prop where
  fit : Fit 63 w.parts w.leans
  size0 : endOf w.parts ≤ w.size
  size1 : w.size ≤ most
  entry : 0 ≤ w.entry ∧ w.entry ≤ w.size
  step : ∃ k : Nat, k ≤ 16 ∧ w.step = 2 ^ k
/-! the shape of such data -/
theorem rule_lay {t : Str} (h : isRule t) : (PyData.str t).canLay0 = true := by
  rcases h with rfl | rfl | rfl <;> decide +kernel
theorem partD_ok (p : Part) : (partD p).canLay0 = true ∧ (partD p).depth ≤ 3 := by
  refine ⟨?_, ?_⟩
  · show (true && (PyData.canLayAll0 (p.2.map PyData.int) && true)) = true
    rw [lay_ints]; rfl
  · have := depth_ints p.2
    show max 0 (max (PyData.depthAll (p.2.map PyData.int) + 1) 0) + 1 ≤ 3
    omega
theorem leanD_ok {l : Lea} (h : isRule l.2.1) : (leanD l).canLay0 = true ∧ (leanD l).depth ≤ 3 := by
  refine ⟨?_, ?_⟩
  · show (true && ((PyData.str l.2.1).canLay0 && (true && true))) = true
    rw [rule_lay h]; rfl
  · show max 0 (max 0 (max 0 0)) + 1 ≤ 3
    omega
theorem parts_shaped (ps : List Part) : SeqAt.shaped (.list (ps.map partD)) = true := by
  refine shaped_of (lay_all fun d hd => ?_) (Nat.le_trans (depth_list (n := 3) fun d hd => ?_) (by decide))
  · obtain ⟨p, _, rfl⟩ := List.mem_map.mp hd
    exact (partD_ok p).1
  · obtain ⟨p, _, rfl⟩ := List.mem_map.mp hd
    exact (partD_ok p).2
theorem leans_shaped {ls : List Lea} (h : ∀ l ∈ ls, isRule l.2.1) : SeqAt.shaped (.list (ls.map leanD)) = true := by
  refine shaped_of (lay_all fun d hd => ?_) (Nat.le_trans (depth_list (n := 3) fun d hd => ?_) (by decide))
  · obtain ⟨p, hp, rfl⟩ := List.mem_map.mp hd
    exact (leanD_ok (h p hp)).1
  · obtain ⟨p, hp, rfl⟩ := List.mem_map.mp hd
    exact (leanD_ok (h p hp)).2
theorem whD_shaped {w : Wh} (h : ∀ l ∈ w.leans, isRule l.2.1) : SeqAt.shaped (whD w) = true := by
  have h1 := parts_shaped w.parts
  have h2 := leans_shaped h
  refine shaped_of ?_ (Nat.le_trans (depth_tuple (n := 63) fun d hd => ?_) (by decide))
  · show (true && (true && (true && ((PyData.list (w.parts.map partD)).canLay0 && ((PyData.list (w.leans.map leanD)).canLay0 && true))))) = true
    rw [SeqAt.canLay_of_shaped h1, SeqAt.canLay_of_shaped h2]; rfl
  · simp only [List.mem_cons, List.not_mem_nil, or_false] at hd
    rcases hd with rfl | rfl | rfl | rfl | rfl
    · exact Nat.zero_le _
    · exact Nat.zero_le _
    · exact Nat.zero_le _
    · refine Nat.le_trans (depth_list (n := 3) fun d hd => ?_) (by decide)
      obtain ⟨p, hp, rfl⟩ := List.mem_map.mp hd
      exact (partD_ok p).2
    · refine Nat.le_trans (depth_list (n := 3) fun d hd => ?_) (by decide)
      obtain ⟨p, hp, rfl⟩ := List.mem_map.mp hd
      exact (leanD_ok (h p hp)).2
section
variable {K : PySem.W.Frag} {H H' B F : Hp} {P L t : Addr} {X : List Addr} {ps : List Part} {ls : List Lea} {Q : VK} {p q : Addr} {ds : List PyData}
theorem s_eqNilD (h1 : Dp K H (.ref p) (.list ds)) (hs : SeqAt.shaped (.list ds) = true) (h2 : H q = some (.lst [])) (z : Q (.bl (decide (ds = []))) H) : rEqD K (.ref p) (.ref q) H Q := by
  refine ⟨_, .list [], h1, .lst (.inl (.inl h2)) .nil, hs, by decide +kernel, ?_⟩
  cases ds with
  | nil => exact z
  | cons d ds => exact z
/-- the parts and the leans in the making: P, L and the last part's words are still written -/
def BW (K : PySem.W.Frag) (B F H : Hp) (P L : Addr) (X : List Addr) (ps : List Part) (ls : List Lea) : Prop :=
  (∃ vs, H L = some (.lst vs) ∧ DpAll K F vs (ls.map leanD)) ∧
  ((ps = [] ∧ H P = some (.lst []) ∧ Act B F H (P :: L :: X)) ∨
    ∃ ps0 pl ws xs t W, ps = ps0 ++ [(pl, ws)] ∧ H P = some (.lst (xs ++ [.ref t])) ∧ F t = some (.tup [.int pl, .ref W]) ∧ H W = some (.lst (ws.map V.int)) ∧ DpAll K F xs (ps0.map partD) ∧ Act B F H (W :: P :: L :: X))
theorem BW.same (h : BW K B F H P L X ps ls) (e : Same H H') : BW K B F H' P L X ps ls := by
  obtain ⟨⟨vs, h1, h2⟩, h⟩ := h
  refine ⟨⟨vs, e _ _ h1, h2⟩, ?_⟩
  rcases h with ⟨rfl, h3, c⟩ | ⟨ps0, pl, ws, xs, t, W, rfl, h3, h4, h5, h6, c⟩
  · exact .inl ⟨rfl, e _ _ h3, c.sm e⟩
  · exact .inr ⟨ps0, pl, ws, xs, t, W, rfl, e _ _ h3, h4, e _ _ h5, h6, c.sm e⟩
theorem BW.ext (h : BW K B F H P L X ps ls) : Same F H := by
  rcases h.2 with ⟨_, _, c⟩ | ⟨_, _, _, _, _, _, _, _, _, _, _, c⟩ <;> exact c.ext
theorem BW.base (h : BW K B F H P L X ps ls) : Same B F := by
  rcases h.2 with ⟨_, _, c⟩ | ⟨_, _, _, _, _, _, _, _, _, _, _, c⟩ <;> exact c.base
theorem BW.dpP (h : BW K B F H P L X ps ls) : Dp K H (.ref P) (.list (ps.map partD)) := by
  have e := h.ext
  rcases h.2 with ⟨rfl, h3, c⟩ | ⟨ps0, pl, ws, xs, t, W, rfl, h3, h4, h5, h6, c⟩
  · exact .lst (.inl (.inl h3)) .nil
  · refine .lst (.inl (.inl h3)) ?_
    rw [List.map_append]
    refine da_app (dps_same e h6) (da_one ?_)
    exact .tup (.inl (.inl (e _ _ h4))) (.cons (.int _) (.cons (dp_intL (.inl (.inl h5))) .nil))
theorem BW.dpL (h : BW K B F H P L X ps ls) : Dp K H (.ref L) (.list (ls.map leanD)) := by
  obtain ⟨vs, h1, h2⟩ := h.1
  exact .lst (.inl (.inl h1)) (dps_same h.ext h2)
theorem same_old {H0 : Hp} {o : HO} (e : Same H0 H) (h : H0 p = none) : Same H0 (upd H p o) := same_mut e h
/-- a part is put behind -/
theorem BW.part (h : BW K B F H P L X ps ls) {W t : Addr} {pl : Int} (hW : H W = none) (ht : upd H W (.lst []) t = none) : ∃ vs, H P = some (.lst vs) ∧ vs.length = ps.length ∧ (upd (upd H W (.lst [])) t (.tup [.int pl, .ref W])) P = some (.lst vs) ∧
    ∃ F', Same F F' ∧ BW K B F' (upd (upd (upd H W (.lst [])) t (.tup [.int pl, .ref W])) P (.lst (vs ++ [.ref t]))) P L X (ps ++ [(pl, [])]) ls := by
  obtain ⟨⟨us, h1, h2⟩, h⟩ := h
  rcases h with ⟨rfl, h3, c⟩ | ⟨ps0, pl0, ws, xs, t0, W0, rfl, h3, h4, h5, h6, c⟩
  · have c1 := c.newA (o := .lst []) hW
    have c2 := c1.new (o := .tup [.int pl, .ref W]) ht
    have c3 := c2.upd (a := P) (o := .lst ([] ++ [.ref t])) (by simp)
    have hF := same_upd (o := .tup [.int pl, .ref W]) (c1.ext.free ht)
    have nd := c2.nd
    have f2 : (upd (upd H W (.lst [])) t (.tup [.int pl, .ref W])) P = some (.lst []) := Same.trans (same_upd hW) (same_upd ht) _ _ h3
    have g2 : (upd (upd H W (.lst [])) t (.tup [.int pl, .ref W])) L = some (.lst us) := Same.trans (same_upd hW) (same_upd ht) _ _ h1
    have w2 : (upd (upd H W (.lst [])) t (.tup [.int pl, .ref W])) W = some (.lst []) := same_upd ht _ _ upd_same
    refine ⟨[], h3, rfl, f2, _, hF, ⟨us, ?_, dps_same hF h2⟩, .inr ⟨[], pl, [], [], t, W, rfl, upd_same, upd_same, ?_, .nil, c3⟩⟩
    · rw [upd_ne (nd_ne nd 1 2 (by decide) rfl rfl).symm]; exact g2
    · rw [upd_ne (nd_ne nd 0 1 (by decide) rfl rfl)]; exact w2
  · have c0 := c.fz h5
    have hF0 := c.fz_same (o := .lst (ws.map V.int))
    have c1 := c0.newA (o := .lst []) hW
    have c2 := c1.new (o := .tup [.int pl, .ref W]) ht
    have c3 := c2.upd (a := P) (o := .lst (xs ++ [.ref t0] ++ [.ref t])) (by simp)
    have hF1 := same_upd (o := .tup [.int pl, .ref W]) (c1.ext.free ht)
    have hF := hF0.trans hF1
    have nd := c2.nd
    have f2 : (upd (upd H W (.lst [])) t (.tup [.int pl, .ref W])) P = some (.lst (xs ++ [.ref t0])) := Same.trans (same_upd hW) (same_upd ht) _ _ h3
    have g2 : (upd (upd H W (.lst [])) t (.tup [.int pl, .ref W])) L = some (.lst us) := Same.trans (same_upd hW) (same_upd ht) _ _ h1
    have w2 : (upd (upd H W (.lst [])) t (.tup [.int pl, .ref W])) W = some (.lst []) := same_upd ht _ _ upd_same
    refine ⟨xs ++ [.ref t0], h3, ?_, f2, _, hF, ⟨us, ?_, dps_same hF h2⟩, .inr ⟨ps0 ++ [(pl0, ws)], pl, [], xs ++ [.ref t0], t, W, rfl, upd_same, upd_same, ?_, ?_, c3⟩⟩
    · have := da_len h6
      rw [List.length_map] at this
      rw [List.length_append, List.length_append, this]; rfl
    · rw [upd_ne (nd_ne nd 1 2 (by decide) rfl rfl).symm]; exact g2
    · rw [upd_ne (nd_ne nd 0 1 (by decide) rfl rfl)]; exact w2
    · rw [List.map_append]
      refine da_app (dps_same hF h6) (da_one ?_)
      exact .tup (.inl (.inl (hF _ _ h4))) (.cons (.int _) (.cons (dp_intL (.inl (.inl (hF1 _ _ upd_same)))) .nil))
/-- a word is put behind -/
theorem BW.word {ps0 : List Part} {pl : Int} {ws : List Int} (h : BW K B F H P L X (ps0 ++ [(pl, ws)]) ls) : ∃ xs t W, H P = some (.lst (xs ++ [.ref t])) ∧ H t = some (.tup [.int pl, .ref W]) ∧ H W = some (.lst (ws.map V.int)) ∧
    ∀ w : Int, BW K B F (upd H W (.lst (ws.map V.int ++ [.int w]))) P L X (ps0 ++ [(pl, ws ++ [w])]) ls := by
  obtain ⟨⟨us, h1, h2⟩, h⟩ := h
  rcases h with ⟨e, _⟩ | ⟨ps1, pl1, ws1, xs, t0, W0, e, h3, h4, h5, h6, c⟩
  · cases ps0 <;> cases e
  · obtain ⟨rfl, e2⟩ := List.append_inj' e rfl
    cases e2
    refine ⟨xs, t0, W0, h3, c.ext _ _ h4, h5, fun w => ⟨⟨us, ?_, h2⟩, .inr ⟨ps0, pl, ws ++ [w], xs, t0, W0, rfl, ?_, h4, ?_, h6, c.upd (by simp)⟩⟩⟩
    · rw [upd_ne (nd_ne c.nd 0 2 (by decide) rfl rfl).symm]; exact h1
    · rw [upd_ne (nd_ne c.nd 0 1 (by decide) rfl rfl).symm]; exact h3
    · rw [upd_same, List.map_append]; rfl
/-- a lean is put behind -/
theorem BW.lean (h : BW K B F H P L X ps ls) {t : Addr} {a b : Int} {z : Str} (ht : H t = none) : ∃ vs, H L = some (.lst vs) ∧ vs.length = ls.length ∧ (upd H t (.tup [.int a, .str z, .int b])) L = some (.lst vs) ∧
    ∃ F', Same F F' ∧ F' t = some (.tup [.int a, .str z, .int b]) ∧ BW K B F' (upd (upd H t (.tup [.int a, .str z, .int b])) L (.lst (vs ++ [.ref t]))) P L X ps (ls ++ [(a, z, b)]) := by
  obtain ⟨⟨us, h1, h2⟩, h⟩ := h
  have hl := da_len h2
  rw [List.length_map] at hl
  have g2 : (upd H t (.tup [.int a, .str z, .int b])) L = some (.lst us) := same_upd ht _ _ h1
  rcases h with ⟨rfl, h3, c⟩ | ⟨ps0, pl0, ws, xs, t0, W0, rfl, h3, h4, h5, h6, c⟩
  · have c2 := c.new (o := .tup [.int a, .str z, .int b]) ht
    have c3 := c2.upd (a := L) (o := .lst (us ++ [.ref t])) (by simp)
    have hF := same_upd (o := .tup [.int a, .str z, .int b]) (c.ext.free ht)
    refine ⟨us, h1, hl, g2, _, hF, upd_same, ⟨_, upd_same, ?_⟩, .inl ⟨rfl, ?_, c3⟩⟩
    · rw [List.map_append]
      exact da_app (dps_same hF h2) (da_one (.tup (.inl (.inl upd_same)) (.cons (.int _) (.cons (.str _) (.cons (.int _) .nil)))))
    · rw [upd_ne (nd_ne c.nd 0 1 (by decide) rfl rfl)]; exact same_upd ht _ _ h3
  · have c2 := c.new (o := .tup [.int a, .str z, .int b]) ht
    have c3 := c2.upd (a := L) (o := .lst (us ++ [.ref t])) (by simp)
    have hF := same_upd (o := .tup [.int a, .str z, .int b]) (c.ext.free ht)
    refine ⟨us, h1, hl, g2, _, hF, upd_same, ⟨_, upd_same, ?_⟩, .inr ⟨ps0, pl0, ws, xs, t0, W0, rfl, ?_, hF _ _ h4, ?_, dps_same hF h6, c3⟩⟩
    · rw [List.map_append]
      exact da_app (dps_same hF h2) (da_one (.tup (.inl (.inl upd_same)) (.cons (.int _) (.cons (.str _) (.cons (.int _) .nil)))))
    · rw [upd_ne (nd_ne c.nd 1 2 (by decide) rfl rfl)]; exact same_upd ht _ _ h3
    · rw [upd_ne (nd_ne c.nd 0 2 (by decide) rfl rfl)]; exact same_upd ht _ _ h5
/-- an object beside is new, or one of X is written -/
theorem BW.new (h : BW K B F H P L X ps ls) {p : Addr} {o : HO} (hp : H p = none) : BW K B (upd F p o) (upd H p o) P L X ps ls ∧ Same F (upd F p o) := by
  have hF := same_upd (o := o) (h.ext.free hp)
  obtain ⟨⟨us, h1, h2⟩, h⟩ := h
  refine ⟨⟨⟨us, same_upd hp _ _ h1, dps_same hF h2⟩, ?_⟩, hF⟩
  rcases h with ⟨rfl, h3, c⟩ | ⟨ps0, pl0, ws, xs, t0, W0, rfl, h3, h4, h5, h6, c⟩
  · exact .inl ⟨rfl, same_upd hp _ _ h3, c.new hp⟩
  · exact .inr ⟨ps0, pl0, ws, xs, t0, W0, rfl, same_upd hp _ _ h3, hF _ _ h4, same_upd hp _ _ h5, dps_same hF h6, c.new hp⟩
theorem BW.newX (h : BW K B F H P L X ps ls) {p : Addr} {o : HO} (hp : H p = none) : BW K B F (upd H p o) P L (p :: X) ps ls := by
  obtain ⟨⟨us, h1, h2⟩, h⟩ := h
  refine ⟨⟨us, same_upd hp _ _ h1, h2⟩, ?_⟩
  rcases h with ⟨rfl, h3, c⟩ | ⟨ps0, pl0, ws, xs, t0, W0, rfl, h3, h4, h5, h6, c⟩
  · exact .inl ⟨rfl, same_upd hp _ _ h3, (c.newA hp).perm ((List.Perm.swap ..).trans ((List.Perm.swap ..).cons _))⟩
  · exact .inr ⟨ps0, pl0, ws, xs, t0, W0, rfl, same_upd hp _ _ h3, h4, same_upd hp _ _ h5, h6, (c.newA hp).perm ((List.Perm.swap ..).trans (((List.Perm.swap ..).trans ((List.Perm.swap ..).cons _)).cons _))⟩
theorem BW.updX (h : BW K B F H P L X ps ls) {p : Addr} {o : HO} (hp : p ∈ X) : BW K B F (upd H p o) P L X ps ls := by
  obtain ⟨⟨us, h1, h2⟩, h⟩ := h
  rcases h with ⟨rfl, h3, c⟩ | ⟨ps0, pl0, ws, xs, t0, W0, rfl, h3, h4, h5, h6, c⟩
  · have nd := c.nd
    simp only [List.nodup_cons, List.mem_cons, not_or] at nd
    refine ⟨⟨us, ?_, h2⟩, .inl ⟨rfl, ?_, c.upd (by simp [hp])⟩⟩
    · rw [upd_ne fun e => nd.2.1 (by rw [e]; exact hp)]; exact h1
    · rw [upd_ne fun e => nd.1.2 (by rw [e]; exact hp)]; exact h3
  · have nd := c.nd
    simp only [List.nodup_cons, List.mem_cons, not_or] at nd
    refine ⟨⟨us, ?_, h2⟩, .inr ⟨ps0, pl0, ws, xs, t0, W0, rfl, ?_, h4, ?_, h6, c.upd (by simp [hp])⟩⟩
    · rw [upd_ne fun e => nd.2.2.1 (by rw [e]; exact hp)]; exact h1
    · rw [upd_ne fun e => nd.2.1.2 (by rw [e]; exact hp)]; exact h3
    · rw [upd_ne fun e => nd.1.2.2 (by rw [e]; exact hp)]; exact h5
/-- one of X is written no more -/
theorem BW.fzX {p : Addr} {o : HO} (h : BW K B F H P L (p :: X) ps ls) (hp : H p = some o) : BW K B (upd F p o) H P L X ps ls ∧ Same F (upd F p o) := by
  obtain ⟨⟨us, h1, h2⟩, h⟩ := h
  rcases h with ⟨rfl, h3, c⟩ | ⟨ps0, pl0, ws, xs, t0, W0, rfl, h3, h4, h5, h6, c⟩
  · have c1 := c.perm (((List.Perm.swap p L X).cons P).trans (List.Perm.swap ..))
    have hF := c1.fz_same (o := o)
    exact ⟨⟨⟨us, h1, dps_same hF h2⟩, .inl ⟨rfl, h3, c1.fz hp⟩⟩, hF⟩
  · have c1 := c.perm ((((List.Perm.swap p L X).cons P).trans (List.Perm.swap ..)).cons W0 |>.trans (List.Perm.swap ..))
    have hF := c1.fz_same (o := o)
    exact ⟨⟨⟨us, h1, dps_same hF h2⟩, .inr ⟨ps0, pl0, ws, xs, t0, W0, rfl, h3, hF _ _ h4, h5, dps_same hF h6, c1.fz hp⟩⟩, hF⟩
end
/-! numbers as texts -/
theorem log_ok2 {n : Int} (h1 : -(10 ^ 70) ≤ n) (h2 : n ≤ 10 ^ 70) : n.natAbs.log2 < 1920 := by
  by_cases z : n.natAbs = 0
  · rw [z]; decide
  · exact Nat.lt_of_lt_of_le ((Nat.log2_lt (k := 240) z).mpr (by omega)) (by decide)
def numT (n : Int) : Str := Str.ofString (toString n)
theorem s_strN {n : Int} {H : Hp} {Q : VK} (h1 : -(10 ^ 70) ≤ n) (h2 : n ≤ 10 ^ 70) (z : (numT n).length ≤ 1921 → Q (.str (numT n)) H) : rStrI [.int n] H Q :=
  ⟨n, rfl, log_ok2 h1 h2, z (PyProof.Rows.int_text_len_1921 (log_ok2 h1 h2))⟩
theorem two_small {k : Nat} (h : k ≤ 16) : (0 : Int) < 2 ^ k ∧ (2 : Int) ^ k ≤ 65536 := by
  have : k = 0 ∨ k = 1 ∨ k = 2 ∨ k = 3 ∨ k = 4 ∨ k = 5 ∨ k = 6 ∨ k = 7 ∨ k = 8 ∨ k = 9 ∨ k = 10 ∨ k = 11 ∨ k = 12 ∨ k = 13 ∨ k = 14 ∨ k = 15 ∨ k = 16 := by omega
  rcases this with h | h | h | h | h | h | h | h | h | h | h | h | h | h | h | h | h <;> (rw [h]; decide)
theorem Good.stepOk {most : Int} {w : Wh} (g : Good most w) : 0 < w.step ∧ w.step ≤ 65536 := by
  obtain ⟨k, hk, e⟩ := g.step
  rw [e]; exact two_small hk
theorem cutV_ints (ns : List Int) (lo hi : Option Int) : ∃ ms : List Int, cutV (ns.map V.int) lo hi = ms.map V.int ∧ ms.length ≤ ns.length := by
  refine ⟨(ns.drop (HT.sIx (ns.map V.int).length 0 lo)).take (HT.sIx (ns.map V.int).length (ns.map V.int).length hi - HT.sIx (ns.map V.int).length 0 lo), ?_, ?_⟩
  · rw [List.map_take, List.map_drop]; rfl
  · rw [List.length_take, List.length_drop]; omega
end Jl

/-! A whole loaded at a base. -/
namespace Jl
open PySem L2
/-- a dict of ints, its entries in their order -/
def DL (H : Hp) (m : Addr) (L : List (Int × Int)) : Prop := H m = some (.dK (L.map fun x => ((Sum.inl x.1 : Key), V.int x.2)))
section
variable {H H' : Hp} {m p : Addr} {L : List (Int × Int)} {a w : Int}
theorem DL.same (e : Same H H') (D : DL H m L) : DL H' m L := e _ _ D
theorem valL_some : ∀ {L : List (Int × Int)}, (L.map (·.1)).Nodup → (a, w) ∈ L → valV (L.map fun x => ((Sum.inl x.1 : Key), V.int x.2)) (Sum.inl a) = some (.int w)
  | x :: L, nd, h => by
    rw [List.map_cons]
    by_cases e : x.1 = a
    · rw [valV_pos (show (Sum.inl x.1 : Key) = Sum.inl a by rw [e])]
      rcases List.mem_cons.mp h with h | h
      · rw [← h]
      · have := (List.nodup_cons.mp nd).1
        exact absurd (List.mem_map.mpr ⟨_, h, e.symm⟩) this
    · rw [valV_neg (show ¬ (Sum.inl x.1 : Key) = Sum.inl a from fun z => e (Sum.inl.inj z))]
      rcases List.mem_cons.mp h with h | h
      · rw [← h] at e; exact absurd rfl e
      · exact valL_some (List.nodup_cons.mp nd).2 h
theorem valL_none : ∀ {L : List (Int × Int)}, a ∉ L.map (·.1) → valV (L.map fun x => ((Sum.inl x.1 : Key), V.int x.2)) (Sum.inl a) = none
  | [], _ => rfl
  | x :: L, h => by
    rw [List.map_cons] at h ⊢
    rw [valV_neg (show ¬ (Sum.inl x.1 : Key) = Sum.inl a from fun z => h (by rw [← Sum.inl.inj z]; exact List.mem_cons_self))]
    exact valL_none fun z => h (List.mem_cons_of_mem _ z)
theorem DL.get (D : DL H m L) (nd : (L.map (·.1)).Nodup) (h : (a, w) ∈ L) : DGet H m (.int a) (some (.int w)) := by
  rw [← valL_some nd h]
  exact DGet.k (k := (Sum.inl a : Key)) D
theorem DL.no (D : DL H m L) (h : a ∉ L.map (·.1)) : DGet H m (.int a) none := by
  rw [← valL_none h]
  exact DGet.k (k := (Sum.inl a : Key)) D
theorem putK_new {κ : Type} [DecidableEq κ] {kvs : List (κ × V)} {k : κ} {v : V} (h : ∀ x ∈ kvs, x.1 ≠ k) : putK kvs k v = kvs ++ [(k, v)] := by
  unfold putK
  rw [if_neg]
  intro z
  obtain ⟨x, hx, e⟩ := List.any_eq_true.mp z
  exact h x hx (of_decide_eq_true e)
theorem putK_old {κ : Type} [DecidableEq κ] {kvs : List (κ × V)} {k : κ} {v : V} (h : ∃ x ∈ kvs, x.1 = k) : putK kvs k v = kvs.map fun x => if x.1 = k then (x.1, v) else x := by
  unfold putK
  rw [if_pos]
  obtain ⟨x, hx, e⟩ := h
  exact List.any_eq_true.mpr ⟨x, hx, decide_eq_true e⟩
theorem DL.put (D : DL H m L) (h : a ∉ L.map (·.1)) (hl : L.length ≤ 99999) : ∃ o, DPut H m (.int a) (.int w) (upd H m o) ∧ DL (upd H m o) m (L ++ [(a, w)]) := by
  refine ⟨_, DPut.k (k := (Sum.inl a : Key)) (v := .int w) D (small5' (by rw [List.length_map]; omega)), ?_⟩
  rw [putK_new]
  · unfold DL
    rw [upd_same, List.map_append]; rfl
  · intro x hx e
    obtain ⟨y, hy, rfl⟩ := List.mem_map.mp hx
    exact h (List.mem_map.mpr ⟨y, hy, Sum.inl.inj e⟩)
theorem DL.set (D : DL H m L) (h : a ∈ L.map (·.1)) (hl : L.length ≤ 99999) : ∃ o, DPut H m (.int a) (.int w) (upd H m o) ∧ DL (upd H m o) m (L.map fun x => if x.1 = a then (x.1, w) else x) := by
  refine ⟨_, DPut.k (k := (Sum.inl a : Key)) (v := .int w) D (small5' (by rw [List.length_map]; omega)), ?_⟩
  rw [putK_old]
  · unfold DL
    rw [upd_same, List.map_map, List.map_map]
    congr 3
    funext x
    show (if (Sum.inl x.1 : Key) = Sum.inl a then ((Sum.inl x.1 : Key), V.int w) else (Sum.inl x.1, V.int x.2)) = _
    by_cases e : x.1 = a
    · rw [if_pos (by rw [e])]
      show _ = ((Sum.inl (if x.1 = a then (x.1, w) else x).1 : Key), V.int (if x.1 = a then (x.1, w) else x).2)
      rw [if_pos e]
    · rw [if_neg (fun z => e (Sum.inl.inj z))]
      show _ = ((Sum.inl (if x.1 = a then (x.1, w) else x).1 : Key), V.int (if x.1 = a then (x.1, w) else x).2)
      rw [if_neg e]
  · obtain ⟨y, hy, e⟩ := List.mem_map.mp h
    exact ⟨_, List.mem_map.mpr ⟨y, hy, rfl⟩, by show (Sum.inl y.1 : Key) = _; rw [e]⟩
theorem DL.new : DL (upd H m (.dK [])) m [] := upd_same
end
theorem key_uniq {a u v : Int} : ∀ {L : List (Int × Int)}, (L.map (·.1)).Nodup → (a, u) ∈ L → (a, v) ∈ L → u = v
  | x :: L, nd, h1, h2 => by
    have n := List.nodup_cons.mp nd
    rcases List.mem_cons.mp h1 with h1 | h1
    · rcases List.mem_cons.mp h2 with h2 | h2
      · cases h1.trans h2.symm; rfl
      · exact absurd (List.mem_map.mpr ⟨_, h2, by rw [← h1]⟩) n.1
    · rcases List.mem_cons.mp h2 with h2 | h2
      · exact absurd (List.mem_map.mpr ⟨_, h1, by rw [← h2]⟩) n.1
      · exact key_uniq n.2 h1 h2
theorem s_methT {σ : L2.St} {H : Hp} {Q : VK} {ta : TE} {tr : TA} {C : Addr} {m : Str} {sp : Sp} {E : XK} (z : ta σ H fun x H1 => ∃ a dx fs, x = .ref a ∧ H1 a = some (.ins C dx fs) ∧ fs.lookup m = none ∧ tr σ H1 fun vs H2 => sp (x :: vs) H2 Q E) : tMeth C m sp [] E ta tr σ H Q := by
  unfold tMeth
  simp only [List.append_nil]
  exact z
def fillR (r : Str) (w t : Int) : Int := if r = "whole" then t % 4294967296 else if r = "high" then w - w % 65536 + (t + 32768) / 65536 % 65536 else w - w % 65536 + t % 65536
def filledW (ls : List Lea) (b : Int) (x : Int × Int) : Int := match ls.find? (fun l => l.1 == x.1) with
  | none => x.2
  | some l => fillR l.2.1 x.2 (b + l.2.2)
def memOf (w : Wh) (b : Int) : List (Int × Int) := (wordsAt w.parts).map fun x => (b + x.1, filledW w.leans b x)
def fitsAt (w : Wh) (b : Int) : Prop := 1 ≤ b ∧ b % w.step = 0 ∧ b + w.size < 4294967296
theorem nodup_inc {l : List Int} (h : l.Pairwise (· < ·)) : l.Nodup := h.imp (fun h e => by omega)
theorem filled_more {ls : List Lea} {l : Lea} {b : Int} {x : Int × Int} (h : ∀ k ∈ ls, k.1 < l.1) : filledW (ls ++ [l]) b x = if x.1 = l.1 then fillR l.2.1 x.2 (b + l.2.2) else filledW ls b x := by
  unfold filledW
  rw [List.find?_append]
  by_cases e : x.1 = l.1
  · rw [if_pos e]
    have e1 : ls.find? (fun k => k.1 == x.1) = none := List.find?_eq_none.mpr fun k hk => by
      have := h k hk
      rw [e]
      simp only [beq_iff_eq]
      omega
    rw [e1]
    have e2 : [l].find? (fun k => k.1 == x.1) = some l := by
      rw [List.find?_cons, e]
      simp
    rw [e2]; rfl
  · rw [if_neg e]
    have e2 : [l].find? (fun k => k.1 == x.1) = none := by
      rw [List.find?_cons]
      have : (l.1 == x.1) = false := by simp only [beq_eq_false_iff_ne]; exact fun z => e z.symm
      rw [this]; rfl
    rw [e2]
    cases ls.find? (fun k => k.1 == x.1) <;> rfl
theorem filled_none {ls : List Lea} {b : Int} {x : Int × Int} (h : ∀ k ∈ ls, k.1 ≠ x.1) : filledW ls b x = x.2 := by
  unfold filledW
  have e1 : ls.find? (fun k => k.1 == x.1) = none := List.find?_eq_none.mpr fun k hk => by
    have := h k hk
    simpa using this
  rw [e1]
/-- the memory, some leans gone -/
def memAt (ps : List Part) (ls : List Lea) (b : Int) : List (Int × Int) := (wordsAt ps).map fun x => (b + x.1, filledW ls b x)
theorem memAt_keys (ps : List Part) (ls : List Lea) (b : Int) : (memAt ps ls b).map (·.1) = ((wordsAt ps).map (·.1)).map (b + ·) := by
  unfold memAt
  rw [List.map_map, List.map_map]; rfl
theorem memAt_nodup {n : Nat} {ps : List Part} {ls ls' : List Lea} {b : Int} (f : Fit n ps ls') : ((memAt ps ls b).map (·.1)).Nodup := by
  rw [memAt_keys]
  refine nodup_inc (List.pairwise_map.mpr (f.inc.imp fun h => ?_))
  omega
theorem memAt_set {ps : List Part} {ls : List Lea} {l : Lea} {b wd : Int} (h : ∀ k ∈ ls, k.1 < l.1) (hw : ∀ x ∈ wordsAt ps, x.1 = l.1 → x.2 = wd) :
    (memAt ps ls b).map (fun x => if x.1 = b + l.1 then (x.1, fillR l.2.1 wd (b + l.2.2)) else x) = memAt ps (ls ++ [l]) b := by
  unfold memAt
  rw [List.map_map]
  refine List.map_congr_left fun x hx => ?_
  show (if b + x.1 = b + l.1 then (b + x.1, fillR l.2.1 wd (b + l.2.2)) else (b + x.1, filledW ls b x)) = (b + x.1, filledW (ls ++ [l]) b x)
  rw [filled_more h]
  by_cases e : x.1 = l.1
  · rw [if_pos (by rw [e]), if_pos e, hw x hx e]
  · rw [if_neg (by omega), if_neg e]
theorem memAt_nil (ps : List Part) (b : Int) : memAt ps [] b = (wordsAt ps).map fun x => (b + x.1, x.2) := rfl
section
variable {K : PySem.W.Frag} {H : Hp} {x : V} {w : Wh}
theorem dp_wh (h : Dp K H x (whD w)) : ∃ t p l xs ys, x = .ref t ∧ SqT K H t [.int w.step, .int w.size, .int w.entry, .ref p, .ref l] ∧ SqL K H p xs ∧ DpAll K H xs (w.parts.map partD) ∧ SqL K H l ys ∧ DpAll K H ys (w.leans.map leanD) := by
  obtain ⟨t, u0, e0, h1, g0⟩ := dp_tup h
  obtain ⟨u1, e1, g1⟩ := da_int g0
  obtain ⟨u2, e2, g2⟩ := da_int g1
  obtain ⟨u3, e3, g3⟩ := da_int g2
  obtain ⟨v, u4, e4, h3, g4⟩ := da_cons g3
  obtain ⟨p, xs, e5, h4, h5⟩ := dp_list h3
  obtain ⟨v2, u5, e6, h6, g5⟩ := da_cons g4
  obtain ⟨l, ys, e7, h7, h8⟩ := dp_list h6
  have e8 := da_nil g5
  subst e0 e1 e2 e3 e4 e5 e6 e7 e8
  exact ⟨t, p, l, xs, ys, rfl, h1, h4, h5, h7, h8⟩
theorem dp_part {q : Part} (h : Dp K H x (partD q)) : ∃ t W, x = .ref t ∧ SqT K H t [.int q.1, .ref W] ∧ SqL K H W (q.2.map V.int) := by
  obtain ⟨t, u0, e0, h1, g0⟩ := dp_tup h
  obtain ⟨u1, e1, g1⟩ := da_int g0
  obtain ⟨v, u2, e2, h3, g2⟩ := da_cons g1
  obtain ⟨W, e3, h4⟩ := dp_intl h3
  have e4 := da_nil g2
  subst e0 e1 e2 e3 e4
  exact ⟨t, W, rfl, h1, h4⟩
theorem dp_lean {q : Lea} (h : Dp K H x (leanD q)) : ∃ t, x = .ref t ∧ SqT K H t [.int q.1, .str q.2.1, .int q.2.2] := by
  obtain ⟨t, u0, e0, h1, g0⟩ := dp_tup h
  obtain ⟨u1, e1, g1⟩ := da_int g0
  obtain ⟨u2, e2, g2⟩ := da_str g1
  obtain ⟨u3, e3, g3⟩ := da_int g2
  have e4 := da_nil g3
  subst e0 e1 e2 e3 e4
  exact ⟨t, rfl, h1⟩
end
/-- a dict with int keys, its entries in their order -/
def DV (H : Hp) (m : Addr) (L : List (Int × V)) : Prop := H m = some (.dK (L.map fun x => ((Sum.inl x.1 : Key), x.2)))
theorem valV_find (a : Int) : ∀ L : List (Int × V), valV (L.map fun x => ((Sum.inl x.1 : Key), x.2)) (Sum.inl a) = (L.find? fun x => x.1 == a).map (·.2)
  | [] => rfl
  | x :: L => by
    rw [List.map_cons, List.find?_cons]
    by_cases e : x.1 = a
    · rw [valV_pos (show (Sum.inl x.1 : Key) = Sum.inl a by rw [e]), show (x.1 == a) = true from beq_iff_eq.mpr e]; rfl
    · rw [valV_neg (show ¬ (Sum.inl x.1 : Key) = Sum.inl a from fun z => e (Sum.inl.inj z)), show (x.1 == a) = false from beq_eq_false_iff_ne.mpr e]
      exact valV_find a L
section
variable {H H' : Hp} {m d : Addr} {L : List (Int × V)} {a : Int} {v : V}
theorem DV.get (D : DV H m L) (a : Int) : DGet H m (.int a) ((L.find? fun x => x.1 == a).map (·.2)) := by
  rw [← valV_find]
  exact DGet.k (k := (Sum.inl a : Key)) D
theorem DV.same' (D : DV H m L) (s : Same H H') : DV H' m L := s _ _ D
theorem DV.new : DV (upd H m (.dK [])) m [] := upd_same
theorem DV.put (D : DV H m L) (h : a ∉ L.map (·.1)) (hl : L.length ≤ 99999) : ∃ o, DPut H m (.int a) v (upd H m o) ∧ DV (upd H m o) m (L ++ [(a, v)]) := by
  refine ⟨_, DPut.k (k := (Sum.inl a : Key)) (v := v) D (small5' (by rw [List.length_map]; omega)), ?_⟩
  rw [putK_new]
  · unfold DV
    rw [upd_same, List.map_append]; rfl
  · intro x hx e
    obtain ⟨y, hy, rfl⟩ := List.mem_map.mp hx
    exact h (List.mem_map.mpr ⟨y, hy, Sum.inl.inj e⟩)
theorem lock_same {u : HO} {od : Obj} (hd : H d = some u) (s : Same (upd H d (.frz od u)) H') : Same H (upd H' d u) := fun b v e => by
  by_cases q : b = d
  · rw [q] at e ⊢
    rw [upd_same, ← e, hd]
  · rw [upd_ne q]
    exact s b v (by rw [upd_ne q]; exact e)
theorem same_lock {u : HO} {od : Obj} (s : Same (upd H d (.frz od u)) H') : H' d = some (.frz od u) := s _ _ upd_same
end
section
variable {K : PySem.W.Frag} {σ : L2.St} {H : Hp} {nx bk ct : L2.St → Hp → Prop} {rt : VK} {tu : TS} {td : TE}
/-- for k in d, the body making new things only -/
theorem s_forKeys {k : Nat} {d : Addr} {kvs : List (Key × V)} (Pv : Nat → L2.St → Prop) (hv : ∀ (H1 : Hp) (R : VK), R (.ref d) H1 → td σ H1 R) (hd : H d = some (.dK kvs)) (h0 : Pv 0 σ)
    (hs : ∀ (od : Obj) (i : Nat) key v σ' H', kvs[i]? = some (key, v) → Same (upd H d (.frz od (.dK kvs))) H' → Pv i σ' →
      tu ⟨fun σ2 H2 => Same H' H2 ∧ Pv (i + 1) σ2, fun w H2 => H2 d = some (.frz od (.dK kvs)) ∧ rt w (upd H2 d (.dK kvs)), fun σ2 H2 => H2 d = some (.frz od (.dK kvs)) ∧ nx σ2 (upd H2 d (.dK kvs)), fun σ2 H2 => Same H' H2 ∧ Pv (i + 1) σ2⟩ (σ'.set k (some (kV key))) H')
    (he : ∀ σ' H', Same H H' → Pv kvs.length σ' → nx σ' H') : tLock (tFor (iKeys td) (gName k) tu) ⟨nx, rt, bk, ct⟩ σ H := by
  refine ⟨d, .dK kvs, hd, trivial, fun od => ?_⟩
  refine hv _ _ ⟨d, od, rfl, .inl ⟨kvs, upd_same, ?_⟩⟩
  refine ⟨fun i m σ' H' => m = kvs.length - i ∧ i ≤ kvs.length ∧ Same (upd H d (.frz od (.dK kvs))) H' ∧ Pv i σ', ⟨kvs.length, by simp, Nat.zero_le _, Same.refl _, h0⟩, ?_⟩
  rintro i m σ' H2 ⟨rfl, hi, hq, q⟩
  by_cases hlt : i < kvs.length
  · refine .inr ⟨⟨same_lock hq, hlt⟩, fun σ2 H3 => Same H2 H3 ∧ Pv (i + 1) σ2, fun σ3 H3 q' => ⟨kvs.length - (i + 1), by omega, rfl, hlt, hq.trans q'.1, q'.2⟩, fun x H3 y => ?_⟩
    obtain ⟨rfl, key, v, hk, rfl⟩ := y
    exact hs od i key v σ' _ hk hq q
  · have e : i = kvs.length := by omega
    subst e
    exact .inl ⟨⟨same_lock hq, Nat.le_refl _⟩, same_lock hq, he σ' _ (lock_same hd hq) q⟩
end
end Jl

/-! Pieces: what they are as data; a piece in the making. -/
namespace Jl
open PySem L2
structure Fill where
  at_ : Int
  rule : Str
  name : Str
  add : Int
  soft : Bool
structure Stre where
  kind : Str
  step : Int
  words : List Int
  fills : List Fill
structure Nam where
  name : Str
  sort : Str
  stre : Int
  off : Int
structure Piece where
  name : Str
  stres : List Stre
  names : List Nam
def fillD (f : Fill) : PyData := .tuple [.int f.at_, .str f.rule, .str f.name, .int f.add, .bool f.soft]
def streD (s : Stre) : PyData := .tuple [.str s.kind, .int s.step, .list (s.words.map PyData.int), .list (s.fills.map fillD)]
def namD (n : Nam) : PyData := .tuple [.str n.name, .str n.sort, .int n.stre, .int n.off]
def pieceD (p : Piece) : PyData := .tuple [.str p.name, .list (p.stres.map streD), .list (p.names.map namD)]
/-! all texts of a piece are of real signs -/
def okS (z : Str) : Prop := (PyData.str z).canLay0 = true
def Fill.ok (f : Fill) : Prop := okS f.rule ∧ okS f.name
def Stre.ok (s : Stre) : Prop := okS s.kind ∧ ∀ f ∈ s.fills, f.ok
def Nam.ok (n : Nam) : Prop := okS n.name ∧ okS n.sort
def Piece.ok (p : Piece) : Prop := okS p.name ∧ (∀ s ∈ p.stres, s.ok) ∧ ∀ n ∈ p.names, n.ok
theorem fillD_ok {f : Fill} (h : f.ok) : (fillD f).canLay0 = true ∧ (fillD f).depth ≤ 1 := by
  refine ⟨?_, ?_⟩
  · show (true && ((PyData.str f.rule).canLay0 && ((PyData.str f.name).canLay0 && (true && (true && true))))) = true
    rw [h.1, h.2]; rfl
  · show max 0 (max 0 (max 0 (max 0 (max 0 0)))) + 1 ≤ 1
    omega
theorem namD_ok {n : Nam} (h : n.ok) : (namD n).canLay0 = true ∧ (namD n).depth ≤ 1 := by
  refine ⟨?_, ?_⟩
  · show ((PyData.str n.name).canLay0 && ((PyData.str n.sort).canLay0 && (true && (true && true)))) = true
    rw [h.1, h.2]; rfl
  · show max 0 (max 0 (max 0 (max 0 0))) + 1 ≤ 1
    omega
theorem lay_map {α : Type} {f : α → PyData} {l : List α} {n : Nat} (h : ∀ x ∈ l, (f x).canLay0 = true ∧ (f x).depth ≤ n) : (PyData.list (l.map f)).canLay0 = true ∧ (PyData.list (l.map f)).depth ≤ n + 1 := by
  refine ⟨lay_all fun d hd => ?_, depth_list fun d hd => ?_⟩
  · obtain ⟨x, hx, rfl⟩ := List.mem_map.mp hd
    exact (h x hx).1
  · obtain ⟨x, hx, rfl⟩ := List.mem_map.mp hd
    exact (h x hx).2
theorem streD_ok {s : Stre} (h : s.ok) : (streD s).canLay0 = true ∧ (streD s).depth ≤ 3 := by
  obtain ⟨a1, a2⟩ := lay_map (f := PyData.int) (l := s.words) (n := 0) fun x _ => ⟨rfl, Nat.le_refl _⟩
  obtain ⟨b1, b2⟩ := lay_map (f := fillD) (l := s.fills) (n := 1) fun x hx => fillD_ok (h.2 x hx)
  refine ⟨?_, depth_tuple fun d hd => ?_⟩
  · show ((PyData.str s.kind).canLay0 && (true && ((PyData.list _).canLay0 && ((PyData.list _).canLay0 && true)))) = true
    rw [h.1, a1, b1]; rfl
  · simp only [List.mem_cons, List.not_mem_nil, or_false] at hd
    rcases hd with rfl | rfl | rfl | rfl
    · exact Nat.zero_le _
    · exact Nat.zero_le _
    · exact Nat.le_trans a2 (by decide)
    · exact b2
theorem pieceD_ok {p : Piece} (h : p.ok) : (pieceD p).canLay0 = true ∧ (pieceD p).depth ≤ 5 := by
  obtain ⟨a1, a2⟩ := lay_map (f := streD) (l := p.stres) (n := 3) fun x hx => streD_ok (h.2.1 x hx)
  obtain ⟨b1, b2⟩ := lay_map (f := namD) (l := p.names) (n := 1) fun x hx => namD_ok (h.2.2 x hx)
  refine ⟨?_, depth_tuple fun d hd => ?_⟩
  · show ((PyData.str p.name).canLay0 && ((PyData.list _).canLay0 && ((PyData.list _).canLay0 && true))) = true
    rw [h.1, a1, b1]; rfl
  · simp only [List.mem_cons, List.not_mem_nil, or_false] at hd
    rcases hd with rfl | rfl | rfl
    · exact Nat.zero_le _
    · exact a2
    · exact Nat.le_trans b2 (by decide)
theorem piece_shaped {p : Piece} (h : p.ok) : SeqAt.shaped (pieceD p) = true := shaped_of (pieceD_ok h).1 (Nat.le_trans (pieceD_ok h).2 (by decide))
theorem pieces_shaped {ps : List Piece} (h : ∀ p ∈ ps, p.ok) : SeqAt.shaped (.list (ps.map pieceD)) = true := by
  obtain ⟨a, b⟩ := lay_map (f := pieceD) (l := ps) (n := 5) fun x hx => pieceD_ok (h x hx)
  exact shaped_of a (Nat.le_trans b (by decide))
section
variable {K : PySem.W.Frag} {H H' B F : Hp} {P L t : Addr} {X : List Addr} {x : V}
theorem dp_fill {f : Fill} (h : Dp K H x (fillD f)) : ∃ t, x = .ref t ∧ SqT K H t [.int f.at_, .str f.rule, .str f.name, .int f.add, .bl f.soft] := by
  obtain ⟨t, u0, e0, h1, g0⟩ := dp_tup h
  obtain ⟨u1, e1, g1⟩ := da_int g0
  obtain ⟨u2, e2, g2⟩ := da_str g1
  obtain ⟨u3, e3, g3⟩ := da_str g2
  obtain ⟨u4, e4, g4⟩ := da_int g3
  obtain ⟨u5, e5, g5⟩ := da_bl g4
  have e6 := da_nil g5
  subst e0 e1 e2 e3 e4 e5 e6
  exact ⟨t, rfl, h1⟩
theorem dp_nam {n : Nam} (h : Dp K H x (namD n)) : ∃ t, x = .ref t ∧ SqT K H t [.str n.name, .str n.sort, .int n.stre, .int n.off] := by
  obtain ⟨t, u0, e0, h1, g0⟩ := dp_tup h
  obtain ⟨u1, e1, g1⟩ := da_str g0
  obtain ⟨u2, e2, g2⟩ := da_str g1
  obtain ⟨u3, e3, g3⟩ := da_int g2
  obtain ⟨u4, e4, g4⟩ := da_int g3
  have e5 := da_nil g4
  subst e0 e1 e2 e3 e4 e5
  exact ⟨t, rfl, h1⟩
theorem dp_stre {s : Stre} (h : Dp K H x (streD s)) : ∃ t W G gs, x = .ref t ∧ SqT K H t [.str s.kind, .int s.step, .ref W, .ref G] ∧ SqL K H W (s.words.map V.int) ∧ SqL K H G gs ∧ DpAll K H gs (s.fills.map fillD) := by
  obtain ⟨t, u0, e0, h1, g0⟩ := dp_tup h
  obtain ⟨u1, e1, g1⟩ := da_str g0
  obtain ⟨u2, e2, g2⟩ := da_int g1
  obtain ⟨v, u3, e3, h3, g3⟩ := da_cons g2
  obtain ⟨W, e4, h4⟩ := dp_intl h3
  obtain ⟨v2, u4, e5, h5, g4⟩ := da_cons g3
  obtain ⟨G, gs, e6, h6, h7⟩ := dp_list h5
  have e7 := da_nil g4
  subst e0 e1 e2 e3 e4 e5 e6 e7
  exact ⟨t, W, G, gs, rfl, h1, h4, h6, h7⟩
theorem dp_piece {p : Piece} (h : Dp K H x (pieceD p)) : ∃ t S N ss ns, x = .ref t ∧ SqT K H t [.str p.name, .ref S, .ref N] ∧ SqL K H S ss ∧ DpAll K H ss (p.stres.map streD) ∧ SqL K H N ns ∧ DpAll K H ns (p.names.map namD) := by
  obtain ⟨t, u0, e0, h1, g0⟩ := dp_tup h
  obtain ⟨u1, e1, g1⟩ := da_str g0
  obtain ⟨v, u2, e2, h3, g2⟩ := da_cons g1
  obtain ⟨S, ss, e3, h4, h5⟩ := dp_list h3
  obtain ⟨v2, u3, e4, h6, g3⟩ := da_cons g2
  obtain ⟨N, ns, e5, h7, h8⟩ := dp_list h6
  have e6 := da_nil g3
  subst e0 e1 e2 e3 e4 e5 e6
  exact ⟨t, S, N, ss, ns, rfl, h1, h4, h5, h7, h8⟩
/-- items of a list of data, one by one -/
theorem da_item {α : Type} {f : α → PyData} {xs : List V} {l : List α} {i : Nat} (h : DpAll K H xs (l.map f)) (hi : xs[i]? = some x) : ∃ q, l[i]? = some q ∧ Dp K H x (f q) := by
  obtain ⟨d, hd, hx⟩ := da_get h hi
  rw [List.getElem?_map] at hd
  cases e : l[i]? with
  | none => rw [e] at hd; cases hd
  | some q =>
    rw [e] at hd
    cases hd
    exact ⟨q, rfl, hx⟩
theorem da_item' {α : Type} {f : α → PyData} {xs : List V} {l : List α} {i : Nat} {q : α} (h : DpAll K H xs (l.map f)) (hi : l[i]? = some q) : ∃ x, xs[i]? = some x ∧ Dp K H x (f q) :=
  da_at h (by rw [List.getElem?_map, hi]; rfl)
theorem da_length {α : Type} {f : α → PyData} {xs : List V} {l : List α} (h : DpAll K H xs (l.map f)) : xs.length = l.length := by
  rw [da_len h, List.length_map]
/-! pieces in the making -/
def LastS (K : PySem.W.Frag) (B F H : Hp) (S : Addr) (X : List Addr) (ss : List Stre) : Prop :=
  (ss = [] ∧ H S = some (.lst []) ∧ Act B F H (S :: X)) ∨
  ∃ ss0 kind step ws fs sv u W G gv, ss = ss0 ++ [⟨kind, step, ws, fs⟩] ∧ H S = some (.lst (sv ++ [.ref u])) ∧ DpAll K F sv (ss0.map streD) ∧ F u = some (.tup [.str kind, .int step, .ref W, .ref G]) ∧ H W = some (.lst (ws.map V.int)) ∧ H G = some (.lst gv) ∧ DpAll K F gv (fs.map fillD) ∧ Act B F H (W :: G :: S :: X)
def BP (K : PySem.W.Frag) (B F H : Hp) (P : Addr) (X : List Addr) (ps : List Piece) : Prop :=
  (ps = [] ∧ H P = some (.lst []) ∧ Act B F H (P :: X)) ∨
  ∃ ps0 nm ss ns xs t S N nv, ps = ps0 ++ [⟨nm, ss, ns⟩] ∧ H P = some (.lst (xs ++ [.ref t])) ∧ DpAll K F xs (ps0.map pieceD) ∧ F t = some (.tup [.str nm, .ref S, .ref N]) ∧ H N = some (.lst nv) ∧ DpAll K F nv (ns.map namD) ∧ LastS K B F H S (N :: P :: X) ss
theorem LastS.act {S : Addr} {ss : List Stre} (h : LastS K B F H S X ss) : ∃ A, Act B F H (A ++ S :: X) := by
  rcases h with ⟨_, _, c⟩ | ⟨_, _, _, _, _, _, _, W, G, _, _, _, _, _, _, _, _, c⟩
  · exact ⟨[], c⟩
  · exact ⟨[W, G], c⟩
theorem LastS.ext {S : Addr} {ss : List Stre} (h : LastS K B F H S X ss) : Same F H := by obtain ⟨A, c⟩ := h.act; exact c.ext
theorem LastS.base {S : Addr} {ss : List Stre} (h : LastS K B F H S X ss) : Same B F := by obtain ⟨A, c⟩ := h.act; exact c.base
theorem LastS.dp {S : Addr} {ss : List Stre} (h : LastS K B F H S X ss) : Dp K H (.ref S) (.list (ss.map streD)) := by
  have e := h.ext
  rcases h with ⟨rfl, h3, c⟩ | ⟨ss0, kind, step, ws, fs, sv, u, W, G, gv, rfl, h1, h2, h3, h4, h5, h6, c⟩
  · exact .lst (.inl (.inl h3)) .nil
  · refine .lst (.inl (.inl h1)) ?_
    rw [List.map_append]
    refine da_app (dps_same e h2) (da_one ?_)
    exact .tup (.inl (.inl (e _ _ h3))) (.cons (.str _) (.cons (.int _) (.cons (dp_intL (.inl (.inl h4))) (.cons (.lst (.inl (.inl h5)) (dps_same e h6)) .nil))))
theorem LastS.same {S : Addr} {ss : List Stre} (h : LastS K B F H S X ss) (e : Same H H') : LastS K B F H' S X ss := by
  rcases h with ⟨rfl, h3, c⟩ | ⟨ss0, kind, step, ws, fs, sv, u, W, G, gv, rfl, h1, h2, h3, h4, h5, h6, c⟩
  · exact .inl ⟨rfl, e _ _ h3, c.sm e⟩
  · exact .inr ⟨ss0, kind, step, ws, fs, sv, u, W, G, gv, rfl, e _ _ h1, h2, h3, e _ _ h4, e _ _ h5, h6, c.sm e⟩
theorem BP.act {ps : List Piece} (h : BP K B F H P X ps) : ∃ A, Act B F H (A ++ P :: X) := by
  rcases h with ⟨_, _, c⟩ | ⟨ps0, nm, ss, ns, xs, t, S, N, nv, _, _, _, _, _, _, l⟩
  · exact ⟨[], c⟩
  · obtain ⟨A, c⟩ := l.act
    exact ⟨A ++ [S, N], by rw [List.append_assoc]; exact c⟩
theorem BP.ext {ps : List Piece} (h : BP K B F H P X ps) : Same F H := by obtain ⟨A, c⟩ := h.act; exact c.ext
theorem BP.base {ps : List Piece} (h : BP K B F H P X ps) : Same B F := by obtain ⟨A, c⟩ := h.act; exact c.base
theorem BP.dp {ps : List Piece} (h : BP K B F H P X ps) : Dp K H (.ref P) (.list (ps.map pieceD)) := by
  have e := h.ext
  rcases h with ⟨rfl, h3, c⟩ | ⟨ps0, nm, ss, ns, xs, t, S, N, nv, rfl, h1, h2, h3, h4, h5, l⟩
  · exact .lst (.inl (.inl h3)) .nil
  · refine .lst (.inl (.inl h1)) ?_
    rw [List.map_append]
    refine da_app (dps_same e h2) (da_one ?_)
    exact .tup (.inl (.inl (e _ _ h3))) (.cons (.str _) (.cons l.dp (.cons (.lst (.inl (.inl h4)) (dps_same e h5)) .nil)))
theorem BP.same {ps : List Piece} (h : BP K B F H P X ps) (e : Same H H') : BP K B F H' P X ps := by
  rcases h with ⟨rfl, h3, c⟩ | ⟨ps0, nm, ss, ns, xs, t, S, N, nv, rfl, h1, h2, h3, h4, h5, l⟩
  · exact .inl ⟨rfl, e _ _ h3, c.sm e⟩
  · exact .inr ⟨ps0, nm, ss, ns, xs, t, S, N, nv, rfl, e _ _ h1, h2, h3, e _ _ h4, h5, l.same e⟩
/-- the cells of the last stretch are written no more -/
theorem LastS.close {S : Addr} {ss : List Stre} (h : LastS K B F H S X ss) : ∃ F' sv, Same F F' ∧ Act B F' H (S :: X) ∧ H S = some (.lst sv) ∧ DpAll K F' sv (ss.map streD) := by
  rcases h with ⟨rfl, h3, c⟩ | ⟨ss0, kind, step, ws, fs, sv, u, W, G, gv, rfl, h1, h2, h3, h4, h5, h6, c⟩
  · exact ⟨F, [], Same.refl _, c, h3, .nil⟩
  · have c1 := c.fz h4
    have f1 := c.fz_same (o := .lst (ws.map V.int))
    have c2 := c1.fz h5
    have f2 := c1.fz_same (o := .lst gv)
    refine ⟨_, sv ++ [.ref u], f1.trans f2, c2, h1, ?_⟩
    rw [List.map_append]
    refine da_app (dps_same (f1.trans f2) h2) (da_one ?_)
    exact .tup (.inl (.inl (f2 _ _ (f1 _ _ h3)))) (.cons (.str _) (.cons (.int _) (.cons (dp_intL (.inl (.inl (f2 _ _ upd_same)))) (.cons (.lst (.inl (.inl upd_same)) (dps_same (f1.trans f2) h6)) .nil))))
/-- the cells of the last piece are written no more -/
theorem BP.close {ps : List Piece} (h : BP K B F H P X ps) : ∃ F' xs, Same F F' ∧ Act B F' H (P :: X) ∧ H P = some (.lst xs) ∧ DpAll K F' xs (ps.map pieceD) := by
  rcases h with ⟨rfl, h3, c⟩ | ⟨ps0, nm, ss, ns, xs, t, S, N, nv, rfl, h1, h2, h3, h4, h5, l⟩
  · exact ⟨F, [], Same.refl _, c, h3, .nil⟩
  · obtain ⟨F1, sv, f1, c1, hS, hsv⟩ := l.close
    have c2 := c1.fz hS
    have f2 := c1.fz_same (o := .lst sv)
    have c3 := c2.fz h4
    have f3 := c2.fz_same (o := .lst nv)
    have f13 := (f1.trans f2).trans f3
    refine ⟨_, xs ++ [.ref t], f13, c3, h1, ?_⟩
    rw [List.map_append]
    refine da_app (dps_same f13 h2) (da_one ?_)
    exact .tup (.inl (.inl (f13 _ _ h3))) (.cons (.str _) (.cons (.lst (.inl (.inl (f3 _ _ upd_same))) (dps_same (f2.trans f3) hsv)) (.cons (.lst (.inl (.inl upd_same)) (dps_same f13 h5)) .nil)))
/-- a piece is put behind -/
theorem BP.piece {ps : List Piece} (h : BP K B F H P X ps) {S N t : Addr} {nm : Str} (hS : H S = none) (hN : upd H S (.lst []) N = none) (ht : upd (upd H S (.lst [])) N (.lst []) t = none) :
    ∃ xs, H P = some (.lst xs) ∧ xs.length = ps.length ∧ (upd (upd (upd H S (.lst [])) N (.lst [])) t (.tup [.str nm, .ref S, .ref N])) P = some (.lst xs) ∧
    ∃ F', Same F F' ∧ BP K B F' (upd (upd (upd (upd H S (.lst [])) N (.lst [])) t (.tup [.str nm, .ref S, .ref N])) P (.lst (xs ++ [.ref t]))) P X (ps ++ [⟨nm, [], []⟩]) := by
  obtain ⟨F1, xs, f1, c1, hP, hxs⟩ := h.close
  have c2 := c1.newA (o := .lst []) hS
  have c3 := c2.newA (o := .lst []) hN
  have c4 := c3.new (o := .tup [.str nm, .ref S, .ref N]) ht
  have f4 := same_upd (o := .tup [.str nm, .ref S, .ref N]) (c3.ext.free ht)
  have s := (same_upd (o := .lst []) hS).trans ((same_upd (o := .lst []) hN).trans (same_upd (o := .tup [.str nm, .ref S, .ref N]) ht))
  have c5 := c4.upd (a := P) (o := .lst (xs ++ [.ref t])) (by simp)
  have nd := c4.nd
  have hP4 := s _ _ hP
  have hN4 : (upd (upd (upd H S (.lst [])) N (.lst [])) t (.tup [.str nm, .ref S, .ref N])) N = some (.lst []) := same_upd ht _ _ upd_same
  have hS4 : (upd (upd (upd H S (.lst [])) N (.lst [])) t (.tup [.str nm, .ref S, .ref N])) S = some (.lst []) := same_upd ht _ _ (same_upd hN _ _ upd_same)
  refine ⟨xs, hP, da_length hxs, hP4, _, f1.trans f4, .inr ⟨ps, nm, [], [], xs, t, S, N, [], rfl, upd_same, dps_same f4 hxs, upd_same, ?_, .nil, .inl ⟨rfl, ?_, c5.perm (List.Perm.swap ..)⟩⟩⟩
  · rw [upd_ne (nd_ne nd 0 2 (by decide) rfl rfl)]; exact hN4
  · rw [upd_ne (nd_ne nd 1 2 (by decide) rfl rfl)]; exact hS4
theorem LastS.list {S : Addr} {ss : List Stre} (h : LastS K B F H S X ss) : ∃ sv, H S = some (.lst sv) ∧ DpAll K H sv (ss.map streD) := by
  have e := h.ext
  rcases h with ⟨rfl, h3, c⟩ | ⟨ss0, kind, step, ws, fs, sv, u, W, G, gv, rfl, h1, h2, h3, h4, h5, h6, c⟩
  · exact ⟨[], h3, .nil⟩
  · refine ⟨_, h1, ?_⟩
    rw [List.map_append]
    refine da_app (dps_same e h2) (da_one ?_)
    exact .tup (.inl (.inl (e _ _ h3))) (.cons (.str _) (.cons (.int _) (.cons (dp_intL (.inl (.inl h4))) (.cons (.lst (.inl (.inl h5)) (dps_same e h6)) .nil))))
theorem BP.open_ {ps0 : List Piece} {nm : Str} {ss : List Stre} {ns : List Nam} (h : BP K B F H P X (ps0 ++ [⟨nm, ss, ns⟩])) : ∃ xs t S N nv, H P = some (.lst (xs ++ [.ref t])) ∧ DpAll K F xs (ps0.map pieceD) ∧ F t = some (.tup [.str nm, .ref S, .ref N]) ∧ H N = some (.lst nv) ∧ DpAll K F nv (ns.map namD) ∧ LastS K B F H S (N :: P :: X) ss := by
  rcases h with ⟨z, _⟩ | ⟨ps1, nm1, ss1, ns1, xs, t, S, N, nv, z, h1, h2, h3, h4, h5, l⟩
  · cases ps0 <;> cases z
  · obtain ⟨rfl, z2⟩ := List.append_inj' z rfl
    cases z2
    exact ⟨xs, t, S, N, nv, h1, h2, h3, h4, h5, l⟩
theorem LastS.open_ {S : Addr} {ss0 : List Stre} {kind : Str} {step : Int} {ws : List Int} {fs : List Fill} (h : LastS K B F H S X (ss0 ++ [⟨kind, step, ws, fs⟩])) : ∃ sv u W G gv, H S = some (.lst (sv ++ [.ref u])) ∧ DpAll K F sv (ss0.map streD) ∧ F u = some (.tup [.str kind, .int step, .ref W, .ref G]) ∧ H W = some (.lst (ws.map V.int)) ∧ H G = some (.lst gv) ∧ DpAll K F gv (fs.map fillD) ∧ Act B F H (W :: G :: S :: X) := by
  rcases h with ⟨z, _⟩ | ⟨ss1, kind1, step1, ws1, fs1, sv, u, W, G, gv, z, h1, h2, h3, h4, h5, h6, c⟩
  · cases ss0 <;> cases z
  · obtain ⟨rfl, z2⟩ := List.append_inj' z rfl
    cases z2
    exact ⟨sv, u, W, G, gv, h1, h2, h3, h4, h5, h6, c⟩
/-- a stretch is put behind -/
theorem BP.stre {ps0 : List Piece} {nm : Str} {ss : List Stre} {ns : List Nam} (h : BP K B F H P X (ps0 ++ [⟨nm, ss, ns⟩])) {W G u : Addr} {kind : Str} {step : Int} (hW : H W = none) (hG : upd H W (.lst []) G = none) (hu : upd (upd H W (.lst [])) G (.lst []) u = none) :
    ∃ xs t S N sv, H P = some (.lst (xs ++ [.ref t])) ∧ H t = some (.tup [.str nm, .ref S, .ref N]) ∧ H S = some (.lst sv) ∧ sv.length = ss.length ∧ (upd (upd (upd H W (.lst [])) G (.lst [])) u (.tup [.str kind, .int step, .ref W, .ref G])) S = some (.lst sv) ∧
    ∃ F', Same F F' ∧ BP K B F' (upd (upd (upd (upd H W (.lst [])) G (.lst [])) u (.tup [.str kind, .int step, .ref W, .ref G])) S (.lst (sv ++ [.ref u]))) P X (ps0 ++ [⟨nm, ss ++ [⟨kind, step, [], []⟩], ns⟩]) := by
  obtain ⟨xs, t, S, N, nv, h1, h2, h3, h4, h5, l⟩ := h.open_
  have ht := h.ext _ _ h3
  obtain ⟨F1, sv, f1, c1, hS, hsv⟩ := l.close
  have c2 := c1.newA (o := .lst []) hW
  have c3 := c2.newA (o := .lst []) hG
  have c4 := c3.new (o := .tup [.str kind, .int step, .ref W, .ref G]) hu
  have f4 := same_upd (o := .tup [.str kind, .int step, .ref W, .ref G]) (c3.ext.free hu)
  have s := (same_upd (o := .lst []) hW).trans ((same_upd (o := .lst []) hG).trans (same_upd (o := .tup [.str kind, .int step, .ref W, .ref G]) hu))
  have c5 := c4.upd (a := S) (o := .lst (sv ++ [.ref u])) (by simp)
  have nd := c4.nd
  have f14 := f1.trans f4
  refine ⟨xs, t, S, N, sv, h1, ht, hS, da_length hsv, s _ _ hS, _, f14, .inr ⟨ps0, nm, _, ns, xs, t, S, N, nv, rfl, ?_, dps_same f14 h2, f14 _ _ h3, ?_, dps_same f14 h5, .inr ⟨ss, kind, step, [], [], sv, u, W, G, [], rfl, upd_same, dps_same f4 hsv, upd_same, ?_, ?_, .nil, c5.perm (List.Perm.swap ..)⟩⟩⟩
  · rw [upd_ne (nd_ne nd 2 4 (by decide) rfl rfl).symm]; exact s _ _ h1
  · rw [upd_ne (nd_ne nd 2 3 (by decide) rfl rfl).symm]; exact s _ _ h4
  · rw [upd_ne (nd_ne nd 1 2 (by decide) rfl rfl)]
    exact same_upd hu _ _ (same_upd hG _ _ upd_same)
  · rw [upd_ne (nd_ne nd 0 2 (by decide) rfl rfl)]
    exact same_upd hu _ _ upd_same
/-- a word is put behind -/
theorem BP.word {ps0 : List Piece} {nm : Str} {ss0 : List Stre} {kind : Str} {step : Int} {ws : List Int} {fs : List Fill} {ns : List Nam} (h : BP K B F H P X (ps0 ++ [⟨nm, ss0 ++ [⟨kind, step, ws, fs⟩], ns⟩])) :
    ∃ xs t S N sv u W G, H P = some (.lst (xs ++ [.ref t])) ∧ H t = some (.tup [.str nm, .ref S, .ref N]) ∧ H S = some (.lst (sv ++ [.ref u])) ∧ H u = some (.tup [.str kind, .int step, .ref W, .ref G]) ∧ H W = some (.lst (ws.map V.int)) ∧
    ∀ w : Int, BP K B F (upd H W (.lst (ws.map V.int ++ [.int w]))) P X (ps0 ++ [⟨nm, ss0 ++ [⟨kind, step, ws ++ [w], fs⟩], ns⟩]) := by
  obtain ⟨xs, t, S, N, nv, h1, h2, h3, h4, h5, l⟩ := h.open_
  obtain ⟨sv, u, W, G, gv, g1, g2, g3, g4, g5, g6, c⟩ := l.open_
  have nd := c.nd
  refine ⟨xs, t, S, N, sv, u, W, G, h1, c.ext _ _ h3, g1, c.ext _ _ g3, g4, fun w => .inr ⟨ps0, nm, _, ns, xs, t, S, N, nv, rfl, ?_, h2, h3, ?_, h5, .inr ⟨ss0, kind, step, ws ++ [w], fs, sv, u, W, G, gv, rfl, ?_, g2, g3, ?_, ?_, g6, c.upd (by simp)⟩⟩⟩
  · rw [upd_ne (nd_ne nd 0 4 (by decide) rfl rfl).symm]; exact h1
  · rw [upd_ne (nd_ne nd 0 3 (by decide) rfl rfl).symm]; exact h4
  · rw [upd_ne (nd_ne nd 0 2 (by decide) rfl rfl).symm]; exact g1
  · rw [upd_same, List.map_append]; rfl
  · rw [upd_ne (nd_ne nd 0 1 (by decide) rfl rfl).symm]; exact g5
/-- a fill is put behind -/
theorem BP.fill {ps0 : List Piece} {nm : Str} {ss0 : List Stre} {kind : Str} {step : Int} {ws : List Int} {fs : List Fill} {ns : List Nam} (h : BP K B F H P X (ps0 ++ [⟨nm, ss0 ++ [⟨kind, step, ws, fs⟩], ns⟩])) {f : Fill} {a : Addr} (ha : F a = some (.tup [.int f.at_, .str f.rule, .str f.name, .int f.add, .bl f.soft])) :
    ∃ xs t S N sv u W G gv, H P = some (.lst (xs ++ [.ref t])) ∧ H t = some (.tup [.str nm, .ref S, .ref N]) ∧ H S = some (.lst (sv ++ [.ref u])) ∧ H u = some (.tup [.str kind, .int step, .ref W, .ref G]) ∧ H W = some (.lst (ws.map V.int)) ∧ H G = some (.lst gv) ∧ gv.length = fs.length ∧
    BP K B F (upd H G (.lst (gv ++ [.ref a]))) P X (ps0 ++ [⟨nm, ss0 ++ [⟨kind, step, ws, fs ++ [f]⟩], ns⟩]) := by
  obtain ⟨xs, t, S, N, nv, h1, h2, h3, h4, h5, l⟩ := h.open_
  obtain ⟨sv, u, W, G, gv, g1, g2, g3, g4, g5, g6, c⟩ := l.open_
  have nd := c.nd
  refine ⟨xs, t, S, N, sv, u, W, G, gv, h1, c.ext _ _ h3, g1, c.ext _ _ g3, g4, g5, da_length g6, .inr ⟨ps0, nm, _, ns, xs, t, S, N, nv, rfl, ?_, h2, h3, ?_, h5, .inr ⟨ss0, kind, step, ws, fs ++ [f], sv, u, W, G, gv ++ [.ref a], rfl, ?_, g2, g3, ?_, upd_same, ?_, c.upd (by simp)⟩⟩⟩
  · rw [upd_ne (nd_ne nd 1 4 (by decide) rfl rfl).symm]; exact h1
  · rw [upd_ne (nd_ne nd 1 3 (by decide) rfl rfl).symm]; exact h4
  · rw [upd_ne (nd_ne nd 1 2 (by decide) rfl rfl).symm]; exact g1
  · rw [upd_ne (nd_ne nd 0 1 (by decide) rfl rfl)]; exact g4
  · rw [List.map_append]
    exact da_app g6 (da_one (.tup (.inl (.inl ha)) (.cons (.int _) (.cons (.str _) (.cons (.str _) (.cons (.int _) (.cons (.bl _) .nil)))))))
/-- a name is put behind -/
theorem BP.nam {ps0 : List Piece} {nm : Str} {ss : List Stre} {ns : List Nam} (h : BP K B F H P X (ps0 ++ [⟨nm, ss, ns⟩])) {n : Nam} {a : Addr} (ha : F a = some (.tup [.str n.name, .str n.sort, .int n.stre, .int n.off])) :
    ∃ xs t S N nv, H P = some (.lst (xs ++ [.ref t])) ∧ H t = some (.tup [.str nm, .ref S, .ref N]) ∧ H N = some (.lst nv) ∧ nv.length = ns.length ∧ BP K B F (upd H N (.lst (nv ++ [.ref a]))) P X (ps0 ++ [⟨nm, ss, ns ++ [n]⟩]) := by
  obtain ⟨xs, t, S, N, nv, h1, h2, h3, h4, h5, l⟩ := h.open_
  have hda : DpAll K F (nv ++ [.ref a]) ((ns ++ [n]).map namD) := by
    rw [List.map_append]
    exact da_app h5 (da_one (.tup (.inl (.inl ha)) (.cons (.str _) (.cons (.str _) (.cons (.int _) (.cons (.int _) .nil))))))
  have ht := h.ext _ _ h3
  rcases l with ⟨rfl, l1, c⟩ | ⟨ss0, kind, step, ws, fs, sv, u, W, G, gv, rfl, g1, g2, g3, g4, g5, g6, c⟩
  · have nd := c.nd
    refine ⟨xs, t, S, N, nv, h1, ht, h4, da_length h5, .inr ⟨ps0, nm, [], _, xs, t, S, N, _, rfl, ?_, h2, h3, upd_same, hda, .inl ⟨rfl, ?_, c.upd (by simp)⟩⟩⟩
    · rw [upd_ne (nd_ne nd 1 2 (by decide) rfl rfl).symm]; exact h1
    · rw [upd_ne (nd_ne nd 0 1 (by decide) rfl rfl)]; exact l1
  · have nd := c.nd
    refine ⟨xs, t, S, N, nv, h1, ht, h4, da_length h5, .inr ⟨ps0, nm, _, _, xs, t, S, N, _, rfl, ?_, h2, h3, upd_same, hda, .inr ⟨ss0, kind, step, ws, fs, sv, u, W, G, gv, rfl, ?_, g2, g3, ?_, ?_, g6, c.upd (by simp)⟩⟩⟩
    · rw [upd_ne (nd_ne nd 3 4 (by decide) rfl rfl).symm]; exact h1
    · rw [upd_ne (nd_ne nd 2 3 (by decide) rfl rfl)]; exact g1
    · rw [upd_ne (nd_ne nd 0 3 (by decide) rfl rfl)]; exact g4
    · rw [upd_ne (nd_ne nd 1 3 (by decide) rfl rfl)]; exact g5
/-- an object beside is new -/
theorem BP.new {ps : List Piece} (h : BP K B F H P X ps) {p : Addr} {o : HO} (hp : H p = none) : BP K B (upd F p o) (upd H p o) P X ps ∧ Same F (upd F p o) := by
  have hF := same_upd (o := o) (h.ext.free hp)
  have s := same_upd (o := o) hp
  refine ⟨?_, hF⟩
  rcases h with ⟨rfl, h3, c⟩ | ⟨ps0, nm, ss, ns, xs, t, S, N, nv, rfl, h1, h2, h3, h4, h5, l⟩
  · exact .inl ⟨rfl, s _ _ h3, c.new hp⟩
  · refine .inr ⟨ps0, nm, ss, ns, xs, t, S, N, nv, rfl, s _ _ h1, dps_same hF h2, hF _ _ h3, s _ _ h4, dps_same hF h5, ?_⟩
    rcases l with ⟨rfl, l1, c⟩ | ⟨ss0, kind, step, ws, fs, sv, u, W, G, gv, rfl, g1, g2, g3, g4, g5, g6, c⟩
    · exact .inl ⟨rfl, s _ _ l1, c.new hp⟩
    · exact .inr ⟨ss0, kind, step, ws, fs, sv, u, W, G, gv, rfl, s _ _ g1, dps_same hF g2, hF _ _ g3, s _ _ g4, s _ _ g5, dps_same hF g6, c.new hp⟩
end
theorem units65 {k : Nat} {A : Around} (r : Room k A) : A.units + 65 < cLine := by have := r.un; omega
/-! names by numbers -/
def sgns : Str := "abcdefghijklmnopqrstuvwxyz0123456789_"
theorem sgns_len : sgns.cps.toList.length = 37 := by decide +kernel
theorem sgns_ok : ∀ c ∈ sgns.cps.toList, c < 128 := by decide +kernel
def nmSize (c k : Int) : Int := if c / 256 % 3 = 0 then 1 + k % 16 else 1 + c % 16
def nmAt (c : Int) : Int := if c / 256 % 3 = 0 then 16 else c / 16 % (1 + c % 16)
def nmIx (c k at_ : Int) (j : Nat) : Int := (c / ((j : Int) + 3) + (j : Int) * (j : Int) + k * (if (j : Int) = at_ then 1 else 0)) % (37 - 11 * (if (j : Int) = 0 then 1 else 0))
def nmL (c k : Int) : List Nat := (List.range (nmSize c k).toNat).map fun j => sgns.cps.toList.getD (nmIx c k (nmAt c) j).toNat 0
def nmT (c k : Int) : Str := ⟨(nmL c k).toArray⟩
theorem nmIx_ok (c k a : Int) (j : Nat) : 0 ≤ nmIx c k a j ∧ nmIx c k a j < 37 := by
  unfold nmIx
  by_cases h : (j : Int) = 0
  · rw [if_pos h]
    have h1 := Int.emod_nonneg (c / ((j : Int) + 3) + (j : Int) * (j : Int) + k * (if (j : Int) = a then 1 else 0)) (show (37 - 11 * 1 : Int) ≠ 0 by decide)
    have h2 := Int.emod_lt_of_pos (c / ((j : Int) + 3) + (j : Int) * (j : Int) + k * (if (j : Int) = a then 1 else 0)) (show (0 : Int) < 37 - 11 * 1 by decide)
    omega
  · rw [if_neg h]
    have h1 := Int.emod_nonneg (c / ((j : Int) + 3) + (j : Int) * (j : Int) + k * (if (j : Int) = a then 1 else 0)) (show (37 - 11 * 0 : Int) ≠ 0 by decide)
    have h2 := Int.emod_lt_of_pos (c / ((j : Int) + 3) + (j : Int) * (j : Int) + k * (if (j : Int) = a then 1 else 0)) (show (0 : Int) < 37 - 11 * 0 by decide)
    omega
theorem nmSize_ok (c k : Int) : 1 ≤ nmSize c k ∧ nmSize c k ≤ 16 := by unfold nmSize; split <;> omega
theorem nmL_len (c k : Int) : (nmL c k).length = (nmSize c k).toNat := by unfold nmL; rw [List.length_map, List.length_range]
theorem nmT_len (c k : Int) : (nmT c k).length ≤ 16 := by
  have h1 : (nmT c k).length = (nmL c k).length := by rw [← len_list]; rfl
  have := nmSize_ok c k
  rw [h1, nmL_len]; omega
theorem nm_sign (c k a : Int) (j : Nat) : sgns.cps.toList.getD (nmIx c k a j).toNat 0 < 128 := by
  have h := nmIx_ok c k a j
  have hi : (nmIx c k a j).toNat < sgns.cps.toList.length := by rw [sgns_len]; omega
  rw [List.getD_eq_getElem?_getD, List.getElem?_eq_getElem hi]
  exact sgns_ok _ (List.getElem_mem hi)
theorem nmT_ok (c k : Int) : okS (nmT c k) := by
  show (nmT c k).cps.all (· < 0x110000) = true
  rw [← Array.all_toList, List.all_eq_true]
  intro x hx
  have hx : x ∈ nmL c k := hx
  obtain ⟨j, _, rfl⟩ := List.mem_map.mp hx
  have := nm_sign c k (nmAt c) j
  exact decide_eq_true (by omega)
/-- p and q as a value, both plain -/
theorem s_andJ {σ : L2.St} {H : Hp} {Q : VK} {tb : TE} {p q : Prop} [Decidable p] [Decidable q] (hb : p → ∀ R : VK, R (.bl (decide q)) H → tb σ H R) (z : Q (.bl (decide (p ∧ q))) H) : if decide p = true then tb σ H Q else Q (.bl false) H := by
  refine s_iteD (fun hp => hb hp _ ?_) (fun hp => ?_)
  · by_cases hq : q
    · rw [decide_eq_true hq]; rw [decide_eq_true ⟨hp, hq⟩] at z; exact z
    · rw [decide_eq_false hq]; rw [decide_eq_false fun h => hq h.2] at z; exact z
  · rw [decide_eq_false fun h => hp h.1] at z; exact z
/-! what a law draws -/
def isRule5 (r : Str) : Prop := r = "whole" ∨ r = "high" ∨ r = "low" ∨ r = "near" ∨ r = "split"
theorem rule5_ok {r : Str} (h : isRule5 r) : okS r := by
  rcases h with rfl | rfl | rfl | rfl | rfl <;> (show PyData.canLay0 _ = true; decide +kernel)
def isSort (z : Str) : Prop := z = "tell" ∨ z = "weak" ∨ z = "own"
theorem sort_ok {r : Str} (h : isSort r) : okS r := by
  rcases h with rfl | rfl | rfl <;> (show PyData.canLay0 _ = true; decide +kernel)
def isKind (z : Str) : Prop := z = "code" ∨ z = "data"
theorem kind_ok {r : Str} (h : isKind r) : okS r := by
  rcases h with rfl | rfl <;> (show PyData.canLay0 _ = true; decide +kernel)
/-- one of the twelve names -/
def nmOf (nb : Int) (z : Str) : Prop := ∃ j : Int, 0 ≤ j ∧ j < 12 ∧ z = nmT nb j
structure GF (nb : Int) (n : Nat) (f : Fill) : Prop where
  at0 : 0 ≤ f.at_
  at1 : f.at_ < n
  rule : isRule5 f.rule
  soft : f.soft = true → f.rule = "whole" ∨ f.rule = "high" ∨ f.rule = "low"
  name : nmOf nb f.name
  add : -2147483648 ≤ f.add ∧ f.add ≤ 2147483647
structure GS (nb : Int) (s : Stre) : Prop where
  kind : isKind s.kind
  step : 0 < s.step ∧ s.step ≤ 65536
  words : ∀ w ∈ s.words, 0 ≤ w ∧ w < 4294967296
  fills : ∀ f ∈ s.fills, GF nb s.words.length f
  rise : (s.fills.map (·.at_)).Pairwise (· < ·)
  few : s.fills.length ≤ s.words.length
structure GN (nb : Int) (ss : List Stre) (m : Nam) : Prop where
  sort : isSort m.sort
  name : nmOf nb m.name
  stre : 0 ≤ m.stre
  at_ : ∃ s, ss[m.stre.toNat]? = some s ∧ 0 ≤ m.off ∧ m.off ≤ s.words.length
def wtS (s : Stre) : Nat := 1 + s.words.length
def wt (p : Piece) : Nat := 1 + p.names.length + (p.stres.map wtS).sum
structure GP (nb tb : Int) (k : Nat) (p : Piece) : Prop where
  name : p.name = nmT tb (k : Int)
  stres : ∀ s ∈ p.stres, GS nb s
  names : ∀ m ∈ p.names, GN nb p.stres m
  once : (p.names.map (·.name)).Nodup
theorem nmOf_ok {nb : Int} {z : Str} (h : nmOf nb z) : okS z := by
  obtain ⟨j, _, _, rfl⟩ := h
  exact nmT_ok _ _
theorem GS.ok {nb : Int} {s : Stre} (h : GS nb s) : s.ok := ⟨kind_ok h.kind, fun f hf => ⟨rule5_ok (h.fills f hf).rule, nmOf_ok (h.fills f hf).name⟩⟩
theorem GP.ok {nb tb : Int} {k : Nat} {p : Piece} (h : GP nb tb k p) : p.ok := ⟨by rw [h.name]; exact nmT_ok _ _, fun s hs => (h.stres s hs).ok, fun m hm => ⟨nmOf_ok (h.names m hm).name, sort_ok (h.names m hm).sort⟩⟩
theorem GS.new {nb : Int} {kind : Str} {step : Int} (h1 : isKind kind) (h2 : 0 < step ∧ step ≤ 65536) : GS nb ⟨kind, step, [], []⟩ := ⟨h1, h2, fun _ h => (nomatch h), fun _ h => (nomatch h), List.Pairwise.nil, Nat.le_refl _⟩
theorem GS.word {nb : Int} {kind : Str} {step w : Int} {ws : List Int} {fs : List Fill} (h : GS nb ⟨kind, step, ws, fs⟩) (hw : 0 ≤ w ∧ w < 4294967296) : GS nb ⟨kind, step, ws ++ [w], fs⟩ := by
  refine ⟨h.kind, h.step, fun x hx => ?_, fun f hf => ?_, h.rise, ?_⟩
  · rcases List.mem_append.mp hx with hx | hx
    · exact h.words x hx
    · cases List.mem_singleton.mp hx; exact hw
  · have := h.fills f hf
    exact ⟨this.at0, by have h1 := this.at1; show f.at_ < ((ws ++ [w]).length : Int); rw [List.length_append, List.length_singleton]; have h1 : f.at_ < (ws.length : Int) := h1; omega, this.rule, this.soft, this.name, this.add⟩
  · have := h.few
    show fs.length ≤ (ws ++ [w]).length
    rw [List.length_append, List.length_singleton]
    have : fs.length ≤ ws.length := this
    omega
theorem GS.fill {nb : Int} {kind : Str} {step w : Int} {ws : List Int} {fs : List Fill} (h : GS nb ⟨kind, step, ws, fs⟩) (hw : 0 ≤ w ∧ w < 4294967296) {f : Fill} (ha : f.at_ = ws.length) (hr : isRule5 f.rule) (hs : f.soft = true → f.rule = "whole" ∨ f.rule = "high" ∨ f.rule = "low") (hn : nmOf nb f.name) (hd : -2147483648 ≤ f.add ∧ f.add ≤ 2147483647) : GS nb ⟨kind, step, ws ++ [w], fs ++ [f]⟩ := by
  have h1 := h.word hw
  refine ⟨h.kind, h.step, h1.words, fun x hx => ?_, ?_, ?_⟩
  · rcases List.mem_append.mp hx with hx | hx
    · exact h1.fills x hx
    · cases List.mem_singleton.mp hx
      exact ⟨by omega, by show f.at_ < ((ws ++ [w]).length : Int); rw [List.length_append, List.length_singleton]; omega, hr, hs, hn, hd⟩
  · show ((fs ++ [f]).map (·.at_)).Pairwise (· < ·)
    rw [List.map_append, List.pairwise_append]
    refine ⟨h.rise, List.pairwise_singleton _ _, fun x hx y hy => ?_⟩
    obtain ⟨g, hg, rfl⟩ := List.mem_map.mp hx
    cases List.mem_singleton.mp hy
    have : g.at_ < (ws.length : Int) := (h.fills g hg).at1
    show g.at_ < f.at_
    omega
  · have : fs.length ≤ ws.length := h.few
    show (fs ++ [f]).length ≤ (ws ++ [w]).length
    rw [List.length_append, List.length_append, List.length_singleton, List.length_singleton]; omega
theorem GN.more {nb : Int} {ss0 : List Stre} {s s' : Stre} {m : Nam} (h : GN nb (ss0 ++ [s]) m) (hl : s.words.length ≤ s'.words.length) : GN nb (ss0 ++ [s']) m := by
  refine ⟨h.sort, h.name, h.stre, ?_⟩
  obtain ⟨q, hq, h1, h2⟩ := h.at_
  rcases Nat.lt_or_ge m.stre.toNat ss0.length with hi | hi
  · rw [List.getElem?_append_left hi] at hq
    exact ⟨q, by rw [List.getElem?_append_left hi]; exact hq, h1, h2⟩
  · rw [List.getElem?_append_right hi] at hq
    have h0 : m.stre.toNat - ss0.length = 0 := by
      rcases Nat.eq_zero_or_pos (m.stre.toNat - ss0.length) with h | h
      · exact h
      · rw [List.getElem?_eq_none (by rw [List.length_singleton]; omega)] at hq; cases hq
    rw [h0] at hq
    cases hq
    exact ⟨s', by rw [List.getElem?_append_right hi, h0]; rfl, h1, by omega⟩
theorem GN.grow {nb : Int} {ss : List Stre} {s : Stre} {m : Nam} (h : GN nb ss m) : GN nb (ss ++ [s]) m := by
  obtain ⟨q, hq, h1, h2⟩ := h.at_
  exact ⟨h.sort, h.name, h.stre, q, by rw [List.getElem?_append_left (List.getElem?_eq_some_iff.mp hq).1]; exact hq, h1, h2⟩
theorem GP.new {nb tb : Int} {k : Nat} : GP nb tb k ⟨nmT tb k, [], []⟩ := ⟨rfl, fun _ h => (nomatch h), fun _ h => (nomatch h), List.nodup_nil⟩
theorem GP.stre {nb tb : Int} {k : Nat} {nm : Str} {ss : List Stre} {ns : List Nam} {s : Stre} (h : GP nb tb k ⟨nm, ss, ns⟩) (hs : GS nb s) : GP nb tb k ⟨nm, ss ++ [s], ns⟩ := by
  refine ⟨h.name, fun x hx => ?_, fun m hm => (h.names m hm).grow, h.once⟩
  rcases List.mem_append.mp hx with hx | hx
  · exact h.stres x hx
  · cases List.mem_singleton.mp hx; exact hs
theorem GP.last {nb tb : Int} {k : Nat} {nm : Str} {ss0 : List Stre} {ns : List Nam} {s s' : Stre} (h : GP nb tb k ⟨nm, ss0 ++ [s], ns⟩) (hs : GS nb s') (hl : s.words.length ≤ s'.words.length) : GP nb tb k ⟨nm, ss0 ++ [s'], ns⟩ := by
  refine ⟨h.name, fun x hx => ?_, fun m hm => (h.names m hm).more hl, h.once⟩
  rcases List.mem_append.mp hx with hx | hx
  · exact h.stres x (List.mem_append_left _ hx)
  · cases List.mem_singleton.mp hx; exact hs
theorem GP.nam {nb tb : Int} {k : Nat} {nm : Str} {ss0 : List Stre} {ns : List Nam} {s : Stre} (h : GP nb tb k ⟨nm, ss0 ++ [s], ns⟩) {name sort : Str} (h1 : nmOf nb name) (h2 : isSort sort) (h3 : name ∉ ns.map (·.name)) : GP nb tb k ⟨nm, ss0 ++ [s], ns ++ [⟨name, sort, (ss0.length : Int), (s.words.length : Int)⟩]⟩ := by
  refine ⟨h.name, h.stres, fun m hm => ?_, ?_⟩
  · rcases List.mem_append.mp hm with hm | hm
    · exact h.names m hm
    · cases List.mem_singleton.mp hm
      refine ⟨h2, h1, by show (0 : Int) ≤ ss0.length; omega, s, ?_, by show (0 : Int) ≤ s.words.length; omega, Int.le_refl _⟩
      show (ss0 ++ [s])[((ss0.length : Nat) : Int).toNat]? = some s
      rw [Int.toNat_natCast, List.getElem?_append_right (Nat.le_refl _), Nat.sub_self]; rfl
  · show (List.map (fun m : Nam => m.name) (ns ++ [_])).Nodup
    rw [List.map_append, List.nodup_append]
    refine ⟨h.once, List.nodup_cons.mpr ⟨List.not_mem_nil, List.nodup_nil⟩, fun a ha b hb e => ?_⟩
    cases List.mem_singleton.mp hb
    have e : a = name := e
    exact h3 (e ▸ ha)
/-- two do not tell one name strongly -/
def NoTwo (p q : Piece) : Prop := ∀ m ∈ p.names, ∀ m' ∈ q.names, m.name = m'.name → ¬ (m.sort = "tell" ∧ m'.sort = "tell")
structure Drawn (nb tb : Int) (strict : Bool) (n : Nat) (ps : List Piece) : Prop where
  each : ∀ (k : Nat) p, ps[k]? = some p → GP nb tb k p
  len : ps.length ≤ 12
  wts : (ps.map wt).sum ≤ n
  two : strict = false → ps.Pairwise NoTwo
theorem Drawn.nil {nb tb : Int} {strict : Bool} : Drawn nb tb strict 0 [] := ⟨fun _ _ h => (nomatch h), by decide, Nat.le_refl _, fun _ => List.Pairwise.nil⟩
theorem Drawn.ok {nb tb : Int} {strict : Bool} {n : Nat} {ps : List Piece} (h : Drawn nb tb strict n ps) : ∀ p ∈ ps, p.ok := fun p hp => by
  obtain ⟨k, hk⟩ := List.getElem?_of_mem hp
  exact (h.each k p hk).ok
theorem Drawn.more {nb tb : Int} {strict : Bool} {n m : Nat} {ps : List Piece} (h : Drawn nb tb strict n ps) (hm : n ≤ m) : Drawn nb tb strict m ps := ⟨h.each, h.len, Nat.le_trans h.wts hm, h.two⟩
theorem Drawn.piece {nb tb : Int} {strict : Bool} {n : Nat} {ps : List Piece} (h : Drawn nb tb strict n ps) (hl : ps.length < 12) : Drawn nb tb strict (n + 1) (ps ++ [⟨nmT tb (ps.length : Int), [], []⟩]) := by
  refine ⟨fun k p hp => ?_, by rw [List.length_append, List.length_singleton]; omega, ?_, fun hs => ?_⟩
  · rcases Nat.lt_or_ge k ps.length with hk | hk
    · rw [List.getElem?_append_left hk] at hp; exact h.each k p hp
    · rw [List.getElem?_append_right hk] at hp
      rcases Nat.eq_zero_or_pos (k - ps.length) with h0 | h0
      · rw [h0] at hp
        cases hp
        have : k = ps.length := by omega
        rw [this]
        exact GP.new
      · rw [List.getElem?_eq_none (by rw [List.length_singleton]; omega)] at hp; cases hp
  · rw [List.map_append, List.sum_append]
    have := h.wts
    show _ + (1 + 0) ≤ _
    omega
  · rw [List.pairwise_append]
    exact ⟨h.two hs, List.pairwise_singleton _ _, fun p _ q hq => by cases List.mem_singleton.mp hq; exact fun m _ m' hm' => (nomatch hm')⟩
/-- the last piece becomes another one -/
theorem Drawn.last {nb tb : Int} {strict : Bool} {n : Nat} {ps0 : List Piece} {p p' : Piece} (h : Drawn nb tb strict n (ps0 ++ [p])) (hg : GP nb tb ps0.length p → GP nb tb ps0.length p') (hw : wt p' ≤ wt p + 1) (h2 : strict = false → (∀ q ∈ ps0, NoTwo q p) → ∀ q ∈ ps0, NoTwo q p') : Drawn nb tb strict (n + 1) (ps0 ++ [p']) := by
  refine ⟨fun k q hq => ?_, by have := h.len; rw [List.length_append] at this ⊢; exact this, ?_, fun hs => ?_⟩
  · rcases Nat.lt_or_ge k ps0.length with hk | hk
    · rw [List.getElem?_append_left hk] at hq
      exact h.each k q (by rw [List.getElem?_append_left hk]; exact hq)
    · rw [List.getElem?_append_right hk] at hq
      rcases Nat.eq_zero_or_pos (k - ps0.length) with h0 | h0
      · rw [h0] at hq
        cases hq
        have e : k = ps0.length := by omega
        rw [e]
        exact hg (h.each ps0.length p (by rw [List.getElem?_append_right (Nat.le_refl _), Nat.sub_self]; rfl))
      · rw [List.getElem?_eq_none (by rw [List.length_singleton]; omega)] at hq; cases hq
  · have := h.wts
    rw [List.map_append, List.sum_append] at this ⊢
    have e1 : ([p].map wt).sum = wt p := by simp
    have e2 : ([p'].map wt).sum = wt p' := by simp
    omega
  · have := List.pairwise_append.mp (h.two hs)
    rw [List.pairwise_append]
    refine ⟨this.1, List.pairwise_singleton _ _, fun q hq x hx => ?_⟩
    cases List.mem_singleton.mp hx
    exact h2 hs (fun q hq => this.2.2 q hq p (List.mem_singleton.mpr rfl)) q hq
section
variable {K : PySem.W.Frag} {H B F : Hp} {P q : Addr} {X : List Addr} {ps : List Piece} {Q : VK} {p : Addr} {ds : List PyData}
theorem s_eqNilP (h1 : Dp K H (.ref p) (.list ds)) (hs : SeqAt.shaped (.list ds) = true) (h2 : H q = some (.lst [])) (z : Q (.bl (decide (ds = []))) H) : rEqD K (.ref p) (.ref q) H Q := by
  refine ⟨_, .list [], h1, .lst (.inl (.inl h2)) .nil, hs, by decide +kernel, ?_⟩
  cases ds with
  | nil => exact z
  | cons d ds => exact z
theorem BP.listP (h : BP K B F H P X ps) : ∃ vs, H P = some (.lst vs) ∧ vs.length = ps.length := by
  obtain ⟨F', xs, _, _, hP, hxs⟩ := h.close
  exact ⟨xs, hP, da_length hxs⟩
theorem last_uniq {xs xs' : List V} {t t' : Addr} (h1 : H P = some (.lst (xs ++ [.ref t]))) (h2 : H P = some (.lst (xs' ++ [.ref t']))) : xs = xs' ∧ t = t' := by
  rw [h1] at h2
  have h2 : xs ++ [V.ref t] = xs' ++ [V.ref t'] := by injection h2 with h2; injection h2
  obtain ⟨e1, e2⟩ := List.append_inj' h2 rfl
  cases e2
  exact ⟨e1, rfl⟩
theorem stres_shaped {ss : List Stre} (h : ∀ s ∈ ss, s.ok) : SeqAt.shaped (.list (ss.map streD)) = true := by
  obtain ⟨a, b⟩ := lay_map (f := streD) (l := ss) (n := 3) fun x hx => streD_ok (h x hx)
  exact shaped_of a (Nat.le_trans b (by decide))
theorem wt_le {ps : List Piece} {p : Piece} (h : p ∈ ps) : wt p ≤ (ps.map wt).sum := by
  induction ps with
  | nil => cases h
  | cons q ps ih =>
    rw [List.map_cons, List.sum_cons]
    rcases List.mem_cons.mp h with rfl | h
    · omega
    · have := ih h; omega
theorem sum_app1 {ss0 : List Stre} {s : Stre} : ((ss0 ++ [s]).map wtS).sum = (ss0.map wtS).sum + wtS s := by
  rw [List.map_append, List.sum_append]; simp
end
end Jl

/-! Sorted texts. -/
namespace Jl
open PySem L2 PySem.Spec PyProof.Rows
theorem putK_new' {κ : Type} [DecidableEq κ] {kvs : List (κ × V)} {k : κ} {v : V} (h : ∀ x ∈ kvs, x.1 ≠ k) : putK kvs k v = kvs ++ [(k, v)] := by
  unfold putK
  rw [if_neg]
  intro z
  obtain ⟨x, hx, e⟩ := List.any_eq_true.mp z
  exact h x hx (of_decide_eq_true e)
/-- not behind -/
def leS (a b : Str) : Prop := ltCps b.cps.toList a.cps.toList = false
theorem leS_iff {a b : Str} : leS a b ↔ ¬ b.cps.toList < a.cps.toList := by
  unfold leS
  rw [ltCps_eq]
  exact decide_eq_false_iff_not
theorem leS_trans {a b c : Str} (h1 : leS a b) (h2 : leS b c) : leS a c := by
  rw [leS_iff] at *
  exact List.le_trans (show a.cps.toList ≤ b.cps.toList from h1) (show b.cps.toList ≤ c.cps.toList from h2)
theorem leS_anti {a b : Str} (h1 : leS a b) (h2 : leS b a) : a = b := by
  rw [leS_iff] at *
  exact str_ext (List.le_antisymm (show a.cps.toList ≤ b.cps.toList from h1) (show b.cps.toList ≤ a.cps.toList from h2))
theorem rising_pw : ∀ (l : List Str) (p : Str), risingS p l = true → (p :: l).Pairwise leS
  | [], p, _ => List.pairwise_singleton _ _
  | x :: r, p, h => by
    have h' : (!ltCps x.cps.toList p.cps.toList && risingS x r) = true := h
    rw [Bool.and_eq_true, Bool.not_eq_true'] at h'
    have ih := rising_pw r x h'.2
    refine List.pairwise_cons.mpr ⟨fun y hy => ?_, ih⟩
    rcases List.mem_cons.mp hy with rfl | hy
    · exact h'.1
    · exact leS_trans h'.1 ((List.pairwise_cons.mp ih).1 y hy)
theorem sorted_pw : ∀ (l : List Str), sortedS l = true → l.Pairwise leS
  | [], _ => List.Pairwise.nil
  | x :: r, h => rising_pw r x h
theorem sorted_uniq {l m : List Str} (hl : sortedS l = true) (hm : sortedS m = true) (p : l.Perm m) : l = m :=
  List.Perm.eq_of_pairwise (le := leS) (fun _ _ _ _ h1 h2 => leS_anti h1 h2) (sorted_pw l hl) (sorted_pw m hm) p
def rSrtS (K : PySem.W.Frag) : List V → Hp → VK → Prop := rSortedS K
theorem cl_sortedS {X : Cx} : CallR X (.builtin "sorted") (rSrtS X.K) := cr_sortedS
theorem s_sortedS {K : PySem.W.Frag} {H : Hp} {Q : VK} {a : Addr} {xs : List Str} (h : SqL K H a (xs.map V.str)) (hl : xs.length < 64) (z : ∀ ys p, ys.Perm xs → sortedS ys = true → H p = none → Q (.ref p) (upd H p (.lst (ys.map V.str)))) : rSrtS K [.ref a] H Q := ⟨a, xs, rfl, h, hl, z⟩
def rSrtD : List V → Hp → VK → Prop := fun xs H Q => ∃ (a : Addr) (kvs : List (Key × V)) (ks : List Str), xs = [.ref a] ∧ Rd H a (.dK kvs) ∧ kvs.map (·.1) = ks.map Sum.inr ∧ ks.length < 64 ∧ ∀ ys p, ys.Perm ks → sortedS ys = true → H p = none → Q (.ref p) (upd H p (.lst (ys.map V.str)))
theorem s_sortedD {H : Hp} {Q : VK} {a : Addr} {kvs : List (Key × V)} {ks : List Str} (h : H a = some (.dK kvs)) (hk : kvs.map (·.1) = ks.map Sum.inr) (hl : ks.length < 64) (z : ∀ ys p, ys.Perm ks → sortedS ys = true → H p = none → Q (.ref p) (upd H p (.lst (ys.map V.str)))) : rSrtD [.ref a] H Q := ⟨a, kvs, ks, rfl, .inl h, hk, hl, z⟩
theorem cl_sortedD {X : Cx} (hc : X.calm = true) : CallR X (.builtin "sorted") rSrtD := call_sortedD hc
/-- the names that a piece tells to itself; to others -/
def owns (p : Piece) : List Nam := p.names.filter fun m => decide (m.sort = ("own" : Str))
def tolds (p : Piece) : List Str := (p.names.filter fun m => !decide (m.sort = ("own" : Str))).map (·.name)
/-- a dict of own names -/
def OwnD (H : Hp) (m : Addr) (nm : Str) (l : List Nam) : Prop := ∃ v : Str → Addr, H m = some (.dK (l.map fun n => ((Sum.inr n.name : Key), V.ref (v n.name)))) ∧ ∀ n ∈ l, H (v n.name) = some (.tup [.str nm, .int n.stre, .int n.off])
theorem OwnD.same {H H' : Hp} {m : Addr} {nm : Str} {l : List Nam} (s : Same H H') (h : OwnD H m nm l) : OwnD H' m nm l := by
  obtain ⟨v, h1, h2⟩ := h
  exact ⟨v, s _ _ h1, fun n hn => s _ _ (h2 n hn)⟩
theorem valV_strs {z : Str} {f : Str → V} : ∀ l : List Str, valV (l.map fun x => ((Sum.inr x : Key), f x)) (Sum.inr z) = if z ∈ l then some (f z) else none
  | [] => rfl
  | x :: l => by
    rw [List.map_cons]
    by_cases e : x = z
    · subst e
      rw [valV_pos rfl, if_pos List.mem_cons_self]
    · rw [valV_neg (show ¬ (Sum.inr x : Key) = Sum.inr z from fun h => e (Sum.inr.inj h)), valV_strs l]
      by_cases h : z ∈ l
      · rw [if_pos h, if_pos (List.mem_cons_of_mem _ h)]
      · rw [if_neg h, if_neg fun h2 => (List.mem_cons.mp h2).elim (fun h3 => e h3.symm) h]
theorem OwnD.get {H : Hp} {m : Addr} {nm : Str} {l : List Nam} (h : OwnD H m nm l) (z : Str) : ∃ o, DGet H m (.str z) o ∧ (o.isSome = decide (z ∈ l.map (·.name))) ∧ ∀ w, o = some w → ∃ t, w = .ref t := by
  obtain ⟨v, h1, h2⟩ := h
  refine ⟨_, DGet.k (k := (Sum.inr z : Key)) h1, ?_, ?_⟩
  · have e : (l.map fun n => ((Sum.inr n.name : Key), V.ref (v n.name))) = (l.map (·.name)).map fun x => ((Sum.inr x : Key), V.ref (v x)) := by rw [List.map_map]; rfl
    rw [e, valV_strs (f := fun x => V.ref (v x))]
    by_cases h : z ∈ l.map (·.name)
    · rw [if_pos h, decide_eq_true h]; rfl
    · rw [if_neg h, decide_eq_false h]; rfl
  · intro w hw
    have e : (l.map fun n => ((Sum.inr n.name : Key), V.ref (v n.name))) = (l.map (·.name)).map fun x => ((Sum.inr x : Key), V.ref (v x)) := by rw [List.map_map]; rfl
    rw [e, valV_strs (f := fun x => V.ref (v x))] at hw
    split at hw
    · cases hw; exact ⟨_, rfl⟩
    · cases hw
theorem OwnD.put {H : Hp} {m t : Addr} {nm : Str} {l : List Nam} {n : Nam} (h : OwnD H m nm l) (ht : H t = some (.tup [.str nm, .int n.stre, .int n.off])) (hn : n.name ∉ l.map (·.name)) (hl : l.length ≤ 99999) : ∃ o, DPut H m (.str n.name) (.ref t) (upd H m o) ∧ OwnD (upd H m o) m nm (l ++ [n]) := by
  obtain ⟨v, h1, h2⟩ := h
  refine ⟨_, DPut.k (k := (Sum.inr n.name : Key)) (v := .ref t) h1 (small5' (by rw [List.length_map]; omega)), fun z => if z = n.name then t else v z, ?_, fun q hq => ?_⟩
  · rw [putK_new']
    · rw [upd_same, List.map_append]
      have e1 : l.map (fun q => ((Sum.inr q.name : Key), V.ref (if q.name = n.name then t else v q.name))) = l.map fun q => ((Sum.inr q.name : Key), V.ref (v q.name)) := List.map_congr_left fun q hq => by
        rw [if_neg fun e => hn (List.mem_map.mpr ⟨q, hq, e⟩)]
      rw [e1]
      show some (HO.dK (_ ++ [_])) = some (HO.dK (_ ++ [((Sum.inr n.name : Key), V.ref (if n.name = n.name then t else v n.name))]))
      rw [if_pos rfl]
    · intro x hx e
      obtain ⟨q, hq, rfl⟩ := List.mem_map.mp hx
      exact hn (List.mem_map.mpr ⟨q, hq, Sum.inr.inj e⟩)
  · rcases List.mem_append.mp hq with hq | hq
    · show upd H m _ (if q.name = n.name then t else v q.name) = _
      rw [if_neg fun e => hn (List.mem_map.mpr ⟨q, hq, e⟩)]
      have h3 := h2 q hq
      rw [upd_ne (ne_of h3 h1 (by intro z; cases z))]
      exact h3
    · cases List.mem_singleton.mp hq
      show upd H m _ (if n.name = n.name then t else v n.name) = _
      rw [if_pos rfl, upd_ne (ne_of ht h1 (by intro z; cases z))]
      exact ht
theorem OwnD.nil {H : Hp} {m : Addr} {nm : Str} (h : H m = some (.dK [])) : OwnD H m nm [] := ⟨fun _ => m, h, fun _ h => nomatch h⟩
theorem nd_mem_take {l : List Nam} {i : Nat} {q : Nam} (h : (l.map (·.name)).Nodup) (hq : l[i]? = some q) (f : Nam → Bool) : q.name ∉ ((l.take i).filter f).map (·.name) := by
  intro z
  obtain ⟨x, hx, e⟩ := List.mem_map.mp z
  have hx := (List.mem_filter.mp hx).1
  obtain ⟨j, hj, e2⟩ := List.getElem_of_mem hx
  have hj2 : j < i ∧ j < l.length := by rw [List.length_take] at hj; omega
  have hil : i < l.length := (List.getElem?_eq_some_iff.mp hq).1
  rw [List.getElem_take] at e2
  have h2 := List.pairwise_iff_getElem.mp h j i (by rw [List.length_map]; exact hj2.2) (by rw [List.length_map]; exact hil) hj2.1
  rw [List.getElem_map, List.getElem_map, e2, (List.getElem?_eq_some_iff.mp hq).2] at h2
  exact h2 e
def addN (ks : List Str) (n : Str) : List Str := if n ∈ ks then ks else ks ++ [n]
def wantS (p : Piece) (ks : List Str) (f : Fill) : List Str := if f.soft = false ∧ f.name ∉ (owns p).map (·.name) then addN ks f.name else ks
/-- the names that fills want, in the order of their first want -/
def wantL (p : Piece) (fs : List Fill) : List Str := fs.foldl (wantS p) []
theorem wantL_snoc (p : Piece) (fs : List Fill) (f : Fill) : wantL p (fs ++ [f]) = wantS p (wantL p fs) f := by
  unfold wantL
  rw [List.foldl_append]; rfl
theorem addN_len (ks : List Str) (n : Str) : (addN ks n).length ≤ ks.length + 1 := by
  unfold addN
  split
  · omega
  · rw [List.length_append]; exact Nat.le_refl _
theorem wantS_len (p : Piece) (ks : List Str) (f : Fill) : (wantS p ks f).length ≤ ks.length + 1 := by
  unfold wantS
  split
  · exact addN_len _ _
  · omega
theorem want_len (p : Piece) : ∀ (fs : List Fill) (ks : List Str), (fs.foldl (wantS p) ks).length ≤ ks.length + fs.length
  | [], ks => Nat.le_refl _
  | f :: fs, ks => by
    rw [List.foldl_cons, List.length_cons]
    have := want_len p fs (wantS p ks f)
    have := wantS_len p ks f
    omega
theorem wantL_len (p : Piece) (fs : List Fill) : (wantL p fs).length ≤ fs.length := by
  have := want_len p fs []
  rw [List.length_nil, Nat.zero_add] at this
  exact this
def allF (p : Piece) : List Fill := p.stres.flatMap (·.fills)
/-- a dict of texts, each with True -/
def TruD (H : Hp) (m : Addr) (ks : List Str) : Prop := H m = some (.dK (ks.map fun x => ((Sum.inr x : Key), V.bl true)))
theorem TruD.nil {H : Hp} {m : Addr} (h : H m = some (.dK [])) : TruD H m [] := h
theorem TruD.same {H H' : Hp} {m : Addr} {ks : List Str} (s : Same H H') (h : TruD H m ks) : TruD H' m ks := s _ _ h
theorem putK_old' {κ : Type} [DecidableEq κ] {kvs : List (κ × V)} {k : κ} {v : V} (h : ∃ x ∈ kvs, x.1 = k) : putK kvs k v = kvs.map fun x => if x.1 = k then (x.1, v) else x := by
  unfold putK
  rw [if_pos]
  obtain ⟨x, hx, e⟩ := h
  exact List.any_eq_true.mpr ⟨x, hx, decide_eq_true e⟩
theorem TruD.put {H : Hp} {m : Addr} {ks : List Str} {n : Str} (h : TruD H m ks) (hl : ks.length ≤ 99999) : ∃ o, DPut H m (.str n) (.bl true) (upd H m o) ∧ TruD (upd H m o) m (addN ks n) := by
  refine ⟨_, DPut.k (k := (Sum.inr n : Key)) (v := .bl true) h (small5' (by rw [List.length_map]; omega)), ?_⟩
  unfold TruD addN
  rw [upd_same]
  by_cases g : n ∈ ks
  · rw [if_pos g, putK_old' ⟨_, List.mem_map.mpr ⟨n, g, rfl⟩, rfl⟩, List.map_map]
    congr 3
    funext x
    show (if (Sum.inr x : Key) = Sum.inr n then ((Sum.inr x : Key), V.bl true) else ((Sum.inr x : Key), V.bl true)) = _
    split <;> rfl
  · rw [if_neg g, putK_new', List.map_append]
    · rfl
    · intro x hx e
      obtain ⟨q, hq, rfl⟩ := List.mem_map.mp hx
      exact g (by rw [← Sum.inr.inj e]; exact hq)
theorem TruD.keys {H : Hp} {m : Addr} {ks : List Str} (h : TruD H m ks) : H m = some (.dK (ks.map fun x => ((Sum.inr x : Key), V.bl true))) ∧ (ks.map fun x => ((Sum.inr x : Key), V.bl true)).map (·.1) = ks.map Sum.inr := ⟨h, by rw [List.map_map]; rfl⟩
theorem tolds_d (p : Piece) : (p.names.filterMap fun n => if n.sort = ("own" : Str) then none else some (PyData.str n.name)) = (tolds p).map PyData.str := by
  unfold tolds
  induction p.names with
  | nil => rfl
  | cons n l ih =>
    rw [List.filterMap_cons, List.filter_cons]
    by_cases g : n.sort = ("own" : Str)
    · rw [if_pos g, decide_eq_true g]; exact ih
    · rw [if_neg g, decide_eq_false g]
      show _ :: _ = _ :: _
      rw [ih]
theorem tolds_len (p : Piece) : (tolds p).length ≤ p.names.length := by
  unfold tolds
  rw [List.length_map]
  exact List.length_filter_le _ _
theorem own_mem {p : Piece} {z : Str} : z ∈ (owns p).map (·.name) ↔ ∃ m ∈ p.names, m.name = z ∧ m.sort = "own" := by
  unfold owns
  rw [List.mem_map]
  constructor
  · rintro ⟨m, hm, e⟩
    have := List.mem_filter.mp hm
    exact ⟨m, this.1, e, of_decide_eq_true this.2⟩
  · rintro ⟨m, hm, e, e2⟩
    exact ⟨m, List.mem_filter.mpr ⟨hm, decide_eq_true e2⟩, e⟩
theorem flat_sub (l : List Stre) (n : Nat) : ((l.take n).flatMap (·.fills)).Sublist (l.flatMap (·.fills)) := by
  have e : l.flatMap (·.fills) = (l.take n).flatMap (·.fills) ++ (l.drop n).flatMap (·.fills) := by
    rw [← List.flatMap_append, List.take_append_drop]
  rw [e]
  exact List.sublist_append_left _ _
/-- a piece that is small and lawful -/
structure Fine (p : Piece) : Prop where
  ok : p.ok
  once : (p.names.map (·.name)).Nodup
  nl : p.names.length < 64
  sl : p.stres.length < 64
  fl : (allF p).length < 64
theorem few_le {nb : Int} : ∀ (ss : List Stre), (∀ s ∈ ss, GS nb s) → (ss.flatMap (·.fills)).length ≤ (ss.map wtS).sum
  | [], _ => Nat.le_refl _
  | s :: ss, h => by
    rw [List.flatMap_cons, List.length_append, List.map_cons, List.sum_cons]
    have h1 := few_le ss fun x hx => h x (List.mem_cons_of_mem _ hx)
    have h2 := (h s List.mem_cons_self).few
    have h3 : wtS s = 1 + s.words.length := rfl
    omega
theorem stl_le : ∀ (ss : List Stre), ss.length ≤ (ss.map wtS).sum
  | [] => Nat.le_refl _
  | s :: ss => by
    rw [List.length_cons, List.map_cons, List.sum_cons]
    have h1 := stl_le ss
    have h3 : wtS s = 1 + s.words.length := rfl
    omega
theorem Drawn.fine {nb tb : Int} {strict : Bool} {n : Nat} {ps : List Piece} (h : Drawn nb tb strict n ps) (hn : n ≤ 63) : ∀ p ∈ ps, Fine p := fun p hp => by
  obtain ⟨k, hk, e⟩ := List.getElem_of_mem hp
  have g := h.each k p (by rw [List.getElem?_eq_getElem hk, e])
  have h1 := wt_le hp
  have h2 := h.wts
  have h3 : wt p = 1 + p.names.length + (p.stres.map wtS).sum := rfl
  have h4 := few_le p.stres g.stres
  have h5 := stl_le p.stres
  exact ⟨g.ok, g.once, by omega, by omega, by show (p.stres.flatMap (·.fills)).length < 64; omega⟩
def padP : Piece := ⟨"pad", [], []⟩
theorem pad_fine : Fine padP := ⟨⟨by unfold okS; decide +kernel, fun _ h => (nomatch h), fun _ h => (nomatch h)⟩, List.nodup_nil, by decide, by decide, by decide⟩
theorem strs_shaped {l : List Str} (h : ∀ z ∈ l, okS z) : SeqAt.shaped (.list (l.map PyData.str)) = true := by
  have := lay_map (f := PyData.str) (l := l) (n := 0) fun z hz => ⟨h z hz, Nat.le_refl _⟩
  exact shaped_of this.1 (Nat.le_trans this.2 (by decide))
theorem da_strL {K : PySem.W.Frag} {H : Hp} : ∀ l : List Str, DpAll K H (l.map V.str) (l.map PyData.str)
  | [] => .nil
  | z :: l => .cons (.str z) (da_strL l)
theorem dp_strL {K : PySem.W.Frag} {H : Hp} {a : Addr} {l : List Str} (h : SqL K H a (l.map V.str)) : Dp K H (.ref a) (.list (l.map PyData.str)) := .lst h (da_strL l)
theorem tolds_ok {p : Piece} (h : p.ok) : ∀ z ∈ tolds p, okS z := fun z hz => by
  obtain ⟨m, hm, rfl⟩ := List.mem_map.mp hz
  exact (h.2.2 m (List.mem_filter.mp hm).1).1
theorem cutV_ints2 (ns : List Int) (lo hi : Option Int) : ∃ ms : List Int, cutV (ns.map V.int) lo hi = ms.map V.int ∧ ms.length ≤ ns.length := by
  refine ⟨(ns.drop (HT.sIx (ns.map V.int).length 0 lo)).take (HT.sIx (ns.map V.int).length (ns.map V.int).length hi - HT.sIx (ns.map V.int).length 0 lo), ?_, ?_⟩
  · rw [List.map_take, List.map_drop]; rfl
  · rw [List.length_take, List.length_drop]; omega
end Jl

/-! Dicts that hold data, their entries in order. -/
namespace Jl
open PySem L2 PySem.Spec PyProof.Rows
section
variable {κ α : Type} [DecidableEq κ] [DecidableEq α] {K : PySem.W.Frag} {F F' H H' : Hp} {m : Addr} {v : V} {d : PyData}
/-- entries are data -/
def KVD (K : PySem.W.Frag) (F : Hp) (kf : α → κ) (kvs : List (κ × V)) (L : List (α × PyData)) : Prop := kvs.map (·.1) = L.map (fun x => kf x.1) ∧ DpAll K F (kvs.map (·.2)) (L.map (·.2))
def lookL (L : List (α × PyData)) (k : α) : Option PyData := (L.find? fun x => decide (x.1 = k)).map (·.2)
def putL (L : List (α × PyData)) (k : α) (d : PyData) : List (α × PyData) := if k ∈ L.map (·.1) then L.map (fun x => if x.1 = k then (x.1, d) else x) else L ++ [(k, d)]
theorem KVD.nil {kf : α → κ} : KVD K F kf [] [] := ⟨rfl, .nil⟩
theorem KVD.same {kf : α → κ} {kvs : List (κ × V)} {L : List (α × PyData)} (h : KVD K F kf kvs L) (s : Same F F') : KVD K F' kf kvs L := ⟨h.1, dps_same s h.2⟩
theorem KVD.len {kf : α → κ} {kvs : List (κ × V)} {L : List (α × PyData)} (h : KVD K F kf kvs L) : kvs.length = L.length := by
  have := congrArg List.length h.1
  rw [List.length_map, List.length_map] at this
  exact this
theorem KVD.uncons {kf : α → κ} {x : α × PyData} {kvs : List (κ × V)} {L : List (α × PyData)} (h : KVD K F kf kvs (x :: L)) : ∃ v r, kvs = (kf x.1, v) :: r ∧ Dp K F v x.2 ∧ KVD K F kf r L := by
  cases kvs with
  | nil => exact absurd h.1 (by intro z; cases z)
  | cons y r =>
    obtain ⟨h1, h2⟩ := h
    rw [List.map_cons, List.map_cons] at h1
    obtain ⟨e1, e2⟩ := List.cons.inj h1
    rw [List.map_cons, List.map_cons] at h2
    obtain ⟨v, vs, e, g1, g2⟩ := da_cons h2
    obtain ⟨e3, e4⟩ := List.cons.inj e
    refine ⟨y.2, r, ?_, ?_, e2, ?_⟩
    · rw [← e1]
    · rw [e3]; exact g1
    · rw [e4]; exact g2
theorem lookL_none {L : List (α × PyData)} {k : α} : lookL L k = none ↔ k ∉ L.map (·.1) := by
  unfold lookL
  rw [Option.map_eq_none_iff, List.find?_eq_none]
  constructor
  · intro h z
    obtain ⟨x, hx, e⟩ := List.mem_map.mp z
    exact h x hx (decide_eq_true e)
  · intro h x hx e
    exact h (List.mem_map.mpr ⟨x, hx, of_decide_eq_true e⟩)
theorem KVD.get {kf : α → κ} (hj : ∀ a b, kf a = kf b → a = b) {k : α} : ∀ {L : List (α × PyData)} {kvs : List (κ × V)}, KVD K F kf kvs L →
    (lookL L k = none ∧ valV kvs (kf k) = none) ∨ ∃ d v, lookL L k = some d ∧ valV kvs (kf k) = some v ∧ Dp K F v d
  | [], kvs, h => by
    have e : kvs = [] := by have := h.len; exact List.eq_nil_of_length_eq_zero this
    subst e
    exact .inl ⟨rfl, rfl⟩
  | x :: L, kvs, h => by
    obtain ⟨v, r, rfl, hv, hr⟩ := h.uncons
    by_cases e : x.1 = k
    · refine .inr ⟨x.2, v, ?_, ?_, hv⟩
      · unfold lookL
        rw [List.find?_cons, decide_eq_true e]; rfl
      · rw [e]; exact valV_pos rfl
    · have e1 : lookL (x :: L) k = lookL L k := by
        unfold lookL
        rw [List.find?_cons, decide_eq_false e]
      rw [e1, valV_neg (show ¬ kf x.1 = kf k from fun z => e (hj _ _ z))]
      exact hr.get hj
theorem KVD.put {kf : α → κ} (hj : ∀ a b, kf a = kf b → a = b) {k : α} {L : List (α × PyData)} {kvs : List (κ × V)} (h : KVD K F kf kvs L) (hv : Dp K F v d) : KVD K F kf (putK kvs (kf k) v) (putL L k d) := by
  by_cases g : k ∈ L.map (·.1)
  · have e1 : putL L k d = L.map (fun x => if x.1 = k then (x.1, d) else x) := if_pos g
    have g2 : ∃ x ∈ kvs, x.1 = kf k := by
      obtain ⟨x, hx, e⟩ := List.mem_map.mp g
      have : kf k ∈ kvs.map (·.1) := by rw [h.1, ← e]; exact List.mem_map.mpr ⟨x, hx, rfl⟩
      obtain ⟨y, hy, e2⟩ := List.mem_map.mp this
      exact ⟨y, hy, e2⟩
    rw [e1, putK_old' g2]
    clear g g2 e1
    induction L generalizing kvs with
    | nil =>
      have e : kvs = [] := List.eq_nil_of_length_eq_zero h.len
      subst e
      exact .nil
    | cons x L ih =>
      obtain ⟨w, r, rfl, hw, hr⟩ := h.uncons
      obtain ⟨i1, i2⟩ := ih hr
      rw [List.map_cons, List.map_cons]
      by_cases e : x.1 = k
      · rw [if_pos e, if_pos (by show kf x.1 = kf k; rw [e])]
        refine ⟨?_, ?_⟩
        · rw [List.map_cons, List.map_cons, i1]
        · rw [List.map_cons, List.map_cons]
          exact .cons hv i2
      · rw [if_neg e, if_neg (fun z => e (hj _ _ z))]
        refine ⟨?_, ?_⟩
        · rw [List.map_cons, List.map_cons, i1]
        · rw [List.map_cons, List.map_cons]
          exact .cons hw i2
  · have e1 : putL L k d = L ++ [(k, d)] := if_neg g
    rw [e1, putK_new']
    · refine ⟨?_, ?_⟩
      · rw [List.map_append, List.map_append, h.1]; rfl
      · rw [List.map_append, List.map_append]
        exact da_app h.2 (da_one hv)
    · intro x hx e
      have : x.1 ∈ kvs.map (·.1) := List.mem_map.mpr ⟨x, hx, rfl⟩
      rw [h.1] at this
      obtain ⟨y, hy, e2⟩ := List.mem_map.mp this
      exact g (List.mem_map.mpr ⟨y, hy, hj _ _ (e2.trans e)⟩)
theorem putL_len {L : List (α × PyData)} {k : α} : (putL L k d).length ≤ L.length + 1 := by
  unfold putL
  split
  · rw [List.length_map]; omega
  · rw [List.length_append]; exact Nat.le_refl _
theorem putL_keys {L : List (α × PyData)} {k : α} : (putL L k d).map (·.1) = if k ∈ L.map (·.1) then L.map (·.1) else L.map (·.1) ++ [k] := by
  unfold putL
  by_cases g : k ∈ L.map (·.1)
  · rw [if_pos g, if_pos g, List.map_map]
    refine List.map_congr_left fun x _ => ?_
    show (if x.1 = k then (x.1, d) else x).1 = x.1
    split <;> rfl
  · rw [if_neg g, if_neg g, List.map_append]; rfl
theorem putL_nodup {L : List (α × PyData)} {k : α} (h : (L.map (·.1)).Nodup) : ((putL L k d).map (·.1)).Nodup := by
  rw [putL_keys]
  split
  · exact h
  · rename_i g
    exact List.nodup_append.mpr ⟨h, List.pairwise_singleton _ _, fun a ha b hb e => by cases List.mem_singleton.mp hb; exact g (e ▸ ha)⟩
theorem lookL_map {L : List (α × PyData)} {k j : α} (h : j ≠ k) : lookL (L.map fun x => if x.1 = k then (x.1, d) else x) j = lookL L j := by
  induction L with
  | nil => rfl
  | cons x L ih =>
    have c : ∀ (y : α × PyData) (M : List (α × PyData)), lookL (y :: M) j = if y.1 = j then some y.2 else lookL M j := fun y M => by
      unfold lookL
      rw [List.find?_cons]
      by_cases e : y.1 = j
      · rw [decide_eq_true e, if_pos e]; rfl
      · rw [decide_eq_false e, if_neg e]
    rw [List.map_cons, c, c, ih]
    by_cases e : x.1 = k
    · rw [if_pos e]
      show (if x.1 = j then some d else _) = _
      rw [if_neg (fun z => h (z.symm.trans e)), if_neg (fun z => h (z.symm.trans e))]
    · rw [if_neg e]
theorem lookL_cons {x : α × PyData} {L : List (α × PyData)} {k : α} : lookL (x :: L) k = if x.1 = k then some x.2 else lookL L k := by
  unfold lookL
  rw [List.find?_cons]
  by_cases e : x.1 = k
  · rw [decide_eq_true e, if_pos e]; rfl
  · rw [decide_eq_false e, if_neg e]
theorem lookL_app {L M : List (α × PyData)} {k : α} : lookL (L ++ M) k = (lookL L k).or (lookL M k) := by
  induction L with
  | nil => rfl
  | cons x L ih =>
    rw [List.cons_append, lookL_cons, lookL_cons, ih]
    split <;> rfl
theorem lookL_put {L : List (α × PyData)} {k j : α} : lookL (putL L k d) j = if j = k then some d else lookL L j := by
  by_cases e : j = k
  · subst e
    rw [if_pos rfl]
    unfold putL
    by_cases g : j ∈ L.map (·.1)
    · rw [if_pos g]
      induction L with
      | nil => cases g
      | cons x L ih =>
        rw [List.map_cons, lookL_cons]
        by_cases e : x.1 = j
        · rw [if_pos e]
          show (if x.1 = j then some d else _) = _
          rw [if_pos e]
        · rw [if_neg e, if_neg e]
          rw [List.map_cons] at g
          exact ih ((List.mem_cons.mp g).resolve_left fun z => e z.symm)
    · rw [if_neg g, lookL_app, lookL_none.mpr g, lookL_cons, if_pos rfl]; rfl
  · rw [if_neg e]
    unfold putL
    split
    · exact lookL_map e
    · rw [lookL_app, lookL_cons, if_neg (fun z => e z.symm)]
      cases lookL L j <;> rfl
end
/-- a dict of texts that holds data -/
def SD (K : PySem.W.Frag) (F H : Hp) (m : Addr) (L : List (Str × PyData)) : Prop := ∃ kvs : List (Key × V), H m = some (.dK kvs) ∧ KVD K F (fun z : Str => (Sum.inr z : Key)) kvs L
theorem inr_inj (a b : Str) (h : (Sum.inr a : Key) = Sum.inr b) : a = b := Sum.inr.inj h
section
variable {K : PySem.W.Frag} {F F' H H' : Hp} {m : Addr} {v : V} {d : PyData} {L : List (Str × PyData)} {z : Str}
theorem SD.nil (h : H m = some (.dK [])) : SD K F H m [] := ⟨[], h, .nil⟩
theorem SD.to (D : SD K F H m L) (s : Same F F') (e : H' m = H m) : SD K F' H' m L := by
  obtain ⟨kvs, h1, h2⟩ := D
  exact ⟨kvs, e.trans h1, h2.same s⟩
theorem SD.ext (D : SD K F H m L) (s : Same F F') (s2 : Same H H') : SD K F' H' m L := by
  obtain ⟨kvs, h1, h2⟩ := D
  exact ⟨kvs, s2 _ _ h1, h2.same s⟩
theorem SD.isD (D : SD K F H m L) : IsD H m := by
  obtain ⟨kvs, h1, -⟩ := D
  exact .inl ⟨kvs, .inl h1⟩
theorem SD.get (D : SD K F H m L) (z : Str) : (lookL L z = none ∧ DGet H m (.str z) none) ∨ ∃ d v, lookL L z = some d ∧ DGet H m (.str z) (some v) ∧ Dp K F v d := by
  obtain ⟨kvs, h1, h2⟩ := D
  have g := DGet.k (k := (Sum.inr z : Key)) h1
  rcases h2.get inr_inj (k := z) with ⟨e1, e2⟩ | ⟨d, v, e1, e2, h3⟩
  · rw [e2] at g; exact .inl ⟨e1, g⟩
  · rw [e2] at g; exact .inr ⟨d, v, e1, g, h3⟩
theorem SD.put (D : SD K F H m L) (hv : Dp K F v d) (hl : L.length ≤ 99999) : ∃ o, DPut H m (.str z) v (upd H m o) ∧ SD K F (upd H m o) m (putL L z d) := by
  obtain ⟨kvs, h1, h2⟩ := D
  exact ⟨_, DPut.k (k := (Sum.inr z : Key)) (v := v) h1 (small5' (by rw [h2.len]; omega)), _, upd_same, h2.put inr_inj hv⟩
theorem SD.len (D : SD K F H m L) : ∃ kvs : List (Key × V), H m = some (.dK kvs) ∧ kvs.length = L.length := by
  obtain ⟨kvs, h1, h2⟩ := D
  exact ⟨kvs, h1, h2.len⟩
end
/-! dicts that hold the same values -/
def refB : V → Bool
  | .ref _ => true
  | v => flatB v
theorem eqAt_ref {A : Around} {s : Shared} {v : V} {u u' : Value} (r : RelV v u) (r' : RelV v u') (f : refB v = true) : SeqAt.EqAt A s u u' true := by
  cases v with
  | ref b => cases (show u = Value.ref b from r); cases (show u' = Value.ref b from r'); exact SeqAt.EqAt.same _
  | non => exact eqAt_same r r' rfl
  | bl b => exact eqAt_same r r' rfl
  | int i => exact eqAt_same r r' rfl
  | str x => exact eqAt_same r r' rfl
  | byt b => exact eqAt_same r r' rfl
  | _ => exact eqAt_same r r' f
section
variable {κ : Type} [DecidableEq κ]
theorem hits_ref {A : Around} {s : Shared} {kvs : List (κ × V)} {vb : List (κ × Value)} (rb : KV kvs vb) {ks : List (κ × V)} {va : List (κ × Value)} (ra : KV ks va) :
    (∀ p ∈ ks, valV kvs p.1 = some p.2 ∧ refB p.2 = true) → PySem.W.KeqHits A s vb va true := by
  unfold KV at ra
  induction ra with
  | nil => intro _; exact .nil
  | @cons p q ps qs h t ih =>
    intro hp
    obtain ⟨h1, h2⟩ := h
    obtain ⟨e, f⟩ := hp p List.mem_cons_self
    have rr : RelO (some p.2) (valueAt vb p.1) := by rw [← e]; exact rb.val p.1
    obtain ⟨y, hy, ry⟩ := rr.some_of
    obtain ⟨k, v⟩ := q
    have h1' : p.1 = k := h1
    rw [h1'] at hy
    show PySem.W.KeqHits A s vb ((k, v) :: qs) (true && true)
    exact .hit hy (eqAt_ref h2 ry f) (ih fun p' hm => hp p' (List.mem_cons_of_mem _ hm))
end
def rEqDS : R2 := fun x y H Q => ∃ a b kvs, x = .ref a ∧ y = .ref b ∧ H a = some (.dK kvs) ∧ H b = some (.dK kvs) ∧ (kvs.map (·.1)).Nodup ∧ (∀ p ∈ kvs, refB p.2 = true) ∧ Q (.bl true) H
theorem op_eqDS {X : Cx} (hu : X.A.units < cLine) : OpR X (compareOp .Eq) rEqDS := by
  intro pins s σ H x y v u Q I rx ry h
  obtain ⟨a, b, kvs, rfl, rfl, ea, eb, nd, fl, q⟩ := h
  obtain rfl : v = Value.ref a := rx
  obtain rfl : u = Value.ref b := ry
  obtain ⟨_, ya, va, ra, da⟩ := (show ObjOk X.prog X.w H s.heap a (.dK kvs) from I.hok a _ ea)
  obtain ⟨_, yb, vb, rb, db⟩ := (show ObjOk X.prog X.w H s.heap b (.dK kvs) from I.hok b _ eb)
  have hl : va.length = vb.length := ra.length.symm.trans rb.length
  exact PySem.W.keq_eq (knd := mixKind X.prog X.w) (r := true) ya yb da db hu (fun _ => hits_ref rb ra fun p hp => ⟨val_nodup nd p hp, fl p hp⟩) (L2.fin_bl I q (by simp [hl]))
theorem KVD.refs {κ α : Type} [DecidableEq κ] [DecidableEq α] {K : PySem.W.Frag} {F : Hp} {kf : α → κ} : ∀ {L : List (α × PyData)} {kvs : List (κ × V)}, KVD K F kf kvs L → ∀ p ∈ kvs, refB p.2 = true
  | [], kvs, h => by
    have e : kvs = [] := List.eq_nil_of_length_eq_zero h.len
    subst e
    exact fun p hp => nomatch hp
  | x :: L, kvs, h => by
    obtain ⟨v, r, rfl, hv, hr⟩ := h.uncons
    intro p hp
    rcases List.mem_cons.mp hp with rfl | hp
    · show refB v = true
      generalize x.2 = d at hv
      cases hv <;> rfl
    · exact hr.refs p hp
/-! list.count of flat items -/
def rCntV (K : PySem.W.Frag) : V → List V → Hp → VK → Prop := fun x xs H Q => ∃ (p : Addr) (ys : List V) (y : V), x = .ref p ∧ xs = [y] ∧ SqL K H p ys ∧ flatV y = true ∧ ys.all flatV = true ∧ Q (.int (ys.countP (fun z => eqV z y) : Nat)) H
theorem cnt_eqU {x : V} : ∀ {xs : List V} {us : List Value}, Vals xs us → xs.all flatV = true → us.countP (eqU x) = xs.countP fun y => eqV y x
  | _, _, .nil, _ => rfl
  | y :: xs, u :: us, .cons r t, f => by
    rw [List.all_cons, Bool.and_eq_true] at f
    rw [List.countP_cons, List.countP_cons, eqU_of r f.1, cnt_eqU t f.2]
theorem mt_countV {X : Cx} : MtR X "list.count" (rCntV X.K) := by
  intro pins s σ H x xs v us Q I rx rxs h
  obtain ⟨p, ys, k, rfl, rfl, hs, fy, fs, q⟩ := h
  cases rx
  obtain ⟨u, rfl, ru⟩ := rxs.one
  obtain ⟨its, rv, ⟨⟨cls, dd, data, sl⟩, n, ho, hc, hdn, hd⟩, hlen⟩ := I.list hs
  simp only at hc hd
  subst hc hd
  refine call_meets PySem.F.slot_list_count ⟨_, ho, rfl⟩ PySem.F.entry_list_count (PySem.F.args_list_count_2 _ _)
    (SeqAt.list_countAt p its.toArray n dd sl u (eqU k)) ⟨ho, fun y hy => mem_eqAt ru fy rv fs y (by simpa using hy), ?_⟩
  have ec : its.toArray.toList.countP (eqU k) = ys.countP fun z => eqV z k := cnt_eqU rv fs
  refine ⟨.int (ys.countP (fun z => eqV z k) : Nat), H, I.tok _, ⟨s.toks, ?_⟩, q⟩
  show Value.int ((its.toArray.toList.countP (eqU k) : Nat) : Int) s.toks = _
  rw [ec]
/-! steps -/
section
variable {K : PySem.W.Frag} {σ : L2.St} {H : Hp} {Q : VK} {td ty tx to : TE} {tr : TA}
theorem s_dget2 (z : td σ H fun x H1 => ∃ a, x = .ref a ∧ IsD H1 a ∧ ty σ H1 fun y H2 => tx σ H2 fun z H3 => ∃ o, DGet H3 a y o ∧ Q (o.getD z) H3) : tDGet2 td ty tx σ H Q := z
theorem s_dsetd (z : td σ H fun x H1 => ∃ a, x = .ref a ∧ IsD H1 a ∧ ty σ H1 fun y H2 => tx σ H2 fun z H3 => ∃ (kvs : List (Key × V)) (k : Key), H3 a = some (.dK kvs) ∧ y = kV k ∧ kvs.length < sizeLine ∧ (∀ v, valV kvs k = some v → Q v H3) ∧ (valV kvs k = none → Q z (upd H3 a (.dK (putK kvs k z))))) : tDSetd td ty tx σ H Q := z
end
/-! an exception with several fields -/
section
variable {K : PySem.W.Frag} {C : Addr} {sp : Sp} {σ : L2.St} {H : Hp} {t : TA} {vs : List V} {fs : List (Str × V)}
theorem s_mkN {Q : XK} (ht : ∀ R : List V → Hp → Prop, R vs H → t σ H R) (hl : vs.length ≤ 1000)
    (hs : ∀ (a : Addr) (H' : Hp) (Q' : VK), H' a = some (exo a C none) → (∀ dx H2, H' dx = none → dx ≠ a → (∀ b, b ≠ a → b ≠ dx → H2 b = H' b) → H2 a = some (exo a C (some dx)) → H2 dx = some (exd dx fs) → Q' .non H2) → sp (.ref a :: vs) H' Q' (fun _ _ _ => False))
    (z : ∀ d, H d = none → Q (.ref C) (some d) (upd H d (.xd fs))) : tMkO C sp [] t σ H Q := by
  refine ht _ ⟨hl, fun a ha => ?_⟩
  rw [List.append_nil]
  refine hs a _ _ upd_same fun dx H2 nd ne hb h1 h2 => ⟨rfl, dx, fs, h1, h2, ?_, ?_⟩
  · rw [upd_ne ne] at nd; exact nd
  · rw [upd_ne ne] at nd
    have e : upd (del H2 a) dx (.xd fs) = upd H dx (.xd fs) := by
      funext b
      by_cases h : b = dx
      · rw [h, upd_same, upd_same]
      · rw [upd_ne h, upd_ne h]
        by_cases g : b = a
        · rw [g, del_same, ha]
        · rw [del_ne g, hb b g h, upd_ne g]
    rw [e]
    exact z dx nd
theorem s_ostM {f : Str} {to te : TE} {nx bk ct : L2.St → Hp → Prop} {rt : VK} {a dx : Addr} {v : V} (he : ∀ R : VK, R v H → te σ H R) (ho : ∀ R : VK, R (.ref a) H → to σ H R) (T : OexC K C) (no : PySem.W.findIn K (.ref C) f = some none) (h : H a = some (exo a C (some dx))) (hd : H dx = some (exd dx fs)) (hl : fs.length ≤ 900)
    (z : nx σ (upd H dx (exd dx ((f, v) :: fs)))) : tOst K f to te ⟨nx, rt, bk, ct⟩ σ H := he _ (ho _ ⟨a, C, rfl, T, no, .inr ⟨dx, fs, h, hd, hl, z⟩⟩)
end
/-! what names stand for -/
def spotD (t : Str) (i j : Int) : PyData := .tuple [.str t, .int i, .int j]
def AllSpot (L : List (Str × PyData)) : Prop := ∀ x ∈ L, ∃ t i j, okS t ∧ x.2 = spotD t i j
theorem AllSpot.nil : AllSpot [] := fun _ h => nomatch h
theorem AllSpot.put {L : List (Str × PyData)} {z t : Str} {i j : Int} (h : AllSpot L) (ht : okS t) : AllSpot (putL L z (spotD t i j)) := by
  intro x hx
  unfold putL at hx
  split at hx
  · obtain ⟨y, hy, rfl⟩ := List.mem_map.mp hx
    by_cases e : y.1 = z
    · rw [if_pos e]; exact ⟨t, i, j, ht, rfl⟩
    · rw [if_neg e]; exact h y hy
  · rcases List.mem_append.mp hx with hx | hx
    · exact h x hx
    · cases List.mem_singleton.mp hx
      exact ⟨t, i, j, ht, rfl⟩
theorem AllSpot.look {L : List (Str × PyData)} {z : Str} {d : PyData} (h : AllSpot L) (e : lookL L z = some d) : ∃ t i j, okS t ∧ d = spotD t i j := by
  unfold lookL at e
  cases g : L.find? (fun x => decide (x.1 = z)) with
  | none => rw [g] at e; cases e
  | some x =>
    rw [g] at e
    cases e
    exact h x (List.mem_of_find?_eq_some g)
theorem dp_spot {K : PySem.W.Frag} {H : Hp} {x : V} {t : Str} {i j : Int} (h : Dp K H x (spotD t i j)) : ∃ p, x = .ref p ∧ SqT K H p [.str t, .int i, .int j] := by
  obtain ⟨p, u0, e0, h1, g0⟩ := dp_tup h
  obtain ⟨u1, e1, g1⟩ := da_str g0
  obtain ⟨u2, e2, g2⟩ := da_int g1
  obtain ⟨u3, e3, g3⟩ := da_int g2
  have e4 := da_nil g3
  subst e0 e1 e2 e3 e4
  exact ⟨p, rfl, h1⟩
theorem spot_dp {K : PySem.W.Frag} {H : Hp} {p : Addr} {t : Str} {i j : Int} (h : H p = some (.tup [.str t, .int i, .int j])) : Dp K H (.ref p) (spotD t i j) := .tup (.inl (.inl h)) (.cons (.str _) (.cons (.int _) (.cons (.int _) .nil)))
theorem spot_shaped {t : Str} {i j : Int} (h : okS t) : SeqAt.shaped (spotD t i j) = true := by
  refine shaped_of ?_ ?_
  · show ((PyData.str t).canLay0 && (true && (true && true))) = true
    rw [h]; rfl
  · show max 0 (max 0 (max 0 0)) + 1 ≤ 64
    omega
/-- the own name of a piece -/
def ownOf (p : Piece) (z : Str) : Option Nam := p.names.find? fun n => decide (n.name = z) && decide (n.sort = ("own" : Str))
theorem owns_find (p : Piece) (z : Str) : (owns p).find? (fun n => decide (n.name = z)) = ownOf p z := by
  unfold owns ownOf
  rw [List.find?_filter]
  congr 1
  funext n
  rw [Bool.eq_iff_iff]
  simp only [Bool.and_eq_true, decide_eq_true_iff]
  exact and_comm
theorem valV_own {v : Str → Addr} {z : Str} : ∀ l : List Nam, valV (l.map fun n => ((Sum.inr n.name : Key), V.ref (v n.name))) (Sum.inr z) = (l.find? fun n => decide (n.name = z)).map fun n => V.ref (v n.name)
  | [] => rfl
  | x :: l => by
    rw [List.map_cons, List.find?_cons]
    by_cases e : x.name = z
    · rw [decide_eq_true e, valV_pos (by rw [e])]; rfl
    · rw [decide_eq_false e, valV_neg (show ¬ (Sum.inr x.name : Key) = Sum.inr z from fun h => e (Sum.inr.inj h)), valV_own l]
theorem OwnD.get2 {H : Hp} {m : Addr} {p : Piece} (h : OwnD H m p.name (owns p)) (z : Str) : (ownOf p z = none ∧ DGet H m (.str z) none) ∨ ∃ n t, ownOf p z = some n ∧ DGet H m (.str z) (some (.ref t)) ∧ H t = some (.tup [.str p.name, .int n.stre, .int n.off]) := by
  obtain ⟨v, h1, h2⟩ := h
  have g := DGet.k (k := (Sum.inr z : Key)) h1
  rw [valV_own, owns_find] at g
  cases e : ownOf p z with
  | none => rw [e] at g; exact .inl ⟨rfl, g⟩
  | some n =>
    rw [e] at g
    refine .inr ⟨n, _, rfl, g, h2 n ?_⟩
    rw [← owns_find] at e
    exact List.mem_of_find?_eq_some e
theorem OwnD.isD {H : Hp} {m : Addr} {nm : Str} {l : List Nam} (h : OwnD H m nm l) : IsD H m := by
  obtain ⟨v, h1, -⟩ := h
  exact .inl ⟨_, .inl h1⟩
/-- what a name stands for in a piece, the others' names being L -/
def spotOf (p : Piece) (L : List (Str × PyData)) (z : Str) : Option PyData := match ownOf p z with
  | some n => some (spotD p.name n.stre n.off)
  | none => lookL L z
theorem spotOf_all {p : Piece} {L : List (Str × PyData)} {z : Str} {d : PyData} (hp : okS p.name) (h : AllSpot L) (e : spotOf p L z = some d) : ∃ t i j, okS t ∧ d = spotD t i j := by
  unfold spotOf at e
  split at e
  · cases e; exact ⟨_, _, _, hp, rfl⟩
  · exact h.look e
theorem aim_get {K : PySem.W.Frag} {F H : Hp} {m mo : Addr} {p : Piece} {L : List (Str × PyData)} (z : Str) (D : SD K F H m L) (sF : Same F H) (hL : AllSpot L) (ho : OwnD H mo p.name (owns p)) (hp : okS p.name) :
    ∃ o1 o2, DGet H m (.str z) o1 ∧ DGet H mo (.str z) o2 ∧ ((spotOf p L z = none ∧ o2.getD (o1.getD .non) = .non) ∨ ∃ t i j q, okS t ∧ spotOf p L z = some (spotD t i j) ∧ o2.getD (o1.getD .non) = .ref q ∧ SqT K H q [.str t, .int i, .int j]) := by
  have key : ∀ o1, DGet H m (.str z) o1 → ((lookL L z = none ∧ o1 = none) ∨ ∃ t i j q, okS t ∧ lookL L z = some (spotD t i j) ∧ o1 = some (.ref q) ∧ SqT K H q [.str t, .int i, .int j]) → ∃ o1 o2, DGet H m (.str z) o1 ∧ DGet H mo (.str z) o2 ∧ ((spotOf p L z = none ∧ o2.getD (o1.getD .non) = .non) ∨ ∃ t i j q, okS t ∧ spotOf p L z = some (spotD t i j) ∧ o2.getD (o1.getD .non) = .ref q ∧ SqT K H q [.str t, .int i, .int j]) := fun o1 g1 h1 => by
    rcases ho.get2 z with ⟨e2, g2⟩ | ⟨n, t, e2, g2, h2⟩
    · have e3 : spotOf p L z = lookL L z := by unfold spotOf; rw [e2]
      refine ⟨o1, none, g1, g2, ?_⟩
      rw [e3]
      rcases h1 with ⟨e, rfl⟩ | ⟨t, i, j, q, ok, e, rfl, h⟩
      · exact .inl ⟨e, rfl⟩
      · exact .inr ⟨t, i, j, q, ok, e, rfl, h⟩
    · have e3 : spotOf p L z = some (spotD p.name n.stre n.off) := by unfold spotOf; rw [e2]
      exact ⟨o1, some (.ref t), g1, g2, .inr ⟨_, _, _, t, hp, e3, rfl, .inl (.inl h2)⟩⟩
  rcases D.get z with ⟨e1, g1⟩ | ⟨d, v, e1, g1, hv⟩
  · exact key _ g1 (.inl ⟨e1, rfl⟩)
  · obtain ⟨t, i, j, ok, rfl⟩ := hL.look e1
    obtain ⟨q, rfl, hq⟩ := dp_spot hv
    exact key _ g1 (.inr ⟨t, i, j, q, ok, e1, rfl, sameT sF hq⟩)
/-- the names that a piece tells to others -/
def toldN (p : Piece) (ns : List Nam) : List (Str × PyData) := (ns.filter fun n => !decide (n.sort = ("own" : Str))).map fun n => (n.name, spotD p.name n.stre n.off)
def toldS (p : Piece) : List (Str × PyData) := toldN p p.names
def putAll (L xs : List (Str × PyData)) : List (Str × PyData) := xs.foldl (fun L x => putL L x.1 x.2) L
theorem putAll_app (L xs ys : List (Str × PyData)) : putAll L (xs ++ ys) = putAll (putAll L xs) ys := List.foldl_append
theorem putAll_len : ∀ (xs L : List (Str × PyData)), (putAll L xs).length ≤ L.length + xs.length
  | [], L => Nat.le_refl _
  | x :: xs, L => by
    have h1 := putAll_len xs (putL L x.1 x.2)
    have h2 := putL_len (L := L) (k := x.1) (d := x.2)
    show (putAll (putL L x.1 x.2) xs).length ≤ _
    rw [List.length_cons]
    omega
theorem putAll_nodup : ∀ (xs L : List (Str × PyData)), (L.map (·.1)).Nodup → ((putAll L xs).map (·.1)).Nodup
  | [], L, h => h
  | x :: xs, L, h => putAll_nodup xs _ (putL_nodup h)
theorem putAll_spot : ∀ (xs L : List (Str × PyData)), AllSpot L → AllSpot xs → AllSpot (putAll L xs)
  | [], L, h, _ => h
  | x :: xs, L, h, hx => by
    obtain ⟨t, i, j, ok, e⟩ := hx x List.mem_cons_self
    refine putAll_spot xs _ ?_ fun y hy => hx y (List.mem_cons_of_mem _ hy)
    show AllSpot (putL L x.1 x.2)
    rw [e]
    exact h.put ok
theorem toldN_spot {p : Piece} (h : okS p.name) (ns : List Nam) : AllSpot (toldN p ns) := fun x hx => by
  obtain ⟨n, _, rfl⟩ := List.mem_map.mp hx
  exact ⟨_, _, _, h, rfl⟩
theorem toldN_snoc (p : Piece) (ns : List Nam) (n : Nam) : toldN p (ns ++ [n]) = if n.sort = ("own" : Str) then toldN p ns else toldN p ns ++ [(n.name, spotD p.name n.stre n.off)] := by
  unfold toldN
  rw [List.filter_append, List.filter_cons]
  by_cases g : n.sort = ("own" : Str)
  · rw [if_pos g, decide_eq_true g]
    show (_ ++ []).map _ = _
    rw [List.append_nil]
  · rw [if_neg g, decide_eq_false g]
    show (_ ++ [n]).map _ = _
    rw [List.map_append]; rfl
theorem toldN_len (p : Piece) (ns : List Nam) : (toldN p ns).length ≤ ns.length := by
  unfold toldN
  rw [List.length_map]
  exact List.length_filter_le _ _
theorem told_flat_len : ∀ (ps : List Piece), (∀ p ∈ ps, p.names.length < 64) → (ps.flatMap toldS).length ≤ 64 * ps.length
  | [], _ => Nat.le_refl _
  | p :: ps, h => by
    rw [List.flatMap_cons, List.length_append, List.length_cons]
    have h1 := told_flat_len ps fun q hq => h q (List.mem_cons_of_mem _ hq)
    have h2 : (toldS p).length ≤ p.names.length := toldN_len p p.names
    have h3 := h p List.mem_cons_self
    omega
/-- the last told -/
def lastL (ps : List Piece) : List (Str × PyData) := putAll [] (ps.flatMap toldS)
theorem lastL_spot {ps : List Piece} (h : ∀ p ∈ ps, okS p.name) : AllSpot (lastL ps) := putAll_spot _ _ AllSpot.nil fun x hx => by
  obtain ⟨p, hp, hx⟩ := List.mem_flatMap.mp hx
  exact toldN_spot (h p hp) _ x hx
theorem own_snoc {ns : List Nam} {q : Nam} {z : Str} (h : ns.find? (fun n => decide (n.name = z) && decide (n.sort = ("own" : Str))) = none) (g : ¬ (q.name = z ∧ q.sort = ("own" : Str))) : (ns ++ [q]).find? (fun n => decide (n.name = z) && decide (n.sort = ("own" : Str))) = none := by
  rw [List.find?_append, h, List.find?_cons]
  have : (decide (q.name = z) && decide (q.sort = ("own" : Str))) = false := by
    rw [Bool.eq_false_iff]
    intro e
    rw [Bool.and_eq_true, decide_eq_true_iff, decide_eq_true_iff] at e
    exact g e
  rw [this]; rfl
theorem own_at {p : Piece} {i : Nat} {q : Nam} {z : Str} (h : (p.names.take i).find? (fun n => decide (n.name = z) && decide (n.sort = ("own" : Str))) = none) (hq : p.names[i]? = some q) (g1 : q.name = z) (g2 : q.sort = ("own" : Str)) : ownOf p z = some q := by
  obtain ⟨hi, e⟩ := List.getElem?_eq_some_iff.mp hq
  have e1 : p.names = p.names.take i ++ q :: p.names.drop (i + 1) := by
    rw [← e, ← List.drop_eq_getElem_cons hi, List.take_append_drop]
  unfold ownOf
  rw [e1, List.find?_append, h, List.find?_cons, decide_eq_true g1, decide_eq_true g2]; rfl
theorem spotD_inj {t t' : Str} {i j i' j' : Int} (h : spotD t i j = spotD t' i' j') : t = t' ∧ i = i' ∧ j = j' := by
  unfold spotD at h
  injection h with h
  injection h with a1 h
  injection h with a2 h
  injection h with a3 h
  injection a1 with a1
  injection a2 with a2
  injection a3 with a3
  exact ⟨a1, a2, a3⟩
theorem s_lenT {K : PySem.W.Frag} {H : Hp} {Q : VK} {p : Addr} {xs : List V} (h : SqT K H p xs) (k : Q (.int (xs.length : Int)) H) : rLenL K [.ref p] H Q := ⟨p, xs, rfl, .inr h, k⟩
end Jl

/-! A heap told as a list of entries: values with the trees that they root (frozen data, or cells of their own). -/
namespace Jl
open PySem L2 PySem.Spec PyProof.Rows
inductive Tr where
  /-- frozen data -/
  | d (x : PyData)
  /-- an own list | a tuple that holds own things | own dicts | an own instance -/
  | l (ts : List Tr)
  | t (ts : List Tr)
  /-- a frozen list -/
  | f (ts : List Tr)
  | m (L : List (Key × PyData))
  | mt (L : List (List Key × PyData))
  /-- a dict that a loop walks -/
  | km (od : Obj) (kvs : List (Key × V)) (L : List (Key × PyData))
  | kmt (od : Obj) (kvs : List (List Key × V)) (L : List (List Key × PyData))
  | o (C : Addr) (fs : List Str) (ts : List Tr)
  /-- a value that is told by an entry of its own -/
  | h (u : V)
  /-- a table of code objects -/
  | tab (q : Str)
  /-- any thing that stands -/
  | g (o : HO)
mutual
inductive Ow (K : PySem.W.Frag) (G H : Hp) : V → Tr → List Addr → Prop
  | d {v : V} {x : PyData} : Dp K G v x → Ow K G H v (.d x) []
  | l {a : Addr} {vs : List V} {ts : List Tr} {A : List Addr} : H a = some (.lst vs) → OwA K G H vs ts A → Ow K G H (.ref a) (.l ts) (a :: A)
  | t {a : Addr} {vs : List V} {ts : List Tr} {A : List Addr} : G a = some (.tup vs) → OwA K G H vs ts A → Ow K G H (.ref a) (.t ts) A
  | f {a : Addr} {vs : List V} {ts : List Tr} {A : List Addr} : G a = some (.lst vs) → OwA K G H vs ts A → Ow K G H (.ref a) (.f ts) A
  | m {a : Addr} {kvs : List (Key × V)} {L : List (Key × PyData)} : H a = some (.dK kvs) → KVD K G (fun z : Key => z) kvs L → Ow K G H (.ref a) (.m L) [a]
  | mt {a : Addr} {kvs : List (List Key × V)} {L : List (List Key × PyData)} : H a = some (.dT kvs) → KVD K G (fun z : List Key => z) kvs L → Ow K G H (.ref a) (.mt L) [a]
  | km {a : Addr} {od : Obj} {kvs : List (Key × V)} {L : List (Key × PyData)} : H a = some (.frz od (.dK kvs)) → KVD K G (fun z : Key => z) kvs L → Ow K G H (.ref a) (.km od kvs L) [a]
  | kmt {a : Addr} {od : Obj} {kvs : List (List Key × V)} {L : List (List Key × PyData)} : H a = some (.frz od (.dT kvs)) → KVD K G (fun z : List Key => z) kvs L → Ow K G H (.ref a) (.kmt od kvs L) [a]
  | o {a C dx : Addr} {fs : List (Str × V)} {ks : List Str} {ts : List Tr} {A : List Addr} : H a = some (.ins C dx fs) → fs.map (·.1) = ks → OwA K G H (fs.map (·.2)) ts A → Ow K G H (.ref a) (.o C ks ts) (a :: A)
  | h {v : V} : Ow K G H v (.h v) []
  | g {a : Addr} {o : HO} : G a = some o → Ow K G H (.ref a) (.g o) []
  | tab {P : Addr} {q : Str} {ps : Array Value} : H P = some (.tbl ps) → PySem.TriplesOk ps.toList → (∀ (pos : Pos) (cv : Value), codeAmong pos ps.toList = some cv → ∃ c, cv = .ref c ∧ G c = some (LamX.CodeO c q)) → Ow K G H (.ref P) (.tab q) [P]
inductive OwA (K : PySem.W.Frag) (G H : Hp) : List V → List Tr → List Addr → Prop
  | nil : OwA K G H [] [] []
  | cons {v : V} {t : Tr} {vs : List V} {ts : List Tr} {A A' : List Addr} : Ow K G H v t A → OwA K G H vs ts A' → OwA K G H (v :: vs) (t :: ts) (A ++ A')
end
section
variable {K : PySem.W.Frag} {G G' H H' B : Hp}
mutual
theorem ow_to (sG : Same G G') : ∀ {v : V} {t : Tr} {A : List Addr}, Ow K G H v t A → (∀ a ∈ A, H' a = H a) → Ow K G' H' v t A
  | _, _, _, .d h, _ => .d (dp_same sG h)
  | _, _, _, .l h1 h2, e => .l ((e _ List.mem_cons_self).trans h1) (owa_to sG h2 fun b hb => e b (List.mem_cons_of_mem _ hb))
  | _, _, _, .t h1 h2, e => .t (sG _ _ h1) (owa_to sG h2 e)
  | _, _, _, .f h1 h2, e => .f (sG _ _ h1) (owa_to sG h2 e)
  | _, _, _, .m h1 hk, e => .m ((e _ List.mem_cons_self).trans h1) (hk.same sG)
  | _, _, _, .mt h1 hk, e => .mt ((e _ List.mem_cons_self).trans h1) (hk.same sG)
  | _, _, _, .km h1 hk, e => .km ((e _ List.mem_cons_self).trans h1) (hk.same sG)
  | _, _, _, .kmt h1 hk, e => .kmt ((e _ List.mem_cons_self).trans h1) (hk.same sG)
  | _, _, _, .o h1 hk h2, e => .o ((e _ List.mem_cons_self).trans h1) hk (owa_to sG h2 fun b hb => e b (List.mem_cons_of_mem _ hb))
  | _, _, _, .h, _ => .h
  | _, _, _, .g h, _ => .g (sG _ _ h)
  | _, _, _, .tab h1 h2 h3, e => .tab ((e _ List.mem_cons_self).trans h1) h2 fun pos cv hc => by
    obtain ⟨c, e1, e2⟩ := h3 pos cv hc
    exact ⟨c, e1, sG _ _ e2⟩
theorem owa_to (sG : Same G G') : ∀ {vs : List V} {ts : List Tr} {A : List Addr}, OwA K G H vs ts A → (∀ a ∈ A, H' a = H a) → OwA K G' H' vs ts A
  | _, _, _, .nil, _ => .nil
  | _, _, _, .cons h1 h2, e => .cons (ow_to sG h1 fun b hb => e b (List.mem_append_left _ hb)) (owa_to sG h2 fun b hb => e b (List.mem_append_right _ hb))
end
/-- a thing that an own cell may hold -/
def isCell : HO → Prop
  | .lst _ => True
  | .dK _ => True
  | .dT _ => True
  | .ins _ _ _ => True
  | .tbl _ => True
  | .frz _ _ => True
  | _ => False
mutual
theorem ow_cell : ∀ {v : V} {t : Tr} {A : List Addr}, Ow K G H v t A → ∀ a ∈ A, ∃ o, H a = some o ∧ isCell o
  | _, _, _, .d h, a, ha => nomatch ha
  | _, _, _, .l h1 h2, a, ha => by
    rcases List.mem_cons.mp ha with rfl | ha
    · exact ⟨_, h1, trivial⟩
    · exact owa_cell h2 a ha
  | _, _, _, .t h1 h2, a, ha => owa_cell h2 a ha
  | _, _, _, .f h1 h2, a, ha => owa_cell h2 a ha
  | _, _, _, .m h1 hk, a, ha => by
    rcases List.mem_cons.mp ha with rfl | ha
    · exact ⟨_, h1, trivial⟩
    · exact nomatch ha
  | _, _, _, .mt h1 hk, a, ha => by
    rcases List.mem_cons.mp ha with rfl | ha
    · exact ⟨_, h1, trivial⟩
    · exact nomatch ha
  | _, _, _, .km h1 hk, a, ha => by
    rcases List.mem_cons.mp ha with rfl | ha
    · exact ⟨_, h1, trivial⟩
    · exact nomatch ha
  | _, _, _, .kmt h1 hk, a, ha => by
    rcases List.mem_cons.mp ha with rfl | ha
    · exact ⟨_, h1, trivial⟩
    · exact nomatch ha
  | _, _, _, .o h1 hk h2, a, ha => by
    rcases List.mem_cons.mp ha with rfl | ha
    · exact ⟨_, h1, trivial⟩
    · exact owa_cell h2 a ha
  | _, _, _, .h, a, ha => nomatch ha
  | _, _, _, .g _, a, ha => nomatch ha
  | _, _, _, .tab h1 h2 h3, a, ha => by
    rcases List.mem_cons.mp ha with rfl | ha
    · exact ⟨_, h1, trivial⟩
    · exact nomatch ha
theorem owa_cell : ∀ {vs : List V} {ts : List Tr} {A : List Addr}, OwA K G H vs ts A → ∀ a ∈ A, ∃ o, H a = some o ∧ isCell o
  | _, _, _, .nil, a, ha => nomatch ha
  | _, _, _, .cons h1 h2, a, ha => by
    rcases List.mem_append.mp ha with ha | ha
    · exact ow_cell h1 a ha
    · exact owa_cell h2 a ha
end
/-- trees that are data -/
inductive TrD : Tr → PyData → Prop
  | d (x : PyData) : TrD (.d x) x
  | l {ts : List Tr} {ds : List PyData} : ts.length = ds.length → (∀ (i : Nat) t x, ts[i]? = some t → ds[i]? = some x → TrD t x) → TrD (.l ts) (.list ds)
  | t {ts : List Tr} {ds : List PyData} : ts.length = ds.length → (∀ (i : Nat) t x, ts[i]? = some t → ds[i]? = some x → TrD t x) → TrD (.t ts) (.tuple ds)
  | f {ts : List Tr} {ds : List PyData} : ts.length = ds.length → (∀ (i : Nat) t x, ts[i]? = some t → ds[i]? = some x → TrD t x) → TrD (.f ts) (.list ds)
theorem owa_len : ∀ {vs : List V} {ts : List Tr} {A : List Addr}, OwA K G H vs ts A → vs.length = ts.length
  | _, _, _, .nil => rfl
  | _, _, _, .cons _ h => by rw [List.length_cons, List.length_cons, owa_len h]
theorem owa_dp : ∀ {vs : List V} {ts : List Tr} {A : List Addr} {ds : List PyData}, OwA K G H vs ts A → ts.length = ds.length → (∀ (i : Nat) t x (v : V) (A' : List Addr), ts[i]? = some t → ds[i]? = some x → Ow K G H v t A' → Dp K H v x) → DpAll K H vs ds
  | _, _, _, [], .nil, _, _ => .nil
  | _, _, _, x :: ds, .cons h1 h2, e, f => .cons (f 0 _ x _ _ rfl rfl h1) (owa_dp h2 (Nat.succ.inj e) fun i t x v A' a b => f (i + 1) t x v A' a b)
theorem ow_dp (s : Same G H) {t : Tr} {x : PyData} (T : TrD t x) : ∀ {v : V} {A : List Addr}, Ow K G H v t A → Dp K H v x := by
  induction T with
  | d x => intro v A h; cases h with | d h => exact dp_same s h
  | l e _ ih => intro v A h; cases h with | l h1 h2 => exact .lst (.inl (.inl h1)) (owa_dp h2 e fun i t x v A' a b h => ih i t x a b h)
  | t e _ ih => intro v A h; cases h with | t h1 h2 => exact .tup (.inl (.inl (s _ _ h1))) (owa_dp h2 e fun i t x v A' a b h => ih i t x a b h)
  | f e _ ih => intro v A h; cases h with | f h1 h2 => exact .lst (.inl (.inl (s _ _ h1))) (owa_dp h2 e fun i t x v A' a b h => ih i t x a b h)
/-- a list of data -/
abbrev Tr.L (ds : List PyData) : Tr := .l (ds.map Tr.d)
theorem TrD.L (ds : List PyData) : TrD (.L ds) (.list ds) := .l (by rw [List.length_map]) fun i t x h1 h2 => by
  rw [List.getElem?_map, h2] at h1
  cases h1
  exact .d x
/-- trees item by item data -/
inductive TrDs : List Tr → List PyData → Prop
  | nil : TrDs [] []
  | cons {t : Tr} {x : PyData} {ts : List Tr} {ds : List PyData} : TrD t x → TrDs ts ds → TrDs (t :: ts) (x :: ds)
theorem TrDs.len {ts : List Tr} {ds : List PyData} (h : TrDs ts ds) : ts.length = ds.length := by
  induction h with
  | nil => rfl
  | cons _ _ ih => rw [List.length_cons, List.length_cons, ih]
theorem TrDs.at {ts : List Tr} {ds : List PyData} (h : TrDs ts ds) : ∀ (i : Nat) t x, ts[i]? = some t → ds[i]? = some x → TrD t x := by
  induction h with
  | nil => intro i t x h; cases h
  | cons h _ ih =>
    intro i t x h1 h2
    cases i with
    | zero => cases h1; cases h2; exact h
    | succ i => exact ih i t x h1 h2
theorem TrDs.l {ts : List Tr} {ds : List PyData} (h : TrDs ts ds) : TrD (.l ts) (.list ds) := .l h.len h.at
theorem TrDs.t {ts : List Tr} {ds : List PyData} (h : TrDs ts ds) : TrD (.t ts) (.tuple ds) := .t h.len h.at
theorem TrDs.f {ts : List Tr} {ds : List PyData} (h : TrDs ts ds) : TrD (.f ts) (.list ds) := .f h.len h.at
theorem TrDs.app {ts us : List Tr} {ds es : List PyData} (h : TrDs ts ds) (g : TrDs us es) : TrDs (ts ++ us) (ds ++ es) := by
  induction h with
  | nil => exact g
  | cons h _ ih => exact .cons h ih
theorem owa_app : ∀ {vs ws : List V} {ts us : List Tr} {A A' : List Addr}, OwA K G H vs ts A → OwA K G H ws us A' → OwA K G H (vs ++ ws) (ts ++ us) (A ++ A')
  | _, _, _, _, _, _, .nil, h => h
  | _, _, _, _, _, _, .cons h1 h2, h => by
    rw [List.append_assoc]
    exact .cons h1 (owa_app h2 h)
theorem owa_split : ∀ {ts us : List Tr} {vs : List V} {A : List Addr}, OwA K G H vs (ts ++ us) A → ∃ vs1 vs2 A1 A2, vs = vs1 ++ vs2 ∧ A = A1 ++ A2 ∧ OwA K G H vs1 ts A1 ∧ OwA K G H vs2 us A2
  | [], us, vs, A, h => ⟨[], vs, [], A, rfl, rfl, .nil, h⟩
  | t :: ts, us, _, _, .cons h1 h2 => by
    obtain ⟨vs1, vs2, A1, A2, rfl, rfl, g1, g2⟩ := owa_split h2
    exact ⟨_ :: vs1, vs2, _ ++ A1, A2, rfl, (List.append_assoc ..).symm, .cons h1 g1, g2⟩
theorem owa_ds : ∀ {vs : List V} {ds : List PyData}, DpAll K G vs ds → OwA K G H vs (ds.map Tr.d) []
  | _, _, .nil => .nil
  | _, _, .cons h1 h2 => .cons (.d h1) (owa_ds h2)
theorem owa_data : ∀ {vs : List V} {ds : List PyData} {A : List Addr}, OwA K G H vs (ds.map Tr.d) A → DpAll K G vs ds ∧ A = []
  | _, [], _, .nil => ⟨.nil, rfl⟩
  | _, d :: ds, _, .cons h1 h2 => by
    cases h1 with
    | d h1 =>
      obtain ⟨g1, rfl⟩ := owa_data h2
      exact ⟨.cons h1 g1, rfl⟩
/-- one of them, and the others -/
theorem owa_at : ∀ {ts : List Tr} {vs : List V} {A : List Addr} {i : Nat} {s : Tr}, OwA K G H vs ts A → ts[i]? = some s → ∃ u A1 A2, vs[i]? = some u ∧ A.Perm (A1 ++ A2) ∧ Ow K G H u s A1 ∧ ∀ s' A1' (u' : V), Ow K G H u' s' A1' → ∃ A', A'.Perm (A1' ++ A2) ∧ OwA K G H (vs.set i u') (ts.set i s') A'
  | t :: ts, _, _, 0, s, .cons (A := A1) (A' := A2) h1 h2, e => by
    cases e
    exact ⟨_, A1, A2, rfl, List.Perm.refl _, h1, fun s' A1' u' h' => ⟨_, List.Perm.refl _, .cons h' h2⟩⟩
  | t :: ts, _, _, i + 1, s, .cons (A := A1) (A' := A2) h1 h2, e => by
    obtain ⟨u, B1, B2, e1, e2, e3, e4⟩ := owa_at (i := i) h2 e
    refine ⟨u, B1, A1 ++ B2, e1, ?_, e3, fun s' A1' u' h' => ?_⟩
    · refine (List.Perm.append_left A1 e2).trans ?_
      rw [← List.append_assoc, ← List.append_assoc]
      exact List.Perm.append_right _ List.perm_append_comm
    · obtain ⟨A', p, g⟩ := e4 s' A1' u' h'
      refine ⟨A1 ++ A', ?_, .cons h1 g⟩
      refine (List.Perm.append_left A1 p).trans ?_
      rw [← List.append_assoc, ← List.append_assoc]
      exact List.Perm.append_right _ List.perm_append_comm
end
/-- trees without own cells -/
inductive Per : Tr → Prop
  | d (x : PyData) : Per (.d x)
  | t {ts : List Tr} : (∀ t ∈ ts, Per t) → Per (.t ts)
  | f {ts : List Tr} : (∀ t ∈ ts, Per t) → Per (.f ts)
  | h (u : V) : Per (.h u)
  | g (o : HO) : Per (.g o)
theorem owa_nil {K : PySem.W.Frag} {G H : Hp} : ∀ {ts : List Tr} {vs : List V} {A : List Addr}, (∀ t ∈ ts, ∀ (v : V) (A : List Addr), Ow K G H v t A → A = []) → OwA K G H vs ts A → A = []
  | [], _, _, _, .nil => rfl
  | t :: ts, _, _, f, .cons h1 h2 => by rw [f t List.mem_cons_self _ _ h1, owa_nil (fun t ht => f t (List.mem_cons_of_mem _ ht)) h2]; rfl
theorem Per.nil {K : PySem.W.Frag} {G H : Hp} {t : Tr} (h : Per t) : ∀ {v : V} {A : List Addr}, Ow K G H v t A → A = [] := by
  induction h with
  | d x => intro v A g; cases g; rfl
  | t _ ih => intro v A g; cases g with | t g1 g2 => exact owa_nil (fun t ht v A g => ih t ht g) g2
  | f _ ih => intro v A g; cases g with | f g1 g2 => exact owa_nil (fun t ht v A g => ih t ht g) g2
  | h u => intro v A g; cases g; rfl
  | g o => intro v A g; cases g; rfl
/-- a tree, frozen -/
inductive Fz : Tr → Tr → Prop
  | p {t : Tr} : Per t → Fz t t
  | l {ts us : List Tr} : ts.length = us.length → (∀ (i : Nat) t u, ts[i]? = some t → us[i]? = some u → Fz t u) → Fz (.l ts) (.f us)
  | t {ts us : List Tr} : ts.length = us.length → (∀ (i : Nat) t u, ts[i]? = some t → us[i]? = some u → Fz t u) → Fz (.t ts) (.t us)
theorem owa_fz {K : PySem.W.Frag} {G G' H : Hp} : ∀ {vs : List V} {ts us : List Tr} {A : List Addr}, OwA K G H vs ts A → (∀ a ∈ A, G' a = H a) → ts.length = us.length → (∀ (i : Nat) t u (v : V) (A' : List Addr), ts[i]? = some t → us[i]? = some u → Ow K G H v t A' → (∀ a ∈ A', G' a = H a) → Ow K G' H v u []) → OwA K G' H vs us []
  | _, _, [], _, .nil, _, _, _ => .nil
  | _, _, u :: us, _, .cons h1 h2, e, el, f => by
    have := OwA.cons (f 0 _ u _ _ rfl rfl h1 fun a ha => e a (List.mem_append_left _ ha)) (owa_fz (us := us) h2 (fun a ha => e a (List.mem_append_right _ ha)) (Nat.succ.inj el) fun i t x v A' a b => f (i + 1) t x v A' a b)
    exact this
theorem ow_fz {K : PySem.W.Frag} {G G' H : Hp} (sG : Same G G') {t u : Tr} (F : Fz t u) : ∀ {v : V} {A : List Addr}, Ow K G H v t A → (∀ a ∈ A, G' a = H a) → Ow K G' H v u [] := by
  induction F with
  | p h =>
    intro v A g e
    have := h.nil g
    subst this
    exact ow_to sG g fun _ _ => rfl
  | l el _ ih =>
    intro v A g e
    cases g with
    | l g1 g2 =>
      exact .f ((e _ List.mem_cons_self).trans g1) (owa_fz g2 (fun a ha => e a (List.mem_cons_of_mem _ ha)) el fun i t u v A' a b g e => ih i t u a b g e)
  | t el _ ih =>
    intro v A g e
    cases g with
    | t g1 g2 => exact .t (sG _ _ g1) (owa_fz g2 e el fun i t u v A' a b g e => ih i t u a b g e)
/-- cells are written no more -/
theorem Act.icesR {B H : Hp} {A : List Addr} : ∀ {cs : List Addr} {G : Hp}, Act B G H (cs ++ A) → ∃ G', Act B G' H A ∧ Same G G' ∧ ∀ a ∈ cs, G' a = H a
  | [], G, c => ⟨G, c, Same.refl _, fun _ h => nomatch h⟩
  | a :: cs, G, c => by
    obtain ⟨o, e⟩ := (c.free a List.mem_cons_self).2
    obtain ⟨G2, c2, s2, h2⟩ := Act.icesR (cs := cs) (c.fz e)
    refine ⟨G2, c2, Act.fz_same c |>.trans s2, fun b hb => ?_⟩
    rcases List.mem_cons.mp hb with rfl | hb
    · rw [s2 _ _ upd_same, e]
    · exact h2 b hb
/-! the entries -/
abbrev Ents := List (V × Tr)
def Rep (K : PySem.W.Frag) (B H : Hp) (Γ : Ents) : Prop := ∃ G A, Act B G H A ∧ OwA K G H (Γ.map (·.1)) (Γ.map (·.2)) A
section
variable {K : PySem.W.Frag} {B H H' : Hp} {Γ Γ' : Ents} {v u : V} {t s : Tr} {x : PyData} {a p : Addr} {o : HO} {vs : List V} {ts : List Tr} {ds : List PyData}
theorem Rep.start (H : Hp) : Rep K H H [] := ⟨H, [], Act.start H, .nil⟩
theorem Rep.base (R : Rep K B H Γ) : Same B H := by
  obtain ⟨G, A, c, -⟩ := R
  exact c.same
theorem Rep.perm (R : Rep K B H Γ) (p : Γ.Perm Γ') : Rep K B H Γ' := by
  obtain ⟨G, A, c, h⟩ := R
  have key : ∀ {Γ Γ' : Ents}, Γ.Perm Γ' → ∀ {A : List Addr}, OwA K G H (Γ.map (·.1)) (Γ.map (·.2)) A → ∃ A', A.Perm A' ∧ OwA K G H (Γ'.map (·.1)) (Γ'.map (·.2)) A' := by
    intro Γ Γ' p
    induction p with
    | nil => intro A h; exact ⟨A, List.Perm.refl _, h⟩
    | cons x _ ih =>
      intro A h
      cases h with
      | cons h1 h2 =>
        obtain ⟨A', p, g⟩ := ih h2
        exact ⟨_, List.Perm.append_left _ p, .cons h1 g⟩
    | swap x y l =>
      intro A h
      cases h with
      | cons h1 h2 =>
        cases h2 with
        | cons h2 h3 =>
          refine ⟨_, ?_, .cons h2 (.cons h1 h3)⟩
          rw [← List.append_assoc, ← List.append_assoc]
          exact List.Perm.append_right _ List.perm_append_comm
    | trans _ _ ih1 ih2 =>
      intro A h
      obtain ⟨A1, p1, h1⟩ := ih1 h
      obtain ⟨A2, p2, h2⟩ := ih2 h1
      exact ⟨A2, p1.trans p2, h2⟩
  obtain ⟨A', p', h'⟩ := key p h
  exact ⟨G, A', c.perm p', h'⟩
theorem Rep.drop (R : Rep K B H ((v, t) :: Γ)) : Rep K B H Γ := by
  obtain ⟨G, A, c, h⟩ := R
  cases h with
  | cons h1 h2 => exact ⟨G, _, c.sub (List.sublist_append_right _ _), h2⟩
theorem Rep.dup (R : Rep K B H ((v, t) :: Γ)) (hp : Per t) : Rep K B H ((v, t) :: (v, t) :: Γ) := by
  obtain ⟨G, A, c, h⟩ := R
  cases h with
  | cons h1 h2 =>
    have := hp.nil h1
    subst this
    exact ⟨G, _, c, OwA.cons (A := []) h1 (OwA.cons (A := []) h1 h2)⟩
theorem Rep.scal (R : Rep K B H Γ) (h : ∀ G, Dp K G v x) : Rep K B H ((v, .d x) :: Γ) := by
  obtain ⟨G, A, c, h2⟩ := R
  exact ⟨G, _, c, .cons (.d (h G)) h2⟩
theorem Rep.hole (R : Rep K B H Γ) (v : V) : Rep K B H ((v, .h v) :: Γ) := by
  obtain ⟨G, A, c, h2⟩ := R
  exact ⟨G, _, c, .cons .h h2⟩
theorem Rep.newG (R : Rep K B H Γ) (hp : H p = none) : Rep K B (upd H p o) ((.ref p, .g o) :: Γ) := by
  obtain ⟨G, A, c, h⟩ := R
  have n := c.out hp
  exact ⟨_, _, c.new hp, OwA.cons (A := []) (.g upd_same) (owa_to (same_upd (c.ext.free hp)) h fun a ha => upd_ne fun e => n (e ▸ ha))⟩
theorem Rep.gAt (R : Rep K B H Γ) (h : (.ref p, .g o) ∈ Γ) : H p = some o := by
  obtain ⟨Γ1, q⟩ : ∃ l', Γ.Perm ((.ref p, .g o) :: l') := by
    obtain ⟨a, b, rfl⟩ := List.append_of_mem h
    exact ⟨a ++ b, List.perm_middle⟩
  obtain ⟨G, A, c, g⟩ := R.perm q
  cases g with
  | cons h1 _ => cases h1 with | g h1 => exact c.ext _ _ h1
/-- a new thing of a callee's: frozen -/
theorem Rep.gotG (R : Rep K B H Γ) (s : Same H H') (hp : H p = none) (e : H' p = some o) : Rep K B H' ((.ref p, .g o) :: Γ) := by
  obtain ⟨G, A, c, h⟩ := R
  have n : p ∉ A := c.out hp
  obtain ⟨Hg, sG, c2, e2⟩ := (c.sm s).frz e n
  refine ⟨Hg, _, c2, OwA.cons (A := []) (.g e2) (owa_to sG h fun a ha => ?_)⟩
  obtain ⟨_, h2⟩ := c.free a ha
  obtain ⟨o', h2⟩ := h2
  rw [h2, s _ _ h2]
/-- .. a list, own -/
theorem Rep.gotL (R : Rep K B H Γ) (s : Same H H') (hp : H p = none) (e : H' p = some (.lst vs)) (hd : ∀ G : Hp, OwA K G H' vs ts []) : Rep K B H' ((.ref p, .l ts) :: Γ) := by
  obtain ⟨G, A, c, h⟩ := R
  refine ⟨G, _, Act.call c s hp e, OwA.cons (A := [p]) (.l e (hd G)) (owa_to (Same.refl _) h fun a ha => ?_)⟩
  obtain ⟨_, h2⟩ := c.free a ha
  obtain ⟨o', h2⟩ := h2
  rw [h2, s _ _ h2]
theorem perm_mem {α : Type} {x : α} {l : List α} (h : x ∈ l) : ∃ l', l.Perm (x :: l') := by
  obtain ⟨a, b, rfl⟩ := List.append_of_mem h
  exact ⟨a ++ b, List.perm_middle⟩
theorem Rep.get (R : Rep K B H Γ) (h : (v, t) ∈ Γ) (hp : Per t) : Rep K B H ((v, t) :: Γ) := by
  obtain ⟨Γ1, p⟩ := perm_mem h
  exact ((R.perm p).dup hp).perm (List.Perm.cons _ p.symm)
/-- as data, as they stand now -/
theorem Rep.dp (R : Rep K B H Γ) (h : (v, t) ∈ Γ) (T : TrD t x) : Dp K H v x := by
  obtain ⟨Γ1, p⟩ := perm_mem h
  obtain ⟨G, A, c, h⟩ := R.perm p
  cases h with
  | cons h1 h2 => exact ow_dp c.ext T h1
theorem Rep.same (R : Rep K B H Γ) (s : Same H H') : Rep K B H' Γ := by
  obtain ⟨G, A, c, h⟩ := R
  refine ⟨G, A, c.sm s, owa_to (Same.refl _) h fun a ha => ?_⟩
  obtain ⟨o, e⟩ := (c.free a ha).2
  rw [s _ _ e, e]
/-- an own thing becomes frozen -/
theorem Rep.ice (R : Rep K B H ((v, t) :: Γ)) (T : TrD t x) : Rep K B H ((v, .d x) :: Γ) := by
  obtain ⟨G, A, c, h⟩ := R
  cases h with
  | cons h1 h2 =>
    obtain ⟨G', c', sG, e⟩ := Act.icesR c
    refine ⟨G', _, c', .cons (.d ?_) (owa_to sG h2 fun _ _ => rfl)⟩
    exact ow_dp (Same.refl _) T (ow_to (H' := G') sG h1 e)
theorem Rep.freeze (R : Rep K B H ((v, t) :: Γ)) (F : Fz t s) : Rep K B H ((v, s) :: Γ) := by
  obtain ⟨G, A, c, h⟩ := R
  cases h with
  | cons h1 h2 =>
    obtain ⟨G', c', sG, e⟩ := Act.icesR c
    exact ⟨G', _, c', OwA.cons (A := []) (ow_fz sG F h1 e) (owa_to sG h2 fun _ _ => rfl)⟩
/-- a frozen thing told as data -/
theorem Rep.weak (R : Rep K B H ((v, t) :: Γ)) (hp : Per t) (T : TrD t x) : Rep K B H ((v, .d x) :: Γ) := R.ice T
theorem Rep.newC (R : Rep K B H Γ) (hp : H p = none) (f : ∀ G H' A, OwA K G H' (Γ.map (·.1)) (Γ.map (·.2)) A → H' p = some o → ∃ A', Ow K G H' (.ref p) t (p :: A') ∧ ∃ A2, A.Perm (A' ++ A2) ∧ OwA K G H' (Γ'.map (·.1)) (Γ'.map (·.2)) A2) : Rep K B (upd H p o) ((.ref p, t) :: Γ') := by
  obtain ⟨G, A, c, h⟩ := R
  have n := c.out hp
  have c1 := c.newA (o := o) hp
  have h1 : OwA K G (upd H p o) (Γ.map (·.1)) (Γ.map (·.2)) A := owa_to (Same.refl _) h fun a ha => upd_ne fun e => n (e ▸ ha)
  obtain ⟨A', g1, A2, p2, g2⟩ := f G _ A h1 upd_same
  exact ⟨G, _, c1.perm (List.Perm.cons _ p2), .cons g1 g2⟩
theorem ents_split {Δ Γ : Ents} {G : Hp} {A : List Addr} (h : OwA K G H ((Δ ++ Γ).map (·.1)) ((Δ ++ Γ).map (·.2)) A) : ∃ A1 A2, A = A1 ++ A2 ∧ OwA K G H (Δ.map (·.1)) (Δ.map (·.2)) A1 ∧ OwA K G H (Γ.map (·.1)) (Γ.map (·.2)) A2 := by
  induction Δ generalizing A with
  | nil => exact ⟨[], A, rfl, .nil, h⟩
  | cons y Δ ih =>
    cases h with
    | cons h1 h2 =>
      obtain ⟨A1, A2, rfl, g1, g2⟩ := ih h2
      exact ⟨_, A2, (List.append_assoc ..).symm, .cons h1 g1, g2⟩
theorem Rep.newL {Δ : Ents} (R : Rep K B H (Δ ++ Γ)) (hp : H p = none) : Rep K B (upd H p (.lst (Δ.map (·.1)))) ((.ref p, .l (Δ.map (·.2))) :: Γ) :=
  R.newC hp fun G H' A h e => by
    obtain ⟨A1, A2, rfl, g1, g2⟩ := ents_split h
    exact ⟨A1, .l e g1, A2, List.Perm.refl _, g2⟩
theorem Rep.newM (R : Rep K B H Γ) (hp : H p = none) : Rep K B (upd H p (.dK [])) ((.ref p, .m []) :: Γ) :=
  R.newC hp fun G H' A h e => ⟨[], .m (kvs := []) e .nil, A, List.Perm.refl _, h⟩
theorem Rep.newMt (R : Rep K B H Γ) (hp : H p = none) : Rep K B (upd H p (.dT [])) ((.ref p, .mt []) :: Γ) :=
  R.newC hp fun G H' A h e => ⟨[], .mt (kvs := []) e .nil, A, List.Perm.refl _, h⟩
theorem Rep.newT {Δ : Ents} (R : Rep K B H (Δ ++ Γ)) (hp : H p = none) : Rep K B (upd H p (.tup (Δ.map (·.1)))) ((.ref p, .t (Δ.map (·.2))) :: Γ) := by
  obtain ⟨G, A, c, h⟩ := R
  have n := c.out hp
  have c1 := c.new (o := .tup (Δ.map (·.1))) hp
  have sG : Same G (upd G p (.tup (Δ.map (·.1)))) := same_upd (c.ext.free hp)
  obtain ⟨A1, A2, rfl, g1, g2⟩ := ents_split h
  have e : ∀ a ∈ A1 ++ A2, upd H p (.tup (Δ.map (·.1))) a = H a := fun a ha => upd_ne fun e => n (e ▸ ha)
  exact ⟨_, _, c1, .cons (.t upd_same (owa_to sG g1 fun a ha => e a (List.mem_append_left _ ha))) (owa_to sG g2 fun a ha => e a (List.mem_append_right _ ha))⟩
/-- the cell of an own thing is written -/
theorem Rep.updC {A0 : Ents} (R : Rep K B H ((.ref a, t) :: Γ)) (f : ∀ G A1, Ow K G H (.ref a) t A1 → ∃ A0, A1 = a :: A0)
    (g : ∀ G H' A0 A2, (∀ b ∈ A0 ++ A2, b ≠ a) → Ow K G H (.ref a) t (a :: A0) → OwA K G H (Γ.map (·.1)) (Γ.map (·.2)) A2 → (∀ b ∈ A0 ++ A2, H' b = H b) → H' a = some o → ∃ A0' A2', (A0 ++ A2).Perm (A0' ++ A2') ∧ Ow K G H' (.ref a) s (a :: A0') ∧ OwA K G H' (Γ'.map (·.1)) (Γ'.map (·.2)) A2') : Rep K B (upd H a o) ((.ref a, s) :: Γ') := by
  obtain ⟨G, A, c, h⟩ := R
  cases h with
  | cons h1 h2 =>
    rename_i A1 A2
    obtain ⟨A0, rfl⟩ := f G A1 h1
    have nd := List.nodup_cons.mp c.nd
    have ne : ∀ b ∈ A0 ++ A2, b ≠ a := fun b hb e => nd.1 (e ▸ hb)
    obtain ⟨A0', A2', p, g1, g2⟩ := g G (upd H a o) A0 A2 ne h1 h2 (fun b hb => upd_ne (ne b hb)) upd_same
    exact ⟨G, _, (c.upd (a := a) (o := o) List.mem_cons_self).perm (List.Perm.cons _ p), .cons g1 g2⟩
theorem Rep.vals (R : Rep K B H ((.ref a, .l ts) :: Γ)) : ∃ vs, H a = some (.lst vs) ∧ vs.length = ts.length := by
  obtain ⟨G, A, c, h⟩ := R
  cases h with
  | cons h1 h2 =>
    cases h1 with
    | l e g => exact ⟨_, e, owa_len g⟩
/-- its items come to stand alone -/
theorem Rep.open (R : Rep K B H ((.ref a, .l ts) :: Γ)) : ∃ Δ : Ents, Δ.map (·.2) = ts ∧ H a = some (.lst (Δ.map (·.1))) ∧ ∀ (ws : List V), Rep K B (upd H a (.lst ws)) ((.ref a, .l (ws.map Tr.h)) :: (Δ ++ Γ)) := by
  obtain ⟨G, A, c, h⟩ := R
  cases h with
  | cons h1 h2 =>
    rename_i A1 A2
    cases h1 with
    | l e g =>
      rename_i vs A0
      have nd := List.nodup_cons.mp c.nd
      have ne : ∀ b ∈ A0 ++ A2, upd H a (.lst (vs)) b = H b ∧ b ≠ a := fun b hb => ⟨upd_ne fun e => nd.1 (e ▸ hb), fun e => nd.1 (e ▸ hb)⟩
      have hl := owa_len g
      have z1 : (vs.zip ts).map (·.1) = vs := by rw [List.map_fst_zip]; omega
      have z2 : (vs.zip ts).map (·.2) = ts := by rw [List.map_snd_zip]; omega
      refine ⟨vs.zip ts, z2, by rw [z1]; exact e, fun ws => ?_⟩
      have hh : ∀ (ws : List V) H', OwA K G H' ws (ws.map Tr.h) [] := fun ws H' => by
        induction ws with
        | nil => exact .nil
        | cons w ws ih => exact .cons .h ih
      refine ⟨G, _, c.upd (a := a) (o := .lst ws) List.mem_cons_self, ?_⟩
      show OwA K G _ (V.ref a :: ((vs.zip ts) ++ Γ).map (·.1)) (_ :: ((vs.zip ts) ++ Γ).map (·.2)) ([a] ++ (A0 ++ A2))
      rw [List.map_append, List.map_append, z1, z2]
      exact .cons (.l upd_same (hh ws _)) (owa_app (owa_to (Same.refl _) g fun b hb => upd_ne (ne b (List.mem_append_left _ hb)).2) (owa_to (Same.refl _) h2 fun b hb => upd_ne (ne b (List.mem_append_right _ hb)).2))
/-- a list is written: some of its items and others -/
theorem Rep.setL {Δ : Ents} (R : Rep K B H ((.ref a, .l (vs.map Tr.h)) :: (Δ ++ Γ))) : Rep K B (upd H a (.lst (Δ.map (·.1)))) ((.ref a, .l (Δ.map (·.2))) :: Γ) := by
  obtain ⟨G, A, c, h⟩ := R
  cases h with
  | cons h1 h2 =>
    rename_i A1 A2
    cases h1 with
    | l e g =>
      rename_i ws A0
      obtain ⟨B1, B2, rfl, g1, g2⟩ := ents_split h2
      have nd := List.nodup_cons.mp c.nd
      have ne : ∀ b ∈ A0 ++ (B1 ++ B2), b ≠ a := fun b hb e => nd.1 (e ▸ hb)
      refine ⟨G, _, (c.upd (a := a) (o := .lst (Δ.map (·.1))) List.mem_cons_self).sub (A' := (a :: B1) ++ B2) (List.Sublist.cons₂ _ (List.sublist_append_right _ _)), ?_⟩
      refine .cons (.l upd_same (owa_to (Same.refl _) g1 fun b hb => upd_ne (ne b (List.mem_append_right _ (List.mem_append_left _ hb))))) (owa_to (Same.refl _) g2 fun b hb => upd_ne (ne b (List.mem_append_right _ (List.mem_append_right _ hb))))
end
end Jl

/-! Steps over entries. -/
namespace Jl
open PySem L2 PySem.Spec PyProof.Rows
/-- scalars -/
inductive Sc : PyData → V → Prop
  | int (i : Int) : Sc (.int i) (.int i)
  | str (z : Str) : Sc (.str z) (.str z)
  | bl (b : Bool) : Sc (.bool b) (.bl b)
  | non : Sc .none .non
theorem Sc.dp {x : PyData} {v : V} (h : Sc x v) (K : PySem.W.Frag) (G : Hp) : Dp K G v x := by
  cases h with
  | int i => exact .int i
  | str z => exact .str z
  | bl b => exact .bl b
  | non => exact .non
theorem Sc.eq {x : PyData} {v w : V} {K : PySem.W.Frag} {G : Hp} (h : Sc x v) (d : Dp K G w x) : w = v := by
  cases h with
  | int i => exact dp_int d
  | str z => exact dp_str d
  | bl b => exact dp_bl d
  | non => exact dp_non d
/-- one of the entries, and the others -/
inductive Sel : V × Tr → Ents → Ents → Prop
  | head {y : V × Tr} {Γ : Ents} : Sel y (y :: Γ) Γ
  | tail {y z : V × Tr} {Γ Γ1 : Ents} : Sel y Γ Γ1 → Sel y (z :: Γ) (z :: Γ1)
theorem Sel.perm {y : V × Tr} {Γ Γ1 : Ents} (h : Sel y Γ Γ1) : Γ.Perm (y :: Γ1) := by
  induction h with
  | head => exact List.Perm.refl _
  | tail _ ih => exact (List.Perm.cons _ ih).trans (List.Perm.swap ..)
theorem Sel.mem {y : V × Tr} {Γ Γ1 : Ents} (h : Sel y Γ Γ1) : y ∈ Γ := h.perm.mem_iff.mpr List.mem_cons_self
/-- entries that other entries give -/
inductive Pick : Ents → Ents → Prop
  | nil {Γ : Ents} : Pick Γ []
  | refl {Γ : Ents} : Pick Γ Γ
  | tail {y : V × Tr} {Γ Γ' : Ents} : Pick Γ Γ' → Pick (y :: Γ) Γ'
  | own {v : V} {t : Tr} {Γ Γ1 Γ' : Ents} : Sel (v, t) Γ Γ1 → Pick Γ1 Γ' → Pick Γ ((v, t) :: Γ')
  | per {v : V} {t : Tr} {Γ Γ' : Ents} : Per t → (v, t) ∈ Γ → Pick Γ Γ' → Pick Γ ((v, t) :: Γ')
  | weak {v : V} {t : Tr} {x : PyData} {Γ Γ' : Ents} : Per t → (v, t) ∈ Γ → TrD t x → Pick Γ Γ' → Pick Γ ((v, .d x) :: Γ')
  | scal {v : V} {x : PyData} {Γ Γ' : Ents} : Sc x v → Pick Γ Γ' → Pick Γ ((v, .d x) :: Γ')
  | ice {v : V} {t : Tr} {x : PyData} {Γ Γ1 Γ' : Ents} : Sel (v, t) Γ Γ1 → TrD t x → Pick ((v, .d x) :: Γ1) Γ' → Pick Γ Γ'
  | freeze {v : V} {t s : Tr} {Γ Γ1 Γ' : Ents} : Sel (v, t) Γ Γ1 → Fz t s → Pick ((v, s) :: Γ1) Γ' → Pick Γ Γ'
  | hole {v : V} {Γ Γ' : Ents} : Pick Γ Γ' → Pick Γ ((v, .h v) :: Γ')
section
variable {K : PySem.W.Frag} {B H H' : Hp} {Γ Γ' Γ1 : Ents} {v u w : V} {t s : Tr} {x : PyData} {a p : Addr} {vs xs : List V} {ts : List Tr} {ds : List PyData}
theorem Pick.go (h : Pick Γ Γ') : ∀ {Φ : Ents}, Rep K B H (Φ ++ Γ) → Rep K B H (Φ ++ Γ') := by
  induction h with
  | nil =>
    rename_i Γ
    intro Φ R
    rw [List.append_nil]
    induction Γ with
    | nil => rw [List.append_nil] at R; exact R
    | cons y Γ ih => exact ih (R.perm List.perm_middle).drop
  | refl => intro Φ R; exact R
  | tail _ ih => intro Φ R; exact ih (R.perm List.perm_middle).drop
  | own h _ ih =>
    rename_i v t Γ Γ1 Γ' _
    intro Φ R
    have R := R.perm (List.Perm.append_left Φ h.perm)
    have R : Rep K B H ((Φ ++ [(v, t)]) ++ Γ1) := by rw [List.append_assoc]; exact R
    have R := ih R
    rw [List.append_assoc] at R
    exact R
  | per hp h _ ih =>
    intro Φ R
    exact (ih (Φ := _ :: Φ) (R.get (List.mem_append_right _ h) hp)).perm List.perm_middle.symm
  | weak hp h T _ ih =>
    intro Φ R
    exact (ih (Φ := _ :: Φ) ((R.get (List.mem_append_right _ h) hp).ice T)).perm List.perm_middle.symm
  | scal h _ ih =>
    intro Φ R
    exact (ih (Φ := _ :: Φ) (R.scal fun G => h.dp K G)).perm List.perm_middle.symm
  | ice h T _ ih =>
    intro Φ R
    have R := R.perm (List.Perm.append_left Φ h.perm)
    exact ih ((R.perm List.perm_middle).ice T |>.perm List.perm_middle.symm)
  | freeze h F _ ih =>
    intro Φ R
    have R := R.perm (List.Perm.append_left Φ h.perm)
    exact ih ((R.perm List.perm_middle).freeze F |>.perm List.perm_middle.symm)
  | hole _ ih =>
    rename_i v Γ Γ' _
    intro Φ R
    exact (ih (Φ := (v, .h v) :: Φ) (R.hole v)).perm List.perm_middle.symm
theorem Rep.pick (R : Rep K B H Γ) (h : Pick Γ Γ') : Rep K B H Γ' := h.go (Φ := []) R
theorem Rep.sel (R : Rep K B H Γ) (h : Sel (v, t) Γ Γ') : Rep K B H ((v, t) :: Γ') := R.perm h.perm
/-- what a value is: a scalar, a frozen tree -/
inductive It (Γ : Ents) : V → Tr → Prop
  | sc {v : V} {x : PyData} : Sc x v → It Γ v (.d x)
  | mem {v : V} {t : Tr} : Per t → (v, t) ∈ Γ → It Γ v t
  | weak {v : V} {t : Tr} {x : PyData} : Per t → (v, t) ∈ Γ → TrD t x → It Γ v (.d x)
theorem Rep.it (R : Rep K B H Γ) (h : It Γ v t) : Rep K B H ((v, t) :: Γ) := by
  cases h with
  | sc h => exact R.scal fun G => h.dp K G
  | mem hp h => exact R.get h hp
  | weak hp h T => exact (R.get h hp).ice T
theorem It.app {Δ : Ents} (h : It Γ v t) : It (Δ ++ Γ) v t := by
  cases h with
  | sc h => exact .sc h
  | mem hp h => exact .mem hp (List.mem_append_right _ h)
  | weak hp h T => exact .weak hp (List.mem_append_right _ h) T
theorem It.pick (h : It Γ v t) : Pick Γ ((v, t) :: Γ) := by
  cases h with
  | sc h => exact .scal h .refl
  | mem hp h => exact .per hp h .refl
  | weak hp h T => exact .weak hp h T .refl
inductive Its (Γ : Ents) : List V → List Tr → Prop
  | nil : Its Γ [] []
  | cons {v : V} {t : Tr} {vs : List V} {ts : List Tr} : It Γ v t → Its Γ vs ts → Its Γ (v :: vs) (t :: ts)
theorem Its.len (h : Its Γ vs ts) : vs.length = ts.length := by
  induction h with
  | nil => rfl
  | cons _ _ ih => rw [List.length_cons, List.length_cons, ih]
theorem zip_fst {α β : Type} : ∀ {vs : List α} {ds : List β}, vs.length = ds.length → (vs.zip ds).map (·.1) = vs
  | [], [], _ => rfl
  | v :: vs, d :: ds, h => by
    show v :: (vs.zip ds).map (·.1) = _
    rw [zip_fst (Nat.succ.inj h)]
theorem zip_snd {α β : Type} : ∀ {vs : List α} {ds : List β}, vs.length = ds.length → (vs.zip ds).map (·.2) = ds
  | [], [], _ => rfl
  | v :: vs, d :: ds, h => by
    show d :: (vs.zip ds).map (·.2) = _
    rw [zip_snd (Nat.succ.inj h)]
theorem Rep.its (R : Rep K B H Γ) (h : Its Γ vs ts) : Rep K B H (vs.zip ts ++ Γ) := by
  induction h with
  | nil => exact R
  | cons h _ ih => exact ih.it h.app
theorem trds_d : ∀ ds : List PyData, TrDs (ds.map Tr.d) ds
  | [] => .nil
  | d :: ds => .cons (.d d) (trds_d ds)
theorem per_ds (ds : List PyData) : ∀ t ∈ ds.map Tr.d, Per t := fun t ht => by
  obtain ⟨d, _, rfl⟩ := List.mem_map.mp ht
  exact .d d
/-! displays -/
variable {Q : VK}
theorem s_tupR (R : Rep K B H Γ) (hI : Its Γ xs ts) (hl : xs.length ≤ 100000) (z : ∀ p H', Rep K B H' ((.ref p, .t ts) :: Γ) → Q (.ref p) H') : xs.length ≤ sizeLine ∧ ∀ p, H p = none → Q (.ref p) (upd H p (.tup xs)) := by
  refine ⟨small5 hl, fun p np => z p _ ?_⟩
  have R := (R.its hI).newT np
  rw [zip_fst hI.len, zip_snd hI.len] at R
  exact R
theorem s_lstR (R : Rep K B H Γ) (hI : Its Γ xs ts) (hl : xs.length ≤ 100000) (z : ∀ p H', Rep K B H' ((.ref p, .l ts) :: Γ) → Q (.ref p) H') : xs.length ≤ sizeLine ∧ ∀ p, H p = none → Q (.ref p) (upd H p (.lst xs)) := by
  refine ⟨small5 hl, fun p np => z p _ ?_⟩
  have R := (R.its hI).newL np
  rw [zip_fst hI.len, zip_snd hI.len] at R
  exact R
/-- displays of own things -/
theorem s_tupO {Δ : Ents} (R : Rep K B H Γ) (hP : Pick Γ (Δ ++ Γ')) (e : xs = Δ.map (·.1)) (hl : xs.length ≤ 100000) (z : ∀ p H', Rep K B H' ((.ref p, .t (Δ.map (·.2))) :: Γ') → Q (.ref p) H') : xs.length ≤ sizeLine ∧ ∀ p, H p = none → Q (.ref p) (upd H p (.tup xs)) :=
  ⟨small5 hl, fun p np => z p _ (by rw [e]; exact (R.pick hP).newT np)⟩
theorem s_lstO {Δ : Ents} (R : Rep K B H Γ) (hP : Pick Γ (Δ ++ Γ')) (e : xs = Δ.map (·.1)) (hl : xs.length ≤ 100000) (z : ∀ p H', Rep K B H' ((.ref p, .l (Δ.map (·.2))) :: Γ') → Q (.ref p) H') : xs.length ≤ sizeLine ∧ ∀ p, H p = none → Q (.ref p) (upd H p (.lst xs)) :=
  ⟨small5 hl, fun p np => z p _ (by rw [e]; exact (R.pick hP).newL np)⟩
/-! reading -/
/-- a value of a tree: a scalar, or any other -/
inductive Qv (t : Tr) (Γ : Ents) (P : V → Ents → Prop) : Prop
  | sc {x : PyData} {w : V} : t = .d x → Sc x w → P w Γ → Qv t Γ P
  | any : (∀ v, P v ((v, t) :: Γ)) → Qv t Γ P
  | hole {u : V} : t = .h u → P u Γ → Qv t Γ P
theorem Qv.use {P : V → Prop} (h : Qv t Γ fun v Γ' => Rep K B H Γ' → P v) (R : Rep K B H ((v, t) :: Γ)) : P v := by
  cases h with
  | sc e hs z =>
    subst e
    obtain ⟨G, A, c, g⟩ := id R
    cases g with
    | cons h1 _ =>
      cases h1 with
      | d h1 =>
        have h1 : Dp K G v _ := h1
        rw [hs.eq h1]
        exact z R.drop
  | any z => exact z v R
  | hole e z =>
    subst e
    obtain ⟨G, A, c, g⟩ := id R
    cases g with
    | cons h1 _ =>
      have h1 : Ow K G H v (.h _) _ := h1
      cases h1
      exact z R.drop
/-- a list that can be read: frozen, or own, with frozen things in it -/
inductive Ls (Γ : Ents) (v : V) : List Tr → Prop
  | g {ds : List PyData} : (v, Tr.d (.list ds)) ∈ Γ → Ls Γ v (ds.map Tr.d)
  | o {ts : List Tr} : (∀ t ∈ ts, Per t) → (v, Tr.l ts) ∈ Γ → Ls Γ v ts
  | f {ts : List Tr} : (∀ t ∈ ts, Per t) → (v, Tr.f ts) ∈ Γ → Ls Γ v ts
inductive Tp (Γ : Ents) (v : V) : List Tr → Prop
  | g {ds : List PyData} : (v, Tr.d (.tuple ds)) ∈ Γ → Tp Γ v (ds.map Tr.d)
  | t {ts : List Tr} : (∀ t ∈ ts, Per t) → (v, Tr.t ts) ∈ Γ → Tp Γ v ts
theorem Ls.more {Δ : Ents} (h : Ls Γ v ts) : Ls (Δ ++ Γ) v ts := by
  cases h with
  | g h => exact .g (List.mem_append_right _ h)
  | o hp h => exact .o hp (List.mem_append_right _ h)
  | f hp h => exact .f hp (List.mem_append_right _ h)
theorem Rep.es {G : Hp} {A : List Addr} (c : Act B G H A) (g : OwA K G H (Γ.map (·.1)) (Γ.map (·.2)) A) (q : OwA K G H xs ts []) : ∃ Es : Ents, Es.map (·.1) = xs ∧ Es.map (·.2) = ts ∧ Rep K B H (Es ++ Γ) := by
  have hl := owa_len q
  refine ⟨xs.zip ts, zip_fst hl, zip_snd hl, G, _, c, ?_⟩
  rw [List.map_append, List.map_append, zip_fst hl, zip_snd hl]
  exact owa_app q g
theorem Rep.ld (R : Rep K B H Γ) (h : Ls Γ v ts) : ∃ (a : Addr) (Es : Ents), v = .ref a ∧ SqL K H a (Es.map (·.1)) ∧ Es.map (·.2) = ts ∧ Rep K B H (Es ++ Γ) := by
  cases h with
  | g h =>
    obtain ⟨G, A, c, g⟩ := R.get h (.d _)
    cases g with
    | cons g1 g2 =>
      cases g1 with
      | d g1 =>
        obtain ⟨a, xs, rfl, q1, q2⟩ := dp_list g1
        obtain ⟨Es, z1, z2, R⟩ := Rep.es c g2 (owa_ds q2)
        exact ⟨a, Es, rfl, by rw [z1]; exact c.ext.seq q1, z2, R⟩
  | o hp h =>
    obtain ⟨Δ1, p⟩ := perm_mem h
    obtain ⟨G, A, c, g⟩ := R.perm p
    cases g with
    | cons g1 g2 =>
      have g1' := g1
      cases g1 with
      | l e' q =>
        rename_i a vs A0
        have := owa_nil (fun t ht v A g => (hp t ht).nil g) q
        subst this
        obtain ⟨Es, z1, z2, R⟩ := Rep.es (Γ := (V.ref a, Tr.l ts) :: Δ1) c (.cons g1' g2) q
        exact ⟨a, Es, rfl, by rw [z1]; exact .inl (.inl e'), z2, R.perm (List.Perm.append_left _ p.symm)⟩
  | f hp h =>
    obtain ⟨Δ1, p⟩ := perm_mem h
    obtain ⟨G, A, c, g⟩ := R.perm p
    cases g with
    | cons g1 g2 =>
      have g1' := g1
      cases g1 with
      | f e' q =>
        rename_i a vs
        have := owa_nil (fun t ht v A g => (hp t ht).nil g) q
        subst this
        obtain ⟨Es, z1, z2, R⟩ := Rep.es (Γ := (V.ref a, Tr.f ts) :: Δ1) c (.cons (A := []) g1' g2) q
        exact ⟨a, Es, rfl, by rw [z1]; exact .inl (.inl (c.ext _ _ e')), z2, R.perm (List.Perm.append_left _ p.symm)⟩
theorem Rep.tp (R : Rep K B H Γ) (h : Tp Γ v ts) : ∃ (a : Addr) (Es : Ents), v = .ref a ∧ SqT K H a (Es.map (·.1)) ∧ Es.map (·.2) = ts ∧ Rep K B H (Es ++ Γ) := by
  cases h with
  | g h =>
    obtain ⟨G, A, c, g⟩ := R.get h (.d _)
    cases g with
    | cons g1 g2 =>
      cases g1 with
      | d g1 =>
        obtain ⟨a, xs, rfl, q1, q2⟩ := dp_tup g1
        obtain ⟨Es, z1, z2, R⟩ := Rep.es c g2 (owa_ds q2)
        exact ⟨a, Es, rfl, by rw [z1]; exact sameT c.ext q1, z2, R⟩
  | t hp h =>
    obtain ⟨Δ1, p⟩ := perm_mem h
    obtain ⟨G, A, c, g⟩ := R.perm p
    cases g with
    | cons g1 g2 =>
      have g1' := g1
      cases g1 with
      | t e' q =>
        rename_i a vs
        have := owa_nil (fun t ht v A g => (hp t ht).nil g) q
        subst this
        obtain ⟨Es, z1, z2, R⟩ := Rep.es (Γ := (V.ref a, Tr.t ts) :: Δ1) c (.cons (A := []) g1' g2) q
        exact ⟨a, Es, rfl, by rw [z1]; exact .inl (.inl (c.ext _ _ e')), z2, R.perm (List.Perm.append_left _ p.symm)⟩
/-- a made tuple -/
theorem Rep.tup (R : Rep K B H Γ) (hp : ∀ t ∈ ts, Per t) (h : (v, Tr.t ts) ∈ Γ) : ∃ (a : Addr) (Es : Ents), v = .ref a ∧ H a = some (.tup (Es.map (·.1))) ∧ Es.map (·.2) = ts ∧ Rep K B H (Es ++ Γ) := by
  obtain ⟨Δ1, p⟩ := perm_mem h
  obtain ⟨G, A, c, g⟩ := R.perm p
  cases g with
  | cons g1 g2 =>
    have g1' := g1
    cases g1 with
    | t e' q =>
      rename_i a vs
      have := owa_nil (fun t ht v A g => (hp t ht).nil g) q
      subst this
      obtain ⟨Es, z1, z2, R⟩ := Rep.es (Γ := (V.ref a, Tr.t ts) :: Δ1) c (.cons (A := []) g1' g2) q
      exact ⟨a, Es, rfl, by rw [z1]; exact c.ext _ _ e', z2, R.perm (List.Perm.append_left _ p.symm)⟩
theorem es_len {Es : Ents} (e : Es.map (·.2) = ts) : (Es.map (·.1)).length = ts.length := by
  have := congrArg List.length e
  rw [List.length_map] at this
  rw [List.length_map, this]
theorem es_at {Es : Ents} {i : Nat} {w : V} (R : Rep K B H (Es ++ Γ)) (e : Es.map (·.2) = ts) (h1 : (Es.map (·.1))[i]? = some w) (h2 : ts[i]? = some s) : Rep K B H ((w, s) :: Γ) := by
  subst e
  rw [List.getElem?_map] at h1 h2
  cases q : Es[i]? with
  | none => rw [q] at h1; cases h1
  | some y =>
    rw [q] at h1 h2
    cases h1; cases h2
    refine R.pick ?_
    clear R
    induction Es generalizing i with
    | nil => cases q
    | cons y' Es ih =>
      cases i with
      | zero =>
        cases q
        refine .own (t := y.2) .head ?_
        clear ih
        induction Es with
        | nil => exact .refl
        | cons y Es ih => exact .tail ih
      | succ i => exact .tail (ih q)
theorem atI_two {α β : Type} {xs : List α} {ys : List β} {i : Int} {y : β} (e : xs.length = ys.length) (h : atI ys i = some y) : ∃ (j : Nat) (w : α), atI xs i = some w ∧ xs[j]? = some w ∧ ys[j]? = some y := by
  unfold atI at h ⊢
  rw [← e] at h
  cases q : ixN xs.length i with
  | none => rw [q] at h; cases h
  | some j =>
    rw [q] at h
    have h : ys[j]? = some y := h
    have hj : j < xs.length := by rw [e]; exact (List.getElem?_eq_some_iff.mp h).1
    exact ⟨j, xs[j], List.getElem?_eq_getElem hj, List.getElem?_eq_getElem hj, h⟩
variable {i : Int}
theorem s_ixR (R : Rep K B H Γ) (h : Ls Γ v ts) (e : atI ts i = some t) (z : Qv t Γ fun w Γ' => Rep K B H Γ' → Q w H) : rIxL K v (.int i) H Q := by
  obtain ⟨a, Es, rfl, q, e2, R⟩ := R.ld h
  obtain ⟨j, w, e1, e3, e4⟩ := atI_two (es_len e2) e
  exact s_ixL q e1 (z.use (es_at R e2 e3 e4))
theorem s_ixTR (R : Rep K B H Γ) (h : Tp Γ v ts) (e : atI ts i = some t) (z : Qv t Γ fun w Γ' => Rep K B H Γ' → Q w H) : rIxT K v (.int i) H Q := by
  obtain ⟨a, Es, rfl, q, e2, R⟩ := R.tp h
  obtain ⟨j, w, e1, e3, e4⟩ := atI_two (es_len e2) e
  exact s_ixT q e1 (z.use (es_at R e2 e3 e4))
/-- an item that is own comes to stand alone -/
theorem Rep.itemL (R : Rep K B H ((.ref a, .l ts) :: Γ)) : ∃ xs, H a = some (.lst xs) ∧ xs.length = ts.length ∧ ∀ (i : Nat) w s, xs[i]? = some w → ts[i]? = some s → Rep K B H ((w, s) :: (.ref a, .l (ts.set i (.h w))) :: Γ) := by
  obtain ⟨G, A, c, g⟩ := R
  cases g with
  | cons h1 h2 =>
    rename_i A1 A2
    cases h1 with
    | l e g =>
      rename_i xs A0
      refine ⟨xs, e, owa_len g, fun i w s e1 e2 => ?_⟩
      obtain ⟨u, B1, B2, q1, q2, q3, q4⟩ := owa_at g e2
      rw [e1] at q1
      cases q1
      obtain ⟨A', q5, q6⟩ := q4 (.h w) [] w .h
      have e6 : xs.set i w = xs := by
        obtain ⟨h1, h2⟩ := List.getElem?_eq_some_iff.mp e1
        rw [← h2]; exact List.set_getElem_self h1
      rw [e6] at q6
      refine ⟨G, _, c.perm ?_, .cons q3 (.cons (.l e q6) h2)⟩
      show (a :: A0 ++ A2).Perm (B1 ++ ((a :: A') ++ A2))
      rw [← List.append_assoc]
      refine List.Perm.append_right _ ?_
      refine (List.Perm.cons _ q2).trans ?_
      refine List.Perm.trans ?_ List.perm_middle.symm
      exact List.Perm.cons _ (List.Perm.append_left _ q5.symm)
theorem Rep.itemT (R : Rep K B H ((.ref a, .t ts) :: Γ)) : ∃ xs, H a = some (.tup xs) ∧ xs.length = ts.length ∧ ∀ (i : Nat) w s, xs[i]? = some w → ts[i]? = some s → Rep K B H ((w, s) :: (.ref a, .t (ts.set i (.h w))) :: Γ) := by
  obtain ⟨G, A, c, g⟩ := R
  cases g with
  | cons h1 h2 =>
    rename_i A1 A2
    cases h1 with
    | t e g =>
      rename_i xs
      refine ⟨xs, c.ext _ _ e, owa_len g, fun i w s e1 e2 => ?_⟩
      obtain ⟨u, B1, B2, q1, q2, q3, q4⟩ := owa_at g e2
      rw [e1] at q1
      cases q1
      obtain ⟨A', q5, q6⟩ := q4 (.h w) [] w .h
      have e6 : xs.set i w = xs := by
        obtain ⟨h1, h2⟩ := List.getElem?_eq_some_iff.mp e1
        rw [← h2]; exact List.set_getElem_self h1
      rw [e6] at q6
      refine ⟨G, _, c.perm ?_, .cons q3 (.cons (.t e q6) h2)⟩
      show (A1 ++ A2).Perm (B1 ++ (A' ++ A2))
      rw [← List.append_assoc]
      exact List.Perm.append_right _ (q2.trans (List.Perm.append_left _ q5.symm))
/-- a hole is filled -/
theorem Rep.fillL (R : Rep K B H ((v, s) :: (.ref a, .l ts) :: Γ)) (i : Nat) (e : ts[i]? = some (.h v)) : Rep K B H ((.ref a, .l (ts.set i s)) :: Γ) := by
  obtain ⟨G, A, c, g⟩ := R
  cases g with
  | cons h1 h2 =>
    rename_i A1 A2
    cases h2 with
    | cons h2 h3 =>
      rename_i A3 A4
      cases h2 with
      | l e' g =>
        rename_i xs A0
        obtain ⟨u, B1, B2, q1, q2, q3, q4⟩ := owa_at g e
        cases q3
        obtain ⟨A', q5, q6⟩ := q4 s A1 v h1
        have e6 : xs.set i v = xs := by
          obtain ⟨h1, h2⟩ := List.getElem?_eq_some_iff.mp q1
          rw [← h2]; exact List.set_getElem_self h1
        rw [e6] at q6
        refine ⟨G, _, c.perm ?_, .cons (.l e' q6) h3⟩
        show (A1 ++ ((a :: A0) ++ A4)).Perm ((a :: A') ++ A4)
        rw [← List.append_assoc]
        refine List.Perm.append_right _ ?_
        refine List.perm_middle.trans (List.Perm.cons _ ?_)
        exact (List.Perm.append_left _ q2).trans q5.symm
theorem Rep.fillT (R : Rep K B H ((v, s) :: (.ref a, .t ts) :: Γ)) (i : Nat) (e : ts[i]? = some (.h v)) : Rep K B H ((.ref a, .t (ts.set i s)) :: Γ) := by
  obtain ⟨G, A, c, g⟩ := R
  cases g with
  | cons h1 h2 =>
    rename_i A1 A2
    cases h2 with
    | cons h2 h3 =>
      rename_i A3 A4
      cases h2 with
      | t e' g =>
        rename_i xs
        obtain ⟨u, B1, B2, q1, q2, q3, q4⟩ := owa_at g e
        cases q3
        obtain ⟨A', q5, q6⟩ := q4 s A1 v h1
        have e6 : xs.set i v = xs := by
          obtain ⟨h1, h2⟩ := List.getElem?_eq_some_iff.mp q1
          rw [← h2]; exact List.set_getElem_self h1
        rw [e6] at q6
        refine ⟨G, _, c.perm ?_, .cons (.t e' q6) h3⟩
        rw [← List.append_assoc]
        exact List.Perm.append_right _ ((List.Perm.append_left _ q2).trans q5.symm)
/-! writing -/
/-- a list is written anew -/
theorem Rep.reL {Γ0 : Ents} (R : Rep K B H ((.ref a, .l ts) :: Γ0)) : ∃ Δ : Ents, Δ.map (·.2) = ts ∧ H a = some (.lst (Δ.map (·.1))) ∧ ∀ Δ', Pick (Δ ++ Γ0) (Δ' ++ Γ) → Rep K B (upd H a (.lst (Δ'.map (·.1)))) ((.ref a, .l (Δ'.map (·.2))) :: Γ) := by
  obtain ⟨Δ, e1, e2, f⟩ := R.open
  refine ⟨Δ, e1, e2, fun Δ' P => ?_⟩
  have R2 := f []
  have R3 : Rep K B (upd H a (.lst [])) ((.ref a, .l (([] : List V).map Tr.h)) :: (Δ' ++ Γ)) := P.go (Φ := [(.ref a, .l [])]) R2
  have R4 := Rep.setL R3
  rw [upd_upd] at R4
  exact R4
theorem map_len {Δ : Ents} (e : Δ.map (·.2) = ts) : (Δ.map (·.1)).length = ts.length := by rw [← e, List.length_map, List.length_map]
theorem Rep.append (R : Rep K B H ((.ref a, .l ts) :: (v, t) :: Γ)) : ∃ vs, H a = some (.lst vs) ∧ vs.length = ts.length ∧ Rep K B (upd H a (.lst (vs ++ [v]))) ((.ref a, .l (ts ++ [t])) :: Γ) := by
  obtain ⟨Δ, e1, e2, f⟩ := R.reL (Γ := Γ)
  refine ⟨_, e2, map_len e1, ?_⟩
  have := f (Δ ++ [(v, t)]) (by rw [List.append_assoc]; exact .refl)
  rw [List.map_append, List.map_append, e1] at this
  exact this
theorem s_appR (R : Rep K B H Γ) (h : Sel (.ref a, .l ts) Γ Γ1) (P : Pick Γ1 ((v, t) :: Γ')) (hl : ts.length < 100000) (z : ∀ H', Rep K B H' ((.ref a, .l (ts ++ [t])) :: Γ') → Q .non H') : rAppend (.ref a) [v] H Q := by
  have R := P.go (Φ := [(.ref a, .l ts)]) (R.sel h)
  obtain ⟨vs, e1, e2, R⟩ := R.append
  exact s_append e1 (z _ R) (small5' (by omega))
/-- .. a frozen thing -/
theorem s_appI (R : Rep K B H Γ) (h : Sel (.ref a, .l ts) Γ Γ1) (I : It Γ1 v t) (hl : ts.length < 100000) (z : ∀ H', Rep K B H' ((.ref a, .l (ts ++ [t])) :: Γ1) → Q .non H') : rAppend (.ref a) [v] H Q := s_appR R h I.pick hl z
theorem Rep.tyL (R : Rep K B H Γ) (h : (.ref a, .l ts) ∈ Γ) : tyV K "list" (.ref a) H := by
  obtain ⟨Γ1, p⟩ := perm_mem h
  obtain ⟨vs, e, _⟩ := (R.perm p).vals
  exact ty_list (.inl (.inl e))
theorem s_tyR {P : Prop} (R : Rep K B H Γ) (h : (.ref a, .l ts) ∈ Γ) (z : P) : tyV K "list" (.ref a) H ∧ P := ⟨R.tyL h, z⟩
theorem s_clearR (R : Rep K B H Γ) (h : Sel (.ref a, .l ts) Γ Γ1) (z : ∀ H', Rep K B H' ((.ref a, .l []) :: Γ1) → Q .non H') : rClear (.ref a) [] H Q := by
  obtain ⟨Δ, e1, e2, f⟩ := (R.sel h).reL (Γ := Γ1)
  exact s_clear e2 (z _ (f [] (by
    clear f e2 e1
    induction Δ with
    | nil => exact .refl
    | cons y Δ ih => exact .tail ih)))
/-! lists from lists -/
/-- a new list of some of these -/
theorem Rep.newE {Es : Ents} (R : Rep K B H (Es ++ Γ)) (e : Es.map (·.2) = ts) (hp : H p = none) : Rep K B (upd H p (.lst (Es.map (·.1)))) ((.ref p, .l ts) :: Γ) := by
  have := R.newL hp
  rw [e] at this
  exact this
variable {us : List Tr}
theorem s_catR (R : Rep K B H Γ) (h1 : Ls Γ v ts) (h2 : Ls Γ w us) (hl : ts.length + us.length ≤ 100000) (z : ∀ p H', Rep K B H' ((.ref p, .l (ts ++ us)) :: Γ) → Q (.ref p) H') : rCatS K v w H Q := by
  obtain ⟨a, Es, rfl, q1, e1, R⟩ := R.ld h1
  obtain ⟨b, Fs, rfl, q2, e2, R⟩ := R.ld (h2.more (Δ := Es))
  refine ⟨a, b, _, _, rfl, rfl, q1, q2, small5 (by rw [es_len e1, es_len e2]; exact hl), fun p np => z p _ ?_⟩
  rw [← List.map_append]
  refine Rep.newE (Γ := Γ) ?_ (by rw [List.map_append, e1, e2]) np
  rw [← List.append_assoc] at R
  exact R.perm (List.Perm.append_right _ List.perm_append_comm)
theorem s_listR (R : Rep K B H Γ) (h1 : Ls Γ v ts) (z : ∀ p H', Rep K B H' ((.ref p, .l ts) :: Γ) → Q (.ref p) H') : rListO K [v] H Q := by
  obtain ⟨a, Es, rfl, q1, e1, R⟩ := R.ld h1
  exact ⟨a, _, rfl, .inl q1, fun p np => z p _ (R.newE e1 np)⟩
/-- a slice -/
def cutTr {α : Type} (ts : List α) (lo hi : Option Int) : List α := (ts.drop (HT.sIx ts.length 0 lo)).take (HT.sIx ts.length ts.length hi - HT.sIx ts.length 0 lo)
theorem pick_cut {Es : Ents} (i j : Nat) : Pick (Es ++ Γ) (((Es.drop i).take j) ++ Γ) := by
  induction i generalizing Es with
  | zero =>
    rw [List.drop_zero]
    induction j generalizing Es with
    | zero =>
      rw [List.take_zero]
      induction Es with
      | nil => exact .refl
      | cons y Es ih => exact .tail ih
    | succ j ih =>
      cases Es with
      | nil => exact .refl
      | cons y Es => exact .own (t := y.2) .head (ih (Es := Es))
  | succ i ih =>
    cases Es with
    | nil => rw [List.drop_nil, List.take_nil]; exact .refl
    | cons y Es => exact .tail (ih (Es := Es))
theorem s_slR {lo hi : Option Int} (R : Rep K B H Γ) (h1 : Ls Γ v ts) (z : ∀ p H', Rep K B H' ((.ref p, .l (cutTr ts lo hi)) :: Γ) → Q (.ref p) H') : rSlL K v lo hi H Q := by
  obtain ⟨a, Es, rfl, q1, e1, R⟩ := R.ld h1
  refine ⟨a, _, rfl, q1, fun p np => z p _ ?_⟩
  unfold cutV cutTr
  rw [es_len e1, ← List.map_drop, ← List.map_take]
  exact Rep.newE (R.pick (pick_cut _ _)) (by rw [List.map_take, List.map_drop, e1]) np
theorem s_lenR (R : Rep K B H Γ) (h1 : Ls Γ v ts) (z : Q (.int (ts.length : Int)) H) : rLenL K [v] H Q := by
  obtain ⟨a, Es, rfl, q1, e1, R⟩ := R.ld h1
  have := s_lenL (Q := Q) q1
  rw [es_len e1] at this
  exact this z
theorem s_lenO (R : Rep K B H Γ) (h1 : (.ref a, .l ts) ∈ Γ) (z : Q (.int (ts.length : Int)) H) : rLenL K [.ref a] H Q := by
  obtain ⟨Γ1, p⟩ := perm_mem h1
  obtain ⟨vs, e, el⟩ := (R.perm p).vals
  have := s_lenL (K := K) (Q := Q) (.inl (.inl e) : SqL K H a vs)
  rw [el] at this
  exact this z
end
end Jl

/-! Loops, comprehensions, dicts over entries. -/
namespace Jl
open PySem L2 PySem.Spec PyProof.Rows
section
variable {K : PySem.W.Frag} {B H H' : Hp} {Γ Γ' Γ1 : Ents} {v u w : V} {t s : Tr} {x : PyData} {a p : Addr} {vs xs : List V} {ts us : List Tr} {ds : List PyData} {Q : VK}
variable {σ : L2.St} {nx bk ct : L2.St → Hp → Prop} {rt : VK} {g : TG} {tl te : TE} {tt : TT} {tu : TS}
/-- what holds of the slots and the entries -/
def RI (K : PySem.W.Frag) (B : Hp) (I : L2.St → Ents → Prop) : L2.St → Hp → Prop := fun σ H => ∃ Γ, Rep K B H Γ ∧ I σ Γ
theorem RI.mk {I : L2.St → Ents → Prop} (R : Rep K B H Γ) (h : Pick Γ Γ') (i : I σ Γ') : RI K B I σ H := ⟨Γ', R.pick h, i⟩
def ForL (K : PySem.W.Frag) (g : TG) (tu : TS) (D : Ends) (σ : L2.St) : VK := fun v H1 => ∃ a, v = .ref a ∧ (∃ xs, SqL K H1 a xs) ∧ ∃ W : Nat → Nat → L2.St → Hp → Prop, (∃ m, W 0 m σ H1) ∧ ∀ i m σ H, W i m σ H →
  ((Itl K a).stop i H ∧ D.nx σ H) ∨ ((Itl K a).go i H ∧ ∃ N : L2.St → Hp → Prop, (∀ σ' H', N σ' H' → ∃ m', m' < m ∧ W (i + 1) m' σ' H') ∧ ∀ x H', (Itl K a).yld i H x H' → g x σ H' fun σ2 H2 => tu { D with nx := N, ct := N, bk := D.nx } σ2 H2)
theorem s_for {D : Ends} (z : tl σ H (ForL K g tu D σ)) : tFor (iList K tl) g tu D σ H := z
theorem forL_R {n : Nat} (I : Nat → L2.St → Ents → Prop) (f : Nat → Tr) (R : Rep K B H Γ) (h0 : I 0 σ Γ) (hm : ∀ i σ Γ, i ≤ n → I i σ Γ → ∃ ts, Ls Γ v ts ∧ ts.length = n ∧ ∀ j, j < n → ts[j]? = some (f j))
    (hs : ∀ i σ' H' Γ', i < n → I i σ' Γ' → Rep K B H' Γ' → Qv (f i) Γ' fun x Γ2 => Rep K B H' Γ2 → g x σ' H' fun σ2 H2 => tu ⟨RI K B (I (i + 1)), rt, nx, RI K B (I (i + 1))⟩ σ2 H2)
    (hd : ∀ σ' H' Γ', I n σ' Γ' → Rep K B H' Γ' → nx σ' H') : ForL K g tu ⟨nx, rt, bk, ct⟩ σ v H := by
  obtain ⟨ts, h1, h2, h3⟩ := hm 0 σ Γ (Nat.zero_le _) h0
  obtain ⟨a, Es, rfl, q, e, R1⟩ := R.ld h1
  refine ⟨a, rfl, ⟨_, q⟩, fun i m σ' H' => m = n - i ∧ i ≤ n ∧ RI K B (I i) σ' H', ⟨n, by simp, Nat.zero_le _, Γ, R, h0⟩, ?_⟩
  rintro i m σ' H' ⟨rfl, hi, Γ', R', hI⟩
  obtain ⟨ts, h1, h2, h3⟩ := hm i σ' Γ' hi hI
  obtain ⟨a', Es, e0, q, e, R2⟩ := R'.ld h1
  cases e0
  have hl : (Es.map (·.1)).length = n := by rw [es_len e, h2]
  by_cases hlt : i < n
  · have hx : (Es.map (·.1))[i]? = some (Es.map (·.1))[i] := List.getElem?_eq_getElem (by omega)
    refine .inr ⟨⟨_, _, q, hx⟩, RI K B (I (i + 1)), fun σ2 H2 h => ⟨n - (i + 1), by omega, rfl, hlt, h⟩, fun x H2 y => ?_⟩
    obtain ⟨rfl, y⟩ := y
    have hx := y _ q
    exact (hs i σ' H2 Γ' hlt hI R').use (es_at R2 e hx (h3 i hlt))
  · have : i = n := by omega
    subst this
    exact .inl ⟨⟨_, q, by omega⟩, hd σ' H' Γ' hI R'⟩
/-- over things told by a typed list -/
theorem forL_T {α : Type} {l : List α} {e : α → Tr} (I : Nat → L2.St → Ents → Prop) (R : Rep K B H Γ) (h0 : I 0 σ Γ) (hm : ∀ i σ Γ, i ≤ l.length → I i σ Γ → Ls Γ v (l.map e))
    (hs : ∀ i y σ' H' Γ', l[i]? = some y → I i σ' Γ' → Rep K B H' Γ' → Qv (e y) Γ' fun x Γ2 => Rep K B H' Γ2 → g x σ' H' fun σ2 H2 => tu ⟨RI K B (I (i + 1)), rt, nx, RI K B (I (i + 1))⟩ σ2 H2)
    (hd : ∀ σ' H' Γ', I l.length σ' Γ' → Rep K B H' Γ' → nx σ' H') : ForL K g tu ⟨nx, rt, bk, ct⟩ σ v H := by
  refine forL_R (n := l.length) I (fun j => (l[j]?.map e).getD (.d .none)) R h0 (fun i σ Γ hi h => ⟨_, hm i σ Γ hi h, by rw [List.length_map], fun j hj => ?_⟩) (fun i σ' H' Γ' hi h R => ?_) hd
  · show (l.map e)[j]? = some ((l[j]?.map e).getD (.d .none))
    rw [List.getElem?_map, List.getElem?_eq_getElem hj]; rfl
  · show Qv ((l[i]?.map e).getD (.d .none)) _ _
    rw [List.getElem?_eq_getElem hi]
    exact hs i _ σ' H' Γ' (List.getElem?_eq_getElem hi) h R
/-- over an own list of own things -/
theorem forL_O {n : Nat} (I : Nat → L2.St → List Tr → Ents → Prop) (R : Rep K B H ((.ref a, .l ts) :: Γ)) (h0 : I 0 σ ts Γ) (hm : ∀ i σ ts Γ, i ≤ n → I i σ ts Γ → ts.length = n)
    (hs : ∀ i σ' H' ts Γ1 s x, i < n → I i σ' ts Γ1 → ts[i]? = some s → Rep K B H' ((x, s) :: (.ref a, .l (ts.set i (.h x))) :: Γ1) → g x σ' H' fun σ2 H2 => tu ⟨RI K B (fun σ Γ => ∃ ts Γ1, Γ = (.ref a, .l ts) :: Γ1 ∧ I (i + 1) σ ts Γ1), rt, nx, RI K B (fun σ Γ => ∃ ts Γ1, Γ = (.ref a, .l ts) :: Γ1 ∧ I (i + 1) σ ts Γ1)⟩ σ2 H2)
    (hd : ∀ σ' H' ts Γ1, I n σ' ts Γ1 → Rep K B H' ((.ref a, .l ts) :: Γ1) → nx σ' H') : ForL K g tu ⟨nx, rt, bk, ct⟩ σ (.ref a) H := by
  have h2 := hm 0 σ ts Γ (Nat.zero_le _) h0
  obtain ⟨xs, e1, e2, -⟩ := R.itemL
  refine ⟨a, rfl, ⟨_, .inl (.inl e1)⟩, fun i m σ' H' => m = n - i ∧ i ≤ n ∧ RI K B (fun σ Γ => ∃ ts Γ1, Γ = (.ref a, .l ts) :: Γ1 ∧ I i σ ts Γ1) σ' H', ⟨n, by simp, Nat.zero_le _, _, R, ts, Γ, rfl, h0⟩, ?_⟩
  rintro i m σ' H' ⟨rfl, hi, Γ', R', ts, Γ1, rfl, hI⟩
  have h2 := hm i σ' ts Γ1 hi hI
  obtain ⟨xs, e1, e2, e3⟩ := R'.itemL
  by_cases hlt : i < n
  · have hx : xs[i]? = some xs[i] := List.getElem?_eq_getElem (by omega)
    refine .inr ⟨⟨_, _, .inl (.inl e1), hx⟩, RI K B (fun σ Γ => ∃ ts Γ1, Γ = (.ref a, .l ts) :: Γ1 ∧ I (i + 1) σ ts Γ1), fun σ2 H2 h => ⟨n - (i + 1), by omega, rfl, hlt, h⟩, fun x H2 y => ?_⟩
    obtain ⟨rfl, y⟩ := y
    have hx := y _ (.inl (.inl e1))
    have ht : ts[i]? = some ts[i] := List.getElem?_eq_getElem (by omega)
    exact hs i σ' H2 ts Γ1 _ x hlt hI ht (e3 i x _ hx ht)
  · have : i = n := by omega
    subst this
    exact .inl ⟨⟨_, .inl (.inl e1), by omega⟩, hd σ' H' ts Γ1 hI R'⟩
/-! comprehensions -/
def LcL (K : PySem.W.Frag) (g : TG) (tt : TT) (te : TE) (vs : List Nat) (σ : L2.St) (Q : VK) : VK := fun v H1 => ∃ a, v = .ref a ∧ (∃ xs, SqL K H1 a xs) ∧ ∀ D, H1 D = none → ∃ W : Nat → Nat → Hp → Prop, (∃ m, W 0 m (upd H1 D (.lst []))) ∧ ∀ i m H, W i m H →
  ((Itl K a).stop i H ∧ Q (.ref D) H) ∨ ((Itl K a).go i H ∧ ∃ Nx : Hp → Prop, (∀ H', Nx H' → ∃ m', m' < m ∧ W (i + 1) m' H') ∧ ∀ x H', (Itl K a).yld i H x H' → g x (wipe σ vs) H' fun σ2 H2 => wipe σ2 vs = wipe σ vs ∧ tt σ2 H2 fun b H3 =>
    if b = true then te σ2 H3 fun y H4 => ∃ acc, H4 D = some (.lst acc) ∧ acc.length < sizeLine ∧ Nx (upd H4 D (.lst (acc ++ [y]))) else Nx H3)
theorem s_lc {ns : List Nat} (z : tl σ H (LcL K g tt te ns σ Q)) : tLc (iList K tl) g tt te ns σ H Q := z
theorem Ls.cons {y : V × Tr} (h : Ls Γ v ts) : Ls (y :: Γ) v ts := by
  cases h with
  | g h => exact .g (List.mem_cons_of_mem _ h)
  | o hp h => exact .o hp (List.mem_cons_of_mem _ h)
  | f hp h => exact .f hp (List.mem_cons_of_mem _ h)
theorem lcL_T {α : Type} {l : List α} {e : α → Tr} {ns : List Nat} (f : α → Option Tr) (R : Rep K B H Γ) (hL : Ls Γ v (l.map e)) (hl : l.length ≤ 100000)
    (hs : ∀ (i : Nat) y H' D t0, l[i]? = some y → Rep K B H' ((.ref D, t0) :: Γ) → ∀ (Ry : VK) (Rn : Hp → Prop), (∀ w H2 s, f y = some s → Rep K B H2 ((w, s) :: (.ref D, t0) :: Γ) → Ry w H2) → (f y = none → ∀ H2, Rep K B H2 ((.ref D, t0) :: Γ) → Rn H2) →
      Qv (e y) ((.ref D, t0) :: Γ) fun x Γ2 => Rep K B H' Γ2 → g x (wipe σ ns) H' fun σ2 H2 => wipe σ2 ns = wipe σ ns ∧ tt σ2 H2 fun b H3 => if b = true then te σ2 H3 Ry else Rn H3)
    (z : ∀ D H', Rep K B H' ((.ref D, .l (l.filterMap f)) :: Γ) → Q (.ref D) H') : LcL K g tt te ns σ Q v H := by
  obtain ⟨a, Es, rfl, q, e1, R1⟩ := R.ld hL
  refine ⟨a, rfl, ⟨_, q⟩, fun D hD => ?_⟩
  have R0 : Rep K B (upd H D (.lst [])) ((.ref D, .l []) :: Γ) := Rep.newL (Δ := []) R hD
  refine ⟨fun i m H' => m = l.length - i ∧ i ≤ l.length ∧ Rep K B H' ((.ref D, .l ((l.take i).filterMap f)) :: Γ), ⟨_, rfl, Nat.zero_le _, R0⟩, ?_⟩
  rintro i m H1 ⟨rfl, hi, R1⟩
  obtain ⟨a', Es, e0, q, e1, R2⟩ := R1.ld hL.cons
  cases e0
  have hll : (Es.map (·.1)).length = l.length := by rw [es_len e1, List.length_map]
  by_cases hlt : i < l.length
  · have hx : (Es.map (·.1))[i]? = some (Es.map (·.1))[i] := List.getElem?_eq_getElem (by omega)
    have hy : l[i]? = some l[i] := List.getElem?_eq_getElem hlt
    have ht : l.take (i + 1) = l.take i ++ [l[i]] := by rw [List.take_add_one, hy]; rfl
    have hc : ((l.take i).filterMap f).length ≤ i := Nat.le_trans (List.length_filterMap_le _ _) (by rw [List.length_take]; omega)
    refine .inr ⟨⟨_, _, q, hx⟩, fun H2 => Rep K B H2 ((.ref D, .l ((l.take (i + 1)).filterMap f)) :: Γ), fun H2 h => ⟨l.length - (i + 1), by omega, rfl, hlt, h⟩, fun x H2 y => ?_⟩
    obtain ⟨rfl, y⟩ := y
    have hx := y _ q
    have hz : (l.map e)[i]? = some (e l[i]) := by rw [List.getElem?_map, hy]; rfl
    have R3 := es_at R2 e1 hx hz
    refine (hs i _ H2 D _ hy R1 _ _ (fun w H4 s hf R4 => ?_) (fun hf H4 R4 => ?_)).use R3
    · have R5 := R4.pick (Γ' := (.ref D, .l ((l.take i).filterMap f)) :: (w, s) :: Γ) (.own (.tail .head) .refl)
      obtain ⟨acc, h1, h2, R6⟩ := R5.append
      refine ⟨acc, h1, small5' (by omega), ?_⟩
      show Rep K B _ _
      rw [ht, List.filterMap_append]
      have : List.filterMap f [l[i]] = [s] := by rw [List.filterMap_cons, hf]; rfl
      rw [this]
      exact R6
    · show Rep K B _ _
      rw [ht, List.filterMap_append]
      have : List.filterMap f [l[i]] = [] := by rw [List.filterMap_cons, hf]; rfl
      rw [this, List.append_nil]
      exact R4
  · have : i = l.length := by omega
    subst this
    rw [List.take_length] at R1
    exact .inl ⟨⟨_, q, by omega⟩, z D H1 R1⟩
/-! while -/
def WB (K : PySem.W.Frag) (B : Hp) (I : Nat → L2.St → Ents → Prop) (m : Nat) (tu : TS) (rt : VK) (nx : L2.St → Hp → Prop) (σ : L2.St) (H : Hp) : Prop := ∃ N : L2.St → Hp → Prop, (∀ σ' H', N σ' H' → ∃ m', m' < m ∧ RI K B (I m') σ' H') ∧ tu ⟨N, rt, nx, N⟩ σ H
theorem s_whileR {tc : TT} (I : Nat → L2.St → Ents → Prop) (R : Rep K B H Γ) (m0 : Nat) (h0 : I m0 σ Γ)
    (hs : ∀ m σ' H' Γ', I m σ' Γ' → Rep K B H' Γ' → tc σ' H' fun b H1 => if b = true then WB K B I m tu rt nx σ' H1 else nx σ' H1) : tWhile tc tu ⟨nx, rt, bk, ct⟩ σ H := by
  refine ⟨fun m σ H => RI K B (I m) σ H, ⟨m0, Γ, R, h0⟩, ?_⟩
  rintro m σ' H' ⟨Γ', R', hI⟩
  exact hs m σ' H' Γ' hI R'
theorem s_wb {I : Nat → L2.St → Ents → Prop} {m : Nat} (z : tu ⟨RI K B (fun σ Γ => ∃ m', m' < m ∧ I m' σ Γ), rt, nx, RI K B (fun σ Γ => ∃ m', m' < m ∧ I m' σ Γ)⟩ σ H) : WB K B I m tu rt nx σ H :=
  ⟨_, fun σ' H' ⟨Γ', R, m', h1, h2⟩ => ⟨m', h1, Γ', R, h2⟩, z⟩
/-! cuts -/
theorem s_cutR {ts : TS} (M : L2.St → Ents → Prop) (w : ∀ N : L2.St → Hp → Prop, (∀ σ' H' Γ', Rep K B H' Γ' → M σ' Γ' → N σ' H') → ts ⟨N, rt, bk, ct⟩ σ H) (z : ∀ σ' H' Γ', Rep K B H' Γ' → M σ' Γ' → tu ⟨nx, rt, bk, ct⟩ σ' H') : tSeq ts tu ⟨nx, rt, bk, ct⟩ σ H := w _ z
theorem s_ifR {ts : TS} (M : L2.St → Ents → Prop) (w : ∀ N : L2.St → Hp → Prop, (∀ σ' H' Γ', Rep K B H' Γ' → M σ' Γ' → N σ' H') → tIfS tt ts tu ⟨N, rt, bk, ct⟩ σ H) (z : ∀ σ' H' Γ', Rep K B H' Γ' → M σ' Γ' → nx σ' H') : tIfK tt ts tu ⟨nx, rt, bk, ct⟩ σ H := w _ z
/-! unpacking -/
def Uns : List Tr → Ents → (List V → Ents → Prop) → Prop
  | [], Γ, P => P [] Γ
  | t :: ts, Γ, P => Qv t Γ fun v Γ' => Uns ts Γ' fun vs Γ'' => P (v :: vs) Γ''
theorem Uns.c {P : List V → Ents → Prop} (z : Qv t Γ fun v Γ' => Uns ts Γ' fun vs Γ'' => P (v :: vs) Γ'') : Uns (t :: ts) Γ P := z
theorem Uns.n {P : List V → Ents → Prop} (z : P [] Γ) : Uns [] Γ P := z
theorem Qv.mono {P P' : V → Ents → Prop} (h : Qv t Γ P) (f : ∀ v Γ', P v Γ' → P' v Γ') : Qv t Γ P' := by
  cases h with
  | sc e hs z => exact .sc e hs (f _ _ z)
  | any z => exact .any fun v => f _ _ (z v)
  | hole e z => exact .hole e (f _ _ z)
theorem Uns.mono {P P' : List V → Ents → Prop} (f : ∀ v Γ', P v Γ' → P' v Γ') : ∀ {ts : List Tr} {Γ : Ents}, Uns ts Γ P → Uns ts Γ P'
  | [], _, h => f _ _ h
  | t :: ts, _, h => Qv.mono h fun v Γ' h => Uns.mono (P := fun vs Γ'' => P (v :: vs) Γ'') (P' := fun vs Γ'' => P' (v :: vs) Γ'') (fun vs Γ'' h => f _ _ h) h
theorem Uns.use : ∀ {ts : List Tr} {Γ Es : Ents} {P : List V → Prop}, Es.map (·.2) = ts → Uns ts Γ (fun vs Γ' => Rep K B H Γ' → P vs) → Rep K B H (Es ++ Γ) → P (Es.map (·.1))
  | [], Γ, Es, P, e, h, R => by
    cases Es with
    | nil => exact h R
    | cons y Es => cases e
  | t :: ts, Γ, Es, P, e, h, R => by
    cases Es with
    | nil => cases e
    | cons y Es =>
      obtain ⟨v, t'⟩ := y
      cases e
      have R2 : Rep K B H ((v, t') :: (Es ++ Γ)) := R
      have key : Uns (Es.map (·.2)) ((v, t') :: Γ) (fun vs Γ' => Rep K B H Γ' → P (v :: vs)) ∨ Uns (Es.map (·.2)) Γ (fun vs Γ' => Rep K B H Γ' → P (v :: vs)) := by
        have h : Qv t' Γ fun v Γ' => Uns (Es.map (·.2)) Γ' fun vs Γ'' => Rep K B H Γ'' → P (v :: vs) := h
        cases h with
        | sc e hs z =>
          subst e
          obtain ⟨G, A, c, g⟩ := R2
          cases g with
          | cons h1 _ =>
            cases h1 with
            | d h1 =>
              have h1 : Dp K G v _ := h1
              rw [hs.eq h1]
              exact .inr z
        | any z => exact .inl (z v)
        | hole e z =>
          subst e
          obtain ⟨G, A, c, g⟩ := R2
          cases g with
          | cons h1 _ =>
            have h1 : Ow K G H v (.h _) _ := h1
            cases h1
            exact .inr z
      rcases key with z | z
      · exact Uns.use (P := fun vs => P (v :: vs)) rfl z (R2.perm List.perm_middle.symm)
      · exact Uns.use (P := fun vs => P (v :: vs)) rfl z R2.drop
theorem s_gTupR {n : Nat} {gs : TGs} {W : L2.St → Hp → Prop} (R : Rep K B H Γ) (h : Tp Γ v ts) (hl : ts.length = n) (z : Uns ts Γ fun vs Γ' => Rep K B H Γ' → gs vs σ H W) : gTup K n gs v σ H W := by
  obtain ⟨a, Es, rfl, q, e, R⟩ := R.tp h
  exact ⟨a, _, rfl, q, by rw [es_len e, hl], Uns.use e z R⟩
/-- .. of a tuple that holds own things: they come to stand alone -/
theorem Rep.openT (R : Rep K B H ((v, .t ts) :: Γ)) : ∃ (a : Addr) (Es : Ents), v = .ref a ∧ H a = some (.tup (Es.map (·.1))) ∧ Es.map (·.2) = ts ∧ Rep K B H ((v, .t (Es.map fun y => Tr.h y.1)) :: (Es ++ Γ)) := by
  obtain ⟨G, A, c, g⟩ := R
  cases g with
  | cons h1 h2 =>
    cases h1 with
    | @t a vs _ A1 e q =>
      have hl := owa_len q
      refine ⟨a, vs.zip ts, rfl, by rw [zip_fst hl]; exact c.ext _ _ e, zip_snd hl, G, _, c, ?_⟩
      have hh : ∀ ws : List V, OwA K G H ws (ws.map Tr.h) [] := fun ws => by
        induction ws with
        | nil => exact .nil
        | cons w ws ih => exact .cons .h ih
      refine OwA.cons (A := []) (.t e ?_) ?_
      · have : (vs.zip ts).map (fun y => Tr.h y.1) = vs.map Tr.h := by
          have := congrArg (List.map Tr.h) (zip_fst hl)
          rw [List.map_map] at this
          exact this
        rw [this]
        exact hh vs
      · rw [List.map_append, List.map_append, zip_fst hl, zip_snd hl]
        exact owa_app q h2
theorem Rep.closeT {Es : Ents} (R : Rep K B H ((v, .t (Es.map fun y => Tr.h y.1)) :: (Es ++ Γ))) : Rep K B H ((v, .t (Es.map (·.2))) :: Γ) := by
  obtain ⟨G, A, c, g⟩ := R
  cases g with
  | cons h1 h2 =>
    cases h1 with
    | @t a vs _ A1 e q =>
      obtain ⟨B1, B2, rfl, g1, g2⟩ := ents_split h2
      have hh : ∀ {Es : Ents} {vs : List V} {A : List Addr}, OwA K G H vs (Es.map fun y => Tr.h y.1) A → vs = Es.map (·.1) ∧ A = [] := by
        intro Es
        induction Es with
        | nil => intro vs A h; cases h; exact ⟨rfl, rfl⟩
        | cons y Es ih =>
          intro vs A h
          cases h with
          | cons h1 h2 =>
            cases h1
            obtain ⟨rfl, rfl⟩ := ih h2
            exact ⟨rfl, rfl⟩
      obtain ⟨rfl, rfl⟩ := hh q
      exact ⟨G, _, c, .cons (A := B1) (.t e g1) g2⟩
/-! dicts -/
theorem Rep.m {L : List (Key × PyData)} (R : Rep K B H ((v, .m L) :: Γ)) : ∃ a kvs, v = .ref a ∧ H a = some (.dK kvs) ∧ kvs.length = L.length ∧ kvs.map (·.1) = L.map (·.1) ∧ (∀ (k : Key) x, lookL L k = some x → ∃ w, valV kvs k = some w ∧ Rep K B H ((w, .d x) :: (v, .m L) :: Γ)) ∧ (∀ k : Key, lookL L k = none → valV kvs k = none) := by
  obtain ⟨G, A, c, g⟩ := R
  cases g with
  | cons h1 h2 =>
    have h1' := h1
    cases h1 with
    | m e q =>
      rename_i a kvs
      refine ⟨a, kvs, rfl, e, q.len, q.1, fun k x hx => ?_, fun k hk => ?_⟩
      · rcases q.get (fun _ _ e => e) (k := k) with ⟨h, _⟩ | ⟨d, w, h, hw, hd⟩
        · rw [h] at hx; cases hx
        · rw [h] at hx
          cases hx
          exact ⟨w, hw, G, _, c, OwA.cons (A := []) (.d hd) (.cons h1' h2)⟩
      · rcases q.get (fun _ _ e => e) (k := k) with ⟨_, h⟩ | ⟨d, w, h, hw, hd⟩
        · exact h
        · rw [h] at hk; cases hk
theorem Rep.putM {L : List (Key × PyData)} {k : Key} (R : Rep K B H ((.ref a, .m L) :: (w, .d x) :: Γ)) : ∃ kvs, H a = some (.dK kvs) ∧ kvs.length = L.length ∧ Rep K B (upd H a (.dK (putK kvs k w))) ((.ref a, .m (putL L k x)) :: Γ) := by
  obtain ⟨G, A, c, g⟩ := R
  cases g with
  | cons h1 h2 =>
    cases h1 with
    | m e q =>
      rename_i A2 kvs
      cases h2 with
      | cons h2 h3 =>
        cases h2 with
        | d h2 =>
          rename_i A2
          have nd := List.nodup_cons.mp c.nd
          refine ⟨kvs, e, q.len, G, _, c.upd (a := a) (o := .dK (putK kvs k w)) List.mem_cons_self, ?_⟩
          exact .cons (A := [a]) (.m upd_same (q.put (fun _ _ e => e) h2)) (owa_to (Same.refl _) h3 fun b hb => upd_ne fun e => nd.1 (e ▸ hb))
end
end Jl

/-! Tactics over entries. -/
namespace Jl
open PySem L2 PySem.Spec PyProof.Rows
theorem pers_nil : ∀ t ∈ ([] : List Tr), Per t := fun _ h => nomatch h
theorem pers_cons {t : Tr} {ts : List Tr} (h : Per t) (g : ∀ t ∈ ts, Per t) : ∀ u ∈ t :: ts, Per u := fun u hu => by
  rcases List.mem_cons.mp hu with rfl | hu
  · exact h
  · exact g u hu
theorem pers_map {α : Type} {e : α → Tr} {l : List α} (h : ∀ x, Per (e x)) : ∀ u ∈ l.map e, Per u := fun u hu => by
  obtain ⟨x, _, rfl⟩ := List.mem_map.mp hu
  exact h x
theorem pers_app {ts us : List Tr} (h : ∀ t ∈ ts, Per t) (g : ∀ t ∈ us, Per t) : ∀ u ∈ ts ++ us, Per u := fun u hu => by
  rcases List.mem_append.mp hu with hu | hu
  · exact h u hu
  · exact g u hu
theorem Tp.cons {Γ : Ents} {v : V} {ts : List Tr} {y : V × Tr} (h : Tp Γ v ts) : Tp (y :: Γ) v ts := by
  cases h with
  | g h => exact .g (List.mem_cons_of_mem _ h)
  | t hp h => exact .t hp (List.mem_cons_of_mem _ h)
theorem Pick.ownE {Γ Γ1 Γ' : Ents} {v : V} {t t' : Tr} (h : Sel (v, t) Γ Γ1) (e : t = t') (p : Pick Γ1 Γ') : Pick Γ ((v, t') :: Γ') := e ▸ .own h p
theorem Uns.id {Γ : Ents} {ts : List Tr} {P : List V → Ents → Prop} (z : Uns ts Γ P) : Uns ts Γ P := z
theorem Ls.gm {α : Type} {Γ : Ents} {v : V} {l : List α} {f : α → PyData} (h : (v, Tr.d (.list (l.map f))) ∈ Γ) : Ls Γ v (l.map fun y => Tr.d (f y)) := by
  have := Ls.g h
  rw [List.map_map] at this
  exact this
end Jl
namespace Jl
open PySem L2 PySem.Spec PyProof.Rows
/-- displays and copies that stay own -/
def tLstO (t : TA) : TE := tLst t
theorem pe_lstO {X : Cx} {e : Expr} {ta : TA} (h : PE X e (tLst ta)) : PE X e (tLstO ta) := h
def rListOw (K : PySem.W.Frag) : List V → Hp → VK → Prop := rListO K
theorem cl_listOw {X : Cx} : CallR X (.type "list") (rListOw X.K) := cl_listO
section
variable {K : PySem.W.Frag} {B H H' : Hp} {Γ Γ' Γ1 : Ents} {v u w : V} {t s : Tr} {x : PyData} {a p : Addr} {vs xs : List V} {ts us : List Tr} {Q : VK} {σ : L2.St}
theorem Ls.pers (h : Ls Γ v ts) : ∀ t ∈ ts, Per t := by
  cases h with
  | g _ => exact per_ds _
  | o h _ => exact h
  | f h _ => exact h
theorem Its.pers (h : Its Γ xs ts) : ∀ t ∈ ts, Per t := by
  induction h with
  | nil => exact pers_nil
  | cons h _ ih =>
    refine pers_cons ?_ ih
    cases h with
    | sc _ => exact .d _
    | mem h _ => exact h
    | weak _ _ _ => exact .d _
theorem Fz.per {ts : List Tr} (h : ∀ t ∈ ts, Per t) : Fz (.l ts) (.f ts) := .l rfl fun i t u h1 h2 => by
  rw [h1] at h2
  cases h2
  exact .p (h t (List.mem_of_getElem? h1))
def TupK (Q : VK) : List V → Hp → Prop := fun xs H => xs.length ≤ sizeLine ∧ ∀ p, H p = none → Q (.ref p) (upd H p (.tup xs))
def LstK (Q : VK) : List V → Hp → Prop := fun xs H => xs.length ≤ sizeLine ∧ ∀ p, H p = none → Q (.ref p) (upd H p (.lst xs))
def LstKo (Q : VK) : List V → Hp → Prop := LstK Q
theorem s_tupK {t : TA} (z : t σ H (TupK Q)) : tTup t σ H Q := z
theorem s_lstK {t : TA} (z : t σ H (LstK Q)) : tLst t σ H Q := z
theorem s_lstKo {t : TA} (z : t σ H (LstKo Q)) : tLstO t σ H Q := z
theorem s_tupF (R : Rep K B H Γ) (hI : Its Γ xs ts) (hl : xs.length ≤ 100000) (z : ∀ p H', Rep K B H' ((.ref p, .t ts) :: Γ) → Q (.ref p) H') : TupK Q xs H := s_tupR R hI hl z
/-- displays of own things -/
theorem s_tupOw {Δ : Ents} (R : Rep K B H Γ) (hP : Pick Γ (Δ ++ Γ')) (e : xs = Δ.map (·.1)) (hl : xs.length ≤ 100000) (z : ∀ p H', Rep K B H' ((.ref p, .t (Δ.map (·.2))) :: Γ') → Q (.ref p) H') : TupK Q xs H := s_tupO R hP e hl z
theorem s_lstOw {Δ : Ents} (R : Rep K B H Γ) (hP : Pick Γ (Δ ++ Γ')) (e : xs = Δ.map (·.1)) (hl : xs.length ≤ 100000) (z : ∀ p H', Rep K B H' ((.ref p, .l (Δ.map (·.2))) :: Γ') → Q (.ref p) H') : LstK Q xs H := s_lstO R hP e hl z
variable {v1 v2 v3 v4 v5 : V} {t1 t2 t3 t4 t5 : Tr}
theorem s_tup2 (R : Rep K B H Γ) (hP : Pick Γ ((v1, t1) :: (v2, t2) :: Γ')) (z : ∀ p H', Rep K B H' ((.ref p, .t [t1, t2]) :: Γ') → Q (.ref p) H') : TupK Q [v1, v2] H := s_tupO (Δ := [(v1, t1), (v2, t2)]) R hP rfl (by show 2 ≤ _; decide) z
theorem s_tup3 (R : Rep K B H Γ) (hP : Pick Γ ((v1, t1) :: (v2, t2) :: (v3, t3) :: Γ')) (z : ∀ p H', Rep K B H' ((.ref p, .t [t1, t2, t3]) :: Γ') → Q (.ref p) H') : TupK Q [v1, v2, v3] H := s_tupO (Δ := [(v1, t1), (v2, t2), (v3, t3)]) R hP rfl (by show 3 ≤ _; decide) z
theorem s_tup4 (R : Rep K B H Γ) (hP : Pick Γ ((v1, t1) :: (v2, t2) :: (v3, t3) :: (v4, t4) :: Γ')) (z : ∀ p H', Rep K B H' ((.ref p, .t [t1, t2, t3, t4]) :: Γ') → Q (.ref p) H') : TupK Q [v1, v2, v3, v4] H := s_tupO (Δ := [(v1, t1), (v2, t2), (v3, t3), (v4, t4)]) R hP rfl (by show 4 ≤ _; decide) z
theorem s_tup5 (R : Rep K B H Γ) (hP : Pick Γ ((v1, t1) :: (v2, t2) :: (v3, t3) :: (v4, t4) :: (v5, t5) :: Γ')) (z : ∀ p H', Rep K B H' ((.ref p, .t [t1, t2, t3, t4, t5]) :: Γ') → Q (.ref p) H') : TupK Q [v1, v2, v3, v4, v5] H := s_tupO (Δ := [(v1, t1), (v2, t2), (v3, t3), (v4, t4), (v5, t5)]) R hP rfl (by show 5 ≤ _; decide) z
/-- a tuple + a tuple, own things in them -/
theorem s_catT (R : Rep K B H Γ) (h1 : Sel (v, .t ts) Γ Γ1) (h2 : Sel (w, .t us) Γ1 Γ') (z : ∀ p H', Rep K B H' ((.ref p, .t (ts ++ us)) :: Γ') → Q (.ref p) H') (n1 : ts ≠ []) (n2 : us ≠ []) (hl : ts.length + us.length ≤ 100000) : rCatT K v w H Q := by
  obtain ⟨a, Es, rfl, q1, e1, R1⟩ := (R.sel h1).openT
  have R2 : Rep K B H (Es ++ Γ1) := R1.drop
  have R2 := (R2.perm (List.Perm.append_left Es h2.perm)).perm List.perm_middle
  obtain ⟨b, Fs, rfl, q2, e2, R3⟩ := R2.openT
  have R4 : Rep K B H (Fs ++ (Es ++ Γ')) := R3.drop
  have m1 : Es.map (·.1) ≠ [] := fun h => n1 (List.eq_nil_of_length_eq_zero (by rw [← es_len e1, h]; rfl))
  have m2 : Fs.map (·.1) ≠ [] := fun h => n2 (List.eq_nil_of_length_eq_zero (by rw [← es_len e2, h]; rfl))
  refine ⟨a, b, _, _, rfl, rfl, .inl (.inl q1), .inl (.inl q2), m1, small5 (by rw [es_len e1, es_len e2]; exact hl), fun h => absurd h m2, fun _ p np => z p _ ?_⟩
  have R5 : Rep K B H ((Es ++ Fs) ++ Γ') := by
    rw [← List.append_assoc] at R4
    exact R4.perm (List.Perm.append_right _ List.perm_append_comm)
  have R6 := R5.newT np
  rw [List.map_append, List.map_append, e1, e2] at R6
  exact R6
def RevK (K : PySem.W.Frag) (Q : VK) : VK := fun v H => ∃ a xs, v = .ref a ∧ SqL K H a xs ∧ ∀ p, H p = none → Q (.ref p) (upd H p (.lst xs.reverse))
theorem s_lstOwn (R : Rep K B H Γ) (hI : Its Γ xs ts) (hl : xs.length ≤ 100000) (z : ∀ p H', Rep K B H' ((.ref p, .l ts) :: Γ) → Q (.ref p) H') : LstKo Q xs H := s_lstR R hI hl z
theorem s_lstF (R : Rep K B H Γ) (hI : Its Γ xs ts) (hl : xs.length ≤ 100000) (z : ∀ p H', Rep K B H' ((.ref p, .f ts) :: Γ) → Q (.ref p) H') : LstK Q xs H :=
  s_lstR R hI hl fun p H' R => z p H' (R.freeze (Fz.per hI.pers))
theorem s_catF (R : Rep K B H Γ) (h1 : Ls Γ v ts) (h2 : Ls Γ w us) (hl : ts.length + us.length ≤ 100000) (z : ∀ p H', Rep K B H' ((.ref p, .f (ts ++ us)) :: Γ) → Q (.ref p) H') : rCatS K v w H Q :=
  s_catR R h1 h2 hl fun p H' R => z p H' (R.freeze (Fz.per (pers_app h1.pers h2.pers)))
theorem s_listF (R : Rep K B H Γ) (h1 : Ls Γ v ts) (z : ∀ p H', Rep K B H' ((.ref p, .f ts) :: Γ) → Q (.ref p) H') : rListO K [v] H Q :=
  s_listR R h1 fun p H' R => z p H' (R.freeze (Fz.per h1.pers))
theorem s_listOw (R : Rep K B H Γ) (h1 : Ls Γ v ts) (z : ∀ p H', Rep K B H' ((.ref p, .l ts) :: Γ) → Q (.ref p) H') : rListOw K [v] H Q := s_listR R h1 z
theorem s_slF {lo hi : Option Int} (R : Rep K B H Γ) (h1 : Ls Γ v ts) (z : ∀ p H', Rep K B H' ((.ref p, .f (cutTr ts lo hi)) :: Γ) → Q (.ref p) H') : rSlL K v lo hi H Q :=
  s_slR R h1 fun p H' R => z p H' (R.freeze (Fz.per fun t ht => h1.pers t (List.mem_of_mem_drop (List.mem_of_mem_take ht))))
theorem s_revF (R : Rep K B H Γ) (h1 : Ls Γ v ts) (z : ∀ p H', Rep K B H' ((.ref p, .f ts.reverse) :: Γ) → Q (.ref p) H') : RevK K Q v H := by
  have hp := h1.pers
  obtain ⟨a, Es, rfl, q1, e1, R⟩ := R.ld h1
  refine ⟨a, _, rfl, q1, fun p np => z p _ ?_⟩
  rw [← List.map_reverse]
  refine Rep.freeze (Rep.newE (ts := ts.reverse) (R.perm (List.Perm.append_right _ (List.reverse_perm Es).symm)) (by rw [List.map_reverse, e1]) np) (Fz.per fun t ht => hp t (List.mem_reverse.mp ht))
theorem cutTr_from {α : Type} (ts : List α) (m : Nat) (h : m ≤ ts.length) : cutTr ts (some (m : Int)) none = ts.drop m := by
  unfold cutTr
  rw [HT.sIx_nat, HT.sIx_none, Nat.min_eq_left h]
  exact List.take_of_length_le (by rw [List.length_drop]; omega)
theorem cutTr_to {α : Type} (ts : List α) (m : Nat) (h : m ≤ ts.length) : cutTr ts none (some (m : Int)) = ts.take m := by
  unfold cutTr
  rw [HT.sIx_nat, HT.sIx_none, Nat.min_eq_left h, List.drop_zero, Nat.sub_zero]
theorem cutTr_tl {α : Type} (ts : List α) : cutTr ts (some 1) none = ts.drop 1 := by
  cases ts with
  | nil => rfl
  | cons x xs => exact cutTr_from (x :: xs) 1 (by rw [List.length_cons]; omega)
theorem s_forR {D : Ends} {ta : TA} {g : TG} {tu : TS} (z : ta σ H fun vs H1 => iRng1 (fun _ H Q => Q vs H) σ H1 fun J H2 => tFor (fun _ H Q => Q J H) g tu D σ H2) : tFor (iRng1 ta) g tu D σ H := z
end
end Jl
namespace Jl
open PySem L2 PySem.Spec PyProof.Rows
/-- an assignment at which the walk stops -/
def tAsgK (te : TE) (g : TG) : TS := tAsg te g
theorem ps_setK {X : Cx} {st : Stmt} {te : TE} {g : TG} (h : PS X st (tAsg te g)) : PS X st (tAsgK te g) := h
section
variable {K : PySem.W.Frag} {B H : Hp} {Γ Γ' : Ents} {σ : L2.St} {nx bk ct : L2.St → Hp → Prop} {rt : VK} {te : TE}
theorem s_asgI {k : Nat} (P : Int → Prop) (w : ∀ Q : VK, (∀ n H', P n → Rep K B H' Γ → Q (.int n) H') → te σ H Q) (z : ∀ n H', P n → Rep K B H' Γ → nx (σ.set k (some (.int n))) H') : tAsgK te (gName k) ⟨nx, rt, bk, ct⟩ σ H := w _ z
theorem s_asgS {k : Nat} (P : Str → Prop) (w : ∀ Q : VK, (∀ n H', P n → Rep K B H' Γ → Q (.str n) H') → te σ H Q) (z : ∀ n H', P n → Rep K B H' Γ → nx (σ.set k (some (.str n))) H') : tAsgK te (gName k) ⟨nx, rt, bk, ct⟩ σ H := w _ z
theorem s_asgE {k : Nat} (M : V → Ents → Prop) (w : ∀ Q : VK, (∀ v H' Γ', Rep K B H' Γ' → M v Γ' → Q v H') → te σ H Q) (z : ∀ v H' Γ', Rep K B H' Γ' → M v Γ' → nx (σ.set k (some v)) H') : tAsgK te (gName k) ⟨nx, rt, bk, ct⟩ σ H := w _ z
end
theorem mod3 (n : Int) : n % 3 = 0 ∨ n % 3 = 1 ∨ n % 3 = 2 := by omega
theorem mod5 (n : Int) : n % 5 = 0 ∨ n % 5 = 1 ∨ n % 5 = 2 ∨ n % 5 = 3 ∨ n % 5 = 4 := by omega
theorem mod2 (n : Int) : n % 2 = 0 ∨ n % 2 = 1 := by omega
end Jl
namespace Jl
open PySem L2 PySem.Spec PyProof.Rows
/-- a test by its meaning -/
theorem s_ifP {K : PySem.W.Frag} {B H : Hp} {Γ : Ents} {σ : L2.St} {D : Ends} {tt : TT} {ts tu : TS} (P : Prop) (ht : ∀ T : Bool → Hp → Prop, (P → ∀ H', Rep K B H' Γ → T true H') → (¬ P → ∀ H', Rep K B H' Γ → T false H') → tt σ H T)
    (h1 : P → ∀ H', Rep K B H' Γ → ts D σ H') (h2 : ¬ P → ∀ H', Rep K B H' Γ → tu D σ H') : tIfK tt ts tu D σ H :=
  ht _ (fun p H' R => s_iteT (h1 p H' R)) (fun p H' R => s_iteF (h2 p H' R))
end Jl

/-! Wholes read from texts. -/
namespace Jl
open PySem L2 PySem.Spec PyProof.Rows
def intT (i : Int) : Tr := .d (.int i)
def partT (p : Part) : Tr := .t [.d (.int p.1), .l (p.2.map intT)]
def leanT (l : Lea) : Tr := .t [.d (.int l.1), .d (.str l.2.1), .d (.int l.2.2)]
structure RS where
  parts : List Part
  leans : List Lea
def hwT (s z e : Int) (st : RS) : Tr := .t [.d (.int s), .d (.int z), .d (.int e), .l (st.parts.map partT), .l (st.leans.map leanT)]
theorem trds_map {α : Type} {e : α → Tr} {f : α → PyData} (h : ∀ x, TrD (e x) (f x)) : ∀ l : List α, TrDs (l.map e) (l.map f)
  | [] => .nil
  | x :: l => .cons (h x) (trds_map h l)
theorem intT_d (i : Int) : TrD (intT i) (.int i) := .d _
theorem partT_d (p : Part) : TrD (partT p) (partD p) := TrDs.t (.cons (.d _) (.cons (TrDs.l (trds_map intT_d _)) .nil))
theorem leanT_d (p : Lea) : TrD (leanT p) (leanD p) := TrDs.t (.cons (.d _) (.cons (.d _) (.cons (.d _) .nil)))
theorem leanT_per (p : Lea) : Per (leanT p) := .t (pers_cons (.d _) (pers_cons (.d _) (pers_cons (.d _) pers_nil)))
theorem intT_per (i : Int) : Per (intT i) := .d _
theorem parts_d (ps : List Part) : TrD (.l (ps.map partT)) (.list (ps.map partD)) := TrDs.l (trds_map partT_d ps)
theorem leans_d (ps : List Lea) : TrD (.l (ps.map leanT)) (.list (ps.map leanD)) := TrDs.l (trds_map leanT_d ps)
theorem hwT_d (s z e : Int) (st : RS) : TrD (hwT s z e st) (whD ⟨s, z, e, st.parts, st.leans⟩) := TrDs.t (.cons (.d _) (.cons (.d _) (.cons (.d _) (.cons (parts_d _) (.cons (leans_d _) .nil)))))
/-! what the reader does -/
def andI (a b : Int) : Int := Builtin.bitAnd a b
def stepOf (z : Str) : Option Int := match numOf z.cps.toList 1 65536 with
  | none => none
  | some s => if andI s (s - 1) = 0 then some s else none
def headsOf (row : List Str) : Option (Int × Int × Int) :=
  if row.length = 4 ∧ row.getD 0 "" = "whole" then
    match stepOf (row.getD 1 ""), numOf (row.getD 2 "").cps.toList 0 4294967295 with
    | some s, some z => (numOf (row.getD 3 "").cps.toList 0 z).map fun e => (s, z, e)
    | _, _ => none
  else none
def addW (ps : List Part) (w : Int) : List Part := match ps.getLast? with
  | none => ps
  | some p => ps.dropLast ++ [(p.1, p.2 ++ [w])]
theorem addW_app (ps : List Part) (p : Part) (w : Int) : addW (ps ++ [p]) w = ps ++ [(p.1, p.2 ++ [w])] := by
  unfold addW
  rw [List.getLast?_append]
  show (ps ++ [p]).dropLast ++ _ = _
  rw [List.dropLast_concat]
  rfl
def putPart (size : Int) (ps : List Part) (row : List Str) : Option (List Part) := if row.length = 2 then (numOf (row.getD 1 "").cps.toList (endOf ps) size).map fun pl => ps ++ [(pl, [])] else none
def putWord (size : Int) (ps : List Part) (row : List Str) : Option (List Part) := if row.length = 2 ∧ ps ≠ [] ∧ endOf ps < size then (numOf (row.getD 1 "").cps.toList 0 4294967295).map fun w => addW ps w else none
instance (t : Str) : Decidable (isRule t) := by unfold isRule; infer_instance
def putLean (ps : List Part) (ls : List Lea) (row : List Str) : Option (List Lea) := if row.length = 3 ∧ isRule (row.getD 1 "") then (numOf (row.getD 2 "").cps.toList (-9999999999) 9999999999).map fun t => ls ++ [(endOf ps - 1, row.getD 1 "", t)] else none
def putRow (size : Int) (st : RS) (row prev : List Str) : Option RS :=
  if row.getD 0 "" = "part" then (putPart size st.parts row).map fun ps => ⟨ps, st.leans⟩
  else if row.getD 0 "" = "word" then (putWord size st.parts row).map fun ps => ⟨ps, st.leans⟩
  else if row.getD 0 "" = "lean" then (if prev.getD 0 "" = "word" then (putLean st.parts st.leans row).map fun ls => ⟨st.parts, ls⟩ else none)
  else none
def readN (size : Int) (rows : List (List Str)) : Nat → Option RS
  | 0 => some ⟨[], []⟩
  | n + 1 => (readN size rows n).bind fun st => putRow size st (rows.getD (n + 1) []) (rows.getD n [])
def rowsOf (text : Str) : List (List Str) := (Txt.split text "\n").map fun row => Txt.split row " "
section
variable {K : PySem.W.Frag} {B H H' : Hp} {Γ : Ents} {P L : Addr} {Q : VK}
/-- the last part: what stands where, and what becomes of it -/
theorem Rep.lastPart {ps : List Part} {p : Part} (R : Rep K B H ((.ref P, .l ((ps ++ [p]).map partT)) :: Γ)) : ∃ xs t W ws, H P = some (.lst (xs ++ [.ref t])) ∧ H t = some (.tup [.int p.1, .ref W]) ∧ H W = some (.lst ws) ∧ ws.length = p.2.length ∧
    ∀ w : Int, Rep K B (upd H W (.lst (ws ++ [.int w]))) ((.ref P, .l ((ps ++ [(p.1, p.2 ++ [w])]).map partT)) :: Γ) := by
  obtain ⟨xs, e1, e2, f⟩ := R.itemL
  have el : xs.length = ps.length + 1 := by rw [e2, List.length_map, List.length_append]; rfl
  obtain ⟨xs0, x, rfl⟩ : ∃ xs0 x, xs = xs0 ++ [x] := by
    rcases List.eq_nil_or_concat xs with rfl | ⟨a, b, rfl⟩
    · cases el
    · exact ⟨a, b, List.concat_eq_append⟩
  have el0 : xs0.length = ps.length := by rw [List.length_append] at el; exact Nat.succ.inj el
  have hx : (xs0 ++ [x])[ps.length]? = some x := by rw [← el0, List.getElem?_append_right (Nat.le_refl _), Nat.sub_self]; rfl
  have hp : ((ps ++ [p]).map partT)[ps.length]? = some (partT p) := by rw [List.map_append, List.getElem?_append_right (by rw [List.length_map]; exact Nat.le_refl _), List.length_map, Nat.sub_self]; rfl
  have R1 := f ps.length x _ hx hp
  obtain ⟨t, Es, rfl, q1, q2, R2⟩ := R1.openT
  match Es, q2 with
  | [(v1, _), (v2, _)], rfl =>
    have R2 : Rep K B H ((.ref t, .t [.h v1, .h v2]) :: (v1, .d (.int p.1)) :: (v2, .l (p.2.map intT)) :: (.ref P, .l (((ps ++ [p]).map partT).set ps.length (.h (.ref t)))) :: Γ) := R2
    have ev1 : v1 = .int p.1 := by
      have R3 := R2.pick (Γ' := (v1, .d (.int p.1)) :: []) (.tail (.own .head .nil))
      exact Qv.use (P := fun v => v = .int p.1) (.sc rfl (.int _) fun _ => rfl) R3
    subst ev1
    have R3 := R2.pick (Γ' := (v2, .l (p.2.map intT)) :: (.ref t, .t [.h (.int p.1), .h v2]) :: (.ref P, .l (((ps ++ [p]).map partT).set ps.length (.h (.ref t)))) :: Γ) (.own (.tail (.tail .head)) (.own .head (.own (.tail .head) (.tail .refl))))
    obtain ⟨W, rfl⟩ : ∃ W, v2 = .ref W := by
      obtain ⟨G, A, c, g⟩ := R3
      cases g with
      | cons h1 _ => cases h1 with | l _ _ => exact ⟨_, rfl⟩
    obtain ⟨ws, w1, w2⟩ := R3.vals
    refine ⟨xs0, t, W, ws, e1, q1, w1, by rw [w2, List.length_map], fun w => ?_⟩
    have R4 := R3.pick (Γ' := (.ref W, .l (p.2.map intT)) :: (.int w, .d (.int w)) :: (.ref t, .t [.h (.int p.1), .h (.ref W)]) :: (.ref P, .l (((ps ++ [p]).map partT).set ps.length (.h (.ref t)))) :: Γ) (.own .head (.scal (.int _) .refl))
    obtain ⟨ws', w3, w4, R5⟩ := R4.append
    rw [w1] at w3
    cases w3
    have R6 := (R5.pick (Γ' := (.int p.1, .d (.int p.1)) :: (.ref t, .t [.h (.int p.1), .h (.ref W)]) :: (.ref W, .l (p.2.map intT ++ [.d (.int w)])) :: (.ref P, .l (((ps ++ [p]).map partT).set ps.length (.h (.ref t)))) :: Γ) (.scal (.int _) (.own (.tail .head) (.own .head .refl)))).fillT 0 rfl
    have R7 := (R6.pick (Γ' := (.ref W, .l (p.2.map intT ++ [.d (.int w)])) :: (.ref t, .t [.d (.int p.1), .h (.ref W)]) :: (.ref P, .l (((ps ++ [p]).map partT).set ps.length (.h (.ref t)))) :: Γ) (.own (.tail .head) (.own .head .refl))).fillT 1 rfl
    have R8 := R7.fillL ps.length (by rw [List.getElem?_set_self (by rw [List.length_map, List.length_append]; exact Nat.lt_succ_self _)])
    rw [List.set_set] at R8
    have e9 : ((ps ++ [p]).map partT).set ps.length (.t [.d (.int p.1), .l (p.2.map intT ++ [.d (.int w)])]) = (ps ++ [(p.1, p.2 ++ [w])]).map partT := by
      rw [List.map_append, List.map_append, List.set_append_right _ _ (by rw [List.length_map]; exact Nat.le_refl _), List.length_map, Nat.sub_self]
      have e10 : partT (p.1, p.2 ++ [w]) = .t [.d (.int p.1), .l (p.2.map intT ++ [.d (.int w)])] := by
        show Tr.t [_, .l ((p.2 ++ [w]).map intT)] = _
        rw [List.map_append]; rfl
      show _ = _ ++ [partT (p.1, p.2 ++ [w])]
      rw [e10]; rfl
    rw [← e9]
    exact R8
end
end Jl
namespace Jl
open PySem L2 PySem.Spec PyProof.Rows
def strT (z : Str) : Tr := .d (.str z)
theorem strT_per (z : Str) : Per (strT z) := .d _
theorem optI_none : optI none = V.non := rfl
theorem optI_some (i : Int) : optI (some i) = V.int i := rfl
theorem len4 {α : Type} {l : List α} (h : l.length = 4) : ∃ a b c d, l = [a, b, c, d] := by
  match l, h with
  | [a, b, c, d], _ => exact ⟨a, b, c, d, rfl⟩
theorem len3 {α : Type} {l : List α} (h : l.length = 3) : ∃ a b c, l = [a, b, c] := by
  match l, h with
  | [a, b, c], _ => exact ⟨a, b, c, rfl⟩
theorem len2 {α : Type} {l : List α} (h : l.length = 2) : ∃ a b, l = [a, b] := by
  match l, h with
  | [a, b], _ => exact ⟨a, b, rfl⟩
section
variable {K : PySem.W.Frag} {B H H' : Hp} {Γ Γ' : Ents} {P L : Addr} {Q : VK} {v w : V} {ts : List Tr} {t : Tr}
theorem Ls.per (h : Ls Γ v ts) (f : ∀ e ∈ Γ, e ∈ Γ') : Ls Γ' v ts := by
  cases h with
  | g h => exact .g (f _ h)
  | o hp h => exact .o hp (f _ h)
  | f hp h => exact .f hp (f _ h)
/-- xs == [], [] made on the way -/
theorem s_eqNilR {ds : List PyData} (R : Rep K B H Γ) (h : (v, t) ∈ Γ) (T : TrD t (.list ds)) (hs : SeqAt.shaped (.list ds) = true) (h2 : Ls Γ w []) (z : Q (.bl (decide (ds = []))) H) : rEqD K v w H Q := by
  obtain ⟨a, Es, rfl, q, e, -⟩ := R.ld h2
  have e : Es = [] := List.map_eq_nil_iff.mp e
  subst e
  refine ⟨_, .list [], R.dp h T, .lst q .nil, hs, by decide +kernel, ?_⟩
  cases ds with
  | nil => exact z
  | cons d ds => exact z
theorem s_neNilR {ds : List PyData} (R : Rep K B H Γ) (h : (v, t) ∈ Γ) (T : TrD t (.list ds)) (hs : SeqAt.shaped (.list ds) = true) (h2 : Ls Γ w []) (z : Q (.bl (!decide (ds = []))) H) : rNeD K v w H Q := by
  obtain ⟨a, Es, rfl, q, e, -⟩ := R.ld h2
  have e : Es = [] := List.map_eq_nil_iff.mp e
  subst e
  refine ⟨_, .list [], R.dp h T, .lst q .nil, hs, by decide +kernel, ?_⟩
  cases ds with
  | nil => exact z
  | cons d ds => exact z
end
end Jl
namespace Jl
open PySem L2 PySem.Spec PyProof.Rows
section
variable {K : PySem.W.Frag} {B H H' : Hp} {Γ Γ' : Ents} {Q : VK} {v : V} {ss : List Str} {z : Str}
theorem es_strs {Es : Ents} (R : Rep K B H (Es ++ Γ)) (e : Es.map (·.2) = ss.map strT) : Es.map (·.1) = ss.map V.str := by
  induction ss generalizing Es with
  | nil => rw [List.map_eq_nil_iff.mp e]; rfl
  | cons s ss ih =>
    cases Es with
    | nil => cases e
    | cons y Es =>
      obtain ⟨w, t⟩ := y
      have e1 : t = strT s := (List.cons.inj e).1
      have e2 := (List.cons.inj e).2
      subst e1
      have R2 : Rep K B H ((w, strT s) :: (Es ++ Γ)) := R
      have hw : w = .str s := Qv.use (P := fun w => w = .str s) (.sc rfl (.str _) fun _ => rfl) R2
      show w :: _ = _
      rw [ih R2.drop e2, hw]; rfl
theorem Rep.strs (R : Rep K B H Γ) (h : Ls Γ v (ss.map strT)) : ∃ a, v = .ref a ∧ SqL K H a (ss.map V.str) := by
  obtain ⟨a, Es, rfl, q, e, R⟩ := R.ld h
  rw [es_strs R e] at q
  exact ⟨a, rfl, q⟩
theorem s_inR (ss : List Str) (R : Rep K B H Γ) (h : Ls Γ v (ss.map strT)) (k : Q (.bl (decide (z ∈ ss))) H) : rIn K false (.str z) v H Q := by
  obtain ⟨a, rfl, q⟩ := R.strs h
  exact s_inStrs q k
theorem s_notInR (ss : List Str) (R : Rep K B H Γ) (h : Ls Γ v (ss.map strT)) (k : Q (.bl (!decide (z ∈ ss))) H) : rIn K true (.str z) v H Q := by
  obtain ⟨a, rfl, q⟩ := R.strs h
  exact s_notInStrs q k
theorem s_joinR {a : Str} (ss : List Str) (R : Rep K B H Γ) (h : Ls Γ v (ss.map strT)) (hl : (ss.map (·.length)).sum + ss.length * a.length ≤ 16777216) (z : Q (.str (Txt.join a ss)) H) : rJoin K (.str a) [v] H Q := by
  obtain ⟨p, rfl, q⟩ := R.strs h
  exact s_join q hl fun w e => by rw [e]; exact z
/-- s.split(sep), as a list of texts -/
theorem s_splitR {x y : Str} (R : Rep K B H Γ) (hy : (y.length == 0) = false) (hx : x.length + 2 ≤ sizeLine) (z : ∀ p H', Rep K B H' ((.ref p, .f ((Txt.split x y).map strT)) :: Γ) → Q (.ref p) H') : (fun x xs H Q => ∃ a b, x = .str a ∧ xs = [.str b] ∧ (b.length == 0) = false ∧ a.length + 2 ≤ sizeLine ∧ rNewStrs (Txt.split a b) H Q : V → List V → Hp → VK → Prop) (.str x) [.str y] H Q := by
  refine ⟨x, y, rfl, rfl, hy, hx, fun p np => z p _ ?_⟩
  have hI : ∀ ss : List Str, Its Γ (ss.map V.str) (ss.map strT) := fun ss => by
    induction ss with
    | nil => exact .nil
    | cons s ss ih => exact .cons (.sc (.str _)) ih
  have R2 := (R.its (hI (Txt.split x y))).newL np
  rw [zip_fst (hI _).len, zip_snd (hI _).len] at R2
  exact R2.freeze (Fz.per (pers_map strT_per))
end
end Jl
namespace Jl
open PySem L2 PySem.Spec PyProof.Rows
def rwT (r : List Str) : Tr := .f (r.map strT)
theorem rwT_per (r : List Str) : Per (rwT r) := .f (pers_map strT_per)
def rSplit : V → List V → Hp → VK → Prop := fun x xs H Q => ∃ a b, x = .str a ∧ xs = [.str b] ∧ (b.length == 0) = false ∧ a.length + 2 ≤ sizeLine ∧ rNewStrs (Txt.split a b) H Q
theorem mt_splitS {X : Cx} : MtR X "str.split" rSplit := mt_split
section
variable {K : PySem.W.Frag} {B H H' : Hp} {Γ Γ' : Ents} {Q : VK} {v : V} {σ : L2.St} {to te : TE}
theorem s_M1 {r : V → List V → Hp → VK → Prop} (z : to σ H fun x H1 => (∃ a, x = .str a) ∧ te σ H1 fun y H2 => r x [y] H2 Q) : tM1 r to te σ H Q := z
theorem s_isStr {a : Str} {P : Prop} (z : P) : (∃ b, V.str a = .str b) ∧ P := ⟨⟨a, rfl⟩, z⟩
theorem s_splitF {x y : Str} (R : Rep K B H Γ) (hy : (y.length == 0) = false) (hx : x.length ≤ 99998) (z : ∀ p H', Rep K B H' ((.ref p, rwT (Txt.split x y)) :: Γ) → Q (.ref p) H') : rSplit (.str x) [.str y] H Q := s_splitR R hy (small5 (by omega)) z
/-- an item of a typed list -/
theorem s_ixM {α : Type} {e : α → Tr} {l : List α} {k : Nat} {y : α} {j : Int} (R : Rep K B H Γ) (h : Ls Γ v (l.map e)) (hk : l[k]? = some y) (hj : j = (k : Int)) (z : Qv (e y) Γ fun w Γ' => Rep K B H Γ' → Q w H) : rIxL K v (.int j) H Q := by
  subst hj
  exact s_ixR R h (atI_nat (by rw [List.getElem?_map, hk]; rfl)) z
end
theorem spl_ne (S : List Nat) : ∀ (l : List Nat) (k : Nat) (acc : List Nat), TL.spl S k acc l ≠ []
  | [], k, acc => by rw [TL.spl_nil]; exact fun h => nomatch h
  | c :: r, 0, acc => by
    show (if TL.pre S (c :: r) = true then acc :: TL.spl S (S.length - 1) [] r else TL.spl S 0 (acc ++ [c]) r) ≠ []
    split
    · exact fun h => nomatch h
    · exact spl_ne S r 0 _
  | c :: r, k + 1, acc => spl_ne S r k acc
theorem spl_len (S : List Nat) : ∀ (l : List Nat) (k : Nat) (acc p : List Nat), p ∈ TL.spl S k acc l → p.length ≤ acc.length + l.length
  | [], k, acc, p, h => by
    rw [TL.spl_nil] at h
    rw [List.mem_singleton.mp h]; exact Nat.le_add_right _ _
  | c :: r, 0, acc, p, h => by
    have h : p ∈ (if TL.pre S (c :: r) = true then acc :: TL.spl S (S.length - 1) [] r else TL.spl S 0 (acc ++ [c]) r) := h
    rw [List.length_cons]
    split at h
    · rcases List.mem_cons.mp h with rfl | h
      · omega
      · have := spl_len S r _ [] p h
        rw [List.length_nil] at this
        omega
    · have := spl_len S r 0 _ p h
      rw [List.length_append, List.length_singleton] at this
      omega
  | c :: r, k + 1, acc, p, h => by
    have := spl_len S r k acc p h
    rw [List.length_cons]
    omega
theorem split_ne {x y : Str} (hy : TL.tl y ≠ []) (hk : y.cps.all (· < 256) = true) : Txt.split x y ≠ [] := fun h => by
  have := TL.split_spl x y hy (TL.kind_ok hk)
  rw [h] at this
  exact spl_ne _ _ _ _ this.symm
theorem split_len {x y p : Str} (hy : TL.tl y ≠ []) (hk : y.cps.all (· < 256) = true) (h : p ∈ Txt.split x y) : p.length ≤ x.length := by
  have := TL.split_spl x y hy (TL.kind_ok hk)
  have h2 : TL.tl p ∈ (Txt.split x y).map TL.tl := List.mem_map.mpr ⟨p, h, rfl⟩
  rw [this] at h2
  have := spl_len _ _ _ _ _ h2
  rw [List.length_nil, Nat.zero_add] at this
  exact this
theorem put_len {z : Int} {st st' : RS} {r q : List Str} (h : putRow z st r q = some st') {n : Nat} (h1 : st.parts.length ≤ n) (h2 : st.leans.length ≤ n) (h3 : ∀ p ∈ st.parts, p.2.length ≤ n) : st'.parts.length ≤ n + 1 ∧ st'.leans.length ≤ n + 1 ∧ ∀ p ∈ st'.parts, p.2.length ≤ n + 1 := by
  have aw : ∀ w : Int, (addW st.parts w).length ≤ n + 1 ∧ ∀ p ∈ addW st.parts w, p.2.length ≤ n + 1 := fun w => by
    rcases List.eq_nil_or_concat st.parts with e | ⟨ps, p, e⟩
    · rw [e]
      exact ⟨Nat.zero_le _, fun _ h => nomatch h⟩
    · rw [List.concat_eq_append] at e
      rw [e] at h1 h3 ⊢
      rw [addW_app]
      rw [List.length_append, List.length_singleton] at h1 ⊢
      refine ⟨by omega, fun q hq => ?_⟩
      rcases List.mem_append.mp hq with hq | hq
      · exact Nat.le_succ_of_le (h3 q (List.mem_append_left _ hq))
      · rw [List.mem_singleton.mp hq]
        show (p.2 ++ [w]).length ≤ _
        rw [List.length_append, List.length_singleton]
        have := h3 p (by simp)
        omega
  unfold putRow at h
  split at h
  · unfold putPart at h
    split at h
    · cases e : numOf (r.getD 1 "").cps.toList (endOf st.parts) z with
      | none => rw [e] at h; cases h
      | some pl =>
        rw [e] at h
        cases h
        refine ⟨by show (_ ++ [_]).length ≤ _; rw [List.length_append, List.length_singleton]; omega, Nat.le_succ_of_le h2, fun p hp => ?_⟩
        rcases List.mem_append.mp hp with hp | hp
        · exact Nat.le_succ_of_le (h3 p hp)
        · rw [List.mem_singleton.mp hp]; exact Nat.zero_le _
    · cases h
  · split at h
    · unfold putWord at h
      split at h
      · cases e : numOf (r.getD 1 "").cps.toList 0 4294967295 with
        | none => rw [e] at h; cases h
        | some w =>
          rw [e] at h
          cases h
          exact ⟨(aw w).1, Nat.le_succ_of_le h2, (aw w).2⟩
      · cases h
    · split at h
      · split at h
        · unfold putLean at h
          split at h
          · cases e : numOf (r.getD 2 "").cps.toList (-9999999999) 9999999999 with
            | none => rw [e] at h; cases h
            | some w =>
              rw [e] at h
              cases h
              exact ⟨Nat.le_succ_of_le h1, by show (_ ++ [_]).length ≤ _; rw [List.length_append, List.length_singleton]; omega, fun p hp => Nat.le_succ_of_le (h3 p hp)⟩
          · cases h
        · cases h
      · cases h
theorem readN_len {z : Int} {rows : List (List Str)} : ∀ {n : Nat} {st : RS}, readN z rows n = some st → st.parts.length ≤ n ∧ st.leans.length ≤ n ∧ ∀ p ∈ st.parts, p.2.length ≤ n
  | 0, st, h => by
    cases h
    exact ⟨Nat.le_refl _, Nat.le_refl _, fun _ h => nomatch h⟩
  | n + 1, st, h => by
    have h : (readN z rows n).bind (fun st => putRow z st (rows.getD (n + 1) []) (rows.getD n [])) = some st := h
    cases e : readN z rows n with
    | none => rw [e] at h; cases h
    | some s0 =>
      rw [e] at h
      obtain ⟨a, b, c⟩ := readN_len e
      exact put_len h a b c
end Jl
namespace Jl
open PySem L2 PySem.Spec PyProof.Rows
theorem rowsOf_ok (text : Str) (h : text.length ≤ 40000) : rowsOf text ≠ [] ∧ (rowsOf text).length ≤ 40002 ∧ ∀ r ∈ rowsOf text, r ≠ [] ∧ ∀ p ∈ r, p.length ≤ 40000 := by
  have y1 : TL.tl ("\n" : Str) ≠ [] := by decide +kernel
  have y2 : TL.tl (" " : Str) ≠ [] := by decide +kernel
  have k1 : ("\n" : Str).cps.all (· < 256) = true := by decide +kernel
  have k2 : (" " : Str).cps.all (· < 256) = true := by decide +kernel
  refine ⟨fun e => split_ne (x := text) y1 k1 (List.map_eq_nil_iff.mp e), ?_, fun r hr => ?_⟩
  · unfold rowsOf
    rw [List.length_map]
    have := PyProof.Rows.split_le text "\n"
    omega
  · obtain ⟨x, hx, rfl⟩ := List.mem_map.mp hr
    have h1 := split_len y1 k1 hx
    exact ⟨split_ne y2 k2, fun p hp => Nat.le_trans (split_len y2 k2 hp) (by omega)⟩
end Jl
namespace Jl
open PySem L2 PySem.Spec PyProof.Rows
section
variable {K : PySem.W.Frag} {B H : Hp} {Γ : Ents} {Q : VK} {a : Addr} {ns : List Int}
theorem its_ints : ∀ ms : List Int, Its Γ (ms.map V.int) (ms.map intT)
  | [] => .nil
  | m :: ms => .cons (.sc (.int m)) (its_ints ms)
/-- a slice of the script -/
theorem s_slI {lo hi : Option Int} (R : Rep K B H Γ) (hS : SqL K B a (ns.map V.int)) (z : ∀ ms : List Int, ms = (ns.drop (HT.sIx ns.length 0 lo)).take (HT.sIx ns.length ns.length hi - HT.sIx ns.length 0 lo) → ms.length ≤ ns.length → ∀ p H', Rep K B H' ((.ref p, .f (ms.map intT)) :: Γ) → Q (.ref p) H') : rSlL K (.ref a) lo hi H Q := by
  refine ⟨a, _, rfl, R.base.seq hS, fun p np => ?_⟩
  have e : cutV (ns.map V.int) lo hi = ((ns.drop (HT.sIx ns.length 0 lo)).take (HT.sIx ns.length ns.length hi - HT.sIx ns.length 0 lo)).map V.int := by
    unfold cutV
    rw [List.length_map, List.map_take, List.map_drop]
  rw [e]
  refine z _ rfl (by rw [List.length_take, List.length_drop]; omega) p _ ?_
  have R2 := (R.its (its_ints ((ns.drop (HT.sIx ns.length 0 lo)).take (HT.sIx ns.length ns.length hi - HT.sIx ns.length 0 lo)))).newL np
  rw [zip_fst (its_ints (Γ := Γ) _).len, zip_snd (its_ints (Γ := Γ) _).len] at R2
  exact R2.freeze (Fz.per (pers_map intT_per))
theorem s_scr (R : Rep K B H Γ) (hS : SqL K B a (ns.map V.int)) : SqL K H a (ns.map V.int) := R.base.seq hS
end
end Jl
namespace Jl
open PySem L2 PySem.Spec PyProof.Rows
section
variable {K : PySem.W.Frag} {B H H' : Hp} {Γ Γ' : Ents} {Q : VK} {v w : V} {x y : PyData} {ts us : List Tr} {t : Tr} {σ : L2.St} {g : TG} {tl te : TE} {tt : TT} {tu : TS} {nx bk ct : L2.St → Hp → Prop} {rt : VK}
theorem Rep.addB (R : Rep K B H Γ) (h : Dp K B v x) : Rep K B H ((v, .d x) :: Γ) := by
  obtain ⟨G, A, c, g⟩ := R
  exact ⟨G, _, c, OwA.cons (A := []) (.d (dp_same c.base h)) g⟩
theorem tyX_tup' {K : PySem.W.Frag} {H : Hp} {a : Addr} {xs : List V} (h : SqT K H a xs) : TyX K H (.ref a) (.type "tuple") := by
  rcases h with (h | ⟨o, h⟩) | h
  · exact .base (.tup h)
  · exact .fTuple h
  · obtain ⟨o, its, n, hk, hc, -⟩ := h
    exact .kTuple hk hc
theorem Rep.isLst (R : Rep K B H Γ) (h : (v, .l ts) ∈ Γ) : ∃ a, v = .ref a := by
  obtain ⟨Γ1, p⟩ := perm_mem h
  obtain ⟨G, A, c, g⟩ := R.perm p
  cases g with
  | cons h1 _ => cases h1 with | l _ _ => exact ⟨_, rfl⟩
theorem s_isiT {cn : String} {k : Bool} (R : Rep K B H Γ) (h : Tp Γ v ts) (hk : kitB "tuple" cn = some k) (z : Q (.bl k) H) : rIsi K [v, .ty cn] H Q := by
  obtain ⟨a, Es, rfl, q, -, -⟩ := R.tp h
  exact s_isi (tyX_tup' q) (kit_ty hk) z
theorem s_isiL {cn : String} {k : Bool} (R : Rep K B H Γ) (h : (v, .l ts) ∈ Γ) (hk : kitB "list" cn = some k) (z : Q (.bl k) H) : rIsi K [v, .ty cn] H Q := by
  obtain ⟨a, rfl⟩ := R.isLst h
  obtain ⟨Γ1, p⟩ := perm_mem h
  obtain ⟨vs, e, _⟩ := (R.perm p).vals
  exact s_isi (.base (.lst e)) (kit_ty hk) z
/-- comparisons of what is the same data -/
theorem s_neR (R : Rep K B H Γ) (h1 : Dp K H v x) (h2 : Dp K H w x) (hs : SeqAt.shaped x = true) (z : Q (.bl false) H) : rNeD K v w H Q := s_neSame h1 h2 hs z
theorem s_slT {lo hi : Option Int} (R : Rep K B H Γ) (h1 : Tp Γ v ts) (hp : ∀ t ∈ ts, Per t) (hn : ¬ (HT.sIx ts.length 0 lo = 0 ∧ HT.sIx ts.length ts.length hi = ts.length)) (z : ∀ p H', Rep K B H' ((.ref p, .t (cutTr ts lo hi)) :: Γ) → Q (.ref p) H') : rSlT K v lo hi H Q := by
  obtain ⟨a, Es, rfl, q1, e1, R⟩ := R.tp h1
  have hl := es_len e1
  refine ⟨a, _, rfl, q1, (fun h => hn (by rw [hl] at h; exact h)), fun p np => z p _ ?_⟩
  unfold cutV cutTr
  rw [hl, ← List.map_drop, ← List.map_take]
  have := Rep.newT (Γ := Γ) (R.pick (pick_cut _ _)) np (Δ := ((Es.drop (HT.sIx ts.length 0 lo)).take (HT.sIx ts.length ts.length hi - HT.sIx ts.length 0 lo)))
  rw [List.map_take, List.map_drop, List.map_take, List.map_drop, e1] at this
  rw [List.map_take, List.map_drop]
  exact this
def LcT (K : PySem.W.Frag) (g : TG) (tt : TT) (te : TE) (vs : List Nat) (σ : L2.St) (Q : VK) : VK := fun v H1 => ∃ a, v = .ref a ∧ (∃ xs, SqT K H1 a xs) ∧ ∀ D, H1 D = none → ∃ W : Nat → Nat → Hp → Prop, (∃ m, W 0 m (upd H1 D (.lst []))) ∧ ∀ i m H, W i m H →
  ((Itt K a).stop i H ∧ Q (.ref D) H) ∨ ((Itt K a).go i H ∧ ∃ Nx : Hp → Prop, (∀ H', Nx H' → ∃ m', m' < m ∧ W (i + 1) m' H') ∧ ∀ x H', (Itt K a).yld i H x H' → g x (wipe σ vs) H' fun σ2 H2 => wipe σ2 vs = wipe σ vs ∧ tt σ2 H2 fun b H3 =>
    if b = true then te σ2 H3 fun y H4 => ∃ acc, H4 D = some (.lst acc) ∧ acc.length < sizeLine ∧ Nx (upd H4 D (.lst (acc ++ [y]))) else Nx H3)
theorem s_lcT {ns : List Nat} (z : tl σ H (LcT K g tt te ns σ Q)) : tLc (iTup K tl) g tt te ns σ H Q := z
theorem Tp.pers (h : Tp Γ v ts) : ∀ t ∈ ts, Per t := by
  cases h with
  | g _ => exact per_ds _
  | t h _ => exact h
theorem lcT_T {α : Type} {l : List α} {e : α → Tr} {ns : List Nat} (f : α → Option Tr) (R : Rep K B H Γ) (hL : Tp Γ v (l.map e)) (hl : l.length ≤ 100000)
    (hs : ∀ (i : Nat) y H' D t0, l[i]? = some y → Rep K B H' ((.ref D, t0) :: Γ) → ∀ (Ry : VK) (Rn : Hp → Prop), (∀ w H2 s, f y = some s → Rep K B H2 ((w, s) :: (.ref D, t0) :: Γ) → Ry w H2) → (f y = none → ∀ H2, Rep K B H2 ((.ref D, t0) :: Γ) → Rn H2) →
      Qv (e y) ((.ref D, t0) :: Γ) fun x Γ2 => Rep K B H' Γ2 → g x (wipe σ ns) H' fun σ2 H2 => wipe σ2 ns = wipe σ ns ∧ tt σ2 H2 fun b H3 => if b = true then te σ2 H3 Ry else Rn H3)
    (z : ∀ D H', Rep K B H' ((.ref D, .l (l.filterMap f)) :: Γ) → Q (.ref D) H') : LcT K g tt te ns σ Q v H := by
  obtain ⟨a, Es, rfl, q, e1, R1⟩ := R.tp hL
  refine ⟨a, rfl, ⟨_, q⟩, fun D hD => ?_⟩
  have R0 : Rep K B (upd H D (.lst [])) ((.ref D, .l []) :: Γ) := Rep.newL (Δ := []) R hD
  refine ⟨fun i m H' => m = l.length - i ∧ i ≤ l.length ∧ Rep K B H' ((.ref D, .l ((l.take i).filterMap f)) :: Γ), ⟨_, rfl, Nat.zero_le _, R0⟩, ?_⟩
  rintro i m H1 ⟨rfl, hi, R1⟩
  obtain ⟨a', Es, e0, q, e1, R2⟩ := R1.tp hL.cons
  cases e0
  have hll : (Es.map (·.1)).length = l.length := by rw [es_len e1, List.length_map]
  by_cases hlt : i < l.length
  · have hx : (Es.map (·.1))[i]? = some (Es.map (·.1))[i] := List.getElem?_eq_getElem (by omega)
    have hy : l[i]? = some l[i] := List.getElem?_eq_getElem hlt
    have ht : l.take (i + 1) = l.take i ++ [l[i]] := by rw [List.take_add_one, hy]; rfl
    have hc : ((l.take i).filterMap f).length ≤ i := Nat.le_trans (List.length_filterMap_le _ _) (by rw [List.length_take]; omega)
    refine .inr ⟨⟨_, _, q, hx⟩, fun H2 => Rep K B H2 ((.ref D, .l ((l.take (i + 1)).filterMap f)) :: Γ), fun H2 h => ⟨l.length - (i + 1), by omega, rfl, hlt, h⟩, fun x H2 y => ?_⟩
    obtain ⟨rfl, y⟩ := y
    have hx := y _ q
    have hz : (l.map e)[i]? = some (e l[i]) := by rw [List.getElem?_map, hy]; rfl
    have R3 := es_at R2 e1 hx hz
    refine (hs i _ H2 D _ hy R1 _ _ (fun w H4 s hf R4 => ?_) (fun hf H4 R4 => ?_)).use R3
    · have R5 := R4.pick (Γ' := (.ref D, .l ((l.take i).filterMap f)) :: (w, s) :: Γ) (.own (.tail .head) .refl)
      obtain ⟨acc, h1, h2, R6⟩ := R5.append
      refine ⟨acc, h1, small5' (by omega), ?_⟩
      show Rep K B _ _
      rw [ht, List.filterMap_append]
      have : List.filterMap f [l[i]] = [s] := by rw [List.filterMap_cons, hf]; rfl
      rw [this]
      exact R6
    · show Rep K B _ _
      rw [ht, List.filterMap_append]
      have : List.filterMap f [l[i]] = [] := by rw [List.filterMap_cons, hf]; rfl
      rw [this, List.append_nil]
      exact R4
  · have : i = l.length := by omega
    subst this
    rw [List.take_length] at R1
    exact .inl ⟨⟨_, q, by omega⟩, z D H1 R1⟩
end
end Jl

/-! Rows of texts: numbers written are read, joined rows are split. -/
namespace Jl
open PySem L2 PySem.Spec PyProof.Rows
theorem numT_nat (n : Nat) : (numT (n : Int)).cps.toList = TL.numL n := TL.tl_num n
theorem numT_neg {n : Nat} (h : 0 < n) : (numT (-(n : Int))).cps.toList = 45 :: TL.numL n := by
  obtain ⟨m, rfl⟩ : ∃ m, n = m + 1 := ⟨n - 1, by omega⟩
  have e : -(((m + 1 : Nat)) : Int) = Int.negSucc m := rfl
  unfold numT
  rw [e, PyProof.Rows.signs_ofString]
  show (("-" ++ Nat.repr (m + 1)) : String).toList.map Char.toNat = _
  rw [String.toList_append, List.map_append, Nat.toList_repr]
  rfl
theorem numL_head (n : Nat) : 0 < n → (TL.numL n).getD 0 0 ≠ 48 := by
  induction n using Nat.strongRecOn with
  | _ n ih =>
    intro h0
    by_cases h : n < 10
    · rw [TL.numL_lt h]
      show 48 + n ≠ 48
      omega
    · rw [TL.numL_step (by omega)]
      have := ih (n / 10) (by omega) (by omega)
      cases e : TL.numL (n / 10) with
      | nil => exact absurd e (TL.numL_ne _)
      | cons c r => rw [e] at this; exact this
theorem isFig_all {l : List Nat} (h : NumText.AllDigits l) : l.all isFig = true := List.all_eq_true.mpr fun c hc => decide_eq_true (h c hc)
theorem figs_plain {l : List Nat} (h : l.head? ≠ some 45) : figs l = l := if_neg h
theorem numL_no45 (n : Nat) : (TL.numL n).head? ≠ some 45 := fun h => by
  have := TL.numL_digits n 45 (List.mem_of_head? h)
  omega
/-- a number that was written is read -/
theorem numOf_num {n a b : Int} (h1 : -9999999999 ≤ n) (h2 : n ≤ 9999999999) (ha : a ≤ n) (hb : n ≤ b) : numOf (numT n).cps.toList a b = some n := by
  rcases Int.lt_or_le n 0 with hn | hn
  · obtain ⟨m, rfl⟩ : ∃ m : Nat, n = -(m : Int) := ⟨n.natAbs, by omega⟩
    have e := numT_neg (n := m) (by omega)
    have ef : figs (45 :: TL.numL m) = TL.numL m := rfl
    have ev : valOf (45 :: TL.numL m) = -(m : Int) := by
      show 0 - ((NumText.digitsVal (figs (45 :: TL.numL m)) : Nat) : Int) = _
      rw [ef, TL.numL_val]; omega
    rw [e]
    have hl := TL.numL_len (n := m) (k := 10) (by decide) (by omega)
    have hne := TL.numL_ne m
    rw [← ev]
    refine numOf_some ?_ ?_ ?_ ?_
    · rw [ef]
      refine ⟨?_, hl⟩
      cases q : TL.numL m with
      | nil => exact absurd q hne
      | cons c r => rw [List.length_cons]; omega
    · rw [ef]
      exact fun h => numL_head m (by omega) h.1
    · rw [ef]; exact isFig_all (TL.numL_digits m)
    · rw [ev]; exact ⟨ha, hb⟩
  · obtain ⟨m, rfl⟩ : ∃ m : Nat, n = (m : Int) := ⟨n.natAbs, by omega⟩
    rw [numT_nat]
    have ef := figs_plain (numL_no45 m)
    have ev : valOf (TL.numL m) = (m : Int) := by
      unfold valOf
      rw [if_neg (numL_no45 m), ef, TL.numL_val]
    have hl := TL.numL_len (n := m) (k := 10) (by decide) (by omega)
    have hne := TL.numL_ne m
    have := numOf_some (l := TL.numL m) (a := a) (b := b) (by
      rw [ef]
      refine ⟨?_, hl⟩
      cases q : TL.numL m with
      | nil => exact absurd q hne
      | cons c r => rw [List.length_cons]; omega) (by
      rw [ef]
      rintro ⟨q1, q2⟩
      by_cases h0 : 0 < m
      · exact numL_head m h0 q1
      · have : m = 0 := by omega
        subst this
        exact q2 (TL.numL_lt (by decide))) (by rw [ef]; exact isFig_all (TL.numL_digits m)) (by rw [ev]; exact ⟨ha, hb⟩)
    rw [this, ev]
theorem numT_len {n : Int} (h1 : -9999999999 ≤ n) (h2 : n ≤ 9999999999) : (numT n).length ≤ 11 := by
  rw [TL.len_tl]
  show (numT n).cps.toList.length ≤ 11
  rcases Int.lt_or_le n 0 with hn | hn
  · obtain ⟨m, rfl⟩ : ∃ m : Nat, n = -(m : Int) := ⟨n.natAbs, by omega⟩
    rw [numT_neg (by omega), List.length_cons]
    have hl := TL.numL_len (n := m) (k := 10) (by decide) (by omega)
    omega
  · obtain ⟨m, rfl⟩ : ∃ m : Nat, n = (m : Int) := ⟨n.natAbs, by omega⟩
    rw [numT_nat]
    have hl := TL.numL_len (n := m) (k := 10) (by decide) (by omega)
    omega
theorem numT_signs (n : Int) : ∀ c ∈ (numT n).cps.toList, c = 45 ∨ (48 ≤ c ∧ c ≤ 57) := fun c hc => by
  rcases Int.lt_or_le n 0 with hn | hn
  · obtain ⟨m, rfl⟩ : ∃ m : Nat, n = -(m : Int) := ⟨n.natAbs, by omega⟩
    rw [numT_neg (by omega)] at hc
    rcases List.mem_cons.mp hc with rfl | hc
    · exact .inl rfl
    · exact .inr (TL.numL_digits m c hc)
  · obtain ⟨m, rfl⟩ : ∃ m : Nat, n = (m : Int) := ⟨n.natAbs, by omega⟩
    rw [numT_nat] at hc
    exact .inr (TL.numL_digits m c hc)
/-! rows of parts without blanks -/
def CleanP (p : Str) : Prop := 32 ∉ p.cps.toList ∧ 10 ∉ p.cps.toList
def CleanR (r : List Str) : Prop := r ≠ [] ∧ ∀ p ∈ r, CleanP p
def joinB (r : List Str) : Str := Txt.join " " r
theorem num_clean (n : Int) : CleanP (numT n) := ⟨fun h => by have := numT_signs n _ h; omega, fun h => by have := numT_signs n _ h; omega⟩
theorem sp_tl : TL.tl (" " : Str) = [32] := by decide +kernel
theorem nl_tl : TL.tl ("\n" : Str) = [10] := by decide +kernel
theorem joinL_mem {S : List Nat} {c : Nat} : ∀ {ps : List (List Nat)}, c ∈ TL.joinL S ps → c ∈ S ∨ ∃ p ∈ ps, c ∈ p
  | [], h => nomatch h
  | [p], h => .inr ⟨p, List.mem_cons_self, h⟩
  | p :: q :: r, h => by
    rcases List.mem_append.mp h with h | h
    · exact .inr ⟨p, List.mem_cons_self, h⟩
    · rcases List.mem_append.mp h with h | h
      · exact .inl h
      · rcases joinL_mem (ps := q :: r) h with h | ⟨x, hx, h⟩
        · exact .inl h
        · exact .inr ⟨x, List.mem_cons_of_mem _ hx, h⟩
theorem joinB_tl (r : List Str) : TL.tl (joinB r) = TL.joinL [32] (r.map TL.tl) := by
  unfold joinB
  rw [TL.join_eq, TL.tl_join, sp_tl]
theorem joinB_clean {r : List Str} (h : CleanR r) : 10 ∉ TL.tl (joinB r) := fun hm => by
  rw [joinB_tl] at hm
  rcases joinL_mem hm with hm | ⟨p, hp, hm⟩
  · exact absurd (List.mem_singleton.mp hm) (by decide)
  · obtain ⟨x, hx, rfl⟩ := List.mem_map.mp hp
    exact (h.2 x hx).2 hm
theorem split_joinB {r : List Str} (h : CleanR r) : Txt.split (joinB r) " " = r :=
  TL.split_join sp_tl (by decide +kernel) h.1 fun p hp => (h.2 p hp).1
/-- the text of rows -/
def textOf (rows : List (List Str)) : Str := Txt.join "\n" (rows.map joinB)
theorem rowsOf_text {rows : List (List Str)} (hne : rows ≠ []) (h : ∀ r ∈ rows, CleanR r) : rowsOf (textOf rows) = rows := by
  unfold rowsOf textOf
  rw [TL.split_join nl_tl (by decide +kernel) (fun e => hne (List.map_eq_nil_iff.mp e)) fun p hp => ?_]
  · rw [List.map_map]
    clear hne
    induction rows with
    | nil => rfl
    | cons r rs ih =>
      rw [List.map_cons, ih fun x hx => h x (List.mem_cons_of_mem _ hx)]
      show Txt.split (joinB r) " " :: rs = _
      rw [split_joinB (h r List.mem_cons_self)]
  · obtain ⟨r, hr, rfl⟩ := List.mem_map.mp hp
    exact joinB_clean (h r hr)
theorem joinB_two (a b : Str) : joinB [a, b] = a ++ " " ++ b := by
  unfold joinB
  rw [TL.join_eq]; rfl
theorem joinB_three (a b c : Str) : joinB [a, b, c] = a ++ " " ++ b ++ " " ++ c := by
  unfold joinB
  rw [TL.join_eq]
  show a ++ " " ++ (b ++ " " ++ c) = _
  refine TL.ext_tl ?_
  simp only [TL.tl_append, List.append_assoc]
theorem joinB_four (a b c d : Str) : joinB [a, b, c, d] = a ++ " " ++ b ++ " " ++ c ++ " " ++ d := by
  unfold joinB
  rw [TL.join_eq]
  show a ++ " " ++ (b ++ " " ++ (c ++ " " ++ d)) = _
  refine TL.ext_tl ?_
  simp only [TL.tl_append, List.append_assoc]
theorem lit_app {a b c : Str} (h : TL.tl a = TL.tl b ++ TL.tl c) : a = b ++ c := TL.ext_tl (by rw [TL.tl_append]; exact h)
/-! a whole in the making -/
inductive Bd : Nat → List Part → List Lea → List (List Str) → Prop
  | nil : Bd 0 [] [] []
  | part {n : Nat} {ps : List Part} {ls : List Lea} {rows : List (List Str)} {pl : Int} : Bd n ps ls rows → endOf ps ≤ pl → pl < endOf ps + 10000000 → Bd (n + 1) (ps ++ [(pl, [])]) ls (rows ++ [[("part" : Str), numT pl]])
  | word {n : Nat} {ps : List Part} {ls : List Lea} {rows : List (List Str)} {pl w : Int} {ws : List Int} : Bd n (ps ++ [(pl, ws)]) ls rows → 0 ≤ w → w < 4294967296 → Bd (n + 1) (ps ++ [(pl, ws ++ [w])]) ls (rows ++ [[("word" : Str), numT w]])
  | lean {n : Nat} {ps : List Part} {ls : List Lea} {rows : List (List Str)} {pl w g : Int} {ws : List Int} {t : Str} : Bd n (ps ++ [(pl, ws)]) ls rows → 0 ≤ w → w < 4294967296 → isRule t → -9999999999 ≤ g → g ≤ 9999999999 →
      Bd (n + 1) (ps ++ [(pl, ws ++ [w])]) (ls ++ [(endOf (ps ++ [(pl, ws)]), t, g)]) (rows ++ [[("word" : Str), numT w], [("lean" : Str), t, numT g]])
theorem Bd.fit {n : Nat} {ps : List Part} {ls : List Lea} {rows : List (List Str)} (h : Bd n ps ls rows) : Fit n ps ls := by
  induction h with
  | nil => exact Fit.nil
  | part _ h1 h2 ih => exact ih.part h1 h2
  | word _ h1 h2 ih => exact ih.word ⟨h1, h2⟩ (.inl rfl)
  | lean _ h1 h2 h3 h4 h5 ih => exact ih.word ⟨h1, h2⟩ (.inr ⟨_, _, rfl, h3, by omega, by omega⟩)
theorem rule_clean {t : Str} (h : isRule t) : CleanP t ∧ t.length ≤ 5 := by
  rcases h with rfl | rfl | rfl <;> exact ⟨⟨by decide +kernel, by decide +kernel⟩, by decide +kernel⟩
theorem part_clean : CleanP "part" := ⟨by decide +kernel, by decide +kernel⟩
theorem word_clean : CleanP "word" := ⟨by decide +kernel, by decide +kernel⟩
theorem lean_clean : CleanP "lean" := ⟨by decide +kernel, by decide +kernel⟩
theorem whole_clean : CleanP "whole" := ⟨by decide +kernel, by decide +kernel⟩
theorem cleanR2 {a b : Str} (h1 : CleanP a) (h2 : CleanP b) : CleanR [a, b] := ⟨(fun h => nomatch h), fun p hp => by
  simp only [List.mem_cons, List.not_mem_nil, or_false] at hp
  rcases hp with rfl | rfl
  · exact h1
  · exact h2⟩
theorem cleanR3 {a b c : Str} (h1 : CleanP a) (h2 : CleanP b) (h3 : CleanP c) : CleanR [a, b, c] := ⟨(fun h => nomatch h), fun p hp => by
  simp only [List.mem_cons, List.not_mem_nil, or_false] at hp
  rcases hp with rfl | rfl | rfl
  · exact h1
  · exact h2
  · exact h3⟩
theorem Bd.clean {n : Nat} {ps : List Part} {ls : List Lea} {rows : List (List Str)} (h : Bd n ps ls rows) : ∀ r ∈ rows, CleanR r := by
  induction h with
  | nil => exact fun _ h => nomatch h
  | part _ _ _ ih =>
    intro r hr
    rcases List.mem_append.mp hr with hr | hr
    · exact ih r hr
    · rw [List.mem_singleton.mp hr]; exact cleanR2 part_clean (num_clean _)
  | word _ _ _ ih =>
    intro r hr
    rcases List.mem_append.mp hr with hr | hr
    · exact ih r hr
    · rw [List.mem_singleton.mp hr]; exact cleanR2 word_clean (num_clean _)
  | lean _ _ _ h3 _ _ ih =>
    intro r hr
    rcases List.mem_append.mp hr with hr | hr
    · exact ih r hr
    · simp only [List.mem_cons, List.not_mem_nil, or_false] at hr
      rcases hr with rfl | rfl
      · exact cleanR2 word_clean (num_clean _)
      · exact cleanR3 lean_clean (rule_clean h3).1 (num_clean _)
theorem getD_app_old {α : Type} {l m : List α} {i : Nat} {d : α} (h : i < l.length) : (l ++ m).getD i d = l.getD i d := by
  rw [List.getD_eq_getElem?_getD, List.getD_eq_getElem?_getD, List.getElem?_append_left h]
theorem getD_app_new {α : Type} {l m : List α} {i : Nat} {d : α} : (l ++ m).getD (l.length + i) d = m.getD i d := by
  rw [List.getD_eq_getElem?_getD, List.getD_eq_getElem?_getD, List.getElem?_append_right (Nat.le_add_right _ _), Nat.add_sub_cancel_left]
theorem readN_app {z : Int} {rows more : List (List Str)} : ∀ {n : Nat}, n < rows.length → readN z (rows ++ more) n = readN z rows n
  | 0, _ => rfl
  | n + 1, h => by
    show (readN z (rows ++ more) n).bind _ = (readN z rows n).bind _
    rw [readN_app (by omega), getD_app_old h, getD_app_old (by omega)]
theorem putRow_p {z : Int} {st : RS} {r q : List Str} : putRow z st (("part" : Str) :: r) q = (putPart z st.parts (("part" : Str) :: r)).map fun ps => ⟨ps, st.leans⟩ := if_pos rfl
theorem putRow_w {z : Int} {st : RS} {r q : List Str} : putRow z st (("word" : Str) :: r) q = (putWord z st.parts (("word" : Str) :: r)).map fun ps => ⟨ps, st.leans⟩ :=
  (if_neg (by show ¬ ("word" : Str) = "part"; decide +kernel)).trans (if_pos rfl)
theorem putRow_l {z : Int} {st : RS} {r q : List Str} : putRow z st (("lean" : Str) :: r) (("word" : Str) :: q) = (putLean st.parts st.leans (("lean" : Str) :: r)).map fun ls => ⟨st.parts, ls⟩ :=
  (if_neg (by show ¬ ("lean" : Str) = "part"; decide +kernel)).trans ((if_neg (by show ¬ ("lean" : Str) = "word"; decide +kernel)).trans ((if_pos rfl).trans (if_pos rfl)))
theorem endOf_mono {n : Nat} {ps : List Part} {ls : List Lea} {rows : List (List Str)} (h : Bd n ps ls rows) : True := trivial
/-- what is put together is read -/
theorem Bd.read {n : Nat} {ps : List Part} {ls : List Lea} {rows : List (List Str)} (h : Bd n ps ls rows) (hd : List Str) {z : Int} (hz : endOf ps ≤ z) (hz2 : z ≤ 9999999999) : readN z (hd :: rows) rows.length = some ⟨ps, ls⟩ := by
  induction h with
  | nil => rfl
  | part b h1 h2 ih =>
    rename_i n ps ls rows pl
    have e0 := b.fit.end0
    rw [endOf_app] at hz
    have e1 : (([] : List Int).length : Int) = 0 := rfl
    rw [e1] at hz
    have ih := ih (by omega)
    rw [List.length_append, List.length_singleton, ← List.cons_append]
    show (readN z ((hd :: rows) ++ _) rows.length).bind _ = _
    rw [readN_app (by rw [List.length_cons]; omega), ih]
    have g : ((hd :: rows) ++ [[("part" : Str), numT pl]]).getD (rows.length + 1) [] = [("part" : Str), numT pl] := getD_app_new (l := hd :: rows) (i := 0)
    show putRow z ⟨ps, ls⟩ (((hd :: rows) ++ [[("part" : Str), numT pl]]).getD (rows.length + 1) []) _ = _
    rw [g]
    rw [putRow_p]
    unfold putPart
    rw [if_pos (show [("part" : Str), numT pl].length = 2 from rfl)]
    show Option.map _ (Option.map _ (numOf (numT pl).cps.toList _ _)) = _
    rw [numOf_num (by omega) (by omega) h1 (by omega)]
    rfl
  | word b h1 h2 ih =>
    rename_i n ps ls rows pl w ws
    have e0 := b.fit.end0
    rw [endOf_app] at hz e0
    rw [List.length_append, List.length_singleton] at hz
    have ih := ih (by rw [endOf_app]; omega)
    rw [List.length_append, List.length_singleton, ← List.cons_append]
    show (readN z ((hd :: rows) ++ _) rows.length).bind _ = _
    rw [readN_app (by rw [List.length_cons]; omega), ih]
    have g : ((hd :: rows) ++ [[("word" : Str), numT w]]).getD (rows.length + 1) [] = [("word" : Str), numT w] := getD_app_new (l := hd :: rows) (i := 0)
    show putRow z ⟨_, ls⟩ (((hd :: rows) ++ [[("word" : Str), numT w]]).getD (rows.length + 1) []) _ = _
    rw [g]
    rw [putRow_w]
    unfold putWord
    rw [if_pos ⟨rfl, by simp, by rw [endOf_app]; omega⟩]
    show Option.map _ (Option.map _ (numOf (numT w).cps.toList _ _)) = _
    rw [numOf_num (by omega) (by omega) (by omega) (by omega)]
    show some (RS.mk (addW (ps ++ [(pl, ws)]) w) ls) = _
    rw [addW_app]
  | lean b h1 h2 h3 h4 h5 ih =>
    rename_i n ps ls rows pl w g ws t
    have e0 := b.fit.end0
    rw [endOf_app] at hz e0
    rw [List.length_append, List.length_singleton] at hz
    have ih := ih (by rw [endOf_app]; omega)
    have el : (rows ++ [[("word" : Str), numT w], [("lean" : Str), t, numT g]]).length = rows.length + 2 := by rw [List.length_append]; rfl
    rw [el, ← List.cons_append]
    show ((readN z ((hd :: rows) ++ _) rows.length).bind _).bind _ = _
    rw [readN_app (by rw [List.length_cons]; omega), ih]
    have g1 : ((hd :: rows) ++ [[("word" : Str), numT w], [("lean" : Str), t, numT g]]).getD (rows.length + 1) [] = [("word" : Str), numT w] := getD_app_new (l := hd :: rows) (i := 0)
    have g2 : ((hd :: rows) ++ [[("word" : Str), numT w], [("lean" : Str), t, numT g]]).getD (rows.length + 1 + 1) [] = [("lean" : Str), t, numT g] := getD_app_new (l := hd :: rows) (i := 1)
    show (putRow z ⟨_, ls⟩ (((hd :: rows) ++ [[("word" : Str), numT w], [("lean" : Str), t, numT g]]).getD (rows.length + 1) []) _).bind (fun st => putRow z st (((hd :: rows) ++ [[("word" : Str), numT w], [("lean" : Str), t, numT g]]).getD (rows.length + 1 + 1) []) (((hd :: rows) ++ [[("word" : Str), numT w], [("lean" : Str), t, numT g]]).getD (rows.length + 1) [])) = _
    rw [g1, g2]
    have p1 : ∀ q, putRow z ⟨ps ++ [(pl, ws)], ls⟩ [("word" : Str), numT w] q = some ⟨ps ++ [(pl, ws ++ [w])], ls⟩ := fun q => by
      rw [putRow_w]
      unfold putWord
      rw [if_pos ⟨rfl, by simp, by rw [endOf_app]; omega⟩]
      show Option.map _ (Option.map _ (numOf (numT w).cps.toList _ _)) = _
      rw [numOf_num (by omega) (by omega) (by omega) (by omega)]
      show some (RS.mk (addW (ps ++ [(pl, ws)]) w) ls) = _
      rw [addW_app]
    rw [p1]
    show putRow z ⟨ps ++ [(pl, ws ++ [w])], ls⟩ [("lean" : Str), t, numT g] [("word" : Str), numT w] = _
    rw [putRow_l]
    unfold putLean
    rw [if_pos ⟨rfl, h3⟩]
    show Option.map _ (Option.map _ (numOf (numT g).cps.toList _ _)) = _
    rw [numOf_num (by omega) (by omega) (by omega) (by omega)]
    show some (RS.mk _ (ls ++ [(endOf (ps ++ [(pl, ws ++ [w])]) - 1, t, g)])) = _
    rw [endOf_app, endOf_app, List.length_append, List.length_singleton]
    have : pl + ((ws.length + 1 : Nat) : Int) - 1 = pl + (ws.length : Int) := by omega
    rw [this]
end Jl
namespace Jl
open PySem L2 PySem.Spec PyProof.Rows
def headR (s z e : Int) : List Str := ["whole", numT s, numT z, numT e]
theorem headR_clean (s z e : Int) : CleanR (headR s z e) := ⟨(fun h => nomatch h), fun p hp => by
  simp only [headR, List.mem_cons, List.not_mem_nil, or_false] at hp
  rcases hp with rfl | rfl | rfl | rfl
  · exact whole_clean
  · exact num_clean _
  · exact num_clean _
  · exact num_clean _⟩
theorem step_two {k : Nat} (h : k ≤ 16) : stepOf (numT (2 ^ k)) = some (2 ^ k) := by
  have h2 := two_small h
  unfold stepOf
  rw [numOf_num (by omega) (by omega) (by omega) (by omega)]
  have : andI (2 ^ k) (2 ^ k - 1) = 0 := by
    have : k = 0 ∨ k = 1 ∨ k = 2 ∨ k = 3 ∨ k = 4 ∨ k = 5 ∨ k = 6 ∨ k = 7 ∨ k = 8 ∨ k = 9 ∨ k = 10 ∨ k = 11 ∨ k = 12 ∨ k = 13 ∨ k = 14 ∨ k = 15 ∨ k = 16 := by omega
    rcases this with h | h | h | h | h | h | h | h | h | h | h | h | h | h | h | h | h <;> (subst h; decide +kernel)
  show (if andI (2 ^ k) (2 ^ k - 1) = 0 then some ((2 : Int) ^ k) else none) = _
  rw [if_pos this]
theorem heads_read {s z e : Int} (hs : ∃ k : Nat, k ≤ 16 ∧ s = 2 ^ k) (hz : 0 ≤ z) (hz2 : z ≤ 4294967295) (he : 0 ≤ e) (he2 : e ≤ z) : headsOf (headR s z e) = some (s, z, e) := by
  obtain ⟨k, hk, rfl⟩ := hs
  unfold headsOf headR
  rw [if_pos ⟨rfl, rfl⟩]
  show (match stepOf (numT (2 ^ k)), numOf (numT z).cps.toList 0 4294967295 with
    | some s, some z => (numOf (numT e).cps.toList 0 z).map fun e => (s, z, e)
    | _, _ => none) = _
  rw [step_two hk, numOf_num (by omega) (by omega) hz hz2]
  show (numOf (numT e).cps.toList 0 z).map _ = _
  rw [numOf_num (by omega) (by omega) he he2]
  rfl
end Jl
namespace Jl
open PySem L2 PySem.Spec PyProof.Rows
theorem joinL_len (S : List Nat) : ∀ ps : List (List Nat), (TL.joinL S ps).length ≤ (ps.map (·.length)).sum + ps.length * S.length
  | [] => Nat.zero_le _
  | [p] => by
    show p.length ≤ p.length + 0 + _
    omega
  | p :: q :: r => by
    show (p ++ (S ++ TL.joinL S (q :: r))).length ≤ (p.length + ((q :: r).map (·.length)).sum) + ((q :: r).length + 1) * S.length
    rw [List.length_append, List.length_append, Nat.add_mul, Nat.one_mul]
    have := joinL_len S (q :: r)
    omega
theorem textOf_len {rows : List (List Str)} {n : Nat} (h : ∀ r ∈ rows, (joinB r).length ≤ n) : (textOf rows).length ≤ rows.length * (n + 1) ∧ ((rows.map joinB).map (·.length)).sum ≤ rows.length * n := by
  have key : ((rows.map joinB).map (·.length)).sum ≤ rows.length * n := by
    skip
    induction rows with
    | nil => exact Nat.zero_le _
    | cons r rs ih =>
      show (joinB r).length + ((rs.map joinB).map (·.length)).sum ≤ (rs.length + 1) * n
      have h1 := h r List.mem_cons_self
      have h2 := ih fun x hx => h x (List.mem_cons_of_mem _ hx)
      rw [Nat.add_mul, Nat.one_mul]
      omega
  refine ⟨?_, key⟩
  unfold textOf
  rw [TL.len_tl, TL.join_eq, TL.tl_join, nl_tl]
  have := joinL_len [10] ((rows.map joinB).map TL.tl)
  have e : (((rows.map joinB).map TL.tl).map (·.length)).sum = ((rows.map joinB).map (·.length)).sum := by
    rw [List.map_map]
    congr 1
  rw [e, List.length_map, List.length_map, List.length_singleton] at this
  rw [Nat.mul_add, Nat.mul_one]
  rw [Nat.mul_one] at this
  refine Nat.le_trans this ?_
  omega
theorem readN_none {z : Int} {rows : List (List Str)} {n : Nat} (h : readN z rows n = none) : ∀ m, readN z rows (n + m) = none
  | 0 => h
  | m + 1 => by
    show (readN z rows (n + m)).bind _ = none
    rw [readN_none h m]; rfl
theorem headR_len {s z e : Int} (h1 : (numT s).length ≤ 11) (h2 : (numT z).length ≤ 11) (h3 : (numT e).length ≤ 11) : (joinB (headR s z e)).length ≤ 60 := by
  unfold headR
  rw [joinB_four]
  simp only [len_app]
  show 5 + 1 + _ + 1 + _ + 1 + _ ≤ _
  omega
theorem one_text : ("whole 1 4294967295 0" : Str) = textOf [headR 1 4294967295 0] := by decide +kernel
section
variable {K : PySem.W.Frag} {B H : Hp} {Γ : Ents} {v : V} {t1 t2 : Tr} {σ : L2.St} {gs : TGs} {W : L2.St → Hp → Prop}
theorem s_gTupO2 {n : Nat} (R : Rep K B H ((v, .t [t1, t2]) :: Γ)) (hn : n = 2) (z : ∀ v1 v2, Rep K B H ((v1, t1) :: (v2, t2) :: (v, .t [.h v1, .h v2]) :: Γ) → gs [v1, v2] σ H W) : gTup K n gs v σ H W := by
  subst hn
  obtain ⟨a, Es, rfl, q, e, R⟩ := R.openT
  match Es, e with
  | [(v1, _), (v2, _)], rfl => exact ⟨a, _, rfl, .inl (.inl q), rfl, z v1 v2 (R.perm ((List.Perm.swap ..).trans (List.Perm.cons _ (List.Perm.swap ..))))⟩
theorem Rep.close2 {v1 v2 : V} (R : Rep K B H ((v1, t1) :: (v2, t2) :: (v, .t [.h v1, .h v2]) :: Γ)) : Rep K B H ((v, .t [t1, t2]) :: Γ) :=
  Rep.closeT (Es := [(v1, t1), (v2, t2)]) (R.perm ((List.Perm.cons _ (List.Perm.swap ..)).trans (List.Perm.swap ..)))
theorem s_gTup2O {n : Nat} (R : Rep K B H ((v, .t [t1, t2]) :: Γ)) (hn : n = 2) (z : ∀ v1 v2, Rep K B H ((v1, t1) :: (v2, t2) :: Γ) → gs [v1, v2] σ H W) : gTup K n gs v σ H W := by
  subst hn
  obtain ⟨a, Es, rfl, q, e, R⟩ := R.openT
  match Es, e with
  | [(v1, _), (v2, _)], rfl => exact ⟨a, _, rfl, .inl (.inl q), rfl, z v1 v2 R.drop⟩
end
end Jl

namespace Jl
/-- words in which 7 was put behind -/
def part7 (p : Part) : Part := (p.1, p.2 ++ [7])
theorem partT_snoc (p : Part) (w : Int) : partT (p.1, p.2 ++ [w]) = .t [.d (.int p.1), .l (p.2.map intT ++ [.d (.int w)])] := by
  show Tr.t [_, .l ((p.2 ++ [w]).map intT)] = _
  rw [List.map_append]; rfl
theorem set_take {α β : Type} {f g : α → β} {l : List α} {i : Nat} {q : α} (h : l[i]? = some q) {x : β} : (((l.take i).map f ++ (l.drop i).map g).set i x).set i (f q) = (l.take (i + 1)).map f ++ (l.drop (i + 1)).map g := by
  obtain ⟨hi, e⟩ := List.getElem?_eq_some_iff.mp h
  rw [List.set_set]
  have ed : l.drop i = q :: l.drop (i + 1) := by rw [← e]; exact List.drop_eq_getElem_cons hi
  have et : l.take (i + 1) = l.take i ++ [q] := by rw [List.take_add_one, h]; rfl
  have el : ((l.take i).map f).length = i := by rw [List.length_map, List.length_take]; omega
  rw [List.set_append_right _ _ (by omega), el, Nat.sub_self, ed, et, List.map_append, List.append_assoc]
  rfl
theorem at_take {α β : Type} {f g : α → β} {l : List α} {i : Nat} {q : α} (h : l[i]? = some q) : ((l.take i).map f ++ (l.drop i).map g)[i]? = some (g q) := by
  obtain ⟨hi, e⟩ := List.getElem?_eq_some_iff.mp h
  have ed : l.drop i = q :: l.drop (i + 1) := by rw [← e]; exact List.drop_eq_getElem_cons hi
  have el : ((l.take i).map f).length = i := by rw [List.length_map, List.length_take]; omega
  rw [List.getElem?_append_right (by omega), el, Nat.sub_self, ed]
  rfl
theorem len_take {α β : Type} {f g : α → β} {l : List α} {i : Nat} (h : i ≤ l.length) : ((l.take i).map f ++ (l.drop i).map g).length = l.length := by
  rw [List.length_append, List.length_map, List.length_map, List.length_take, List.length_drop]; omega
end Jl

/-! Stretches laid out: dicts with tuples as keys; sorted lists of data. -/
namespace Jl
open PySem L2 PySem.Spec PyProof.Rows
/-! sorted(xs), xs data -/
def leV (x y : V × PyData) : Bool := PySem.W.dataLe false (fun b : V × PyData => b.2) x y
def rSortDt (K : PySem.W.Frag) : List V → Hp → VK → Prop := fun vs H Q => ∃ (a : Addr) (bs : List (V × PyData)), vs = [.ref a] ∧ SqL K H a (bs.map (·.1)) ∧ (∀ b ∈ bs, Dp K H b.1 b.2) ∧ PySem.W.AllAlike (bs.map (·.2)) ∧ PySem.W.Sortable (bs.map (·.2)) ∧ (∀ b ∈ bs, b.2.depth ≤ 8) ∧
  ∀ p, H p = none → Q (.ref p) (upd H p (.lst ((bs.mergeSort leV).map (·.1))))
theorem eachV {R : Value → V × PyData → Prop} (hR : ∀ v b, R v b → RelV b.1 v) : ∀ {vs : List Value} {bs : List (V × PyData)}, PySem.W.EachIs R vs bs → Vals (bs.map (·.1)) vs
  | _, _, .nil => .nil
  | _, _, .cons h t => .cons (hR _ _ h) (eachV hR t)
theorem each_of {bs : List (V × PyData)} {R : Value → V × PyData → Prop} (hR : ∀ v b, b ∈ bs → RelV b.1 v → R v b) : ∀ {cs : List (V × PyData)} {vs : List Value}, (∀ b ∈ cs, b ∈ bs) → Vals (cs.map (·.1)) vs → PySem.W.EachIs R vs cs
  | [], _, _, h => by cases h; exact .nil
  | b :: cs, _, hs, h => by
    cases h with
    | cons h1 h2 => exact .cons (hR _ _ (hs b List.mem_cons_self) h1) (each_of hR (fun c hc => hs c (List.mem_cons_of_mem _ hc)) h2)
theorem cr_sortDt {X : Cx} (hu : X.A.units + 64 < cLine) : CallR X (.builtin "sorted") (rSortDt X.K) := by
  intro pins s σ H vs us Q I r h
  obtain ⟨a, bs, rfl, hs, hd, hal, hso, hdp, q⟩ := h
  obtain ⟨its, rv, hl, hz⟩ := I.list hs
  obtain ⟨u, rfl, ru⟩ := vals1 r
  obtain rfl : u = Value.ref a := ru
  rw [List.length_map] at hz
  refine PySem.W.sorted_data (enc := fun b : V × PyData => b.2) (R := fun v b => RelV b.1 v) hl.isList (each_of (fun _ _ _ h => h) (fun _ h => h) rv) (each_of (fun v b hb h => Dp.reads I b.2 b.1 v (hd b hb) h) (fun _ h => h) rv) hal hso hz (fun b hb => by have := hdp b hb; omega) (fun out hlen eo => ?_)
  have ho : Vals ((bs.mergeSort leV).map (·.1)) out := eachV (fun _ _ h => h) eo
  obtain ⟨ep, he⟩ := PyProof.Rows.sortedAll_at s.heap its out.toArray
  refine ⟨.ref _, upd H (s.heap.objs.size + 1) (.lst ((bs.mergeSort leV).map (·.1))), I.laid (t' := s.toks) (fun _ _ => PyProof.Rows.sortedAll_old) (Nat.le_succ _) ⟨?_, out, ep, ho, he⟩, rfl, q _ (I.hok.fresh (Nat.le_succ _))⟩
  rw [List.length_map, List.length_mergeSort]
  exact hz
/-! keys: a text and a whole number -/
abbrev KY := Str × Int
def keyD (k : KY) : PyData := .tuple [.str k.1, .int k.2]
def kfT (k : KY) : List Key := [Sum.inr k.1, Sum.inl k.2]
theorem kfT_inj (a b : KY) (h : kfT a = kfT b) : a = b := by
  unfold kfT at h
  injection h with h1 h2
  injection h2 with h2 _
  exact Prod.ext (Sum.inr.inj h1) (Sum.inl.inj h2)
def leK (x y : KY) : Bool := decide (x.1.cps.toList < y.1.cps.toList ∨ (x.1 = y.1 ∧ x.2 ≤ y.2))
theorem leK_iff {x y : KY} : leK x y = true ↔ x.1.cps.toList < y.1.cps.toList ∨ (x.1 = y.1 ∧ x.2 ≤ y.2) := decide_eq_true_iff
theorem lt_data (x y : KY) : PySem.W.dataLt (keyD x) (keyD y) = decide (x.1.cps.toList < y.1.cps.toList ∨ (x.1 = y.1 ∧ x.2 < y.2)) := by
  unfold keyD
  rw [PySem.W.dataLt_pair (by simp [PySem.W.alike]) (by simp [PySem.W.alike]), PySem.W.dataLt_str, PySem.W.dataLt_int]
  simp only [PyData.eqv, beq_iff_eq]
  by_cases h1 : x.1 = y.1
  · have h0 : ¬ y.1.cps.toList < y.1.cps.toList := List.lt_irrefl _
    by_cases h2 : x.2 = y.2 <;> simp [h1, h2, h0]
  · simp [h1]
theorem leK_data (x y : KY) : (!PySem.W.dataLt (keyD y) (keyD x)) = leK x y := by
  rw [lt_data]
  unfold leK
  rw [Bool.eq_iff_iff, Bool.not_eq_true', decide_eq_false_iff_not, decide_eq_true_iff]
  constructor
  · intro h
    by_cases h1 : x.1.cps.toList < y.1.cps.toList
    · exact .inl h1
    · have h2 : ¬ y.1.cps.toList < x.1.cps.toList := fun g => h (.inl g)
      have e : x.1 = y.1 := str_ext (List.le_antisymm (List.not_lt.mp h2) (List.not_lt.mp h1))
      exact .inr ⟨e, by
        by_cases h3 : y.2 < x.2
        · exact absurd (.inr ⟨e.symm, h3⟩) h
        · omega⟩
  · rintro (h | ⟨h1, h2⟩) (g | ⟨g1, g2⟩)
    · exact List.lt_irrefl _ (List.lt_trans h g)
    · rw [g1] at h; exact List.lt_irrefl _ h
    · rw [h1] at g; exact List.lt_irrefl _ g
    · omega
theorem leK_total (a b : KY) : (leK a b || leK b a) = true := by
  rw [Bool.or_eq_true, leK_iff, leK_iff]
  by_cases h1 : a.1.cps.toList < b.1.cps.toList
  · exact .inl (.inl h1)
  · by_cases h2 : b.1.cps.toList < a.1.cps.toList
    · exact .inr (.inl h2)
    · have e : a.1 = b.1 := str_ext (List.le_antisymm (List.not_lt.mp h2) (List.not_lt.mp h1))
      by_cases h3 : a.2 ≤ b.2
      · exact .inl (.inr ⟨e, h3⟩)
      · exact .inr (.inr ⟨e.symm, by omega⟩)
theorem leK_trans (a b c : KY) (h1 : leK a b = true) (h2 : leK b c = true) : leK a c = true := by
  rw [leK_iff] at *
  rcases h1 with h1 | ⟨h1, h1'⟩
  · rcases h2 with h2 | ⟨h2, h2'⟩
    · exact .inl (List.lt_trans h1 h2)
    · rw [← h2]; exact .inl h1
  · rcases h2 with h2 | ⟨h2, h2'⟩
    · rw [h1]; exact .inl h2
    · exact .inr ⟨h1.trans h2, by omega⟩
def sortK (ks : List KY) : List KY := ks.mergeSort leK
theorem sortK_perm (ks : List KY) : (sortK ks).Perm ks := List.mergeSort_perm ks leK
theorem sortK_pw (ks : List KY) : (sortK ks).Pairwise (fun a b => leK a b = true) := List.pairwise_mergeSort leK_trans leK_total ks
/-- a value that is a key's tuple -/
def KeyAt (G : Hp) (v : V) (k : KY) : Prop := ∃ b, v = .ref b ∧ G b = some (.tup [.str k.1, .int k.2])
theorem KeyAt.same {G G' : Hp} {v : V} {k : KY} (h : KeyAt G v k) (s : Same G G') : KeyAt G' v k := by
  obtain ⟨b, e, h1⟩ := h
  exact ⟨b, e, s _ _ h1⟩
theorem KeyAt.dp {K : PySem.W.Frag} {G : Hp} {v : V} {k : KY} (h : KeyAt G v k) : Dp K G v (keyD k) := by
  obtain ⟨b, rfl, h1⟩ := h
  exact .tup (.inl (.inl h1)) (.cons (.str _) (.cons (.int _) .nil))
theorem keys_alike (ks : List KY) : PySem.W.AllAlike (ks.map keyD) := fun d hd d' hd' => by
  obtain ⟨a, _, rfl⟩ := List.mem_map.mp hd
  obtain ⟨b, _, rfl⟩ := List.mem_map.mp hd'
  simp [keyD, PySem.W.alike, PySem.W.alikeAll]
theorem keys_sortable (ks : List KY) : PySem.W.Sortable (ks.map keyD) := .inl fun d hd => by
  obtain ⟨a, _, rfl⟩ := List.mem_map.mp hd
  exact ⟨_, _, rfl⟩
def sortZ (zs : List (V × KY)) : List (V × KY) := zs.mergeSort fun a b => leK a.2 b.2
theorem sortZ_perm (zs : List (V × KY)) : (sortZ zs).Perm zs := List.mergeSort_perm zs _
theorem sortZ_keys (zs : List (V × KY)) : (sortZ zs).map (·.2) = sortK (zs.map (·.2)) := by
  unfold sortZ sortK
  exact List.map_mergeSort (f := fun x : V × KY => x.2) (r := fun a b => leK a.2 b.2) (s := leK) (l := zs) (fun a _ b _ => rfl)
/-- sorted(keys) -/
theorem s_sortK {K : PySem.W.Frag} {H : Hp} {Q : VK} {a : Addr} {zs : List (V × KY)} (h : SqL K H a (zs.map (·.1))) (hz : ∀ x ∈ zs, KeyAt H x.1 x.2)
    (z : ∀ p : Addr, H p = none → Q (.ref p) (upd H p (.lst ((sortZ zs).map (·.1))))) : rSortDt K [.ref a] H Q := by
  refine ⟨a, zs.map fun x => (x.1, keyD x.2), rfl, by rw [List.map_map]; exact h, fun b hb => ?_, ?_, ?_, fun b hb => ?_, fun p np => ?_⟩
  · obtain ⟨x, hx, rfl⟩ := List.mem_map.mp hb
    exact (hz x hx).dp
  · rw [List.map_map]
    have := keys_alike (zs.map (·.2))
    rw [List.map_map] at this
    exact this
  · rw [List.map_map]
    have := keys_sortable (zs.map (·.2))
    rw [List.map_map] at this
    exact this
  · obtain ⟨x, hx, rfl⟩ := List.mem_map.mp hb
    show max 0 (max 0 0) + 1 ≤ 8
    omega
  · have e1 : (zs.map fun x => (x.1, keyD x.2)).mergeSort leV = (zs.mergeSort fun a b => leK a.2 b.2).map fun x => (x.1, keyD x.2) :=
      (List.map_mergeSort (f := fun x : V × KY => (x.1, keyD x.2)) (r := fun a b => leK a.2 b.2) (s := leV) (l := zs) (fun a _ b _ => (leK_data a.2 b.2).symm)).symm
    rw [e1, List.map_map]
    exact z p np
/-! dicts with such keys -/
def TD (K : PySem.W.Frag) (F H : Hp) (m : Addr) (L : List (KY × PyData)) : Prop := ∃ kvs : List (List Key × V), H m = some (.dT kvs) ∧ KVD K F kfT kvs L
section
variable {K : PySem.W.Frag} {F F' H H' : Hp} {m b : Addr} {v : V} {d : PyData} {L : List (KY × PyData)} {k : KY}
theorem TD.nil (h : H m = some (.dT [])) : TD K F H m [] := ⟨[], h, .nil⟩
theorem TD.ext (D : TD K F H m L) (s : Same F F') (s2 : Same H H') : TD K F' H' m L := by
  obtain ⟨kvs, h1, h2⟩ := D
  exact ⟨kvs, s2 _ _ h1, h2.same s⟩
theorem TD.get (D : TD K F H m L) (hb : H b = some (.tup [.str k.1, .int k.2])) : (lookL L k = none ∧ DGet H m (.ref b) none) ∨ ∃ d v, lookL L k = some d ∧ DGet H m (.ref b) (some v) ∧ Dp K F v d := by
  obtain ⟨kvs, h1, h2⟩ := D
  have g := DGet.t (k := kfT k) h1 (b := b) hb
  rcases h2.get kfT_inj (k := k) with ⟨e1, e2⟩ | ⟨d, v, e1, e2, h3⟩
  · rw [e2] at g; exact .inl ⟨e1, g⟩
  · rw [e2] at g; exact .inr ⟨d, v, e1, g, h3⟩
theorem TD.put (D : TD K F H m L) (hb : H b = some (.tup [.str k.1, .int k.2])) (hv : Dp K F v d) (hl : L.length ≤ 99999) : ∃ o, DPut H m (.ref b) v (upd H m o) ∧ TD K F (upd H m o) m (putL L k d) := by
  obtain ⟨kvs, h1, h2⟩ := D
  exact ⟨_, DPut.t (k := kfT k) (v := v) h1 hb (small5' (by rw [h2.len]; omega)), _, upd_same, h2.put kfT_inj hv⟩
theorem TD.isD (D : TD K F H m L) : IsD H m := by
  obtain ⟨kvs, h1, -⟩ := D
  exact .inr ⟨kvs, .inl h1⟩
end
/-! what is known of stretches -/
def stresL (t : Str) (i : Nat) : List Stre → List (KY × PyData)
  | [] => []
  | s :: ss => ((t, (i : Int)), streD s) :: stresL t (i + 1) ss
theorem stresL_app (t : Str) : ∀ (a b : List Stre) (i : Nat), stresL t i (a ++ b) = stresL t i a ++ stresL t (i + a.length) b
  | [], b, i => rfl
  | s :: a, b, i => by
    show _ :: stresL t (i + 1) (a ++ b) = _ :: _
    rw [stresL_app t a b (i + 1), List.length_cons, show i + 1 + a.length = i + (a.length + 1) by omega]
    rfl
theorem stresL_len (t : Str) : ∀ (a : List Stre) (i : Nat), (stresL t i a).length = a.length
  | [], _ => rfl
  | s :: a, i => by
    show (stresL t (i + 1) a).length + 1 = _
    rw [stresL_len t a, List.length_cons]
def putA {α : Type} [DecidableEq α] (L xs : List (α × PyData)) : List (α × PyData) := xs.foldl (fun L x => putL L x.1 x.2) L
theorem putA_app {α : Type} [DecidableEq α] (L xs ys : List (α × PyData)) : putA L (xs ++ ys) = putA (putA L xs) ys := List.foldl_append
theorem putA_len {α : Type} [DecidableEq α] : ∀ (xs L : List (α × PyData)), (putA L xs).length ≤ L.length + xs.length
  | [], L => Nat.le_refl _
  | x :: xs, L => by
    have h1 := putA_len xs (putL L x.1 x.2)
    have h2 := putL_len (L := L) (k := x.1) (d := x.2)
    show (putA (putL L x.1 x.2) xs).length ≤ _
    rw [List.length_cons]
    omega
def knownF (ps : List Piece) : List (KY × PyData) := ps.flatMap fun p => stresL p.name 0 p.stres
def knownL (ps : List Piece) : List (KY × PyData) := putA [] (knownF ps)
theorem putA_some {α : Type} [DecidableEq α] {k : α} : ∀ (xs L : List (α × PyData)), (lookL L k ≠ none ∨ k ∈ xs.map (·.1)) → lookL (putA L xs) k ≠ none
  | [], L, h => by
    rcases h with h | h
    · exact h
    · cases h
  | x :: xs, L, h => by
    refine putA_some xs (putL L x.1 x.2) ?_
    rw [lookL_put]
    by_cases e : k = x.1
    · rw [if_pos e]; exact .inl (fun z => by cases z)
    · rw [if_neg e]
      rcases h with h | h
      · exact .inl h
      · exact .inr ((List.mem_cons.mp h).resolve_left e)
theorem putA_all {α : Type} [DecidableEq α] {P : PyData → Prop} : ∀ (xs L : List (α × PyData)), (∀ x ∈ L, P x.2) → (∀ x ∈ xs, P x.2) → ∀ x ∈ putA L xs, P x.2
  | [], L, h, _ => h
  | y :: xs, L, h, hx => by
    refine putA_all xs (putL L y.1 y.2) (fun x hx2 => ?_) fun x hx2 => hx x (List.mem_cons_of_mem _ hx2)
    unfold putL at hx2
    split at hx2
    · obtain ⟨z, hz, rfl⟩ := List.mem_map.mp hx2
      by_cases e : z.1 = y.1
      · rw [if_pos e]; exact hx y List.mem_cons_self
      · rw [if_neg e]; exact h z hz
    · rcases List.mem_append.mp hx2 with hx2 | hx2
      · exact h x hx2
      · rw [List.mem_singleton.mp hx2]; exact hx y List.mem_cons_self
theorem look_mem' {α : Type} [DecidableEq α] {L : List (α × PyData)} {z : α} {d : PyData} (h : lookL L z = some d) : (z, d) ∈ L := by
  unfold lookL at h
  cases g : L.find? (fun x => decide (x.1 = z)) with
  | none => rw [g] at h; cases h
  | some x =>
    rw [g] at h
    cases h
    have h1 := List.find?_some g
    have h2 := List.mem_of_find?_eq_some g
    rw [← of_decide_eq_true h1]
    exact h2
theorem knownF_stre {ps : List Piece} {x : KY × PyData} (h : x ∈ knownF ps) : ∃ p ∈ ps, ∃ s ∈ p.stres, x.2 = streD s := by
  obtain ⟨p, hp, hx⟩ := List.mem_flatMap.mp h
  refine ⟨p, hp, ?_⟩
  have key : ∀ (ss : List Stre) (i : Nat), x ∈ stresL p.name i ss → ∃ s ∈ ss, x.2 = streD s := by
    intro ss
    induction ss with
    | nil => intro i h; cases h
    | cons s ss ih =>
      intro i h
      rcases List.mem_cons.mp h with rfl | h
      · exact ⟨s, List.mem_cons_self, rfl⟩
      · obtain ⟨s', h1, h2⟩ := ih _ h
        exact ⟨s', List.mem_cons_of_mem _ h1, h2⟩
  exact key _ _ hx
theorem knownL_stre {ps : List Piece} {P : Stre → Prop} (hP : ∀ p ∈ ps, ∀ s ∈ p.stres, P s) {k : KY} {d : PyData} (h : lookL (knownL ps) k = some d) : ∃ s, P s ∧ d = streD s := by
  have := putA_all (P := fun d => ∃ s, P s ∧ d = streD s) (knownF ps) [] (fun _ h => nomatch h) (fun x hx => by
    obtain ⟨p, hp, s, hs, e⟩ := knownF_stre hx
    exact ⟨s, hP p hp s hs, e⟩) _ (look_mem' h)
  exact this
end Jl

/-! max of a list of whole numbers with a default -/
namespace Jl
open PySem L2 PySem.Spec PyProof.Rows
section
variable {prog : Program} {w : World} {A : Around}
theorem mx_gt {a b : Int} {t u : Tok} {s : Shared} {Q : Value → Shared → Prop} {E : Value → Shared → Prop} (z : Q (.bool (decide (a > b))) s) : wpAny (model prog w) A (richCompare .Gt (.int a t) (.int b u)) Q E s :=
  CmpOf.ints_gt (P := fun i v => v = if i = 0 then Value.int a t else Value.int b u) (fun i => if i = 0 then a else b) (fun i v e => by
    by_cases h : i = 0
    · exact ⟨t, by rw [e, if_pos h, if_pos h]⟩
    · exact ⟨u, by rw [e, if_neg h, if_neg h]⟩) 0 1 _ _ s Q E rfl rfl z
theorem mx_word : (toString "max" ++ toString ".loop" : String) = "max.loop" := by decide
variable {R : Result → Shared → Prop} {it l box : Addr} {kw : List (Str × Value)} {xs : Array (Int × Tok)}
/-- what max keeps from turn to turn: the greatest of the first j -/
def MxTop (xs : Array (Int × Tok)) (j : Nat) (m : Int) : Prop := (∃ i, i < j ∧ numAt xs i = m) ∧ ∀ i, i < j → numAt xs i ≤ m
theorem mx_run (hd : A.handled = none) (ne : l ≠ it) (n1 : box ≠ it) (n2 : box ≠ l) : ∀ (r j : Nat) (s : Shared) (m : Int) (t : Tok) (e : Nat), xs.size - j = r → 0 < j → j ≤ xs.size → MxTop xs j m →
    s.heap.IsListIter it l j → s.heap.IsList l (intItems xs) → s.heap.get? box = some { cls := .type "list", dict := none, data := .seq #[.int m t, .int m t] e, slots := #[] } →
    (∀ g tk M u, MxTop xs xs.size M → (∀ b o, b ≠ it → b ≠ box → s.heap.get? b = some o → g.get? b = some o) → R (.ok (.ret (.int M u))) { s with heap := g, toks := tk }) →
    codeAny (model prog w) A (.builtin "max.loop" ⟨[.ref it, .none, .ref box], kw⟩) R s := by
  intro r
  have W := Walks.list (prog := prog) (w := w) (A := A.in1) hd it l ne (intItems xs)
  have esz : (intItems xs).size = xs.size := by simp [intItems]
  have nw : ∀ {b : Addr}, b ≠ it → b ∉ [it] := fun h g => h (List.mem_singleton.mp g)
  induction r with
  | zero =>
    intro j s m t e h1 h2 h3 tp si sl sb fin
    have ej : j = xs.size := by omega
    refine codeAny_builtin F.entry_max_loop ?_
    rw [Around.under_plainId F.plain_max_loop _]
    show wpAny _ A.in1 (seqItems? (.ref box) >>= _) _ _ _
    refine wpAny_bind (wpAny_seqItems sb rfl ?_)
    show wpAny _ A.in1 (tryCatch (pyNext (.ref it)) _ >>= _) _ _ _
    refine wpAny_bind (wpAny_tryCatch (W.done _ _ _ ⟨by rw [esz, ← ej]; exact si, sl⟩ fun g tk hk => ?_))
    have sb2 := hk box _ (nw n1) sb
    show wpAny _ A.in1 (updateSeq box (fun _ => #[]) >>= _) _ _ _
    refine wpAny_bind ?_
    refine wpAny_updateSeq sb2 rfl (wpAny_bind (wpAny_letGo (wpAny_pure ?_)))
    exact fin _ tk m t (ej ▸ tp) fun b o q1 q2 q3 => (Heap.get?_update_other _ _ q2.symm).trans (hk b o (nw q1) q3)
  | succ r ih =>
    intro j s m t e h1 h2 h3 tp si sl sb fin
    have hj : j < xs.size := by omega
    refine codeAny_builtin F.entry_max_loop ?_
    rw [Around.under_plainId F.plain_max_loop _]
    show wpAny _ A.in1 (seqItems? (.ref box) >>= _) _ _ _
    refine wpAny_bind (wpAny_seqItems sb rfl ?_)
    show wpAny _ A.in1 (tryCatch (pyNext (.ref it)) _ >>= _) _ _ _
    refine wpAny_bind (wpAny_tryCatch (W.item j _ _ _ (by rw [esz]; exact hj) ⟨si, sl⟩ fun v g tk hv st hk => ?_))
    obtain ⟨u, rfl⟩ := intItems_at hv
    have sb2 := hk box _ (nw n1) sb
    show wpAny _ A.in1 (tryCatch (holding [_, _] (richCompare .Gt _ _ >>= _)) _ >>= _) _ _ _
    refine wpAny_bind (wpAny_tryCatch (wpAny_holding (wpAny_bind (mx_gt ?_))))
    refine wpAny_bind (wpAny_holding (wpAny_truthy_bool ?_))
    refine wpAny_bind (wpAny_letGo (wpAny_pure ?_))
    by_cases hc : numAt xs j > m
    · rw [decide_eq_true hc]
      simp only [if_true]
      refine wpAny_bind ?_
      refine wpAny_updateSeq sb2 rfl (wpAny_bind (wpAny_letGo ?_))
      rw [mx_word]
      refine wpAny_pure ⟨plainId_quiet F.plain_max_loop _, ih (j + 1) _ (numAt xs j) u _ (by omega) (Nat.succ_pos _) hj ⟨⟨j, Nat.lt_succ_self _, rfl⟩, fun i hi => ?_⟩ (st.1.at fun o q => (Heap.get?_update_other _ _ n1).trans q) (st.2.at fun o q => (Heap.get?_update_other _ _ n2).trans q) (Heap.get?_update_self _ sb2 rfl) fun g2 tk2 M u2 q1 q2 => ?_⟩
      · rcases Nat.lt_or_ge i j with q | q
        · have := tp.2 i q; omega
        · rw [show i = j by omega]; exact Int.le_refl _
      · exact fin g2 tk2 M u2 q1 fun b o q3 q4 q5 => q2 b o q3 q4 ((Heap.get?_update_other _ _ q4.symm).trans (hk b o (nw q3) q5))
    · rw [decide_eq_false hc]
      simp only [Bool.false_eq_true, if_false]
      refine wpAny_bind (wpAny_letGo ?_)
      rw [mx_word]
      refine wpAny_pure ⟨plainId_quiet F.plain_max_loop _, ih (j + 1) _ m t e (by omega) (Nat.succ_pos _) hj ⟨?_, fun i hi => ?_⟩ st.1 st.2 sb2 fun g2 tk2 M u2 q1 q2 => ?_⟩
      · obtain ⟨i, q1, q2⟩ := tp.1
        exact ⟨i, Nat.lt_succ_of_lt q1, q2⟩
      · rcases Nat.lt_or_ge i j with q | q
        · exact tp.2 i q
        · rw [show i = j by omega]; omega
      · exact fin g2 tk2 M u2 q1 fun b o q3 q4 q5 => q2 b o q3 q4 (hk b o (nw q3) q5)
/-- the first turn: a number, or the default -/
theorem mx_begin (hd : A.handled = none) (ne : l ≠ it) (n1 : box ≠ it) (n2 : box ≠ l) {s : Shared} {e : Nat} {d : Value} {x : Str}
    (si : s.heap.IsListIter it l 0) (sl : s.heap.IsList l (intItems xs)) (sb : s.heap.get? box = some { cls := .type "list", dict := none, data := .seq #[] e, slots := #[] })
    (f0 : xs.size = 0 → ∀ g tk, (∀ b o, b ≠ it → b ≠ box → s.heap.get? b = some o → g.get? b = some o) → R (.ok (.ret d)) { s with heap := g, toks := tk })
    (f1 : ∀ g tk M u, MxTop xs xs.size M → (∀ b o, b ≠ it → b ≠ box → s.heap.get? b = some o → g.get? b = some o) → R (.ok (.ret (.int M u))) { s with heap := g, toks := tk }) :
    codeAny (model prog w) A (.builtin "max.loop" ⟨[.ref it, .none, .ref box], [(x, d)]⟩) R s := by
  have W := Walks.list (prog := prog) (w := w) (A := A.in1) hd it l ne (intItems xs)
  have esz : (intItems xs).size = xs.size := by simp [intItems]
  have nw : ∀ {b : Addr}, b ≠ it → b ∉ [it] := fun h g => h (List.mem_singleton.mp g)
  refine codeAny_builtin F.entry_max_loop ?_
  rw [Around.under_plainId F.plain_max_loop _]
  show wpAny _ A.in1 (seqItems? (.ref box) >>= _) _ _ _
  refine wpAny_bind (wpAny_seqItems sb rfl ?_)
  show wpAny _ A.in1 (tryCatch (pyNext (.ref it)) _ >>= _) _ _ _
  rcases Nat.eq_zero_or_pos xs.size with h0 | h0
  · refine wpAny_bind (wpAny_tryCatch (W.done _ _ _ ⟨by rw [esz, h0]; exact si, sl⟩ fun g tk hk => ?_))
    show wpAny _ A.in1 (rule _ >>= _) _ _ _
    refine wpAny_bind (wpAny_rule ?_)
    exact wpAny_pure (f0 h0 g tk fun b o q1 q2 q3 => hk b o (nw q1) q3)
  · refine wpAny_bind (wpAny_tryCatch (W.item 0 _ _ _ (by rw [esz]; exact h0) ⟨si, sl⟩ fun v g tk hv st hk => ?_))
    obtain ⟨u, rfl⟩ := intItems_at hv
    have sb2 := hk box _ (nw n1) sb
    show wpAny _ A.in1 (updateSeq box (fun _ => #[_, _]) >>= _) _ _ _
    refine wpAny_bind ?_
    refine wpAny_updateSeq sb2 rfl ?_
    rw [mx_word]
    refine wpAny_pure ⟨plainId_quiet F.plain_max_loop _, mx_run hd ne n1 n2 (xs.size - 1) 1 _ (numAt xs 0) u _ rfl (by decide) h0 ⟨⟨0, by decide, rfl⟩, fun i hi => ?_⟩ (st.1.at fun o q => (Heap.get?_update_other _ _ n1).trans q) (st.2.at fun o q => (Heap.get?_update_other _ _ n2).trans q) (Heap.get?_update_self _ sb2 rfl) fun g2 tk2 M u2 q1 q2 => ?_⟩
    · rw [show i = 0 by omega]; exact Int.le_refl _
    · exact f1 g2 tk2 M u2 q1 fun b o q3 q4 q5 => q2 b o q3 q4 ((Heap.get?_update_other _ _ q4.symm).trans (hk b o (nw q3) q5))
theorem mx_args (a v : Value) : argsOk "max" ⟨[a], [(Str.ofString "default", v)]⟩ := by unfold argsOk; kernel_rfl
theorem mx_call {s : Shared} {E : Value → Shared → Prop} {Q : Value → Shared → Prop} {d : Value} (hd : A.handled = none) (sl : s.heap.IsList l (intItems xs))
    (f0 : xs.size = 0 → ∀ g tk, (∀ b o, s.heap.get? b = some o → g.get? b = some o) → Q d { s with heap := g, toks := tk })
    (f1 : ∀ g tk M u, MxTop xs xs.size M → (∀ b o, s.heap.get? b = some o → g.get? b = some o) → Q (.int M u) { s with heap := g, toks := tk }) :
    wpAny (model prog w) A (call (.builtin "max") [.ref l] [(Str.ofString "default", d)]) Q E s := by
  have hlt : l < s.heap.objs.size := by obtain ⟨_, e, _⟩ := sl; exact Heap.lt_size e
  refine kmk_tree F.kind_max F.plain_max F.entry_max (mx_args _ _) ?_
  have eb : Builtin.Builtins.bindParams "max" ["key", "default"] 0 ⟨[], [(Str.ofString "default", d)]⟩ = pure [none, some d] := rfl
  show wpAny _ A.in1 (Builtin.Builtins.bindParams "max" ["key", "default"] 0 ⟨[], _⟩ >>= _) _ _ _
  refine wpAny_bind (wpAny_of_eq eb ?_)
  refine wpAny_bind (wpAny_pure ?_)
  refine wpAny_bind (wpAny_pyIter_list sl ?_)
  refine wpAny_bind (wpAny_newList ?_ (Nat.zero_le _))
  rw [mx_word]
  have hS : (s.heap.push { cls := .type "list_iterator", data := .fields #[.ref l, .int 0 0] }).objs.size = s.heap.objs.size + 1 := Heap.size_push ..
  have n1 : (s.heap.push { cls := .type "list_iterator", data := .fields #[.ref l, .int 0 0] }).objs.size ≠ s.heap.objs.size := by rw [hS]; exact Nat.succ_ne_self _
  have n2 : (s.heap.push { cls := .type "list_iterator", data := .fields #[.ref l, .int 0 0] }).objs.size ≠ l := by rw [hS]; exact (Nat.ne_of_lt (Nat.lt_succ_of_lt hlt)).symm
  have old : ∀ {g : Heap}, (∀ b o, b ≠ s.heap.objs.size → b ≠ (s.heap.push { cls := .type "list_iterator", data := .fields #[.ref l, .int 0 0] }).objs.size → ((s.heap.push { cls := .type "list_iterator", data := .fields #[.ref l, .int 0 0] }).push (seqObj "list" #[] 0)).get? b = some o → g.get? b = some o) → ∀ b o, s.heap.get? b = some o → g.get? b = some o := fun h b o q =>
    h b o (Nat.ne_of_lt (Heap.lt_size q)) (by rw [hS]; exact Nat.ne_of_lt (Nat.lt_succ_of_lt (Heap.lt_size q))) (Heap.get?_push_of_some _ (Heap.get?_push_of_some _ q))
  refine wpAny_pure ⟨plainId_quiet F.plain_max_loop _, ?_⟩
  exact mx_begin hd (Nat.ne_of_lt hlt) n1 n2 ⟨_, Heap.get?_push_of_some _ (Heap.get?_push_size _ rfl), rfl, rfl⟩ ((sl.push _).push _) (Heap.get?_push_size _ rfl) (fun h0 g tk hk => f0 h0 g tk (old hk)) fun g tk M u h1 hk => f1 g tk M u h1 (old hk)
end
/-- max(xs, default=d) -/
def rMaxDf (K : PySem.W.Frag) : List V → List V → Hp → VK → Prop := fun vs zs H Q => ∃ (a : Addr) (ns : List Int) (d : Int), vs = [.ref a] ∧ zs = [.int d] ∧ SqL K H a (ns.map V.int) ∧ ∀ m, (ns = [] ∧ m = d ∨ m ∈ ns ∧ ∀ y ∈ ns, y ≤ m) → Q (.int m) H
theorem cr_maxDf {X : Cx} (hc : X.calm = true) : CallRK X (.builtin "max") [Str.ofString "default"] (rMaxDf X.K) := by
  intro pins s σ H vs zs us ws Q I r rz h
  obtain ⟨a, ns, d, rfl, rfl, hs, q⟩ := h
  obtain ⟨its, rv, hl, _⟩ := I.list hs
  obtain rfl := Vals.ref1 r
  obtain ⟨w1, rfl, e1⟩ := vals1 rz
  obtain ⟨td, rfl⟩ : ∃ t, w1 = Value.int d t := e1
  have hi := rv.ints
  obtain ⟨xs, e⟩ := hi.allInts.items
  have hn : ns = xs.toList.map (·.1) := by rw [← hi.numsOf, ← nums_intItems, ← e]
  have hl2 := hl.isList
  rw [e] at hl2
  refine mx_call (I.ok.hd hc) hl2 (fun h0 g tk hk => ⟨.int _, H, I.kept hk, ⟨_, rfl⟩, q d (.inl ⟨?_, rfl⟩)⟩) (fun g tk M u hM hk => ⟨.int _, H, I.kept hk, ⟨_, rfl⟩, q M (.inr ⟨?_, fun y hy => ?_⟩)⟩)
  · rw [hn, Array.eq_empty_of_size_eq_zero h0]; rfl
  · obtain ⟨⟨i, h1, h2⟩, -⟩ := hM
    rw [← h2, hn, numAt_eq]
    exact PySem.getD_mem (by rw [List.length_map, Array.length_toList]; exact h1)
  · rw [hn] at hy
    obtain ⟨j, hj, rfl⟩ := mem_getD hy
    rw [List.length_map, Array.length_toList] at hj
    rw [← numAt_eq]
    exact hM.2 j hj
end Jl

/-! list(reversed(xs)). -/
namespace Jl
open PySem L2 PySem.Spec PyProof.Rows
theorem rev_nolen : typeLookup (.type "list_reverseiterator") "__len__" = pure none := by
  rw [typeLookup_type, builtinLookup_eq_fast]
  kernel_rfl
theorem rev_hint : typeLookup (.type "list_reverseiterator") "__length_hint__" = pure (some (.builtin "list_reverseiterator.__length_hint__")) := by
  rw [typeLookup_type, builtinLookup_eq_fast]
  kernel_rfl
section
variable {prog : Program} {w : World} {A : Around} {E : Value → Shared → Prop} {s : Shared}
theorem hint_rev {I l : Addr} {i : Int} {Q : Bool → Shared → Prop} (it : s.heap.IsRevIter I l i) (q : Q false s) : wpAny (model prog w) A (Builtin.List.listLengthHint (.ref I)) Q E s := by
  unfold Builtin.List.listLengthHint
  refine wpAny_bind (wpAny_specialOf it.typeIs rev_nolen ?_)
  show wpAny _ A (specialOf (Value.ref I) (Str.ofString "__length_hint__") >>= _) _ _ _
  refine wpAny_bind (wpAny_specialOf it.typeIs rev_hint ?_)
  generalize hname : ("list_reverseiterator.__length_hint__" : String) = nm
  wp_delta
  rw [show splitId nm = some ("list_reverseiterator", "__length_hint__") from by subst hname; decide +kernel]
  subst hname
  refine wpAny_bind (wpAny_isInstance (b := true) it.typeIs (by rw [isSubtype_type]; kernel_rfl) ?_)
  exact wpAny_pure q
/-- the walk of list(an iterator that walks a list backwards) -/
theorem list_rev {I l : Addr} {items : Array Value} {Q : Value → Shared → Prop} (hh : A.handled = none) (hne : l ≠ I) (it : s.heap.IsRevIter I l ((items.size : Int) - 1)) (hl : s.heap.IsList l items) (hn : items.size ≤ sizeLine)
    (q : ∀ h' tk acc c, (∀ b o, b ≠ I → s.heap.get? b = some o → h'.get? b = some o) → h'.get? s.heap.objs.size = some { cls := .type "list", dict := none, data := .seq acc c, slots := #[] } → ItemsOf (fun i v => items[items.size - 1 - i]? = some v) acc items.size → Q (.ref s.heap.objs.size) { s with heap := h', toks := tk }) :
    wpAny (model prog w) A (call (.type "list") [.ref I]) Q E s := by
  obtain ⟨oi, atI_, -⟩ := id it
  obtain ⟨ol, atL, -⟩ := id hl
  have ltI := Heap.lt_size atI_
  have ltL := Heap.lt_size atL
  have W := fun (B : Around) (hB : B.handled = none) => Walks.listRev (prog := prog) (w := w) (A := B) hB I l hne items
  refine callType_codes (Q₁ := fun obj s1 => obj = .ref s.heap.objs.size ∧ s1 = { s with heap := s.heap.push { cls := .type "list", data := .seq #[] } }) F.called_list (F.typeCall_list_1 _) F.entry_list_init (code_list_new _ ⟨rfl, rfl⟩) fun obj s1 made => ?_
  obtain ⟨rfl, rfl⟩ := made
  have new0 : (s.heap.push { cls := .type "list", data := .seq #[] }).get? s.heap.objs.size = some { cls := .type "list", data := .seq #[] } := Heap.get?_push_size _ rfl
  refine ⟨⟨_, new0, rfl⟩, F.args_list_init_2 _ _, ?_⟩
  show wpAny _ _ (do let old ← Builtin.List.listItems (.ref s.heap.objs.size); Builtin.List.listUpdate (.ref s.heap.objs.size) (fun _ => #[]); letGo old.toList.reverse; Builtin.List.listExtendWith (.ref s.heap.objs.size) (.ref I) .none) _ _ _
  refine wpAny_bind ?_
  unfold Builtin.List.listItems
  refine wpAny_bind (wpAny_seqItems new0 rfl (wpAny_pure ?_))
  show wpAny _ _ (updateSeq s.heap.objs.size (fun _ => #[]) >>= fun _ => letGo (#[] : Array Value).toList.reverse >>= fun _ => Builtin.List.listExtendWith (.ref s.heap.objs.size) (.ref I) .none) _ _ _
  refine wpAny_bind (wpAny_updateSeq new0 rfl ?_)
  have new1 := Heap.get?_update_self (Obj.mapSeq (fun _ => (#[] : Array Value))) new0 rfl
  refine wpAny_bind (wpAny_letGo ?_)
  have far : ∀ b o, s.heap.get? b = some o → ((s.heap.push { cls := .type "list", data := .seq #[] }).update s.heap.objs.size (Obj.mapSeq (fun _ => (#[] : Array Value)))).get? b = some o := fun b o e =>
    (Heap.get?_update_other _ _ (Nat.ne_of_gt (Heap.lt_size e))).trans (Heap.get?_push_of_some _ e)
  have nS : s.heap.objs.size ∉ [I, l] := fun m => by
    rcases List.mem_cons.mp m with e | e
    · exact Nat.ne_of_gt ltI e
    · exact Nat.ne_of_gt ltL (List.mem_singleton.mp e)
  have d1 : Builtin.List.listSameRef (.ref s.heap.objs.size) (.ref I) = false := by
    have : s.heap.objs.size ≠ I := Nat.ne_of_gt ltI
    simp [Builtin.List.listSameRef, this]
  generalize (s.heap.push { cls := .type "list", data := .seq #[] }).update s.heap.objs.size (Obj.mapSeq (fun _ => (#[] : Array Value))) = h1 at *
  have it1 : h1.IsRevIter I l ((items.size : Int) - 1) := it.at fun o e => far _ _ e
  have hl1 : h1.IsList l items := hl.at fun o e => far _ _ e
  unfold Builtin.List.listExtendWith
  refine wpAny_bind (wpAny_typeOf (s := { s with heap := h1 }) it1.typeIs ?_)
  rw [if_neg (by rw [d1]; decide)]
  refine wpAny_bind (wpAny_pyIter_revIter (s := { s with heap := h1 }) it1 ?_)
  refine wpAny_bind (wpAny_holding (hint_rev (s := { s with heap := h1 }) it1 ?_))
  rw [if_neg (by decide)]
  refine wpAny_pure ⟨plainId_quiet F.plain_extend_loop _, codeAny_extend_loopS (W A.in1.in1 hh).toS hn _ nS _ items.size 0 _ _ _ rfl (Nat.zero_le _) ⟨Nat.zero_le _, ?_, hl1⟩ new1 (ItemsOf.nil _) fun s' acc c hm at' hacc => ?_⟩
  · have e : (items.size : Int) - 1 - ((0 : Nat) : Int) = (items.size : Int) - 1 := by omega
    rw [e]
    exact it1
  · rw [Moved.eq_with hm] at at' ⊢
    refine ⟨rfl, q s'.heap s'.toks acc c (fun b o hb e => hm.heap b o (fun mem => ?_) (far b o e)) at' hacc⟩
    rcases List.mem_cons.mp mem with e' | mem
    · rw [e'] at e; exact Nat.lt_irrefl _ (Heap.lt_size e)
    · exact hb (List.mem_singleton.mp mem)
end
/-- list(reversed(x)), x a list: a new list -/
def tLstRev (K : PySem.W.Frag) (te : TE) : TE := fun σ H Q => te σ H fun v H1 => ∃ (a : Addr) (xs : List V), v = .ref a ∧ SqL K H1 a xs ∧ ∀ p, H1 p = none → Q (.ref p) (upd H1 p (.lst xs.reverse))
section
variable {X : Cx}
theorem pe_lstRev {e : Expr} {te : TE} {p p2 pos pos2 : Pos} (hc : X.calm = true) (hg : Gl X "list") (hm : X.mg "list" = none) (hg2 : Gl X "reversed") (hm2 : X.mg "reversed" = none) (he : PE X e te)
    (hs : starEach [e] X.env = (false, eval e X.env) :: starEach [] X.env := by rfl)
    (hs2 : starEach [.Call (.Name "reversed" p2) [e] [] pos2] X.env = (false, eval (.Call (.Name "reversed" p2) [e] [] pos2) X.env) :: starEach [] X.env := by rfl) :
    PE X (.Call (.Name "list" p) [.Call (.Name "reversed" p2) [e] [] pos2] [] pos) (tLstRev X.K te) := by
  constructor
  intro pins s σ H Q I h
  refine Call_ (ld_blt (u := .type "list") I hg hm (by decide +kernel) (PyProof.Rows.callWith_type1 (args_cons (Call_ (ld_blt I hg2 hm2 PyProof.Rows.boot_reversed (PyProof.Rows.callWith_type1 (args_cons (thn (he.run pins s σ H _ I h) fun u t1 ⟨v, H1, J, rv0, z⟩ => args_nil ?_) hs) hs rfl))) hs2) hs2 rfl))
  obtain ⟨a, xs, rfl, hq, q⟩ := z
  obtain rfl : u = Value.ref a := rv0
  obtain ⟨its, rv, pl, hz⟩ := J.list hq
  have hl := pl.isList
  refine call_reversed_list hl (args_nil ?_)
  obtain ⟨f0, f1, f2, f3, f4, f5⟩ := J.fpOk (H' := H1) (b := t1.heap.objs.size) (Nat.le_refl _) (J.hok.fresh (Nat.le_refl _))
  have J2 : Inv X pins σ H1 { t1 with heap := t1.heap.push (revObj a ((its.toArray.size : Int) - 1)) } := J.kept (t' := t1.toks) fun b o e => Heap.get?_push_of_some _ e
  obtain ⟨ol, atL, _⟩ := id hl
  have hsz : its.toArray.size ≤ sizeLine := by rw [List.size_toArray, ← rv.length]; exact hz
  refine list_rev (s := { t1 with heap := t1.heap.push (revObj a ((its.toArray.size : Int) - 1)) }) (J.ok.hd hc) (Nat.ne_of_lt (Heap.lt_size atL)) ⟨_, Heap.get?_push_size _ rfl, rfl, rfl⟩ (hl.push _) hsz fun h' tk acc c far at' hacc => ?_
  have J3 : Inv X pins σ H1 { t1 with heap := h', toks := tk } := J2.turned (t' := tk) (fun b o hb e => far b o hb e) f0 f1 f3 f4 f5
  have n0 := J2.hok.fresh (Nat.le_refl _)
  obtain ⟨g0, g1, g2, g3, g4, g5⟩ := J2.fpOk (H' := H1) (Nat.le_refl _) n0
  have z0 := Heap.get?_none_of_le (h := X.s_0.heap) (J2.sz)
  generalize ({ t1 with heap := t1.heap.push (revObj a ((its.toArray.size : Int) - 1)) } : Shared).heap.objs.size = n at *
  refine ⟨.ref n, upd H1 n (.lst xs.reverse), track J3 z0 n0 g1 g4 g5 ⟨by rw [List.length_reverse]; exact hz, acc.toList, c, RT.vals_rev rv hacc, ?_⟩, rfl, q _ n0⟩
  rw [Array.toArray_toList]
  exact at'
end
/-- step -/
theorem s_lstRev {K : PySem.W.Frag} {σ : L2.St} {H : Hp} {Q : VK} {te : TE} (z : te σ H fun v H1 => ∃ (a : Addr) (xs : List V), v = .ref a ∧ SqL K H1 a xs ∧ ∀ p, H1 p = none → Q (.ref p) (upd H1 p (.lst xs.reverse))) : tLstRev K te σ H Q := z
end Jl

/-! Pieces drawn for laying out; keys; where stretches lie. -/
namespace Jl
open PySem L2 PySem.Spec PyProof.Rows
section
variable {K : PySem.W.Frag} {H H' B F : Hp} {P a : Addr} {X : List Addr} {o : HO}
/-- a cell beside is written -/
theorem BP.updX {ps : List Piece} (h : BP K B F H P X ps) (ha : a ∈ X) : BP K B F (upd H a o) P X ps := by
  have ne : ∀ {b : Addr} {A1 A2 : List Addr}, (A1 ++ b :: A2).Nodup → X ⊆ A2 → b ≠ a := fun nd hs e => by
    rw [List.nodup_append] at nd
    exact (List.nodup_cons.mp nd.2.1).1 (hs (e ▸ ha))
  rcases h with ⟨rfl, h3, c⟩ | ⟨ps0, nm, ss, ns, xs, t, S, N, nv, rfl, h1, h2, h3, h4, h5, l⟩
  · exact .inl ⟨rfl, by rw [upd_ne (ne (A1 := []) c.nd fun _ h => h)]; exact h3, c.upd (List.mem_cons_of_mem _ ha)⟩
  · obtain ⟨A, cl⟩ := l.act
    have nd := cl.nd
    have nP : P ≠ a := ne (A1 := A ++ [S, N]) (A2 := X) (by rw [List.append_assoc]; exact nd) fun _ h => h
    have nN : N ≠ a := ne (A1 := A ++ [S]) (A2 := P :: X) (by rw [List.append_assoc]; exact nd) fun _ h => List.mem_cons_of_mem _ h
    have nS : S ≠ a := ne (A1 := A) (A2 := N :: P :: X) nd fun _ h => List.mem_cons_of_mem _ (List.mem_cons_of_mem _ h)
    refine .inr ⟨ps0, nm, ss, ns, xs, t, S, N, nv, rfl, by rw [upd_ne nP]; exact h1, h2, h3, by rw [upd_ne nN]; exact h4, h5, ?_⟩
    rcases l with ⟨rfl, l1, c⟩ | ⟨ss0, kind, step, ws, fs, sv, u, W, G, gv, rfl, g1, g2, g3, g4, g5, g6, c⟩
    · exact .inl ⟨rfl, by rw [upd_ne nS]; exact l1, c.upd (List.mem_cons_of_mem _ (List.mem_cons_of_mem _ (List.mem_cons_of_mem _ ha)))⟩
    · have ndc := c.nd
      have nW : W ≠ a := ne (A1 := []) (A2 := G :: S :: N :: P :: X) ndc fun _ h => List.mem_cons_of_mem _ (List.mem_cons_of_mem _ (List.mem_cons_of_mem _ (List.mem_cons_of_mem _ h)))
      have nG : G ≠ a := ne (A1 := [W]) (A2 := S :: N :: P :: X) ndc fun _ h => List.mem_cons_of_mem _ (List.mem_cons_of_mem _ (List.mem_cons_of_mem _ h))
      exact .inr ⟨ss0, kind, step, ws, fs, sv, u, W, G, gv, rfl, by rw [upd_ne nS]; exact g1, g2, g3, by rw [upd_ne nW]; exact g4, by rw [upd_ne nG]; exact g5, g6, c.upd (by simp [ha])⟩
/-- a stretch with its words is put behind -/
theorem BP.streW {ps0 : List Piece} {nm : Str} {ss : List Stre} {ns : List Nam} (h : BP K B F H P X (ps0 ++ [⟨nm, ss, ns⟩])) {W G u : Addr} {kind : Str} {step : Int} {ws : List Int} (hW : H W = none) (hG : upd H W (.lst (ws.map V.int)) G = none) (hu : upd (upd H W (.lst (ws.map V.int))) G (.lst []) u = none) :
    ∃ xs t S N sv, H P = some (.lst (xs ++ [.ref t])) ∧ H t = some (.tup [.str nm, .ref S, .ref N]) ∧ H S = some (.lst sv) ∧ sv.length = ss.length ∧ (upd (upd (upd H W (.lst (ws.map V.int))) G (.lst [])) u (.tup [.str kind, .int step, .ref W, .ref G])) S = some (.lst sv) ∧
    ∃ F', Same F F' ∧ BP K B F' (upd (upd (upd (upd H W (.lst (ws.map V.int))) G (.lst [])) u (.tup [.str kind, .int step, .ref W, .ref G])) S (.lst (sv ++ [.ref u]))) P X (ps0 ++ [⟨nm, ss ++ [⟨kind, step, ws, []⟩], ns⟩]) := by
  obtain ⟨xs, t, S, N, nv, h1, h2, h3, h4, h5, l⟩ := h.open_
  have ht := h.ext _ _ h3
  obtain ⟨F1, sv, f1, c1, hS, hsv⟩ := l.close
  have c2 := c1.newA (o := .lst (ws.map V.int)) hW
  have c3 := c2.newA (o := .lst []) hG
  have c4 := c3.new (o := .tup [.str kind, .int step, .ref W, .ref G]) hu
  have f4 := same_upd (o := .tup [.str kind, .int step, .ref W, .ref G]) (c3.ext.free hu)
  have s := (same_upd (o := .lst (ws.map V.int)) hW).trans ((same_upd (o := .lst []) hG).trans (same_upd (o := .tup [.str kind, .int step, .ref W, .ref G]) hu))
  have c5 := c4.upd (a := S) (o := .lst (sv ++ [.ref u])) (by simp)
  have nd := c4.nd
  have f14 := f1.trans f4
  refine ⟨xs, t, S, N, sv, h1, ht, hS, da_length hsv, s _ _ hS, _, f14, .inr ⟨ps0, nm, _, ns, xs, t, S, N, nv, rfl, ?_, dps_same f14 h2, f14 _ _ h3, ?_, dps_same f14 h5, .inr ⟨ss, kind, step, ws, [], sv, u, W, G, [], rfl, upd_same, dps_same f4 hsv, upd_same, ?_, ?_, .nil, c5.perm (List.Perm.swap ..)⟩⟩⟩
  · rw [upd_ne (nd_ne nd 2 4 (by decide) rfl rfl).symm]; exact s _ _ h1
  · rw [upd_ne (nd_ne nd 2 3 (by decide) rfl rfl).symm]; exact s _ _ h4
  · rw [upd_ne (nd_ne nd 1 2 (by decide) rfl rfl)]
    exact same_upd hu _ _ (same_upd hG _ _ upd_same)
  · rw [upd_ne (nd_ne nd 0 2 (by decide) rfl rfl)]
    exact same_upd hu _ _ upd_same
end
section
variable {K : PySem.W.Frag} {H B F : Hp} {P b t S N : Addr} {X : List Addr} {ps0 ps : List Piece} {nm : Str} {ss : List Stre} {ns : List Nam} {xs : List V}
theorem BP.neP (h : BP K B F H P X ps) (hb : b ∈ X) : b ≠ P := fun e => by
  obtain ⟨A, c⟩ := h.act
  have nd := c.nd
  rw [List.nodup_append] at nd
  exact (List.nodup_cons.mp nd.2.1).1 (e ▸ hb)
theorem BP.neS (h : BP K B F H P X (ps0 ++ [⟨nm, ss, ns⟩])) (h1 : H P = some (.lst (xs ++ [.ref t]))) (h2 : H t = some (.tup [.str nm, .ref S, .ref N])) (hb : b ∈ X) : b ≠ S := fun e => by
  obtain ⟨xs', t', S', N', nv, g1, _, g3, _, _, l⟩ := h.open_
  obtain ⟨-, rfl⟩ := last_uniq h1 g1
  have g3 := h.ext _ _ g3
  rw [h2] at g3
  cases g3
  obtain ⟨A, c⟩ := l.act
  have nd := c.nd
  rw [List.nodup_append] at nd
  exact (List.nodup_cons.mp nd.2.1).1 (List.mem_cons_of_mem _ (List.mem_cons_of_mem _ (e ▸ hb)))
end
section
variable {K : PySem.W.Frag} {σ : L2.St} {H : Hp} {nx bk ct : L2.St → Hp → Prop} {rt : VK} {tu : TS}
/-- a loop over a list that was made for it; cells are written -/
theorem s_forNew {g : TG} {tl : TE} {xs : List V} (M : Addr → Hp → Prop) (Pv : Addr → Nat → L2.St → Hp → Prop) (ha : ∀ R : VK, (∀ a H1, M a H1 → R (.ref a) H1) → tl σ H R) (h0 : ∀ a H1, M a H1 → SqL K H1 a xs ∧ Pv a 0 σ H1)
    (hl : ∀ a i σ' H', i ≤ xs.length → Pv a i σ' H' → SqL K H' a xs)
    (hs : ∀ a (i : Nat) x σ' H', xs[i]? = some x → Pv a i σ' H' → g x σ' H' fun σ2 H2 => tu ⟨Pv a (i + 1), rt, nx, Pv a (i + 1)⟩ σ2 H2) (hd : ∀ a σ' H', Pv a xs.length σ' H' → nx σ' H') : tFor (iList K tl) g tu ⟨nx, rt, bk, ct⟩ σ H := by
  refine ha _ fun a H1 hM => ?_
  obtain ⟨h1, h2⟩ := h0 a H1 hM
  exact ⟨a, rfl, ⟨xs, h1⟩, for_list (xs := xs) (Pv a) h2 (hl a) (fun i x σ' H' hi h => hs a i x σ' H' hi h) (hd a)⟩
/-- the same, the list's items told by what is made -/
theorem s_forAny {g : TG} {tl : TE} (M : Addr → List V → Hp → Prop) (Pv : Addr → List V → Nat → L2.St → Hp → Prop) (ha : ∀ R : VK, (∀ a xs H1, M a xs H1 → R (.ref a) H1) → tl σ H R) (h0 : ∀ a xs H1, M a xs H1 → SqL K H1 a xs ∧ Pv a xs 0 σ H1)
    (hl : ∀ a xs i σ' H', i ≤ xs.length → Pv a xs i σ' H' → SqL K H' a xs)
    (hs : ∀ a xs (i : Nat) x σ' H', xs[i]? = some x → Pv a xs i σ' H' → g x σ' H' fun σ2 H2 => tu ⟨Pv a xs (i + 1), rt, nx, Pv a xs (i + 1)⟩ σ2 H2) (hd : ∀ a xs σ' H', Pv a xs xs.length σ' H' → nx σ' H') : tFor (iList K tl) g tu ⟨nx, rt, bk, ct⟩ σ H := by
  refine ha _ fun a xs H1 hM => ?_
  obtain ⟨h1, h2⟩ := h0 a xs H1 hM
  exact ⟨a, rfl, ⟨xs, h1⟩, for_list (xs := xs) (Pv a xs) h2 (hl a xs) (fun i x σ' H' hi h => hs a xs i x σ' H' hi h) (hd a xs)⟩
end
section
variable {K : PySem.W.Frag} {σ : L2.St} {H B G : Hp} {Q : VK} {A : List Addr}
theorem s_lcH {g : TG} {tt : TT} {te tl : TE} {vs : List Nat} {xs : List V} (c0 : Act B G H A) (d : Nat → Option PyData) (hl : xs.length ≤ 100000) (ha : ∀ R : VK, (∀ a G1 H1, Act B G1 H1 A → Same G G1 → Same H H1 → SqL K G1 a xs → R (.ref a) H1) → tl σ H R)
    (hs : ∀ (i : Nat) x D G1 H1 (Rs : VK) (Rn : Hp → Prop), xs[i]? = some x → Act B G1 H1 (D :: A) → Same G G1 → Same H H1 → (∀ v G2 H2 dd, Same G1 G2 → Act B G2 H2 (D :: A) → Same H1 H2 → d i = some dd → Dp K G2 v dd → Rs v H2) → (∀ G2 H2, Same G1 G2 → Act B G2 H2 (D :: A) → Same H1 H2 → d i = none → Rn H2) →
      g x (wipe σ vs) H1 fun σ2 H2 => wipe σ2 vs = wipe σ vs ∧ tt σ2 H2 fun b H3 => if b = true then te σ2 H3 Rs else Rn H3)
    (z : ∀ p G1 H1 us, Act B G1 H1 (p :: A) → Same G G1 → Same H H1 → H1 p = some (.lst us) → DpAll K G1 us ((List.range xs.length).filterMap d) → us.length ≤ xs.length → Q (.ref p) H1) : tLc (iList K tl) g tt te vs σ H Q := by
  refine ha _ fun a G0 H0 cA sG0 s0 hx => ⟨a, rfl, ⟨xs, cA.ext.seq hx⟩, fun D hD => ?_⟩
  have cD := cA.newA (o := .lst []) hD
  refine lc_list (xs := xs) (fun i H' => i ≤ xs.length ∧ ∃ G1 us, Same G0 G1 ∧ Same H0 H' ∧ Act B G1 H' (D :: A) ∧ H' D = some (.lst us) ∧ us.length ≤ i ∧ DpAll K G1 us ((List.range i).filterMap d)) ⟨Nat.zero_le _, G0, [], Same.refl _, same_upd hD, cD, upd_same, Nat.le_refl _, .nil⟩ (fun i H' _ h => ?_) (fun i x H1 hi h => ?_) (fun H1 h => ?_)
  · obtain ⟨_, G1, us, sG, _, c, _⟩ := h
    exact c.ext.seq (sG.seq hx)
  · obtain ⟨_, G1, us, sG, sH, c, hus, hul, hda⟩ := h
    have hi' : i < xs.length := (List.getElem?_eq_some_iff.mp hi).1
    refine hs i x D G1 H1 _ _ hi c (sG0.trans sG) (s0.trans sH) (fun v G2 H2 dd sG2 c2 s12 hd hv => ?_) (fun G2 H2 sG2 c2 s12 hd => ?_)
    · refine ⟨us, s12 _ _ hus, small5' (by omega), hi', G2, us ++ [v], sG.trans sG2, same_mut (sH.trans s12) hD, c2.upd (by simp), upd_same, by rw [List.length_append, List.length_singleton]; omega, ?_⟩
      rw [List.range_succ, List.filterMap_append]
      refine da_app (dps_same sG2 hda) ?_
      show DpAll K G2 [v] ([i].filterMap d)
      rw [List.filterMap_cons, hd]
      exact da_one hv
    · refine ⟨hi', G2, us, sG.trans sG2, sH.trans s12, c2, s12 _ _ hus, by omega, ?_⟩
      rw [List.range_succ, List.filterMap_append]
      show DpAll K G2 us (_ ++ [i].filterMap d)
      rw [List.filterMap_cons, hd]
      show DpAll K G2 us (_ ++ [])
      rw [List.append_nil]
      exact dps_same sG2 hda
  · obtain ⟨_, G1, us, sG, sH, c, hus, hul, hda⟩ := h
    exact z D G1 H1 us c (sG0.trans sG) (s0.trans sH) hus hda hul
theorem Act.ice {p : Addr} {o : HO} (c : Act B G H (p :: A)) (e : H p = some o) : ∃ G', Act B G' H A ∧ Same G G' ∧ G' p = some o := ⟨_, c.fz e, c.fz_same, upd_same⟩
end
theorem s_ckw {σ : L2.St} {H : Hp} {Q : VK} {r : List V → List V → Hp → VK → Prop} {t tk : TA} (z : t σ H fun vs H1 => tk σ H1 fun zs H2 => r vs zs H2 Q) : tCKw r t tk σ H Q := z
theorem rep_ints (n : Nat) (x : Int) : (List.replicate n [V.int x]).flatten = (List.replicate n x).map V.int := by
  induction n with
  | zero => rfl
  | succ n ih => rw [List.replicate_succ, List.flatten_cons, ih, List.replicate_succ]; rfl
theorem cutV_from (xs : List V) (i : Nat) (h : i ≤ xs.length) : cutV xs (some (i : Int)) none = xs.drop i := by
  unfold cutV
  rw [HT.sIx_nat, HT.sIx_none, Nat.min_eq_left h]
  exact List.take_of_length_le (by rw [List.length_drop]; omega)
theorem cutV_to (xs : List V) (i : Nat) (h : i ≤ xs.length) : cutV xs none (some (i : Int)) = xs.take i := by
  unfold cutV
  rw [HT.sIx_nat, HT.sIx_none, Nat.min_eq_left h, List.drop_zero, Nat.sub_zero]
/-! names by a base with figures in it -/
def nqIx (c : Int) (j : Nat) : Int := (c / ((j : Int) + 3) + (j : Int) * (j : Int)) % (37 - 11 * (if (j : Int) = 0 then 1 else 0))
def nqB (c : Int) : List Nat := (List.range (1 + c % 13).toNat).map fun j => sgns.cps.toList.getD (nqIx c j).toNat 0
def nqF (c k : Int) : Str := if c / 169 % 2 = 1 then Txt.zfill (toString (k % 400)) 3 else toString (k % 400)
def nqAt (c : Int) : Nat := (1 + c / 13 % (1 + c % 13)).toNat
def nqL (c k : Int) : List Nat := (nqB c).take (nqAt c) ++ (nqF c k).cps.toList ++ (nqB c).drop (nqAt c)
def nqT (c k : Int) : Str := ⟨(nqL c k).toArray⟩
theorem nqIx_ok (c : Int) (j : Nat) : 0 ≤ nqIx c j ∧ nqIx c j < 37 := by
  unfold nqIx
  by_cases h : (j : Int) = 0
  · rw [if_pos h]
    have h1 := Int.emod_nonneg (c / ((j : Int) + 3) + (j : Int) * (j : Int)) (show (37 - 11 * 1 : Int) ≠ 0 by decide)
    have h2 := Int.emod_lt_of_pos (c / ((j : Int) + 3) + (j : Int) * (j : Int)) (show (0 : Int) < 37 - 11 * 1 by decide)
    omega
  · rw [if_neg h]
    have h1 := Int.emod_nonneg (c / ((j : Int) + 3) + (j : Int) * (j : Int)) (show (37 - 11 * 0 : Int) ≠ 0 by decide)
    have h2 := Int.emod_lt_of_pos (c / ((j : Int) + 3) + (j : Int) * (j : Int)) (show (0 : Int) < 37 - 11 * 0 by decide)
    omega
theorem nqB_len (c : Int) : (nqB c).length = (1 + c % 13).toNat := by unfold nqB; rw [List.length_map, List.length_range]
theorem fig_ok (b : Bool) : ∀ n : Nat, n < 101 → (if b then Txt.zfill (toString (n : Int)) 3 else toString (n : Int) : Str).cps.toList.all (fun x => decide (x < 128)) = true ∧ (if b then Txt.zfill (toString (n : Int)) 3 else toString (n : Int) : Str).cps.toList.length ≤ 3 := by
  have h : (List.range 101).all (fun n => (if b then Txt.zfill (toString (n : Int)) 3 else toString (n : Int) : Str).cps.toList.all (fun x => decide (x < 128)) && decide ((if b then Txt.zfill (toString (n : Int)) 3 else toString (n : Int) : Str).cps.toList.length ≤ 3)) = true := by cases b <;> decide +kernel
  intro n hn
  have := List.all_eq_true.mp h n (List.mem_range.mpr hn)
  rw [Bool.and_eq_true, decide_eq_true_eq] at this
  exact this
theorem nqF_is {c k : Int} (h0 : 0 ≤ k) (h1 : k < 101) : nqF c k = (if decide (c / 169 % 2 = 1) then Txt.zfill (toString ((k.toNat : Nat) : Int)) 3 else toString ((k.toNat : Nat) : Int) : Str) := by
  unfold nqF
  have e : k % 400 = ((k.toNat : Nat) : Int) := by omega
  rw [e]
  simp only [decide_eq_true_eq]
theorem nqT_ok {c k : Int} (h0 : 0 ≤ k) (h1 : k < 101) : okS (nqT c k) := by
  show (nqT c k).cps.all (· < 0x110000) = true
  rw [← Array.all_toList, List.all_eq_true]
  intro x hx
  have hx : x ∈ nqL c k := hx
  have hB : ∀ x ∈ nqB c, x < 128 := fun x hx => by
    obtain ⟨j, _, rfl⟩ := List.mem_map.mp hx
    have h := nqIx_ok c j
    have hi : (nqIx c j).toNat < sgns.cps.toList.length := by rw [sgns_len]; omega
    rw [List.getD_eq_getElem?_getD, List.getElem?_eq_getElem hi]
    exact sgns_ok _ (List.getElem_mem hi)
  have hlt : x < 128 := by
    rcases List.mem_append.mp hx with hx | hx
    · rcases List.mem_append.mp hx with hx | hx
      · exact hB x (List.mem_of_mem_take hx)
      · rw [nqF_is h0 h1] at hx
        exact of_decide_eq_true (List.all_eq_true.mp (fig_ok _ k.toNat (by omega)).1 x hx)
    · exact hB x (List.mem_of_mem_drop hx)
  exact decide_eq_true (by omega)
def rZf : V → List V → Hp → VK → Prop := fun x xs H Q => ∃ (a : Str) (i : Int), x = .str a ∧ xs = [.int i] ∧ PadOk i = true ∧ Q (.str (Txt.zfill a i)) H
theorem mt_zf {X : Cx} : MtR X "str.zfill" rZf := L2.mt_zfill
theorem s_zf {a : Str} {H : Hp} {Q : VK} (z : Q (.str (Txt.zfill a 3)) H) : rZf (.str a) [.int 3] H Q := ⟨a, 3, rfl, rfl, by decide +kernel, z⟩
theorem cutS_to (z : Str) (i : Nat) (h : i ≤ z.length) : (cutS z none (some (i : Int))).cps.toList = z.cps.toList.take i := by
  show (List.take _ (List.drop 0 z.cps.toList)) = _
  rw [HT.sIx_none, HT.sIx_nat, Nat.min_eq_left h, List.drop_zero, Nat.sub_zero]
theorem cutS_from (z : Str) (i : Nat) (h : i ≤ z.length) : (cutS z (some (i : Int)) none).cps.toList = z.cps.toList.drop i := by
  show (List.take _ (List.drop _ z.cps.toList)) = _
  rw [HT.sIx_none, HT.sIx_nat, Nat.min_eq_left h]
  exact List.take_of_length_le (by rw [List.length_drop, len_list]; omega)
theorem nqAt_ok (c : Int) : 1 ≤ nqAt c ∧ nqAt c ≤ (1 + c % 13).toNat := by
  have h1 := Int.emod_nonneg (c / 13) (show (1 + c % 13) ≠ 0 by omega)
  have h2 := Int.emod_lt_of_pos (c / 13) (show 0 < (1 + c % 13) by omega)
  unfold nqAt
  omega
theorem nqT_cut {n : Str} {c k : Int} (hn : n.cps.toList = nqB c) : (cutS n none (some (nqAt c : Int)) ++ nqF c k) ++ cutS n (some (nqAt c : Int)) none = nqT c k := by
  have hl : n.length = (1 + c % 13).toNat := by rw [← len_list, hn, nqB_len]
  have ha := nqAt_ok c
  refine str_ext ?_
  rw [cps_app, cps_app, cutS_to _ _ (by omega), cutS_from _ _ (by omega), hn]
  rfl
theorem log_small {i : Int} (h0 : 0 ≤ i) (h : i < 2 ^ 64) : i.natAbs.log2 < 1920 := by
  have h1 : i.natAbs < 2 ^ 64 := by omega
  rcases Nat.eq_zero_or_pos i.natAbs with e | e
  · rw [e]; decide
  · have := (Nat.log2_lt (by omega)).mpr h1
    omega
theorem s_strI {i : Int} {H : Hp} {Q : VK} (z : Q (.str (toString i)) H) (h0 : 0 ≤ i) (h : i < 2 ^ 64) : rStrI [.int i] H Q := ⟨i, rfl, log_small h0 h, z⟩
theorem nqT_len {c k : Int} (h0 : 0 ≤ k) (h1 : k < 101) : (nqF c k).cps.toList.length ≤ 3 := by
  rw [nqF_is h0 h1]
  exact (fig_ok _ k.toNat (by omega)).2
/-! what a law draws -/
structure KS (mx : Nat) (s : Stre) : Prop where
  kind : isKind s.kind
  step : ∃ j : Nat, j ≤ 16 ∧ s.step = 2 ^ j
  words : s.words.length ≤ mx
  fills : s.fills = []
def pnm (tb : Int) (k : Nat) : Str := if k = 0 then "none" else nqT tb ((k : Int) * 37 % 101)
structure LD (tb : Int) (mx n : Nat) (ps : List Piece) : Prop where
  name : ∀ (k : Nat) p, ps[k]? = some p → p.name = pnm tb k
  stres : ∀ p ∈ ps, (∀ s ∈ p.stres, KS mx s) ∧ p.names = []
  len : 1 ≤ ps.length ∧ ps.length ≤ 100
  cnt : (knownF ps).length = n
  first : ∀ p, ps[0]? = some p → p.stres = []
theorem pnm_ok (tb : Int) (k : Nat) : okS (pnm tb k) := by
  unfold pnm
  split
  · show PyData.canLay0 _ = true; decide +kernel
  · exact nqT_ok (by omega) (by omega)
theorem KS.ok {mx : Nat} {s : Stre} (h : KS mx s) : s.ok := ⟨kind_ok h.kind, fun f hf => by rw [h.fills] at hf; cases hf⟩
theorem KS.pos {mx : Nat} {s : Stre} (h : KS mx s) : 0 < s.step ∧ s.step ≤ 65536 := by
  obtain ⟨j, hj, e⟩ := h.step
  rw [e]
  have h1 := two_pow_pos j
  have h2 : (2 : Int) ^ j ≤ 2 ^ 16 := by
    have := Nat.pow_le_pow_right (n := 2) (by decide) hj
    have e : ((2 ^ j : Nat) : Int) ≤ ((2 ^ 16 : Nat) : Int) := Int.ofNat_le.mpr this
    simpa using e
  exact ⟨h1, by simpa using h2⟩
theorem LD.ok {tb : Int} {mx n : Nat} {ps : List Piece} (h : LD tb mx n ps) : ∀ p ∈ ps, p.ok := fun p hp => by
  obtain ⟨k, hk⟩ := List.getElem?_of_mem hp
  exact ⟨by rw [h.name k p hk]; exact pnm_ok _ _, fun s hs => ((h.stres p hp).1 s hs).ok, fun m hm => by rw [(h.stres p hp).2] at hm; cases hm⟩
theorem stresL_keys {t : Str} : ∀ {a : List Stre} {i : Nat} {x : KY × PyData}, x ∈ stresL t i a → ∃ j s, a[j]? = some s ∧ x = ((t, ((i + j : Nat) : Int)), streD s)
  | [], _, _, h => by cases h
  | s :: a, i, x, h => by
    rcases List.mem_cons.mp h with rfl | h
    · exact ⟨0, s, rfl, rfl⟩
    · obtain ⟨j, s', h1, h2⟩ := stresL_keys h
      exact ⟨j + 1, s', by simpa using h1, by rw [h2, show i + 1 + j = i + (j + 1) by omega]⟩
theorem knownF_app (a b : List Piece) : knownF (a ++ b) = knownF a ++ knownF b := by unfold knownF; rw [List.flatMap_append]
theorem knownF_one (p : Piece) : knownF [p] = stresL p.name 0 p.stres := by unfold knownF; rw [List.flatMap_cons, List.flatMap_nil, List.append_nil]
theorem knownF_piece (ps : List Piece) (nm : Str) (ns : List Nam) : knownF (ps ++ [⟨nm, [], ns⟩]) = knownF ps := by rw [knownF_app, knownF_one]; exact List.append_nil _
theorem knownF_stre' (ps0 : List Piece) (nm : Str) (ss : List Stre) (s : Stre) (ns : List Nam) : knownF (ps0 ++ [⟨nm, ss ++ [s], ns⟩]) = knownF (ps0 ++ [⟨nm, ss, ns⟩]) ++ [((nm, (ss.length : Int)), streD s)] := by
  rw [knownF_app, knownF_one, knownF_app, knownF_one, List.append_assoc]
  show _ ++ stresL nm 0 (ss ++ [s]) = _ ++ (stresL nm 0 ss ++ _)
  rw [stresL_app, Nat.zero_add]; rfl
theorem LD.start {tb : Int} {mx : Nat} : LD tb mx 0 [⟨"none", [], []⟩] := by
  refine ⟨fun k p h => ?_, fun p hp => ?_, by decide, rfl, fun p h => by cases h; rfl⟩
  · cases k with
    | zero => cases h; rfl
    | succ k => cases h
  · cases List.mem_singleton.mp hp; exact ⟨fun _ h => (nomatch h), rfl⟩
theorem LD.piece {tb : Int} {mx n : Nat} {ps : List Piece} (h : LD tb mx n ps) (hl : ps.length < 100) : LD tb mx n (ps ++ [⟨nqT tb ((ps.length : Int) * 37 % 101), [], []⟩]) := by
  have h0 := h.len
  refine ⟨fun k p hp => ?_, fun p hp => ?_, by rw [List.length_append, List.length_singleton]; omega, by rw [knownF_piece]; exact h.cnt, fun p hp => h.first p (by rw [List.getElem?_append_left (by omega)] at hp; exact hp)⟩
  · rcases Nat.lt_or_ge k ps.length with hk | hk
    · rw [List.getElem?_append_left hk] at hp; exact h.name k p hp
    · rw [List.getElem?_append_right hk] at hp
      rcases Nat.eq_zero_or_pos (k - ps.length) with h1 | h1
      · rw [h1] at hp
        cases hp
        have : k = ps.length := by omega
        rw [this]
        show _ = pnm tb ps.length
        unfold pnm
        rw [if_neg (by omega)]
      · rw [List.getElem?_eq_none (by rw [List.length_singleton]; omega)] at hp; cases hp
  · rcases List.mem_append.mp hp with hp | hp
    · exact h.stres p hp
    · cases List.mem_singleton.mp hp; exact ⟨fun _ h => (nomatch h), rfl⟩
theorem LD.stre {tb : Int} {mx n : Nat} {ps0 : List Piece} {nm : Str} {ss : List Stre} {ns : List Nam} {s : Stre} (h : LD tb mx n (ps0 ++ [⟨nm, ss, ns⟩])) (hs : KS mx s) (h0 : 1 ≤ ps0.length) : LD tb mx (n + 1) (ps0 ++ [⟨nm, ss ++ [s], ns⟩]) := by
  refine ⟨fun k p hp => ?_, fun p hp => ?_, by have := h.len; rw [List.length_append] at this ⊢; exact this, by rw [knownF_stre', List.length_append, h.cnt]; rfl, fun p hp => h.first p (by rw [List.getElem?_append_left (by omega)] at hp ⊢; exact hp)⟩
  · rcases Nat.lt_or_ge k ps0.length with hk | hk
    · rw [List.getElem?_append_left hk] at hp
      exact h.name k p (by rw [List.getElem?_append_left hk]; exact hp)
    · rw [List.getElem?_append_right hk] at hp
      rcases Nat.eq_zero_or_pos (k - ps0.length) with h1 | h1
      · rw [h1] at hp
        cases hp
        exact h.name k ⟨nm, ss, ns⟩ (by rw [List.getElem?_append_right hk, h1]; rfl)
      · rw [List.getElem?_eq_none (by rw [List.length_singleton]; omega)] at hp; cases hp
  · rcases List.mem_append.mp hp with hp | hp
    · exact h.stres p (List.mem_append_left _ hp)
    · cases List.mem_singleton.mp hp
      have h1 := h.stres ⟨nm, ss, ns⟩ (List.mem_append_right _ (List.mem_singleton.mpr rfl))
      refine ⟨fun x hx => ?_, h1.2⟩
      rcases List.mem_append.mp hx with hx | hx
      · exact h1.1 x hx
      · cases List.mem_singleton.mp hx; exact hs
theorem flat_le {α β : Type} (f : α → List β) : ∀ {l : List α} {x : α}, x ∈ l → (f x).length ≤ (l.flatMap f).length
  | y :: l, x, h => by
    rw [List.flatMap_cons, List.length_append]
    rcases List.mem_cons.mp h with rfl | h
    · omega
    · have := flat_le f h; omega
theorem LD.few {tb : Int} {mx n : Nat} {ps : List Piece} (h : LD tb mx n ps) {p : Piece} (hp : p ∈ ps) : p.stres.length ≤ n := by
  have h1 := flat_le (fun p : Piece => stresL p.name 0 p.stres) hp
  rw [stresL_len] at h1
  have h2 : (knownF ps).length = n := h.cnt
  unfold knownF at h2
  omega
/-- a key of these pieces -/
theorem known_of {ps : List Piece} {P : Stre → Prop} (hP : ∀ p ∈ ps, ∀ s ∈ p.stres, P s) {k : KY} (hk : k ∈ (knownF ps).map (·.1)) : ∃ s, lookL (knownL ps) k = some (streD s) ∧ P s := by
  cases e : lookL (knownL ps) k with
  | none => exact absurd e (putA_some (knownF ps) [] (.inr hk))
  | some d =>
    obtain ⟨s, h1, rfl⟩ := knownL_stre hP e
    exact ⟨s, rfl, h1⟩
/-- what a law's keys are -/
structure LK (ps : List Piece) (ks : List KY) : Prop where
  sub : ∃ ks0, ks.Perm ks0 ∧ ks0.Sublist ((knownF ps).map (·.1))
theorem LK.mem {ps : List Piece} {ks : List KY} (h : LK ps ks) {k : KY} (hk : k ∈ ks) : k ∈ (knownF ps).map (·.1) := by
  obtain ⟨ks0, h1, h2⟩ := h.sub
  exact h2.subset (h1.mem_iff.mp hk)
theorem LK.len {ps : List Piece} {ks : List KY} (h : LK ps ks) : ks.length ≤ (knownF ps).length := by
  obtain ⟨ks0, h1, h2⟩ := h.sub
  have := h2.length_le
  rw [List.length_map] at this
  rw [h1.length_eq]; exact this
theorem LK.perm {ps : List Piece} {ks ks' : List KY} (h : LK ps ks) (hp : ks'.Perm ks) : LK ps ks' := by
  obtain ⟨ks0, h1, h2⟩ := h.sub
  exact ⟨ks0, hp.trans h1, h2⟩
theorem sub_perm {α : Type} {l m : List α} (h : l.Perm m) : ∀ {k : List α}, k.Sublist l → ∃ k', k.Perm k' ∧ k'.Sublist m := by
  induction h with
  | nil => exact fun {k} h => ⟨k, .refl _, h⟩
  | cons x _ ih =>
    intro k h
    cases h with
    | cons _ h =>
      obtain ⟨k', h1, h2⟩ := ih h
      exact ⟨k', h1, h2.cons _⟩
    | cons_cons _ h =>
      obtain ⟨k', h1, h2⟩ := ih h
      exact ⟨x :: k', h1.cons x, h2.cons_cons _⟩
  | swap x y l =>
    intro k h
    cases h with
    | cons _ h =>
      cases h with
      | cons _ h => exact ⟨_, .refl _, (h.cons _).cons _⟩
      | cons_cons _ h => exact ⟨_, .refl _, (h.cons _).cons_cons _⟩
    | cons_cons _ h =>
      cases h with
      | cons _ h => exact ⟨_, .refl _, (h.cons_cons _).cons _⟩
      | cons_cons _ h => exact ⟨_, .swap .., (h.cons_cons _).cons_cons _⟩
  | trans _ _ ih1 ih2 =>
    intro k h
    obtain ⟨k1, h1, h2⟩ := ih1 h
    obtain ⟨k2, h3, h4⟩ := ih2 h2
    exact ⟨k2, h1.trans h3, h4⟩
theorem LK.subl {ps : List Piece} {ks ks' : List KY} (h : LK ps ks) (hp : ks'.Sublist ks) : LK ps ks' := by
  obtain ⟨ks0, h1, h2⟩ := h.sub
  obtain ⟨ks1, h3, h4⟩ := sub_perm h1 hp
  exact ⟨ks1, h3, h4.trans h2⟩
/-! where stretches lie -/
def upS (e st : Int) : Int := (e + st - 1) / st * st
def nextE (f : KY → Stre) (e : Int) (k : KY) : Int := upS e (f k).step + ((f k).words.length : Int)
def endK (f : KY → Stre) (e : Int) (ks : List KY) : Int := ks.foldl (nextE f) e
def placesK (f : KY → Stre) : Int → List KY → List (KY × Int)
  | _, [] => []
  | e, k :: ks => (k, upS e (f k).step) :: placesK f (nextE f e k) ks
theorem endK_snoc (f : KY → Stre) (e : Int) (ks : List KY) (k : KY) : endK f e (ks ++ [k]) = nextE f (endK f e ks) k := by unfold endK; rw [List.foldl_append]; rfl
theorem placesK_snoc (f : KY → Stre) : ∀ (ks : List KY) (e : Int) (k : KY), placesK f e (ks ++ [k]) = placesK f e ks ++ [(k, upS (endK f e ks) (f k).step)]
  | [], e, k => rfl
  | k0 :: ks, e, k => by
    show _ :: placesK f _ (ks ++ [k]) = _ :: (_ ++ _)
    rw [placesK_snoc f ks]; rfl
theorem placesK_len (f : KY → Stre) : ∀ (ks : List KY) (e : Int), (placesK f e ks).length = ks.length
  | [], _ => rfl
  | k :: ks, e => by
    show (placesK f _ ks).length + 1 = ks.length + 1
    rw [placesK_len f ks]
theorem placesK_keys (f : KY → Stre) : ∀ (ks : List KY) (e : Int), (placesK f e ks).map (·.1) = ks
  | [], _ => rfl
  | k :: ks, e => by
    show k :: (placesK f _ ks).map (·.1) = _
    rw [placesK_keys f ks]
theorem placesK_get (f : KY → Stre) : ∀ (ks : List KY) (e : Int) (i : Nat) (k : KY), ks[i]? = some k → (placesK f e ks)[i]? = some (k, upS (endK f e (ks.take i)) (f k).step)
  | [], _, _, _, h => by cases h
  | k0 :: ks, e, 0, k, h => by cases h; rfl
  | k0 :: ks, e, i + 1, k, h => by
    show (placesK f _ ks)[i]? = _
    exact placesK_get f ks _ i k h
/-- the stretches of a sort, then those of another -/
def ofSort (f : KY → Stre) (so : Str) (ks : List KY) : List KY := ks.filter fun k => decide ((f k).kind = so)
def ordK (f : KY → Stre) (ks : List KY) : List KY := ofSort f "code" (sortK ks) ++ ofSort f "data" (sortK ks)
def laidL (f : KY → Stre) (ks : List KY) : List (KY × Int) := placesK f 0 (ordK f ks)
theorem ordK_perm {f : KY → Stre} {ks : List KY} (h : ∀ k ∈ ks, isKind (f k).kind) : (ordK f ks).Perm ks := by
  have hs := sortK_perm ks
  have e : ofSort f "data" (sortK ks) = (sortK ks).filter fun k => !decide ((f k).kind = "code") := by
    unfold ofSort
    refine List.filter_congr fun k hk => ?_
    have hk := h k (hs.mem_iff.mp hk)
    rcases hk with e | e
    · rw [e]; decide +kernel
    · rw [e]; decide +kernel
  unfold ordK
  rw [e]
  exact (List.filter_append_perm (fun k => decide ((f k).kind = "code")) (sortK ks)).trans hs
theorem Act.back {B' B G H : Hp} {A : List Addr} (s : Same B' B) (c : Act B G H A) : Act B' G H A := ⟨s.trans c.base, c.ext, c.free, c.nd⟩
theorem ofSort_snoc (f : KY → Stre) (so : Str) (ks : List KY) (k : KY) : ofSort f so (ks ++ [k]) = ofSort f so ks ++ (if (f k).kind = so then [k] else []) := by
  unfold ofSort
  rw [List.filter_append]
  congr 1
  by_cases h : (f k).kind = so
  · rw [if_pos h, List.filter_cons, if_pos (decide_eq_true h)]; rfl
  · rw [if_neg h, List.filter_cons, if_neg (fun z => h (of_decide_eq_true z))]; rfl
def sorts : List Str := ["code", "data"]
def doneK (f : KY → Stre) (ks : List KY) (i : Nat) : List KY := (sorts.take i).flatMap fun so => ofSort f so ks
theorem doneK_snoc {f : KY → Stre} {ks : List KY} {i : Nat} {so : Str} (h : sorts[i]? = some so) : doneK f ks (i + 1) = doneK f ks i ++ ofSort f so ks := by
  unfold doneK
  rw [List.take_add_one, h, List.flatMap_append]
  show _ ++ (_ ++ []) = _
  rw [List.append_nil]
theorem doneK_all (f : KY → Stre) (ks : List KY) : doneK f (sortK ks) 2 = ordK f ks := by
  show ofSort f "code" _ ++ (ofSort f "data" _ ++ []) = _
  rw [List.append_nil]; rfl
/-- a row of laid -/
def RowAt (G : Hp) (v : V) (r : KY × Int) : Prop := ∃ b kv, v = .ref b ∧ G b = some (.tup [kv, .int r.2]) ∧ KeyAt G kv r.1
theorem RowAt.same {G G' : Hp} {v : V} {r : KY × Int} (h : RowAt G v r) (s : Same G G') : RowAt G' v r := by
  obtain ⟨b, kv, h1, h2, h3⟩ := h
  exact ⟨b, kv, h1, s _ _ h2, h3.same s⟩
def rowD (r : KY × Int) : PyData := .tuple [keyD r.1, .int r.2]
theorem RowAt.dp {K : PySem.W.Frag} {G : Hp} {v : V} {r : KY × Int} (h : RowAt G v r) : Dp K G v (rowD r) := by
  obtain ⟨b, kv, rfl, h2, h3⟩ := h
  exact .tup (.inl (.inl h2)) (.cons h3.dp (.cons (.int _) .nil))
theorem keys_dps {K : PySem.W.Frag} {G : Hp} : ∀ {zs : List (V × KY)}, (∀ x ∈ zs, KeyAt G x.1 x.2) → DpAll K G (zs.map (·.1)) ((zs.map (·.2)).map keyD)
  | [], _ => .nil
  | x :: zs, h => .cons (h x List.mem_cons_self).dp (keys_dps fun y hy => h y (List.mem_cons_of_mem _ hy))
theorem rows_dps {K : PySem.W.Frag} {G : Hp} : ∀ {zs : List (V × (KY × Int))}, (∀ x ∈ zs, RowAt G x.1 x.2) → DpAll K G (zs.map (·.1)) ((zs.map (·.2)).map rowD)
  | [], _ => .nil
  | x :: zs, h => .cons (h x List.mem_cons_self).dp (rows_dps fun y hy => h y (List.mem_cons_of_mem _ hy))
theorem keyD_ok {k : KY} (h : okS k.1) : (keyD k).canLay0 = true ∧ (keyD k).depth ≤ 1 := by
  refine ⟨?_, ?_⟩
  · show ((PyData.str k.1).canLay0 && (true && true)) = true
    rw [h]; rfl
  · show max 0 (max 0 0) + 1 ≤ 1
    omega
theorem keys_shaped {ks : List KY} (h : ∀ k ∈ ks, okS k.1) : SeqAt.shaped (.list (ks.map keyD)) = true := by
  obtain ⟨a, b⟩ := lay_map (f := keyD) (l := ks) (n := 1) fun k hk => keyD_ok (h k hk)
  exact shaped_of a (Nat.le_trans b (by decide))
theorem rowD_ok {r : KY × Int} (h : okS r.1.1) : (rowD r).canLay0 = true ∧ (rowD r).depth ≤ 2 := by
  obtain ⟨a, b⟩ := keyD_ok h
  refine ⟨?_, ?_⟩
  · show ((keyD r.1).canLay0 && (true && true)) = true
    rw [a]; rfl
  · show max (keyD r.1).depth (max 0 0) + 1 ≤ 2
    omega
theorem rows_shaped {rs : List (KY × Int)} (h : ∀ r ∈ rs, okS r.1.1) : SeqAt.shaped (.list (rs.map rowD)) = true := by
  obtain ⟨a, b⟩ := lay_map (f := rowD) (l := rs) (n := 2) fun k hk => rowD_ok (h k hk)
  exact shaped_of a (Nat.le_trans b (by decide))
theorem LD.keyok {tb : Int} {mx n : Nat} {ps : List Piece} (h : LD tb mx n ps) {k : KY} (hk : k ∈ (knownF ps).map (·.1)) : okS k.1 := by
  obtain ⟨x, hx, rfl⟩ := List.mem_map.mp hk
  obtain ⟨p, hp, hx⟩ := List.mem_flatMap.mp hx
  obtain ⟨j, s, _, rfl⟩ := stresL_keys hx
  exact (h.ok p hp).1
theorem s_neNilP {K : PySem.W.Frag} {H : Hp} {P q : Addr} {ds : List PyData} {Q : VK} (h1 : Dp K H (.ref P) (.list ds)) (hs : SeqAt.shaped (.list ds) = true) (h2 : H q = some (.lst [])) (z : Q (.bl (!decide (ds = []))) H) : rNeD K (.ref P) (.ref q) H Q := by
  refine ⟨_, .list [], h1, .lst (.inl (.inl h2)) .nil, hs, by decide +kernel, ?_⟩
  cases ds with
  | nil => exact z
  | cons d ds => exact z
/-- what laid and its kin are handed -/
structure Ask (K : PySem.W.Frag) (H : Hp) (P a : Addr) (xs : List V) (ps : List Piece) (zs : List (V × KY)) (f : KY → Stre) : Prop where
  hP : SqL K H P xs
  hx : DpAll K H xs (ps.map pieceD)
  hK : SqL K H a (zs.map (·.1))
  hz : ∀ x ∈ zs, KeyAt H x.1 x.2
  hf : ∀ x ∈ zs, lookL (knownL ps) x.2 = some (streD (f x.2)) ∧ KS 1000 (f x.2)
  hn : (knownF ps).length ≤ 1000
  hz2 : zs.length ≤ 1000
theorem Ask.same {K : PySem.W.Frag} {H H' : Hp} {P a : Addr} {xs : List V} {ps : List Piece} {zs : List (V × KY)} {f : KY → Stre} (h : Ask K H P a xs ps zs f) (s : Same H H') : Ask K H' P a xs ps zs f :=
  ⟨s.seq h.hP, dps_same s h.hx, s.seq h.hK, fun x hx => (h.hz x hx).same s, h.hf, h.hn, h.hz2⟩
theorem Ask.few {K : PySem.W.Frag} {H : Hp} {P a : Addr} {xs : List V} {ps : List Piece} {zs : List (V × KY)} {f : KY → Stre} (h : Ask K H P a xs ps zs f) {p : Piece} (hp : p ∈ ps) : p.stres.length ≤ 1000 := by
  have h1 := flat_le (fun p : Piece => stresL p.name 0 p.stres) hp
  rw [stresL_len] at h1
  exact Nat.le_trans h1 h.hn
theorem KS.more {m n : Nat} {s : Stre} (h : KS m s) (hm : m ≤ n) : KS n s := ⟨h.kind, h.step, Nat.le_trans h.words hm, h.fills⟩
theorem Ask.ord {K : PySem.W.Frag} {H : Hp} {P a : Addr} {xs : List V} {ps : List Piece} {zs : List (V × KY)} {f : KY → Stre} (h : Ask K H P a xs ps zs f) : (ordK f (zs.map (·.2))).Perm (zs.map (·.2)) := ordK_perm fun k hk => by
  obtain ⟨x, hx, rfl⟩ := List.mem_map.mp hk
  exact (h.hf x hx).2.kind
theorem Ask.at_ {K : PySem.W.Frag} {H : Hp} {P a : Addr} {xs : List V} {ps : List Piece} {zs : List (V × KY)} {f : KY → Stre} (h : Ask K H P a xs ps zs f) {k : KY} (hk : k ∈ zs.map (·.2)) : lookL (knownL ps) k = some (streD (f k)) ∧ KS 1000 (f k) := by
  obtain ⟨x, hx, rfl⟩ := List.mem_map.mp hk
  exact h.hf x hx
/-- the last row -/
theorem laid_last {f : KY → Stre} {ks : List KY} {rs0 : List (KY × Int)} {r : KY × Int} (h : laidL f ks = rs0 ++ [r]) : r.1 ∈ ordK f ks ∧ endK f 0 (ordK f ks) = r.2 + ((f r.1).words.length : Int) := by
  have hl := congrArg List.length h
  rw [laidL, placesK_len, List.length_append, List.length_singleton] at hl
  have hlen : (ordK f ks).length - 1 + 1 = (ordK f ks).length := by omega
  rcases List.eq_nil_or_concat (ordK f ks) with e | ⟨l, k, e⟩
  · rw [e] at hl; simp at hl
  · rw [List.concat_eq_append] at e
    unfold laidL at h
    rw [e, placesK_snoc] at h
    obtain ⟨-, h2⟩ := List.append_inj' h rfl
    cases h2
    rw [e, endK_snoc]
    exact ⟨by simp, rfl⟩
theorem ordK_nil (f : KY → Stre) : ordK f [] = [] := by
  unfold ordK ofSort sortK
  rw [List.mergeSort_nil]; rfl
/-- a row of what is laid -/
theorem laid_row {f : KY → Stre} {ks : List KY} {i : Nat} {r : KY × Int} (h : (laidL f ks)[i]? = some r) : (ordK f ks)[i]? = some r.1 ∧ r.2 = upS (endK f 0 ((ordK f ks).take i)) (f r.1).step ∧ endK f 0 ((ordK f ks).take (i + 1)) = r.2 + ((f r.1).words.length : Int) := by
  have hl : i < (ordK f ks).length := by
    have := (List.getElem?_eq_some_iff.mp h).1
    rwa [laidL, placesK_len] at this
  obtain ⟨k, hk⟩ : ∃ k, (ordK f ks)[i]? = some k := ⟨_, List.getElem?_eq_getElem hl⟩
  have h2 := placesK_get f _ 0 i k hk
  rw [show placesK f 0 (ordK f ks) = laidL f ks from rfl, h] at h2
  cases h2
  refine ⟨hk, rfl, ?_⟩
  rw [List.take_add_one, hk]
  show endK f 0 (_ ++ [k]) = _
  rw [endK_snoc]; rfl
/-- the stretches of a law's keys -/
theorem LD.find {tb : Int} {mx n : Nat} {ps : List Piece} {ks : List KY} (h : LD tb mx n ps) (hk : LK ps ks) : ∃ f : KY → Stre, ∀ k ∈ ks, lookL (knownL ps) k = some (streD (f k)) ∧ KS mx (f k) := by
  have h1 : ∀ k : KY, ∃ s : Stre, k ∈ ks → lookL (knownL ps) k = some (streD s) ∧ KS mx s := fun k => by
    by_cases hm : k ∈ ks
    · obtain ⟨s, e1, e2⟩ := known_of (fun p hp s hs => (h.stres p hp).1 s hs) (hk.mem hm)
      exact ⟨s, fun _ => ⟨e1, e2⟩⟩
    · exact ⟨⟨"code", 1, [], []⟩, fun z => absurd z hm⟩
  exact ⟨fun k => Classical.choose (h1 k), fun k hk => Classical.choose_spec (h1 k) hk⟩
/-! a < b < c < d as a test -/
def tChain3 (r r' r2 : R2) (ta tb tc td : TE) : TE := fun σ H Q => ta σ H fun x H1 => tb σ H1 fun y H2 => r x y H2 fun z H3 => ∃ k, z = .bl k ∧
  (if k = true then tc σ H3 fun w' H4 => r' y w' H4 fun z2 H5 => ∃ k2, z2 = .bl k2 ∧ (if k2 = true then td σ H5 fun v' H6 => r2 w' v' H6 Q else Q (.bl false) H5) else Q (.bl false) H3)
section
variable {X : Cx} {a b c d : Expr} {ta tb tc td : TE} {pos : Pos}
theorem pt_chain3 {op op' op2 : CmpOp} {r r' r2 : R2} (ho : OpR X (compareOp op) r) (ho' : OpR X (compareOp op') r') (ho2 : OpR X (compareOp op2) r2) (ha : PE X a ta) (hb : PE X b tb) (hc : PE X c tc) (hd : PE X d td)
    (hm : lastMarks [op, op', op2] [b, c, d] = false := by with_unfolding_all rfl) : PT X (.Compare a [op, op', op2] [b, c, d] pos) (tTest (tChain3 r r' r2 ta tb tc td)) := by
  refine ⟨fun pins s σ H Q I h => ?_⟩
  refine isTrue_chain (thn (ha.run pins s σ H _ I h) fun v s1 ⟨x, H1, I1, k1, q1⟩ => test_link (thn (hb.run pins s1 σ H1 _ I1 q1) fun u s2 ⟨y, H2, I2, k2, q2⟩ =>
    thn (ho pins s2 σ H2 x y v u _ I2 k1 k2 q2) fun g s3 ⟨z, H3, I3, k3, k, e, q3⟩ => ?_)) hm
  subst e
  cases k3
  refine wpAny_truthy_bool ?_
  cases k with
  | false =>
    obtain ⟨k', e', q'⟩ := q3
    cases e'
    exact ite_ff ⟨H3, I3, q'⟩
  | true =>
    refine ite_tt (test_link (thn (hc.run pins s3 σ H3 _ I3 q3) fun w' s4 ⟨z', H4, I4, k4, q4⟩ => thn (ho' pins s4 σ H4 y z' u w' _ I4 k2 k4 q4) fun g' s5 ⟨z2, H5, I5, k5, kk, e2, q5⟩ => ?_))
    subst e2
    cases k5
    refine wpAny_truthy_bool ?_
    cases kk with
    | false =>
      obtain ⟨k', e', q'⟩ := q5
      cases e'
      exact ite_ff ⟨H5, I5, q'⟩
    | true =>
      refine ite_tt (test_last (thn (hd.run pins s5 σ H5 _ I5 q5) fun v' s6 ⟨z6, H6, I6, k6, q6⟩ => thn (ho2 pins s6 σ H6 z' z6 w' v' _ I6 k4 k6 q6) fun g2 s7 ⟨z7, H7, I7, k7, kl, e7, q7⟩ => ?_))
      subst e7
      cases k7
      exact wpAny_truthy_bool ⟨H7, I7, q7⟩
end
theorem s_chain3 {r r' r2 : R2} {ta tb tc td : TE} {σ : L2.St} {H : Hp} {Q : VK} (z : ta σ H fun x H1 => tb σ H1 fun y H2 => r x y H2 fun z H3 => ∃ k, z = .bl k ∧
  (if k = true then tc σ H3 fun w' H4 => r' y w' H4 fun z2 H5 => ∃ k2, z2 = .bl k2 ∧ (if k2 = true then td σ H5 fun v' H6 => r2 w' v' H6 Q else Q (.bl false) H5) else Q (.bl false) H3)) : tChain3 r r' r2 ta tb tc td σ H Q := z
/-! places go up -/
theorem upS_ok {e st : Int} (h : 0 < st) : e ≤ upS e st ∧ upS e st < e + st ∧ st ∣ upS e st := by
  have h1 := Int.ediv_mul_add_emod (e + st - 1) st
  have h2 := Int.emod_nonneg (e + st - 1) (show st ≠ 0 by omega)
  have h3 := Int.emod_lt_of_pos (e + st - 1) h
  refine ⟨?_, ?_, Int.dvd_mul_left _ _⟩ <;> unfold upS <;> omega
theorem endK_app (f : KY → Stre) (e : Int) (a b : List KY) : endK f e (a ++ b) = endK f (endK f e a) b := by unfold endK; rw [List.foldl_append]
theorem endK_mono {f : KY → Stre} : ∀ (ks : List KY) (e : Int), (∀ k ∈ ks, 0 < (f k).step) → e ≤ endK f e ks
  | [], e, _ => Int.le_refl _
  | k :: ks, e, h => by
    have h1 := (upS_ok (e := e) (h k List.mem_cons_self)).1
    have h2 := endK_mono ks (nextE f e k) fun x hx => h x (List.mem_cons_of_mem _ hx)
    have h3 : upS e (f k).step ≤ nextE f e k := by unfold nextE; omega
    show e ≤ endK f (nextE f e k) ks
    omega
theorem endK_take {f : KY → Stre} {ks : List KY} (h : ∀ k ∈ ks, 0 < (f k).step) {i j : Nat} (hij : i ≤ j) : endK f 0 (ks.take i) ≤ endK f 0 (ks.take j) := by
  obtain ⟨d, rfl⟩ := Nat.exists_eq_add_of_le hij
  rw [List.take_add, endK_app]
  exact endK_mono _ _ fun k hk => h k (List.mem_of_mem_drop (List.mem_of_mem_take hk))
theorem kind_ne : ("code" : Str) ≠ "data" := by decide +kernel
theorem ord_sorts {f : KY → Stre} {ks : List KY} {i j : Nat} {a b : KY} (hij : i < j) (ha : (ordK f ks)[i]? = some a) (hb : (ordK f ks)[j]? = some b) (h : (f a).kind = "data") : ¬ (f b).kind = "code" := by
  unfold ordK at ha hb
  have hA : ∀ k ∈ ofSort f "code" (sortK ks), (f k).kind = "code" := fun k hk => of_decide_eq_true (List.mem_filter.mp hk).2
  have hB : ∀ k ∈ ofSort f "data" (sortK ks), (f k).kind = "data" := fun k hk => of_decide_eq_true (List.mem_filter.mp hk).2
  generalize ofSort f "code" (sortK ks) = A at *
  generalize ofSort f "data" (sortK ks) = B at *
  rcases Nat.lt_or_ge i A.length with hi | hi
  · rw [List.getElem?_append_left hi] at ha
    exact absurd ((hA a (List.mem_of_getElem? ha)).symm.trans h) kind_ne
  · rw [List.getElem?_append_right (by omega)] at hb
    rw [hB b (List.mem_of_getElem? hb)]
    exact kind_ne.symm
theorem pow_dvd {i j : Nat} (h : (2 : Int) ^ i ≤ 2 ^ j) : (2 : Int) ^ i ∣ 2 ^ j := by
  have hij : i ≤ j := by
    rcases Nat.le_total i j with g | g
    · exact g
    · have h1 : 2 ^ j ≤ 2 ^ i := Nat.pow_le_pow_right (by decide) g
      have h2 : ((2 ^ i : Nat) : Int) ≤ ((2 ^ j : Nat) : Int) := by simpa using h
      have h3 : 2 ^ i ≤ 2 ^ j := Int.ofNat_le.mp h2
      exact (Nat.pow_le_pow_iff_right (by decide)).mp h3
  obtain ⟨k, rfl⟩ := Nat.exists_eq_add_of_le hij
  rw [Int.pow_add]
  exact Int.dvd_mul_right _ _
theorem step_dvd {m n : Nat} {s t : Stre} (h1 : KS m s) (h2 : KS n t) (h : s.step ≤ t.step) : s.step ∣ t.step := by
  obtain ⟨i, _, e1⟩ := h1.step
  obtain ⟨j, _, e2⟩ := h2.step
  rw [e1, e2] at h ⊢
  exact pow_dvd h
/-- a span and its sort -/
def SpAt (G : Hp) (v : V) (r : Int × Int × Str) : Prop := ∃ t u, v = .ref t ∧ G t = some (.tup [.ref u, .str r.2.2]) ∧ G u = some (.tup [.int r.1, .int r.2.1])
theorem SpAt.same {G G' : Hp} {v : V} {r : Int × Int × Str} (h : SpAt G v r) (s : Same G G') : SpAt G' v r := by
  obtain ⟨t, u, h1, h2, h3⟩ := h
  exact ⟨t, u, h1, s _ _ h2, s _ _ h3⟩
def spanOf (f : KY → Stre) (r : KY × Int) : Int × Int × Str := (r.2, r.2 + ((f r.1).words.length : Int), (f r.1).kind)
/-! all but one cell is written no more -/
theorem Act.only {B H : Hp} {p : Addr} {o : HO} (s : Same B H) (nb : B p = none) (e : H p = some o) : Act B (del H p) H [p] := by
  refine ⟨fun b v q => ?_, fun b v q => ?_, fun b hb => ?_, List.nodup_cons.mpr ⟨List.not_mem_nil, List.nodup_nil⟩⟩
  · rw [del_ne (fun z => by rw [z, nb] at q; cases q)]; exact s b v q
  · by_cases z : b = p
    · rw [z, del_same] at q; cases q
    · rw [del_ne z] at q; exact q
  · cases List.mem_singleton.mp hb
    exact ⟨del_same, _, e⟩
theorem RowAt.but {H : Hp} {p : Addr} {l : List V} {v : V} {r : KY × Int} (h : RowAt H v r) (e : H p = some (.lst l)) : RowAt (del H p) v r := by
  obtain ⟨b, kv, h1, h2, b2, h3, h4⟩ := h
  have n1 : b ≠ p := fun z => by rw [z, e] at h2; cases h2
  have n2 : b2 ≠ p := fun z => by rw [z, e] at h4; cases h4
  exact ⟨b, kv, h1, by rw [del_ne n1]; exact h2, b2, h3, by rw [del_ne n2]; exact h4⟩
end Jl

/-! Pieces read from texts. -/
namespace Jl
open PySem L2 PySem.Spec PyProof.Rows
def LET : List Nat := ("abcdefghijklmnopqrstuvwxyz" : Str).cps.toList
def FIG : List Nat := ("0123456789" : Str).cps.toList
def nsign (c : Nat) : Bool := decide (c ∈ LET) || decide (c ∈ FIG) || decide (c = 95)
def isNm (l : List Nat) : Bool := decide (1 ≤ l.length ∧ l.length ≤ 16) && decide (l.getD 0 0 ∈ LET) && l.all nsign
instance (t : Str) : Decidable (isRule5 t) := by unfold isRule5; infer_instance
theorem isRule.r5 {t : Str} (h : isRule t) : isRule5 t := by
  rcases h with h | h | h
  · exact .inl h
  · exact .inr (.inl h)
  · exact .inr (.inr (.inl h))
theorem r5_clean {t : Str} (h : isRule5 t) : CleanP t ∧ t.length ≤ 5 := by
  rcases h with rfl | rfl | rfl | rfl | rfl <;> exact ⟨⟨by decide +kernel, by decide +kernel⟩, by decide +kernel⟩
/-! what the reader does -/
structure PS where
  stres : List Stre
  names : List Nam
def onLast (ss : List Stre) (f : Stre → Stre) : List Stre := match ss.getLast? with
  | none => ss
  | some s => ss.dropLast ++ [f s]
theorem onLast_app (ss : List Stre) (s : Stre) (f : Stre → Stre) : onLast (ss ++ [s]) f = ss ++ [f s] := by
  unfold onLast
  rw [List.getLast?_append]
  show (ss ++ [s]).dropLast ++ _ = _
  rw [List.dropLast_concat]
  rfl
def addWord (s : Stre) (w : Int) : Stre := ⟨s.kind, s.step, s.words ++ [w], s.fills⟩
def addFill (s : Stre) (rule name : Str) (add : Int) (soft : Bool) : Stre := ⟨s.kind, s.step, s.words, s.fills ++ [⟨(s.words.length : Int) - 1, rule, name, add, soft⟩]⟩
def lastWords (ss : List Stre) : Nat := match ss.getLast? with
  | none => 0
  | some s => s.words.length
theorem lastWords_app (ss : List Stre) (s : Stre) : lastWords (ss ++ [s]) = s.words.length := by
  unfold lastWords
  rw [List.getLast?_append]; rfl
def putStre (st : PS) (row : List Str) : Option PS := if row.length = 2 then (stepOf (row.getD 1 "")).map fun s => ⟨st.stres ++ [⟨row.getD 0 "", s, [], []⟩], st.names⟩ else none
def putWordP (st : PS) (row : List Str) : Option PS := if row.length = 2 ∧ st.stres ≠ [] then (numOf (row.getD 1 "").cps.toList 0 4294967295).map fun w => ⟨onLast st.stres fun s => addWord s w, st.names⟩ else none
def putFillP (st : PS) (row : List Str) : Option PS := if row.length = 4 ∧ isRule5 (row.getD 1 "") ∧ isNm (row.getD 2 "").cps.toList = true then
    match numOf (row.getD 3 "").cps.toList (-2147483648) 2147483647 with
    | none => none
    | some add => if row.getD 0 "" = "soft" ∧ ¬ isRule (row.getD 1 "") then none else some ⟨onLast st.stres fun s => addFill s (row.getD 1 "") (row.getD 2 "") add (decide (row.getD 0 "" = "soft")), st.names⟩
  else none
def putNameP (st : PS) (row : List Str) : Option PS := if (row.length = 2 ∧ st.stres ≠ [] ∧ isNm (row.getD 1 "").cps.toList = true) ∧ row.getD 1 "" ∉ st.names.map (·.name) then some ⟨st.stres, st.names ++ [⟨row.getD 1 "", row.getD 0 "", (st.stres.length : Int) - 1, (lastWords st.stres : Nat)⟩]⟩ else none
def putRowP (st : PS) (row prev : List Str) : Option PS :=
  if row.getD 0 "" = "code" ∨ row.getD 0 "" = "data" then putStre st row
  else if row.getD 0 "" = "word" then putWordP st row
  else if row.getD 0 "" = "fill" ∨ row.getD 0 "" = "soft" then (if prev.getD 0 "" = "word" then putFillP st row else none)
  else if row.getD 0 "" = "tell" ∨ row.getD 0 "" = "weak" ∨ row.getD 0 "" = "own" then putNameP st row
  else none
def readP (rows : List (List Str)) : Nat → Option PS
  | 0 => some ⟨[], []⟩
  | n + 1 => (readP rows n).bind fun st => putRowP st (rows.getD (n + 1) []) (rows.getD n [])
def titleOf (row : List Str) : Option Str := if row.length = 2 ∧ row.getD 0 "" = "piece" ∧ isNm (row.getD 1 "").cps.toList = true then some (row.getD 1 "") else none
theorem readP_app {rows more : List (List Str)} : ∀ {n : Nat}, n < rows.length → readP (rows ++ more) n = readP rows n
  | 0, _ => rfl
  | n + 1, h => by
    show (readP (rows ++ more) n).bind _ = (readP rows n).bind _
    rw [readP_app (by omega), getD_app_old h, getD_app_old (by omega)]
theorem readP_none {rows : List (List Str)} {n : Nat} (h : readP rows n = none) : ∀ m, readP rows (n + m) = none
  | 0 => h
  | m + 1 => by
    show (readP rows (n + m)).bind _ = none
    rw [readP_none h m]; rfl
theorem readP_snoc {hd r : List Str} {rows : List (List Str)} {st st' : PS} (h : readP (hd :: rows) rows.length = some st) (hp : putRowP st r ((hd :: rows).getD rows.length []) = some st') : readP (hd :: (rows ++ [r])) (rows ++ [r]).length = some st' := by
  rw [List.length_append, List.length_singleton, ← List.cons_append]
  show (readP ((hd :: rows) ++ [r]) rows.length).bind _ = _
  rw [readP_app (by rw [List.length_cons]; omega), h]
  show putRowP st (((hd :: rows) ++ [r]).getD (rows.length + 1) []) (((hd :: rows) ++ [r]).getD rows.length []) = _
  rw [show ((hd :: rows) ++ [r]).getD (rows.length + 1) [] = r from getD_app_new (l := hd :: rows) (i := 0), getD_app_old (by rw [List.length_cons]; omega)]
  exact hp
section
variable {st : PS} {c : Str} {r q : List Str}
theorem prp_stre (h : c = "code" ∨ c = "data") : putRowP st (c :: r) q = putStre st (c :: r) := if_pos h
theorem prp_word : putRowP st (("word" : Str) :: r) q = putWordP st (("word" : Str) :: r) :=
  (if_neg (by show ¬ (("word" : Str) = "code" ∨ ("word" : Str) = "data"); decide +kernel)).trans (if_pos rfl)
theorem prp_fill (h : c = "fill" ∨ c = "soft") : putRowP st (c :: r) (("word" : Str) :: q) = putFillP st (c :: r) := by
  refine (if_neg ?_).trans ((if_neg ?_).trans ((if_pos h).trans (if_pos rfl)))
  · show ¬ (c = "code" ∨ c = "data")
    rcases h with rfl | rfl <;> decide +kernel
  · show ¬ (c = "word")
    rcases h with rfl | rfl <;> decide +kernel
theorem prp_name (h : c = "tell" ∨ c = "weak" ∨ c = "own") : putRowP st (c :: r) q = putNameP st (c :: r) := by
  refine (if_neg ?_).trans ((if_neg ?_).trans ((if_neg ?_).trans (if_pos h)))
  · show ¬ (c = "code" ∨ c = "data")
    rcases h with rfl | rfl | rfl <;> decide +kernel
  · show ¬ (c = "word")
    rcases h with rfl | rfl | rfl <;> decide +kernel
  · show ¬ (c = "fill" ∨ c = "soft")
    rcases h with rfl | rfl | rfl <;> decide +kernel
end
/-! names -/
theorem isNm_parts {l : List Nat} (h : isNm l = true) : (1 ≤ l.length ∧ l.length ≤ 16) ∧ l.getD 0 0 ∈ LET ∧ ∀ c ∈ l, nsign c = true := by
  unfold isNm at h
  rw [Bool.and_eq_true, Bool.and_eq_true, decide_eq_true_eq, decide_eq_true_eq, List.all_eq_true] at h
  exact ⟨h.1.1, h.1.2, h.2⟩
theorem nsign_small {c : Nat} (h : nsign c = true) : 48 ≤ c ∧ c ≤ 122 := by
  unfold nsign at h
  rw [Bool.or_eq_true, Bool.or_eq_true, decide_eq_true_eq, decide_eq_true_eq, decide_eq_true_eq] at h
  have h1 : ∀ c ∈ LET, 48 ≤ c ∧ c ≤ 122 := by decide +kernel
  have h2 : ∀ c ∈ FIG, 48 ≤ c ∧ c ≤ 122 := by decide +kernel
  rcases h with (h | h) | h
  · exact h1 c h
  · exact h2 c h
  · omega
theorem nm_clean {z : Str} (h : isNm z.cps.toList = true) : CleanP z ∧ 1 ≤ z.length ∧ z.length ≤ 16 := by
  obtain ⟨h1, h2, h3⟩ := isNm_parts h
  rw [len_list] at h1
  refine ⟨⟨fun hm => ?_, fun hm => ?_⟩, h1⟩
  · have := nsign_small (h3 _ hm); omega
  · have := nsign_small (h3 _ hm); omega
theorem nm_okS {z : Str} (h : isNm z.cps.toList = true) : okS z := by
  show z.cps.all (· < 0x110000) = true
  rw [← Array.all_toList, List.all_eq_true]
  intro x hx
  have := nsign_small ((isNm_parts h).2.2 x hx)
  exact decide_eq_true (by omega)
theorem fig4_ok (b : Bool) : ∀ n : Nat, n < 400 → (if b then Txt.zfill (toString (n : Int)) 3 else toString (n : Int) : Str).cps.toList.all nsign = true ∧ (if b then Txt.zfill (toString (n : Int)) 3 else toString (n : Int) : Str).cps.toList.length ≤ 3 := by
  have h : (List.range 400).all (fun n => (if b then Txt.zfill (toString (n : Int)) 3 else toString (n : Int) : Str).cps.toList.all nsign && decide ((if b then Txt.zfill (toString (n : Int)) 3 else toString (n : Int) : Str).cps.toList.length ≤ 3)) = true := by cases b <;> decide +kernel
  intro n hn
  have := List.all_eq_true.mp h n (List.mem_range.mpr hn)
  rw [Bool.and_eq_true, decide_eq_true_eq] at this
  exact this
theorem nqF_is4 (c k : Int) : ∃ n : Nat, n < 400 ∧ nqF c k = (if decide (c / 169 % 2 = 1) then Txt.zfill (toString (n : Int)) 3 else toString (n : Int) : Str) := by
  refine ⟨(k % 400).toNat, by omega, ?_⟩
  unfold nqF
  have e : (((k % 400).toNat : Nat) : Int) = k % 400 := by omega
  rw [e]
  simp only [decide_eq_true_eq]
theorem sgns_ns : ∀ j : Nat, j < 37 → nsign (sgns.cps.toList.getD j 0) = true := by decide +kernel
theorem sgns_let : ∀ j : Nat, j < 26 → sgns.cps.toList.getD j 0 ∈ LET := by decide +kernel
theorem nq_nm (c k : Int) : isNm (nqT c k).cps.toList = true := by
  show isNm (nqL c k) = true
  have hB : ∀ x ∈ nqB c, nsign x = true := fun x hx => by
    obtain ⟨j, _, rfl⟩ := List.mem_map.mp hx
    have h := nqIx_ok c j
    exact sgns_ns _ (by omega)
  obtain ⟨n, hn, hF⟩ := nqF_is4 c k
  obtain ⟨f1, f2⟩ := fig4_ok (decide (c / 169 % 2 = 1)) n hn
  rw [← hF] at f1 f2
  have hl := nqB_len c
  have ha := nqAt_ok c
  have hL : (nqL c k).length = (1 + c % 13).toNat + (nqF c k).cps.toList.length := by
    unfold nqL
    rw [List.length_append, List.length_append, List.length_take, List.length_drop]; omega
  unfold isNm
  rw [Bool.and_eq_true, Bool.and_eq_true, decide_eq_true_eq, decide_eq_true_eq, List.all_eq_true]
  refine ⟨⟨by omega, ?_⟩, fun x hx => ?_⟩
  · have e0 : (nqL c k).getD 0 0 = (nqB c).getD 0 0 := by
      have e1 : (nqL c k) = (nqB c).take (nqAt c) ++ ((nqF c k).cps.toList ++ (nqB c).drop (nqAt c)) := by
        unfold nqL; rw [List.append_assoc]
      rw [e1, getD_app_old (by rw [List.length_take]; omega)]
      rw [List.getD_eq_getElem?_getD, List.getD_eq_getElem?_getD, List.getElem?_take, if_pos (by omega)]
    rw [e0]
    unfold nqB
    rw [List.getD_eq_getElem?_getD, List.getElem?_map, List.getElem?_range (by omega)]
    have h0 : 0 ≤ nqIx c 0 ∧ nqIx c 0 < 26 := by
      unfold nqIx
      rw [if_pos (show ((0 : Nat) : Int) = 0 from rfl)]
      have h1 := Int.emod_nonneg (c / (((0 : Nat) : Int) + 3) + ((0 : Nat) : Int) * ((0 : Nat) : Int)) (show (37 - 11 * 1 : Int) ≠ 0 by decide)
      have h2 := Int.emod_lt_of_pos (c / (((0 : Nat) : Int) + 3) + ((0 : Nat) : Int) * ((0 : Nat) : Int)) (show (0 : Int) < 37 - 11 * 1 by decide)
      omega
    exact sgns_let _ (by omega)
  · have hx : x ∈ (nqB c).take (nqAt c) ++ (nqF c k).cps.toList ++ (nqB c).drop (nqAt c) := hx
    rcases List.mem_append.mp hx with hx | hx
    · rcases List.mem_append.mp hx with hx | hx
      · exact hB x (List.mem_of_mem_take hx)
      · exact List.all_eq_true.mp f1 x hx
    · exact hB x (List.mem_of_mem_drop hx)
/-! a piece in the making -/


def fillHd (soft : Bool) : Str := if soft then "soft" else "fill"
inductive PB : Nat → List Stre → List Nam → List (List Str) → Prop
  | nil : PB 0 [] [] []
  | skip {n : Nat} {ss : List Stre} {ns : List Nam} {rows : List (List Str)} : PB n ss ns rows → PB (n + 1) ss ns rows
  | stre {n : Nat} {ss : List Stre} {ns : List Nam} {rows : List (List Str)} {c : Str} {k : Nat} : PB n ss ns rows → isKind c → k ≤ 16 → PB (n + 1) (ss ++ [⟨c, 2 ^ k, [], []⟩]) ns (rows ++ [[c, numT (2 ^ k)]])
  | word {n : Nat} {ss : List Stre} {s : Stre} {ns : List Nam} {rows : List (List Str)} {w : Int} : PB n (ss ++ [s]) ns rows → 0 ≤ w → w ≤ 4294967295 → PB (n + 1) (ss ++ [addWord s w]) ns (rows ++ [[("word" : Str), numT w]])
  | fill {n : Nat} {ss : List Stre} {s : Stre} {ns : List Nam} {rows : List (List Str)} {w add : Int} {rule nm : Str} {soft : Bool} : PB n (ss ++ [s]) ns rows → 0 ≤ w → w ≤ 4294967295 → isRule5 rule → (soft = true → isRule rule) → isNm nm.cps.toList = true → -2147483648 ≤ add → add ≤ 2147483647 →
      PB (n + 1) (ss ++ [addFill (addWord s w) rule nm add soft]) ns (rows ++ [[("word" : Str), numT w], [fillHd soft, rule, nm, numT add]])
  | name {n : Nat} {ss : List Stre} {s : Stre} {ns : List Nam} {rows : List (List Str)} {c nm : Str} : PB n (ss ++ [s]) ns rows → isSort c → isNm nm.cps.toList = true → nm ∉ ns.map (·.name) → PB (n + 1) (ss ++ [s]) (ns ++ [⟨nm, c, (ss.length : Int), (s.words.length : Int)⟩]) (rows ++ [[c, nm]])
theorem kind_clean {c : Str} (h : isKind c) : CleanP c ∧ c.length = 4 := by
  rcases h with rfl | rfl <;> exact ⟨⟨by decide +kernel, by decide +kernel⟩, by decide +kernel⟩
theorem sort_clean {c : Str} (h : isSort c) : CleanP c ∧ c.length ≤ 4 := by
  rcases h with rfl | rfl | rfl <;> exact ⟨⟨by decide +kernel, by decide +kernel⟩, by decide +kernel⟩
theorem fillHd_clean (b : Bool) : CleanP (fillHd b) ∧ (fillHd b).length = 4 := by
  cases b <;> exact ⟨⟨by decide +kernel, by decide +kernel⟩, by decide +kernel⟩
theorem cleanR4 {a b c d : Str} (h1 : CleanP a) (h2 : CleanP b) (h3 : CleanP c) (h4 : CleanP d) : CleanR [a, b, c, d] := ⟨(fun h => nomatch h), fun p hp => by
  simp only [List.mem_cons, List.not_mem_nil, or_false] at hp
  rcases hp with rfl | rfl | rfl | rfl
  · exact h1
  · exact h2
  · exact h3
  · exact h4⟩
theorem PB.clean {n : Nat} {ss : List Stre} {ns : List Nam} {rows : List (List Str)} (h : PB n ss ns rows) : ∀ r ∈ rows, CleanR r := by
  induction h with
  | nil => exact fun _ h => nomatch h
  | skip _ ih => exact ih
  | stre _ h1 _ ih =>
    intro r hr
    rcases List.mem_append.mp hr with hr | hr
    · exact ih r hr
    · rw [List.mem_singleton.mp hr]; exact cleanR2 (kind_clean h1).1 (num_clean _)
  | word _ _ _ ih =>
    intro r hr
    rcases List.mem_append.mp hr with hr | hr
    · exact ih r hr
    · rw [List.mem_singleton.mp hr]; exact cleanR2 word_clean (num_clean _)
  | fill _ _ _ h3 _ h5 _ _ ih =>
    intro r hr
    rcases List.mem_append.mp hr with hr | hr
    · exact ih r hr
    · simp only [List.mem_cons, List.not_mem_nil, or_false] at hr
      rcases hr with rfl | rfl
      · exact cleanR2 word_clean (num_clean _)
      · exact cleanR4 (fillHd_clean _).1 (r5_clean h3).1 (nm_clean h5).1 (num_clean _)
  | name _ h1 h2 _ ih =>
    intro r hr
    rcases List.mem_append.mp hr with hr | hr
    · exact ih r hr
    · rw [List.mem_singleton.mp hr]; exact cleanR2 (sort_clean h1).1 (nm_clean h2).1
/-- what is put together is read -/
theorem PB.read {n : Nat} {ss : List Stre} {ns : List Nam} {rows : List (List Str)} (h : PB n ss ns rows) (hd : List Str) : readP (hd :: rows) rows.length = some ⟨ss, ns⟩ := by
  induction h with
  | nil => rfl
  | skip _ ih => exact ih
  | stre _ h1 h2 ih =>
    rename_i c k _
    refine readP_snoc ih ?_
    rw [prp_stre h1]
    unfold putStre
    rw [if_pos (show ([_, _] : List Str).length = 2 from rfl)]
    show Option.map _ (stepOf (numT (2 ^ k))) = _
    rw [step_two h2]; rfl
  | word _ h1 h2 ih =>
    rename_i w _
    refine readP_snoc ih ?_
    rw [prp_word]
    unfold putWordP
    rw [if_pos ⟨rfl, by simp⟩]
    show Option.map _ (numOf (numT w).cps.toList _ _) = _
    rw [numOf_num (by omega) (by omega) h1 h2]
    show some (PS.mk (onLast _ _) _) = _
    rw [onLast_app]
  | fill _ h1 h2 h3 h4 h5 h6 h7 ih =>
    rename_i n ss s ns rows w add rule nm soft _
    have e : ∀ x y : List Str, rows ++ [x, y] = (rows ++ [x]) ++ [y] := fun x y => by rw [List.append_assoc]; rfl
    rw [e]
    have i1 : readP (hd :: (rows ++ [[("word" : Str), numT w]])) (rows ++ [[("word" : Str), numT w]]).length = some ⟨ss ++ [addWord s w], ns⟩ := by
      refine readP_snoc ih ?_
      rw [prp_word]
      unfold putWordP
      rw [if_pos ⟨rfl, by simp⟩]
      show Option.map _ (numOf (numT w).cps.toList _ _) = _
      rw [numOf_num (by omega) (by omega) h1 h2]
      show some (PS.mk (onLast _ _) _) = _
      rw [onLast_app]
    refine readP_snoc i1 ?_
    have g : (hd :: (rows ++ [[("word" : Str), numT w]])).getD (rows ++ [[("word" : Str), numT w]]).length [] = [("word" : Str), numT w] := by
      rw [List.length_append, List.length_singleton, ← List.cons_append]
      exact getD_app_new (l := hd :: rows) (i := 0)
    rw [g, prp_fill (by cases soft; exact .inl rfl; exact .inr rfl)]
    unfold putFillP
    rw [if_pos ⟨rfl, h3, h5⟩]
    show (match numOf (numT add).cps.toList _ _ with | none => none | some add => _) = _
    rw [numOf_num (by omega) (by omega) h6 h7]
    show (if fillHd soft = "soft" ∧ ¬ isRule rule then none else some _) = _
    have hs : decide (fillHd soft = "soft") = soft := by cases soft <;> decide +kernel
    rw [if_neg (fun z => z.2 (h4 (by rw [← hs]; exact decide_eq_true z.1)))]
    show some (PS.mk (onLast _ fun s => addFill s rule nm add (decide (fillHd soft = "soft"))) _) = _
    rw [onLast_app, hs]
  | name _ h1 h2 h3 ih =>
    rename_i n ss s ns rows c nm _
    refine readP_snoc ih ?_
    rw [prp_name h1]
    unfold putNameP
    rw [if_pos ⟨⟨rfl, by simp, h2⟩, h3⟩]
    show some (PS.mk _ (_ ++ [Nam.mk nm c _ _])) = _
    rw [lastWords_app, List.length_append, List.length_singleton]
    have : ((ss.length + 1 : Nat) : Int) - 1 = (ss.length : Int) := by omega
    rw [this]
theorem PB.len {n : Nat} {ss : List Stre} {ns : List Nam} {rows : List (List Str)} (h : PB n ss ns rows) : rows.length ≤ 2 * n ∧ ss.length ≤ n ∧ ns.length ≤ n ∧ ∀ s ∈ ss, s.words.length ≤ n ∧ s.fills.length ≤ n := by
  induction h with
  | nil => exact ⟨Nat.le_refl _, Nat.le_refl _, Nat.le_refl _, fun _ h => nomatch h⟩
  | skip _ ih => exact ⟨by omega, by omega, by omega, fun s hs => by have := ih.2.2.2 s hs; omega⟩
  | stre _ h1 h2 ih =>
    rw [List.length_append, List.length_append, List.length_singleton, List.length_singleton]
    refine ⟨by omega, by omega, by omega, fun s hs => ?_⟩
    rcases List.mem_append.mp hs with hs | hs
    · have := ih.2.2.2 s hs; omega
    · rw [List.mem_singleton.mp hs]; exact ⟨Nat.zero_le _, Nat.zero_le _⟩
  | word _ h1 h2 ih =>
    rename_i n ss s ns rows w _
    rw [List.length_append, List.length_append, List.length_singleton, List.length_singleton]
    rw [List.length_append, List.length_singleton] at ih
    refine ⟨by omega, by omega, by omega, fun s' hs => ?_⟩
    rcases List.mem_append.mp hs with hs | hs
    · have := ih.2.2.2 s' (List.mem_append_left _ hs); omega
    · have := ih.2.2.2 s (by simp)
      rw [List.mem_singleton.mp hs]
      show (s.words ++ [w]).length ≤ _ ∧ s.fills.length ≤ _
      rw [List.length_append, List.length_singleton]; omega
  | fill _ h1 h2 h3 h4 h5 h6 h7 ih =>
    rename_i n ss s ns rows w add rule nm soft _
    rw [List.length_append, List.length_append, List.length_singleton]
    rw [List.length_append, List.length_singleton] at ih
    refine ⟨by show _ + 2 ≤ _; omega, by omega, by omega, fun s' hs => ?_⟩
    rcases List.mem_append.mp hs with hs | hs
    · have := ih.2.2.2 s' (List.mem_append_left _ hs); omega
    · have := ih.2.2.2 s (by simp)
      rw [List.mem_singleton.mp hs]
      show (s.words ++ [w]).length ≤ _ ∧ (s.fills ++ [_]).length ≤ _
      rw [List.length_append, List.length_append, List.length_singleton, List.length_singleton]; omega
  | name _ h1 h2 h3 ih =>
    rename_i n ss s ns rows c nm _
    rw [List.length_append, List.length_append (as := ns), List.length_singleton, List.length_singleton]
    refine ⟨by omega, by omega, by omega, fun s' hs => ?_⟩
    have := ih.2.2.2 s' hs; omega
theorem PB.ok {n : Nat} {ss : List Stre} {ns : List Nam} {rows : List (List Str)} (h : PB n ss ns rows) : (∀ s ∈ ss, s.ok) ∧ ∀ m ∈ ns, m.ok := by
  induction h with
  | nil => exact ⟨fun _ h => (nomatch h), fun _ h => nomatch h⟩
  | skip _ ih => exact ih
  | stre _ h1 h2 ih =>
    refine ⟨fun s hs => ?_, ih.2⟩
    rcases List.mem_append.mp hs with hs | hs
    · exact ih.1 s hs
    · rw [List.mem_singleton.mp hs]; exact ⟨kind_ok h1, fun _ h => nomatch h⟩
  | word _ h1 h2 ih =>
    rename_i n ss s ns rows w _
    refine ⟨fun s' hs => ?_, ih.2⟩
    rcases List.mem_append.mp hs with hs | hs
    · exact ih.1 s' (List.mem_append_left _ hs)
    · rw [List.mem_singleton.mp hs]; exact ih.1 s (by simp)
  | fill _ h1 h2 h3 h4 h5 h6 h7 ih =>
    rename_i n ss s ns rows w add rule nm soft _
    refine ⟨fun s' hs => ?_, ih.2⟩
    rcases List.mem_append.mp hs with hs | hs
    · exact ih.1 s' (List.mem_append_left _ hs)
    · rw [List.mem_singleton.mp hs]
      have := ih.1 s (by simp)
      refine ⟨this.1, fun f hf => ?_⟩
      rcases List.mem_append.mp (show f ∈ s.fills ++ [_] from hf) with hf | hf
      · exact this.2 f hf
      · rw [List.mem_singleton.mp hf]; exact ⟨rule5_ok h3, nm_okS h5⟩
  | name _ h1 h2 h3 ih =>
    refine ⟨ih.1, fun m hm => ?_⟩
    rcases List.mem_append.mp hm with hm | hm
    · exact ih.2 m hm
    · rw [List.mem_singleton.mp hm]; exact ⟨nm_okS h2, sort_ok h1⟩
theorem PB.rl {n : Nat} {ss : List Stre} {ns : List Nam} {rows : List (List Str)} (h : PB n ss ns rows) : ∀ r ∈ rows, (joinB r).length ≤ 60 := by
  have two : ∀ {a b : Str}, a.length ≤ 4 → b.length ≤ 16 → (joinB [a, b]).length ≤ 60 := fun h1 h2 => by
    rw [joinB_two, len_app, len_app]
    show _ + 1 + _ ≤ _; omega
  induction h with
  | nil => exact fun _ h => nomatch h
  | skip _ ih => exact ih
  | stre _ h1 h2 ih =>
    intro r hr
    rcases List.mem_append.mp hr with hr | hr
    · exact ih r hr
    · rw [List.mem_singleton.mp hr]
      have t := two_small h2
      rename_i c k _ _
      have := numT_len (n := (2 : Int) ^ k) (by omega) (by omega)
      exact two (Nat.le_of_eq (kind_clean h1).2) (by omega)
  | word _ h1 h2 ih =>
    intro r hr
    rcases List.mem_append.mp hr with hr | hr
    · exact ih r hr
    · rw [List.mem_singleton.mp hr]
      rename_i w _ _
      have := numT_len (n := w) (by omega) (by omega)
      exact two (a := "word") (b := numT w) (by decide) (Nat.le_trans this (by decide))
  | fill _ h1 h2 h3 h4 h5 h6 h7 ih =>
    intro r hr
    rcases List.mem_append.mp hr with hr | hr
    · exact ih r hr
    · simp only [List.mem_cons, List.not_mem_nil, or_false] at hr
      rename_i w add rule nm soft _ _
      rcases hr with rfl | rfl
      · have := numT_len (n := w) (by omega) (by omega)
        exact two (a := "word") (b := numT w) (by decide) (Nat.le_trans this (by decide))
      · have l1 := numT_len (n := add) (by omega) (by omega)
        have l2 := (nm_clean h5).2
        have l3 := (r5_clean h3).2
        have l4 := (fillHd_clean soft).2
        rw [joinB_four]
        simp only [len_app]
        show _ + 1 + _ + 1 + _ + 1 + _ ≤ _
        omega
  | name _ h1 h2 h3 ih =>
    intro r hr
    rcases List.mem_append.mp hr with hr | hr
    · exact ih r hr
    · rw [List.mem_singleton.mp hr]
      exact two (sort_clean h1).2 (nm_clean h2).2.2
/-- what a row that stands does -/
theorem putRowP_cases {st st' : PS} {r q : List Str} (h : putRowP st r q = some st') :
    (isKind (r.getD 0 "") ∧ ∃ s, stepOf (r.getD 1 "") = some s ∧ st' = ⟨st.stres ++ [⟨r.getD 0 "", s, [], []⟩], st.names⟩) ∨
    (r.getD 0 "" = "word" ∧ st.stres ≠ [] ∧ ∃ w : Int, 0 ≤ w ∧ w ≤ 4294967295 ∧ st' = ⟨onLast st.stres fun s => addWord s w, st.names⟩) ∨
    (q.getD 0 "" = "word" ∧ isRule5 (r.getD 1 "") ∧ isNm (r.getD 2 "").cps.toList = true ∧ ∃ (add : Int) (soft : Bool), (soft = true → isRule (r.getD 1 "")) ∧ st' = ⟨onLast st.stres fun s => addFill s (r.getD 1 "") (r.getD 2 "") add soft, st.names⟩) ∨
    (isSort (r.getD 0 "") ∧ st.stres ≠ [] ∧ isNm (r.getD 1 "").cps.toList = true ∧ r.getD 1 "" ∉ st.names.map (·.name) ∧ st' = ⟨st.stres, st.names ++ [⟨r.getD 1 "", r.getD 0 "", (st.stres.length : Int) - 1, (lastWords st.stres : Nat)⟩]⟩) := by
  unfold putRowP at h
  split at h
  · rename_i g
    refine .inl ⟨g, ?_⟩
    unfold putStre at h
    split at h
    · cases e : stepOf (r.getD 1 "") with
      | none => rw [e] at h; cases h
      | some s => rw [e] at h; cases h; exact ⟨s, rfl, rfl⟩
    · cases h
  split at h
  · rename_i g
    unfold putWordP at h
    split at h
    · rename_i g2
      cases e : numOf (r.getD 1 "").cps.toList 0 4294967295 with
      | none => rw [e] at h; cases h
      | some w =>
        rw [e] at h; cases h
        by_cases q : (1 ≤ (figs (r.getD 1 "").cps.toList).length ∧ (figs (r.getD 1 "").cps.toList).length ≤ 10) ∧ ¬ ((figs (r.getD 1 "").cps.toList).getD 0 0 = 48 ∧ (r.getD 1 "").cps.toList ≠ [48]) ∧ (figs (r.getD 1 "").cps.toList).all isFig = true ∧ (0 ≤ valOf (r.getD 1 "").cps.toList ∧ valOf (r.getD 1 "").cps.toList ≤ 4294967295)
        · rw [numOf_some q.1 q.2.1 q.2.2.1 q.2.2.2] at e
          cases e
          exact .inr (.inl ⟨g, g2.2, _, q.2.2.2.1, q.2.2.2.2, rfl⟩)
        · rw [numOf_none q] at e; cases e
    · cases h
  split at h
  · split at h
    · rename_i g2
      unfold putFillP at h
      split at h
      · rename_i g3
        cases e : numOf (r.getD 3 "").cps.toList (-2147483648) 2147483647 with
        | none => rw [e] at h; cases h
        | some add =>
          rw [e] at h
          dsimp only at h
          split at h
          · cases h
          · rename_i g4
            cases h
            exact .inr (.inr (.inl ⟨g2, g3.2.1, g3.2.2, add, _, fun z => Classical.byContradiction fun n => g4 ⟨of_decide_eq_true z, n⟩, rfl⟩))
      · cases h
    · cases h
  split at h
  · rename_i g
    unfold putNameP at h
    split at h
    · rename_i g2
      cases h
      exact .inr (.inr (.inr ⟨g, g2.1.2.1, g2.1.2.2, g2.2, rfl⟩))
    · cases h
  · cases h
theorem onLast_len (ss : List Stre) (f : Stre → Stre) : (onLast ss f).length = ss.length := by
  rcases List.eq_nil_or_concat ss with rfl | ⟨ss0, s, rfl⟩
  · rfl
  · rw [List.concat_eq_append, onLast_app, List.length_append, List.length_append]; rfl
theorem onLast_mem {ss : List Stre} {f : Stre → Stre} {s : Stre} (h : s ∈ onLast ss f) : s ∈ ss ∨ ∃ t ∈ ss, s = f t := by
  rcases List.eq_nil_or_concat ss with rfl | ⟨ss0, t, rfl⟩
  · exact .inl h
  · rw [List.concat_eq_append] at h ⊢
    rw [onLast_app] at h
    rcases List.mem_append.mp h with h | h
    · exact .inl (List.mem_append_left _ h)
    · exact .inr ⟨t, by simp, List.mem_singleton.mp h⟩
structure PSok (n : Nat) (st : PS) : Prop where
  ok : ∀ s ∈ st.stres, s.ok
  nok : ∀ m ∈ st.names, m.ok
  ns : st.stres.length ≤ n
  nn : st.names.length ≤ n
  wl : ∀ s ∈ st.stres, s.words.length ≤ n ∧ s.fills.length ≤ n
theorem PSok.put {n : Nat} {st st' : PS} {r q : List Str} (g : PSok n st) (h : putRowP st r q = some st') : PSok (n + 1) st' := by
  rcases putRowP_cases h with ⟨h1, s, h2, rfl⟩ | ⟨h1, h2, w, h3, h4, rfl⟩ | ⟨h1, h2, h3, add, soft, h4, rfl⟩ | ⟨h1, h2, h3, h4, rfl⟩
  · refine ⟨fun t ht => ?_, g.nok, ?_, Nat.le_succ_of_le g.nn, fun t ht => ?_⟩
    · rcases List.mem_append.mp ht with ht | ht
      · exact g.ok t ht
      · rw [List.mem_singleton.mp ht]; exact ⟨kind_ok h1, fun _ h => nomatch h⟩
    · show (_ ++ [_]).length ≤ _
      rw [List.length_append, List.length_singleton]
      have := g.ns; omega
    · rcases List.mem_append.mp ht with ht | ht
      · have := g.wl t ht; omega
      · rw [List.mem_singleton.mp ht]; exact ⟨Nat.zero_le _, Nat.zero_le _⟩
  · refine ⟨fun t ht => ?_, g.nok, ?_, Nat.le_succ_of_le g.nn, fun t ht => ?_⟩
    · rcases onLast_mem ht with ht | ⟨u, hu, rfl⟩
      · exact g.ok t ht
      · exact g.ok u hu
    · show (onLast _ _).length ≤ _
      rw [onLast_len]; exact Nat.le_succ_of_le g.ns
    · rcases onLast_mem ht with ht | ⟨u, hu, rfl⟩
      · have := g.wl t ht; omega
      · have := g.wl u hu
        show (u.words ++ [w]).length ≤ _ ∧ u.fills.length ≤ _
        rw [List.length_append, List.length_singleton]; omega
  · refine ⟨fun t ht => ?_, g.nok, ?_, Nat.le_succ_of_le g.nn, fun t ht => ?_⟩
    · rcases onLast_mem ht with ht | ⟨u, hu, rfl⟩
      · exact g.ok t ht
      · refine ⟨(g.ok u hu).1, fun f hf => ?_⟩
        rcases List.mem_append.mp (show f ∈ u.fills ++ [_] from hf) with hf | hf
        · exact (g.ok u hu).2 f hf
        · rw [List.mem_singleton.mp hf]; exact ⟨rule5_ok h2, nm_okS h3⟩
    · show (onLast _ _).length ≤ _
      rw [onLast_len]; exact Nat.le_succ_of_le g.ns
    · rcases onLast_mem ht with ht | ⟨u, hu, rfl⟩
      · have := g.wl t ht; omega
      · have := g.wl u hu
        show u.words.length ≤ _ ∧ (u.fills ++ [_]).length ≤ _
        rw [List.length_append, List.length_singleton]; omega
  · refine ⟨g.ok, fun m hm => ?_, Nat.le_succ_of_le g.ns, ?_, fun t ht => by have := g.wl t ht; omega⟩
    · rcases List.mem_append.mp (show m ∈ st.names ++ [_] from hm) with hm | hm
      · exact g.nok m hm
      · rw [List.mem_singleton.mp hm]; exact ⟨nm_okS h3, sort_ok h1⟩
    · show (_ ++ [_]).length ≤ _
      rw [List.length_append, List.length_singleton]
      have := g.nn; omega
theorem readP_ok {rows : List (List Str)} : ∀ {n : Nat} {st : PS}, readP rows n = some st → PSok n st
  | 0, st, h => by cases h; exact ⟨fun _ h => (nomatch h), fun _ h => (nomatch h), Nat.le_refl _, Nat.le_refl _, fun _ h => nomatch h⟩
  | n + 1, st, h => by
    have h : (readP rows n).bind (fun st => putRowP st (rows.getD (n + 1) []) (rows.getD n [])) = some st := h
    cases e : readP rows n with
    | none => rw [e] at h; cases h
    | some s0 => rw [e] at h; exact (readP_ok e).put h
/-- behind a word stands a stretch -/
theorem readP_word {rows : List (List Str)} (h0 : (rows.getD 0 []).getD 0 "" ≠ "word") : ∀ {n : Nat} {st : PS}, readP rows n = some st → (rows.getD n []).getD 0 "" = "word" → st.stres ≠ []
  | 0, st, _, hw => absurd hw h0
  | n + 1, st, h, hw => by
    have h : (readP rows n).bind (fun st => putRowP st (rows.getD (n + 1) []) (rows.getD n [])) = some st := h
    cases e : readP rows n with
    | none => rw [e] at h; cases h
    | some s0 =>
      rw [e] at h
      have h : putRowP s0 (rows.getD (n + 1) []) (rows.getD n []) = some st := h
      generalize rows.getD (n + 1) [] = r at *
      unfold putRowP at h
      rw [hw, if_neg (by decide +kernel), if_pos rfl] at h
      unfold putWordP at h
      split at h
      · rename_i g
        cases e2 : numOf (r.getD 1 "").cps.toList 0 4294967295 with
        | none => rw [e2] at h; cases h
        | some w =>
          rw [e2] at h; cases h
          intro z
          have : (onLast s0.stres fun s => addWord s w).length = 0 := by
            have z : (onLast s0.stres fun s => addWord s w) = [] := z
            rw [z]; rfl
          rw [onLast_len] at this
          exact g.2 (List.eq_nil_of_length_eq_zero this)
      · cases h
theorem putStre_names {st st' : PS} {r : List Str} (h : putStre st r = some st') : st' = ⟨st'.stres, st.names⟩ := by
  unfold putStre at h
  split at h
  · cases e : stepOf (r.getD 1 "") with
    | none => rw [e] at h; cases h
    | some s => rw [e] at h; cases h; rfl
  · cases h
theorem putWordP_names {st st' : PS} {r : List Str} (h : putWordP st r = some st') : st' = ⟨st'.stres, st.names⟩ := by
  unfold putWordP at h
  split at h
  · cases e : numOf (r.getD 1 "").cps.toList 0 4294967295 with
    | none => rw [e] at h; cases h
    | some s => rw [e] at h; cases h; rfl
  · cases h
theorem putFillP_names {st st' : PS} {r : List Str} (h : putFillP st r = some st') : st' = ⟨st'.stres, st.names⟩ := by
  unfold putFillP at h
  split at h
  · cases e : numOf (r.getD 3 "").cps.toList (-2147483648) 2147483647 with
    | none => rw [e] at h; cases h
    | some s =>
      rw [e] at h
      dsimp only at h
      split at h
      · cases h
      · cases h; rfl
  · cases h
theorem putNameP_stres {st st' : PS} {r : List Str} (h : putNameP st r = some st') : st' = ⟨st.stres, st'.names⟩ := by
  unfold putNameP at h
  split at h
  · cases h; rfl
  · cases h
section
variable {st : PS} {c : Str} {r q : List Str}
theorem prp_fill2 (h : c = "fill" ∨ c = "soft") (hq : q.getD 0 "" = "word") : putRowP st (c :: r) q = putFillP st (c :: r) := by
  refine (if_neg ?_).trans ((if_neg ?_).trans ((if_pos h).trans (if_pos hq)))
  · show ¬ (c = "code" ∨ c = "data")
    rcases h with rfl | rfl <;> decide +kernel
  · show ¬ (c = "word")
    rcases h with rfl | rfl <;> decide +kernel
theorem prp_fill_no (h : c = "fill" ∨ c = "soft") (hq : ¬ q.getD 0 "" = "word") : putRowP st (c :: r) q = none := by
  refine (if_neg ?_).trans ((if_neg ?_).trans ((if_pos h).trans (if_neg hq)))
  · show ¬ (c = "code" ∨ c = "data")
    rcases h with rfl | rfl <;> decide +kernel
  · show ¬ (c = "word")
    rcases h with rfl | rfl <;> decide +kernel
theorem prp_word2 (h : c = "word") : putRowP st (c :: r) q = putWordP st (c :: r) := by subst h; exact prp_word
theorem prp_other (h1 : ¬ c = "code") (h2 : ¬ c = "data") (h3 : ¬ c = "word") (h4 : ¬ c = "fill") (h5 : ¬ c = "soft") (h6 : ¬ c = "tell") (h7 : ¬ c = "weak") (h8 : ¬ c = "own") : putRowP st (c :: r) q = none :=
  (if_neg (show ¬ (c = "code" ∨ c = "data") from fun h => h.elim h1 h2)).trans ((if_neg h3).trans ((if_neg (show ¬ (c = "fill" ∨ c = "soft") from fun h => h.elim h4 h5)).trans (if_neg (show ¬ (c = "tell" ∨ c = "weak" ∨ c = "own") from fun h => h.elim h6 fun h => h.elim h7 h8))))
end
end Jl

/-! Wholes written. -/
namespace Jl
open PySem L2 PySem.Spec PyProof.Rows
def leanRow (l : Lea) : List Str := [("lean" : Str), l.2.1, numT l.2.2]
def leanAt (ls : List Lea) (x : Int) : Option Lea := ls.find? fun l => decide (l.1 = x)
def wordRows (ls : List Lea) (x : Int × Int) : List (List Str) := [("word" : Str), numT x.2] :: (match leanAt ls x.1 with | some l => [leanRow l] | none => [])
def partRows (ls : List Lea) (p : Part) : List (List Str) := [("part" : Str), numT p.1] :: (posW p.1 p.2).flatMap (wordRows ls)
def showRows (ps : List Part) (ls : List Lea) : List (List Str) := ps.flatMap (partRows ls)
theorem leanAt_app {ls : List Lea} {l : Lea} {x : Int} (h : x ≠ l.1) : leanAt (ls ++ [l]) x = leanAt ls x := by
  unfold leanAt
  rw [List.find?_append, List.find?_cons, decide_eq_false (fun e => h e.symm)]
  show Option.or _ none = _
  rw [Option.or_none]
theorem leanAt_new {ls : List Lea} {l : Lea} (h : ∀ k ∈ ls, k.1 ≠ l.1) : leanAt (ls ++ [l]) l.1 = some l := by
  unfold leanAt
  have : ls.find? (fun k => decide (k.1 = l.1)) = none := List.find?_eq_none.mpr fun k hk => by simp [h k hk]
  rw [List.find?_append, this, List.find?_cons, decide_eq_true rfl]; rfl
theorem showRows_same {ps : List Part} {ls ls' : List Lea} (h : ∀ x ∈ wordsAt ps, leanAt ls x.1 = leanAt ls' x.1) : showRows ps ls = showRows ps ls' := by
  induction ps with
  | nil => rfl
  | cons p ps ih =>
    unfold showRows
    rw [List.flatMap_cons, List.flatMap_cons]
    have e1 : partRows ls p = partRows ls' p := by
      unfold partRows
      have : (posW p.1 p.2).flatMap (wordRows ls) = (posW p.1 p.2).flatMap (wordRows ls') := by
        have hh : ∀ x ∈ posW p.1 p.2, wordRows ls x = wordRows ls' x := fun x hx => by
          unfold wordRows
          rw [h x (List.mem_flatMap.mpr ⟨p, List.mem_cons_self, hx⟩)]
        revert hh
        generalize posW p.1 p.2 = xs
        intro hh
        induction xs with
        | nil => rfl
        | cons x xs ih => rw [List.flatMap_cons, List.flatMap_cons, hh x List.mem_cons_self, ih fun y hy => hh y (List.mem_cons_of_mem _ hy)]
      rw [this]
    rw [e1]
    have := ih fun x hx => h x (by
      obtain ⟨q, hq, hx⟩ := List.mem_flatMap.mp hx
      exact List.mem_flatMap.mpr ⟨q, List.mem_cons_of_mem _ hq, hx⟩)
    unfold showRows at this
    rw [this]
theorem showRows_part (ps : List Part) (ls : List Lea) (pl : Int) : showRows (ps ++ [(pl, [])]) ls = showRows ps ls ++ [[("part" : Str), numT pl]] := by
  unfold showRows
  rw [List.flatMap_append]; rfl
theorem showRows_word (ps : List Part) (ls : List Lea) (pl w : Int) (ws : List Int) : showRows (ps ++ [(pl, ws ++ [w])]) ls = showRows (ps ++ [(pl, ws)]) ls ++ wordRows ls (pl + (ws.length : Int), w) := by
  unfold showRows
  rw [List.flatMap_append, List.flatMap_append, List.append_assoc]
  congr 1
  show partRows ls (pl, ws ++ [w]) ++ [] = (partRows ls (pl, ws) ++ []) ++ _
  rw [List.append_nil, List.append_nil]
  unfold partRows
  show _ :: (posW pl (ws ++ [w])).flatMap (wordRows ls) = (_ :: (posW pl ws).flatMap (wordRows ls)) ++ _
  rw [posW_app, List.flatMap_append]
  show _ :: (_ ++ (wordRows ls (pl + (ws.length : Int), w) ++ [])) = _
  rw [List.append_nil]; rfl
theorem Bd.show_ {n : Nat} {ps : List Part} {ls : List Lea} {rows : List (List Str)} (h : Bd n ps ls rows) : showRows ps ls = rows := by
  induction h with
  | nil => rfl
  | part b h1 h2 ih => rw [showRows_part, ih]
  | word b h1 h2 ih =>
    rename_i n ps ls rows pl w ws
    rw [showRows_word, ih]
    have f := b.fit
    have : leanAt ls (pl + (ws.length : Int)) = none := List.find?_eq_none.mpr fun l hl => by
      obtain ⟨x, hx, e⟩ := List.mem_map.mp (f.lat l hl)
      have := (f.low x hx).2.1
      rw [endOf_app] at this
      simp only [decide_eq_true_eq]
      omega
    unfold wordRows
    show _ ++ ([_, _] :: (match leanAt ls (pl + (ws.length : Int)) with | some l => [leanRow l] | none => [])) = _
    rw [this]
  | lean b h1 h2 h3 h4 h5 ih =>
    rename_i n ps ls rows pl w g ws t
    have f := b.fit
    have hlt : ∀ l ∈ ls, l.1 < endOf (ps ++ [(pl, ws)]) := fun l hl => by
      obtain ⟨x, hx, e⟩ := List.mem_map.mp (f.lat l hl)
      rw [← e]
      exact (f.low x hx).2.1
    rw [showRows_word]
    have e1 : showRows (ps ++ [(pl, ws)]) (ls ++ [(endOf (ps ++ [(pl, ws)]), t, g)]) = showRows (ps ++ [(pl, ws)]) ls := showRows_same fun x hx => leanAt_app (by
      have := (f.low x hx).2.1
      show x.1 ≠ endOf (ps ++ [(pl, ws)])
      omega)
    rw [e1, ih]
    have e2 : leanAt (ls ++ [(endOf (ps ++ [(pl, ws)]), t, g)]) (pl + (ws.length : Int)) = some (endOf (ps ++ [(pl, ws)]), t, g) := by
      have := leanAt_new (ls := ls) (l := (endOf (ps ++ [(pl, ws)]), t, g)) fun k hk => by
        have := hlt k hk
        show k.1 ≠ endOf (ps ++ [(pl, ws)])
        omega
      rw [← endOf_app ps pl ws]
      exact this
    unfold wordRows
    show rows ++ ([_, _] :: (match leanAt (ls ++ [(endOf (ps ++ [(pl, ws)]), t, g)]) (pl + (ws.length : Int)) with | some l => [leanRow l] | none => [])) = _
    rw [e2]; rfl
/-- frozen wholes -/
def partF (p : Part) : Tr := .t [.d (.int p.1), .f (p.2.map intT)]
def hwF (s z e : Int) (st : RS) : Tr := .t [.d (.int s), .d (.int z), .d (.int e), .f (st.parts.map partF), .f (st.leans.map leanT)]
theorem partF_per (p : Part) : Per (partF p) := .t (pers_cons (.d _) (pers_cons (.f (pers_map intT_per)) pers_nil))
theorem hwF_per (s z e : Int) (st : RS) : Per (hwF s z e st) := .t (pers_cons (.d _) (pers_cons (.d _) (pers_cons (.d _) (pers_cons (.f (pers_map partF_per)) (pers_cons (.f (pers_map leanT_per)) pers_nil)))))
theorem partF_d (p : Part) : TrD (partF p) (partD p) := TrDs.t (.cons (.d _) (.cons (TrDs.f (trds_map intT_d _)) .nil))
theorem hwF_d (s z e : Int) (st : RS) : TrD (hwF s z e st) (whD ⟨s, z, e, st.parts, st.leans⟩) := TrDs.t (.cons (.d _) (.cons (.d _) (.cons (.d _) (.cons (TrDs.f (trds_map partF_d _)) (.cons (TrDs.f (trds_map leanT_d _)) .nil)))))
theorem fz_map {α : Type} {e f : α → Tr} (h : ∀ x, Fz (e x) (f x)) (l : List α) : Fz (.l (l.map e)) (.f (l.map f)) := .l (by rw [List.length_map, List.length_map]) fun i t u h1 h2 => by
  rw [List.getElem?_map] at h1 h2
  cases q : l[i]? with
  | none => rw [q] at h1; cases h1
  | some x => rw [q] at h1 h2; cases h1; cases h2; exact h x
theorem Fz.two {a b c d : Tr} (h1 : Fz a c) (h2 : Fz b d) : Fz (.t [a, b]) (.t [c, d]) := .t rfl fun i t u e1 e2 => by
  match i, e1, e2 with
  | 0, e1, e2 => cases e1; cases e2; exact h1
  | 1, e1, e2 => cases e1; cases e2; exact h2
theorem partF_fz (p : Part) : Fz (partT p) (partF p) := Fz.two (.p (.d _)) (Fz.per (pers_map intT_per))
theorem hwF_fz (s z e : Int) (st : RS) : Fz (hwT s z e st) (hwF s z e st) := .t rfl fun i t u e1 e2 => by
  match i, e1, e2 with
  | 0, e1, e2 => cases e1; cases e2; exact .p (.d _)
  | 1, e1, e2 => cases e1; cases e2; exact .p (.d _)
  | 2, e1, e2 => cases e1; cases e2; exact .p (.d _)
  | 3, e1, e2 => cases e1; cases e2; exact fz_map partF_fz _
  | 4, e1, e2 => cases e1; cases e2; exact Fz.per (pers_map leanT_per)
/-- texts of clean rows tell the rows -/
theorem textOf_inj {r1 r2 : List (List Str)} (n1 : r1 ≠ []) (n2 : r2 ≠ []) (h1 : ∀ r ∈ r1, CleanR r) (h2 : ∀ r ∈ r2, CleanR r) (e : textOf r1 = textOf r2) : r1 = r2 := by
  rw [← rowsOf_text n1 h1, ← rowsOf_text n2 h2, e]
theorem numT_inj {a b : Int} (ha : -9999999999 ≤ a) (ha2 : a ≤ 9999999999) (hb : -9999999999 ≤ b) (hb2 : b ≤ 9999999999) (e : numT a = numT b) : a = b := by
  have h1 := numOf_num ha ha2 ha ha2
  have h2 := numOf_num hb hb2 hb hb2
  rw [e, h2] at h1
  exact (Option.some.inj h1).symm
/-! f-strings -/
section
variable {K : PySem.W.Frag} {σ : L2.St} {H : Hp} {Q : VK} {te : TE} {z acc : Str} {i : Int} {ts : List TE} {R : Str → Hp → Prop}
def JsK (ts : List TE) (acc : Str) (σ : L2.St) (R : Str → Hp → Prop) : VK := fun x H1 => ∃ y : Str, x = .str y ∧ (acc ++ y).length ≤ sizeLine ∧ tJs ts (acc ++ y) σ H1 R
theorem s_js (k : tJs ts Str.empty σ H fun out H1 => Q (.str out) H1) : (fun σ H Q => tJs ts Str.empty σ H fun out H1 => Q (.str out) H1 : TE) σ H Q := k
theorem s_jsc {t : TE} (k : t σ H (JsK ts acc σ R)) : tJs (t :: ts) acc σ H R := k
theorem s_jsn (k : R acc H) : tJs [] acc σ H R := k
theorem s_jsk (hl : (acc ++ z).length ≤ 100000) (k : tJs ts (acc ++ z) σ H R) : JsK ts acc σ R (.str z) H := ⟨z, rfl, small5 hl, k⟩
def FmtK (Q : VK) : VK := fun x H1 => (∃ y : Str, x = .str y ∧ y.length ≤ sizeLine ∧ Q (.str y) H1) ∨ ∃ i : Int, x = .int i ∧ i.natAbs.log2 < 1920 ∧ Q (.str (toString i)) H1
theorem s_fmt (k : te σ H (FmtK Q)) : tFmt te σ H Q := k
theorem s_fmtS (hl : z.length ≤ 100000) (k : Q (.str z) H) : FmtK Q (.str z) H := .inl ⟨z, rfl, small5 hl, k⟩
theorem s_fmtI (h1 : -(10 ^ 70) ≤ i) (h2 : i ≤ 10 ^ 70) (k : Q (.str (numT i)) H) : FmtK Q (.int i) H := .inr ⟨i, rfl, log_ok2 h1 h2, k⟩
def tJs' (ts : List TE) : TE := fun σ H Q => tJs ts Str.empty σ H fun out H1 => Q (.str out) H1
theorem pe_joinedN {X : Cx} {v1 v2 : Expr} {rest : List Expr} {ts : List TE} {pos : Pos} (h : PJ X (v1 :: v2 :: rest) ts) : PE X (.JoinedStr (v1 :: v2 :: rest) pos) (tJs' ts) := pe_joined h
theorem s_js' (k : tJs ts Str.empty σ H fun out H1 => Q (.str out) H1) : tJs' ts σ H Q := k
end
end Jl
namespace Jl
open PySem L2 PySem.Spec PyProof.Rows
section
variable {K : PySem.W.Frag} {B H H' : Hp} {Γ Γ' Γ1 : Ents} {v u w : V} {t s : Tr} {x : PyData} {a m p : Addr} {Q : VK} {σ : L2.St} {nx bk ct : L2.St → Hp → Prop} {rt : VK} {g : TG} {tu : TS} {ta : TA}
def ForE (K : PySem.W.Frag) (g : TG) (tu : TS) (D : Ends) (σ : L2.St) : List V → Hp → Prop := fun vs H1 => ∃ a xs, vs = [.ref a] ∧ SqL K H1 a xs ∧ ∃ W : Nat → Nat → L2.St → Hp → Prop, (∃ m, W 0 m σ H1) ∧ ∀ i m σ H, W i m σ H →
  ((Ite K a).stop i H ∧ D.nx σ H) ∨ ((Ite K a).go i H ∧ ∃ N : L2.St → Hp → Prop, (∀ σ' H', N σ' H' → ∃ m', m' < m ∧ W (i + 1) m' σ' H') ∧ ∀ x H', (Ite K a).yld i H x H' → g x σ H' fun σ2 H2 => tu { D with nx := N, ct := N, bk := D.nx } σ2 H2)
theorem s_forE' {D : Ends} (z : ta σ H (ForE K g tu D σ)) : tFor (iEnum K ta) g tu D σ H := z
theorem forE_T {α : Type} {l : List α} {e : α → Tr} (I : Nat → L2.St → Ents → Prop) (R : Rep K B H Γ) (h0 : I 0 σ Γ) (hm : ∀ i σ Γ, i ≤ l.length → I i σ Γ → Ls Γ v (l.map e))
    (hs : ∀ i y σ' H' Γ', l[i]? = some y → I i σ' Γ' → ∀ T, Rep K B H' ((.ref T, .t [.d (.int (i : Int)), e y]) :: Γ') → g (.ref T) σ' H' fun σ2 H2 => tu ⟨RI K B (I (i + 1)), rt, nx, RI K B (I (i + 1))⟩ σ2 H2)
    (hd : ∀ σ' H' Γ', I l.length σ' Γ' → Rep K B H' Γ' → nx σ' H') : ForE K g tu ⟨nx, rt, bk, ct⟩ σ [v] H := by
  obtain ⟨a, Es, rfl, q, e0, R1⟩ := R.ld (hm 0 σ Γ (Nat.zero_le _) h0)
  refine ⟨a, _, rfl, q, fun i m σ' H' => m = l.length - i ∧ i ≤ l.length ∧ RI K B (I i) σ' H', ⟨l.length, by simp, Nat.zero_le _, Γ, R, h0⟩, ?_⟩
  rintro i m σ' H' ⟨rfl, hi, Γ', R', hI⟩
  obtain ⟨a', Es, ea, q, e1, R2⟩ := R'.ld (hm i σ' Γ' hi hI)
  cases ea
  have hl : (Es.map (·.1)).length = l.length := by rw [es_len e1, List.length_map]
  by_cases hlt : i < l.length
  · have hx : (Es.map (·.1))[i]? = some (Es.map (·.1))[i] := List.getElem?_eq_getElem (by omega)
    refine .inr ⟨⟨_, _, q, hx⟩, RI K B (I (i + 1)), fun σ2 H2 h => ⟨l.length - (i + 1), by omega, rfl, hlt, h⟩, fun x H2 y => ?_⟩
    obtain ⟨T, x', rfl, nT, rfl, y⟩ := y
    have hx := y _ q
    have hy : l[i]? = some l[i] := List.getElem?_eq_getElem hlt
    have hz : (l.map e)[i]? = some (e l[i]) := by rw [List.getElem?_map, hy]; rfl
    have R3 := es_at R2 e1 hx hz
    have R4 : Rep K B H' ((.int (i : Int), .d (.int (i : Int))) :: (x', e l[i]) :: Γ') := R3.scal fun G => .int _
    exact hs i _ σ' _ Γ' hy hI T (Rep.newT (Δ := [(.int (i : Int), .d (.int (i : Int))), (x', e l[i])]) R4 nT)
  · have : i = l.length := by omega
    subst this
    exact .inl ⟨⟨_, q, by omega⟩, hd σ' H' Γ' hI R'⟩
/-! dicts of own -/
theorem Rep.mCell {L : List (Key × PyData)} (R : Rep K B H Γ) (h : (v, .m L) ∈ Γ) : ∃ a kvs, v = .ref a ∧ H a = some (.dK kvs) ∧ kvs.length = L.length ∧ kvs.map (·.1) = L.map (·.1) ∧ (∀ (k : Key) x, lookL L k = some x → ∃ w, valV kvs k = some w ∧ Rep K B H ((w, .d x) :: Γ)) ∧ (∀ k : Key, lookL L k = none → valV kvs k = none) := by
  obtain ⟨Γ1, p⟩ := perm_mem h
  obtain ⟨a, kvs, e, h1, h2, h3, h4, h5⟩ := (R.perm p).m
  refine ⟨a, kvs, e, h1, h2, h3, fun k x hx => ?_, h5⟩
  obtain ⟨w, q1, q2⟩ := h4 k x hx
  exact ⟨w, q1, q2.perm (List.Perm.cons _ p.symm)⟩
def DinK (y : V) (Q : VK) : VK := fun x H2 => ∃ a o, x = .ref a ∧ DGet H2 a y o ∧ Q (.bl o.isSome) H2
def DnotK (y : V) (Q : VK) : VK := fun x H2 => ∃ a o, x = .ref a ∧ DGet H2 a y o ∧ Q (.bl (!o.isSome)) H2
def DgetK (Q : VK) : V → Hp → V → Prop := fun y H2 x => ∃ a v, x = .ref a ∧ DGet H2 a y (some v) ∧ Q v H2
theorem s_dinK {ty td : TE} (z : ty σ H fun y H1 => td σ H1 (DinK y Q)) : tDIn ty td σ H Q := z
theorem s_dnotK {ty td : TE} (z : ty σ H fun y H1 => td σ H1 (DnotK y Q)) : tDNotIn ty td σ H Q := z
theorem s_dgetK {ty td : TE} (z : td σ H fun x H1 => ty σ H1 fun y H2 => DgetK Q y H2 x) : tDGet td ty σ H Q := z
theorem s_dinM {L : List (Key × PyData)} (k : Key) (R : Rep K B H Γ) (h : (v, .m L) ∈ Γ) (z : Q (.bl (lookL L k).isSome) H) : DinK (kV k) Q v H := by
  show ∃ a o, v = .ref a ∧ DGet H a (kV k) o ∧ Q (.bl o.isSome) H
  obtain ⟨a, kvs, rfl, h1, -, -, h4, h5⟩ := R.mCell h
  refine ⟨a, valV kvs k, rfl, .k h1, ?_⟩
  cases e : lookL L k with
  | none => rw [h5 k e]; rw [e] at z; exact z
  | some x =>
    obtain ⟨w, q, -⟩ := h4 k x e
    rw [q]; rw [e] at z; exact z
theorem s_dnotM {L : List (Key × PyData)} (k : Key) (R : Rep K B H Γ) (h : (v, .m L) ∈ Γ) (z : Q (.bl (!(lookL L k).isSome)) H) : DnotK (kV k) Q v H :=
  s_dinM (Q := fun x H => ∀ b, x = .bl b → Q (.bl (!b)) H) k R h (fun b e => by cases e; exact z) |> fun ⟨a, o, h1, h2, h3⟩ => ⟨a, o, h1, h2, h3 _ rfl⟩
theorem s_dgetM {L : List (Key × PyData)} (k : Key) (R : Rep K B H Γ) (h : (v, .m L) ∈ Γ) (e : lookL L k = some x) (z : Qv (.d x) Γ fun w Γ' => Rep K B H Γ' → Q w H) : DgetK Q (kV k) H v := by
  obtain ⟨a, kvs, rfl, h1, -, -, h4, -⟩ := R.mCell h
  obtain ⟨w, q1, q2⟩ := h4 k x e
  exact ⟨a, w, rfl, by rw [← q1]; exact .k h1, z.use q2⟩
theorem s_dputM {L : List (Key × PyData)} (k : Key) (R : Rep K B H Γ) (h : Sel (v, .m L) Γ Γ1) (I : It Γ1 w (.d x)) (hl : L.length ≤ 99999) (z : ∀ H', Rep K B H' ((v, .m (putL L k x)) :: Γ1) → nx σ H') : ∃ a H4, v = .ref a ∧ DPut H a (kV k) w H4 ∧ nx σ H4 := by
  have R1 := R.sel h
  obtain ⟨a, rfl⟩ : ∃ a, v = .ref a := by
    obtain ⟨a, _, e, _⟩ := R1.m
    exact ⟨a, e⟩
  have R2 : Rep K B H ((.ref a, .m L) :: (w, .d x) :: Γ1) := I.pick.go (Φ := [(.ref a, .m L)]) R1
  obtain ⟨kvs, e1, e2, R3⟩ := R2.putM (k := k)
  exact ⟨a, _, rfl, DPut.k e1 (small5' (by omega)), z _ R3⟩
theorem s_dnewM (R : Rep K B H Γ) (z : ∀ p H', Rep K B H' ((.ref p, .m []) :: Γ) → Q (.ref p) H') : tDNewK σ H Q := fun p np => z p _ (R.newM np)
theorem putL_new {κ : Type} [DecidableEq κ] {L : List (κ × PyData)} {k : κ} {d : PyData} (h : k ∉ L.map (·.1)) : putL L k d = L ++ [(k, d)] := if_neg h
end
/-! the lean of a place -/
def behL (ls : List Lea) : List (Key × PyData) := ls.map fun l => (.inl l.1, .str (joinB (leanRow l)))
theorem behL_look (ls : List Lea) (x : Int) : lookL (behL ls) (.inl x) = (leanAt ls x).map fun l => .str (joinB (leanRow l)) := by
  induction ls with
  | nil => rfl
  | cons l ls ih =>
    show lookL ((Sum.inl l.1, _) :: behL ls) _ = _
    rw [lookL_cons, ih]
    unfold leanAt
    rw [List.find?_cons]
    by_cases h : l.1 = x
    · rw [if_pos (by rw [h]), decide_eq_true h]; rfl
    · rw [if_neg (fun e => h (Sum.inl.inj e)), decide_eq_false h]
structure WOK (w : Wh) : Prop where
  hd : (0 ≤ w.step ∧ w.step ≤ 9999999999) ∧ (0 ≤ w.size ∧ w.size ≤ 9999999999) ∧ (0 ≤ w.entry ∧ w.entry ≤ 9999999999)
  np : w.parts.length ≤ 200
  nl : w.leans.length ≤ 200
  nw : (wordsAt w.parts).length ≤ 200
  pp : ∀ p ∈ w.parts, (0 ≤ p.1 ∧ p.1 ≤ 9999999999) ∧ p.2.length ≤ 200 ∧ ∀ n ∈ p.2, 0 ≤ n ∧ n ≤ 9999999999
  lp : ∀ l ∈ w.leans, isRule l.2.1 ∧ -9999999999 ≤ l.2.2 ∧ l.2.2 ≤ 9999999999
  key : (w.leans.map (·.1)).Nodup
end Jl
namespace Jl
open PySem L2 PySem.Spec PyProof.Rows
theorem lit_sp {a b : Str} (h : TL.tl a = TL.tl b ++ [32]) (x : Str) : Str.empty ++ a ++ x = b ++ " " ++ x := by
  refine TL.ext_tl ?_
  rw [TL.tl_append, TL.tl_append, TL.tl_append, TL.tl_append, h, sp_tl]; rfl
theorem f_two {a b : Str} (h : TL.tl a = TL.tl b ++ [32]) (x : Str) : Str.empty ++ a ++ x = joinB [b, x] := by rw [lit_sp h, joinB_two]
theorem f_three {a b : Str} (h : TL.tl a = TL.tl b ++ [32]) (x y : Str) : Str.empty ++ a ++ x ++ " " ++ y = joinB [b, x, y] := by rw [lit_sp h, joinB_three]
theorem f_four {a b : Str} (h : TL.tl a = TL.tl b ++ [32]) (x y z : Str) : Str.empty ++ a ++ x ++ " " ++ y ++ " " ++ z = joinB [b, x, y, z] := by rw [lit_sp h, joinB_four]
theorem c_emp : Str.empty.length = 0 := rfl
theorem c_whole : (Str.ofString "whole ").length = 6 := rfl
theorem c_sp : (Str.ofString " ").length = 1 := rfl
theorem c_lean : (Str.ofString "lean ").length = 5 := rfl
theorem c_part : (Str.ofString "part ").length = 5 := rfl
theorem c_word : (Str.ofString "word ").length = 5 := rfl
end Jl
namespace Jl
open PySem L2 PySem.Spec PyProof.Rows
theorem wordRows_len (ls : List Lea) (x : Int × Int) : (wordRows ls x).length ≤ 2 := by
  unfold wordRows
  split
  · exact Nat.le_refl 2
  · show 1 ≤ 2; decide
theorem flat_wr_len (ls : List Lea) : ∀ xs : List (Int × Int), (xs.flatMap (wordRows ls)).length ≤ 2 * xs.length
  | [] => Nat.le_refl _
  | x :: xs => by
    rw [List.flatMap_cons, List.length_append, List.length_cons]
    have := wordRows_len ls x
    have := flat_wr_len ls xs
    omega
theorem showRows_len (ls : List Lea) : ∀ ps : List Part, (showRows ps ls).length ≤ ps.length + 2 * (wordsAt ps).length
  | [] => Nat.le_refl _
  | p :: ps => by
    have h1 := showRows_len ls ps
    have h2 := flat_wr_len ls (posW p.1 p.2)
    have e1 : showRows (p :: ps) ls = partRows ls p ++ showRows ps ls := rfl
    have e2 : wordsAt (p :: ps) = posW p.1 p.2 ++ wordsAt ps := rfl
    rw [e1, e2, List.length_append, List.length_append, List.length_cons]
    unfold partRows
    rw [List.length_cons]
    omega
theorem words_take (ps : List Part) (i : Nat) : (wordsAt (ps.take i)).length ≤ (wordsAt ps).length := by
  have : wordsAt ps = wordsAt (ps.take i) ++ wordsAt (ps.drop i) := by
    unfold wordsAt
    rw [← List.flatMap_append, List.take_append_drop]
  rw [this, List.length_append]
  exact Nat.le_add_right _ _
theorem showRows_take {ps : List Part} {ls : List Lea} {i : Nat} {q : Part} (h : ps[i]? = some q) : showRows (ps.take (i + 1)) ls = showRows (ps.take i) ls ++ partRows ls q := by
  rw [List.take_add_one, h]
  unfold showRows
  rw [List.flatMap_append]
  show _ ++ (partRows ls q ++ []) = _
  rw [List.append_nil]
theorem posW_take {pl : Int} {ws : List Int} {j : Nat} {w : Int} (h : ws[j]? = some w) : (posW pl ws).take (j + 1) = (posW pl ws).take j ++ [(pl + (j : Int), w)] := by
  have : (posW pl ws)[j]? = some (pl + (j : Int), w) := by
    induction ws generalizing pl j with
    | nil => cases h
    | cons x ws ih =>
      cases j with
      | zero => cases h; show some (pl, w) = some (pl + 0, w); rw [Int.add_zero]
      | succ j =>
        have h : ws[j]? = some w := h
        show (posW (pl + 1) ws)[j]? = _
        rw [ih h, show pl + 1 + (j : Int) = pl + ((j + 1 : Nat) : Int) by omega]
  rw [List.take_add_one, this]; rfl
theorem wordRows_clean {ls : List Lea} (hl : ∀ l ∈ ls, isRule l.2.1) (x : Int × Int) : ∀ r ∈ wordRows ls x, CleanR r := fun r hr => by
  unfold wordRows at hr
  rcases List.mem_cons.mp hr with rfl | hr
  · exact cleanR2 word_clean (num_clean _)
  · cases e : leanAt ls x.1 with
    | none => rw [e] at hr; cases hr
    | some l =>
      rw [e] at hr
      rw [List.mem_singleton.mp hr]
      exact cleanR3 lean_clean (rule_clean (hl l (List.mem_of_find?_eq_some e))).1 (num_clean _)
theorem showRows_clean {ps : List Part} {ls : List Lea} (hl : ∀ l ∈ ls, isRule l.2.1) : ∀ r ∈ showRows ps ls, CleanR r := fun r hr => by
  obtain ⟨p, _, hr⟩ := List.mem_flatMap.mp hr
  rcases List.mem_cons.mp hr with rfl | hr
  · exact cleanR2 part_clean (num_clean _)
  · obtain ⟨x, _, hr⟩ := List.mem_flatMap.mp hr
    exact wordRows_clean hl x r hr
theorem WOK.pos {w : Wh} (ok : WOK w) {p : Part} (hp : p ∈ w.parts) {x : Int × Int} (hx : x ∈ posW p.1 p.2) : -9999999999 ≤ x.2 ∧ x.2 ≤ 9999999999 := by
  obtain ⟨_, _, h3⟩ := ok.pp p hp
  have key : ∀ (ws : List Int) (pl : Int), x ∈ posW pl ws → x.2 ∈ ws := fun ws => by
    induction ws with
    | nil => intro pl h; cases h
    | cons w ws ih =>
      intro pl h
      rcases List.mem_cons.mp h with rfl | h
      · exact List.mem_cons_self
      · exact List.mem_cons_of_mem _ (ih _ h)
  have := h3 x.2 (key _ _ hx)
  omega
theorem WOK.rows {w : Wh} (ok : WOK w) : ∀ r ∈ showRows w.parts w.leans, (joinB r).length ≤ 30 := fun r hr => by
  obtain ⟨p, hp, hr⟩ := List.mem_flatMap.mp hr
  obtain ⟨h1, h2, h3⟩ := ok.pp p hp
  have two : ∀ (a : Str) (n : Int), a.length = 4 → -9999999999 ≤ n → n ≤ 9999999999 → (joinB [a, numT n]).length ≤ 30 := fun a n ha h1 h2 => by
    rw [joinB_two, len_app, len_app, ha]
    have := numT_len h1 h2
    show 4 + 1 + _ ≤ _
    omega
  rcases List.mem_cons.mp hr with rfl | hr
  · exact two _ _ rfl (by omega) (by omega)
  · obtain ⟨x, hx, hr⟩ := List.mem_flatMap.mp hr
    have hx2 := ok.pos hp hx
    unfold wordRows at hr
    rcases List.mem_cons.mp hr with rfl | hr
    · exact two _ _ rfl hx2.1 hx2.2
    · cases e : leanAt w.leans x.1 with
      | none => rw [e] at hr; cases hr
      | some l =>
        rw [e] at hr
        rw [List.mem_singleton.mp hr]
        obtain ⟨q1, q2, q3⟩ := ok.lp l (List.mem_of_find?_eq_some e)
        have q4 := (rule_clean q1).2
        have q5 := numT_len q2 q3
        show (joinB [("lean" : Str), l.2.1, numT l.2.2]).length ≤ 30
        rw [joinB_three, len_app, len_app, len_app, len_app]
        show 4 + 1 + _ + 1 + _ ≤ _
        omega
end Jl
namespace Jl
open PySem L2 PySem.Spec PyProof.Rows
theorem flat_inj {ls ls' : List Lea} (hl : ∀ x, (wordRows ls x).length = (wordRows ls' x).length) : ∀ {xs : List (Int × Int)}, xs.flatMap (wordRows ls) = xs.flatMap (wordRows ls') → ∀ x ∈ xs, wordRows ls x = wordRows ls' x
  | [], _, _, h => nomatch h
  | y :: ys, e, x, h => by
    rw [List.flatMap_cons, List.flatMap_cons] at e
    obtain ⟨e1, e2⟩ := List.append_inj e (hl y)
    rcases List.mem_cons.mp h with rfl | h
    · exact e1
    · exact flat_inj hl e2 x h
theorem flat_len {ls ls' : List Lea} (hl : ∀ x, (wordRows ls x).length = (wordRows ls' x).length) : ∀ xs : List (Int × Int), (xs.flatMap (wordRows ls)).length = (xs.flatMap (wordRows ls')).length
  | [] => rfl
  | y :: ys => by rw [List.flatMap_cons, List.flatMap_cons, List.length_append, List.length_append, hl y, flat_len hl ys]
theorem show_inj {ls ls' : List Lea} (hl : ∀ x, (wordRows ls x).length = (wordRows ls' x).length) : ∀ {ps : List Part}, showRows ps ls = showRows ps ls' → ∀ x ∈ wordsAt ps, wordRows ls x = wordRows ls' x
  | [], _, _, h => nomatch h
  | p :: ps, e, x, h => by
    have e : partRows ls p ++ showRows ps ls = partRows ls' p ++ showRows ps ls' := e
    have h : x ∈ posW p.1 p.2 ++ wordsAt ps := h
    have hpl : (partRows ls p).length = (partRows ls' p).length := by
      unfold partRows
      rw [List.length_cons, List.length_cons, flat_len hl]
    obtain ⟨e1, e2⟩ := List.append_inj e hpl
    rcases List.mem_append.mp h with h | h
    · exact flat_inj hl (List.cons.inj e1).2 x h
    · exact show_inj hl e2 x h
theorem leanAt_last {ls : List Lea} {l : Lea} (nd : ((ls ++ [l]).map (·.1)).Nodup) : leanAt (ls ++ [l]) l.1 = some l := leanAt_new fun k hk e => by
  rw [List.map_append, List.nodup_append] at nd
  exact nd.2.2 k.1 (List.mem_map_of_mem hk) l.1 (by simp) e
/-- another target in the last lean: another text -/
theorem turned_text {hd : List Str} {ps : List Part} {ls : List Lea} {a : Int} {t : Str} {g g' : Int} (hh : CleanR hd) (nd : ((ls ++ [(a, t, g)]).map (·.1)).Nodup) (hr : ∀ l ∈ ls, isRule l.2.1) (ht : isRule t)
    (h1 : -9999999999 ≤ g ∧ g ≤ 9999999999) (h2 : -9999999999 ≤ g' ∧ g' ≤ 9999999999) (hw : ∃ x ∈ wordsAt ps, x.1 = a) :
    textOf (hd :: showRows ps (ls ++ [(a, t, g')])) = textOf (hd :: showRows ps (ls ++ [(a, t, g)])) ↔ g' = g := by
  refine ⟨fun e => ?_, fun e => by rw [e]⟩
  have hr2 : ∀ g9, ∀ l ∈ ls ++ [(a, t, g9)], isRule l.2.1 := fun g9 l hl => by
    rcases List.mem_append.mp hl with hl | hl
    · exact hr l hl
    · rw [List.mem_singleton.mp hl]; exact ht
  have e := textOf_inj (r1 := hd :: showRows ps (ls ++ [(a, t, g')])) (r2 := hd :: showRows ps (ls ++ [(a, t, g)])) (List.cons_ne_nil _ _) (List.cons_ne_nil _ _) (fun r hr => by
    rcases List.mem_cons.mp hr with rfl | hr
    · exact hh
    · exact showRows_clean (hr2 g') r hr) (fun r hr => by
    rcases List.mem_cons.mp hr with rfl | hr
    · exact hh
    · exact showRows_clean (hr2 g) r hr) e
  have e := (List.cons.inj e).2
  have nd' : ((ls ++ [(a, t, g')]).map (·.1)).Nodup := by rw [List.map_append] at nd ⊢; exact nd
  have la := leanAt_last nd
  have la' := leanAt_last nd'
  have hl : ∀ x, (wordRows (ls ++ [(a, t, g')]) x).length = (wordRows (ls ++ [(a, t, g)]) x).length := fun x => by
    unfold wordRows
    by_cases h : x.1 = a
    · rw [h, la, la']; rfl
    · rw [leanAt_app (l := (a, t, g')) h, leanAt_app (l := (a, t, g)) h]
  obtain ⟨x, hx, rfl⟩ := hw
  have e2 := show_inj hl e x hx
  unfold wordRows at e2
  rw [la, la'] at e2
  have e3 : leanRow (x.1, t, g') = leanRow (x.1, t, g) := (List.cons.inj (List.cons.inj e2).2).1
  unfold leanRow at e3
  exact numT_inj h2.1 h2.2 h1.1 h1.2 (List.cons.inj (List.cons.inj (List.cons.inj e3).2).2).1
theorem eqv_lean (a : Int) (t : Str) (g g' : Int) : PyData.eqv (leanD (a, t, g')) (leanD (a, t, g)) = decide (g' = g) := by
  show ((a == a) && ((t == t) && ((g' == g) && true))) = _
  simp
  rw [Bool.eq_iff_iff]
  simp
section
variable {K : PySem.W.Frag} {B H H' : Hp} {Γ Γ' Γ1 : Ents} {v w : V} {t : Tr} {a : Addr} {Q : VK} {ts : List Tr} {x y : PyData}
theorem s_eqR (h1 : Dp K H v x) (h2 : Dp K H w y) (s1 : SeqAt.shaped x = true) (s2 : SeqAt.shaped y = true) (z : Q (.bl (PyData.eqv x y)) H) : rEqD K v w H Q := ⟨_, _, h1, h2, s1, s2, z⟩
theorem ent_eq {y : V × Tr} : y = (y.1, y.2) := rfl
theorem Rep.setAt {j : Nat} (R : Rep K B H ((.ref a, .l ts) :: (v, t) :: Γ)) (hj : j < ts.length) : ∃ vs, H a = some (.lst vs) ∧ vs.length = ts.length ∧ Rep K B (upd H a (.lst (vs.set j v))) ((.ref a, .l (ts.set j t)) :: Γ) := by
  obtain ⟨Δ, e1, e2, f⟩ := R.reL (Γ := Γ)
  have hl : Δ.length = ts.length := by rw [← e1, List.length_map]
  refine ⟨_, e2, map_len e1, ?_⟩
  have key : ∀ (Δ : Ents) (j : Nat), j < Δ.length → Pick (Δ ++ (v, t) :: Γ) (Δ.set j (v, t) ++ Γ) := fun Δ => by
    induction Δ with
    | nil => intro j h; cases h
    | cons y Δ ih =>
      intro j h
      cases j with
      | zero =>
        refine .tail ?_
        have hs : ∀ Δ : Ents, Sel (v, t) (Δ ++ (v, t) :: Γ) (Δ ++ Γ) := fun Δ => by
          induction Δ with
          | nil => exact .head
          | cons z Δ ih => exact .tail ih
        exact .own (hs Δ) .refl
      | succ j => exact .own (v := y.1) (t := y.2) .head (ih j (Nat.lt_of_succ_lt_succ h))
  have := f (Δ.set j (v, t)) (key Δ j (by omega))
  rw [List.map_set, List.map_set, e1] at this
  exact this
theorem s_setR {P : Hp → Prop} {i : Int} {j : Nat} (R : Rep K B H Γ) (h : Sel (.ref a, .l ts) Γ Γ1) (p : Pick Γ1 ((v, t) :: Γ')) (e : ixN ts.length i = some j) (z : ∀ H', Rep K B H' ((.ref a, .l (ts.set j t)) :: Γ') → P H') : rSetL (.ref a) (.int i) v H P := by
  have R := p.go (Φ := [(.ref a, .l ts)]) (R.sel h)
  have hj : j < ts.length := (ixN_seq e).2.1
  obtain ⟨vs, e1, e2, R⟩ := R.setAt hj
  exact ⟨a, vs, i, j, rfl, rfl, e1, by rw [e2]; exact e, z _ R⟩
end
theorem ixN_last {α : Type} (l : List α) (x : α) : ixN (l ++ [x]).length (-1) = some l.length := by
  unfold ixN
  rw [if_neg (by decide), List.length_append, List.length_singleton, if_pos (by omega)]
  congr 1
  omega
theorem leanD_shaped {l : Lea} (h : isRule l.2.1) : SeqAt.shaped (leanD l) = true := shaped_of (leanD_ok h).1 (Nat.le_trans (leanD_ok h).2 (by decide))
end Jl
namespace Jl
open PySem L2 PySem.Spec PyProof.Rows
theorem Bd.pb {n : Nat} {ps : List Part} {ls : List Lea} {rows : List (List Str)} (h : Bd n ps ls rows) : ∀ p ∈ ps, (0 ≤ p.1 ∧ p.1 ≤ 10000001 * n) ∧ p.2.length ≤ n ∧ ∀ w ∈ p.2, 0 ≤ w ∧ w ≤ 4294967295 := by
  have snoc : ∀ {n : Nat} {ps : List Part} {pl w : Int} {ws : List Int}, (∀ p ∈ ps ++ [(pl, ws)], (0 ≤ p.1 ∧ p.1 ≤ 10000001 * n) ∧ p.2.length ≤ n ∧ ∀ w ∈ p.2, 0 ≤ w ∧ w ≤ 4294967295) → 0 ≤ w → w < 4294967296 → ∀ p ∈ ps ++ [(pl, ws ++ [w])], (0 ≤ p.1 ∧ p.1 ≤ 10000001 * ((n + 1 : Nat) : Int)) ∧ p.2.length ≤ n + 1 ∧ ∀ w ∈ p.2, 0 ≤ w ∧ w ≤ 4294967295 := by
    intro n ps pl w ws ih h1 h2 p hp
    rcases List.mem_append.mp hp with hp | hp
    · obtain ⟨⟨a, b⟩, c, d⟩ := ih p (List.mem_append_left _ hp)
      exact ⟨⟨a, by omega⟩, by omega, d⟩
    · rw [List.mem_singleton.mp hp]
      obtain ⟨⟨a, b⟩, c, d⟩ := ih (pl, ws) (by simp)
      have a : 0 ≤ pl := a
      have b : pl ≤ 10000001 * n := b
      have c : ws.length ≤ n := c
      refine ⟨⟨a, by show pl ≤ _; omega⟩, by show (ws ++ [w]).length ≤ _; rw [List.length_append, List.length_singleton]; omega, fun x hx => ?_⟩
      rcases List.mem_append.mp hx with hx | hx
      · exact d x hx
      · rw [List.mem_singleton.mp hx]; omega
  induction h with
  | nil => exact fun _ h => nomatch h
  | part b h1 h2 ih =>
    rename_i n ps ls rows pl
    intro p hp
    have e0 := b.fit.end0
    have e1 := b.fit.end1
    rcases List.mem_append.mp hp with hp | hp
    · obtain ⟨⟨a, b⟩, c, d⟩ := ih p hp
      exact ⟨⟨a, by omega⟩, by omega, d⟩
    · rw [List.mem_singleton.mp hp]
      exact ⟨⟨by show 0 ≤ pl; omega, by show pl ≤ _; omega⟩, Nat.zero_le _, fun _ h => nomatch h⟩
  | word b h1 h2 ih => exact snoc ih h1 h2
  | lean b h1 h2 _ _ _ ih => exact snoc ih h1 h2
theorem Bd.lb {n : Nat} {ps : List Part} {ls : List Lea} {rows : List (List Str)} (h : Bd n ps ls rows) : ∀ l ∈ ls, isRule l.2.1 ∧ -9999999999 ≤ l.2.2 ∧ l.2.2 ≤ 9999999999 := by
  induction h with
  | nil => exact fun _ h => nomatch h
  | part _ _ _ ih => exact ih
  | word _ _ _ ih => exact ih
  | lean _ _ _ h3 h4 h5 ih =>
    intro l hl
    rcases List.mem_append.mp hl with hl | hl
    · exact ih l hl
    · rw [List.mem_singleton.mp hl]; exact ⟨h3, h4, h5⟩
theorem Bd.wok {n : Nat} {ps : List Part} {ls : List Lea} {rows : List (List Str)} (b : Bd n ps ls rows) (hn : n ≤ 63) {s z e : Int} (hst : ∃ k : Nat, k ≤ 16 ∧ s = 2 ^ k) (hz1 : endOf ps ≤ z) (hz2 : z ≤ 4294967295) (he1 : 0 ≤ e) (he2 : e ≤ z) : WOK ⟨s, z, e, ps, ls⟩ := by
  have f := b.fit
  have h0 := f.end0
  have hs : 0 < s ∧ s ≤ 65536 := by
    obtain ⟨k9, hk9, rfl⟩ := hst
    exact two_small hk9
  refine ⟨⟨⟨by show 0 ≤ s; omega, by show s ≤ _; omega⟩, ⟨by show 0 ≤ z; omega, by show z ≤ _; omega⟩, ⟨by show 0 ≤ e; omega, by show e ≤ _; omega⟩⟩, by have := f.np; show ps.length ≤ _; omega, by have := f.nl; show ls.length ≤ _; omega, by have := f.nw; show (wordsAt ps).length ≤ _; omega, fun p hp => ?_, b.lb, nodup_inc f.linc⟩
  obtain ⟨⟨h1, h2⟩, h3, h4⟩ := b.pb p hp
  exact ⟨⟨h1, by omega⟩, by omega, fun n hn => by have := h4 n hn; omega⟩
end Jl

/-! Pieces, as entries. -/
namespace Jl
open PySem L2 PySem.Spec PyProof.Rows
def fillTr (f : Fill) : Tr := .t [.d (.int f.at_), .d (.str f.rule), .d (.str f.name), .d (.int f.add), .d (.bool f.soft)]
def streT (s : Stre) : Tr := .t [.d (.str s.kind), .d (.int s.step), .l (s.words.map intT), .l (s.fills.map fillTr)]
def namT (n : Nam) : Tr := .t [.d (.str n.name), .d (.str n.sort), .d (.int n.stre), .d (.int n.off)]
def pcT (z : Str) (st : PS) : Tr := .t [.d (.str z), .l (st.stres.map streT), .l (st.names.map namT)]
theorem fillTr_d (f : Fill) : TrD (fillTr f) (fillD f) := TrDs.t (.cons (.d _) (.cons (.d _) (.cons (.d _) (.cons (.d _) (.cons (.d _) .nil)))))
theorem fillTr_per (f : Fill) : Per (fillTr f) := .t (pers_cons (.d _) (pers_cons (.d _) (pers_cons (.d _) (pers_cons (.d _) (pers_cons (.d _) pers_nil)))))
theorem namT_d (n : Nam) : TrD (namT n) (namD n) := TrDs.t (.cons (.d _) (.cons (.d _) (.cons (.d _) (.cons (.d _) .nil))))
theorem namT_per (n : Nam) : Per (namT n) := .t (pers_cons (.d _) (pers_cons (.d _) (pers_cons (.d _) (pers_cons (.d _) pers_nil))))
theorem streT_d (s : Stre) : TrD (streT s) (streD s) := TrDs.t (.cons (.d _) (.cons (.d _) (.cons (TrDs.l (trds_map intT_d _)) (.cons (TrDs.l (trds_map fillTr_d _)) .nil))))
theorem stres_d (ss : List Stre) : TrD (.l (ss.map streT)) (.list (ss.map streD)) := TrDs.l (trds_map streT_d ss)
theorem names_d (ns : List Nam) : TrD (.l (ns.map namT)) (.list (ns.map namD)) := TrDs.l (trds_map namT_d ns)
theorem pcT_d (z : Str) (st : PS) : TrD (pcT z st) (pieceD ⟨z, st.stres, st.names⟩) := TrDs.t (.cons (.d _) (.cons (stres_d _) (.cons (names_d _) .nil)))
section
variable {K : PySem.W.Frag} {B H H' : Hp} {Γ : Ents} {P t W G : Addr} {Q : VK}
/-- the last stretch, opened: its lists as entries of their own -/
theorem Rep.openLast {ss : List Stre} {s : Stre} (R : Rep K B H ((.ref P, .l ((ss ++ [s]).map streT)) :: Γ)) : ∃ xs t W G, H P = some (.lst (xs ++ [.ref t])) ∧ H t = some (.tup [.str s.kind, .int s.step, .ref W, .ref G]) ∧
    Rep K B H ((.ref W, .l (s.words.map intT)) :: (.ref G, .l (s.fills.map fillTr)) :: (.ref t, .t [.d (.str s.kind), .d (.int s.step), .h (.ref W), .h (.ref G)]) :: (.ref P, .l (ss.map streT ++ [.h (.ref t)])) :: Γ) := by
  obtain ⟨xs, e1, e2, f⟩ := R.itemL
  have el : xs.length = ss.length + 1 := by rw [e2, List.length_map, List.length_append]; rfl
  obtain ⟨xs0, x, rfl⟩ : ∃ xs0 x, xs = xs0 ++ [x] := by
    rcases List.eq_nil_or_concat xs with rfl | ⟨a, b, rfl⟩
    · cases el
    · exact ⟨a, b, List.concat_eq_append⟩
  have el0 : xs0.length = ss.length := by rw [List.length_append] at el; exact Nat.succ.inj el
  have hx : (xs0 ++ [x])[ss.length]? = some x := by rw [← el0, List.getElem?_append_right (Nat.le_refl _), Nat.sub_self]; rfl
  have hp : ((ss ++ [s]).map streT)[ss.length]? = some (streT s) := by rw [List.map_append, List.getElem?_append_right (by rw [List.length_map]; exact Nat.le_refl _), List.length_map, Nat.sub_self]; rfl
  have R1 := f ss.length x _ hx hp
  obtain ⟨t, Es, rfl, q1, q2, R2⟩ := R1.openT
  have es : ((ss ++ [s]).map streT).set ss.length (.h (.ref t)) = ss.map streT ++ [.h (.ref t)] := by
    rw [List.map_append, List.set_append_right _ _ (by rw [List.length_map]; exact Nat.le_refl _), List.length_map, Nat.sub_self]; rfl
  rw [es] at R2
  match Es, q2 with
  | [(v1, _), (v2, _), (v3, _), (v4, _)], rfl =>
    have R2 : Rep K B H ((.ref t, .t [.h v1, .h v2, .h v3, .h v4]) :: (v1, .d (.str s.kind)) :: (v2, .d (.int s.step)) :: (v3, .l (s.words.map intT)) :: (v4, .l (s.fills.map fillTr)) :: (.ref P, .l (ss.map streT ++ [.h (.ref t)])) :: Γ) := R2
    have ev1 : v1 = .str s.kind := by
      have R3 := R2.pick (Γ' := (v1, .d (.str s.kind)) :: []) (.tail (.own .head .nil))
      exact Qv.use (P := fun v => v = .str s.kind) (.sc rfl (.str _) fun _ => rfl) R3
    have ev2 : v2 = .int s.step := by
      have R3 := R2.pick (Γ' := (v2, .d (.int s.step)) :: []) (.tail (.tail (.own .head .nil)))
      exact Qv.use (P := fun v => v = .int s.step) (.sc rfl (.int _) fun _ => rfl) R3
    subst ev1; subst ev2
    obtain ⟨W, rfl⟩ := R2.isLst (v := v3) (ts := s.words.map intT) (by simp)
    obtain ⟨G, rfl⟩ := R2.isLst (v := v4) (ts := s.fills.map fillTr) (by simp)
    refine ⟨xs0, t, W, G, e1, q1, ?_⟩
    have R5 := (R2.pick (Γ' := (.str s.kind, .d (.str s.kind)) :: (.ref t, .t [.h (.str s.kind), .h (.int s.step), .h (.ref W), .h (.ref G)]) :: (.ref W, .l (s.words.map intT)) :: (.ref G, .l (s.fills.map fillTr)) :: (.ref P, .l (ss.map streT ++ [.h (.ref t)])) :: Γ) (.scal (.str _) (.own .head (.tail (.tail .refl))))).fillT 0 rfl
    have R6 := (R5.pick (Γ' := (.int s.step, .d (.int s.step)) :: (.ref t, .t [.d (.str s.kind), .h (.int s.step), .h (.ref W), .h (.ref G)]) :: (.ref W, .l (s.words.map intT)) :: (.ref G, .l (s.fills.map fillTr)) :: (.ref P, .l (ss.map streT ++ [.h (.ref t)])) :: Γ) (.scal (.int _) (.own .head .refl))).fillT 1 rfl
    exact R6.pick (.own (.tail .head) (.own (.tail .head) (.own .head .refl)))
theorem Rep.closeLast {ss : List Stre} {c : Str} {st : Int} {ws : List Int} {fs : List Fill} (R : Rep K B H ((.ref W, .l (ws.map intT)) :: (.ref G, .l (fs.map fillTr)) :: (.ref t, .t [.d (.str c), .d (.int st), .h (.ref W), .h (.ref G)]) :: (.ref P, .l (ss.map streT ++ [.h (.ref t)])) :: Γ)) : Rep K B H ((.ref P, .l ((ss ++ [Stre.mk c st ws fs]).map streT)) :: Γ) := by
  have R1 := (R.pick (Γ' := (.ref W, .l (ws.map intT)) :: (.ref t, .t [.d (.str c), .d (.int st), .h (.ref W), .h (.ref G)]) :: (.ref G, .l (fs.map fillTr)) :: (.ref P, .l (ss.map streT ++ [.h (.ref t)])) :: Γ) (.own .head (.own (.tail .head) (.own .head .refl)))).fillT 2 rfl
  have R2 := (R1.pick (Γ' := (.ref G, .l (fs.map fillTr)) :: (.ref t, .t [.d (.str c), .d (.int st), .l (ws.map intT), .h (.ref G)]) :: (.ref P, .l (ss.map streT ++ [.h (.ref t)])) :: Γ) (.own (.tail .head) (.own .head .refl))).fillT 3 rfl
  have R3 := R2.fillL ss.length (by rw [List.getElem?_append_right (by rw [List.length_map]; exact Nat.le_refl _), List.length_map, Nat.sub_self]; rfl)
  have es : (ss.map streT ++ [Tr.h (.ref t)]).set ss.length (Tr.t [.d (.str c), .d (.int st), .l (ws.map intT), .l (fs.map fillTr)]) = (ss ++ [Stre.mk c st ws fs]).map streT := by
    rw [List.map_append, List.set_append_right _ _ (by rw [List.length_map]; exact Nat.le_refl _), List.length_map, Nat.sub_self]; rfl
  rw [← es]
  exact R3
end
/-! frozen pieces -/
def streF (s : Stre) : Tr := .t [.d (.str s.kind), .d (.int s.step), .f (s.words.map intT), .f (s.fills.map fillTr)]
def pcF (z : Str) (st : PS) : Tr := .t [.d (.str z), .f (st.stres.map streF), .f (st.names.map namT)]
theorem streF_per (s : Stre) : Per (streF s) := .t (pers_cons (.d _) (pers_cons (.d _) (pers_cons (.f (pers_map intT_per)) (pers_cons (.f (pers_map fillTr_per)) pers_nil))))
theorem pcF_per (z : Str) (st : PS) : Per (pcF z st) := .t (pers_cons (.d _) (pers_cons (.f (pers_map streF_per)) (pers_cons (.f (pers_map namT_per)) pers_nil)))
theorem streF_d (s : Stre) : TrD (streF s) (streD s) := TrDs.t (.cons (.d _) (.cons (.d _) (.cons (TrDs.f (trds_map intT_d _)) (.cons (TrDs.f (trds_map fillTr_d _)) .nil))))
theorem pcF_d (z : Str) (st : PS) : TrD (pcF z st) (pieceD ⟨z, st.stres, st.names⟩) := TrDs.t (.cons (.d _) (.cons (TrDs.f (trds_map streF_d _)) (.cons (TrDs.f (trds_map namT_d _)) .nil)))
theorem streF_fz (s : Stre) : Fz (streT s) (streF s) := .t rfl fun i t u e1 e2 => by
  match i, e1, e2 with
  | 0, e1, e2 => cases e1; cases e2; exact .p (.d _)
  | 1, e1, e2 => cases e1; cases e2; exact .p (.d _)
  | 2, e1, e2 => cases e1; cases e2; exact Fz.per (pers_map intT_per)
  | 3, e1, e2 => cases e1; cases e2; exact Fz.per (pers_map fillTr_per)
theorem pcF_fz (z : Str) (st : PS) : Fz (pcT z st) (pcF z st) := .t rfl fun i t u e1 e2 => by
  match i, e1, e2 with
  | 0, e1, e2 => cases e1; cases e2; exact .p (.d _)
  | 1, e1, e2 => cases e1; cases e2; exact fz_map streF_fz _
  | 2, e1, e2 => cases e1; cases e2; exact Fz.per (pers_map namT_per)
/-! a tuple of four, unpacked -/
section
variable {K : PySem.W.Frag} {B H : Hp} {Γ : Ents} {v : V} {t1 t2 t3 t4 : Tr} {σ : L2.St} {gs : TGs} {W : L2.St → Hp → Prop}
theorem s_gTupO4 {n : Nat} (R : Rep K B H ((v, .t [t1, t2, t3, t4]) :: Γ)) (hn : n = 4) (z : ∀ v1 v2 v3 v4, Rep K B H ((v, .t [.h v1, .h v2, .h v3, .h v4]) :: (v1, t1) :: (v2, t2) :: (v3, t3) :: (v4, t4) :: Γ) → gs [v1, v2, v3, v4] σ H W) : gTup K n gs v σ H W := by
  subst hn
  obtain ⟨a, Es, rfl, q, e, R⟩ := R.openT
  match Es, e with
  | [(v1, _), (v2, _), (v3, _), (v4, _)], rfl => exact ⟨a, _, rfl, .inl (.inl q), rfl, z v1 v2 v3 v4 R⟩
theorem Rep.close4 {v1 v2 v3 v4 : V} (R : Rep K B H ((v, .t [.h v1, .h v2, .h v3, .h v4]) :: (v1, t1) :: (v2, t2) :: (v3, t3) :: (v4, t4) :: Γ)) : Rep K B H ((v, .t [t1, t2, t3, t4]) :: Γ) :=
  Rep.closeT (Es := [(v1, t1), (v2, t2), (v3, t3), (v4, t4)]) R
end
def stre7 (s : Stre) : Stre := ⟨s.kind, s.step, s.words ++ [7], []⟩
def wordBy (c : Int) : Int := if c / 8 % 5 = 0 then (if c / 40 % 2 = 0 then 0 else 4294967295) else c * 48271 % 4294967296
theorem wordBy_ok (c : Int) : 0 ≤ wordBy c ∧ wordBy c ≤ 4294967295 := by
  unfold wordBy
  split
  · split <;> decide
  · omega
theorem mod4 (n : Int) : n % 4 = 0 ∨ n % 4 = 1 ∨ n % 4 = 2 ∨ n % 4 = 3 := by omega
theorem nqF_len (c k : Int) : (nqF c k).cps.toList.length ≤ 3 := by
  obtain ⟨n, hn, hF⟩ := nqF_is4 c k
  rw [hF]
  exact (fig4_ok (decide (c / 169 % 2 = 1)) n hn).2
theorem readP_cong {R R' : List (List Str)} : ∀ {n : Nat}, (∀ i, i ≤ n → R.getD i [] = R'.getD i []) → readP R n = readP R' n
  | 0, _ => rfl
  | n + 1, h => by
    show (readP R n).bind _ = (readP R' n).bind _
    rw [readP_cong (fun i hi => h i (by omega)), h (n + 1) (Nat.le_refl _), h n (by omega)]
/-- what is ahead of what is read is read -/
theorem readP_at {R : List (List Str)} {st : PS} {m : Nat} (h : readP R m = some st) {n : Nat} (hn : n ≤ m) : ∃ s, readP R n = some s := by
  cases q : readP R n with
  | some s => exact ⟨s, rfl⟩
  | none =>
    have := readP_none q (m - n)
    rw [show n + (m - n) = m by omega, h] at this
    cases this
theorem readP_take {R : List (List Str)} {j : Nat} (hj : 1 ≤ j) (hl : j ≤ R.length) : readP (R.take j) (j - 1) = readP R (j - 1) := readP_cong fun i hi => by
  rw [List.getD_eq_getElem?_getD, List.getD_eq_getElem?_getD, List.getElem?_take_of_lt (by omega)]
def headP (z : Str) : List Str := ["piece", z]
theorem headP_clean {z : Str} (h : isNm z.cps.toList = true) : CleanR (headP z) := cleanR2 ⟨by decide +kernel, by decide +kernel⟩ (nm_clean h).1
theorem title_head {z : Str} (h : isNm z.cps.toList = true) : titleOf (headP z) = some z := if_pos ⟨rfl, rfl, h⟩
theorem headP_len {z : Str} (h : isNm z.cps.toList = true) : (joinB (headP z)).length ≤ 60 := by
  have := (nm_clean h).2.2
  unfold headP
  rw [joinB_two, len_app, len_app]
  show 5 + 1 + _ ≤ _; omega
theorem Rep.closeP {K : PySem.W.Frag} {B H : Hp} {Γ Γ0 : Ents} {P t W G : Addr} {ss : List Stre} {c : Str} {st : Int} {ws : List Int} {fs : List Fill} (R : Rep K B H Γ0) (h : Pick Γ0 ((.ref W, .l (ws.map intT)) :: (.ref G, .l (fs.map fillTr)) :: (.ref t, .t [.d (.str c), .d (.int st), .h (.ref W), .h (.ref G)]) :: (.ref P, .l (ss.map streT ++ [.h (.ref t)])) :: Γ)) : Rep K B H ((.ref P, .l ((ss ++ [Stre.mk c st ws fs]).map streT)) :: Γ) := Rep.closeLast (R.pick h)
theorem Rep.head2 {K : PySem.W.Frag} {B H : Hp} {Γ : Ents} {v w : V} {t : Tr} {ts : List Tr} (R : Rep K B H ((w, t) :: (v, .l ts) :: Γ)) (hp : ∀ t ∈ ts, Per t) : Rep K B H ((v, .f ts) :: (w, t) :: Γ) := (R.pick (Γ' := (v, .l ts) :: (w, t) :: Γ) (.own (.tail .head) .refl)).freeze (Fz.per hp)
end Jl


local macro_rules | `(tactic| walk_at "c") => `(tactic| first
  | exact Jl.c_div (by decide) (by decide)
  | exact Jl.c_mulR (by decide) (by decide)
  | exact Jl.c_mulL (by decide) (by decide)
  | exact Jl.c_pow (by decide) (by decide) (by decide)
  | decide
  | omega
  | decide +kernel
  | assumption
  | exact Jl.c_div (by omega) (by omega)
  | exact Jl.c_mulR (by omega) (by omega)
  | exact Jl.c_mulL (by omega) (by omega))
local macro_rules | `(tactic| walk_at "len") => `(tactic| first
  | omega
  | decide
  | (simp only [Jl.len_app, Jl.len_one]; omega)
  | (refine Nat.le_trans (Jl.len_cut _ _ _) ?_; omega))
local macro_rules | `(tactic| walk_at "d") => `(tactic| first
  | (focus (with_reducible apply Jl.s_iteDt; (focus (first | assumption | with_reducible rfl | decide | exact decide_eq_true (by omega) | exact decide_eq_false (by omega) | omega))))
  | (focus (with_reducible apply Jl.s_iteDf; (focus (first | assumption | with_reducible rfl | decide | exact decide_eq_true (by omega) | exact decide_eq_false (by omega) | omega))))
  | (focus (with_reducible apply Jl.s_iteNt; (focus (first | assumption | with_reducible rfl | decide | exact decide_eq_true (by omega) | exact decide_eq_false (by omega) | omega))))
  | (focus (with_reducible apply Jl.s_iteNf; (focus (first | assumption | with_reducible rfl | decide | exact decide_eq_true (by omega) | exact decide_eq_false (by omega) | omega)))))
local macro_rules | `(tactic| walk_at "b") => `(tactic| first
  | with_reducible refine Jl.s_iteD (fun _ => ?_) (fun _ => ?_)
  | with_reducible refine Jl.s_iteN (fun _ => ?_) (fun _ => ?_))
local macro_rules | `(tactic| walk_at "s") => `(tactic| first
  | (focus (with_reducible apply Jl.s_var; (focus (with_unfolding_all rfl))))
  | with_reducible refine Jl.s_c ?_
  | with_reducible refine Jl.s_op ?_
  | with_reducible refine Jl.s_cons ?_
  | with_reducible refine Jl.s_nil ?_
  | with_reducible refine Jl.s_I0 ?_
  | (focus (with_reducible refine Jl.s_I ?_ ?_; (focus (walk_at "c"))))
  | with_reducible refine Jl.s_exbl ?_
  | with_reducible refine Jl.s_seq ?_
  | with_reducible refine Jl.s_asg ?_
  | (with_reducible refine Jl.s_name ?_; try simp only [List.set_cons_zero, List.set_cons_succ])
  | with_reducible refine Jl.s_ifS ?_
  | with_reducible refine Jl.s_test ?_
  | with_reducible refine Jl.s_tB ?_
  | with_reducible refine Jl.s_chain ?_
  | with_reducible refine Jl.s_and ?_
  | with_reducible refine Jl.s_or ?_
  | with_reducible refine Jl.s_not ?_
  | with_reducible refine Jl.s_iteT ?_
  | with_reducible refine Jl.s_iteF ?_
  | with_reducible refine Jl.s_iteNT ?_
  | with_reducible refine Jl.s_iteNF ?_
  | with_reducible refine Jl.s_ret ?_
  | with_reducible refine Jl.s_next ?_
  | with_reducible refine Jl.s_call ?_
  | with_reducible refine Jl.s_CB ?_
  | with_reducible refine Jl.s_eqI ?_
  | with_reducible refine Jl.s_neI ?_
  | with_reducible refine Jl.s_eqS ?_
  | with_reducible refine Jl.s_neS ?_
  | with_reducible refine Jl.s_eqB ?_
  | with_reducible refine Jl.s_neB ?_
  | with_reducible refine Jl.s_isB ?_
  | with_reducible refine Jl.s_notB ?_
  | with_reducible refine Jl.s_un ?_
  | with_reducible refine Jl.s_U ?_
  | with_reducible refine Jl.s_andV ?_
  | with_reducible refine Jl.s_orV ?_
  | with_reducible refine Jl.s_notV ?_
  | with_reducible refine Jl.s_ifE ?_
  | with_reducible refine Jl.s_drop ?_
  | with_reducible refine Jl.s_break ?_
  | with_reducible refine Jl.s_cont ?_
  | with_reducible refine Jl.s_isi_ii ?_
  | with_reducible refine Jl.s_isi_ib ?_
  | with_reducible refine Jl.s_isi_bb ?_
  | with_reducible refine Jl.s_isi_bi ?_
  | with_reducible refine Jl.s_isi_ss ?_
  | with_reducible refine Jl.s_BM ?_
  | (focus (with_reducible apply Jl.s_tyL; (focus (with_reducible assumption))))
  | (focus (with_reducible apply Jl.s_append; (focus (with_reducible assumption)); rotate_left; rotate_left))
  | with_reducible refine Jl.s_make ?_
  | (focus (with_reducible apply Jl.s_meth; (focus (first | assumption | exact Jl.RuleAt.same (by assumption) (by assumption))); (focus (exact (fun R z => Jl.s_var (by with_unfolding_all rfl) z))); (focus (decide +kernel))))
  | (focus (with_reducible refine Jl.s_addS ?_ ?_; rotate_left; (focus (walk_at "len"))))
  | with_reducible refine Jl.s_inS ?_
  | with_reducible refine Jl.s_notInS ?_
  | with_reducible refine Jl.s_isNn ?_
  | with_reducible refine Jl.s_isNi ?_
  | with_reducible refine Jl.s_isNs ?_
  | with_reducible refine Jl.s_isNr ?_
  | with_reducible refine Jl.s_notNn ?_
  | with_reducible refine Jl.s_notNi ?_
  | with_reducible refine Jl.s_notNs ?_
  | with_reducible refine Jl.s_notNr ?_
  | (focus (with_reducible refine Jl.s_lenS ?_ ?_; rotate_left; (focus (walk_at "len"))))
  | (focus (with_reducible apply Jl.s_lenL; (focus (with_reducible assumption))))
  | with_reducible refine Jl.s_max2 ?_
  | with_reducible refine Jl.s_min2 ?_
  | with_reducible refine Jl.s_int1 ?_
  | with_reducible refine Jl.s_int1b ?_
  | with_reducible refine Jl.s_sl ?_
  | with_reducible refine Jl.s_noP ?_
  | with_reducible refine Jl.s_part ?_
  | with_reducible refine Jl.s_exi ?_
  | (focus (with_reducible refine Jl.s_slS ?_ ?_; rotate_left; (focus (walk_at "len"))))
  | (focus (with_reducible apply Jl.s_gTupA; (focus (with_reducible assumption)); (focus (with_unfolding_all rfl))))
  | with_reducible refine Jl.s_gCons ?_
  | with_reducible refine Jl.s_gNil ?_
  | with_reducible refine Jl.s_gSub ?_
  | with_reducible refine Jl.s_tPc ?_
  | with_reducible refine Jl.s_tPn ?_
  | with_reducible refine Jl.s_callS ?_
  | with_reducible refine Jl.s_tup ?_
  | with_reducible refine Jl.s_lst ?_
  | with_reducible refine Jl.s_BM0 ?_
  | with_reducible refine Jl.s_yes ?_
  | (focus (with_reducible apply Jl.s_clear; (focus (with_reducible assumption))))
  | (focus (with_reducible apply Jl.s_dclear; (focus (with_reducible assumption)))))
local macro_rules | `(tactic| walk_at "same") => `(tactic| first
  | exact L2.Same.refl _
  | assumption
  | (refine L2.Same.trans ?_ (by assumption); walk_at "same"))
local macro_rules | `(tactic| walk_at "w") => `(tactic| repeat walk_at "s")
local macro_rules | `(tactic| walk_at "wd") => `(tactic| repeat (first | walk_at "s" | walk_at "d"))
local macro_rules | `(tactic| walk_at "all") => `(tactic| repeat' (first | walk_at "s" | walk_at "d" | walk_at "b"))

local macro_rules | `(tactic| walk_at "j_mem") => `(tactic| first | exact List.mem_cons_self | (apply List.mem_cons_of_mem; walk_at "j_mem") | assumption)
local macro_rules | `(tactic| walk_at "j_sel") => `(tactic| first | exact Jl.Sel.head | (apply Jl.Sel.tail; walk_at "j_sel"))
local macro_rules | `(tactic| walk_at "j_sc") => `(tactic| first | exact Jl.Sc.int _ | exact Jl.Sc.str _ | exact Jl.Sc.bl _ | exact Jl.Sc.non)
local macro_rules | `(tactic| walk_at "j_per") => `(tactic| first | exact Jl.Per.d _ | exact Jl.Per.h _ | exact Jl.Per.g _ | (apply Jl.Per.t; walk_at "j_pers") | (apply Jl.Per.f; walk_at "j_pers") | assumption)
local macro_rules | `(tactic| walk_at "j_pers") => `(tactic| first | exact Jl.per_ds _ | exact Jl.pers_nil | (apply Jl.pers_cons; (focus walk_at "j_per"); (focus walk_at "j_pers")) | (apply Jl.pers_map; intro _; walk_at "j_per") | (apply Jl.pers_app; (focus walk_at "j_pers"); (focus walk_at "j_pers")) | assumption)
local macro_rules | `(tactic| walk_at "j_it") => `(tactic| first | exact Jl.It.sc (by walk_at "j_sc") | (apply Jl.It.mem; rotate_left; (focus walk_at "j_mem"); (focus walk_at "j_per")))
local macro_rules | `(tactic| walk_at "j_its") => `(tactic| first | exact Jl.Its.nil | (apply Jl.Its.cons; (focus walk_at "j_it"); (focus walk_at "j_its")))
local macro_rules | `(tactic| walk_at "j_ls") => `(tactic| first | assumption | (apply Jl.Ls.g; walk_at "j_mem") | (apply Jl.Ls.o; rotate_left; (focus walk_at "j_mem"); (focus walk_at "j_pers")) | (apply Jl.Ls.f; rotate_left; (focus walk_at "j_mem"); (focus walk_at "j_pers")) | (apply Jl.Ls.cons; walk_at "j_ls"))
local macro_rules | `(tactic| walk_at "j_tp") => `(tactic| first | assumption | (apply Jl.Tp.g; walk_at "j_mem") | (apply Jl.Tp.t; rotate_left; (focus walk_at "j_mem"); (focus walk_at "j_pers")) | (apply Jl.Tp.cons; walk_at "j_tp"))
local macro_rules | `(tactic| walk_at "j_trds") => `(tactic| first | exact Jl.trds_d _ | exact Jl.TrDs.nil | (apply Jl.TrDs.cons; (focus walk_at "j_trd"); (focus walk_at "j_trds")) | assumption)
local macro_rules | `(tactic| walk_at "j_trd") => `(tactic| first | exact Jl.TrD.d _ | (apply Jl.TrDs.l; walk_at "j_trds") | (apply Jl.TrDs.t; walk_at "j_trds") | (apply Jl.TrDs.f; walk_at "j_trds") | assumption)
local macro_rules | `(tactic| walk_at "j_pick") => `(tactic| first
  | exact Jl.Pick.refl
  | exact Jl.Pick.nil
  | (apply Jl.Pick.scal; (focus walk_at "j_sc"); (focus walk_at "j_pick"))
  | (apply Jl.Pick.per; rotate_left; (focus walk_at "j_mem"); (focus walk_at "j_pick"); (focus walk_at "j_per"))
  | (apply Jl.Pick.own; (focus walk_at "j_sel"); (focus walk_at "j_pick"))
  | (apply Jl.Pick.weak; rotate_left; (focus walk_at "j_mem"); (focus walk_at "j_trd"); (focus walk_at "j_pick"); (focus walk_at "j_per"))
  | (apply Jl.Pick.tail; walk_at "j_pick"))
local macro_rules | `(tactic| walk_at "j_at") => `(tactic| first | rfl | with_unfolding_all rfl)
local macro_rules | `(tactic| walk_at "j_qv") => `(tactic| first | (apply Jl.Qv.sc; (focus rfl); (focus walk_at "j_sc"); intro _) | (apply Jl.Qv.hole; (focus rfl); intro _) | (apply Jl.Qv.any; intro _ _))
local macro_rules | `(tactic| walk_at "j_slen") => `(tactic| ((try simp only [Jl.len_app, Jl.c_emp, Jl.c_whole, Jl.c_sp, Jl.c_lean, Jl.c_part, Jl.c_word]); omega))
local macro_rules | `(tactic| walk_at "j_len") => `(tactic| first | decide | omega | (simp only [List.length_map, List.length_append, List.length_cons, List.length_nil]; omega))
local macro_rules | `(tactic| walk_at "r0") => `(tactic| first
  | (with_reducible apply Jl.s_tupK)
  | (with_reducible apply Jl.s_lstK)
  | (with_reducible apply Jl.s_lstKo))
local macro_rules | `(tactic| walk_at "r") => `(tactic| first
  | ((with_reducible apply Jl.s_tupF); (focus assumption); (focus walk_at "j_its"); (focus walk_at "j_len"); intro _ _ _)
  | ((with_reducible apply Jl.s_tup2); (focus assumption); (focus walk_at "j_pick"); intro _ _ _)
  | ((with_reducible apply Jl.s_tup3); (focus assumption); (focus walk_at "j_pick"); intro _ _ _)
  | ((with_reducible apply Jl.s_tup4); (focus assumption); (focus walk_at "j_pick"); intro _ _ _)
  | ((with_reducible apply Jl.s_tup5); (focus assumption); (focus walk_at "j_pick"); intro _ _ _)
  | ((with_reducible apply Jl.s_lstOwn); (focus assumption); (focus walk_at "j_its"); (focus walk_at "j_len"); intro _ _ _)
  | ((with_reducible apply Jl.s_lstF); (focus assumption); (focus walk_at "j_its"); (focus walk_at "j_len"); intro _ _ _)
  | ((with_reducible apply Jl.s_ixR); (focus assumption); (focus walk_at "j_ls"); (focus walk_at "j_at"); walk_at "j_qv")
  | ((with_reducible apply Jl.s_ixTR); (focus assumption); (focus walk_at "j_tp"); (focus walk_at "j_at"); walk_at "j_qv")
  | ((with_reducible apply Jl.s_listOw); (focus assumption); (focus walk_at "j_ls"); intro _ _ _)
  | ((with_reducible apply Jl.s_listF); (focus assumption); (focus walk_at "j_ls"); intro _ _ _)
  | ((with_reducible apply Jl.s_slF); (focus assumption); (focus walk_at "j_ls"); intro _ _ _)
  | ((with_reducible apply Jl.s_catF); (focus assumption); (focus walk_at "j_ls"); (focus walk_at "j_ls"); (focus walk_at "j_len"); intro _ _ _)
  | ((with_reducible apply Jl.s_lenR); (focus assumption); (focus walk_at "j_ls"))
  | ((with_reducible apply Jl.s_lenO); (focus assumption); (focus walk_at "j_mem"))
  | ((with_reducible apply Jl.s_tyR); (focus assumption); (focus walk_at "j_mem"))
  | ((with_reducible apply Jl.s_appI); (focus assumption); (focus walk_at "j_sel"); (focus walk_at "j_it"); (focus walk_at "j_len"); intro _ _)
  | ((with_reducible apply Jl.s_appR); (focus assumption); (focus walk_at "j_sel"); (focus walk_at "j_pick"); (focus walk_at "j_len"); intro _ _)
  | ((with_reducible apply Jl.s_clearR); (focus assumption); (focus walk_at "j_sel"); intro _ _)
  | (with_reducible apply Jl.s_lstRevK)
  | ((with_reducible apply Jl.s_revF); (focus assumption); (focus walk_at "j_ls"); intro _ _ _)
  | (with_reducible apply Jl.s_for)
  | (with_reducible apply Jl.s_lc)
  | (with_reducible apply Jl.s_js')
  | (with_reducible apply Jl.s_jsc)
  | (with_reducible apply Jl.s_jsn)
  | (with_reducible apply Jl.s_fmt)
  | ((with_reducible apply Jl.s_jsk); (focus walk_at "j_slen"))
  | ((with_reducible apply Jl.s_fmtI); (focus omega); (focus omega))
  | ((with_reducible apply Jl.s_fmtS); (focus walk_at "j_slen"))
  | (with_reducible apply Jl.s_forE')
  | (with_reducible apply Jl.s_dput)
  | (with_reducible apply Jl.s_dinK)
  | (with_reducible apply Jl.s_dnotK)
  | (with_reducible apply Jl.s_dgetK)
  | ((with_reducible apply Jl.s_dnewM); (focus assumption); intro _ _ _)
  | (with_reducible apply Jl.s_M1)
  | (with_reducible apply Jl.s_isStr)
  | ((with_reducible apply Jl.s_splitF); (focus assumption); (focus (first | rfl | decide +kernel)); (focus walk_at "j_len"); intro _ _ _)
  | ((with_reducible apply Jl.s_gTupR); (focus assumption); (focus walk_at "j_tp"); (focus (first | rfl | decide)))
  | ((with_reducible apply Jl.Uns.id); apply Jl.Uns.c; first | (apply Jl.Qv.sc; (focus rfl); (focus walk_at "j_sc")) | (apply Jl.Qv.hole; (focus rfl)) | (apply Jl.Qv.any; intro _))
  | ((with_reducible apply Jl.Uns.id); apply Jl.Uns.n; intro _))
local macro_rules | `(tactic| walk_at "R") => `(tactic| repeat (first | walk_at "r0" | walk_at "s" | walk_at "r"))
local macro_rules | `(tactic| walk_at "Rd") => `(tactic| repeat (first | walk_at "r0" | walk_at "s" | walk_at "r" | walk_at "d"))
namespace Jw
open PySem L2
def top (i : Nat) : Stmt := PySem.Challenge.pw_joinload_k12_rows_read.main.body.getD i (.Pass ⟨0, 0, 0, 0⟩)
abbrev s_NoPiece___init__ : Stmt := inClass (top 4) 0
abbrev N_NoPiece___init__ : List Str := ["self", "row"]
theorem sc_NoPiece___init__ : FnScope N_NoPiece___init__ ["self", "row"] (defScope s_NoPiece___init__) := ⟨rfl, rfl, rfl, by decide +kernel, rfl, by decide +kernel, by decide +kernel⟩
abbrev s_Rule___init__ : Stmt := inClass (top 10) 0
abbrev N_Rule___init__ : List Str := ["self", "title"]
theorem sc_Rule___init__ : FnScope N_Rule___init__ ["self", "title"] (defScope s_Rule___init__) := ⟨rfl, rfl, rfl, by decide +kernel, rfl, by decide +kernel, by decide +kernel⟩
abbrev s_Rule_leans : Stmt := inClass (top 10) 4
abbrev N_Rule_leans : List Str := ["self"]
theorem sc_Rule_leans : FnScope N_Rule_leans ["self"] (defScope s_Rule_leans) := ⟨rfl, rfl, rfl, by decide +kernel, rfl, by decide +kernel, by decide +kernel⟩
abbrev s_NearRule_leans : Stmt := inClass (top 13) 3
abbrev N_NearRule_leans : List Str := ["self"]
theorem sc_NearRule_leans : FnScope N_NearRule_leans ["self"] (defScope s_NearRule_leans) := ⟨rfl, rfl, rfl, by decide +kernel, rfl, by decide +kernel, by decide +kernel⟩
abbrev s_SplitRule_leans : Stmt := inClass (top 14) 3
abbrev N_SplitRule_leans : List Str := ["self"]
theorem sc_SplitRule_leans : FnScope N_SplitRule_leans ["self"] (defScope s_SplitRule_leans) := ⟨rfl, rfl, rfl, by decide +kernel, rfl, by decide +kernel, by decide +kernel⟩
abbrev s_rule_of : Stmt := top 15
abbrev N_rule_of : List Str := ["title"]
theorem sc_rule_of : FnScope N_rule_of ["title"] (defScope s_rule_of) := ⟨rfl, rfl, rfl, by decide +kernel, rfl, by decide +kernel, by decide +kernel⟩
abbrev s_is_name : Stmt := top 19
abbrev N_is_name : List Str := ["text", "sign"]
theorem sc_is_name : FnScope N_is_name ["text"] (defScope s_is_name) := ⟨rfl, rfl, rfl, by decide +kernel, rfl, by decide +kernel, by decide +kernel⟩
abbrev s_number_of : Stmt := top 20
abbrev N_number_of : List Str := ["text", "least", "most", "figures", "sign", "number"]
theorem sc_number_of : FnScope N_number_of ["text", "least", "most"] (defScope s_number_of) := ⟨rfl, rfl, rfl, by decide +kernel, rfl, by decide +kernel, by decide +kernel⟩
abbrev s_step_told : Stmt := top 21
abbrev N_step_told : List Str := ["text", "step"]
theorem sc_step_told : FnScope N_step_told ["text"] (defScope s_step_told) := ⟨rfl, rfl, rfl, by decide +kernel, rfl, by decide +kernel, by decide +kernel⟩
abbrev s_is_title : Stmt := top 22
abbrev N_is_title : List Str := ["text"]
theorem sc_is_title : FnScope N_is_title ["text"] (defScope s_is_title) := ⟨rfl, rfl, rfl, by decide +kernel, rfl, by decide +kernel, by decide +kernel⟩
abbrev s_put_stretch : Stmt := top 23
abbrev N_put_stretch : List Str := ["stretches", "parts", "step"]
theorem sc_put_stretch : FnScope N_put_stretch ["stretches", "parts"] (defScope s_put_stretch) := ⟨rfl, rfl, rfl, by decide +kernel, rfl, by decide +kernel, by decide +kernel⟩
abbrev s_put_word : Stmt := top 24
abbrev N_put_word : List Str := ["stretches", "parts", "word"]
theorem sc_put_word : FnScope N_put_word ["stretches", "parts"] (defScope s_put_word) := ⟨rfl, rfl, rfl, by decide +kernel, rfl, by decide +kernel, by decide +kernel⟩
abbrev s_put_fill : Stmt := top 25
abbrev N_put_fill : List Str := ["stretches", "parts", "soft", "add", "at"]
theorem sc_put_fill : FnScope N_put_fill ["stretches", "parts"] (defScope s_put_fill) := ⟨rfl, rfl, rfl, by decide +kernel, rfl, by decide +kernel, by decide +kernel⟩
abbrev s_put_name : Stmt := top 26
abbrev N_put_name : List Str := ["stretches", "names", "parts", "row"]
theorem sc_put_name : FnScope N_put_name ["stretches", "names", "parts"] (defScope s_put_name) := ⟨rfl, rfl, rfl, by decide +kernel, rfl, by decide +kernel, by decide +kernel⟩
abbrev s_put_row : Stmt := top 27
abbrev N_put_row : List Str := ["stretches", "names", "parts", "last"]
theorem sc_put_row : FnScope N_put_row ["stretches", "names", "parts", "last"] (defScope s_put_row) := ⟨rfl, rfl, rfl, by decide +kernel, rfl, by decide +kernel, by decide +kernel⟩
abbrev s_read_piece : Stmt := top 28
abbrev N_read_piece : List Str := ["text", "stretches", "names", "rows", "k", "row"]
theorem sc_read_piece : FnScope N_read_piece ["text"] (defScope s_read_piece) := ⟨rfl, rfl, rfl, by decide +kernel, rfl, by decide +kernel, by decide +kernel⟩
abbrev s_law_whole : Stmt := top 30
abbrev N_law_whole : List Str := ["_law_found"]
theorem sc_law_whole : FnScope N_law_whole ["_law_found"] (defScope s_law_whole) := ⟨rfl, rfl, rfl, by decide +kernel, rfl, by decide +kernel, by decide +kernel⟩
abbrev s_law_cell_at : Stmt := top 31
abbrev N_law_cell_at : List Str := ["_law_script", "_law_k"]
theorem sc_law_cell_at : FnScope N_law_cell_at ["_law_script", "_law_k"] (defScope s_law_cell_at) := ⟨rfl, rfl, rfl, by decide +kernel, rfl, by decide +kernel, by decide +kernel⟩
abbrev s_law_name_by : Stmt := top 32
abbrev N_law_name_by : List Str := ["_law_cell", "_law_k", "_law_signs", "_law_base", "_law_j", "_law_at", "_law_figures"]
theorem sc_law_name_by : FnScope N_law_name_by ["_law_cell", "_law_k"] (defScope s_law_name_by) := ⟨rfl, rfl, rfl, by decide +kernel, rfl, by decide +kernel, by decide +kernel⟩
abbrev s_law_add_by : Stmt := top 33
abbrev N_law_add_by : List Str := ["_law_number"]
theorem sc_law_add_by : FnScope N_law_add_by ["_law_number"] (defScope s_law_add_by) := ⟨rfl, rfl, rfl, by decide +kernel, rfl, by decide +kernel, by decide +kernel⟩
abbrev s_law_fill_by : Stmt := top 34
abbrev N_law_fill_by : List Str := ["_law_number", "_law_at", "_law_names_by", "_law_rule", "_law_soft"]
theorem sc_law_fill_by : FnScope N_law_fill_by ["_law_number", "_law_at", "_law_names_by"] (defScope s_law_fill_by) := ⟨rfl, rfl, rfl, by decide +kernel, rfl, by decide +kernel, by decide +kernel⟩
abbrev s_law_fill_row : Stmt := top 35
abbrev N_law_fill_row : List Str := ["_law_fill"]
theorem sc_law_fill_row : FnScope N_law_fill_row ["_law_fill"] (defScope s_law_fill_row) := ⟨rfl, rfl, rfl, by decide +kernel, rfl, by decide +kernel, by decide +kernel⟩
abbrev s_law_word_by : Stmt := top 36
abbrev N_law_word_by : List Str := ["_law_cell"]
theorem sc_law_word_by : FnScope N_law_word_by ["_law_cell"] (defScope s_law_word_by) := ⟨rfl, rfl, rfl, by decide +kernel, rfl, by decide +kernel, by decide +kernel⟩
abbrev s_law_put : Stmt := top 37
abbrev N_law_put : List Str := ["_law_cell", "_law_names_by", "_law_stretches", "_law_told", "_law_number", "_law_kind", "_law_step", "_law_stretch", "_law_name", "_law_sort", "_law_rows", "_law_row"]
theorem sc_law_put : FnScope N_law_put ["_law_cell", "_law_names_by", "_law_stretches", "_law_told"] (defScope s_law_put) := ⟨rfl, rfl, rfl, by decide +kernel, rfl, by decide +kernel, by decide +kernel⟩
abbrev s_law_built : Stmt := top 38
abbrev N_law_built : List Str := ["_law_script", "_law_names_by", "_law_title", "_law_stretches", "_law_told", "_law_rows", "_law_cell"]
theorem sc_law_built : FnScope N_law_built ["_law_script"] (defScope s_law_built) := ⟨rfl, rfl, rfl, by decide +kernel, rfl, by decide +kernel, by decide +kernel⟩
abbrev s_law_so : Stmt := top 39
abbrev N_law_so : List Str := ["_law_found", "_law_due", "_law_kind", "_law_step", "_law_words", "_law_fills", "_law_at", "_law_rule", "_law_name", "_law_add", "_law_soft", "_law_sort", "_law_stretch", "_law_offset", "_law_word"]
theorem sc_law_so : FnScope N_law_so ["_law_found", "_law_due"] (defScope s_law_so) := ⟨rfl, rfl, rfl, by decide +kernel, rfl, by decide +kernel, by decide +kernel⟩
abbrev s_law : Stmt := top 40
abbrev N_law : List Str := ["_law_script", "_law_rows", "_law_due", "_law_text", "_law_found", "_law_kind", "_law_step", "_law_words", "_law_fills", "_law_many", "_law_other"]
theorem sc_law : FnScope N_law ["_law_script"] (defScope s_law) := ⟨rfl, rfl, rfl, by decide +kernel, rfl, by decide +kernel, by decide +kernel⟩
structure Txt (K : PySem.W.Frag) (mg : Str → Option Value) where
  a_NoPiece___init__ : Addr
  d_NoPiece___init__ : FuncData
  F_NoPiece___init__ : Fun K "__init__" "NoPiece.__init__" s_NoPiece___init__ a_NoPiece___init__ d_NoPiece___init__
  b_NoPiece___init__ : Binds K d_NoPiece___init__ ["self", "row"] []
  a_Rule___init__ : Addr
  d_Rule___init__ : FuncData
  F_Rule___init__ : Fun K "__init__" "Rule.__init__" s_Rule___init__ a_Rule___init__ d_Rule___init__
  b_Rule___init__ : Binds K d_Rule___init__ ["self", "title"] []
  a_Rule_leans : Addr
  d_Rule_leans : FuncData
  F_Rule_leans : Fun K "leans" "Rule.leans" s_Rule_leans a_Rule_leans d_Rule_leans
  b_Rule_leans : Binds K d_Rule_leans ["self"] []
  a_NearRule_leans : Addr
  d_NearRule_leans : FuncData
  F_NearRule_leans : Fun K "leans" "NearRule.leans" s_NearRule_leans a_NearRule_leans d_NearRule_leans
  b_NearRule_leans : Binds K d_NearRule_leans ["self"] []
  a_SplitRule_leans : Addr
  d_SplitRule_leans : FuncData
  F_SplitRule_leans : Fun K "leans" "SplitRule.leans" s_SplitRule_leans a_SplitRule_leans d_SplitRule_leans
  b_SplitRule_leans : Binds K d_SplitRule_leans ["self"] []
  a_rule_of : Addr
  d_rule_of : FuncData
  F_rule_of : Fun K "rule_of" "rule_of" s_rule_of a_rule_of d_rule_of
  b_rule_of : Binds K d_rule_of ["title"] []
  m_rule_of : mg "rule_of" = some (.ref a_rule_of)
  a_is_name : Addr
  d_is_name : FuncData
  F_is_name : Fun K "is_name" "is_name" s_is_name a_is_name d_is_name
  b_is_name : Binds K d_is_name ["text"] []
  m_is_name : mg "is_name" = some (.ref a_is_name)
  a_number_of : Addr
  d_number_of : FuncData
  F_number_of : Fun K "number_of" "number_of" s_number_of a_number_of d_number_of
  b_number_of : Binds K d_number_of ["text", "least", "most"] []
  m_number_of : mg "number_of" = some (.ref a_number_of)
  a_step_told : Addr
  d_step_told : FuncData
  F_step_told : Fun K "step_told" "step_told" s_step_told a_step_told d_step_told
  b_step_told : Binds K d_step_told ["text"] []
  m_step_told : mg "step_told" = some (.ref a_step_told)
  a_is_title : Addr
  d_is_title : FuncData
  F_is_title : Fun K "is_title" "is_title" s_is_title a_is_title d_is_title
  b_is_title : Binds K d_is_title ["text"] []
  m_is_title : mg "is_title" = some (.ref a_is_title)
  a_put_stretch : Addr
  d_put_stretch : FuncData
  F_put_stretch : Fun K "put_stretch" "put_stretch" s_put_stretch a_put_stretch d_put_stretch
  b_put_stretch : Binds K d_put_stretch ["stretches", "parts"] []
  m_put_stretch : mg "put_stretch" = some (.ref a_put_stretch)
  a_put_word : Addr
  d_put_word : FuncData
  F_put_word : Fun K "put_word" "put_word" s_put_word a_put_word d_put_word
  b_put_word : Binds K d_put_word ["stretches", "parts"] []
  m_put_word : mg "put_word" = some (.ref a_put_word)
  a_put_fill : Addr
  d_put_fill : FuncData
  F_put_fill : Fun K "put_fill" "put_fill" s_put_fill a_put_fill d_put_fill
  b_put_fill : Binds K d_put_fill ["stretches", "parts"] []
  m_put_fill : mg "put_fill" = some (.ref a_put_fill)
  a_put_name : Addr
  d_put_name : FuncData
  F_put_name : Fun K "put_name" "put_name" s_put_name a_put_name d_put_name
  b_put_name : Binds K d_put_name ["stretches", "names", "parts"] []
  m_put_name : mg "put_name" = some (.ref a_put_name)
  a_put_row : Addr
  d_put_row : FuncData
  F_put_row : Fun K "put_row" "put_row" s_put_row a_put_row d_put_row
  b_put_row : Binds K d_put_row ["stretches", "names", "parts", "last"] []
  m_put_row : mg "put_row" = some (.ref a_put_row)
  a_read_piece : Addr
  d_read_piece : FuncData
  F_read_piece : Fun K "read_piece" "read_piece" s_read_piece a_read_piece d_read_piece
  b_read_piece : Binds K d_read_piece ["text"] []
  m_read_piece : mg "read_piece" = some (.ref a_read_piece)
  a_law_whole : Addr
  d_law_whole : FuncData
  F_law_whole : Fun K "_law_whole" "_law_whole" s_law_whole a_law_whole d_law_whole
  b_law_whole : Binds K d_law_whole ["_law_found"] []
  m_law_whole : mg "_law_whole" = some (.ref a_law_whole)
  a_law_cell_at : Addr
  d_law_cell_at : FuncData
  F_law_cell_at : Fun K "_law_cell_at" "_law_cell_at" s_law_cell_at a_law_cell_at d_law_cell_at
  b_law_cell_at : Binds K d_law_cell_at ["_law_script", "_law_k"] []
  m_law_cell_at : mg "_law_cell_at" = some (.ref a_law_cell_at)
  a_law_name_by : Addr
  d_law_name_by : FuncData
  F_law_name_by : Fun K "_law_name_by" "_law_name_by" s_law_name_by a_law_name_by d_law_name_by
  b_law_name_by : Binds K d_law_name_by ["_law_cell", "_law_k"] []
  m_law_name_by : mg "_law_name_by" = some (.ref a_law_name_by)
  a_law_add_by : Addr
  d_law_add_by : FuncData
  F_law_add_by : Fun K "_law_add_by" "_law_add_by" s_law_add_by a_law_add_by d_law_add_by
  b_law_add_by : Binds K d_law_add_by ["_law_number"] []
  m_law_add_by : mg "_law_add_by" = some (.ref a_law_add_by)
  a_law_fill_by : Addr
  d_law_fill_by : FuncData
  F_law_fill_by : Fun K "_law_fill_by" "_law_fill_by" s_law_fill_by a_law_fill_by d_law_fill_by
  b_law_fill_by : Binds K d_law_fill_by ["_law_number", "_law_at", "_law_names_by"] []
  m_law_fill_by : mg "_law_fill_by" = some (.ref a_law_fill_by)
  a_law_fill_row : Addr
  d_law_fill_row : FuncData
  F_law_fill_row : Fun K "_law_fill_row" "_law_fill_row" s_law_fill_row a_law_fill_row d_law_fill_row
  b_law_fill_row : Binds K d_law_fill_row ["_law_fill"] []
  m_law_fill_row : mg "_law_fill_row" = some (.ref a_law_fill_row)
  a_law_word_by : Addr
  d_law_word_by : FuncData
  F_law_word_by : Fun K "_law_word_by" "_law_word_by" s_law_word_by a_law_word_by d_law_word_by
  b_law_word_by : Binds K d_law_word_by ["_law_cell"] []
  m_law_word_by : mg "_law_word_by" = some (.ref a_law_word_by)
  a_law_put : Addr
  d_law_put : FuncData
  F_law_put : Fun K "_law_put" "_law_put" s_law_put a_law_put d_law_put
  b_law_put : Binds K d_law_put ["_law_cell", "_law_names_by", "_law_stretches", "_law_told"] []
  m_law_put : mg "_law_put" = some (.ref a_law_put)
  a_law_built : Addr
  d_law_built : FuncData
  F_law_built : Fun K "_law_built" "_law_built" s_law_built a_law_built d_law_built
  b_law_built : Binds K d_law_built ["_law_script"] []
  m_law_built : mg "_law_built" = some (.ref a_law_built)
  a_law_so : Addr
  d_law_so : FuncData
  F_law_so : Fun K "_law_so" "_law_so" s_law_so a_law_so d_law_so
  b_law_so : Binds K d_law_so ["_law_found", "_law_due"] []
  m_law_so : mg "_law_so" = some (.ref a_law_so)
  a_law : Addr
  d_law : FuncData
  F_law : Fun K "law" "law" s_law a_law d_law
  b_law : Binds K d_law ["_law_script"] []
  m_law : mg "law" = some (.ref a_law)
  a_Rule : Addr
  c_Rule : Cls K a_Rule
  g_Rule : mg "Rule" = some (.ref a_Rule)
  k_Rule : Mk K a_Rule a_Rule___init__
  na_Rule_title : NoAttr K a_Rule "title"
  me_Rule_leans : Meth K a_Rule "leans" a_Rule_leans
  a_HighRule : Addr
  c_HighRule : Cls K a_HighRule
  g_HighRule : mg "HighRule" = some (.ref a_HighRule)
  k_HighRule : Mk K a_HighRule a_Rule___init__
  na_HighRule_title : NoAttr K a_HighRule "title"
  me_HighRule_leans : Meth K a_HighRule "leans" a_Rule_leans
  a_LowRule : Addr
  c_LowRule : Cls K a_LowRule
  g_LowRule : mg "LowRule" = some (.ref a_LowRule)
  k_LowRule : Mk K a_LowRule a_Rule___init__
  na_LowRule_title : NoAttr K a_LowRule "title"
  me_LowRule_leans : Meth K a_LowRule "leans" a_Rule_leans
  a_NearRule : Addr
  c_NearRule : Cls K a_NearRule
  g_NearRule : mg "NearRule" = some (.ref a_NearRule)
  k_NearRule : Mk K a_NearRule a_Rule___init__
  na_NearRule_title : NoAttr K a_NearRule "title"
  me_NearRule_leans : Meth K a_NearRule "leans" a_NearRule_leans
  a_SplitRule : Addr
  c_SplitRule : Cls K a_SplitRule
  g_SplitRule : mg "SplitRule" = some (.ref a_SplitRule)
  k_SplitRule : Mk K a_SplitRule a_Rule___init__
  na_SplitRule_title : NoAttr K a_SplitRule "title"
  me_SplitRule_leans : Meth K a_SplitRule "leans" a_SplitRule_leans
  a_NoRule : Addr
  g_NoRule : mg "NoRule" = some (.ref a_NoRule)
  a_NoPiece : Addr
  g_NoPiece : mg "NoPiece" = some (.ref a_NoPiece)
  be_NoRule : PySem.W.subIn K (.ref a_NoRule) (.type "BaseException") = some true
  ty_NoRule : PySem.W.typeIn K (.ref a_NoRule) = some (.type "type")
  kc_NoRule : PySem.W.keepIn K (.ref a_NoRule) = true
  ec_NoRule : L2.ExcC K a_NoRule
  ve_NoRule : PySem.W.kitOne K (.ref a_NoRule) (.type "ValueError") = some true
  x_NoRule : PySem.W.excIn K a_NoRule [.type "ValueError", .type "Exception", .type "BaseException", .type "object"] "ValueError.__new__" = true
  kit_NoRule_NoRule : PySem.W.kitOne K (.ref a_NoRule) (.ref a_NoRule) = some true
  kit_NoRule_NoPiece : PySem.W.kitOne K (.ref a_NoRule) (.ref a_NoPiece) = some false
  exs_NoRule : PySem.W.exmOne K (.ref a_NoRule) (.ref a_NoRule) = some true
  be_NoPiece : PySem.W.subIn K (.ref a_NoPiece) (.type "BaseException") = some true
  ty_NoPiece : PySem.W.typeIn K (.ref a_NoPiece) = some (.type "type")
  kc_NoPiece : PySem.W.keepIn K (.ref a_NoPiece) = true
  ec_NoPiece : L2.ExcC K a_NoPiece
  ve_NoPiece : PySem.W.kitOne K (.ref a_NoPiece) (.type "ValueError") = some true
  o_NoPiece : L2.OexC K a_NoPiece
  i_NoPiece : PySem.W.findIn K (.ref a_NoPiece) "__init__" = some (some (.ref a_NoPiece___init__))
  t_NoPiece : PySem.W.typeIn K (.ref a_NoPiece___init__) = some (.type "function")
  xf_NoPiece : L2.XfC K a_NoPiece
  no_NoPiece_row : PySem.W.findIn K (.ref a_NoPiece) "row" = some none
  kit_NoPiece_NoRule : PySem.W.kitOne K (.ref a_NoPiece) (.ref a_NoRule) = some false
  kit_NoPiece_NoPiece : PySem.W.kitOne K (.ref a_NoPiece) (.ref a_NoPiece) = some true
  t_LETTERS : Tok
  g_LETTERS : mg "LETTERS" = some (.str "abcdefghijklmnopqrstuvwxyz" t_LETTERS)
  t_FIGURES : Tok
  g_FIGURES : mg "FIGURES" = some (.str "0123456789" t_FIGURES)
  n_bool : mg "bool" = none
  n_int : mg "int" = none
  n_isinstance : mg "isinstance" = none
  n_len : mg "len" = none
  n_range : mg "range" = none
  n_str : mg "str" = none
  n_tuple : mg "tuple" = none
section
variable {P : Program} {w : World} {K : PySem.W.Frag} {mg : Str → Option Value} {base : Heap}
/-! ### NoPiece.__init__ -/
def sp_NoPiece___init__ (T : Txt K mg) : Sp := fun vs H Q _ => ∃ (a : Addr) (v : V), vs = [.ref a, v] ∧ H a = some (L2.exo a T.a_NoPiece none) ∧ ∀ dx, H dx = none → dx ≠ a → Q .non (upd (upd H dx (L2.exd dx [("row", v)])) a (L2.exo a T.a_NoPiece (some dx)))
theorem ok_NoPiece___init__ (T : Txt K mg) : FnOk P w K mg base CX0 1 T.a_NoPiece___init__ T.d_NoPiece___init__ ["self", "row"] (sp_NoPiece___init__ T) := by
  refine T.F_NoPiece___init__.ok sc_NoPiece___init__ (fun vs H Q E h => ?_) (fun cdv A outer s H vs Q E hr h => ?_)
  · obtain ⟨a, v, rfl, h, k⟩ := h
    rfl
  · obtain ⟨a, v, rfl, h, k⟩ := h
    have hu := hu_of hr
    refine ⟨_, (pss_one (ps_ost (pv 0) (pv 1))), ?_⟩
    show (_ : TS) _ [some (.ref a), some (v)] H
    refine Jl.s_ost (fun R z => Jl.s_var (by with_unfolding_all rfl) z) (fun R z => Jl.s_var (by with_unfolding_all rfl) z) T.o_NoPiece T.no_NoPiece_row h (fun dx nd ne => ?_)
    exact k dx nd ne
/-! ### Rule.__init__ -/
def sp_Rule___init__ (K : PySem.W.Frag) : Sp := fun vs H Q _ => ∃ (p C dx : Addr) (t : Str), vs = [.ref p, .str t] ∧ H p = some (.ins C dx []) ∧ Cls K C ∧ NoAttr K C "title" ∧ Q .non (upd H p (.ins C dx (putF "title" (.str t) [])))
theorem ok_Rule___init__ (T : Txt K mg) : FnOk P w K mg base CX0 1 T.a_Rule___init__ T.d_Rule___init__ ["self", "title"] (sp_Rule___init__ K) := by
  refine T.F_Rule___init__.ok sc_Rule___init__ (fun vs H Q E h => ?_) (fun cdv A outer s H vs Q E hr h => ?_)
  · obtain ⟨p, C, dx, t, rfl, hp, hc, hn, k⟩ := h
    rfl
  · obtain ⟨p, C, dx, t, rfl, hp, hc, hn, k⟩ := h
    have hu := hu_of hr
    refine ⟨_, (pss_one (ps_fld (pv 0) (pv 1) rfl)), ?_⟩
    show (_ : TS) _ [some (.ref p), some (.str t)] H
    refine ⟨_, rfl, _, rfl, p, C, dx, [], rfl, hp, hc, hn, (by decide), ?_⟩
    exact k
/-! ### Rule.leans -/
def sp_Rule_leans : Sp := fun vs H Q _ => ∃ x0 : V, vs = [x0] ∧ Q (.bl true) H
theorem use_Rule_leans {x0 : V} {H : Hp} {Q : VK} {E : XK} (z : Q (.bl true) H) : sp_Rule_leans [x0] H Q E := ⟨x0, rfl, z⟩
local macro_rules | `(tactic| walk_at "s") => `(tactic| (with_reducible refine use_Rule_leans ?_))
theorem ok_Rule_leans (T : Txt K mg) : FnOk P w K mg base CX0 1 T.a_Rule_leans T.d_Rule_leans ["self"] (sp_Rule_leans) := by
  refine T.F_Rule_leans.ok sc_Rule_leans (fun vs H Q E h => ?_) (fun cdv A outer s H vs Q E hr h => ?_)
  · obtain ⟨x0, rfl, k⟩ := h
    rfl
  · obtain ⟨x0, rfl, k⟩ := h
    have hu := hu_of hr
    refine ⟨_, (pss_one (ps_ret pe_bl)), ?_⟩
    show (_ : TS) _ [some (x0)] H
    walk_at "w"
    exact k
/-! ### NearRule.leans -/
def sp_NearRule_leans : Sp := fun vs H Q _ => ∃ x0 : V, vs = [x0] ∧ Q (.bl false) H
theorem use_NearRule_leans {x0 : V} {H : Hp} {Q : VK} {E : XK} (z : Q (.bl false) H) : sp_NearRule_leans [x0] H Q E := ⟨x0, rfl, z⟩
local macro_rules | `(tactic| walk_at "s") => `(tactic| (with_reducible refine use_NearRule_leans ?_))
theorem ok_NearRule_leans (T : Txt K mg) : FnOk P w K mg base CX0 1 T.a_NearRule_leans T.d_NearRule_leans ["self"] (sp_NearRule_leans) := by
  refine T.F_NearRule_leans.ok sc_NearRule_leans (fun vs H Q E h => ?_) (fun cdv A outer s H vs Q E hr h => ?_)
  · obtain ⟨x0, rfl, k⟩ := h
    rfl
  · obtain ⟨x0, rfl, k⟩ := h
    have hu := hu_of hr
    refine ⟨_, (pss_one (ps_ret pe_bl)), ?_⟩
    show (_ : TS) _ [some (x0)] H
    walk_at "w"
    exact k
/-! ### SplitRule.leans -/
def sp_SplitRule_leans : Sp := fun vs H Q _ => ∃ x0 : V, vs = [x0] ∧ Q (.bl false) H
theorem use_SplitRule_leans {x0 : V} {H : Hp} {Q : VK} {E : XK} (z : Q (.bl false) H) : sp_SplitRule_leans [x0] H Q E := ⟨x0, rfl, z⟩
local macro_rules | `(tactic| walk_at "s") => `(tactic| (with_reducible refine use_SplitRule_leans ?_))
theorem ok_SplitRule_leans (T : Txt K mg) : FnOk P w K mg base CX0 1 T.a_SplitRule_leans T.d_SplitRule_leans ["self"] (sp_SplitRule_leans) := by
  refine T.F_SplitRule_leans.ok sc_SplitRule_leans (fun vs H Q E h => ?_) (fun cdv A outer s H vs Q E hr h => ?_)
  · obtain ⟨x0, rfl, k⟩ := h
    rfl
  · obtain ⟨x0, rfl, k⟩ := h
    have hu := hu_of hr
    refine ⟨_, (pss_one (ps_ret pe_bl)), ?_⟩
    show (_ : TS) _ [some (x0)] H
    walk_at "w"
    exact k
/-! ### rule_of -/
def sp_rule_of (T : Txt K mg) : Sp := fun vs H Q E => ∃ (t : Str), vs = [.str t] ∧ ((∃ C : Addr, ((t = "whole" ∧ C = T.a_Rule) ∨ (t = "high" ∧ C = T.a_HighRule) ∨ (t = "low" ∧ C = T.a_LowRule) ∨ (t = "near" ∧ C = T.a_NearRule) ∨ (t = "split" ∧ C = T.a_SplitRule)) ∧ ∀ p H', Same H H' → H p = none → Jl.RuleAt H' p C t → Q (.ref p) H') ∨ ((¬ t = "whole" ∧ ¬ t = "high" ∧ ¬ t = "low" ∧ ¬ t = "near" ∧ ¬ t = "split") ∧ E (.ref T.a_NoRule) none H))
theorem use_rule_no {T : Txt K mg} {t : Str} {H : Hp} {Q : VK} {E : XK} (h : (¬ t = "whole" ∧ ¬ t = "high" ∧ ¬ t = "low" ∧ ¬ t = "near" ∧ ¬ t = "split")) (z : E (.ref T.a_NoRule) none H) : sp_rule_of T [.str t] H Q E := ⟨t, rfl, .inr ⟨h, z⟩⟩
theorem use_rule {T : Txt K mg} {t : Str} {C : Addr} {H : Hp} {Q : VK} {E : XK} (h : ((t = "whole" ∧ C = T.a_Rule) ∨ (t = "high" ∧ C = T.a_HighRule) ∨ (t = "low" ∧ C = T.a_LowRule) ∨ (t = "near" ∧ C = T.a_NearRule) ∨ (t = "split" ∧ C = T.a_SplitRule))) (z : ∀ p H', Same H H' → H p = none → Jl.RuleAt H' p C t → Q (.ref p) H') : sp_rule_of T [.str t] H Q E := ⟨t, rfl, .inl ⟨C, h, z⟩⟩
theorem ok_rule_of (T : Txt K mg) : FnOk P w K mg base (L2.CX P w) 3 T.a_rule_of T.d_rule_of ["title"] (sp_rule_of T) := by
  have G_Rule___init__ := ok_Rule___init__ (P := P) (w := w) (base := base) T
  refine T.F_rule_of.okX sc_rule_of (fun vs H Q E h => ?_) (fun cdv A outer s H vs Q E hr h => ?_)
  · obtain ⟨t, rfl, k⟩ := h
    rfl
  · obtain ⟨t, rfl, k⟩ := h
    have hu := hu_of hr
    refine ⟨_, (pss_cons (ps_if (pt_cmpR op_eq (pv 0) pe_str (nomark _)) (pss_one (ps_ret (pe_make T.k_Rule (G_Rule___init__) (hr.mono (by decide)) rfl T.g_Rule T.b_Rule___init__ .nil pass0 (pa_cons (pv 0) pa_nil)))) pss_nil)
      (pss_cons (ps_if (pt_cmpR op_eq (pv 0) pe_str (nomark _)) (pss_one (ps_ret (pe_make T.k_HighRule (G_Rule___init__) (hr.mono (by decide)) rfl T.g_HighRule T.b_Rule___init__ .nil pass0 (pa_cons (pv 0) pa_nil)))) pss_nil)
      (pss_cons (ps_if (pt_cmpR op_eq (pv 0) pe_str (nomark _)) (pss_one (ps_ret (pe_make T.k_LowRule (G_Rule___init__) (hr.mono (by decide)) rfl T.g_LowRule T.b_Rule___init__ .nil pass0 (pa_cons (pv 0) pa_nil)))) pss_nil)
      (pss_cons (ps_if (pt_cmpR op_eq (pv 0) pe_str (nomark _)) (pss_one (ps_ret (pe_make T.k_NearRule (G_Rule___init__) (hr.mono (by decide)) rfl T.g_NearRule T.b_Rule___init__ .nil pass0 (pa_cons (pv 0) pa_nil)))) pss_nil)
      (pss_cons (ps_if (pt_cmpR op_eq (pv 0) pe_str (nomark _)) (pss_one (ps_ret (pe_make T.k_SplitRule (G_Rule___init__) (hr.mono (by decide)) rfl T.g_SplitRule T.b_Rule___init__ .nil pass0 (pa_cons (pv 0) pa_nil)))) pss_nil)
      (pss_one (ps_raise rfl (takes_of rfl rfl rfl rfl) (pmk_own PySem.F.excBase_ValueError T.x_NoRule T.g_NoRule T.kc_NoRule (raises_own T.be_NoRule T.ty_NoRule) (by exact rfl))))))))), ?_⟩
    show (_ : TS) _ [some (.str t)] H
    rcases k with ⟨C, ht, k⟩ | ⟨⟨n1, n2, n3, n4, n5⟩, k⟩
    · rcases ht with ⟨rfl, rfl⟩ | ⟨rfl, rfl⟩ | ⟨rfl, rfl⟩ | ⟨rfl, rfl⟩ | ⟨rfl, rfl⟩
      all_goals
        repeat (first | walk_at "s" | with_reducible refine Jl.s_iteDt (by decide +kernel) ?_ | with_reducible refine Jl.s_iteDf (by decide +kernel) ?_)
      · intro x dx nx ndx ne
        exact ⟨x, T.a_Rule, dx, _, rfl, upd_same, T.c_Rule, T.na_Rule_title, rfl, k x _ (Jl.same_made nx ndx) nx ⟨dx, upd_same⟩⟩
      · intro x dx nx ndx ne
        exact ⟨x, T.a_HighRule, dx, _, rfl, upd_same, T.c_HighRule, T.na_HighRule_title, rfl, k x _ (Jl.same_made nx ndx) nx ⟨dx, upd_same⟩⟩
      · intro x dx nx ndx ne
        exact ⟨x, T.a_LowRule, dx, _, rfl, upd_same, T.c_LowRule, T.na_LowRule_title, rfl, k x _ (Jl.same_made nx ndx) nx ⟨dx, upd_same⟩⟩
      · intro x dx nx ndx ne
        exact ⟨x, T.a_NearRule, dx, _, rfl, upd_same, T.c_NearRule, T.na_NearRule_title, rfl, k x _ (Jl.same_made nx ndx) nx ⟨dx, upd_same⟩⟩
      · intro x dx nx ndx ne
        exact ⟨x, T.a_SplitRule, dx, _, rfl, upd_same, T.c_SplitRule, T.na_SplitRule_title, rfl, k x _ (Jl.same_made nx ndx) nx ⟨dx, upd_same⟩⟩
    · walk_at "wd"
      exact k
/-! ### is_name -/
def sp_is_name : Sp := fun vs H Q _ => ∃ z : Str, vs = [.str z] ∧ z.length ≤ 100000 ∧ Q (.bl (Jl.isNm z.cps.toList)) H
theorem use_is_name {z : Str} {H : Hp} {Q : VK} {E : XK} (hz : z.length ≤ 100000) (k : Q (.bl (Jl.isNm z.cps.toList)) H) : sp_is_name [.str z] H Q E := ⟨z, rfl, hz, k⟩
local macro_rules | `(tactic| walk_at "s") => `(tactic| ((focus (with_reducible refine use_is_name ?_ ?_; (focus (omega))))))
theorem ok_is_name (T : Txt K mg) : FnOk P w K mg base CX0 1 T.a_is_name T.d_is_name ["text"] (sp_is_name) := by
  refine T.F_is_name.ok sc_is_name (fun vs H Q E h => ?_) (fun cdv A outer s H vs Q E hr h => ?_)
  · obtain ⟨z, rfl, hz, k⟩ := h
    rfl
  · obtain ⟨z, rfl, hz, k⟩ := h
    have hu := hu_of hr
    refine ⟨_, (pss_cons (ps_if (PW.pt (pw_or (pt_not (pt_chain op_le op_le pe_int (pe_callB Jl.cl_lenS (by rfl) T.n_len (by decide +kernel) (pa_cons (pv 0) pa_nil)) pe_int)) (pw_or1 (pt_cmpR Jl.op_notInS (pe_ix ix_str (pv 0) pe_int (fun _ _ => rfl)) (pe_glob (v := .str "abcdefghijklmnopqrstuvwxyz") rfl T.g_LETTERS ⟨_, rfl⟩) rfl)))) (pss_one (ps_ret pe_bl)) pss_nil)
      (pss_cons (ps_for PassesOwn.never rfl (pi_str (pv 0)) (pg_name (i := 1) sc_is_name.nd rfl (Or.inl rfl)) (pss_one (ps_if (PW.pt (pw_and (pt_cmpR Jl.op_notInS (pv 1) (pe_glob (v := .str "abcdefghijklmnopqrstuvwxyz") rfl T.g_LETTERS ⟨_, rfl⟩) rfl) (pw_and (pt_cmpR Jl.op_notInS (pv 1) (pe_glob (v := .str "0123456789") rfl T.g_FIGURES ⟨_, rfl⟩) rfl) (pw_and1 (pt_cmpR op_ne (pv 1) pe_str (nomark _)))))) (pss_one (ps_ret pe_bl)) pss_nil)))
      (pss_one (ps_ret pe_bl)))), ?_⟩
    show (_ : TS) _ [some (.str z), none] H
    have hl := Jl.len_list z
    by_cases hr : 1 ≤ z.length ∧ z.length ≤ 16
    rotate_left
    · have e : Jl.isNm z.cps.toList = false := by
        unfold Jl.isNm
        rw [hl, decide_eq_false hr]; rfl
      rw [e] at k
      walk_at "all"
      all_goals exact k
    obtain ⟨h1, h2⟩ := hr
    obtain ⟨c, hc⟩ : ∃ c, z.cps.toList[0]? = some c := ⟨_, List.getElem?_eq_getElem (by omega)⟩
    have hD : z.cps.toList.getD 0 0 = c := by rw [List.getD_eq_getElem?_getD, hc]; rfl
    walk_at "wd"
    refine Jl.s_ixS (Jl.atI_of0 hc) ?_ (by omega)
    walk_at "wd"
    refine Jl.s_iteN (fun hn => ?_) (fun hn => ?_)
    · have e : Jl.isNm z.cps.toList = false := by
        unfold Jl.isNm
        rw [hD, decide_eq_false (show ¬ c ∈ Jl.LET from hn), Bool.and_false]; rfl
      rw [e] at k
      walk_at "w"
      exact k
    · walk_at "w"
      have e : Jl.isNm z.cps.toList = z.cps.toList.all Jl.nsign := by
        unfold Jl.isNm
        rw [hD, hl, decide_eq_true (And.intro h1 h2), decide_eq_true (show c ∈ Jl.LET from hn)]; rfl
      rw [e] at k
      refine Jl.s_forS (z := z) (fun i σ H' => (∃ v, σ = [some (.str z), v]) ∧ H' = H ∧ ∀ j x, j < i → z.cps.toList[j]? = some x → Jl.nsign x = true) (fun R h => ?_) ⟨⟨_, rfl⟩, rfl, fun j x hj => by omega⟩ ?_ ?_
      · walk_at "w"; exact h
      · rintro i c σ H' hc ⟨⟨v, rfl⟩, rfl, ha⟩
        simp only [List.set_cons_zero, List.set_cons_succ]
        have good : Jl.nsign c = true → (∃ v, [some (V.str z), some (V.str ⟨#[c]⟩)] = [some (V.str z), v]) ∧ H' = H' ∧ ∀ j x, j < i + 1 → z.cps.toList[j]? = some x → Jl.nsign x = true := fun hs => ⟨⟨_, rfl⟩, rfl, fun j x hj hx => by
          by_cases z : j = i
          · subst z; rw [hc] at hx; cases hx; exact hs
          · exact ha j x (by omega) hx⟩
        walk_at "w"
        refine Jl.s_iteN (fun g1 => ?_) (fun g1 => ?_)
        · walk_at "w"
          refine Jl.s_iteN (fun g2 => ?_) (fun g2 => ?_)
          · walk_at "w"
            refine Jl.s_iteN (fun g3 => ?_) (fun g3 => ?_)
            · walk_at "w"
              have e : z.cps.toList.all Jl.nsign = false := Jl.all_false hc (by
                unfold Jl.nsign
                rw [decide_eq_false (show ¬ c ∈ Jl.LET from g1), decide_eq_false (show ¬ c ∈ Jl.FIG from g2), decide_eq_false (show ¬ c = 95 from fun q => g3 (by rw [q]; rfl))]; rfl)
              rw [e] at k
              exact k
            · walk_at "w"
              refine good ?_
              have q : c = 95 := Jl.one_eq.mp (g3 : (⟨#[c]⟩ : Str) = ⟨#[95]⟩)
              unfold Jl.nsign; rw [q]; rfl
          · walk_at "w"
            refine good ?_
            unfold Jl.nsign; rw [decide_eq_true (show c ∈ Jl.FIG from g2)]; simp
        · walk_at "w"
          refine good ?_
          unfold Jl.nsign; rw [decide_eq_true (show c ∈ Jl.LET from g1)]; simp
      · rintro σ H' ⟨⟨v, rfl⟩, rfl, ha⟩
        walk_at "w"
        rw [Jl.all_true fun i x hx => ha i x (by rw [← hl]; exact (List.getElem?_eq_some_iff.mp hx).1) hx] at k
        exact k
/-! ### number_of -/
def sp_number_of : Sp := fun vs H Q _ => ∃ (z : Str) (a b : Int), vs = [.str z, .int a, .int b] ∧ z.length ≤ 100000 ∧ Q (Jl.optI (Jl.numOf z.cps.toList a b)) H
theorem use_number_of {z : Str} {a b : Int} {H : Hp} {Q : VK} {E : XK} (hz : z.length ≤ 100000) (k : Q (Jl.optI (Jl.numOf z.cps.toList a b)) H) : sp_number_of [.str z, .int a, .int b] H Q E := ⟨z, a, b, rfl, hz, k⟩
local macro_rules | `(tactic| walk_at "s") => `(tactic| ((focus (with_reducible refine use_number_of ?_ ?_; (focus (omega))))))
theorem ok_number_of (T : Txt K mg) : FnOk P w K mg base CX0 1 T.a_number_of T.d_number_of ["text", "least", "most"] (sp_number_of) := by
  refine T.F_number_of.ok sc_number_of (fun vs H Q E h => ?_) (fun cdv A outer s H vs Q E hr h => ?_)
  · obtain ⟨z, a, b, rfl, hz, k⟩ := h
    rfl
  · obtain ⟨z, a, b, rfl, hz, k⟩ := h
    have hu := hu_of hr
    refine ⟨_, (pss_cons (ps_set (i := 3) sc_number_of.nd rfl (Or.inl rfl) (pv 0))
      (pss_cons (ps_if (pt_cmpR op_eq (pe_slice (r := rSlS) sl_str (pv 0) po_none (po_some pe_int)) pe_str (nomark _)) (pss_one (ps_set (i := 3) sc_number_of.nd rfl (Or.inl rfl) (pe_slice (r := rSlS) sl_str (pv 0) (po_some pe_int) po_none))) pss_nil)
      (pss_cons (ps_if (PW.pt (pw_or (pt_not (pt_chain op_le op_le pe_int (pe_callB Jl.cl_lenS (by rfl) T.n_len (by decide +kernel) (pa_cons (pv 3) pa_nil)) pe_int)) (pw_or1 (PW.pt (pw_and (pt_cmpR op_eq (pe_ix ix_str (pv 3) pe_int (fun _ _ => rfl)) pe_str (nomark _)) (pw_and1 (pt_cmpR op_ne (pv 0) pe_str (nomark _)))))))) (pss_one (ps_ret pe_non)) pss_nil)
      (pss_cons (ps_for PassesOwn.never rfl (pi_str (pv 3)) (pg_name (i := 4) sc_number_of.nd rfl (Or.inl rfl)) (pss_one (ps_if (pt_cmpR Jl.op_notInS (pv 4) (pe_glob (v := .str "0123456789") rfl T.g_FIGURES ⟨_, rfl⟩) rfl) (pss_one (ps_ret pe_non)) pss_nil)))
      (pss_cons (ps_set (i := 5) sc_number_of.nd rfl (Or.inl rfl) (pe_callTy Jl.cl_intS (by rfl) T.n_int (by decide +kernel) (pa_cons (pv 3) pa_nil)))
      (pss_cons (ps_if (pt_cmpR op_eq (pe_ix ix_str (pv 0) pe_int (fun _ _ => rfl)) pe_str (nomark _)) (pss_one (ps_set (i := 5) sc_number_of.nd rfl (Or.inl rfl) (pe_op op_sub pe_int (pv 5)))) pss_nil)
      (pss_cons (ps_if (pt_not (pt_chain op_le op_le (pv 1) (pv 5) (pv 2))) (pss_one (ps_ret pe_non)) pss_nil)
      (pss_one (ps_ret (pv 5)))))))))), ?_⟩
    show (_ : TS) _ [some (.str z), some (.int a), some (.int b), none, none, none] H
    have hl := Jl.len_list z
    walk_at "w"
    refine Jl.s_iteAsgV (.str z) (.str (cutS z (some 1) none)) (fun _ R h => ?_) rfl ?_
    · walk_at "w"; exact h
    rw [Jl.ite_str]
    simp only [List.set_cons_zero, List.set_cons_succ]
    have hf := Jl.figs_text z
    have hfz : (if cutS z none (some 1) = "-" then cutS z (some 1) none else z).length ≤ z.length := by
      split
      · exact Jl.len_cut _ _ _
      · exact Nat.le_refl _
    generalize (if cutS z none (some 1) = "-" then cutS z (some 1) none else z) = f at *
    have hfl : (Jl.figs z.cps.toList).length = f.length := by rw [← hf]; exact Jl.len_list f
    by_cases hr : 1 ≤ f.length ∧ f.length ≤ 10
    rotate_left
    · rw [Jl.numOf_none (fun q => hr (by have := q.1; omega))] at k
      walk_at "all"
      all_goals exact k
    obtain ⟨r1, r2⟩ := hr
    obtain ⟨c0, hc0⟩ : ∃ c, f.cps.toList[0]? = some c := ⟨_, List.getElem?_eq_getElem (by rw [Jl.len_list]; omega)⟩
    obtain ⟨c1, hc1⟩ : ∃ c, z.cps.toList[0]? = some c := ⟨_, List.getElem?_eq_getElem (by omega)⟩
    have hD : (Jl.figs z.cps.toList).getD 0 0 = c0 := by rw [← hf, List.getD_eq_getElem?_getD, hc0]; rfl
    have hh : z.cps.toList.head? = some c1 := by rw [List.head?_eq_getElem?, hc1]
    have z0 : (⟨#[c0]⟩ : Str) = "0" ↔ c0 = 48 := Jl.one_is (by decide +kernel)
    have z1 : (⟨#[c1]⟩ : Str) = "-" ↔ c1 = 45 := Jl.one_is (by decide +kernel)
    have hnz : f ≠ "" := (not_congr (Jl.empty_iff f)).mpr (by omega)
    walk_at "wd"
    refine Jl.s_ixS (Jl.atI_of0 hc0) ?_ (by omega)
    walk_at "wd"
    refine Jl.s_iteD (fun h0 => ?_) (fun h0 => ?_)
    rotate_left
    · have good : ¬ ((Jl.figs z.cps.toList).getD 0 0 = 48 ∧ z.cps.toList ≠ [48]) := fun q => h0 (z0.mpr (by rw [← hD]; exact q.1))
      walk_at "w"
      refine Jl.s_forS (z := f) (fun i σ H' => (∃ v, σ = [some (.str z), some (.int a), some (.int b), some (.str f), v, none]) ∧ H' = H ∧ ∀ j x, j < i → f.cps.toList[j]? = some x → Jl.isFig x = true) (fun R h => ?_) ⟨⟨_, rfl⟩, rfl, fun j x hj => by omega⟩ ?_ ?_
      · walk_at "w"; exact h
      · rintro i c σ H' hc ⟨⟨v, rfl⟩, rfl, ha⟩
        simp only [List.set_cons_zero, List.set_cons_succ]
        walk_at "w"
        refine Jl.s_iteN (fun g1 => ?_) (fun g1 => ?_)
        · rw [Jl.numOf_none (fun q => g1 ((Jl.fig_iff c).mpr (of_decide_eq_true (List.all_eq_true.mp q.2.2.1 c (by rw [← hf]; exact List.mem_of_getElem? hc)))))] at k
          walk_at "w"; exact k
        · walk_at "w"
          refine ⟨⟨_, rfl⟩, by trivial, fun j x hj hx => ?_⟩
          by_cases q : j = i
          · subst q; rw [hc] at hx; cases hx; exact decide_eq_true ((Jl.fig_iff c).mp g1)
          · exact ha j x (by omega) hx
      · rintro σ H' ⟨⟨v, rfl⟩, rfl, ha⟩
        have hall : (Jl.figs z.cps.toList).all Jl.isFig = true := by
          rw [← hf]
          exact Jl.all_true fun i x hx => ha i x (by rw [← Jl.len_list]; exact (List.getElem?_eq_some_iff.mp hx).1) hx
        have hint : PySem.intText? f = some ((NumText.digitsVal (Jl.figs z.cps.toList) : Nat) : Int) := by
          rw [← hf]
          refine PySem.intText_digits (by rw [hf]; exact Jl.figs_digits hall) (fun q => ?_) (by omega)
          rw [q] at hc0; cases hc0
        walk_at "w"
        refine ⟨f, _, rfl, hint, by omega, ?_⟩
        walk_at "w"
        refine Jl.s_ixS (Jl.atI_of0 hc1) ?_ (by omega)
        walk_at "w"
        refine Jl.s_iteAsgI ((NumText.digitsVal (Jl.figs z.cps.toList) : Nat) : Int) (0 - ((NumText.digitsVal (Jl.figs z.cps.toList) : Nat) : Int)) (fun _ R h => ?_) rfl ?_
        · walk_at "w"; exact h
        simp only [List.set_cons_zero, List.set_cons_succ]
        have ev : (if (⟨#[c1]⟩ : Str) = "-" then 0 - ((NumText.digitsVal (Jl.figs z.cps.toList) : Nat) : Int) else ((NumText.digitsVal (Jl.figs z.cps.toList) : Nat) : Int)) = Jl.valOf z.cps.toList := by
          unfold Jl.valOf
          rw [hh]
          by_cases q : c1 = 45
          · rw [if_pos (z1.mpr q), if_pos (by rw [q])]
          · rw [if_neg (fun y => q (z1.mp y)), if_neg (fun y => q (Option.some.inj y))]
        rw [ev]
        by_cases hin : a ≤ Jl.valOf z.cps.toList ∧ Jl.valOf z.cps.toList ≤ b
        · rw [Jl.numOf_some ⟨by omega, by omega⟩ good hall hin] at k
          obtain ⟨i1, i2⟩ := hin
          walk_at "wd"; exact k
        · rw [Jl.numOf_none (fun q => hin q.2.2.2)] at k
          walk_at "all"
          all_goals exact k
    · walk_at "w"
      refine Jl.s_iteN (fun h2 => ?_) (fun h2 => ?_)
      · rw [Jl.numOf_none (fun q => q.2.1 ⟨by rw [hD]; exact z0.mp h0, (not_congr (Jl.zero_iff z)).mp h2⟩)] at k
        walk_at "w"; exact k
      · have good : ¬ ((Jl.figs z.cps.toList).getD 0 0 = 48 ∧ z.cps.toList ≠ [48]) := fun q => q.2 ((Jl.zero_iff z).mp h2)
        walk_at "w"
        refine Jl.s_forS (z := f) (fun i σ H' => (∃ v, σ = [some (.str z), some (.int a), some (.int b), some (.str f), v, none]) ∧ H' = H ∧ ∀ j x, j < i → f.cps.toList[j]? = some x → Jl.isFig x = true) (fun R h => ?_) ⟨⟨_, rfl⟩, rfl, fun j x hj => by omega⟩ ?_ ?_
        · walk_at "w"; exact h
        · rintro i c σ H' hc ⟨⟨v, rfl⟩, rfl, ha⟩
          simp only [List.set_cons_zero, List.set_cons_succ]
          walk_at "w"
          refine Jl.s_iteN (fun g1 => ?_) (fun g1 => ?_)
          · rw [Jl.numOf_none (fun q => g1 ((Jl.fig_iff c).mpr (of_decide_eq_true (List.all_eq_true.mp q.2.2.1 c (by rw [← hf]; exact List.mem_of_getElem? hc)))))] at k
            walk_at "w"; exact k
          · walk_at "w"
            refine ⟨⟨_, rfl⟩, by trivial, fun j x hj hx => ?_⟩
            by_cases q : j = i
            · subst q; rw [hc] at hx; cases hx; exact decide_eq_true ((Jl.fig_iff c).mp g1)
            · exact ha j x (by omega) hx
        · rintro σ H' ⟨⟨v, rfl⟩, rfl, ha⟩
          have hall : (Jl.figs z.cps.toList).all Jl.isFig = true := by
            rw [← hf]
            exact Jl.all_true fun i x hx => ha i x (by rw [← Jl.len_list]; exact (List.getElem?_eq_some_iff.mp hx).1) hx
          have hint : PySem.intText? f = some ((NumText.digitsVal (Jl.figs z.cps.toList) : Nat) : Int) := by
            rw [← hf]
            refine PySem.intText_digits (by rw [hf]; exact Jl.figs_digits hall) (fun q => ?_) (by omega)
            rw [q] at hc0; cases hc0
          walk_at "w"
          refine ⟨f, _, rfl, hint, by omega, ?_⟩
          walk_at "w"
          refine Jl.s_ixS (Jl.atI_of0 hc1) ?_ (by omega)
          walk_at "w"
          refine Jl.s_iteAsgI ((NumText.digitsVal (Jl.figs z.cps.toList) : Nat) : Int) (0 - ((NumText.digitsVal (Jl.figs z.cps.toList) : Nat) : Int)) (fun _ R h => ?_) rfl ?_
          · walk_at "w"; exact h
          simp only [List.set_cons_zero, List.set_cons_succ]
          have ev : (if (⟨#[c1]⟩ : Str) = "-" then 0 - ((NumText.digitsVal (Jl.figs z.cps.toList) : Nat) : Int) else ((NumText.digitsVal (Jl.figs z.cps.toList) : Nat) : Int)) = Jl.valOf z.cps.toList := by
            unfold Jl.valOf
            rw [hh]
            by_cases q : c1 = 45
            · rw [if_pos (z1.mpr q), if_pos (by rw [q])]
            · rw [if_neg (fun y => q (z1.mp y)), if_neg (fun y => q (Option.some.inj y))]
          rw [ev]
          by_cases hin : a ≤ Jl.valOf z.cps.toList ∧ Jl.valOf z.cps.toList ≤ b
          · rw [Jl.numOf_some ⟨by omega, by omega⟩ good hall hin] at k
            obtain ⟨i1, i2⟩ := hin
            walk_at "wd"; exact k
          · rw [Jl.numOf_none (fun q => hin q.2.2.2)] at k
            walk_at "all"
            all_goals exact k
/-! ### step_told -/
def sp_step_told : Sp := fun vs H Q _ => ∃ z : Str, vs = [.str z] ∧ z.length ≤ 100000 ∧ Q (Jl.optI (Jl.stepOf z)) H
theorem use_step_told {z : Str} {H : Hp} {Q : VK} {E : XK} (hz : z.length ≤ 100000) (k : Q (Jl.optI (Jl.stepOf z)) H) : sp_step_told [.str z] H Q E := ⟨z, rfl, hz, k⟩
local macro_rules | `(tactic| walk_at "s") => `(tactic| ((focus (with_reducible refine use_step_told ?_ ?_; (focus (omega))))))
theorem ok_step_told (T : Txt K mg) : FnOk P w K mg base CX0 2 T.a_step_told T.d_step_told ["text"] (sp_step_told) := by
  have G_number_of := ok_number_of (P := P) (w := w) (base := base) T
  refine T.F_step_told.ok sc_step_told (fun vs H Q E h => ?_) (fun cdv A outer s H vs Q E hr h => ?_)
  · obtain ⟨z, rfl, hz, k⟩ := h
    rfl
  · obtain ⟨z, rfl, hz, k⟩ := h
    have hu := hu_of hr
    refine ⟨_, (pss_cons (ps_set (i := 1) sc_step_told.nd rfl (Or.inl rfl) (pe_call (G_number_of) (hr.mono (by decide)) rfl T.m_number_of T.F_number_of.kp T.b_number_of .nil pass0 (pa_cons (pv 0) (pa_cons pe_int (pa_cons pe_int pa_nil)))))
      (pss_cons (ps_if (PW.pt (pw_or (pt_cmpR Jl.op_isN1 (pv 1) pe_non (nomark _)) (pw_or1 (pt_cmpR op_ne (pe_op op_and (pv 1) (pe_op op_sub (pv 1) pe_int)) pe_int (nomark _))))) (pss_one (ps_ret pe_non)) pss_nil)
      (pss_one (ps_ret (pv 1))))), ?_⟩
    show (_ : TS) _ [some (.str z), none] H
    unfold Jl.stepOf at k
    walk_at "w"
    cases e : Jl.numOf z.cps.toList 1 65536 with
    | none =>
      rw [e] at k
      simp only [Jl.optI_none] at k ⊢
      walk_at "w"
      exact k
    | some s =>
      rw [e] at k
      simp only [Jl.optI_some] at k ⊢
      walk_at "w"
      refine Jl.s_iteN (fun g => ?_) (fun g => ?_)
      · walk_at "w"
        rw [if_neg (show ¬ Jl.andI s (s - 1) = 0 from g)] at k
        exact k
      · walk_at "w"
        rw [if_pos (show Jl.andI s (s - 1) = 0 from g)] at k
        exact k
/-! ### is_title -/
def sp_is_title (T : Txt K mg) : Sp := fun vs H Q _ => ∃ z : Str, vs = [.str z] ∧ ∀ H', Same H H' → Q (.bl (decide (Jl.isRule5 z))) H'
theorem use_is_title {T : Txt K mg} {z : Str} {H : Hp} {Q : VK} {E : XK} (k : ∀ H', Same H H' → Q (.bl (decide (Jl.isRule5 z))) H') : sp_is_title T [.str z] H Q E := ⟨z, rfl, k⟩
theorem ok_is_title (T : Txt K mg) : FnOk P w K mg base CX0 4 T.a_is_title T.d_is_title ["text"] (sp_is_title T) := by
  have G_rule_of := ok_rule_of (P := P) (w := w) (base := base) T
  refine T.F_is_title.ok sc_is_title (fun vs H Q E h => ?_) (fun cdv A outer s H vs Q E hr h => ?_)
  · obtain ⟨z, rfl, k⟩ := h
    rfl
  · obtain ⟨z, rfl, k⟩ := h
    have hu := hu_of hr
    refine ⟨_, (pss_cons (ps_try_only rfl rfl ⟨rfl, by decide, Or.inl T.g_NoRule⟩ takes0 (fun W pl xe tk1 po1 => (pss_one (ps_expr (pe_callS (G_rule_of) (hr.mono (by decide)) rfl T.m_rule_of T.F_rule_of.kp T.b_rule_of (fun σ => passAt tk1 σ) (pa_cons (pv 0) pa_nil))))) (fun a u cls d pl hz hf => (pss_one (ps_ret pe_bl))))
      (pss_one (ps_ret pe_bl))), ?_⟩
    show (_ : TS) _ [some (.str z)] H
    walk_at "w"
    by_cases hz : Jl.isRule5 z
    · rw [decide_eq_true hz] at k
      rcases hz with rfl | rfl | rfl | rfl | rfl
      · refine use_rule (C := T.a_Rule) (.inl ⟨rfl, rfl⟩) (fun p H2 s2 np hR => ?_)
        walk_at "w"
        exact k _ s2
      · refine use_rule (C := T.a_HighRule) (.inr (.inl ⟨rfl, rfl⟩)) (fun p H2 s2 np hR => ?_)
        walk_at "w"
        exact k _ s2
      · refine use_rule (C := T.a_LowRule) (.inr (.inr (.inl ⟨rfl, rfl⟩))) (fun p H2 s2 np hR => ?_)
        walk_at "w"
        exact k _ s2
      · refine use_rule (C := T.a_NearRule) (.inr (.inr (.inr (.inl ⟨rfl, rfl⟩)))) (fun p H2 s2 np hR => ?_)
        walk_at "w"
        exact k _ s2
      · refine use_rule (C := T.a_SplitRule) (.inr (.inr (.inr (.inr (⟨rfl, rfl⟩))))) (fun p H2 s2 np hR => ?_)
        walk_at "w"
        exact k _ s2
    · rw [decide_eq_false hz] at k
      refine use_rule_no ⟨fun e => hz (.inl e), fun e => hz (.inr (.inl e)), fun e => hz (.inr (.inr (.inl e))), fun e => hz (.inr (.inr (.inr (.inl e)))), fun e => hz (.inr (.inr (.inr (.inr (e)))))⟩ ?_
      refine ⟨true, T.exs_NoRule, fun _ a na => ?_, fun z => by cases z⟩
      walk_at "w"
      exact k _ (Same.refl _)
/-! ### put_stretch -/
def sp_put_stretch (K : PySem.W.Frag) : Sp := fun vs H Q _ => ∃ (B : Hp) (Γ : Jl.Ents) (P : Addr) (ss : List Jl.Stre) (ns : List Jl.Nam) (v : V) (row : List Str), vs = [.ref P, v] ∧ Jl.Rep K B H ((.ref P, .l (ss.map Jl.streT)) :: Γ) ∧ Jl.Ls Γ v (row.map Jl.strT) ∧ (∀ z ∈ row, z.length ≤ 90000) ∧ (ss.length ≤ 50000 ∧ ns.length ≤ 50000 ∧ ∀ s ∈ ss, s.words.length ≤ 50000 ∧ s.fills.length ≤ 50000) ∧ ((Jl.putStre ⟨ss, ns⟩ row = none → ∀ H', Jl.Rep K B H' ((.ref P, .l (ss.map Jl.streT)) :: Γ) → Q (.bl false) H') ∧ (∀ st', Jl.putStre ⟨ss, ns⟩ row = some st' → ∀ H', Jl.Rep K B H' ((.ref P, .l (st'.stres.map Jl.streT)) :: Γ) → Q (.bl true) H'))
theorem use_put_stretch {K : PySem.W.Frag} {B : Hp} {Γ : Jl.Ents} {P : Addr} {ss : List Jl.Stre} {ns : List Jl.Nam} {v : V} {row : List Str} {H : Hp} {Q : VK} {E : XK} (R : Jl.Rep K B H ((.ref P, .l (ss.map Jl.streT)) :: Γ)) (hv : Jl.Ls Γ v (row.map Jl.strT)) (hrow : ∀ z ∈ row, z.length ≤ 90000) (hsz : (ss.length ≤ 50000 ∧ ns.length ≤ 50000 ∧ ∀ s ∈ ss, s.words.length ≤ 50000 ∧ s.fills.length ≤ 50000)) (z9 : ((Jl.putStre ⟨ss, ns⟩ row = none → ∀ H', Jl.Rep K B H' ((.ref P, .l (ss.map Jl.streT)) :: Γ) → Q (.bl false) H') ∧ (∀ st', Jl.putStre ⟨ss, ns⟩ row = some st' → ∀ H', Jl.Rep K B H' ((.ref P, .l (st'.stres.map Jl.streT)) :: Γ) → Q (.bl true) H'))) : sp_put_stretch K [.ref P, v] H Q E := ⟨B, Γ, P, ss, ns, v, row, rfl, R, hv, hrow, hsz, z9⟩
theorem ok_put_stretch (T : Txt K mg) : FnOk P w K mg base CX0 3 T.a_put_stretch T.d_put_stretch ["stretches", "parts"] (sp_put_stretch K) := by
  have G_step_told := ok_step_told (P := P) (w := w) (base := base) T
  refine T.F_put_stretch.ok sc_put_stretch (fun vs H Q E h => ?_) (fun cdv A outer s H vs Q E hr h => ?_)
  · obtain ⟨B, Γ, P, ss, ns, v, row, rfl, R, hv, hrow, hsz, k1, k2⟩ := h
    rfl
  · obtain ⟨B, Γ, P, ss, ns, v, row, rfl, R, hv, hrow, hsz, k1, k2⟩ := h
    have hu := hu_of hr
    refine ⟨_, (pss_cons (ps_if (pt_cmpR op_ne (pe_callB (r := Jl.rLenL K) Jl.cl_lenL (by rfl) T.n_len (by decide +kernel) (pa_cons (pv 1) pa_nil)) pe_int (nomark _)) (pss_one (ps_ret pe_bl)) pss_nil)
      (pss_cons (ps_set (i := 2) sc_put_stretch.nd rfl (Or.inl rfl) (pe_call (G_step_told) (hr.mono (by decide)) rfl T.m_step_told T.F_step_told.kp T.b_step_told .nil pass0 (pa_cons (pe_ix (r := rIxL K) ix_list (pv 1) pe_int (fun _ _ => rfl)) pa_nil)))
      (pss_cons (ps_if (pt_cmpR Jl.op_isN1 (pv 2) pe_non (nomark _)) (pss_one (ps_ret pe_bl)) pss_nil)
      (pss_cons (ps_expr (pe_bm PySem.F.plainAttrs_list PySem.F.slot_list_append PySem.F.type_list_append mt_append (pv 0) (pa_cons (pe_tup (pa_cons (pe_ix (r := rIxL K) ix_list (pv 1) pe_int (fun _ _ => rfl)) (pa_cons (pv 2) (pa_cons (Jl.pe_lstO (pe_lst pa_nil)) (pa_cons (Jl.pe_lstO (pe_lst pa_nil)) pa_nil))))) pa_nil)))
      (pss_one (ps_ret pe_bl)))))), ?_⟩
    show (_ : TS) _ [some (.ref P), some (v), none] H
    walk_at "R"
    rw [List.length_map]
    by_cases h2 : row.length = 2
    rotate_left
    · refine Jl.s_iteN (fun _ => ?_) (fun g => absurd g (by omega))
      walk_at "R"
      exact k1 (if_neg fun h => h2 h) _ R
    obtain ⟨a, b, rfl⟩ := Jl.len2 h2
    have ha := hrow a (by simp)
    have hb := hrow b (by simp)
    refine Jl.s_iteNt (by simp) ?_
    
    have ep : Jl.putStre ⟨ss, ns⟩ [a, b] = (Jl.stepOf b).map fun s => ⟨ss ++ [⟨a, s, [], []⟩], ns⟩ := if_pos rfl
    walk_at "R"
    cases e : Jl.stepOf b with
    | none =>
      rw [e] at ep
      simp only [Jl.optI_none]
      walk_at "R"
      exact k1 ep _ (Jl.Rep.pick (by assumption) (by walk_at "j_pick"))
    | some s =>
      rw [e] at ep
      simp only [Jl.optI_some]
      have hl9 := hsz.1
      walk_at "R"
      refine k2 _ ep _ (Jl.Rep.pick (by assumption) ?_)
      rw [List.map_append]
      exact .own .head (by walk_at "j_pick")
/-! ### put_word -/
def sp_put_word (K : PySem.W.Frag) : Sp := fun vs H Q _ => ∃ (B : Hp) (Γ : Jl.Ents) (P : Addr) (ss : List Jl.Stre) (ns : List Jl.Nam) (v : V) (row : List Str), vs = [.ref P, v] ∧ Jl.Rep K B H ((.ref P, .l (ss.map Jl.streT)) :: Γ) ∧ Jl.Ls Γ v (row.map Jl.strT) ∧ (∀ z ∈ row, z.length ≤ 90000) ∧ (ss.length ≤ 50000 ∧ ns.length ≤ 50000 ∧ ∀ s ∈ ss, s.words.length ≤ 50000 ∧ s.fills.length ≤ 50000) ∧ ((∀ s ∈ ss, s.ok)) ∧ ((Jl.putWordP ⟨ss, ns⟩ row = none → ∀ H', Jl.Rep K B H' ((.ref P, .l (ss.map Jl.streT)) :: Γ) → Q (.bl false) H') ∧ (∀ st', Jl.putWordP ⟨ss, ns⟩ row = some st' → ∀ H', Jl.Rep K B H' ((.ref P, .l (st'.stres.map Jl.streT)) :: Γ) → Q (.bl true) H'))
theorem use_put_word {K : PySem.W.Frag} {B : Hp} {Γ : Jl.Ents} {P : Addr} {ss : List Jl.Stre} {ns : List Jl.Nam} {v : V} {row : List Str} {H : Hp} {Q : VK} {E : XK} (R : Jl.Rep K B H ((.ref P, .l (ss.map Jl.streT)) :: Γ)) (hv : Jl.Ls Γ v (row.map Jl.strT)) (hrow : ∀ z ∈ row, z.length ≤ 90000) (hsz : (ss.length ≤ 50000 ∧ ns.length ≤ 50000 ∧ ∀ s ∈ ss, s.words.length ≤ 50000 ∧ s.fills.length ≤ 50000)) (x0 : (∀ s ∈ ss, s.ok)) (z9 : ((Jl.putWordP ⟨ss, ns⟩ row = none → ∀ H', Jl.Rep K B H' ((.ref P, .l (ss.map Jl.streT)) :: Γ) → Q (.bl false) H') ∧ (∀ st', Jl.putWordP ⟨ss, ns⟩ row = some st' → ∀ H', Jl.Rep K B H' ((.ref P, .l (st'.stres.map Jl.streT)) :: Γ) → Q (.bl true) H'))) : sp_put_word K [.ref P, v] H Q E := ⟨B, Γ, P, ss, ns, v, row, rfl, R, hv, hrow, hsz, x0, z9⟩
theorem ok_put_word (T : Txt K mg) : FnOk P w K mg base CX0 2 T.a_put_word T.d_put_word ["stretches", "parts"] (sp_put_word K) := by
  have G_number_of := ok_number_of (P := P) (w := w) (base := base) T
  refine T.F_put_word.ok sc_put_word (fun vs H Q E h => ?_) (fun cdv A outer s H vs Q E hr h => ?_)
  · obtain ⟨B, Γ, P, ss, ns, v, row, rfl, R, hv, hrow, hsz, x0, k1, k2⟩ := h
    rfl
  · obtain ⟨B, Γ, P, ss, ns, v, row, rfl, R, hv, hrow, hsz, x0, k1, k2⟩ := h
    have hu := hu_of hr
    refine ⟨_, (pss_cons (ps_if (PW.pt (pw_or (pt_cmpR op_ne (pe_callB (r := Jl.rLenL K) Jl.cl_lenL (by rfl) T.n_len (by decide +kernel) (pa_cons (pv 1) pa_nil)) pe_int (nomark _)) (pw_or1 (pt_cmpR (op_eqD hr.units) (pv 0) (Jl.pe_lstO (pe_lst pa_nil)) (nomark _))))) (pss_one (ps_ret pe_bl)) pss_nil)
      (pss_cons (ps_set (i := 2) sc_put_word.nd rfl (Or.inl rfl) (pe_call (G_number_of) (hr.mono (by decide)) rfl T.m_number_of T.F_number_of.kp T.b_number_of .nil pass0 (pa_cons (pe_ix (r := rIxL K) ix_list (pv 1) pe_int (fun _ _ => rfl)) (pa_cons pe_int (pa_cons pe_int pa_nil)))))
      (pss_cons (ps_if (pt_cmpR Jl.op_isN1 (pv 2) pe_non (nomark _)) (pss_one (ps_ret pe_bl)) pss_nil)
      (pss_cons (ps_expr (pe_bm PySem.F.plainAttrs_list PySem.F.slot_list_append PySem.F.type_list_append mt_append (pe_ix (r := rIxT K) ix_tup (pe_ix (r := rIxL K) ix_list (pv 0) (pe_un un_neg pe_int) (fun _ _ => rfl)) pe_int (fun _ _ => rfl)) (pa_cons (pv 2) pa_nil)))
      (pss_one (ps_ret pe_bl)))))), ?_⟩
    show (_ : TS) _ [some (.ref P), some (v), none] H
    walk_at "R"
    rw [List.length_map]
    by_cases h2 : row.length = 2
    rotate_left
    · refine Jl.s_iteN (fun _ => ?_) (fun g => absurd g (by omega))
      walk_at "R"
      exact k1 (if_neg fun h => h2 h.1) _ R
    obtain ⟨a, b, rfl⟩ := Jl.len2 h2
    have ha := hrow a (by simp)
    have hb := hrow b (by simp)
    refine Jl.s_iteNt (by simp) ?_
    
    walk_at "R"
    
    refine Jl.s_eqNilR (by assumption) (t := .l (ss.map Jl.streT)) (by walk_at "j_mem") (Jl.stres_d ss) (Jl.stres_shaped x0) (by walk_at "j_ls") ?_
    walk_at "R"
    rcases List.eq_nil_or_concat ss with rfl | ⟨ss0, s, rfl⟩
    · refine Jl.s_iteDt rfl ?_
      walk_at "R"
      exact k1 (if_neg fun h => h.2 rfl) _ (Jl.Rep.pick (by assumption) (by walk_at "j_pick"))
    rw [List.concat_eq_append] at *
    refine Jl.s_iteDf (by intro h; cases ss0 <;> cases h) ?_
    
    rename_i p9 H9 R9
    have R1 := R9.pick (Γ' := (.ref P, .l ((ss0 ++ [s]).map Jl.streT)) :: Γ) (by walk_at "j_pick")
    clear R9
    have ep : Jl.putWordP ⟨ss0 ++ [s], ns⟩ [a, b] = (Jl.numOf b.cps.toList 0 4294967295).map fun w => ⟨Jl.onLast (ss0 ++ [s]) fun s => Jl.addWord s w, ns⟩ := if_pos ⟨rfl, by simp⟩
    walk_at "R"
    cases e : Jl.numOf b.cps.toList 0 4294967295 with
    | none =>
      rw [e] at ep
      simp only [Jl.optI_none]
      walk_at "R"
      exact k1 ep _ R1
    | some w =>
      rw [e] at ep
      simp only [Jl.optI_some]
      obtain ⟨xs, t, W, G, h1, h2, R2⟩ := R1.openLast
      walk_at "w"
      refine Jl.s_ixL (.inl (.inl h1)) (atI_last _ _) ?_
      walk_at "w"
      refine Jl.s_ixT (.inl (.inl h2)) (i := 2) rfl ?_
      have hpw := (hsz.2.2 s (by simp)).1
      clear R1
      walk_at "R"
      refine k2 _ ep _ ?_
      show Jl.Rep _ _ _ ((_, .l ((Jl.onLast (ss0 ++ [s]) fun s => Jl.addWord s w).map Jl.streT)) :: _)
      rw [Jl.onLast_app]
      refine Jl.Rep.closeLast (W := W) (G := G) (t := t) (Jl.Rep.pick (by assumption) ?_)
      rw [List.map_append]
      exact .own .head (by walk_at "j_pick")
/-! ### put_fill -/
def sp_put_fill (T : Txt K mg) : Sp := fun vs H Q E => ∃ (B : Hp) (Γ : Jl.Ents) (P : Addr) (ss : List Jl.Stre) (ns : List Jl.Nam) (v : V) (row : List Str), vs = [.ref P, v] ∧ Jl.Rep K B H ((.ref P, .l (ss.map Jl.streT)) :: Γ) ∧ Jl.Ls Γ v (row.map Jl.strT) ∧ (∀ z ∈ row, z.length ≤ 90000) ∧ (ss.length ≤ 50000 ∧ ns.length ≤ 50000 ∧ ∀ s ∈ ss, s.words.length ≤ 50000 ∧ s.fills.length ≤ 50000) ∧ (ss ≠ []) ∧ ((Jl.putFillP ⟨ss, ns⟩ row = none → ∀ H', Jl.Rep K B H' ((.ref P, .l (ss.map Jl.streT)) :: Γ) → Q (.bl false) H') ∧ (∀ st', Jl.putFillP ⟨ss, ns⟩ row = some st' → ∀ H', Jl.Rep K B H' ((.ref P, .l (st'.stres.map Jl.streT)) :: Γ) → Q (.bl true) H'))
theorem use_put_fill {T : Txt K mg} {B : Hp} {Γ : Jl.Ents} {P : Addr} {ss : List Jl.Stre} {ns : List Jl.Nam} {v : V} {row : List Str} {H : Hp} {Q : VK} {E : XK} (R : Jl.Rep K B H ((.ref P, .l (ss.map Jl.streT)) :: Γ)) (hv : Jl.Ls Γ v (row.map Jl.strT)) (hrow : ∀ z ∈ row, z.length ≤ 90000) (hsz : (ss.length ≤ 50000 ∧ ns.length ≤ 50000 ∧ ∀ s ∈ ss, s.words.length ≤ 50000 ∧ s.fills.length ≤ 50000)) (x0 : ss ≠ []) (z9 : ((Jl.putFillP ⟨ss, ns⟩ row = none → ∀ H', Jl.Rep K B H' ((.ref P, .l (ss.map Jl.streT)) :: Γ) → Q (.bl false) H') ∧ (∀ st', Jl.putFillP ⟨ss, ns⟩ row = some st' → ∀ H', Jl.Rep K B H' ((.ref P, .l (st'.stres.map Jl.streT)) :: Γ) → Q (.bl true) H'))) : sp_put_fill T [.ref P, v] H Q E := ⟨B, Γ, P, ss, ns, v, row, rfl, R, hv, hrow, hsz, x0, z9⟩
theorem ok_put_fill (T : Txt K mg) : FnOk P w K mg base (L2.CX P w) 5 T.a_put_fill T.d_put_fill ["stretches", "parts"] (sp_put_fill T) := by
  have G_Rule_leans := ok_Rule_leans (P := P) (w := w) (base := base) T
  have G_NearRule_leans := ok_NearRule_leans (P := P) (w := w) (base := base) T
  have G_SplitRule_leans := ok_SplitRule_leans (P := P) (w := w) (base := base) T
  have G_rule_of := ok_rule_of (P := P) (w := w) (base := base) T
  have G_is_name := ok_is_name (P := P) (w := w) (base := base) T
  have G_number_of := ok_number_of (P := P) (w := w) (base := base) T
  have G_is_title := ok_is_title (P := P) (w := w) (base := base) T
  refine T.F_put_fill.okX sc_put_fill (fun vs H Q E h => ?_) (fun cdv A outer s H vs Q E hr h => ?_)
  · obtain ⟨B, Γ, P, ss, ns, v, row, rfl, R, hv, hrow, hsz, x0, k1, k2⟩ := h
    rfl
  · obtain ⟨B, Γ, P, ss, ns, v, row, rfl, R, hv, hrow, hsz, x0, k1, k2⟩ := h
    have hu := hu_of hr
    refine ⟨_, (pss_cons (ps_if (PW.pt (pw_or (pt_cmpR op_ne (pe_callB (r := Jl.rLenL K) Jl.cl_lenL (by rfl) T.n_len (by decide +kernel) (pa_cons (pv 1) pa_nil)) pe_int (nomark _)) (pw_or (pt_not (pt_val (pe_call (G_is_title) (hr.mono (by decide)) rfl T.m_is_title T.F_is_title.kp T.b_is_title .nil pass0 (pa_cons (pe_ix (r := rIxL K) ix_list (pv 1) pe_int (fun _ _ => rfl)) pa_nil)))) (pw_or1 (pt_not (pt_val (pe_call (G_is_name) (hr.mono (by decide)) rfl T.m_is_name T.F_is_name.kp T.b_is_name .nil pass0 (pa_cons (pe_ix (r := rIxL K) ix_list (pv 1) pe_int (fun _ _ => rfl)) pa_nil)))))))) (pss_one (ps_ret pe_bl)) pss_nil)
      (pss_cons (ps_set (i := 2) sc_put_fill.nd rfl (Or.inl rfl) (pe_cmpR op_eq (pe_ix (r := rIxL K) ix_list (pv 1) pe_int (fun _ _ => rfl)) pe_str (nomark _)))
      (pss_cons (ps_set (i := 3) sc_put_fill.nd rfl (Or.inl rfl) (pe_call (G_number_of) (hr.mono (by decide)) rfl T.m_number_of T.F_number_of.kp T.b_number_of .nil pass0 (pa_cons (pe_ix (r := rIxL K) ix_list (pv 1) pe_int (fun _ _ => rfl)) (pa_cons (pe_un un_neg pe_int) (pa_cons pe_int pa_nil)))))
      (pss_cons (ps_if (PW.pt (pw_or (pt_cmpR Jl.op_isN1 (pv 3) pe_non (nomark _)) (pw_or1 (PW.pt (pw_and (pt_val (pv 2)) (pw_and1 (pt_not (pt_val (Jl.pe_ei (pe_meth0 (pe_callS (G_rule_of) (hr.mono (by decide)) rfl T.m_rule_of T.F_rule_of.kp T.b_rule_of (fun σ => passAt (takes_of rfl rfl rfl rfl) σ) (pa_cons (pe_ix (r := rIxL K) ix_list (pv 1) pe_int (fun _ _ => rfl)) pa_nil)) T.c_Rule T.me_Rule_leans (G_Rule_leans) (hr.mono (by decide)) T.b_Rule_leans .nil pass0) (Jl.pe_ei (pe_meth0 (pe_callS (G_rule_of) (hr.mono (by decide)) rfl T.m_rule_of T.F_rule_of.kp T.b_rule_of (fun σ => passAt (takes_of rfl rfl rfl rfl) σ) (pa_cons (pe_ix (r := rIxL K) ix_list (pv 1) pe_int (fun _ _ => rfl)) pa_nil)) T.c_HighRule T.me_HighRule_leans (G_Rule_leans) (hr.mono (by decide)) T.b_Rule_leans .nil pass0) (Jl.pe_ei (pe_meth0 (pe_callS (G_rule_of) (hr.mono (by decide)) rfl T.m_rule_of T.F_rule_of.kp T.b_rule_of (fun σ => passAt (takes_of rfl rfl rfl rfl) σ) (pa_cons (pe_ix (r := rIxL K) ix_list (pv 1) pe_int (fun _ _ => rfl)) pa_nil)) T.c_LowRule T.me_LowRule_leans (G_Rule_leans) (hr.mono (by decide)) T.b_Rule_leans .nil pass0) (Jl.pe_ei (pe_meth0 (pe_callS (G_rule_of) (hr.mono (by decide)) rfl T.m_rule_of T.F_rule_of.kp T.b_rule_of (fun σ => passAt (takes_of rfl rfl rfl rfl) σ) (pa_cons (pe_ix (r := rIxL K) ix_list (pv 1) pe_int (fun _ _ => rfl)) pa_nil)) T.c_NearRule T.me_NearRule_leans (G_NearRule_leans) (hr.mono (by decide)) T.b_NearRule_leans .nil pass0) (pe_meth0 (pe_callS (G_rule_of) (hr.mono (by decide)) rfl T.m_rule_of T.F_rule_of.kp T.b_rule_of (fun σ => passAt (takes_of rfl rfl rfl rfl) σ) (pa_cons (pe_ix (r := rIxL K) ix_list (pv 1) pe_int (fun _ _ => rfl)) pa_nil)) T.c_SplitRule T.me_SplitRule_leans (G_SplitRule_leans) (hr.mono (by decide)) T.b_SplitRule_leans .nil pass0))))))))))))) (pss_one (ps_ret pe_bl)) pss_nil)
      (pss_cons (ps_set (i := 4) sc_put_fill.nd rfl (Or.inl rfl) (pe_op op_sub (pe_callB (r := Jl.rLenL K) Jl.cl_lenL (by rfl) T.n_len (by decide +kernel) (pa_cons (pe_ix (r := rIxT K) ix_tup (pe_ix (r := rIxL K) ix_list (pv 0) (pe_un un_neg pe_int) (fun _ _ => rfl)) pe_int (fun _ _ => rfl)) pa_nil)) pe_int))
      (pss_cons (ps_expr (pe_bm PySem.F.plainAttrs_list PySem.F.slot_list_append PySem.F.type_list_append mt_append (pe_ix (r := rIxT K) ix_tup (pe_ix (r := rIxL K) ix_list (pv 0) (pe_un un_neg pe_int) (fun _ _ => rfl)) pe_int (fun _ _ => rfl)) (pa_cons (pe_tup (pa_cons (pv 4) (pa_cons (pe_ix (r := rIxL K) ix_list (pv 1) pe_int (fun _ _ => rfl)) (pa_cons (pe_ix (r := rIxL K) ix_list (pv 1) pe_int (fun _ _ => rfl)) (pa_cons (pv 3) (pa_cons (pv 2) pa_nil)))))) pa_nil)))
      (pss_one (ps_ret pe_bl)))))))), ?_⟩
    show (_ : TS) _ [some (.ref P), some (v), none, none, none] H
    walk_at "R"
    rw [List.length_map]
    by_cases h4 : row.length = 4
    rotate_left
    · refine Jl.s_iteN (fun _ => ?_) (fun g => absurd g (by omega))
      walk_at "R"
      exact k1 (if_neg fun h => h4 h.1) _ R
    obtain ⟨a, b, c, d, rfl⟩ := Jl.len4 h4
    have ha := hrow a (by simp)
    have hb := hrow b (by simp)
    have hc := hrow c (by simp)
    have hd := hrow d (by simp)
    obtain ⟨ss0, s, rfl⟩ : ∃ ss0 s, ss = ss0 ++ [s] := by
      rcases List.eq_nil_or_concat ss with rfl | ⟨ss0, s, rfl⟩
      · exact absurd rfl x0
      · exact ⟨ss0, s, List.concat_eq_append⟩
    refine Jl.s_iteNt (by simp) ?_
    walk_at "R"
    refine use_is_title fun H1 s1 => ?_
    replace R := R.same s1
    by_cases hb5 : Jl.isRule5 b
    rotate_left
    · rw [decide_eq_false hb5]
      walk_at "R"
      exact k1 (if_neg fun h => hb5 h.2.1) _ R
    rw [decide_eq_true hb5]
    walk_at "R"
    cases hnm : Jl.isNm c.cps.toList with
    | false =>
      walk_at "R"
      exact k1 (if_neg fun h => by have := h.2.2; rw [show ([a, b, c, d] : List Str).getD 2 "" = c from rfl, hnm] at this; cases this) _ R
    | true =>
    walk_at "R"
    have ep : Jl.putFillP ⟨ss0 ++ [s], ns⟩ [a, b, c, d] = match Jl.numOf d.cps.toList (-2147483648) 2147483647 with
        | none => none
        | some add => if a = "soft" ∧ ¬ Jl.isRule b then none else some ⟨Jl.onLast (ss0 ++ [s]) fun s => Jl.addFill s b c add (decide (a = "soft")), ns⟩ := if_pos ⟨rfl, hb5, hnm⟩
    cases e : Jl.numOf d.cps.toList (-2147483648) 2147483647 with
    | none =>
      rw [e] at ep
      simp only [Jl.optI_none]
      walk_at "R"
      exact k1 ep _ R
    | some add =>
    rw [e] at ep
    dsimp only at ep
    simp only [Jl.optI_some]
    have fin : ∀ H2, Jl.Rep K B H2 ((.ref P, .l ((ss0 ++ [s]).map Jl.streT)) :: Γ) → ¬ (a = "soft" ∧ ¬ Jl.isRule b) → Jl.Rep K B H2 ((.ref P, .l ((ss0 ++ [s]).map Jl.streT)) :: Γ) := fun _ R _ => R
    walk_at "R"
    by_cases hs : a = "soft"
    · refine Jl.s_iteDt hs ?_
      rcases hb5 with rfl | rfl | rfl | rfl | rfl
      · refine Jl.s_ei1 ?_
        refine Jl.s_methT ?_
        walk_at "R"
        refine use_rule (C := T.a_Rule) (.inl ⟨rfl, rfl⟩) (fun p H2 s2 np hR => ?_)
        obtain ⟨dx, hp⟩ := hR
        refine ⟨p, dx, _, rfl, hp, (by rw [lookup_putF, if_neg (by decide +kernel)]; rfl), ?_⟩
        replace R := R.same s2
        walk_at "R"
        rw [if_neg (fun h => h.2 (Or.inl rfl))] at ep
        obtain ⟨xs, t, W, G, h1, h2, R3⟩ := R.openLast
        have hpf := (hsz.2.2 s (by simp)).2
        clear R
        refine Jl.s_ixL (.inl (.inl h1)) (atI_last _ _) ?_
        walk_at "w"
        refine Jl.s_ixT (.inl (.inl h2)) (i := 2) rfl ?_
        walk_at "R"
        rw [List.length_map]
        refine Jl.s_ixL (.inl (.inl h1)) (atI_last _ _) ?_
        walk_at "w"
        refine Jl.s_ixT (.inl (.inl h2)) (i := 3) rfl ?_
        walk_at "R"
        refine k2 _ ep _ ?_
        rw [Jl.onLast_app]
        refine Jl.Rep.closeLast (W := W) (G := G) (t := t) (Jl.Rep.pick (by assumption) ?_)
        rw [List.map_append]
        exact .own (.tail (.tail .head)) (.own .head (by walk_at "j_pick"))
      · refine Jl.s_ei2 (Jl.s_ei1 ?_)
        refine Jl.s_methT ?_
        walk_at "R"
        refine use_rule (C := T.a_HighRule) (.inr (.inl ⟨rfl, rfl⟩)) (fun p H2 s2 np hR => ?_)
        obtain ⟨dx, hp⟩ := hR
        refine ⟨p, dx, _, rfl, hp, (by rw [lookup_putF, if_neg (by decide +kernel)]; rfl), ?_⟩
        replace R := R.same s2
        walk_at "R"
        rw [if_neg (fun h => h.2 (Or.inr (.inl rfl)))] at ep
        obtain ⟨xs, t, W, G, h1, h2, R3⟩ := R.openLast
        have hpf := (hsz.2.2 s (by simp)).2
        clear R
        refine Jl.s_ixL (.inl (.inl h1)) (atI_last _ _) ?_
        walk_at "w"
        refine Jl.s_ixT (.inl (.inl h2)) (i := 2) rfl ?_
        walk_at "R"
        rw [List.length_map]
        refine Jl.s_ixL (.inl (.inl h1)) (atI_last _ _) ?_
        walk_at "w"
        refine Jl.s_ixT (.inl (.inl h2)) (i := 3) rfl ?_
        walk_at "R"
        refine k2 _ ep _ ?_
        rw [Jl.onLast_app]
        refine Jl.Rep.closeLast (W := W) (G := G) (t := t) (Jl.Rep.pick (by assumption) ?_)
        rw [List.map_append]
        exact .own (.tail (.tail .head)) (.own .head (by walk_at "j_pick"))
      · refine Jl.s_ei2 (Jl.s_ei2 (Jl.s_ei1 ?_))
        refine Jl.s_methT ?_
        walk_at "R"
        refine use_rule (C := T.a_LowRule) (.inr (.inr (.inl ⟨rfl, rfl⟩))) (fun p H2 s2 np hR => ?_)
        obtain ⟨dx, hp⟩ := hR
        refine ⟨p, dx, _, rfl, hp, (by rw [lookup_putF, if_neg (by decide +kernel)]; rfl), ?_⟩
        replace R := R.same s2
        walk_at "R"
        rw [if_neg (fun h => h.2 (Or.inr (.inr rfl)))] at ep
        obtain ⟨xs, t, W, G, h1, h2, R3⟩ := R.openLast
        have hpf := (hsz.2.2 s (by simp)).2
        clear R
        refine Jl.s_ixL (.inl (.inl h1)) (atI_last _ _) ?_
        walk_at "w"
        refine Jl.s_ixT (.inl (.inl h2)) (i := 2) rfl ?_
        walk_at "R"
        rw [List.length_map]
        refine Jl.s_ixL (.inl (.inl h1)) (atI_last _ _) ?_
        walk_at "w"
        refine Jl.s_ixT (.inl (.inl h2)) (i := 3) rfl ?_
        walk_at "R"
        refine k2 _ ep _ ?_
        rw [Jl.onLast_app]
        refine Jl.Rep.closeLast (W := W) (G := G) (t := t) (Jl.Rep.pick (by assumption) ?_)
        rw [List.map_append]
        exact .own (.tail (.tail .head)) (.own .head (by walk_at "j_pick"))
      · refine Jl.s_ei2 (Jl.s_ei2 (Jl.s_ei2 (Jl.s_ei1 ?_)))
        refine Jl.s_methT ?_
        walk_at "R"
        refine use_rule (C := T.a_NearRule) (.inr (.inr (.inr (.inl ⟨rfl, rfl⟩)))) (fun p H2 s2 np hR => ?_)
        obtain ⟨dx, hp⟩ := hR
        refine ⟨p, dx, _, rfl, hp, (by rw [lookup_putF, if_neg (by decide +kernel)]; rfl), ?_⟩
        replace R := R.same s2
        walk_at "R"
        rw [if_pos ⟨hs, by unfold Jl.isRule; decide +kernel⟩] at ep
        exact k1 ep _ R
      · refine Jl.s_ei2 (Jl.s_ei2 (Jl.s_ei2 (Jl.s_ei2 ?_)))
        refine Jl.s_methT ?_
        walk_at "R"
        refine use_rule (C := T.a_SplitRule) (.inr (.inr (.inr (.inr (⟨rfl, rfl⟩))))) (fun p H2 s2 np hR => ?_)
        obtain ⟨dx, hp⟩ := hR
        refine ⟨p, dx, _, rfl, hp, (by rw [lookup_putF, if_neg (by decide +kernel)]; rfl), ?_⟩
        replace R := R.same s2
        walk_at "R"
        rw [if_pos ⟨hs, by unfold Jl.isRule; decide +kernel⟩] at ep
        exact k1 ep _ R
    
    · refine Jl.s_iteDf hs ?_
      rw [if_neg (fun h => hs h.1)] at ep
      walk_at "R"
      obtain ⟨xs, t, W, G, h1, h2, R3⟩ := R.openLast
      have hpf := (hsz.2.2 s (by simp)).2
      clear R
      refine Jl.s_ixL (.inl (.inl h1)) (atI_last _ _) ?_
      walk_at "w"
      refine Jl.s_ixT (.inl (.inl h2)) (i := 2) rfl ?_
      walk_at "R"
      rw [List.length_map]
      refine Jl.s_ixL (.inl (.inl h1)) (atI_last _ _) ?_
      walk_at "w"
      refine Jl.s_ixT (.inl (.inl h2)) (i := 3) rfl ?_
      walk_at "R"
      refine k2 _ ep _ ?_
      rw [Jl.onLast_app]
      refine Jl.Rep.closeLast (W := W) (G := G) (t := t) (Jl.Rep.pick (by assumption) ?_)
      rw [List.map_append]
      exact .own (.tail (.tail .head)) (.own .head (by walk_at "j_pick"))
/-! ### put_name -/
def sp_put_name (K : PySem.W.Frag) : Sp := fun vs H Q _ => ∃ (B : Hp) (Γ : Jl.Ents) (P N : Addr) (ss : List Jl.Stre) (ns : List Jl.Nam) (v : V) (row : List Str), vs = [.ref P, .ref N, v] ∧ Jl.Rep K B H ((.ref P, .l (ss.map Jl.streT)) :: (.ref N, .l (ns.map Jl.namT)) :: Γ) ∧ Jl.Ls Γ v (row.map Jl.strT) ∧ (∀ z ∈ row, z.length ≤ 90000) ∧ (ss.length ≤ 50000 ∧ ns.length ≤ 50000 ∧ ∀ s ∈ ss, s.words.length ≤ 50000 ∧ s.fills.length ≤ 50000) ∧ (∀ s ∈ ss, s.ok) ∧ ((Jl.putNameP ⟨ss, ns⟩ row = none → ∀ H', Jl.Rep K B H' Γ → Q (.bl false) H') ∧ (∀ st', Jl.putNameP ⟨ss, ns⟩ row = some st' → ∀ H', Jl.Rep K B H' ((.ref P, .l (st'.stres.map Jl.streT)) :: (.ref N, .l (st'.names.map Jl.namT)) :: Γ) → Q (.bl true) H'))
theorem use_put_name {K : PySem.W.Frag} {B : Hp} {Γ : Jl.Ents} {P N : Addr} {ss : List Jl.Stre} {ns : List Jl.Nam} {v : V} {row : List Str} {H : Hp} {Q : VK} {E : XK} (R : Jl.Rep K B H ((.ref P, .l (ss.map Jl.streT)) :: (.ref N, .l (ns.map Jl.namT)) :: Γ)) (hv : Jl.Ls Γ v (row.map Jl.strT)) (hrow : ∀ z ∈ row, z.length ≤ 90000) (hsz : (ss.length ≤ 50000 ∧ ns.length ≤ 50000 ∧ ∀ s ∈ ss, s.words.length ≤ 50000 ∧ s.fills.length ≤ 50000)) (x0 : (∀ s ∈ ss, s.ok)) (z9 : ((Jl.putNameP ⟨ss, ns⟩ row = none → ∀ H', Jl.Rep K B H' Γ → Q (.bl false) H') ∧ (∀ st', Jl.putNameP ⟨ss, ns⟩ row = some st' → ∀ H', Jl.Rep K B H' ((.ref P, .l (st'.stres.map Jl.streT)) :: (.ref N, .l (st'.names.map Jl.namT)) :: Γ) → Q (.bl true) H'))) : sp_put_name K [.ref P, .ref N, v] H Q E := ⟨B, Γ, P, N, ss, ns, v, row, rfl, R, hv, hrow, hsz, x0, z9⟩
theorem ok_put_name (T : Txt K mg) : FnOk P w K mg base CX0 2 T.a_put_name T.d_put_name ["stretches", "names", "parts"] (sp_put_name K) := by
  have G_is_name := ok_is_name (P := P) (w := w) (base := base) T
  refine T.F_put_name.ok sc_put_name (fun vs H Q E h => ?_) (fun cdv A outer s H vs Q E hr h => ?_)
  · obtain ⟨B, Γ, P, N, ss, ns, v, row, rfl, R, hv, hrow, hsz, x0, k1, k2⟩ := h
    rfl
  · obtain ⟨B, Γ, P, N, ss, ns, v, row, rfl, R, hv, hrow, hsz, x0, k1, k2⟩ := h
    have hu := hu_of hr
    refine ⟨_, (pss_cons (ps_if (PW.pt (pw_or (pt_cmpR op_ne (pe_callB (r := Jl.rLenL K) Jl.cl_lenL (by rfl) T.n_len (by decide +kernel) (pa_cons (pv 2) pa_nil)) pe_int (nomark _)) (pw_or (pt_cmpR (op_eqD hr.units) (pv 0) (Jl.pe_lstO (pe_lst pa_nil)) (nomark _)) (pw_or1 (pt_not (pt_val (pe_call (G_is_name) (hr.mono (by decide)) rfl T.m_is_name T.F_is_name.kp T.b_is_name .nil pass0 (pa_cons (pe_ix (r := rIxL K) ix_list (pv 2) pe_int (fun _ _ => rfl)) pa_nil)))))))) (pss_one (ps_ret pe_bl)) pss_nil)
      (pss_cons (ps_if (pt_cmpR op_in_seq (pe_ix (r := rIxL K) ix_list (pv 2) pe_int (fun _ _ => rfl)) (pe_lc (own := [("row", 3)]) (g := gName 3) (tt := tYes) rfl sc_put_name.nd (pi_list (pv 1)) (blkOk_by (own := [("row", 3)]) (N := N_put_name) (sc := defScope s_put_name) (by decide +kernel)) (fun _ _ _ _ _ => pg_name (i := 3) sc_put_name.nd rfl (Or.inl rfl)) (fun _ _ _ _ _ => pts_nil) (fun _ _ _ _ _ => (pe_ix (r := rIxT K) ix_tup (pv 3) pe_int (fun _ _ => rfl)))) rfl) (pss_one (ps_ret pe_bl)) pss_nil)
      (pss_cons (ps_expr (pe_bm PySem.F.plainAttrs_list PySem.F.slot_list_append PySem.F.type_list_append mt_append (pv 1) (pa_cons (pe_tup (pa_cons (pe_ix (r := rIxL K) ix_list (pv 2) pe_int (fun _ _ => rfl)) (pa_cons (pe_ix (r := rIxL K) ix_list (pv 2) pe_int (fun _ _ => rfl)) (pa_cons (pe_op op_sub (pe_callB (r := Jl.rLenL K) Jl.cl_lenL (by rfl) T.n_len (by decide +kernel) (pa_cons (pv 0) pa_nil)) pe_int) (pa_cons (pe_callB (r := Jl.rLenL K) Jl.cl_lenL (by rfl) T.n_len (by decide +kernel) (pa_cons (pe_ix (r := rIxT K) ix_tup (pe_ix (r := rIxL K) ix_list (pv 0) (pe_un un_neg pe_int) (fun _ _ => rfl)) pe_int (fun _ _ => rfl)) pa_nil)) pa_nil))))) pa_nil)))
      (pss_one (ps_ret pe_bl))))), ?_⟩
    show (_ : TS) _ [some (.ref P), some (.ref N), some (v), none] H
    walk_at "R"
    rw [List.length_map]
    by_cases h2 : row.length = 2
    rotate_left
    · refine Jl.s_iteN (fun _ => ?_) (fun g => absurd g (by omega))
      walk_at "R"
      exact k1 (if_neg fun h => h2 h.1.1) _ (R.pick (by walk_at "j_pick"))
    obtain ⟨a, b, rfl⟩ := Jl.len2 h2
    have ha := hrow a (by simp)
    have hb := hrow b (by simp)
    refine Jl.s_iteNt (by simp) ?_
    
    walk_at "R"
    
    refine Jl.s_eqNilR (by assumption) (t := .l (ss.map Jl.streT)) (by walk_at "j_mem") (Jl.stres_d ss) (Jl.stres_shaped x0) (by walk_at "j_ls") ?_
    walk_at "R"
    rcases List.eq_nil_or_concat ss with rfl | ⟨ss0, s, rfl⟩
    · refine Jl.s_iteDt rfl ?_
      walk_at "R"
      exact k1 (if_neg fun h => h.1.2.1 rfl) _ (Jl.Rep.pick (by assumption) (by walk_at "j_pick"))
    rw [List.concat_eq_append] at *
    refine Jl.s_iteDf (by intro h; cases ss0 <;> cases h) ?_
    
    rename_i p9 H9 R9
    have R1 := R9.pick (Γ' := (.ref P, .l ((ss0 ++ [s]).map Jl.streT)) :: (.ref N, .l (ns.map Jl.namT)) :: Γ) (by walk_at "j_pick")
    clear R9 R
    walk_at "R"
    cases hnm : Jl.isNm b.cps.toList with
    | false =>
      walk_at "R"
      exact k1 (if_neg fun h => by have := h.1.2.2; rw [show ([a, b] : List Str).getD 1 "" = b from rfl, hnm] at this; cases this) _ (R1.pick (by walk_at "j_pick"))
    | true =>
    walk_at "R"
    refine Jl.lcL_T (l := ns) (e := Jl.namT) (fun n => some (Jl.strT n.name)) (by assumption) (.o (Jl.pers_map Jl.namT_per) (by walk_at "j_mem")) (by have := hsz.2.1; omega) (fun i y H' D t0 hi R' Ry Rn hy hn => ?_) (fun D H2 R2 => ?_)
    · refine .any fun w R9 => ?_
      walk_at "w"
      refine ⟨rfl, ?_⟩
      walk_at "R"
      exact hy _ _ _ rfl (Jl.Rep.pick (by assumption) (by walk_at "j_pick"))
    rw [Jl.filterMap_some, show (ns.map fun n => Jl.strT n.name) = (ns.map (·.name)).map Jl.strT by rw [List.map_map]; rfl] at R2
    walk_at "R"
    refine Jl.s_inR (ns.map (·.name)) R2 (.o (Jl.pers_map Jl.strT_per) (by walk_at "j_mem")) ?_
    walk_at "R"
    by_cases hin : b ∈ ns.map (·.name)
    · refine Jl.s_iteDt hin ?_
      walk_at "R"
      exact k1 (if_neg fun h => h.2 hin) _ (R2.pick (by walk_at "j_pick"))
    refine Jl.s_iteDf hin ?_
    have ep : Jl.putNameP ⟨ss0 ++ [s], ns⟩ [a, b] = some ⟨ss0 ++ [s], ns ++ [⟨b, a, ((ss0 ++ [s]).length : Int) - 1, (Jl.lastWords (ss0 ++ [s]) : Nat)⟩]⟩ := if_pos ⟨⟨rfl, by simp, hnm⟩, hin⟩
    have R3 := R2.pick (Γ' := (.ref P, .l ((ss0 ++ [s]).map Jl.streT)) :: (.ref N, .l (ns.map Jl.namT)) :: Γ) (by walk_at "j_pick")
    clear R2 R1
    obtain ⟨xs, t, W, G, h1, h2, R4⟩ := R3.openLast
    have hnn := hsz.2.1
    walk_at "R"
    have hxl : xs.length = ss0.length := by
      obtain ⟨vs, e1, e2⟩ := R3.vals
      rw [h1] at e1
      cases e1
      rw [List.length_append, List.length_map, List.length_append] at e2
      exact Nat.succ.inj e2
    clear R3
    refine Jl.s_ixL (.inl (.inl h1)) (atI_last _ _) ?_
    walk_at "w"
    refine Jl.s_ixT (.inl (.inl h2)) (i := 2) rfl ?_
    walk_at "R"
    rename_i H9 R9
    simp only [List.length_map, List.length_append, List.length_singleton, List.length_cons, List.length_nil] at R9
    refine k2 _ ep _ ?_
    simp only [List.length_append, List.length_singleton, List.length_cons, List.length_nil, Jl.lastWords_app]
    have R5 := Jl.Rep.closeLast (ss := ss0) (c := s.kind) (st := s.step) (ws := s.words) (fs := s.fills) (W := W) (G := G) (t := t) (P := P) (Γ := (.ref N, .l (ns.map Jl.namT ++ [Jl.namT ⟨b, a, ((ss0.length + 1 : Nat) : Int) - 1, (s.words.length : Nat)⟩])) :: Γ) (R9.pick (.own (.tail (.tail .head)) (.own (.tail (.tail .head)) (.own (.tail (.tail .head)) (.own (.tail (.tail .head)) (.own .head (by walk_at "j_pick")))))))
    have R6 : Jl.Rep K B H9 ((.ref P, .l ((ss0 ++ [s]).map Jl.streT)) :: (.ref N, .l ((ns ++ [Jl.Nam.mk b a (((ss0.length + 1 : Nat) : Int) - 1) ((s.words.length : Nat) : Int)]).map Jl.namT)) :: Γ) := by
      rw [List.map_append (l₁ := ns)]
      exact R5
    exact R6
/-! ### put_row -/
def sp_put_row (T : Txt K mg) : Sp := fun vs H Q E => ∃ (B : Hp) (Γ : Jl.Ents) (P N : Addr) (ss : List Jl.Stre) (ns : List Jl.Nam) (v : V) (row prev : List Str) (lw : Str), vs = [.ref P, .ref N, v, .str lw] ∧ Jl.Rep K B H ((.ref P, .l (ss.map Jl.streT)) :: (.ref N, .l (ns.map Jl.namT)) :: Γ) ∧ Jl.Ls Γ v (row.map Jl.strT) ∧ (∀ z ∈ row, z.length ≤ 90000) ∧ (ss.length ≤ 50000 ∧ ns.length ≤ 50000 ∧ ∀ s ∈ ss, s.words.length ≤ 50000 ∧ s.fills.length ≤ 50000) ∧ (∀ s ∈ ss, s.ok) ∧ lw = prev.getD 0 "" ∧ (lw = "word" → ss ≠ []) ∧ row ≠ [] ∧ ((Jl.putRowP ⟨ss, ns⟩ row prev = none → ∀ H', Jl.Rep K B H' Γ → Q (.bl false) H') ∧ (∀ st', Jl.putRowP ⟨ss, ns⟩ row prev = some st' → ∀ H', Jl.Rep K B H' ((.ref P, .l (st'.stres.map Jl.streT)) :: (.ref N, .l (st'.names.map Jl.namT)) :: Γ) → Q (.bl true) H'))
theorem use_put_row {T : Txt K mg} {B : Hp} {Γ : Jl.Ents} {P N : Addr} {ss : List Jl.Stre} {ns : List Jl.Nam} {v : V} {row prev : List Str} {lw : Str} {H : Hp} {Q : VK} {E : XK} (R : Jl.Rep K B H ((.ref P, .l (ss.map Jl.streT)) :: (.ref N, .l (ns.map Jl.namT)) :: Γ)) (hv : Jl.Ls Γ v (row.map Jl.strT)) (hrow : ∀ z ∈ row, z.length ≤ 90000) (hsz : (ss.length ≤ 50000 ∧ ns.length ≤ 50000 ∧ ∀ s ∈ ss, s.words.length ≤ 50000 ∧ s.fills.length ≤ 50000)) (x0 : (∀ s ∈ ss, s.ok)) (h1 : lw = prev.getD 0 "") (h2 : lw = "word" → ss ≠ []) (h3 : row ≠ []) (z9 : ((Jl.putRowP ⟨ss, ns⟩ row prev = none → ∀ H', Jl.Rep K B H' Γ → Q (.bl false) H') ∧ (∀ st', Jl.putRowP ⟨ss, ns⟩ row prev = some st' → ∀ H', Jl.Rep K B H' ((.ref P, .l (st'.stres.map Jl.streT)) :: (.ref N, .l (st'.names.map Jl.namT)) :: Γ) → Q (.bl true) H'))) : sp_put_row T [.ref P, .ref N, v, .str lw] H Q E := ⟨B, Γ, P, N, ss, ns, v, row, prev, lw, rfl, R, hv, hrow, hsz, x0, h1, h2, h3, z9⟩
theorem ok_put_row (T : Txt K mg) : FnOk P w K mg base (L2.CX P w) 6 T.a_put_row T.d_put_row ["stretches", "names", "parts", "last"] (sp_put_row T) := by
  have G_put_stretch := ok_put_stretch (P := P) (w := w) (base := base) T
  have G_put_word := ok_put_word (P := P) (w := w) (base := base) T
  have G_put_fill := ok_put_fill (P := P) (w := w) (base := base) T
  have G_put_name := ok_put_name (P := P) (w := w) (base := base) T
  refine T.F_put_row.okX sc_put_row (fun vs H Q E h => ?_) (fun cdv A outer s H vs Q E hr h => ?_)
  · obtain ⟨B, Γ, P, N, ss, ns, v, row, prev, lw, rfl, R, hv, hrow, hsz, x0, hlw9, hwd, hne, k1, k2⟩ := h
    rfl
  · obtain ⟨B, Γ, P, N, ss, ns, v, row, prev, lw, rfl, R, hv, hrow, hsz, x0, hlw9, hwd, hne, k1, k2⟩ := h
    have hu := hu_of hr
    refine ⟨_, (pss_cons (ps_if (PW.pt (pw_or (pt_cmpR op_eq (pe_ix (r := rIxL K) ix_list (pv 2) pe_int (fun _ _ => rfl)) pe_str (nomark _)) (pw_or1 (pt_cmpR op_eq (pe_ix (r := rIxL K) ix_list (pv 2) pe_int (fun _ _ => rfl)) pe_str (nomark _))))) (pss_one (ps_ret (pe_call (G_put_stretch) (hr.mono (by decide)) rfl T.m_put_stretch T.F_put_stretch.kp T.b_put_stretch .nil pass0 (pa_cons (pv 0) (pa_cons (pv 2) pa_nil))))) pss_nil)
      (pss_cons (ps_if (pt_cmpR op_eq (pe_ix (r := rIxL K) ix_list (pv 2) pe_int (fun _ _ => rfl)) pe_str (nomark _)) (pss_one (ps_ret (pe_call (G_put_word) (hr.mono (by decide)) rfl T.m_put_word T.F_put_word.kp T.b_put_word .nil pass0 (pa_cons (pv 0) (pa_cons (pv 2) pa_nil))))) pss_nil)
      (pss_cons (ps_if (PW.pt (pw_or (pt_cmpR op_eq (pe_ix (r := rIxL K) ix_list (pv 2) pe_int (fun _ _ => rfl)) pe_str (nomark _)) (pw_or1 (pt_cmpR op_eq (pe_ix (r := rIxL K) ix_list (pv 2) pe_int (fun _ _ => rfl)) pe_str (nomark _))))) (pss_one (ps_ret (pe_and (pe_cmpR op_eq (pv 3) pe_str (nomark _)) (pe_one (pe_callS (G_put_fill) (hr.mono (by decide)) rfl T.m_put_fill T.F_put_fill.kp T.b_put_fill (fun σ => passAt (takes_of rfl rfl rfl rfl) σ) (pa_cons (pv 0) (pa_cons (pv 2) pa_nil))))))) pss_nil)
      (pss_cons (ps_if (PW.pt (pw_or (pt_cmpR op_eq (pe_ix (r := rIxL K) ix_list (pv 2) pe_int (fun _ _ => rfl)) pe_str (nomark _)) (pw_or (pt_cmpR op_eq (pe_ix (r := rIxL K) ix_list (pv 2) pe_int (fun _ _ => rfl)) pe_str (nomark _)) (pw_or1 (pt_cmpR op_eq (pe_ix (r := rIxL K) ix_list (pv 2) pe_int (fun _ _ => rfl)) pe_str (nomark _)))))) (pss_one (ps_ret (pe_call (G_put_name) (hr.mono (by decide)) rfl T.m_put_name T.F_put_name.kp T.b_put_name .nil pass0 (pa_cons (pv 0) (pa_cons (pv 1) (pa_cons (pv 2) pa_nil)))))) pss_nil)
      (pss_one (ps_ret pe_bl)))))), ?_⟩
    show (_ : TS) _ [some (.ref P), some (.ref N), some (v), some (.str lw)] H
    obtain ⟨c, rest, rfl⟩ : ∃ c rest, row = c :: rest := by
      cases row with
      | nil => exact absurd rfl hne
      | cons c rest => exact ⟨c, rest, rfl⟩
    have RP := R
    by_cases c1 : c = "code"
    · skip
      walk_at "Rd"
      refine Jl.s_ixM (l := c :: rest) (k := 0) (y := c) RP (by walk_at "j_ls") rfl rfl ?_
      refine .sc rfl (.str _) fun _ => ?_
      walk_at "Rd"
      refine use_put_stretch (ss := ss) (ns := ns) (Γ := (.ref N, .l (ns.map Jl.namT)) :: Γ) (row := c :: rest) RP (Jl.Ls.per hv (fun e he => List.mem_cons_of_mem _ he)) hrow hsz ⟨fun ep H4 R4 => ?_, fun st' ep H4 R4 => ?_⟩
      · exact k1 (by rw [Jl.prp_stre (.inl c1)]; exact ep) _ (R4.pick (by walk_at "j_pick"))
      · have hn : st'.names = ns := congrArg Jl.PS.names (Jl.putStre_names ep)
        refine k2 st' (by rw [Jl.prp_stre (.inl c1)]; exact ep) _ ?_
        rw [hn]
        exact R4
    by_cases c2 : c = "data"
    · skip
      walk_at "Rd"
      refine Jl.s_ixM (l := c :: rest) (k := 0) (y := c) RP (by walk_at "j_ls") rfl rfl ?_
      refine .sc rfl (.str _) fun _ => ?_
      walk_at "Rd"
      walk_at "Rd"
      refine Jl.s_ixM (l := c :: rest) (k := 0) (y := c) RP (by walk_at "j_ls") rfl rfl ?_
      refine .sc rfl (.str _) fun _ => ?_
      walk_at "Rd"
      refine use_put_stretch (ss := ss) (ns := ns) (Γ := (.ref N, .l (ns.map Jl.namT)) :: Γ) (row := c :: rest) RP (Jl.Ls.per hv (fun e he => List.mem_cons_of_mem _ he)) hrow hsz ⟨fun ep H4 R4 => ?_, fun st' ep H4 R4 => ?_⟩
      · exact k1 (by rw [Jl.prp_stre (.inr c2)]; exact ep) _ (R4.pick (by walk_at "j_pick"))
      · have hn : st'.names = ns := congrArg Jl.PS.names (Jl.putStre_names ep)
        refine k2 st' (by rw [Jl.prp_stre (.inr c2)]; exact ep) _ ?_
        rw [hn]
        exact R4
    by_cases c3 : c = "word"
    · skip
      walk_at "Rd"
      refine Jl.s_ixM (l := c :: rest) (k := 0) (y := c) RP (by walk_at "j_ls") rfl rfl ?_
      refine .sc rfl (.str _) fun _ => ?_
      walk_at "Rd"
      walk_at "Rd"
      refine Jl.s_ixM (l := c :: rest) (k := 0) (y := c) RP (by walk_at "j_ls") rfl rfl ?_
      refine .sc rfl (.str _) fun _ => ?_
      walk_at "Rd"
      walk_at "Rd"
      refine Jl.s_ixM (l := c :: rest) (k := 0) (y := c) RP (by walk_at "j_ls") rfl rfl ?_
      refine .sc rfl (.str _) fun _ => ?_
      walk_at "Rd"
      refine use_put_word (ss := ss) (ns := ns) (Γ := (.ref N, .l (ns.map Jl.namT)) :: Γ) (row := c :: rest) RP (Jl.Ls.per hv (fun e he => List.mem_cons_of_mem _ he)) hrow hsz x0 ⟨fun ep H4 R4 => ?_, fun st' ep H4 R4 => ?_⟩
      · exact k1 (by rw [Jl.prp_word2 c3]; exact ep) _ (R4.pick (by walk_at "j_pick"))
      · have hn : st'.names = ns := congrArg Jl.PS.names (Jl.putWordP_names ep)
        refine k2 st' (by rw [Jl.prp_word2 c3]; exact ep) _ ?_
        rw [hn]
        exact R4
    by_cases c4 : c = "fill"
    · by_cases hlw : lw = "word"
      rotate_left
      · skip
        walk_at "Rd"
        refine Jl.s_ixM (l := c :: rest) (k := 0) (y := c) RP (by walk_at "j_ls") rfl rfl ?_
        refine .sc rfl (.str _) fun _ => ?_
        walk_at "Rd"
        walk_at "Rd"
        refine Jl.s_ixM (l := c :: rest) (k := 0) (y := c) RP (by walk_at "j_ls") rfl rfl ?_
        refine .sc rfl (.str _) fun _ => ?_
        walk_at "Rd"
        walk_at "Rd"
        refine Jl.s_ixM (l := c :: rest) (k := 0) (y := c) RP (by walk_at "j_ls") rfl rfl ?_
        refine .sc rfl (.str _) fun _ => ?_
        walk_at "Rd"
        walk_at "Rd"
        refine Jl.s_ixM (l := c :: rest) (k := 0) (y := c) RP (by walk_at "j_ls") rfl rfl ?_
        refine .sc rfl (.str _) fun _ => ?_
        walk_at "Rd"
        refine k1 (Jl.prp_fill_no (.inl c4) (hlw9 ▸ hlw)) _ (R.pick (by walk_at "j_pick"))
      walk_at "Rd"
      refine Jl.s_ixM (l := c :: rest) (k := 0) (y := c) RP (by walk_at "j_ls") rfl rfl ?_
      refine .sc rfl (.str _) fun _ => ?_
      walk_at "Rd"
      walk_at "Rd"
      refine Jl.s_ixM (l := c :: rest) (k := 0) (y := c) RP (by walk_at "j_ls") rfl rfl ?_
      refine .sc rfl (.str _) fun _ => ?_
      walk_at "Rd"
      walk_at "Rd"
      refine Jl.s_ixM (l := c :: rest) (k := 0) (y := c) RP (by walk_at "j_ls") rfl rfl ?_
      refine .sc rfl (.str _) fun _ => ?_
      walk_at "Rd"
      walk_at "Rd"
      refine Jl.s_ixM (l := c :: rest) (k := 0) (y := c) RP (by walk_at "j_ls") rfl rfl ?_
      refine .sc rfl (.str _) fun _ => ?_
      walk_at "Rd"
      refine use_put_fill (ss := ss) (ns := ns) (Γ := (.ref N, .l (ns.map Jl.namT)) :: Γ) (row := c :: rest) RP (Jl.Ls.per hv (fun e he => List.mem_cons_of_mem _ he)) hrow hsz (hwd hlw) ⟨fun ep H4 R4 => ?_, fun st' ep H4 R4 => ?_⟩
      · exact k1 (by rw [Jl.prp_fill2 (.inl c4) (hlw9 ▸ hlw)]; exact ep) _ (R4.pick (by walk_at "j_pick"))
      · have hn : st'.names = ns := congrArg Jl.PS.names (Jl.putFillP_names ep)
        refine k2 st' (by rw [Jl.prp_fill2 (.inl c4) (hlw9 ▸ hlw)]; exact ep) _ ?_
        rw [hn]
        exact R4
    by_cases c5 : c = "soft"
    · by_cases hlw : lw = "word"
      rotate_left
      · skip
        walk_at "Rd"
        refine Jl.s_ixM (l := c :: rest) (k := 0) (y := c) RP (by walk_at "j_ls") rfl rfl ?_
        refine .sc rfl (.str _) fun _ => ?_
        walk_at "Rd"
        walk_at "Rd"
        refine Jl.s_ixM (l := c :: rest) (k := 0) (y := c) RP (by walk_at "j_ls") rfl rfl ?_
        refine .sc rfl (.str _) fun _ => ?_
        walk_at "Rd"
        walk_at "Rd"
        refine Jl.s_ixM (l := c :: rest) (k := 0) (y := c) RP (by walk_at "j_ls") rfl rfl ?_
        refine .sc rfl (.str _) fun _ => ?_
        walk_at "Rd"
        walk_at "Rd"
        refine Jl.s_ixM (l := c :: rest) (k := 0) (y := c) RP (by walk_at "j_ls") rfl rfl ?_
        refine .sc rfl (.str _) fun _ => ?_
        walk_at "Rd"
        walk_at "Rd"
        refine Jl.s_ixM (l := c :: rest) (k := 0) (y := c) RP (by walk_at "j_ls") rfl rfl ?_
        refine .sc rfl (.str _) fun _ => ?_
        walk_at "Rd"
        refine k1 (Jl.prp_fill_no (.inr c5) (hlw9 ▸ hlw)) _ (R.pick (by walk_at "j_pick"))
      walk_at "Rd"
      refine Jl.s_ixM (l := c :: rest) (k := 0) (y := c) RP (by walk_at "j_ls") rfl rfl ?_
      refine .sc rfl (.str _) fun _ => ?_
      walk_at "Rd"
      walk_at "Rd"
      refine Jl.s_ixM (l := c :: rest) (k := 0) (y := c) RP (by walk_at "j_ls") rfl rfl ?_
      refine .sc rfl (.str _) fun _ => ?_
      walk_at "Rd"
      walk_at "Rd"
      refine Jl.s_ixM (l := c :: rest) (k := 0) (y := c) RP (by walk_at "j_ls") rfl rfl ?_
      refine .sc rfl (.str _) fun _ => ?_
      walk_at "Rd"
      walk_at "Rd"
      refine Jl.s_ixM (l := c :: rest) (k := 0) (y := c) RP (by walk_at "j_ls") rfl rfl ?_
      refine .sc rfl (.str _) fun _ => ?_
      walk_at "Rd"
      walk_at "Rd"
      refine Jl.s_ixM (l := c :: rest) (k := 0) (y := c) RP (by walk_at "j_ls") rfl rfl ?_
      refine .sc rfl (.str _) fun _ => ?_
      walk_at "Rd"
      refine use_put_fill (ss := ss) (ns := ns) (Γ := (.ref N, .l (ns.map Jl.namT)) :: Γ) (row := c :: rest) RP (Jl.Ls.per hv (fun e he => List.mem_cons_of_mem _ he)) hrow hsz (hwd hlw) ⟨fun ep H4 R4 => ?_, fun st' ep H4 R4 => ?_⟩
      · exact k1 (by rw [Jl.prp_fill2 (.inr c5) (hlw9 ▸ hlw)]; exact ep) _ (R4.pick (by walk_at "j_pick"))
      · have hn : st'.names = ns := congrArg Jl.PS.names (Jl.putFillP_names ep)
        refine k2 st' (by rw [Jl.prp_fill2 (.inr c5) (hlw9 ▸ hlw)]; exact ep) _ ?_
        rw [hn]
        exact R4
    by_cases c6 : c = "tell"
    · skip
      walk_at "Rd"
      refine Jl.s_ixM (l := c :: rest) (k := 0) (y := c) RP (by walk_at "j_ls") rfl rfl ?_
      refine .sc rfl (.str _) fun _ => ?_
      walk_at "Rd"
      walk_at "Rd"
      refine Jl.s_ixM (l := c :: rest) (k := 0) (y := c) RP (by walk_at "j_ls") rfl rfl ?_
      refine .sc rfl (.str _) fun _ => ?_
      walk_at "Rd"
      walk_at "Rd"
      refine Jl.s_ixM (l := c :: rest) (k := 0) (y := c) RP (by walk_at "j_ls") rfl rfl ?_
      refine .sc rfl (.str _) fun _ => ?_
      walk_at "Rd"
      walk_at "Rd"
      refine Jl.s_ixM (l := c :: rest) (k := 0) (y := c) RP (by walk_at "j_ls") rfl rfl ?_
      refine .sc rfl (.str _) fun _ => ?_
      walk_at "Rd"
      walk_at "Rd"
      refine Jl.s_ixM (l := c :: rest) (k := 0) (y := c) RP (by walk_at "j_ls") rfl rfl ?_
      refine .sc rfl (.str _) fun _ => ?_
      walk_at "Rd"
      walk_at "Rd"
      refine Jl.s_ixM (l := c :: rest) (k := 0) (y := c) RP (by walk_at "j_ls") rfl rfl ?_
      refine .sc rfl (.str _) fun _ => ?_
      walk_at "Rd"
      refine use_put_name (row := c :: rest) RP hv hrow hsz x0 ⟨fun ep H4 R4 => ?_, fun st' ep H4 R4 => ?_⟩
      · exact k1 (by rw [Jl.prp_name (.inl c6)]; exact ep) _ R4
      · exact k2 _ (by rw [Jl.prp_name (.inl c6)]; exact ep) _ R4
    by_cases c7 : c = "weak"
    · skip
      walk_at "Rd"
      refine Jl.s_ixM (l := c :: rest) (k := 0) (y := c) RP (by walk_at "j_ls") rfl rfl ?_
      refine .sc rfl (.str _) fun _ => ?_
      walk_at "Rd"
      walk_at "Rd"
      refine Jl.s_ixM (l := c :: rest) (k := 0) (y := c) RP (by walk_at "j_ls") rfl rfl ?_
      refine .sc rfl (.str _) fun _ => ?_
      walk_at "Rd"
      walk_at "Rd"
      refine Jl.s_ixM (l := c :: rest) (k := 0) (y := c) RP (by walk_at "j_ls") rfl rfl ?_
      refine .sc rfl (.str _) fun _ => ?_
      walk_at "Rd"
      walk_at "Rd"
      refine Jl.s_ixM (l := c :: rest) (k := 0) (y := c) RP (by walk_at "j_ls") rfl rfl ?_
      refine .sc rfl (.str _) fun _ => ?_
      walk_at "Rd"
      walk_at "Rd"
      refine Jl.s_ixM (l := c :: rest) (k := 0) (y := c) RP (by walk_at "j_ls") rfl rfl ?_
      refine .sc rfl (.str _) fun _ => ?_
      walk_at "Rd"
      walk_at "Rd"
      refine Jl.s_ixM (l := c :: rest) (k := 0) (y := c) RP (by walk_at "j_ls") rfl rfl ?_
      refine .sc rfl (.str _) fun _ => ?_
      walk_at "Rd"
      walk_at "Rd"
      refine Jl.s_ixM (l := c :: rest) (k := 0) (y := c) RP (by walk_at "j_ls") rfl rfl ?_
      refine .sc rfl (.str _) fun _ => ?_
      walk_at "Rd"
      refine use_put_name (row := c :: rest) RP hv hrow hsz x0 ⟨fun ep H4 R4 => ?_, fun st' ep H4 R4 => ?_⟩
      · exact k1 (by rw [Jl.prp_name (.inr (.inl c7))]; exact ep) _ R4
      · exact k2 _ (by rw [Jl.prp_name (.inr (.inl c7))]; exact ep) _ R4
    by_cases c8 : c = "own"
    · skip
      walk_at "Rd"
      refine Jl.s_ixM (l := c :: rest) (k := 0) (y := c) RP (by walk_at "j_ls") rfl rfl ?_
      refine .sc rfl (.str _) fun _ => ?_
      walk_at "Rd"
      walk_at "Rd"
      refine Jl.s_ixM (l := c :: rest) (k := 0) (y := c) RP (by walk_at "j_ls") rfl rfl ?_
      refine .sc rfl (.str _) fun _ => ?_
      walk_at "Rd"
      walk_at "Rd"
      refine Jl.s_ixM (l := c :: rest) (k := 0) (y := c) RP (by walk_at "j_ls") rfl rfl ?_
      refine .sc rfl (.str _) fun _ => ?_
      walk_at "Rd"
      walk_at "Rd"
      refine Jl.s_ixM (l := c :: rest) (k := 0) (y := c) RP (by walk_at "j_ls") rfl rfl ?_
      refine .sc rfl (.str _) fun _ => ?_
      walk_at "Rd"
      walk_at "Rd"
      refine Jl.s_ixM (l := c :: rest) (k := 0) (y := c) RP (by walk_at "j_ls") rfl rfl ?_
      refine .sc rfl (.str _) fun _ => ?_
      walk_at "Rd"
      walk_at "Rd"
      refine Jl.s_ixM (l := c :: rest) (k := 0) (y := c) RP (by walk_at "j_ls") rfl rfl ?_
      refine .sc rfl (.str _) fun _ => ?_
      walk_at "Rd"
      walk_at "Rd"
      refine Jl.s_ixM (l := c :: rest) (k := 0) (y := c) RP (by walk_at "j_ls") rfl rfl ?_
      refine .sc rfl (.str _) fun _ => ?_
      walk_at "Rd"
      walk_at "Rd"
      refine Jl.s_ixM (l := c :: rest) (k := 0) (y := c) RP (by walk_at "j_ls") rfl rfl ?_
      refine .sc rfl (.str _) fun _ => ?_
      walk_at "Rd"
      refine use_put_name (row := c :: rest) RP hv hrow hsz x0 ⟨fun ep H4 R4 => ?_, fun st' ep H4 R4 => ?_⟩
      · exact k1 (by rw [Jl.prp_name (.inr (.inr c8))]; exact ep) _ R4
      · exact k2 _ (by rw [Jl.prp_name (.inr (.inr c8))]; exact ep) _ R4
    walk_at "Rd"
    refine Jl.s_ixM (l := c :: rest) (k := 0) (y := c) RP (by walk_at "j_ls") rfl rfl ?_
    refine .sc rfl (.str _) fun _ => ?_
    walk_at "Rd"
    walk_at "Rd"
    refine Jl.s_ixM (l := c :: rest) (k := 0) (y := c) RP (by walk_at "j_ls") rfl rfl ?_
    refine .sc rfl (.str _) fun _ => ?_
    walk_at "Rd"
    walk_at "Rd"
    refine Jl.s_ixM (l := c :: rest) (k := 0) (y := c) RP (by walk_at "j_ls") rfl rfl ?_
    refine .sc rfl (.str _) fun _ => ?_
    walk_at "Rd"
    walk_at "Rd"
    refine Jl.s_ixM (l := c :: rest) (k := 0) (y := c) RP (by walk_at "j_ls") rfl rfl ?_
    refine .sc rfl (.str _) fun _ => ?_
    walk_at "Rd"
    walk_at "Rd"
    refine Jl.s_ixM (l := c :: rest) (k := 0) (y := c) RP (by walk_at "j_ls") rfl rfl ?_
    refine .sc rfl (.str _) fun _ => ?_
    walk_at "Rd"
    walk_at "Rd"
    refine Jl.s_ixM (l := c :: rest) (k := 0) (y := c) RP (by walk_at "j_ls") rfl rfl ?_
    refine .sc rfl (.str _) fun _ => ?_
    walk_at "Rd"
    walk_at "Rd"
    refine Jl.s_ixM (l := c :: rest) (k := 0) (y := c) RP (by walk_at "j_ls") rfl rfl ?_
    refine .sc rfl (.str _) fun _ => ?_
    walk_at "Rd"
    walk_at "Rd"
    refine Jl.s_ixM (l := c :: rest) (k := 0) (y := c) RP (by walk_at "j_ls") rfl rfl ?_
    refine .sc rfl (.str _) fun _ => ?_
    walk_at "Rd"
    
    exact k1 (Jl.prp_other c1 c2 c3 c4 c5 c6 c7 c8) _ (R.pick (by walk_at "j_pick"))
/-! ### read_piece -/
def sp_read_piece (T : Txt K mg) : Sp := fun vs H Q E => ∃ (B : Hp) (Γ : Jl.Ents) (text : Str), vs = [.str text] ∧ Jl.Rep K B H Γ ∧ text.length ≤ 40000 ∧ ((Jl.titleOf ((Jl.rowsOf text).getD 0 []) = none → ∀ d H', Jl.Rep K B H' ((.ref d, .g (.xd [("row", .int 1)])) :: Γ) → E (.ref T.a_NoPiece) (some d) H') ∧ (∀ tt, Jl.titleOf ((Jl.rowsOf text).getD 0 []) = some tt → ((∀ n : Nat, n + 1 < (Jl.rowsOf text).length → (∃ st, Jl.readP (Jl.rowsOf text) n = some st) → Jl.readP (Jl.rowsOf text) (n + 1) = none → ∀ d H', Jl.Rep K B H' ((.ref d, .g (.xd [("row", .int ((n : Int) + 2))])) :: Γ) → E (.ref T.a_NoPiece) (some d) H') ∧ (∀ st, Jl.readP (Jl.rowsOf text) ((Jl.rowsOf text).length - 1) = some st → ∀ v H', Jl.Rep K B H' ((v, Jl.pcT tt st) :: Γ) → Q v H'))))
theorem use_read_piece {T : Txt K mg} {B : Hp} {Γ : Jl.Ents} {text : Str} {H : Hp} {Q : VK} {E : XK} (R : Jl.Rep K B H Γ) (hlen : text.length ≤ 40000) (z : ((Jl.titleOf ((Jl.rowsOf text).getD 0 []) = none → ∀ d H', Jl.Rep K B H' ((.ref d, .g (.xd [("row", .int 1)])) :: Γ) → E (.ref T.a_NoPiece) (some d) H') ∧ (∀ tt, Jl.titleOf ((Jl.rowsOf text).getD 0 []) = some tt → ((∀ n : Nat, n + 1 < (Jl.rowsOf text).length → (∃ st, Jl.readP (Jl.rowsOf text) n = some st) → Jl.readP (Jl.rowsOf text) (n + 1) = none → ∀ d H', Jl.Rep K B H' ((.ref d, .g (.xd [("row", .int ((n : Int) + 2))])) :: Γ) → E (.ref T.a_NoPiece) (some d) H') ∧ (∀ st, Jl.readP (Jl.rowsOf text) ((Jl.rowsOf text).length - 1) = some st → ∀ v H', Jl.Rep K B H' ((v, Jl.pcT tt st) :: Γ) → Q v H'))))) : sp_read_piece T [.str text] H Q E := ⟨B, Γ, text, rfl, R, hlen, z⟩
theorem use_read_pgood {T : Txt K mg} {B : Hp} {Γ : Jl.Ents} {text : Str} {hd : List Str} {rows : List (List Str)} {tt : Str} {st : Jl.PS} {H : Hp} {Q : VK} {E : XK} (R : Jl.Rep K B H Γ) (hlen : text.length ≤ 40000) (hro : Jl.rowsOf text = hd :: rows) (hh : Jl.titleOf hd = some tt) (hr : Jl.readP (hd :: rows) rows.length = some st)
    (k : ∀ v H', Jl.Rep K B H' ((v, Jl.pcT tt st) :: Γ) → Q v H') : sp_read_piece T [.str text] H Q E := by
  refine use_read_piece R hlen ⟨fun h => ?_, fun t' h => ⟨fun n h1 _ h2 => ?_, fun st' h1 v H' R' => ?_⟩⟩
  · rw [hro] at h
    have h : Jl.titleOf hd = none := h
    rw [hh] at h; cases h
  · rw [hro] at h h1 h2
    have h : Jl.titleOf hd = some t' := h
    rw [hh] at h
    cases h
    rw [List.length_cons] at h1
    have := Jl.readP_none h2 (rows.length - (n + 1))
    rw [show n + 1 + (rows.length - (n + 1)) = rows.length by omega, hr] at this
    cases this
  · rw [hro] at h h1
    have h : Jl.titleOf hd = some t' := h
    rw [hh] at h
    cases h
    have h1 : Jl.readP (hd :: rows) rows.length = some st' := h1
    rw [hr] at h1
    cases h1
    exact k v H' R'
theorem ok_read_piece (T : Txt K mg) : FnOk P w K mg base (L2.CX P w) 7 T.a_read_piece T.d_read_piece ["text"] (sp_read_piece T) := by
  have G_NoPiece___init__ := ok_NoPiece___init__ (P := P) (w := w) (base := base) T
  have G_is_name := ok_is_name (P := P) (w := w) (base := base) T
  have G_put_row := ok_put_row (P := P) (w := w) (base := base) T
  refine T.F_read_piece.okX sc_read_piece (fun vs H Q E h => ?_) (fun cdv A outer s H vs Q E hr h => ?_)
  · obtain ⟨B, Γ, text, rfl, R, hlen, k1, k2⟩ := h
    rfl
  · obtain ⟨B, Γ, text, rfl, R, hlen, k1, k2⟩ := h
    have hu := hu_of hr
    refine ⟨_, (pss_cons (ps_set (i := 1) sc_read_piece.nd rfl (Or.inl rfl) (Jl.pe_lstO (pe_lst pa_nil)))
      (pss_cons (ps_set (i := 2) sc_read_piece.nd rfl (Or.inl rfl) (Jl.pe_lstO (pe_lst pa_nil)))
      (pss_cons (ps_setLc (i := 3) (own := [("row", 5)]) (g := gName 5) (tt := tYes) (by rfl) sc_read_piece.nd rfl rfl (sw_true rfl rfl rfl (by decide +kernel)) (pi_list (pe_m1 (r := Jl.rSplit) PySem.F.slot_str_split PySem.F.type_str_split Jl.mt_splitS (pv 0) pe_str)) (blkOk_by (own := [("row", 5)]) (N := N_read_piece) (sc := defScope s_read_piece) (by decide +kernel)) (fun _ _ _ _ _ => pg_name (i := 5) sc_read_piece.nd rfl (Or.inl rfl)) (fun _ _ _ _ _ => pts_nil) (fun _ _ _ _ _ => (pe_m1 (r := Jl.rSplit) PySem.F.slot_str_split PySem.F.type_str_split Jl.mt_splitS (pv 5) pe_str)))
      (pss_cons (ps_if (PW.pt (pw_or (pt_cmpR op_ne (pe_callB (r := Jl.rLenL K) Jl.cl_lenL (by rfl) T.n_len (by decide +kernel) (pa_cons (pe_ix (r := rIxL K) ix_list (pv 3) pe_int (fun _ _ => rfl)) pa_nil)) pe_int (nomark _)) (pw_or (pt_cmpR op_ne (pe_ix (r := rIxL K) ix_list (pe_ix (r := rIxL K) ix_list (pv 3) pe_int (fun _ _ => rfl)) pe_int (fun _ _ => rfl)) pe_str (nomark _)) (pw_or1 (pt_not (pt_val (pe_call (G_is_name) (hr.mono (by decide)) rfl T.m_is_name T.F_is_name.kp T.b_is_name .nil pass0 (pa_cons (pe_ix (r := rIxL K) ix_list (pe_ix (r := rIxL K) ix_list (pv 3) pe_int (fun _ _ => rfl)) pe_int (fun _ _ => rfl)) pa_nil)))))))) (pss_one (ps_raise rfl (takes_of rfl rfl rfl rfl) (pmk_oex T.o_NoPiece T.i_NoPiece T.t_NoPiece G_NoPiece___init__ (hr.mono (by decide)) T.b_NoPiece___init__ .nil pass0 rfl T.g_NoPiece (pa_cons pe_int pa_nil)))) pss_nil)
      (pss_cons (ps_for (passes_of rfl) rfl (pi_range2 (by rfl) T.n_range (pa_cons pe_int (pa_cons (pe_callB (r := Jl.rLenL K) Jl.cl_lenL (by rfl) T.n_len (by decide +kernel) (pa_cons (pv 3) pa_nil)) pa_nil))) (pg_name (i := 4) sc_read_piece.nd rfl (Or.inl rfl)) (pss_one (ps_if (pt_not (pt_val (pe_callS (G_put_row) (hr.mono (by decide)) rfl T.m_put_row T.F_put_row.kp T.b_put_row (fun σ => passAt (takes_of rfl rfl rfl rfl) σ) (pa_cons (pv 1) (pa_cons (pv 2) (pa_cons (pe_ix (r := rIxL K) ix_list (pv 3) (pv 4) (fun _ _ => rfl)) (pa_cons (pe_ix (r := rIxL K) ix_list (pe_ix (r := rIxL K) ix_list (pv 3) (pe_op op_sub (pv 4) pe_int) (fun _ _ => rfl)) pe_int (fun _ _ => rfl)) pa_nil))))))) (pss_one (ps_raise rfl (takes_of rfl rfl rfl rfl) (pmk_oex T.o_NoPiece T.i_NoPiece T.t_NoPiece G_NoPiece___init__ (hr.mono (by decide)) T.b_NoPiece___init__ .nil pass0 rfl T.g_NoPiece (pa_cons (pe_op op_add (pv 4) pe_int) pa_nil)))) pss_nil)))
      (pss_one (ps_ret (pe_tup (pa_cons (pe_ix (r := rIxL K) ix_list (pe_ix (r := rIxL K) ix_list (pv 3) pe_int (fun _ _ => rfl)) pe_int (fun _ _ => rfl)) (pa_cons (pv 1) (pa_cons (pv 2) pa_nil))))))))))), ?_⟩
    show (_ : TS) _ [some (.str text), none, none, none, none, none] H
    obtain ⟨hne, hrl, hrok⟩ := Jl.rowsOf_ok text hlen
    walk_at "R"
    rename_i P HP RP N HN RN S9 HS9 RS9
    refine Jl.lcL_T (l := Txt.split text "\n") (e := Jl.strT) (fun r => some (Jl.rwT (Txt.split r " "))) (by assumption) (by walk_at "j_ls") (by have := PyProof.Rows.split_le text "\n"; omega) (fun i y H' D t0 hi R' Ry Rn hy hn => ?_) (fun D H1 R1 => ?_)
    · refine .sc rfl (.str _) fun R9 => ?_
      have hyl : y.length ≤ 40000 := Nat.le_trans (Jl.split_len (by decide +kernel) (by decide +kernel) (List.mem_of_getElem? hi)) hlen
      walk_at "w"
      refine ⟨rfl, ?_⟩
      walk_at "R"
      exact hy _ _ _ rfl (Jl.Rep.pick (by assumption) (by walk_at "j_pick"))
    have e1 : (Txt.split text "\n").filterMap (fun r => some (Jl.rwT (Txt.split r " "))) = (Jl.rowsOf text).map Jl.rwT := by
      rw [Jl.filterMap_some]; unfold Jl.rowsOf; rw [List.map_map]; rfl
    rw [e1] at R1
    have R1 := R1.pick (Γ' := (.ref N, .l (([] : List Jl.Nam).map Jl.namT)) :: (.ref P, .l (([] : List Jl.Stre).map Jl.streT)) :: (.ref D, .l ((Jl.rowsOf text).map Jl.rwT)) :: Γ) (.own (.tail (.tail .head)) (.own (.tail (.tail .head)) (.own .head (by walk_at "j_pick"))))
    clear e1 RP RN R
    generalize Jl.rowsOf text = rows at *
    obtain ⟨r0, hr0⟩ : ∃ r0, rows[0]? = some r0 := by
      cases rows with
      | nil => exact absurd rfl hne
      | cons r rs => exact ⟨r, rfl⟩
    have hg0 : rows.getD 0 [] = r0 := by rw [List.getD_eq_getElem?_getD, hr0]; rfl
    rw [hg0] at k1 k2
    have hrm := List.mem_of_getElem? hr0
    have hok0 := hrok r0 hrm
    have RZ : ∀ H3 Γ3, Jl.Rep K B H3 Γ3 → Jl.Rep K B H3 Γ3 := fun _ _ R => R
    walk_at "R"
    refine Jl.s_ixM (k := 0) R1 (by walk_at "j_ls") hr0 rfl ?_
    refine .any fun w R2 => ?_
    walk_at "R"
    rw [List.length_map]
    by_cases h2 : r0.length = 2
    rotate_left
    · refine Jl.s_iteN (fun _ => ?_) (fun g => absurd g (by omega))
      walk_at "R"
      refine Jl.s_mkO (fun R z => ?_) (fun x H' Q' hx hq => ⟨x, .int 1, rfl, hx, hq⟩) fun d hd => k1 (if_neg fun h => h2 h.1) d _ ?_
      · walk_at "w"
        exact z
      exact Jl.Rep.newG (R2.pick (Γ' := Γ) (by walk_at "j_pick")) hd
    obtain ⟨a, b, rfl⟩ := Jl.len2 h2
    have hb := hok0.2 b (by simp)
    refine Jl.s_iteNt (by simp) ?_
    walk_at "R"
    refine Jl.s_ixM (k := 0) R2 (by walk_at "j_ls") hr0 rfl ?_
    refine .any fun w R3 => ?_
    walk_at "R"
    by_cases g1 : a = "piece"
    rotate_left
    · refine Jl.s_iteNf g1 ?_
      walk_at "R"
      refine Jl.s_mkO (fun R z => ?_) (fun x H' Q' hx hq => ⟨x, .int 1, rfl, hx, hq⟩) fun d hd => k1 (if_neg fun h => g1 h.2.1) d _ ?_
      · walk_at "w"
        exact z
      exact Jl.Rep.newG (R3.pick (Γ' := Γ) (by walk_at "j_pick")) hd
    refine Jl.s_iteNt g1 ?_
    walk_at "R"
    refine Jl.s_ixM (k := 0) R3 (by walk_at "j_ls") hr0 rfl ?_
    refine .any fun w R4 => ?_
    walk_at "R"
    cases hnm : Jl.isNm b.cps.toList with
    | false =>
      walk_at "R"
      refine Jl.s_mkO (fun R z => ?_) (fun x H' Q' hx hq => ⟨x, .int 1, rfl, hx, hq⟩) fun d hd => k1 (if_neg fun h => by have := h.2.2; rw [show ([a, b] : List Str).getD 1 "" = b from rfl, hnm] at this; cases this) d _ ?_
      · walk_at "w"
        exact z
      exact Jl.Rep.newG (R4.pick (Γ' := Γ) (by walk_at "j_pick")) hd
    | true =>
    obtain ⟨kE, kQ⟩ := k2 b (if_pos ⟨rfl, g1, hnm⟩)
    have hpw : (rows.getD 0 []).getD 0 "" ≠ "word" := by
      rw [hg0]
      show ¬ a = "word"
      rw [g1]; decide +kernel
    walk_at "R"
    have R5 := R4.pick (Γ' := (.ref N, .l (([] : List Jl.Nam).map Jl.namT)) :: (.ref P, .l (([] : List Jl.Stre).map Jl.streT)) :: (.ref D, .l (rows.map Jl.rwT)) :: Γ) (.tail (.tail (.tail .refl)))
    clear R1 R2 R3 R4
    refine Jl.s_forR2 1 (rows.length : Int) (fun i σ H => Jl.RI K B (fun σ Γ' => ∃ (st : Jl.PS) (v5 : Option V), Jl.readP rows i = some st ∧ Γ' = (.ref N, .l (st.names.map Jl.namT)) :: (.ref P, .l (st.stres.map Jl.streT)) :: (.ref D, .l (rows.map Jl.rwT)) :: Γ ∧ σ = [some (.str text), some (.ref P), some (.ref N), some (.ref D), v5, none]) σ H) (fun R9 h9 => ?_) (by omega) ⟨_, R5, ⟨[], []⟩, none, rfl, rfl, rfl⟩ (fun i σ' H' hi h => ?_) (fun σ' H' h => ?_)
    · walk_at "R"
      rw [List.length_map]
      walk_at "R"
      exact h9
    rotate_left
    · obtain ⟨Γ', R', st, v5, hst, rfl, rfl⟩ := h
      have hn : ((rows.length : Int) - 1).toNat = rows.length - 1 := by omega
      rw [hn] at hst
      walk_at "R"
      refine Jl.s_ixM (k := 0) R' (by walk_at "j_ls") hr0 rfl ?_
      refine .any fun w R6 => ?_
      walk_at "R"
      exact kQ st hst _ _ (Jl.Rep.pick (by assumption) (by walk_at "j_pick"))
    obtain ⟨Γ', R', st, v5, hst, rfl, rfl⟩ := h
    obtain ⟨r, hr1⟩ : ∃ r, rows[i + 1]? = some r := ⟨_, List.getElem?_eq_getElem (by omega)⟩
    obtain ⟨q, hq1⟩ : ∃ q, rows[i]? = some q := ⟨_, List.getElem?_eq_getElem (by omega)⟩
    have hgr : rows.getD (i + 1) [] = r := by rw [List.getD_eq_getElem?_getD, hr1]; rfl
    have hgq : rows.getD i [] = q := by rw [List.getD_eq_getElem?_getD, hq1]; rfl
    have hrok1 := hrok r (List.mem_of_getElem? hr1)
    have hqok1 := hrok q (List.mem_of_getElem? hq1)
    obtain ⟨c2, hc2⟩ : ∃ c, q[0]? = some c := by
      cases q with
      | nil => exact absurd rfl hqok1.1
      | cons c r => exact ⟨c, rfl⟩
    have hgc2 : q.getD 0 "" = c2 := by rw [List.getD_eq_getElem?_getD, hc2]; rfl
    have hstep : Jl.readP rows (i + 1) = Jl.putRowP st r q := by
      show (Jl.readP rows i).bind (fun st => Jl.putRowP st (rows.getD (i + 1) []) (rows.getD i [])) = _
      rw [hst, hgr, hgq]; rfl
    have pok := Jl.readP_ok hst
    have hwd : c2 = "word" → st.stres ≠ [] := fun e => Jl.readP_word hpw hst (by rw [hgq, hgc2]; exact e)
    simp only [List.set_cons_zero, List.set_cons_succ]
    walk_at "R"
    refine Jl.s_ixM (k := i + 1) (by assumption) (by walk_at "j_ls") hr1 (by omega) ?_
    refine .any fun w R6 => ?_
    walk_at "R"
    refine Jl.s_ixM (k := i) (by assumption) (by walk_at "j_ls") hq1 (by omega) ?_
    refine .any fun w2 R7 => ?_
    walk_at "R"
    refine Jl.s_ixM (k := 0) R7 (.f (Jl.pers_map Jl.strT_per) (by walk_at "j_mem")) hc2 rfl ?_
    refine .sc rfl (.str _) fun R8 => ?_
    walk_at "R"
    have hps1 := pok.ns
    have hps2 := pok.nn
    refine use_put_row (ss := st.stres) (ns := st.names) (Γ := (w, Jl.rwT r) :: (.ref D, .l (rows.map Jl.rwT)) :: Γ) (row := r) (prev := q) (R8.pick (by walk_at "j_pick")) (.f (Jl.pers_map Jl.strT_per) (by walk_at "j_mem")) (fun z hz => Nat.le_trans (hrok1.2 z hz) (by decide)) ⟨by omega, by omega, fun s hs => by have := pok.wl s hs; omega⟩ pok.ok hgc2.symm hwd hrok1.1 ⟨fun ep H9 R9 => ?_, fun st' ep H9 R9 => ?_⟩
    · walk_at "R"
      refine Jl.s_mkO (v := .int (1 + (i : Int) + 1)) (fun R z => ?_) (fun x H' Q' hx hq => ⟨x, _, rfl, hx, hq⟩) fun d hd => kE i (by omega) ⟨st, hst⟩ (by rw [hstep]; exact ep) d _ ?_
      · walk_at "w"
        exact z
      rw [show ((i : Int) + 2) = 1 + (i : Int) + 1 by omega]
      exact Jl.Rep.newG (R9.pick (Γ' := Γ) (by walk_at "j_pick")) hd
    · walk_at "R"
      exact ⟨_, R9.pick (by walk_at "j_pick"), st', _, by rw [hstep]; exact ep, rfl, rfl⟩
/-! ### _law_whole -/
def sp_law_whole : Sp := fun vs H Q _ => ∃ n : Int, vs = [.int n] ∧ Q (.bl true) H
theorem use_whole {n : Int} {H : Hp} {Q : VK} {E : XK} (z : Q (.bl true) H) : sp_law_whole [.int n] H Q E := ⟨n, rfl, z⟩
local macro_rules | `(tactic| walk_at "s") => `(tactic| (with_reducible refine use_whole ?_))
theorem ok_law_whole (T : Txt K mg) : FnOk P w K mg base CX0 1 T.a_law_whole T.d_law_whole ["_law_found"] (sp_law_whole) := by
  refine T.F_law_whole.ok sc_law_whole (fun vs H Q E h => ?_) (fun cdv A outer s H vs Q E hr h => ?_)
  · obtain ⟨n, rfl, k⟩ := h
    rfl
  · obtain ⟨n, rfl, k⟩ := h
    have hu := hu_of hr
    refine ⟨_, (pss_one (ps_ret (pe_and (pe_callB call_isi (by rfl) T.n_isinstance (by decide +kernel) (pa_cons (pv 0) (pa_cons (pe_bltn (v := .ty "int") (u := .type "int") (by rfl) T.n_int (by decide +kernel) rfl) pa_nil))) (pe_one (pe_not (pe_callB call_isi (by rfl) T.n_isinstance (by decide +kernel) (pa_cons (pv 0) (pa_cons (pe_bltn (v := .ty "bool") (u := .type "bool") (by rfl) T.n_bool (by decide +kernel) rfl) pa_nil)))))))), ?_⟩
    show (_ : TS) _ [some (.int n)] H
    walk_at "w"
    exact k
/-! ### _law_cell_at -/
def sp_law_cell_at (K : PySem.W.Frag) : Sp := fun vs H Q _ => ∃ (a : Addr) (ns : List Int) (i : Int), vs = [.ref a, .int i] ∧ SqL K H a (ns.map V.int) ∧ 0 ≤ i ∧ Q (.int (ns.getD i.toNat 0)) H
theorem use_cell_at {K : PySem.W.Frag} {a : Addr} {ns : List Int} {i : Int} {H : Hp} {Q : VK} {E : XK} (hS : SqL K H a (ns.map V.int)) (h0 : 0 ≤ i) (z : Q (.int (ns.getD i.toNat 0)) H) : sp_law_cell_at K [.ref a, .int i] H Q E := ⟨a, ns, i, rfl, hS, h0, z⟩
theorem ok_law_cell_at (T : Txt K mg) : FnOk P w K mg base CX0 1 T.a_law_cell_at T.d_law_cell_at ["_law_script", "_law_k"] (sp_law_cell_at K) := by
  refine T.F_law_cell_at.ok sc_law_cell_at (fun vs H Q E h => ?_) (fun cdv A outer s H vs Q E hr h => ?_)
  · obtain ⟨a, ns, i, rfl, hS, h0, k⟩ := h
    rfl
  · obtain ⟨a, ns, i, rfl, hS, h0, k⟩ := h
    have hu := hu_of hr
    refine ⟨_, (pss_cons (ps_if (pt_cmpR op_lt (pv 1) (pe_callB (r := Jl.rLenL K) Jl.cl_lenL (by rfl) T.n_len (by decide +kernel) (pa_cons (pv 0) pa_nil)) (nomark _)) (pss_one (ps_ret (pe_ix (r := rIxL K) ix_list (pv 0) (pv 1) (fun _ _ => rfl)))) pss_nil)
      (pss_one (ps_ret pe_int))), ?_⟩
    show (_ : TS) _ [some (.ref a), some (.int i)] H
    walk_at "w"
    rw [List.length_map]
    refine Jl.s_iteD (fun h => ?_) (fun h => ?_)
    · walk_at "w"
      refine Jl.s_ixL hS (Jl.atI_int (k := i.toNat) (List.getElem?_eq_getElem (by omega)) (by omega)) ?_
      rw [List.getD_eq_getElem?_getD, List.getElem?_eq_getElem (by omega)] at k
      exact k
    · walk_at "w"
      rw [List.getD_eq_getElem?_getD, List.getElem?_eq_none (by omega)] at k
      exact k
/-! ### _law_name_by -/
def sp_law_name_by (K : PySem.W.Frag) : Sp := fun vs H Q _ => ∃ c k0 : Int, vs = [.int c, .int k0] ∧ Q (.str (Jl.nqT c k0)) H
theorem use_name_by {K : PySem.W.Frag} {c k0 : Int} {H : Hp} {Q : VK} {E : XK} (z : Q (.str (Jl.nqT c k0)) H) : sp_law_name_by K [.int c, .int k0] H Q E := ⟨c, k0, rfl, z⟩
local macro_rules | `(tactic| walk_at "s") => `(tactic| (with_reducible refine use_name_by ?_))
theorem ok_law_name_by (T : Txt K mg) : FnOk P w K mg base CX0 1 T.a_law_name_by T.d_law_name_by ["_law_cell", "_law_k"] (sp_law_name_by K) := by
  refine T.F_law_name_by.ok sc_law_name_by (fun vs H Q E h => ?_) (fun cdv A outer s H vs Q E hr h => ?_)
  · obtain ⟨c, k0, rfl, k⟩ := h
    rfl
  · obtain ⟨c, k0, rfl, k⟩ := h
    have hu := hu_of hr
    refine ⟨_, (pss_cons (ps_set (i := 2) sc_law_name_by.nd rfl (Or.inl rfl) pe_str)
      (pss_cons (ps_set (i := 3) sc_law_name_by.nd rfl (Or.inl rfl) pe_str)
      (pss_cons (ps_for PassesOwn.never rfl (pi_range1 (by rfl) T.n_range (pa_cons (pe_op op_add pe_int (pe_op op_mod (pv 0) pe_int)) pa_nil)) (pg_name (i := 4) sc_law_name_by.nd rfl (Or.inl rfl)) (pss_one (ps_set (i := 3) sc_law_name_by.nd rfl (Or.inl rfl) (pe_op Jl.op_addS (pv 3) (pe_ix ix_str (pv 2) (pe_op op_mod (pe_op op_add (pe_op op_fdiv (pv 0) (pe_op op_add (pv 4) pe_int)) (pe_op op_mul (pv 4) (pv 4))) (pe_op op_sub pe_int (pe_op op_mul pe_int (pe_callTy Jl.cl_int1 (by rfl) T.n_int (by decide +kernel) (pa_cons (pe_cmpR op_eq (pv 4) pe_int (nomark _)) pa_nil))))) (fun _ _ => rfl))))))
      (pss_cons (ps_set (i := 5) sc_law_name_by.nd rfl (Or.inl rfl) (pe_op op_add pe_int (pe_op op_mod (pe_op op_fdiv (pv 0) pe_int) (pe_callB Jl.cl_lenS (by rfl) T.n_len (by decide +kernel) (pa_cons (pv 3) pa_nil)))))
      (pss_cons (ps_set (i := 6) sc_law_name_by.nd rfl (Or.inl rfl) (pe_callTy Jl.cl_strI (by rfl) T.n_str (by decide +kernel) (pa_cons (pe_op op_mod (pv 1) pe_int) pa_nil)))
      (pss_cons (Jl.ps_ifK (pt_cmpR op_eq (pe_op op_mod (pe_op op_fdiv (pv 0) pe_int) pe_int) pe_int (nomark _)) (pss_one (ps_set (i := 6) sc_law_name_by.nd rfl (Or.inl rfl) (pe_bm PySem.F.plainAttrs_str PySem.F.slot_str_zfill PySem.F.type_str_zfill Jl.mt_zf (pv 6) (pa_cons pe_int pa_nil)))) pss_nil)
      (pss_one (ps_ret (pe_op Jl.op_addS (pe_op Jl.op_addS (pe_slice (r := rSlS) sl_str (pv 3) po_none (po_some (pv 5))) (pv 6)) (pe_slice (r := rSlS) sl_str (pv 3) (po_some (pv 5)) po_none)))))))))), ?_⟩
    show (_ : TS) _ [some (.int c), some (.int k0), none, none, none, none, none] H
    walk_at "w"
    generalize hsg : ("abcdefghijklmnopqrstuvwxyz0123456789_" : Str) = sg
    have hsg : sg = Jl.sgns := hsg.symm
    refine Jl.s_seq (Jl.s_forR1 (1 + c % 13) (fun i σ' H2 => H2 = H ∧ ∃ (n : Str) (v1 v2 v3 : Option V), n.cps.toList = (Jl.nqB c).take i ∧ σ' = [some (.int c), some (.int k0), some (.str sg), some (.str n), v1, v2, v3]) (fun R z => ?_) (by omega) ⟨rfl, _, none, none, none, by rw [List.take_zero]; rfl, rfl⟩ (fun i σ' H2 hi h => ?_) (fun σ' H2 h => ?_))
    · walk_at "w"
      exact z
    · obtain ⟨e, n, v1, v2, v3, hn, rfl⟩ := h
      subst e
      simp only [List.set_cons_zero, List.set_cons_succ]
      have hnl : n.length ≤ 16 := by
        rw [← Jl.len_list, hn, List.length_take]; omega
      walk_at "w"
      have e : (c / ((i : Int) + 3) + (i : Int) * (i : Int)) % (37 - 11 * (if decide ((i : Int) = 0) = true then 1 else 0)) = Jl.nqIx c i := by
        unfold Jl.nqIx
        simp only [decide_eq_true_eq]
      rw [e]
      have hx := Jl.nqIx_ok c i
      generalize hix : Jl.nqIx c i = ix at *
      have hil : ix.toNat < Jl.sgns.cps.toList.length := by rw [Jl.sgns_len]; omega
      rw [hsg]
      refine Jl.s_ixS (c := Jl.sgns.cps.toList.getD ix.toNat 0) ?_ ?_ (by decide +kernel)
      · unfold atI ixN
        rw [if_pos hx.1, if_pos (by rw [Jl.sgns_len]; omega)]
        show Jl.sgns.cps.toList[ix.toNat]? = _
        rw [List.getD_eq_getElem?_getD, List.getElem?_eq_getElem hil]; rfl
      walk_at "w"
      refine ⟨by trivial, _, _, _, _, ?_, rfl⟩
      rw [Jl.cps_app, hn, List.take_add_one]
      congr 1
      have hget : (Jl.nqB c)[i]? = some (Jl.sgns.cps.toList.getD ix.toNat 0) := by
        unfold Jl.nqB
        rw [List.getElem?_map, List.getElem?_range (by omega), ← hix]; rfl
      rw [hget]
      rfl
    · obtain ⟨e, n, v1, v2, v3, hn, rfl⟩ := h
      subst e
      rw [← Jl.nqB_len, List.take_length] at hn
      have hnl : n.length = (1 + c % 13).toNat := by rw [← Jl.len_list, hn, Jl.nqB_len]
      have hnI : (n.length : Int) = 1 + c % 13 := by omega
      walk_at "w"
      rw [hnI]
      walk_at "w"
      refine Jl.s_strI ?_ (by omega) (by omega)
      walk_at "w"
      refine Jl.s_seq (Jl.s_ifKs (P := c / 169 % 2 = 1) (fun σ' H' => H' = H2 ∧ σ' = [some (.int c), some (.int k0), some (.str sg), some (.str n), v1, some (.int (1 + c / 13 % (1 + c % 13))), some (.str (Jl.nqF c k0))]) (fun T t1 t2 => ?_) (fun g N hN => ?_) (fun g N hN => ?_) (fun σ' H' hM => ?_))
      · walk_at "w"
        by_cases g : c / 169 % 2 = 1
        · rw [decide_eq_true g]; exact t1 g
        · rw [decide_eq_false g]; exact t2 g
      · walk_at "w"
        refine ⟨rfl, ?_⟩
        walk_at "w"
        refine Jl.s_zf ?_
        refine hN _ _ ⟨rfl, ?_⟩
        rw [show Jl.nqF c k0 = Txt.zfill (toString (k0 % 400)) 3 from if_pos g]; rfl
      · walk_at "w"
        refine hN _ _ ⟨rfl, ?_⟩
        rw [show Jl.nqF c k0 = toString (k0 % 400) from if_neg g]
      obtain ⟨eH, rfl⟩ := hM
      subst eH
      have hf := Jl.nqF_len c k0
      rw [Jl.len_list] at hf
      have ha : (1 + c / 13 % (1 + c % 13)) = ((Jl.nqAt c : Nat) : Int) := by
        have h1 := Int.emod_nonneg (c / 13) (show (1 + c % 13) ≠ 0 by omega)
        unfold Jl.nqAt
        omega
      rw [ha]
      walk_at "w"
      have ho := Jl.len_cut n none (some (Jl.nqAt c : Int))
      have ho2 := Jl.len_cut n (some (Jl.nqAt c : Int)) none
      refine Jl.s_addS (z := cutS n none (some (Jl.nqAt c : Int))) (w := Jl.nqF c k0) ?_ (by omega)
      walk_at "w"
      rw [Jl.nqT_cut hn]
      exact k
/-! ### _law_add_by -/
def sp_law_add_by (K : PySem.W.Frag) : Sp := fun vs H Q _ => ∃ (B : Hp) (Γ : Jl.Ents) (n : Int), vs = [.int n] ∧ Jl.Rep K B H Γ ∧ ∀ t H', -2147483648 ≤ t → t ≤ 2147483647 → Jl.Rep K B H' Γ → Q (.int t) H'
theorem use_add_by {K : PySem.W.Frag} {B : Hp} {Γ : Jl.Ents} {n : Int} {H : Hp} {Q : VK} {E : XK} (R : Jl.Rep K B H Γ) (k9 : ∀ t H', -2147483648 ≤ t → t ≤ 2147483647 → Jl.Rep K B H' Γ → Q (.int t) H') : sp_law_add_by K [.int n] H Q E := ⟨B, Γ, n, rfl, R, k9⟩
theorem ok_law_add_by (T : Txt K mg) : FnOk P w K mg base CX0 1 T.a_law_add_by T.d_law_add_by ["_law_number"] (sp_law_add_by K) := by
  refine T.F_law_add_by.ok sc_law_add_by (fun vs H Q E h => ?_) (fun cdv A outer s H vs Q E hr h => ?_)
  · obtain ⟨B, Γ, n, rfl, R, k⟩ := h
    rfl
  · obtain ⟨B, Γ, n, rfl, R, k⟩ := h
    have hu := hu_of hr
    refine ⟨_, (pss_cons (ps_if (pt_cmpR op_eq (pe_op op_mod (pv 0) pe_int) pe_int (nomark _)) (pss_one (ps_ret (pe_op op_sub (pe_op op_mod (pe_op op_fdiv (pv 0) pe_int) pe_int) pe_int))) pss_nil)
      (pss_cons (ps_if (pt_cmpR op_eq (pe_op op_mod (pv 0) pe_int) pe_int (nomark _)) (pss_one (ps_ret (pe_op op_sub (pe_op op_mod (pe_op op_mul (pe_op op_fdiv (pv 0) pe_int) pe_int) pe_int) pe_int))) pss_nil)
      (pss_one (ps_ret (pe_ix (r := rIxL K) ix_list (pe_lst (pa_cons (pe_un un_neg pe_int) (pa_cons (pe_un un_neg pe_int) (pa_cons pe_int (pa_cons pe_int pa_nil))))) (pe_op op_mod (pe_op op_fdiv (pv 0) pe_int) pe_int) (fun _ _ => rfl)))))), ?_⟩
    show (_ : TS) _ [some (.int n)] H
    walk_at "R"
    refine Jl.s_iteD (fun g => ?_) (fun g => ?_)
    · walk_at "R"
      exact k _ _ (by omega) (by omega) R
    walk_at "R"
    refine Jl.s_iteD (fun g => ?_) (fun g => ?_)
    · walk_at "R"
      exact k _ _ (by omega) (by omega) R
    walk_at "R"
    rcases Jl.mod4 (n / 3) with h9 | h9 | h9 | h9 <;> (rw [h9]; walk_at "R"; exact k _ _ (by decide) (by decide) (Jl.Rep.pick (by assumption) (by walk_at "j_pick")))
/-! ### _law_fill_by -/
def sp_law_fill_by (K : PySem.W.Frag) : Sp := fun vs H Q _ => ∃ (B : Hp) (Γ : Jl.Ents) (n i nb : Int), vs = [.int n, .int i, .int nb] ∧ Jl.Rep K B H Γ ∧ ∀ f : Jl.Fill, f.at_ = i → Jl.isRule5 f.rule → (f.soft = true → Jl.isRule f.rule) → Jl.isNm f.name.cps.toList = true → -2147483648 ≤ f.add → f.add ≤ 2147483647 → ∀ p H', Jl.Rep K B H' ((.ref p, Jl.fillTr f) :: Γ) → Q (.ref p) H'
theorem use_fill_by {K : PySem.W.Frag} {B : Hp} {Γ : Jl.Ents} {n i nb : Int} {H : Hp} {Q : VK} {E : XK} (R : Jl.Rep K B H Γ) (k9 : ∀ f : Jl.Fill, f.at_ = i → Jl.isRule5 f.rule → (f.soft = true → Jl.isRule f.rule) → Jl.isNm f.name.cps.toList = true → -2147483648 ≤ f.add → f.add ≤ 2147483647 → ∀ p H', Jl.Rep K B H' ((.ref p, Jl.fillTr f) :: Γ) → Q (.ref p) H') : sp_law_fill_by K [.int n, .int i, .int nb] H Q E := ⟨B, Γ, n, i, nb, rfl, R, k9⟩
theorem ok_law_fill_by (T : Txt K mg) : FnOk P w K mg base CX0 2 T.a_law_fill_by T.d_law_fill_by ["_law_number", "_law_at", "_law_names_by"] (sp_law_fill_by K) := by
  have G_law_name_by := ok_law_name_by (P := P) (w := w) (base := base) T
  have G_law_add_by := ok_law_add_by (P := P) (w := w) (base := base) T
  refine T.F_law_fill_by.ok sc_law_fill_by (fun vs H Q E h => ?_) (fun cdv A outer s H vs Q E hr h => ?_)
  · obtain ⟨B, Γ, n, i, nb, rfl, R, k⟩ := h
    rfl
  · obtain ⟨B, Γ, n, i, nb, rfl, R, k⟩ := h
    have hu := hu_of hr
    refine ⟨_, (pss_cons (ps_set (i := 3) sc_law_fill_by.nd rfl (Or.inl rfl) (pe_ix (r := rIxL K) ix_list (pe_lst (pa_cons pe_str (pa_cons pe_str (pa_cons pe_str (pa_cons pe_str (pa_cons pe_str pa_nil)))))) (pe_op op_mod (pv 0) pe_int) (fun _ _ => rfl)))
      (pss_cons (ps_set (i := 4) sc_law_fill_by.nd rfl (Or.inl rfl) (pe_and (pe_cmpR op_lt (pe_op op_mod (pv 0) pe_int) pe_int (nomark _)) (pe_one (pe_cmpR op_eq (pe_op op_mod (pe_op op_fdiv (pv 0) pe_int) pe_int) pe_int (nomark _)))))
      (pss_one (ps_ret (pe_tup (pa_cons (pv 1) (pa_cons (pv 3) (pa_cons (pe_call (G_law_name_by) (hr.mono (by decide)) rfl T.m_law_name_by T.F_law_name_by.kp T.b_law_name_by .nil pass0 (pa_cons (pv 2) (pa_cons (pe_op op_fdiv (pv 0) pe_int) pa_nil))) (pa_cons (pe_call (G_law_add_by) (hr.mono (by decide)) rfl T.m_law_add_by T.F_law_add_by.kp T.b_law_add_by .nil pass0 (pa_cons (pe_op op_fdiv (pv 0) pe_int) pa_nil)) (pa_cons (pv 4) pa_nil)))))))))), ?_⟩
    show (_ : TS) _ [some (.int n), some (.int i), some (.int nb), none, none] H
    walk_at "R"
    rcases Jl.mod5 n with h9 | h9 | h9 | h9 | h9
    · rw [h9]
      walk_at "R"
      rw [h9]
      walk_at "Rd"
      rcases Jl.mod2 (n / 5) with h8 | h8
      all_goals
        rw [h8]
        walk_at "Rd"
        refine use_add_by (by assumption) fun t H5 ht1 ht2 R5 => ?_
        walk_at "R"
        exact k ⟨i, "whole", Jl.nqT nb (n / 10), t, _⟩ rfl (.inl rfl) (fun _ => Or.inl rfl) (Jl.nq_nm _ _) ht1 ht2 _ _ (Jl.Rep.pick (by assumption) (by walk_at "j_pick"))
    · rw [h9]
      walk_at "R"
      rw [h9]
      walk_at "Rd"
      rcases Jl.mod2 (n / 5) with h8 | h8
      all_goals
        rw [h8]
        walk_at "Rd"
        refine use_add_by (by assumption) fun t H5 ht1 ht2 R5 => ?_
        walk_at "R"
        exact k ⟨i, "high", Jl.nqT nb (n / 10), t, _⟩ rfl (.inr (.inl rfl)) (fun _ => Or.inr (.inl rfl)) (Jl.nq_nm _ _) ht1 ht2 _ _ (Jl.Rep.pick (by assumption) (by walk_at "j_pick"))
    · rw [h9]
      walk_at "R"
      rw [h9]
      walk_at "Rd"
      rcases Jl.mod2 (n / 5) with h8 | h8
      all_goals
        rw [h8]
        walk_at "Rd"
        refine use_add_by (by assumption) fun t H5 ht1 ht2 R5 => ?_
        walk_at "R"
        exact k ⟨i, "low", Jl.nqT nb (n / 10), t, _⟩ rfl (.inr (.inr (.inl rfl))) (fun _ => Or.inr (.inr rfl)) (Jl.nq_nm _ _) ht1 ht2 _ _ (Jl.Rep.pick (by assumption) (by walk_at "j_pick"))
    · rw [h9]
      walk_at "R"
      rw [h9]
      walk_at "Rd"
      refine use_add_by (by assumption) fun t H5 ht1 ht2 R5 => ?_
      walk_at "R"
      exact k ⟨i, "near", Jl.nqT nb (n / 10), t, false⟩ rfl (.inr (.inr (.inr (.inl rfl)))) (fun h => nomatch h) (Jl.nq_nm _ _) ht1 ht2 _ _ (Jl.Rep.pick (by assumption) (by walk_at "j_pick"))
    · rw [h9]
      walk_at "R"
      rw [h9]
      walk_at "Rd"
      refine use_add_by (by assumption) fun t H5 ht1 ht2 R5 => ?_
      walk_at "R"
      exact k ⟨i, "split", Jl.nqT nb (n / 10), t, false⟩ rfl (.inr (.inr (.inr (.inr (rfl))))) (fun h => nomatch h) (Jl.nq_nm _ _) ht1 ht2 _ _ (Jl.Rep.pick (by assumption) (by walk_at "j_pick"))
/-! ### _law_fill_row -/
def sp_law_fill_row (K : PySem.W.Frag) : Sp := fun vs H Q _ => ∃ (B : Hp) (Γ : Jl.Ents) (v : V) (f : Jl.Fill), vs = [v] ∧ Jl.Rep K B H Γ ∧ (v, Jl.fillTr f) ∈ Γ ∧ Jl.isRule5 f.rule ∧ Jl.isNm f.name.cps.toList = true ∧ (-2147483648 ≤ f.add ∧ f.add ≤ 2147483647) ∧ ∀ H', Jl.Rep K B H' Γ → Q (.str (Jl.joinB [Jl.fillHd f.soft, f.rule, f.name, Jl.numT f.add])) H'
theorem use_fill_row {K : PySem.W.Frag} {B : Hp} {Γ : Jl.Ents} {v : V} {f : Jl.Fill} {H : Hp} {Q : VK} {E : XK} (R : Jl.Rep K B H Γ) (hv : (v, Jl.fillTr f) ∈ Γ) (h1 : Jl.isRule5 f.rule) (h2 : Jl.isNm f.name.cps.toList = true) (h3 : -2147483648 ≤ f.add ∧ f.add ≤ 2147483647) (k9 : ∀ H', Jl.Rep K B H' Γ → Q (.str (Jl.joinB [Jl.fillHd f.soft, f.rule, f.name, Jl.numT f.add])) H') : sp_law_fill_row K [v] H Q E := ⟨B, Γ, v, f, rfl, R, hv, h1, h2, h3, k9⟩
theorem ok_law_fill_row (T : Txt K mg) : FnOk P w K mg base CX0 1 T.a_law_fill_row T.d_law_fill_row ["_law_fill"] (sp_law_fill_row K) := by
  refine T.F_law_fill_row.ok sc_law_fill_row (fun vs H Q E h => ?_) (fun cdv A outer s H vs Q E hr h => ?_)
  · obtain ⟨B, Γ, v, f, rfl, R, hv, hr5, hnm, hadd, k⟩ := h
    rfl
  · obtain ⟨B, Γ, v, f, rfl, R, hv, hr5, hnm, hadd, k⟩ := h
    have hu := hu_of hr
    refine ⟨_, (pss_one (ps_ret (pe_op Jl.op_addS (pe_op Jl.op_addS (pe_op Jl.op_addS (pe_op Jl.op_addS (pe_op Jl.op_addS (pe_ix (r := rIxL K) ix_list (pe_lst (pa_cons pe_str (pa_cons pe_str pa_nil))) (pe_callTy Jl.cl_int1 (by rfl) T.n_int (by decide +kernel) (pa_cons (pe_ix (r := rIxT K) ix_tup (pv 0) pe_int (fun _ _ => rfl)) pa_nil)) (fun _ _ => rfl)) (pe_ix (r := rIxT K) ix_tup (pv 0) pe_int (fun _ _ => rfl))) pe_str) (pe_ix (r := rIxT K) ix_tup (pv 0) pe_int (fun _ _ => rfl))) pe_str) (pe_callTy Jl.cl_strI (by rfl) T.n_str (by decide +kernel) (pa_cons (pe_ix (r := rIxT K) ix_tup (pv 0) pe_int (fun _ _ => rfl)) pa_nil))))), ?_⟩
    show (_ : TS) _ [some (v)] H
    obtain ⟨at_, rule, name, add, soft⟩ := f
    replace hr5 : Jl.isRule5 rule := hr5
    replace hnm : Jl.isNm name.cps.toList = true := hnm
    replace hadd : -2147483648 ≤ add ∧ add ≤ 2147483647 := hadd
    replace k : ∀ H', Jl.Rep K B H' Γ → Q (.str (Jl.joinB [Jl.fillHd soft, rule, name, Jl.numT add])) H' := k
    replace hv : (v, Jl.Tr.t [.d (.int at_), .d (.str rule), .d (.str name), .d (.int add), .d (.bool soft)]) ∈ Γ := hv
    have hl1 := (Jl.r5_clean hr5).2
    have hl2 := (Jl.nm_clean hnm).2
    have hla := Jl.numT_len (n := add) (by omega) (by omega)
    have tp : Jl.Tp Γ v ([.d (.int at_), .d (.str rule), .d (.str name), .d (.int add), .d (.bool soft)]) := .t (Jl.pers_cons (.d _) (Jl.pers_cons (.d _) (Jl.pers_cons (.d _) (Jl.pers_cons (.d _) (Jl.pers_cons (.d _) Jl.pers_nil))))) hv
    walk_at "R"
    cases soft with
    | false =>
      rw [if_neg (by decide)]
      walk_at "R"
      refine Jl.s_addS ?_ (by show 5 + _ ≤ _; omega)
      walk_at "R"
      refine Jl.s_addS ?_ (by rw [Jl.len_app]; show 5 + _ + 1 ≤ _; omega)
      walk_at "R"
      refine Jl.s_addS ?_ (by rw [Jl.len_app, Jl.len_app]; show 5 + _ + 1 + _ ≤ _; omega)
      walk_at "R"
      refine Jl.s_addS ?_ (by rw [Jl.len_app, Jl.len_app, Jl.len_app]; show 5 + _ + 1 + _ + 1 ≤ _; omega)
      walk_at "R"
      refine Jl.s_strN (by omega) (by omega) (fun hl => ?_)
      refine Jl.s_addS ?_ (by rw [Jl.len_app, Jl.len_app, Jl.len_app, Jl.len_app]; show 5 + _ + 1 + _ + 1 + _ ≤ _; omega)
      have ej : ("fill " : Str) ++ rule ++ " " ++ name ++ " " ++ Jl.numT add = Jl.joinB ["fill", rule, name, Jl.numT add] := by
        rw [Jl.joinB_four, Jl.lit_app (a := ("fill " : Str)) (b := "fill") (c := " ") (by decide +kernel)]
      rw [ej]
      exact k _ (Jl.Rep.pick (by assumption) (by walk_at "j_pick"))
    | true =>
      rw [if_pos rfl]
      walk_at "R"
      refine Jl.s_addS ?_ (by show 5 + _ ≤ _; omega)
      walk_at "R"
      refine Jl.s_addS ?_ (by rw [Jl.len_app]; show 5 + _ + 1 ≤ _; omega)
      walk_at "R"
      refine Jl.s_addS ?_ (by rw [Jl.len_app, Jl.len_app]; show 5 + _ + 1 + _ ≤ _; omega)
      walk_at "R"
      refine Jl.s_addS ?_ (by rw [Jl.len_app, Jl.len_app, Jl.len_app]; show 5 + _ + 1 + _ + 1 ≤ _; omega)
      walk_at "R"
      refine Jl.s_strN (by omega) (by omega) (fun hl => ?_)
      refine Jl.s_addS ?_ (by rw [Jl.len_app, Jl.len_app, Jl.len_app, Jl.len_app]; show 5 + _ + 1 + _ + 1 + _ ≤ _; omega)
      have ej : ("soft " : Str) ++ rule ++ " " ++ name ++ " " ++ Jl.numT add = Jl.joinB ["soft", rule, name, Jl.numT add] := by
        rw [Jl.joinB_four, Jl.lit_app (a := ("soft " : Str)) (b := "soft") (c := " ") (by decide +kernel)]
      rw [ej]
      exact k _ (Jl.Rep.pick (by assumption) (by walk_at "j_pick"))
/-! ### _law_word_by -/
def sp_law_word_by (K : PySem.W.Frag) : Sp := fun vs H Q _ => ∃ (B : Hp) (Γ : Jl.Ents) (n : Int), vs = [.int n] ∧ Jl.Rep K B H Γ ∧ ∀ H', Jl.Rep K B H' Γ → Q (.int (Jl.wordBy n)) H'
theorem use_word_by {K : PySem.W.Frag} {B : Hp} {Γ : Jl.Ents} {n : Int} {H : Hp} {Q : VK} {E : XK} (R : Jl.Rep K B H Γ) (k9 : ∀ H', Jl.Rep K B H' Γ → Q (.int (Jl.wordBy n)) H') : sp_law_word_by K [.int n] H Q E := ⟨B, Γ, n, rfl, R, k9⟩
theorem ok_law_word_by (T : Txt K mg) : FnOk P w K mg base CX0 1 T.a_law_word_by T.d_law_word_by ["_law_cell"] (sp_law_word_by K) := by
  refine T.F_law_word_by.ok sc_law_word_by (fun vs H Q E h => ?_) (fun cdv A outer s H vs Q E hr h => ?_)
  · obtain ⟨B, Γ, n, rfl, R, k⟩ := h
    rfl
  · obtain ⟨B, Γ, n, rfl, R, k⟩ := h
    have hu := hu_of hr
    refine ⟨_, (pss_cons (ps_if (pt_cmpR op_eq (pe_op op_mod (pe_op op_fdiv (pv 0) pe_int) pe_int) pe_int (nomark _)) (pss_one (ps_ret (pe_ix (r := rIxL K) ix_list (pe_lst (pa_cons pe_int (pa_cons pe_int pa_nil))) (pe_op op_mod (pe_op op_fdiv (pv 0) pe_int) pe_int) (fun _ _ => rfl)))) pss_nil)
      (pss_one (ps_ret (pe_op op_mod (pe_op op_mul (pv 0) pe_int) pe_int)))), ?_⟩
    show (_ : TS) _ [some (.int n)] H
    walk_at "R"
    unfold Jl.wordBy at k
    refine Jl.s_iteD (fun g => ?_) (fun g => ?_)
    · rw [if_pos g] at k
      walk_at "R"
      rcases Jl.mod2 (n / 40) with h9 | h9
      · rw [h9, if_pos rfl] at k
        rw [h9]
        walk_at "R"
        exact k _ (Jl.Rep.pick (by assumption) (by walk_at "j_pick"))
      · rw [h9, if_neg (by decide)] at k
        rw [h9]
        walk_at "R"
        exact k _ (Jl.Rep.pick (by assumption) (by walk_at "j_pick"))
    · rw [if_neg g] at k
      walk_at "R"
      exact k _ R
/-! ### _law_put -/
def sp_law_put (K : PySem.W.Frag) : Sp := fun vs H Q _ => ∃ (B : Hp) (Γ : Jl.Ents) (P N : Addr) (n : Nat) (ss : List Jl.Stre) (ns : List Jl.Nam) (rows : List (List Str)) (c nb : Int), vs = [.int c, .int nb, .ref P, .ref N] ∧ Jl.Rep K B H ((.ref P, .l (ss.map Jl.streT)) :: (.ref N, .l (ns.map Jl.namT)) :: Γ) ∧ Jl.PB n ss ns rows ∧ n ≤ 200 ∧ ∀ ss' ns' nr, Jl.PB (n + 1) ss' ns' (rows ++ nr) → nr.length ≤ 2 → ∀ p H', Jl.Rep K B H' ((.ref p, .f ((nr.map Jl.joinB).map Jl.strT)) :: (.ref P, .l (ss'.map Jl.streT)) :: (.ref N, .l (ns'.map Jl.namT)) :: Γ) → Q (.ref p) H'
theorem use_law_put {K : PySem.W.Frag} {B : Hp} {Γ : Jl.Ents} {P N : Addr} {n : Nat} {ss : List Jl.Stre} {ns : List Jl.Nam} {rows : List (List Str)} {c nb : Int} {H : Hp} {Q : VK} {E : XK} (R : Jl.Rep K B H ((.ref P, .l (ss.map Jl.streT)) :: (.ref N, .l (ns.map Jl.namT)) :: Γ)) (b : Jl.PB n ss ns rows) (hn : n ≤ 200) (z : ∀ ss' ns' nr, Jl.PB (n + 1) ss' ns' (rows ++ nr) → nr.length ≤ 2 → ∀ p H', Jl.Rep K B H' ((.ref p, .f ((nr.map Jl.joinB).map Jl.strT)) :: (.ref P, .l (ss'.map Jl.streT)) :: (.ref N, .l (ns'.map Jl.namT)) :: Γ) → Q (.ref p) H') : sp_law_put K [.int c, .int nb, .ref P, .ref N] H Q E := ⟨B, Γ, P, N, n, ss, ns, rows, c, nb, rfl, R, b, hn, z⟩
theorem ok_law_put (T : Txt K mg) : FnOk P w K mg base CX0 3 T.a_law_put T.d_law_put ["_law_cell", "_law_names_by", "_law_stretches", "_law_told"] (sp_law_put K) := by
  have G_law_name_by := ok_law_name_by (P := P) (w := w) (base := base) T
  have G_law_fill_by := ok_law_fill_by (P := P) (w := w) (base := base) T
  have G_law_fill_row := ok_law_fill_row (P := P) (w := w) (base := base) T
  have G_law_word_by := ok_law_word_by (P := P) (w := w) (base := base) T
  refine T.F_law_put.ok sc_law_put (fun vs H Q E h => ?_) (fun cdv A outer s H vs Q E hr h => ?_)
  · obtain ⟨B, Γ, P, N, n, ss, ns, rows, c, nb, rfl, R, b, hn, k⟩ := h
    rfl
  · obtain ⟨B, Γ, P, N, n, ss, ns, rows, c, nb, rfl, R, b, hn, k⟩ := h
    have hu := hu_of hr
    refine ⟨_, (pss_cons (ps_set (i := 4) sc_law_put.nd rfl (Or.inl rfl) (pe_op op_mod (pe_op op_mul (pv 0) pe_int) pe_int))
      (pss_cons (Jl.ps_ifK (PW.pt (pw_or (pt_cmpR (op_eqD hr.units) (pv 2) (Jl.pe_lstO (pe_lst pa_nil)) (nomark _)) (pw_or1 (pt_cmpR op_eq (pe_op op_mod (pv 0) pe_int) pe_int (nomark _))))) (pss_cons (Jl.ps_setK (ps_set (i := 5) sc_law_put.nd rfl (Or.inl rfl) (pe_ix (r := rIxL K) ix_list (pe_lst (pa_cons pe_str (pa_cons pe_str pa_nil))) (pe_op op_mod (pe_op op_fdiv (pv 0) pe_int) pe_int) (fun _ _ => rfl))))
      (pss_cons (ps_set (i := 6) sc_law_put.nd rfl (Or.inl rfl) (pe_op op_shlW pe_int (pe_op op_mod (pe_op op_fdiv (pv 0) pe_int) pe_int)))
      (pss_cons (ps_expr (pe_bm PySem.F.plainAttrs_list PySem.F.slot_list_append PySem.F.type_list_append mt_append (pv 2) (pa_cons (pe_tup (pa_cons (pv 5) (pa_cons (pv 6) (pa_cons (Jl.pe_lstO (pe_lst pa_nil)) (pa_cons (Jl.pe_lstO (pe_lst pa_nil)) pa_nil))))) pa_nil)))
      (pss_one (ps_ret (pe_lst (pa_cons (pe_op Jl.op_addS (pe_op Jl.op_addS (pv 5) pe_str) (pe_callTy Jl.cl_strI (by rfl) T.n_str (by decide +kernel) (pa_cons (pv 6) pa_nil))) pa_nil))))))) pss_nil)
      (pss_cons (ps_set (i := 7) sc_law_put.nd rfl (Or.inl rfl) (pe_ix (r := rIxL K) ix_list (pv 2) (pe_un un_neg pe_int) (fun _ _ => rfl)))
      (pss_cons (ps_if (pt_cmpR op_gt (pe_op op_mod (pv 0) pe_int) pe_int (nomark _)) (pss_cons (ps_set (i := 8) sc_law_put.nd rfl (Or.inl rfl) (pe_call (G_law_name_by) (hr.mono (by decide)) rfl T.m_law_name_by T.F_law_name_by.kp T.b_law_name_by .nil pass0 (pa_cons (pv 1) (pa_cons (pv 4) pa_nil))))
      (pss_cons (Jl.ps_setK (ps_set (i := 9) sc_law_put.nd rfl (Or.inl rfl) (pe_ix (r := rIxL K) ix_list (pe_lst (pa_cons pe_str (pa_cons pe_str (pa_cons pe_str pa_nil)))) (pe_op op_mod (pe_op op_fdiv (pv 4) pe_int) pe_int) (fun _ _ => rfl))))
      (pss_cons (ps_if (pt_cmpR op_in_seq (pv 8) (pe_lc (own := [("_law_row", 11)]) (g := gName 11) (tt := tYes) rfl sc_law_put.nd (pi_list (pv 3)) (blkOk_by (own := [("_law_row", 11)]) (N := N_law_put) (sc := defScope s_law_put) (by decide +kernel)) (fun _ _ _ _ _ => pg_name (i := 11) sc_law_put.nd rfl (Or.inl rfl)) (fun _ _ _ _ _ => pts_nil) (fun _ _ _ _ _ => (pe_ix (r := rIxT K) ix_tup (pv 11) pe_int (fun _ _ => rfl)))) rfl) (pss_one (ps_ret (Jl.pe_lstO (pe_lst pa_nil)))) pss_nil)
      (pss_cons (ps_expr (pe_bm PySem.F.plainAttrs_list PySem.F.slot_list_append PySem.F.type_list_append mt_append (pv 3) (pa_cons (pe_tup (pa_cons (pv 8) (pa_cons (pv 9) (pa_cons (pe_op op_sub (pe_callB (r := Jl.rLenL K) Jl.cl_lenL (by rfl) T.n_len (by decide +kernel) (pa_cons (pv 2) pa_nil)) pe_int) (pa_cons (pe_callB (r := Jl.rLenL K) Jl.cl_lenL (by rfl) T.n_len (by decide +kernel) (pa_cons (pe_ix (r := rIxT K) ix_tup (pv 7) pe_int (fun _ _ => rfl)) pa_nil)) pa_nil))))) pa_nil)))
      (pss_one (ps_ret (pe_lst (pa_cons (pe_op Jl.op_addS (pe_op Jl.op_addS (pv 9) pe_str) (pv 8)) pa_nil)))))))) pss_nil)
      (pss_cons (ps_set (i := 10) sc_law_put.nd rfl (Or.inl rfl) (Jl.pe_lstO (pe_lst (pa_cons (pe_op Jl.op_addS pe_str (pe_callTy Jl.cl_strI (by rfl) T.n_str (by decide +kernel) (pa_cons (pe_call (G_law_word_by) (hr.mono (by decide)) rfl T.m_law_word_by T.F_law_word_by.kp T.b_law_word_by .nil pass0 (pa_cons (pv 0) pa_nil)) pa_nil))) pa_nil))))
      (pss_cons (ps_if (pt_cmpR op_gt (pe_op op_mod (pv 0) pe_int) pe_int (nomark _)) (pss_cons (ps_expr (pe_bm PySem.F.plainAttrs_list PySem.F.slot_list_append PySem.F.type_list_append mt_append (pe_ix (r := rIxT K) ix_tup (pv 7) pe_int (fun _ _ => rfl)) (pa_cons (pe_call (G_law_fill_by) (hr.mono (by decide)) rfl T.m_law_fill_by T.F_law_fill_by.kp T.b_law_fill_by .nil pass0 (pa_cons (pv 4) (pa_cons (pe_callB (r := Jl.rLenL K) Jl.cl_lenL (by rfl) T.n_len (by decide +kernel) (pa_cons (pe_ix (r := rIxT K) ix_tup (pv 7) pe_int (fun _ _ => rfl)) pa_nil)) (pa_cons (pv 1) pa_nil)))) pa_nil)))
      (pss_one (ps_expr (pe_bm PySem.F.plainAttrs_list PySem.F.slot_list_append PySem.F.type_list_append mt_append (pv 10) (pa_cons (pe_call (G_law_fill_row) (hr.mono (by decide)) rfl T.m_law_fill_row T.F_law_fill_row.kp T.b_law_fill_row .nil pass0 (pa_cons (pe_ix (r := rIxL K) ix_list (pe_ix (r := rIxT K) ix_tup (pv 7) pe_int (fun _ _ => rfl)) (pe_un un_neg pe_int) (fun _ _ => rfl)) pa_nil)) pa_nil))))) pss_nil)
      (pss_cons (ps_expr (pe_bm PySem.F.plainAttrs_list PySem.F.slot_list_append PySem.F.type_list_append mt_append (pe_ix (r := rIxT K) ix_tup (pv 7) pe_int (fun _ _ => rfl)) (pa_cons (pe_call (G_law_word_by) (hr.mono (by decide)) rfl T.m_law_word_by T.F_law_word_by.kp T.b_law_word_by .nil pass0 (pa_cons (pv 0) pa_nil)) pa_nil)))
      (pss_one (ps_ret (pv 10)))))))))), ?_⟩
    show (_ : TS) _ [some (.int c), some (.int nb), some (.ref P), some (.ref N), none, none, none, none, none, none, none, none] H
    have pok := b.ok
    obtain ⟨pl1, pl2, pl3, pl4⟩ := b.len
    walk_at "R"
    generalize c * 1583458089 % 2147483647 = num at *
    refine Jl.s_ifP (K := K) (B := B) (Γ := (.ref P, .l (ss.map Jl.streT)) :: (.ref N, .l (ns.map Jl.namT)) :: Γ) (ss = [] ∨ c % 8 = 0) (fun T t1 t2 => ?_) (fun _ H1 R1 => ?_) (fun g H1 R1 => ?_)
    · walk_at "R"
      refine Jl.s_eqNilR (by assumption) (t := .l (ss.map Jl.streT)) (by walk_at "j_mem") (Jl.stres_d ss) (Jl.stres_shaped pok.1) (by walk_at "j_ls") ?_
      walk_at "R"
      refine Jl.s_iteD (fun g => t1 (.inl (List.map_eq_nil_iff.mp g)) _ (Jl.Rep.pick (by assumption) (by walk_at "j_pick"))) (fun g => ?_)
      walk_at "R"
      by_cases g2 : c % 8 = 0
      · rw [decide_eq_true g2]; exact t1 (.inr g2) _ (Jl.Rep.pick (by assumption) (by walk_at "j_pick"))
      · rw [decide_eq_false g2]; exact t2 (fun z => z.elim (fun z => g (by rw [z]; rfl)) g2) _ (Jl.Rep.pick (by assumption) (by walk_at "j_pick"))
    · walk_at "R"
      refine Jl.s_asgS (K := K) (B := B) (Γ := (.ref P, .l (ss.map Jl.streT)) :: (.ref N, .l (ns.map Jl.namT)) :: Γ) Jl.isKind (fun Q2 h2 => ?_) (fun t9 H9 ht9 R9 => ?_)
      · walk_at "R"
        rcases Jl.mod2 (c / 8) with h9 | h9
        · rw [h9]
          walk_at "R"
          exact h2 _ _ (.inl rfl) (Jl.Rep.pick (by assumption) (.tail .refl))
        · rw [h9]
          walk_at "R"
          exact h2 _ _ (.inr rfl) (Jl.Rep.pick (by assumption) (.tail .refl))
      simp only [List.set_cons_zero, List.set_cons_succ]
      walk_at "R"
      obtain ⟨k9, hk9, ek9⟩ : ∃ k9 : Nat, k9 ≤ 16 ∧ c / 16 % 17 = (k9 : Int) := ⟨(c / 16 % 17).toNat, by omega, by omega⟩
      rw [ek9]
      have htw := Jl.two_small hk9
      refine Jl.s_I (Jl.shl_ok 20 (by decide) (by omega) (by omega) (by decide)) ?_
      have est : (1 : Int) * 2 ^ ((k9 : Int)).toNat = 2 ^ k9 := by rw [Int.one_mul, Int.toNat_natCast]
      rw [est]
      have hlk := Jl.numT_len (n := (2 : Int) ^ k9) (by omega) (by omega)
      have bl := b.stre ht9 hk9
      generalize (2 : Int) ^ k9 = st at *
      have hkl := (Jl.kind_clean ht9).2
      walk_at "R"
      refine Jl.s_addS ?_ (by show _ + 1 ≤ _; omega)
      walk_at "R"
      refine Jl.s_strN (by omega) (by omega) (fun hl => ?_)
      refine Jl.s_addS ?_ (by rw [Jl.len_app]; show _ + 1 + _ ≤ _; omega)
      walk_at "R"
      refine k _ _ [[t9, Jl.numT st]] bl (by show 1 ≤ 2; decide) _ _ (Jl.Rep.pick (by assumption) ?_)
      rw [List.map_append]
      show Jl.Pick _ ((_, .f [.d (.str (Jl.joinB [t9, Jl.numT st]))]) :: _)
      rw [Jl.joinB_two]
      exact .per (.f (Jl.pers_cons (.d _) Jl.pers_nil)) (by walk_at "j_mem") (.own (.tail .head) (by walk_at "j_pick"))
    obtain ⟨ss0, s, rfl⟩ : ∃ ss0 s, ss = ss0 ++ [s] := by
      rcases List.eq_nil_or_concat ss with rfl | ⟨ss0, s, rfl⟩
      · exact absurd (.inl rfl) g
      · exact ⟨ss0, s, List.concat_eq_append⟩
    obtain ⟨xs, t, W, G, h1, h2, R2⟩ := R1.openLast
    have hwl := pl4 s (by simp)
    rw [List.length_append, List.length_singleton] at pl2
    walk_at "w"
    refine Jl.s_ixL (.inl (.inl h1)) (atI_last _ _) ?_
    clear R1 R
    walk_at "R"
    refine Jl.s_iteD (fun g5 => ?_) (fun g5 => ?_)
    · walk_at "R"
      have hnm := Jl.nq_nm nb num
      have hnl := (Jl.nm_clean hnm).2
      generalize Jl.nqT nb num = nm at *
      refine Jl.s_asgS (K := K) (B := B) (Γ := (.ref W, .l (s.words.map Jl.intT)) :: (.ref G, .l (s.fills.map Jl.fillTr)) :: (.ref t, .t [.d (.str s.kind), .d (.int s.step), .h (.ref W), .h (.ref G)]) :: (.ref P, .l (ss0.map Jl.streT ++ [.h (.ref t)])) :: (.ref N, .l (ns.map Jl.namT)) :: Γ) Jl.isSort (fun Q2 h3 => ?_) (fun t9 H9 ht9 R9 => ?_)
      · walk_at "R"
        rcases Jl.mod3 (num / 400) with h9 | h9 | h9
        · rw [h9]
          walk_at "R"
          exact h3 _ _ (.inl rfl) (Jl.Rep.pick (by assumption) (.tail .refl))
        · rw [h9]
          walk_at "R"
          exact h3 _ _ (.inr (.inl rfl)) (Jl.Rep.pick (by assumption) (.tail .refl))
        · rw [h9]
          walk_at "R"
          exact h3 _ _ (.inr (.inr rfl)) (Jl.Rep.pick (by assumption) (.tail .refl))
      have hsl := (Jl.sort_clean ht9).2
      simp only [List.set_cons_zero, List.set_cons_succ]
      walk_at "R"
      refine Jl.lcL_T (l := ns) (e := Jl.namT) (fun n => some (Jl.strT n.name)) (by assumption) (.o (Jl.pers_map Jl.namT_per) (by walk_at "j_mem")) (by omega) (fun i y H' D t0 hi R' Ry Rn hy hn => ?_) (fun D H5 R5 => ?_)
      · refine .any fun w R9 => ?_
        walk_at "w"
        refine ⟨rfl, ?_⟩
        walk_at "R"
        exact hy _ _ _ rfl (Jl.Rep.pick (by assumption) (by walk_at "j_pick"))
      rw [Jl.filterMap_some, show (ns.map fun n => Jl.strT n.name) = (ns.map (·.name)).map Jl.strT by rw [List.map_map]; rfl] at R5
      walk_at "R"
      refine Jl.s_inR (ns.map (·.name)) R5 (.o (Jl.pers_map Jl.strT_per) (by walk_at "j_mem")) ?_
      walk_at "R"
      by_cases hin : nm ∈ ns.map (·.name)
      · refine Jl.s_iteDt hin ?_
        walk_at "R"
        rename_i p6 H6 R6
        refine k _ _ [] (by rw [List.append_nil]; exact b.skip) (by decide) _ _ ((Jl.Rep.closeP (ss := ss0) (c := s.kind) (st := s.step) (ws := s.words) (fs := s.fills) (W := W) (G := G) (t := t) (Γ := (.ref p6, .l []) :: (.ref N, .l (ns.map Jl.namT)) :: Γ) R6 (by walk_at "j_pick")).head2 Jl.pers_nil)
      · refine Jl.s_iteDf hin ?_
        have R6 := R5.pick (Γ' := (.ref W, .l (s.words.map Jl.intT)) :: (.ref G, .l (s.fills.map Jl.fillTr)) :: (.ref t, .t [.d (.str s.kind), .d (.int s.step), .h (.ref W), .h (.ref G)]) :: (.ref P, .l (ss0.map Jl.streT ++ [.h (.ref t)])) :: (.ref N, .l (ns.map Jl.namT)) :: Γ) (.tail .refl)
        clear R5 R9 R2
        walk_at "R"
        refine Jl.s_addS ?_ (by show _ + 1 ≤ _; omega)
        walk_at "R"
        refine Jl.s_addS ?_ (by rw [Jl.len_app]; show _ + 1 + _ ≤ _; omega)
        walk_at "R"
        rename_i p7 H7 R7
        simp only [List.length_map, List.length_append, List.length_singleton, List.length_cons, List.length_nil] at R7
        rw [show ((ss0.length + (0 + 1) : Nat) : Int) - 1 = (ss0.length : Int) by omega] at R7
        have R8 := Jl.Rep.closeP (ss := ss0) (c := s.kind) (st := s.step) (ws := s.words) (fs := s.fills) (W := W) (G := G) (t := t) (P := P) (Γ := (.ref p7, .f [.d (.str (t9 ++ " " ++ nm))]) :: (.ref N, .l (ns.map Jl.namT ++ [Jl.namT ⟨nm, t9, (ss0.length : Int), (s.words.length : Nat)⟩])) :: Γ) R7 (.own (.tail (.tail (.tail .head))) (.own (.tail (.tail (.tail .head))) (.own (.tail (.tail (.tail .head))) (.own (.tail (.tail (.tail .head))) (.own .head (.own .head (by walk_at "j_pick")))))))
        have R9 := R8.pick (Γ' := (.ref p7, .f [.d (.str (t9 ++ " " ++ nm))]) :: (.ref P, .l ((ss0 ++ [s]).map Jl.streT)) :: (.ref N, .l (ns.map Jl.namT ++ [Jl.namT ⟨nm, t9, (ss0.length : Int), (s.words.length : Nat)⟩])) :: Γ) (.own (.tail .head) (.own .head .refl))
        refine k _ _ [[t9, nm]] (b.name ht9 hnm hin) (by show 1 ≤ 2; decide) _ _ ?_
        show Jl.Rep _ _ _ ((_, .f [.d (.str (Jl.joinB [t9, nm]))]) :: _)
        rw [Jl.joinB_two, List.map_append (l₁ := ns)]
        exact R9
    · walk_at "R"
      refine use_word_by (by assumption) fun H5 R5 => ?_
      walk_at "R"
      have hw := Jl.wordBy_ok c
      generalize hwe : Jl.wordBy c = w at *
      have hlw := Jl.numT_len (n := w) (by omega) (by omega)
      refine Jl.s_strN (by omega) (by omega) (fun hl => ?_)
      refine Jl.s_addS ?_ (by show 5 + _ ≤ _; omega)
      have ejw : ("word " : Str) ++ Jl.numT w = Jl.joinB ["word", Jl.numT w] := by rw [Jl.joinB_two]; rfl
      rw [ejw]
      walk_at "R"
      rename_i pr Hr Rr
      refine Jl.s_iteD (fun g6 => ?_) (fun g6 => ?_)
      rotate_left
      · walk_at "R"
        refine use_word_by (by assumption) fun H7 R7 => ?_
        rw [hwe]
        walk_at "R"
        rename_i H8 R8
        refine k _ _ [["word", Jl.numT w]] (b.word hw.1 hw.2) (by show 1 ≤ 2; decide) _ _ (Jl.Rep.head2 (Jl.Rep.closeP (ss := ss0) (c := s.kind) (st := s.step) (ws := s.words ++ [w]) (fs := s.fills) (W := W) (G := G) (t := t) (P := P) (Γ := (.ref pr, .l [.d (.str (Jl.joinB ["word", Jl.numT w]))]) :: (.ref N, .l (ns.map Jl.namT)) :: Γ) R8 ?_) (Jl.pers_cons (.d _) Jl.pers_nil))
        rw [List.map_append]
        exact .own .head (.own (.tail .head) (.own (.tail .head) (.own (.tail .head) (.own .head (.own .head (by walk_at "j_pick"))))))
      walk_at "R"
      refine use_fill_by (by assumption) fun f hf1 hf2 hf3 hf4 hf5 hf6 p7 H7 R7 => ?_
      rw [List.length_map] at hf1
      walk_at "R"
      refine Jl.s_ixR (ts := s.fills.map Jl.fillTr ++ [Jl.fillTr f]) (by assumption) (by walk_at "j_ls") (atI_last _ _) ?_
      refine .any fun v9 R10 => ?_
      walk_at "R"
      refine use_fill_row (f := f) R10 List.mem_cons_self hf2 hf4 ⟨hf5, hf6⟩ fun H11 R11 => ?_
      walk_at "R"
      refine use_word_by (by assumption) fun H12 R12 => ?_
      rw [hwe]
      walk_at "R"
      rename_i H13 R13
      obtain ⟨fa, fr, fn, fd, fo⟩ := f
      have hf1 : fa = (s.words.length : Int) := hf1
      subst hf1
      have eF : Jl.addFill (Jl.addWord s w) fr fn fd fo = Jl.Stre.mk s.kind s.step (s.words ++ [w]) (s.fills ++ [⟨(s.words.length : Int), fr, fn, fd, fo⟩]) := by
        unfold Jl.addFill Jl.addWord
        rw [show (((s.words ++ [w]).length : Nat) : Int) - 1 = (s.words.length : Int) by rw [List.length_append, List.length_singleton]; omega]
      have bf := b.fill (w := w) (add := fd) (rule := fr) (nm := fn) (soft := fo) hw.1 hw.2 hf2 hf3 hf4 hf5 hf6
      rw [eF] at bf
      refine k _ _ [["word", Jl.numT w], [Jl.fillHd fo, fr, fn, Jl.numT fd]] bf (by show 2 ≤ 2; decide) _ _ (Jl.Rep.head2 (Jl.Rep.closeP (ss := ss0) (c := s.kind) (st := s.step) (ws := s.words ++ [w]) (fs := s.fills ++ [⟨(s.words.length : Int), fr, fn, fd, fo⟩]) (W := W) (G := G) (t := t) (P := P) (Γ := (.ref pr, .l [.d (.str (Jl.joinB ["word", Jl.numT w])), .d (.str (Jl.joinB [Jl.fillHd fo, fr, fn, Jl.numT fd]))]) :: (.ref N, .l (ns.map Jl.namT)) :: Γ) R13 ?_) (Jl.pers_cons (.d _) (Jl.pers_cons (.d _) Jl.pers_nil)))
      rw [List.map_append, List.map_append (l₁ := s.fills)]
      exact .own .head (.own (.tail (.tail .head)) (.own (.tail (.tail (.tail .head))) (.own (.tail (.tail (.tail .head))) (.own .head (.own (.tail (.tail .head)) (by walk_at "j_pick"))))))
/-! ### _law_built -/
def sp_law_built (K : PySem.W.Frag) : Sp := fun vs H Q _ => ∃ (B : Hp) (Γ : Jl.Ents) (a : Addr) (ns : List Int), vs = [.ref a] ∧ Jl.Rep K B H Γ ∧ SqL K B a (ns.map V.int) ∧ ns.length ≤ 63 ∧ ∀ (n : Nat) (tt : Str) ss ns rows, Jl.isNm tt.cps.toList = true → Jl.PB n ss ns rows → n ≤ 63 → ∀ p H', Jl.Rep K B H' ((.ref p, .t [.f (((Jl.headP tt :: rows).map Jl.joinB).map Jl.strT), Jl.pcT tt ⟨ss, ns⟩]) :: Γ) → Q (.ref p) H'
theorem use_built {K : PySem.W.Frag} {B : Hp} {Γ : Jl.Ents} {a : Addr} {ns : List Int} {H : Hp} {Q : VK} {E : XK} (R : Jl.Rep K B H Γ) (hS : SqL K B a (ns.map V.int)) (hlen : ns.length ≤ 63) (z : ∀ (n : Nat) (tt : Str) ss ns rows, Jl.isNm tt.cps.toList = true → Jl.PB n ss ns rows → n ≤ 63 → ∀ p H', Jl.Rep K B H' ((.ref p, .t [.f (((Jl.headP tt :: rows).map Jl.joinB).map Jl.strT), Jl.pcT tt ⟨ss, ns⟩]) :: Γ) → Q (.ref p) H') : sp_law_built K [.ref a] H Q E := ⟨B, Γ, a, ns, rfl, R, hS, hlen, z⟩
theorem ok_law_built (T : Txt K mg) : FnOk P w K mg base CX0 4 T.a_law_built T.d_law_built ["_law_script"] (sp_law_built K) := by
  have G_law_cell_at := ok_law_cell_at (P := P) (w := w) (base := base) T
  have G_law_name_by := ok_law_name_by (P := P) (w := w) (base := base) T
  have G_law_put := ok_law_put (P := P) (w := w) (base := base) T
  refine T.F_law_built.ok sc_law_built (fun vs H Q E h => ?_) (fun cdv A outer s H vs Q E hr h => ?_)
  · obtain ⟨B, Γ, a, ns, rfl, R, hS, hlen, k⟩ := h
    rfl
  · obtain ⟨B, Γ, a, ns, rfl, R, hS, hlen, k⟩ := h
    have hu := hu_of hr
    refine ⟨_, (pss_cons (ps_set (i := 1) sc_law_built.nd rfl (Or.inl rfl) (pe_call (G_law_cell_at) (hr.mono (by decide)) rfl T.m_law_cell_at T.F_law_cell_at.kp T.b_law_cell_at .nil pass0 (pa_cons (pv 0) (pa_cons pe_int pa_nil))))
      (pss_cons (ps_set (i := 2) sc_law_built.nd rfl (Or.inl rfl) (pe_call (G_law_name_by) (hr.mono (by decide)) rfl T.m_law_name_by T.F_law_name_by.kp T.b_law_name_by .nil pass0 (pa_cons (pe_call (G_law_cell_at) (hr.mono (by decide)) rfl T.m_law_cell_at T.F_law_cell_at.kp T.b_law_cell_at .nil pass0 (pa_cons (pv 0) (pa_cons pe_int pa_nil))) (pa_cons (pe_op op_fdiv (pe_call (G_law_cell_at) (hr.mono (by decide)) rfl T.m_law_cell_at T.F_law_cell_at.kp T.b_law_cell_at .nil pass0 (pa_cons (pv 0) (pa_cons pe_int pa_nil))) pe_int) pa_nil))))
      (pss_cons (ps_set (i := 3) sc_law_built.nd rfl (Or.inl rfl) (Jl.pe_lstO (pe_lst pa_nil)))
      (pss_cons (ps_set (i := 4) sc_law_built.nd rfl (Or.inl rfl) (Jl.pe_lstO (pe_lst pa_nil)))
      (pss_cons (ps_set (i := 5) sc_law_built.nd rfl (Or.inl rfl) (pe_lst (pa_cons (pe_op Jl.op_addS pe_str (pv 2)) pa_nil)))
      (pss_cons (ps_for PassesOwn.never rfl (pi_list (pe_slice (r := rSlL K) sl_list (pv 0) (po_some pe_int) (po_some pe_int))) (pg_name (i := 6) sc_law_built.nd rfl (Or.inl rfl)) (pss_one (ps_set (i := 5) sc_law_built.nd rfl (Or.inl rfl) (pe_op (r := Jl.rCatS K) Jl.op_catS (pv 5) (pe_call (G_law_put) (hr.mono (by decide)) rfl T.m_law_put T.F_law_put.kp T.b_law_put .nil pass0 (pa_cons (pv 6) (pa_cons (pv 1) (pa_cons (pv 3) (pa_cons (pv 4) pa_nil)))))))))
      (pss_one (ps_ret (pe_tup (pa_cons (pv 5) (pa_cons (pe_tup (pa_cons (pv 2) (pa_cons (pv 3) (pa_cons (pv 4) pa_nil)))) pa_nil))))))))))), ?_⟩
    show (_ : TS) _ [some (.ref a), none, none, none, none, none, none] H
    walk_at "R"
    refine use_cell_at (Jl.s_scr R hS) (by decide) ?_
    walk_at "R"
    refine use_cell_at (Jl.s_scr R hS) (by decide) ?_
    walk_at "R"
    refine use_cell_at (Jl.s_scr R hS) (by decide) ?_
    walk_at "R"
    have hnm := Jl.nq_nm (ns.getD (Int.toNat 1) 0) (ns.getD (Int.toNat 1) 0 / 338)
    generalize Jl.nqT (ns.getD (Int.toNat 1) 0) (ns.getD (Int.toNat 1) 0 / 338) = tt at *
    generalize ns.getD (Int.toNat 0) 0 = nb at *
    have hnl := (Jl.nm_clean hnm).2
    refine Jl.s_addS ?_ (by show 6 + _ ≤ _; omega)
    have ejp : ("piece " : Str) ++ tt = Jl.joinB (Jl.headP tt) := by
      unfold Jl.headP
      rw [Jl.joinB_two]; rfl
    rw [ejp]
    walk_at "R"
    rename_i P HP RP N HN RN p9 H9 R9
    refine Jl.s_slI R9 hS fun ms ems hms q HQ RQ => ?_
    have RQ := RQ.pick (Γ' := (.ref p9, .f (((Jl.headP tt :: []).map Jl.joinB).map Jl.strT)) :: (.ref q, .f (ms.map Jl.intT)) :: (.ref P, .l (([] : List Jl.Stre).map Jl.streT)) :: (.ref N, .l (([] : List Jl.Nam).map Jl.namT)) :: Γ) (.own (.tail .head) (.own .head (.own (.tail .head) (.own .head .refl))))
    clear RP RN R9
    refine Jl.forL_T (K := K) (B := B) (l := ms) (e := Jl.intT) (fun i σ Γ' => ∃ (ss : List Jl.Stre) (ns' : List Jl.Nam) (rows : List (List Str)) (p9 : Addr) (v5 : Option V), Jl.PB i ss ns' rows ∧ Γ' = (.ref p9, .f (((Jl.headP tt :: rows).map Jl.joinB).map Jl.strT)) :: (.ref q, .f (ms.map Jl.intT)) :: (.ref P, .l (ss.map Jl.streT)) :: (.ref N, .l (ns'.map Jl.namT)) :: Γ ∧ σ = [some (.ref a), some (.int nb), some (.str tt), some (.ref P), some (.ref N), some (.ref p9), v5]) RQ ⟨[], [], [], p9, none, .nil, rfl, rfl⟩ (fun i σ' Γ' _ h => ?_) (fun i y σ' H' Γ' hi h R2 => ?_) (fun σ' H' Γ' h R2 => ?_)
    · obtain ⟨ss, ns', rows, p9, v5, b, rfl, rfl⟩ := h
      exact .f (Jl.pers_map Jl.intT_per) (by walk_at "j_mem")
    · obtain ⟨ss, ns', rows, p9, v5, b, rfl, rfl⟩ := h
      have hil : i < ms.length := (List.getElem?_eq_some_iff.mp hi).1
      have hbl := b.len.1
      refine .sc rfl (.int _) fun R3 => ?_
      walk_at "R"
      refine use_law_put (Γ := (.ref p9, .f (((Jl.headP tt :: rows).map Jl.joinB).map Jl.strT)) :: (.ref q, .f (ms.map Jl.intT)) :: Γ) (R3.pick (by walk_at "j_pick")) b (by omega) fun ss' ns'' nr b' hnl p5 H5 R5 => ?_
      walk_at "R"
      rename_i p6 H6 R6
      refine ⟨_, R6.pick ?_, ss', ns'', rows ++ nr, p6, _, b', rfl, rfl⟩
      rw [← List.cons_append, List.map_append, List.map_append]
      exact .own .head (by walk_at "j_pick")
    obtain ⟨ss, ns', rows, p9, v5, b, rfl, rfl⟩ := h
    walk_at "R"
    exact k ms.length tt ss ns' rows hnm b (by omega) _ _ (Jl.Rep.pick (by assumption) (by walk_at "j_pick"))
/-! ### _law_so -/
def sp_law_so (K : PySem.W.Frag) : Sp := fun vs H Q _ => ∃ (x y : V) (w : Jl.Piece), vs = [x, y] ∧ Dp K H x (Jl.pieceD w) ∧ Dp K H y (Jl.pieceD w) ∧ w.ok ∧ (w.stres.length ≤ 50000 ∧ w.names.length ≤ 50000 ∧ ∀ s ∈ w.stres, s.words.length ≤ 50000 ∧ s.fills.length ≤ 50000) ∧ ∀ H', Same H H' → Q (.bl true) H'
theorem use_so {K : PySem.W.Frag} {x y : V} {w : Jl.Piece} {H : Hp} {Q : VK} {E : XK} (hx : Dp K H x (Jl.pieceD w)) (hy : Dp K H y (Jl.pieceD w)) (wok : w.ok) (hl : w.stres.length ≤ 50000 ∧ w.names.length ≤ 50000 ∧ ∀ s ∈ w.stres, s.words.length ≤ 50000 ∧ s.fills.length ≤ 50000) (z : ∀ H', Same H H' → Q (.bl true) H') : sp_law_so K [x, y] H Q E := ⟨x, y, w, rfl, hx, hy, wok, hl, z⟩
theorem ok_law_so (T : Txt K mg) : FnOk P w K mg base CX0 2 T.a_law_so T.d_law_so ["_law_found", "_law_due"] (sp_law_so K) := by
  have G_law_whole := ok_law_whole (P := P) (w := w) (base := base) T
  refine T.F_law_so.ok sc_law_so (fun vs H Q E h => ?_) (fun cdv A outer s H vs Q E hr h => ?_)
  · obtain ⟨x, y, w, rfl, hx, hy, wok, hl, k⟩ := h
    rfl
  · obtain ⟨x, y, w, rfl, hx, hy, wok, hl, k⟩ := h
    have hu := hu_of hr
    refine ⟨_, (pss_cons (ps_if (PW.pt (pw_or (pt_not (pt_val (pe_callB call_isi (by rfl) T.n_isinstance (by decide +kernel) (pa_cons (pv 0) (pa_cons (pe_bltn (v := .ty "tuple") (u := .type "tuple") (by rfl) T.n_tuple (by decide +kernel) rfl) pa_nil))))) (pw_or1 (pt_cmpR (op_neD hr.units) (pv 0) (pv 1) (nomark _))))) (pss_one (ps_ret pe_bl)) pss_nil)
      (pss_cons (ps_for PassesOwn.never rfl (pi_list (pe_ix (r := rIxT K) ix_tup (pv 0) pe_int (fun _ _ => rfl))) (pg_tup rfl (pgs_cons (pg_name (i := 2) sc_law_so.nd rfl (Or.inl rfl)) (pgs_cons (pg_name (i := 3) sc_law_so.nd rfl (Or.inl rfl)) (pgs_cons (pg_name (i := 4) sc_law_so.nd rfl (Or.inl rfl)) (pgs_cons (pg_name (i := 5) sc_law_so.nd rfl (Or.inl rfl)) pgs_nil))))) (pss_cons (ps_if (PW.pt (pw_or (pt_not (pt_val (pe_call (G_law_whole) (hr.mono (by decide)) rfl T.m_law_whole T.F_law_whole.kp T.b_law_whole .nil pass0 (pa_cons (pv 3) pa_nil)))) (pw_or1 (pt_cmpR (op_neD hr.units) (pe_lc (own := [("_law_word", 14)]) (g := gName 14) rfl sc_law_so.nd (pi_list (pv 4)) (blkOk_by (own := [("_law_word", 14)]) (N := N_law_so) (sc := defScope s_law_so) (by decide +kernel)) (fun _ _ _ _ _ => pg_name (i := 14) sc_law_so.nd rfl (Or.inl rfl)) (fun _ _ _ _ _ => (pts_one (pt_not (pt_val (pe_call (G_law_whole) (hr.mono (by decide)) rfl T.m_law_whole T.F_law_whole.kp T.b_law_whole .nil pass0 (pa_cons (pv 14) pa_nil)))))) (fun _ _ _ _ _ => (pv 14))) (pe_lst pa_nil) (nomark _))))) (pss_one (ps_ret pe_bl)) pss_nil)
      (pss_one (ps_for PassesOwn.never rfl (pi_list (pv 5)) (pg_tup rfl (pgs_cons (pg_name (i := 6) sc_law_so.nd rfl (Or.inl rfl)) (pgs_cons (pg_name (i := 7) sc_law_so.nd rfl (Or.inl rfl)) (pgs_cons (pg_name (i := 8) sc_law_so.nd rfl (Or.inl rfl)) (pgs_cons (pg_name (i := 9) sc_law_so.nd rfl (Or.inl rfl)) (pgs_cons (pg_name (i := 10) sc_law_so.nd rfl (Or.inl rfl)) pgs_nil)))))) (pss_one (ps_if (PW.pt (pw_or (pt_not (pt_val (pe_call (G_law_whole) (hr.mono (by decide)) rfl T.m_law_whole T.F_law_whole.kp T.b_law_whole .nil pass0 (pa_cons (pv 6) pa_nil)))) (pw_or (pt_not (pt_val (pe_call (G_law_whole) (hr.mono (by decide)) rfl T.m_law_whole T.F_law_whole.kp T.b_law_whole .nil pass0 (pa_cons (pv 9) pa_nil)))) (pw_or1 (pt_not (pt_val (pe_callB call_isi (by rfl) T.n_isinstance (by decide +kernel) (pa_cons (pv 10) (pa_cons (pe_bltn (v := .ty "bool") (u := .type "bool") (by rfl) T.n_bool (by decide +kernel) rfl) pa_nil))))))))) (pss_one (ps_ret pe_bl)) pss_nil))))))
      (pss_cons (ps_for PassesOwn.never rfl (pi_list (pe_ix (r := rIxT K) ix_tup (pv 0) pe_int (fun _ _ => rfl))) (pg_tup rfl (pgs_cons (pg_name (i := 8) sc_law_so.nd rfl (Or.inl rfl)) (pgs_cons (pg_name (i := 11) sc_law_so.nd rfl (Or.inl rfl)) (pgs_cons (pg_name (i := 12) sc_law_so.nd rfl (Or.inl rfl)) (pgs_cons (pg_name (i := 13) sc_law_so.nd rfl (Or.inl rfl)) pgs_nil))))) (pss_one (ps_if (PW.pt (pw_or (pt_not (pt_val (pe_call (G_law_whole) (hr.mono (by decide)) rfl T.m_law_whole T.F_law_whole.kp T.b_law_whole .nil pass0 (pa_cons (pv 12) pa_nil)))) (pw_or1 (pt_not (pt_val (pe_call (G_law_whole) (hr.mono (by decide)) rfl T.m_law_whole T.F_law_whole.kp T.b_law_whole .nil pass0 (pa_cons (pv 13) pa_nil))))))) (pss_one (ps_ret pe_bl)) pss_nil)))
      (pss_one (ps_ret pe_bl))))), ?_⟩
    show (_ : TS) _ [some (x), some (y), none, none, none, none, none, none, none, none, none, none, none, none, none] H
    have hsh := Jl.piece_shaped wok
    have R : Jl.Rep K H H [(x, .d (Jl.pieceD w))] := (Jl.Rep.start H).addB hx
    have tp : Jl.Tp [(x, .d (Jl.pieceD w))] x ([.d (.str w.name), .d (.list (w.stres.map Jl.streD)), .d (.list (w.names.map Jl.namD))]) := .g (ds := [.str w.name, .list (w.stres.map Jl.streD), .list (w.names.map Jl.namD)]) List.mem_cons_self
    walk_at "R"
    refine Jl.s_isiT (k := true) R tp (by decide +kernel) ?_
    walk_at "R"
    refine Jl.s_neR R hx hy hsh ?_
    walk_at "R"
    rename_i a3 R3
    refine Jl.forL_T (K := K) (B := H) (l := w.stres) (e := fun s => .d (Jl.streD s)) (fun i σ Γ' => ∃ v2 v3 v4 v5 v6 v7 v8 v9 v10 v11 v12 v13 v14 : Option V, Γ' = [(a3, .d (.list (w.stres.map Jl.streD))), (x, .d (Jl.pieceD w))] ∧ σ = [some x, some y, v2, v3, v4, v5, v6, v7, v8, v9, v10, v11, v12, v13, v14]) (R3.pick (by walk_at "j_pick")) ⟨_, _, _, _, _, _, _, _, _, _, _, _, _, rfl, rfl⟩ (fun i σ' Γ' _ h => ?_) (fun i q σ' H' Γ' hi h R4 => ?_) (fun σ' H' Γ' h R4 => ?_)
    · obtain ⟨v2, v3, v4, v5, v6, v7, v8, v9, v10, v11, v12, v13, v14, rfl, rfl⟩ := h
      exact .gm (f := Jl.streD) (by walk_at "j_mem")
    · obtain ⟨v2, v3, v4, v5, v6, v7, v8, v9, v10, v11, v12, v13, v14, rfl, rfl⟩ := h
      refine .any fun a4 R5 => ?_
      obtain ⟨hql, hqf⟩ := hl.2.2 q (List.mem_of_getElem? hi)
      walk_at "R"
      rename_i vw vf Rwf
      refine Jl.lcL_T (l := q.words) (e := fun n => .d (.int n)) (fun _ => none) (by assumption) (.gm (f := PyData.int) (by walk_at "j_mem")) (by omega) (fun i y H' D t0 hi R' Ry Rn hy hn => ?_) (fun D H2 R2 => ?_)
      · refine .sc rfl (.int _) fun R9 => ?_
        walk_at "w"
        refine ⟨rfl, ?_⟩
        walk_at "w"
        exact hn rfl _ R9
      have e0 : q.words.filterMap (fun _ => (none : Option Jl.Tr)) = [] := List.filterMap_eq_nil_iff.mpr fun _ _ => rfl
      rw [e0] at R2
      walk_at "R"
      refine Jl.s_neNilR (by assumption) (v := .ref D) (t := .l []) (ds := []) (by walk_at "j_mem") (Jl.TrDs.l .nil) (by decide +kernel) (by walk_at "j_ls") ?_
      walk_at "R"
      refine Jl.s_iteNt rfl ?_
      walk_at "R"
      rename_i p5 H5 R6
      refine Jl.forL_T (K := K) (B := H) (l := q.fills) (e := fun f => .d (Jl.fillD f)) (fun i σ Γ' => ∃ u6 u7 u8 u9 u10 u11 u12 u13 u14 : Option V, Γ' = [(vf, .d (.list (q.fills.map Jl.fillD))), (a3, .d (.list (w.stres.map Jl.streD))), (x, .d (Jl.pieceD w))] ∧ σ = [some x, some y, some (.str q.kind), some (.int q.step), some vw, some vf, u6, u7, u8, u9, u10, u11, u12, u13, u14]) (R6.pick (by walk_at "j_pick")) ⟨_, _, _, _, _, _, _, _, _, rfl, rfl⟩ (fun i σ' Γ' _ h => ?_) (fun i f σ' H' Γ' hi h R4 => ?_) (fun σ' H' Γ' h R4 => ?_)
      · obtain ⟨u6, u7, u8, u9, u10, u11, u12, u13, u14, rfl, rfl⟩ := h
        exact .gm (f := Jl.fillD) (by walk_at "j_mem")
      · obtain ⟨u6, u7, u8, u9, u10, u11, u12, u13, u14, rfl, rfl⟩ := h
        refine .any fun a4 R5 => ?_
        walk_at "R"
        exact ⟨_, Jl.Rep.pick (by assumption) (by walk_at "j_pick"), _, _, _, _, _, _, _, _, _, rfl, rfl⟩
      obtain ⟨u6, u7, u8, u9, u10, u11, u12, u13, u14, rfl, rfl⟩ := h
      walk_at "R"
      exact ⟨_, R4.pick (by walk_at "j_pick"), _, _, _, _, _, _, _, _, _, _, _, _, _, rfl, rfl⟩
    obtain ⟨v2, v3, v4, v5, v6, v7, v8, v9, v10, v11, v12, v13, v14, rfl, rfl⟩ := h
    walk_at "R"
    rename_i a5 R5
    refine Jl.forL_T (K := K) (B := H) (l := w.names) (e := fun s => .d (Jl.namD s)) (fun i σ Γ' => ∃ v2 v3 v4 v5 v6 v7 v8 v9 v10 v11 v12 v13 v14 : Option V, Γ' = [(a5, .d (.list (w.names.map Jl.namD))), (x, .d (Jl.pieceD w))] ∧ σ = [some x, some y, v2, v3, v4, v5, v6, v7, v8, v9, v10, v11, v12, v13, v14]) (R5.pick (by walk_at "j_pick")) ⟨_, _, _, _, _, _, _, _, _, _, _, _, _, rfl, rfl⟩ (fun i σ' Γ' _ h => ?_) (fun i q σ' H' Γ' hi h R4 => ?_) (fun σ' H' Γ' h R4 => ?_)
    · obtain ⟨v2, v3, v4, v5, v6, v7, v8, v9, v10, v11, v12, v13, v14, rfl, rfl⟩ := h
      exact .gm (f := Jl.namD) (by walk_at "j_mem")
    · obtain ⟨v2, v3, v4, v5, v6, v7, v8, v9, v10, v11, v12, v13, v14, rfl, rfl⟩ := h
      refine .any fun a4 R5 => ?_
      walk_at "R"
      exact ⟨_, Jl.Rep.pick (by assumption) (by walk_at "j_pick"), _, _, _, _, _, _, _, _, _, _, _, _, _, rfl, rfl⟩
    obtain ⟨v2, v3, v4, v5, v6, v7, v8, v9, v10, v11, v12, v13, v14, rfl, rfl⟩ := h
    walk_at "R"
    exact k _ R4.base
/-! ### law -/
def sp_law (K : PySem.W.Frag) : Sp := fun vs H Q _ => ∃ (a : Addr) (ns : List Int), vs = [.ref a] ∧ SqL K H a (ns.map V.int) ∧ ns.length ≤ 63 ∧ ∀ H', Q (.bl true) H'
theorem ok_law (T : Txt K mg) : FnOk P w K mg base CX0 8 T.a_law T.d_law ["_law_script"] (sp_law K) := by
  have G_read_piece := ok_read_piece (P := P) (w := w) (base := base) T
  have G_law_built := ok_law_built (P := P) (w := w) (base := base) T
  have G_law_so := ok_law_so (P := P) (w := w) (base := base) T
  refine T.F_law.ok sc_law (fun vs H Q E h => ?_) (fun cdv A outer s H vs Q E hr h => ?_)
  · obtain ⟨a, ns, rfl, hS, hlen, k⟩ := h
    rfl
  · obtain ⟨a, ns, rfl, hS, hlen, k⟩ := h
    have hu := hu_of hr
    refine ⟨_, (pss_cons (ps_asg (pe_call (G_law_built) (hr.mono (by decide)) rfl T.m_law_built T.F_law_built.kp T.b_law_built .nil pass0 (pa_cons (pv 0) pa_nil)) (pg_tup rfl (pgs_cons (pg_name (i := 1) sc_law.nd rfl (Or.inl rfl)) (pgs_cons (pg_name (i := 2) sc_law.nd rfl (Or.inl rfl)) pgs_nil))))
      (pss_cons (ps_set (i := 3) sc_law.nd rfl (Or.inl rfl) (pe_m1 (r := Jl.rJoin K) PySem.F.slot_str_join PySem.F.type_str_join Jl.mt_joinS pe_str (pv 1)))
      (pss_cons (ps_set (i := 4) sc_law.nd rfl (Or.inl rfl) (pe_callS (G_read_piece) (hr.mono (by decide)) rfl T.m_read_piece T.F_read_piece.kp T.b_read_piece (fun σ => passAt takes0 σ) (pa_cons (pv 3) pa_nil)))
      (pss_cons (ps_if (pt_not (pt_val (pe_call (G_law_so) (hr.mono (by decide)) rfl T.m_law_so T.F_law_so.kp T.b_law_so .nil pass0 (pa_cons (pv 4) (pa_cons (pv 2) pa_nil))))) (pss_one (ps_ret pe_bl)) pss_nil)
      (pss_cons (ps_for PassesOwn.never rfl (pi_list (pe_ix (r := rIxT K) ix_tup (pv 4) pe_int (fun _ _ => rfl))) (pg_tup rfl (pgs_cons (pg_name (i := 5) sc_law.nd rfl (Or.inl rfl)) (pgs_cons (pg_name (i := 6) sc_law.nd rfl (Or.inl rfl)) (pgs_cons (pg_name (i := 7) sc_law.nd rfl (Or.inl rfl)) (pgs_cons (pg_name (i := 8) sc_law.nd rfl (Or.inl rfl)) pgs_nil))))) (pss_cons (ps_expr (pe_bm PySem.F.plainAttrs_list PySem.F.slot_list_append PySem.F.type_list_append mt_append (pv 7) (pa_cons pe_int pa_nil)))
      (pss_one (ps_expr (pe_bm0 PySem.F.plainAttrs_list PySem.F.slot_list_clear PySem.F.type_list_clear mt_clear (pv 8))))))
      (pss_cons (ps_expr (pe_bm PySem.F.plainAttrs_list PySem.F.slot_list_append PySem.F.type_list_append mt_append (pe_ix (r := rIxT K) ix_tup (pv 4) pe_int (fun _ _ => rfl)) (pa_cons (pe_tup (pa_cons pe_str (pa_cons pe_int (pa_cons (Jl.pe_lstO (pe_lst pa_nil)) (pa_cons (Jl.pe_lstO (pe_lst pa_nil)) pa_nil))))) pa_nil)))
      (pss_cons (ps_expr (pe_bm0 PySem.F.plainAttrs_list PySem.F.slot_list_clear PySem.F.type_list_clear mt_clear (pe_ix (r := rIxT K) ix_tup (pv 4) pe_int (fun _ _ => rfl))))
      (pss_cons (ps_set (i := 9) sc_law.nd rfl (Or.inl rfl) (pe_callB (r := Jl.rLenL K) Jl.cl_lenL (by rfl) T.n_len (by decide +kernel) (pa_cons (pe_ix (r := rIxT K) ix_tup (pv 4) pe_int (fun _ _ => rfl)) pa_nil)))
      (pss_cons (ps_set (i := 10) sc_law.nd rfl (Or.inl rfl) (pe_m1 (r := Jl.rJoin K) PySem.F.slot_str_join PySem.F.type_str_join Jl.mt_joinS pe_str (pe_slice (r := rSlL K) sl_list (pv 1) po_none (po_some (pe_op op_add pe_int (pe_op op_fdiv (pe_callB (r := Jl.rLenL K) Jl.cl_lenL (by rfl) T.n_len (by decide +kernel) (pa_cons (pv 1) pa_nil)) pe_int))))))
      (pss_cons (ps_expr (pe_callS (G_read_piece) (hr.mono (by decide)) rfl T.m_read_piece T.F_read_piece.kp T.b_read_piece (fun σ => passAt takes0 σ) (pa_cons (pv 10) pa_nil)))
      (pss_cons (ps_if (pt_not (pt_val (pe_call (G_law_so) (hr.mono (by decide)) rfl T.m_law_so T.F_law_so.kp T.b_law_so .nil pass0 (pa_cons (pe_callS (G_read_piece) (hr.mono (by decide)) rfl T.m_read_piece T.F_read_piece.kp T.b_read_piece (fun σ => passAt takes0 σ) (pa_cons (pv 3) pa_nil)) (pa_cons (pv 2) pa_nil))))) (pss_one (ps_ret pe_bl)) pss_nil)
      (pss_one (ps_ret (pe_and (pe_cmpR op_eq (pe_callB (r := Jl.rLenL K) Jl.cl_lenL (by rfl) T.n_len (by decide +kernel) (pa_cons (pe_ix (r := rIxT K) ix_tup (pv 4) pe_int (fun _ _ => rfl)) pa_nil)) (pv 9) (nomark _)) (pe_and (pe_cmpR (op_eqD hr.units) (pe_ix (r := rIxT K) ix_tup (pv 4) pe_int (fun _ _ => rfl)) (Jl.pe_lstO (pe_lst pa_nil)) (nomark _)) (pe_one (pe_cmpR op_eq (pv 9) (pe_op op_add (pe_callB (r := Jl.rLenL K) Jl.cl_lenL (by rfl) T.n_len (by decide +kernel) (pa_cons (pe_ix (r := rIxT K) ix_tup (pv 2) pe_int (fun _ _ => rfl)) pa_nil)) pe_int) (nomark _)))))))))))))))))), ?_⟩
    show (_ : TS) _ [some (.ref a), none, none, none, none, none, none, none, none, none, none] H
    have R0 := Jl.Rep.start (K := K) H
    walk_at "R"
    refine use_built R0 hS hlen fun n tt ss nms rows hnm b hn p H1 R1 => ?_
    walk_at "R"
    refine Jl.s_gTup2O R1 rfl fun v1 v2 R2 => ?_
    walk_at "R"
    obtain ⟨bl1, bl2, bl3, bl4⟩ := b.len
    have bok := b.ok
    have wok : (⟨tt, ss, nms⟩ : Jl.Piece).ok := ⟨Jl.nm_okS hnm, bok.1, bok.2⟩
    have hsz : (⟨tt, ss, nms⟩ : Jl.Piece).stres.length ≤ 50000 ∧ (⟨tt, ss, nms⟩ : Jl.Piece).names.length ≤ 50000 ∧ ∀ s ∈ (⟨tt, ss, nms⟩ : Jl.Piece).stres, s.words.length ≤ 50000 ∧ s.fills.length ≤ 50000 := ⟨by show ss.length ≤ _; omega, by show nms.length ≤ _; omega, fun s hs => by have := bl4 s hs; omega⟩
    have hall : ∀ r ∈ Jl.headP tt :: rows, (Jl.joinB r).length ≤ 60 := fun r hr => by
      rcases List.mem_cons.mp hr with rfl | hr
      · exact Jl.headP_len hnm
      · exact b.rl r hr
    have hcl : ∀ r ∈ Jl.headP tt :: rows, Jl.CleanR r := fun r hr => by
      rcases List.mem_cons.mp hr with rfl | hr
      · exact Jl.headP_clean hnm
      · exact b.clean r hr
    have hro := Jl.rowsOf_text (rows := Jl.headP tt :: rows) (fun h => nomatch h) hcl
    obtain ⟨tl1, tl2⟩ := Jl.textOf_len hall
    have hrd := b.read (Jl.headP tt)
    have htt := Jl.title_head hnm
    rw [List.length_cons] at tl1 tl2
    refine Jl.s_joinR ((Jl.headP tt :: rows).map Jl.joinB) R2 (.f (Jl.pers_map Jl.strT_per) (by walk_at "j_mem")) (by rw [List.length_map, List.length_cons]; show _ + _ * 1 ≤ _; omega) ?_
    show gName _ (.str (Jl.textOf (Jl.headP tt :: rows))) _ _ _
    generalize htx : Jl.textOf (Jl.headP tt :: rows) = text at *
    
    have RF : Jl.Rep K H H1 ((v2, Jl.pcF tt ⟨ss, nms⟩) :: (v1, .f (((Jl.headP tt :: rows).map Jl.joinB).map Jl.strT)) :: []) := (R2.pick (Γ' := (v2, Jl.pcT tt ⟨ss, nms⟩) :: (v1, .f (((Jl.headP tt :: rows).map Jl.joinB).map Jl.strT)) :: []) (by walk_at "j_pick")).freeze (Jl.pcF_fz tt ⟨ss, nms⟩)
    clear R1 R2 R0
    walk_at "R"
    refine use_read_pgood RF (by omega) hro htt hrd fun v3 H3 R3 => ?_
    walk_at "R"
    refine use_so (w := ⟨tt, ss, nms⟩) (R3.dp (by walk_at "j_mem") (Jl.pcT_d tt ⟨ss, nms⟩)) (R3.dp (by walk_at "j_mem") (Jl.pcF_d tt ⟨ss, nms⟩)) wok hsz fun H4 s4 => ?_
    have R4 := R3.same s4
    walk_at "R"
    obtain ⟨t3, Es, rfl, q3, eE, R5⟩ := R4.openT
    match Es, eE with
    | [(w1, _), (w2, _), (w3, _)], rfl =>
      have R5 : Jl.Rep K H H4 ((.ref t3, .t [.h w1, .h w2, .h w3]) :: (w1, .d (.str tt)) :: (w2, .l (ss.map Jl.streT)) :: (w3, .l (nms.map Jl.namT)) :: (v2, Jl.pcF tt ⟨ss, nms⟩) :: (v1, .f (((Jl.headP tt :: rows).map Jl.joinB).map Jl.strT)) :: []) := R5
      obtain ⟨P, rfl⟩ := R5.isLst (v := w2) (ts := ss.map Jl.streT) (by simp)
      obtain ⟨N, rfl⟩ := R5.isLst (v := w3) (ts := nms.map Jl.namT) (by simp)
      have R6 := R5.pick (Γ' := (.ref P, .l (ss.map Jl.streT)) :: (.ref N, .l (nms.map Jl.namT)) :: (.ref t3, .t [.h w1, .h (.ref P), .h (.ref N)]) :: (v1, .f (((Jl.headP tt :: rows).map Jl.joinB).map Jl.strT)) :: (v2, Jl.pcF tt ⟨ss, nms⟩) :: []) (.own (.tail (.tail .head)) (.own (.tail (.tail .head)) (.own .head (.own (.tail (.tail .head)) (.own (.tail .head) (by walk_at "j_pick"))))))
      clear R5 R4 R3 RF
      walk_at "R"
      refine Jl.forL_O (K := K) (B := H) (n := ss.length) (fun i σ ts Γ' => ∃ v5 v6 v7 v8 v9 v10 : Option V, ts = (ss.take i).map (fun s => Jl.streT (Jl.stre7 s)) ++ (ss.drop i).map Jl.streT ∧ Γ' = (.ref N, .l (nms.map Jl.namT)) :: (.ref t3, .t [.h w1, .h (.ref P), .h (.ref N)]) :: (v1, .f (((Jl.headP tt :: rows).map Jl.joinB).map Jl.strT)) :: (v2, Jl.pcF tt ⟨ss, nms⟩) :: [] ∧ σ = [some (.ref a), some v1, some v2, some (.str text), some (.ref t3), v5, v6, v7, v8, v9, v10]) R6 ⟨none, none, none, none, none, none, rfl, rfl, rfl⟩ (fun i σ' ts Γ' hi h => ?_) (fun i σ' H' ts Γ' sT x hi h hts R7 => ?_) (fun σ' H' ts Γ' h R7 => ?_)
      · obtain ⟨v5, v6, v7, v8, v9, v10, rfl, rfl, rfl⟩ := h
        exact Jl.len_take hi
      · obtain ⟨v5, v6, v7, v8, v9, v10, rfl, rfl, rfl⟩ := h
        obtain ⟨q, hq⟩ : ∃ q, ss[i]? = some q := ⟨_, List.getElem?_eq_getElem hi⟩
        have hqw := bl4 q (List.mem_of_getElem? hq)
        rw [Jl.at_take hq] at hts
        cases hts
        refine Jl.s_gTupO4 R7 rfl fun u1 u2 u3 u4 R8 => ?_
        obtain ⟨W, rfl⟩ := R8.isLst (v := u3) (ts := q.words.map Jl.intT) (by simp)
        obtain ⟨G, rfl⟩ := R8.isLst (v := u4) (ts := q.fills.map Jl.fillTr) (by simp)
        walk_at "R"
        rename_i R9
        have R10 := Jl.Rep.close4 (R9.pick (Γ' := (x, .t [.h u1, .h u2, .h (.ref W), .h (.ref G)]) :: (u1, .d (.str q.kind)) :: (u2, .d (.int q.step)) :: (.ref W, .l (q.words.map Jl.intT ++ [.d (.int 7)])) :: (.ref G, .l []) :: (.ref P, .l (((ss.take i).map (fun s => Jl.streT (Jl.stre7 s)) ++ (ss.drop i).map Jl.streT).set i (.h x))) :: (.ref N, .l (nms.map Jl.namT)) :: (.ref t3, .t [.h w1, .h (.ref P), .h (.ref N)]) :: (v1, .f (((Jl.headP tt :: rows).map Jl.joinB).map Jl.strT)) :: (v2, Jl.pcF tt ⟨ss, nms⟩) :: []) (.own (.tail (.tail .head)) (.own (.tail (.tail .head)) (.own (.tail (.tail .head)) (.own (.tail .head) (.own .head .refl))))))
        have eq7 : Jl.streT (Jl.stre7 q) = .t [.d (.str q.kind), .d (.int q.step), .l (q.words.map Jl.intT ++ [.d (.int 7)]), .l []] := by
          unfold Jl.streT Jl.stre7
          rw [List.map_append]; rfl
        rw [← eq7] at R10
        have R12 := Jl.Rep.fillL R10 i (by rw [List.getElem?_set_self (by rw [Jl.len_take (by omega)]; exact hi)])
        rw [Jl.set_take (f := fun s => Jl.streT (Jl.stre7 s)) hq] at R12
        exact ⟨_, R12, _, _, rfl, _, _, _, _, _, _, rfl, rfl, rfl⟩
      obtain ⟨v5, v6, v7, v8, v9, v10, rfl, rfl, rfl⟩ := h
      rw [List.take_length, List.drop_length, List.map_nil, List.append_nil] at R7
      walk_at "R"
      rename_i pc Hc Rc
      have elen : ((((Jl.headP tt :: rows).map Jl.joinB).map Jl.strT).length : Int) = (rows.length : Int) + 1 := by rw [List.length_map, List.length_map, List.length_cons]; rfl
      obtain ⟨j, hj1, hj2⟩ : ∃ j : Nat, (1 : Int) + ((rows.length : Int) + 1) / 2 = ((j + 1 : Nat) : Int) ∧ j + 1 ≤ rows.length + 1 := ⟨(rows.length + 1) / 2, by omega, by omega⟩
      rw [elen, hj1, Jl.cutTr_to _ _ (by rw [List.length_map, List.length_map, List.length_cons]; exact hj2), ← List.map_take, ← List.map_take] at Rc
      have etk : (Jl.headP tt :: rows).take (j + 1) = Jl.headP tt :: rows.take j := rfl
      rw [etk] at Rc
      have sub2 : ∀ r ∈ Jl.headP tt :: rows.take j, r ∈ Jl.headP tt :: rows := fun r hr => List.mem_of_mem_take (i := j + 1) hr
      obtain ⟨tl3, tl4⟩ := Jl.textOf_len (rows := Jl.headP tt :: rows.take j) (fun r hr => hall r (sub2 r hr))
      have hro2 := Jl.rowsOf_text (rows := Jl.headP tt :: rows.take j) (fun h => nomatch h) (fun r hr => hcl r (sub2 r hr))
      obtain ⟨st2, hst2⟩ := Jl.readP_at hrd (n := j) (by omega)
      have hrd2 : Jl.readP (Jl.headP tt :: rows.take j) (rows.take j).length = some st2 := by
        rw [List.length_take, Nat.min_eq_left (by omega)]
        exact (Jl.readP_take (R := Jl.headP tt :: rows) (j := j + 1) (by omega) (by rw [List.length_cons]; omega)).trans hst2
      rw [List.length_cons, List.length_take] at tl3 tl4
      refine Jl.s_joinR ((Jl.headP tt :: rows.take j).map Jl.joinB) Rc (.f (Jl.pers_map Jl.strT_per) (by walk_at "j_mem")) (by rw [List.length_map, List.length_cons, List.length_take]; show _ + _ * 1 ≤ _; omega) ?_
      show gName _ (.str (Jl.textOf (Jl.headP tt :: rows.take j))) _ _ _
      walk_at "R"
      refine use_read_pgood Rc (by omega) hro2 htt hrd2 fun v11 H11 R11 => ?_
      walk_at "R"
      refine use_read_pgood R11 (by omega) hro htt hrd fun v12 H12 R12 => ?_
      walk_at "R"
      refine use_so (w := ⟨tt, ss, nms⟩) (R12.dp (by walk_at "j_mem") (Jl.pcT_d tt ⟨ss, nms⟩)) (R12.dp (v := v2) (by walk_at "j_mem") (Jl.pcF_d tt ⟨ss, nms⟩)) wok hsz fun H13 s13 => ?_
      have R13 := R12.same s13
      walk_at "R"
      rw [decide_eq_true rfl]
      walk_at "R"
      refine Jl.s_eqNilR (by assumption) (v := .ref N) (t := .l []) (ds := []) (by walk_at "j_mem") (Jl.TrDs.l .nil) (by decide +kernel) (by walk_at "j_ls") ?_
      rw [decide_eq_true rfl]
      walk_at "R"
      simp only [List.length_append, List.length_map, List.length_singleton]
      rw [decide_eq_true (by rfl)]
      exact k _
end
theorem all_mk {l : PySem.W.OpenLaw} {w : World} {K : PySem.W.Frag} {h : Heap} {mg : Str → Option Value} {fa a_Rule a_HighRule a_LowRule a_NearRule a_SplitRule a_NoRule a_NoPiece a_NoPiece___init__ a_Rule___init__ a_Rule_leans a_NearRule_leans a_SplitRule_leans a_rule_of a_is_name a_number_of a_step_told a_is_title a_put_stretch a_put_word a_put_fill a_put_name a_put_row a_read_piece a_law_whole a_law_cell_at a_law_name_by a_law_add_by a_law_fill_by a_law_fill_row a_law_word_by a_law_put a_law_built a_law_so a_law : Addr} (X : K.In h) (G : h.Ns mainGlobals mg) (hfa : mg "law" = some (.ref fa))
    {od_NoPiece___init__ an_NoPiece___init__ : Option Addr} {sl_NoPiece___init__ : Array (Option Value)} {oc_NoPiece___init__ kV_NoPiece___init__ dc_NoPiece___init__ pm_NoPiece___init__ cd_NoPiece___init__ ct_NoPiece___init__ : Value}
    {od_Rule___init__ an_Rule___init__ : Option Addr} {sl_Rule___init__ : Array (Option Value)} {oc_Rule___init__ kV_Rule___init__ dc_Rule___init__ pm_Rule___init__ cd_Rule___init__ ct_Rule___init__ : Value}
    {od_Rule_leans an_Rule_leans : Option Addr} {sl_Rule_leans : Array (Option Value)} {oc_Rule_leans kV_Rule_leans dc_Rule_leans pm_Rule_leans cd_Rule_leans ct_Rule_leans : Value}
    {od_NearRule_leans an_NearRule_leans : Option Addr} {sl_NearRule_leans : Array (Option Value)} {oc_NearRule_leans kV_NearRule_leans dc_NearRule_leans pm_NearRule_leans cd_NearRule_leans ct_NearRule_leans : Value}
    {od_SplitRule_leans an_SplitRule_leans : Option Addr} {sl_SplitRule_leans : Array (Option Value)} {oc_SplitRule_leans kV_SplitRule_leans dc_SplitRule_leans pm_SplitRule_leans cd_SplitRule_leans ct_SplitRule_leans : Value}
    {od_rule_of an_rule_of : Option Addr} {sl_rule_of : Array (Option Value)} {oc_rule_of kV_rule_of dc_rule_of pm_rule_of cd_rule_of ct_rule_of : Value}
    {od_is_name an_is_name : Option Addr} {sl_is_name : Array (Option Value)} {oc_is_name kV_is_name dc_is_name pm_is_name cd_is_name ct_is_name : Value}
    {od_number_of an_number_of : Option Addr} {sl_number_of : Array (Option Value)} {oc_number_of kV_number_of dc_number_of pm_number_of cd_number_of ct_number_of : Value}
    {od_step_told an_step_told : Option Addr} {sl_step_told : Array (Option Value)} {oc_step_told kV_step_told dc_step_told pm_step_told cd_step_told ct_step_told : Value}
    {od_is_title an_is_title : Option Addr} {sl_is_title : Array (Option Value)} {oc_is_title kV_is_title dc_is_title pm_is_title cd_is_title ct_is_title : Value}
    {od_put_stretch an_put_stretch : Option Addr} {sl_put_stretch : Array (Option Value)} {oc_put_stretch kV_put_stretch dc_put_stretch pm_put_stretch cd_put_stretch ct_put_stretch : Value}
    {od_put_word an_put_word : Option Addr} {sl_put_word : Array (Option Value)} {oc_put_word kV_put_word dc_put_word pm_put_word cd_put_word ct_put_word : Value}
    {od_put_fill an_put_fill : Option Addr} {sl_put_fill : Array (Option Value)} {oc_put_fill kV_put_fill dc_put_fill pm_put_fill cd_put_fill ct_put_fill : Value}
    {od_put_name an_put_name : Option Addr} {sl_put_name : Array (Option Value)} {oc_put_name kV_put_name dc_put_name pm_put_name cd_put_name ct_put_name : Value}
    {od_put_row an_put_row : Option Addr} {sl_put_row : Array (Option Value)} {oc_put_row kV_put_row dc_put_row pm_put_row cd_put_row ct_put_row : Value}
    {od_read_piece an_read_piece : Option Addr} {sl_read_piece : Array (Option Value)} {oc_read_piece kV_read_piece dc_read_piece pm_read_piece cd_read_piece ct_read_piece : Value}
    {od_law_whole an_law_whole : Option Addr} {sl_law_whole : Array (Option Value)} {oc_law_whole kV_law_whole dc_law_whole pm_law_whole cd_law_whole ct_law_whole : Value}
    {od_law_cell_at an_law_cell_at : Option Addr} {sl_law_cell_at : Array (Option Value)} {oc_law_cell_at kV_law_cell_at dc_law_cell_at pm_law_cell_at cd_law_cell_at ct_law_cell_at : Value}
    {od_law_name_by an_law_name_by : Option Addr} {sl_law_name_by : Array (Option Value)} {oc_law_name_by kV_law_name_by dc_law_name_by pm_law_name_by cd_law_name_by ct_law_name_by : Value}
    {od_law_add_by an_law_add_by : Option Addr} {sl_law_add_by : Array (Option Value)} {oc_law_add_by kV_law_add_by dc_law_add_by pm_law_add_by cd_law_add_by ct_law_add_by : Value}
    {od_law_fill_by an_law_fill_by : Option Addr} {sl_law_fill_by : Array (Option Value)} {oc_law_fill_by kV_law_fill_by dc_law_fill_by pm_law_fill_by cd_law_fill_by ct_law_fill_by : Value}
    {od_law_fill_row an_law_fill_row : Option Addr} {sl_law_fill_row : Array (Option Value)} {oc_law_fill_row kV_law_fill_row dc_law_fill_row pm_law_fill_row cd_law_fill_row ct_law_fill_row : Value}
    {od_law_word_by an_law_word_by : Option Addr} {sl_law_word_by : Array (Option Value)} {oc_law_word_by kV_law_word_by dc_law_word_by pm_law_word_by cd_law_word_by ct_law_word_by : Value}
    {od_law_put an_law_put : Option Addr} {sl_law_put : Array (Option Value)} {oc_law_put kV_law_put dc_law_put pm_law_put cd_law_put ct_law_put : Value}
    {od_law_built an_law_built : Option Addr} {sl_law_built : Array (Option Value)} {oc_law_built kV_law_built dc_law_built pm_law_built cd_law_built ct_law_built : Value}
    {od_law_so an_law_so : Option Addr} {sl_law_so : Array (Option Value)} {oc_law_so kV_law_so dc_law_so pm_law_so cd_law_so ct_law_so : Value}
    {od_law an_law : Option Addr} {sl_law : Array (Option Value)} {oc_law kV_law dc_law pm_law cd_law ct_law : Value}
    {nm_NoPiece q_NoPiece : Str} {N_NoPiece : Addr} {bs_NoPiece : List Value} {sn_NoPiece : List Str} {sub_NoPiece : List Value} {ab_NoPiece : Bool} {col_NoPiece : Option Bool} {dd_NoPiece : Option Addr} {m0_NoPiece m1_NoPiece m2_NoPiece m3_NoPiece m5_NoPiece : Option Value}
    {t_LETTERS : Tok}
    {t_FIGURES : Tok}
    (ns_Rule : PySem.W.nsIn K mainGlobals "Rule" = some (some (.ref a_Rule)))
    (ns_HighRule : PySem.W.nsIn K mainGlobals "HighRule" = some (some (.ref a_HighRule)))
    (ns_LowRule : PySem.W.nsIn K mainGlobals "LowRule" = some (some (.ref a_LowRule)))
    (ns_NearRule : PySem.W.nsIn K mainGlobals "NearRule" = some (some (.ref a_NearRule)))
    (ns_SplitRule : PySem.W.nsIn K mainGlobals "SplitRule" = some (some (.ref a_SplitRule)))
    (ns_NoRule : PySem.W.nsIn K mainGlobals "NoRule" = some (some (.ref a_NoRule)))
    (ns_NoPiece : PySem.W.nsIn K mainGlobals "NoPiece" = some (some (.ref a_NoPiece)))
    (ini_NoPiece : PySem.W.findIn K (.ref a_NoPiece) "__init__" = some (some (.ref a_NoPiece___init__)))
    (fi_Rule___init__ : PySem.W.findIn K (.ref a_Rule) "__init__" = some (some (.ref a_Rule___init__)))
    (fi_Rule_leans : PySem.W.findIn K (.ref a_Rule) "leans" = some (some (.ref a_Rule_leans)))
    (fi_HighRule___init__ : PySem.W.findIn K (.ref a_HighRule) "__init__" = some (some (.ref a_Rule___init__)))
    (fi_HighRule_leans : PySem.W.findIn K (.ref a_HighRule) "leans" = some (some (.ref a_Rule_leans)))
    (fi_LowRule___init__ : PySem.W.findIn K (.ref a_LowRule) "__init__" = some (some (.ref a_Rule___init__)))
    (fi_LowRule_leans : PySem.W.findIn K (.ref a_LowRule) "leans" = some (some (.ref a_Rule_leans)))
    (fi_NearRule___init__ : PySem.W.findIn K (.ref a_NearRule) "__init__" = some (some (.ref a_Rule___init__)))
    (fi_NearRule_leans : PySem.W.findIn K (.ref a_NearRule) "leans" = some (some (.ref a_NearRule_leans)))
    (fi_SplitRule___init__ : PySem.W.findIn K (.ref a_SplitRule) "__init__" = some (some (.ref a_Rule___init__)))
    (fi_SplitRule_leans : PySem.W.findIn K (.ref a_SplitRule) "leans" = some (some (.ref a_SplitRule_leans)))
    (ns_rule_of : PySem.W.nsIn K mainGlobals "rule_of" = some (some (.ref a_rule_of)))
    (ns_is_name : PySem.W.nsIn K mainGlobals "is_name" = some (some (.ref a_is_name)))
    (ns_number_of : PySem.W.nsIn K mainGlobals "number_of" = some (some (.ref a_number_of)))
    (ns_step_told : PySem.W.nsIn K mainGlobals "step_told" = some (some (.ref a_step_told)))
    (ns_is_title : PySem.W.nsIn K mainGlobals "is_title" = some (some (.ref a_is_title)))
    (ns_put_stretch : PySem.W.nsIn K mainGlobals "put_stretch" = some (some (.ref a_put_stretch)))
    (ns_put_word : PySem.W.nsIn K mainGlobals "put_word" = some (some (.ref a_put_word)))
    (ns_put_fill : PySem.W.nsIn K mainGlobals "put_fill" = some (some (.ref a_put_fill)))
    (ns_put_name : PySem.W.nsIn K mainGlobals "put_name" = some (some (.ref a_put_name)))
    (ns_put_row : PySem.W.nsIn K mainGlobals "put_row" = some (some (.ref a_put_row)))
    (ns_read_piece : PySem.W.nsIn K mainGlobals "read_piece" = some (some (.ref a_read_piece)))
    (ns_law_whole : PySem.W.nsIn K mainGlobals "_law_whole" = some (some (.ref a_law_whole)))
    (ns_law_cell_at : PySem.W.nsIn K mainGlobals "_law_cell_at" = some (some (.ref a_law_cell_at)))
    (ns_law_name_by : PySem.W.nsIn K mainGlobals "_law_name_by" = some (some (.ref a_law_name_by)))
    (ns_law_add_by : PySem.W.nsIn K mainGlobals "_law_add_by" = some (some (.ref a_law_add_by)))
    (ns_law_fill_by : PySem.W.nsIn K mainGlobals "_law_fill_by" = some (some (.ref a_law_fill_by)))
    (ns_law_fill_row : PySem.W.nsIn K mainGlobals "_law_fill_row" = some (some (.ref a_law_fill_row)))
    (ns_law_word_by : PySem.W.nsIn K mainGlobals "_law_word_by" = some (some (.ref a_law_word_by)))
    (ns_law_put : PySem.W.nsIn K mainGlobals "_law_put" = some (some (.ref a_law_put)))
    (ns_law_built : PySem.W.nsIn K mainGlobals "_law_built" = some (some (.ref a_law_built)))
    (ns_law_so : PySem.W.nsIn K mainGlobals "_law_so" = some (some (.ref a_law_so)))
    (ns_law : PySem.W.nsIn K mainGlobals "law" = some (some (.ref a_law)))
    (lk_NoPiece___init__ : K.lookup a_NoPiece___init__ = some ⟨oc_NoPiece___init__, od_NoPiece___init__, .func (PySem.W.fnOf "__init__" "NoPiece.__init__" (defArgs s_NoPiece___init__) (defBody s_NoPiece___init__) (defScope s_NoPiece___init__) .none kV_NoPiece___init__ dc_NoPiece___init__ pm_NoPiece___init__ an_NoPiece___init__ cd_NoPiece___init__ ct_NoPiece___init__), sl_NoPiece___init__⟩)
    (cd_is_NoPiece___init__ : PySem.W.codeIn K cd_NoPiece___init__ "NoPiece.__init__" = true)
    (kp_NoPiece___init__ : PySem.W.keepIn K (.ref a_NoPiece___init__) = true)
    (isf_NoPiece___init__ : PySem.W.isFn K (.ref a_NoPiece___init__) = true)
    (lk_Rule___init__ : K.lookup a_Rule___init__ = some ⟨oc_Rule___init__, od_Rule___init__, .func (PySem.W.fnOf "__init__" "Rule.__init__" (defArgs s_Rule___init__) (defBody s_Rule___init__) (defScope s_Rule___init__) .none kV_Rule___init__ dc_Rule___init__ pm_Rule___init__ an_Rule___init__ cd_Rule___init__ ct_Rule___init__), sl_Rule___init__⟩)
    (cd_is_Rule___init__ : PySem.W.codeIn K cd_Rule___init__ "Rule.__init__" = true)
    (kp_Rule___init__ : PySem.W.keepIn K (.ref a_Rule___init__) = true)
    (isf_Rule___init__ : PySem.W.isFn K (.ref a_Rule___init__) = true)
    (lk_Rule_leans : K.lookup a_Rule_leans = some ⟨oc_Rule_leans, od_Rule_leans, .func (PySem.W.fnOf "leans" "Rule.leans" (defArgs s_Rule_leans) (defBody s_Rule_leans) (defScope s_Rule_leans) .none kV_Rule_leans dc_Rule_leans pm_Rule_leans an_Rule_leans cd_Rule_leans ct_Rule_leans), sl_Rule_leans⟩)
    (cd_is_Rule_leans : PySem.W.codeIn K cd_Rule_leans "Rule.leans" = true)
    (kp_Rule_leans : PySem.W.keepIn K (.ref a_Rule_leans) = true)
    (isf_Rule_leans : PySem.W.isFn K (.ref a_Rule_leans) = true)
    (lk_NearRule_leans : K.lookup a_NearRule_leans = some ⟨oc_NearRule_leans, od_NearRule_leans, .func (PySem.W.fnOf "leans" "NearRule.leans" (defArgs s_NearRule_leans) (defBody s_NearRule_leans) (defScope s_NearRule_leans) .none kV_NearRule_leans dc_NearRule_leans pm_NearRule_leans an_NearRule_leans cd_NearRule_leans ct_NearRule_leans), sl_NearRule_leans⟩)
    (cd_is_NearRule_leans : PySem.W.codeIn K cd_NearRule_leans "NearRule.leans" = true)
    (kp_NearRule_leans : PySem.W.keepIn K (.ref a_NearRule_leans) = true)
    (isf_NearRule_leans : PySem.W.isFn K (.ref a_NearRule_leans) = true)
    (lk_SplitRule_leans : K.lookup a_SplitRule_leans = some ⟨oc_SplitRule_leans, od_SplitRule_leans, .func (PySem.W.fnOf "leans" "SplitRule.leans" (defArgs s_SplitRule_leans) (defBody s_SplitRule_leans) (defScope s_SplitRule_leans) .none kV_SplitRule_leans dc_SplitRule_leans pm_SplitRule_leans an_SplitRule_leans cd_SplitRule_leans ct_SplitRule_leans), sl_SplitRule_leans⟩)
    (cd_is_SplitRule_leans : PySem.W.codeIn K cd_SplitRule_leans "SplitRule.leans" = true)
    (kp_SplitRule_leans : PySem.W.keepIn K (.ref a_SplitRule_leans) = true)
    (isf_SplitRule_leans : PySem.W.isFn K (.ref a_SplitRule_leans) = true)
    (lk_rule_of : K.lookup a_rule_of = some ⟨oc_rule_of, od_rule_of, .func (PySem.W.fnOf "rule_of" "rule_of" (defArgs s_rule_of) (defBody s_rule_of) (defScope s_rule_of) .none kV_rule_of dc_rule_of pm_rule_of an_rule_of cd_rule_of ct_rule_of), sl_rule_of⟩)
    (cd_is_rule_of : PySem.W.codeIn K cd_rule_of "rule_of" = true)
    (kp_rule_of : PySem.W.keepIn K (.ref a_rule_of) = true)
    (lk_is_name : K.lookup a_is_name = some ⟨oc_is_name, od_is_name, .func (PySem.W.fnOf "is_name" "is_name" (defArgs s_is_name) (defBody s_is_name) (defScope s_is_name) .none kV_is_name dc_is_name pm_is_name an_is_name cd_is_name ct_is_name), sl_is_name⟩)
    (cd_is_is_name : PySem.W.codeIn K cd_is_name "is_name" = true)
    (kp_is_name : PySem.W.keepIn K (.ref a_is_name) = true)
    (lk_number_of : K.lookup a_number_of = some ⟨oc_number_of, od_number_of, .func (PySem.W.fnOf "number_of" "number_of" (defArgs s_number_of) (defBody s_number_of) (defScope s_number_of) .none kV_number_of dc_number_of pm_number_of an_number_of cd_number_of ct_number_of), sl_number_of⟩)
    (cd_is_number_of : PySem.W.codeIn K cd_number_of "number_of" = true)
    (kp_number_of : PySem.W.keepIn K (.ref a_number_of) = true)
    (lk_step_told : K.lookup a_step_told = some ⟨oc_step_told, od_step_told, .func (PySem.W.fnOf "step_told" "step_told" (defArgs s_step_told) (defBody s_step_told) (defScope s_step_told) .none kV_step_told dc_step_told pm_step_told an_step_told cd_step_told ct_step_told), sl_step_told⟩)
    (cd_is_step_told : PySem.W.codeIn K cd_step_told "step_told" = true)
    (kp_step_told : PySem.W.keepIn K (.ref a_step_told) = true)
    (lk_is_title : K.lookup a_is_title = some ⟨oc_is_title, od_is_title, .func (PySem.W.fnOf "is_title" "is_title" (defArgs s_is_title) (defBody s_is_title) (defScope s_is_title) .none kV_is_title dc_is_title pm_is_title an_is_title cd_is_title ct_is_title), sl_is_title⟩)
    (cd_is_is_title : PySem.W.codeIn K cd_is_title "is_title" = true)
    (kp_is_title : PySem.W.keepIn K (.ref a_is_title) = true)
    (lk_put_stretch : K.lookup a_put_stretch = some ⟨oc_put_stretch, od_put_stretch, .func (PySem.W.fnOf "put_stretch" "put_stretch" (defArgs s_put_stretch) (defBody s_put_stretch) (defScope s_put_stretch) .none kV_put_stretch dc_put_stretch pm_put_stretch an_put_stretch cd_put_stretch ct_put_stretch), sl_put_stretch⟩)
    (cd_is_put_stretch : PySem.W.codeIn K cd_put_stretch "put_stretch" = true)
    (kp_put_stretch : PySem.W.keepIn K (.ref a_put_stretch) = true)
    (lk_put_word : K.lookup a_put_word = some ⟨oc_put_word, od_put_word, .func (PySem.W.fnOf "put_word" "put_word" (defArgs s_put_word) (defBody s_put_word) (defScope s_put_word) .none kV_put_word dc_put_word pm_put_word an_put_word cd_put_word ct_put_word), sl_put_word⟩)
    (cd_is_put_word : PySem.W.codeIn K cd_put_word "put_word" = true)
    (kp_put_word : PySem.W.keepIn K (.ref a_put_word) = true)
    (lk_put_fill : K.lookup a_put_fill = some ⟨oc_put_fill, od_put_fill, .func (PySem.W.fnOf "put_fill" "put_fill" (defArgs s_put_fill) (defBody s_put_fill) (defScope s_put_fill) .none kV_put_fill dc_put_fill pm_put_fill an_put_fill cd_put_fill ct_put_fill), sl_put_fill⟩)
    (cd_is_put_fill : PySem.W.codeIn K cd_put_fill "put_fill" = true)
    (kp_put_fill : PySem.W.keepIn K (.ref a_put_fill) = true)
    (lk_put_name : K.lookup a_put_name = some ⟨oc_put_name, od_put_name, .func (PySem.W.fnOf "put_name" "put_name" (defArgs s_put_name) (defBody s_put_name) (defScope s_put_name) .none kV_put_name dc_put_name pm_put_name an_put_name cd_put_name ct_put_name), sl_put_name⟩)
    (cd_is_put_name : PySem.W.codeIn K cd_put_name "put_name" = true)
    (kp_put_name : PySem.W.keepIn K (.ref a_put_name) = true)
    (lk_put_row : K.lookup a_put_row = some ⟨oc_put_row, od_put_row, .func (PySem.W.fnOf "put_row" "put_row" (defArgs s_put_row) (defBody s_put_row) (defScope s_put_row) .none kV_put_row dc_put_row pm_put_row an_put_row cd_put_row ct_put_row), sl_put_row⟩)
    (cd_is_put_row : PySem.W.codeIn K cd_put_row "put_row" = true)
    (kp_put_row : PySem.W.keepIn K (.ref a_put_row) = true)
    (lk_read_piece : K.lookup a_read_piece = some ⟨oc_read_piece, od_read_piece, .func (PySem.W.fnOf "read_piece" "read_piece" (defArgs s_read_piece) (defBody s_read_piece) (defScope s_read_piece) .none kV_read_piece dc_read_piece pm_read_piece an_read_piece cd_read_piece ct_read_piece), sl_read_piece⟩)
    (cd_is_read_piece : PySem.W.codeIn K cd_read_piece "read_piece" = true)
    (kp_read_piece : PySem.W.keepIn K (.ref a_read_piece) = true)
    (lk_law_whole : K.lookup a_law_whole = some ⟨oc_law_whole, od_law_whole, .func (PySem.W.fnOf "_law_whole" "_law_whole" (defArgs s_law_whole) (defBody s_law_whole) (defScope s_law_whole) .none kV_law_whole dc_law_whole pm_law_whole an_law_whole cd_law_whole ct_law_whole), sl_law_whole⟩)
    (cd_is_law_whole : PySem.W.codeIn K cd_law_whole "_law_whole" = true)
    (kp_law_whole : PySem.W.keepIn K (.ref a_law_whole) = true)
    (lk_law_cell_at : K.lookup a_law_cell_at = some ⟨oc_law_cell_at, od_law_cell_at, .func (PySem.W.fnOf "_law_cell_at" "_law_cell_at" (defArgs s_law_cell_at) (defBody s_law_cell_at) (defScope s_law_cell_at) .none kV_law_cell_at dc_law_cell_at pm_law_cell_at an_law_cell_at cd_law_cell_at ct_law_cell_at), sl_law_cell_at⟩)
    (cd_is_law_cell_at : PySem.W.codeIn K cd_law_cell_at "_law_cell_at" = true)
    (kp_law_cell_at : PySem.W.keepIn K (.ref a_law_cell_at) = true)
    (lk_law_name_by : K.lookup a_law_name_by = some ⟨oc_law_name_by, od_law_name_by, .func (PySem.W.fnOf "_law_name_by" "_law_name_by" (defArgs s_law_name_by) (defBody s_law_name_by) (defScope s_law_name_by) .none kV_law_name_by dc_law_name_by pm_law_name_by an_law_name_by cd_law_name_by ct_law_name_by), sl_law_name_by⟩)
    (cd_is_law_name_by : PySem.W.codeIn K cd_law_name_by "_law_name_by" = true)
    (kp_law_name_by : PySem.W.keepIn K (.ref a_law_name_by) = true)
    (lk_law_add_by : K.lookup a_law_add_by = some ⟨oc_law_add_by, od_law_add_by, .func (PySem.W.fnOf "_law_add_by" "_law_add_by" (defArgs s_law_add_by) (defBody s_law_add_by) (defScope s_law_add_by) .none kV_law_add_by dc_law_add_by pm_law_add_by an_law_add_by cd_law_add_by ct_law_add_by), sl_law_add_by⟩)
    (cd_is_law_add_by : PySem.W.codeIn K cd_law_add_by "_law_add_by" = true)
    (kp_law_add_by : PySem.W.keepIn K (.ref a_law_add_by) = true)
    (lk_law_fill_by : K.lookup a_law_fill_by = some ⟨oc_law_fill_by, od_law_fill_by, .func (PySem.W.fnOf "_law_fill_by" "_law_fill_by" (defArgs s_law_fill_by) (defBody s_law_fill_by) (defScope s_law_fill_by) .none kV_law_fill_by dc_law_fill_by pm_law_fill_by an_law_fill_by cd_law_fill_by ct_law_fill_by), sl_law_fill_by⟩)
    (cd_is_law_fill_by : PySem.W.codeIn K cd_law_fill_by "_law_fill_by" = true)
    (kp_law_fill_by : PySem.W.keepIn K (.ref a_law_fill_by) = true)
    (lk_law_fill_row : K.lookup a_law_fill_row = some ⟨oc_law_fill_row, od_law_fill_row, .func (PySem.W.fnOf "_law_fill_row" "_law_fill_row" (defArgs s_law_fill_row) (defBody s_law_fill_row) (defScope s_law_fill_row) .none kV_law_fill_row dc_law_fill_row pm_law_fill_row an_law_fill_row cd_law_fill_row ct_law_fill_row), sl_law_fill_row⟩)
    (cd_is_law_fill_row : PySem.W.codeIn K cd_law_fill_row "_law_fill_row" = true)
    (kp_law_fill_row : PySem.W.keepIn K (.ref a_law_fill_row) = true)
    (lk_law_word_by : K.lookup a_law_word_by = some ⟨oc_law_word_by, od_law_word_by, .func (PySem.W.fnOf "_law_word_by" "_law_word_by" (defArgs s_law_word_by) (defBody s_law_word_by) (defScope s_law_word_by) .none kV_law_word_by dc_law_word_by pm_law_word_by an_law_word_by cd_law_word_by ct_law_word_by), sl_law_word_by⟩)
    (cd_is_law_word_by : PySem.W.codeIn K cd_law_word_by "_law_word_by" = true)
    (kp_law_word_by : PySem.W.keepIn K (.ref a_law_word_by) = true)
    (lk_law_put : K.lookup a_law_put = some ⟨oc_law_put, od_law_put, .func (PySem.W.fnOf "_law_put" "_law_put" (defArgs s_law_put) (defBody s_law_put) (defScope s_law_put) .none kV_law_put dc_law_put pm_law_put an_law_put cd_law_put ct_law_put), sl_law_put⟩)
    (cd_is_law_put : PySem.W.codeIn K cd_law_put "_law_put" = true)
    (kp_law_put : PySem.W.keepIn K (.ref a_law_put) = true)
    (lk_law_built : K.lookup a_law_built = some ⟨oc_law_built, od_law_built, .func (PySem.W.fnOf "_law_built" "_law_built" (defArgs s_law_built) (defBody s_law_built) (defScope s_law_built) .none kV_law_built dc_law_built pm_law_built an_law_built cd_law_built ct_law_built), sl_law_built⟩)
    (cd_is_law_built : PySem.W.codeIn K cd_law_built "_law_built" = true)
    (kp_law_built : PySem.W.keepIn K (.ref a_law_built) = true)
    (lk_law_so : K.lookup a_law_so = some ⟨oc_law_so, od_law_so, .func (PySem.W.fnOf "_law_so" "_law_so" (defArgs s_law_so) (defBody s_law_so) (defScope s_law_so) .none kV_law_so dc_law_so pm_law_so an_law_so cd_law_so ct_law_so), sl_law_so⟩)
    (cd_is_law_so : PySem.W.codeIn K cd_law_so "_law_so" = true)
    (kp_law_so : PySem.W.keepIn K (.ref a_law_so) = true)
    (lk_law : K.lookup a_law = some ⟨oc_law, od_law, .func (PySem.W.fnOf "law" "law" (defArgs s_law) (defBody s_law) (defScope s_law) .none kV_law dc_law pm_law an_law cd_law ct_law), sl_law⟩)
    (cd_is_law : PySem.W.codeIn K cd_law "law" = true)
    (kp_law : PySem.W.keepIn K (.ref a_law) = true)
    (pg_Rule : PySem.W.plainGet K a_Rule Str.empty = true)
    (hd_Rule : PySem.W.hasDictIn K a_Rule = true)
    (po_Rule : PySem.W.plainOver K a_Rule = true)
    (sa_Rule : PySem.W.findIn K (.ref a_Rule) "__setattr__" = some (some (.builtin "object.__setattr__")))
    (mkk_Rule : PySem.W.makesIn K a_Rule = true)
    (kpc_Rule : PySem.W.keepIn K (.ref a_Rule) = true)
    (nat_Rule_title : PySem.W.findIn K (.ref a_Rule) "title" = some none)
    (pg_HighRule : PySem.W.plainGet K a_HighRule Str.empty = true)
    (hd_HighRule : PySem.W.hasDictIn K a_HighRule = true)
    (po_HighRule : PySem.W.plainOver K a_HighRule = true)
    (sa_HighRule : PySem.W.findIn K (.ref a_HighRule) "__setattr__" = some (some (.builtin "object.__setattr__")))
    (mkk_HighRule : PySem.W.makesIn K a_HighRule = true)
    (kpc_HighRule : PySem.W.keepIn K (.ref a_HighRule) = true)
    (nat_HighRule_title : PySem.W.findIn K (.ref a_HighRule) "title" = some none)
    (pg_LowRule : PySem.W.plainGet K a_LowRule Str.empty = true)
    (hd_LowRule : PySem.W.hasDictIn K a_LowRule = true)
    (po_LowRule : PySem.W.plainOver K a_LowRule = true)
    (sa_LowRule : PySem.W.findIn K (.ref a_LowRule) "__setattr__" = some (some (.builtin "object.__setattr__")))
    (mkk_LowRule : PySem.W.makesIn K a_LowRule = true)
    (kpc_LowRule : PySem.W.keepIn K (.ref a_LowRule) = true)
    (nat_LowRule_title : PySem.W.findIn K (.ref a_LowRule) "title" = some none)
    (pg_NearRule : PySem.W.plainGet K a_NearRule Str.empty = true)
    (hd_NearRule : PySem.W.hasDictIn K a_NearRule = true)
    (po_NearRule : PySem.W.plainOver K a_NearRule = true)
    (sa_NearRule : PySem.W.findIn K (.ref a_NearRule) "__setattr__" = some (some (.builtin "object.__setattr__")))
    (mkk_NearRule : PySem.W.makesIn K a_NearRule = true)
    (kpc_NearRule : PySem.W.keepIn K (.ref a_NearRule) = true)
    (nat_NearRule_title : PySem.W.findIn K (.ref a_NearRule) "title" = some none)
    (pg_SplitRule : PySem.W.plainGet K a_SplitRule Str.empty = true)
    (hd_SplitRule : PySem.W.hasDictIn K a_SplitRule = true)
    (po_SplitRule : PySem.W.plainOver K a_SplitRule = true)
    (sa_SplitRule : PySem.W.findIn K (.ref a_SplitRule) "__setattr__" = some (some (.builtin "object.__setattr__")))
    (mkk_SplitRule : PySem.W.makesIn K a_SplitRule = true)
    (kpc_SplitRule : PySem.W.keepIn K (.ref a_SplitRule) = true)
    (nat_SplitRule_title : PySem.W.findIn K (.ref a_SplitRule) "title" = some none)
    (en : PySem.W.specialIn K (.builtin "object.__class__") "__get__" = some (some (.builtin "getset_descriptor.__get__")))
    (et : PySem.W.takesIn K (.builtin "object.__class__") = some true)
    (be_NoRule : PySem.W.subIn K (.ref a_NoRule) (.type "BaseException") = some true)
    (ty_NoRule : PySem.W.typeIn K (.ref a_NoRule) = some (.type "type"))
    (kc_NoRule : PySem.W.keepIn K (.ref a_NoRule) = true)
    (eg_NoRule : PySem.W.findIn K (.ref a_NoRule) "__getattribute__" = some (some (.builtin "BaseException.__getattribute__")))
    (ek_NoRule : PySem.W.findIn K (.ref a_NoRule) "__getattr__" = some none)
    (hd_NoRule : PySem.W.hasDictIn K a_NoRule = true)
    (ea_NoRule : PySem.W.findIn K (.ref a_NoRule) "__class__" = some (some (.builtin "object.__class__")))
    (em_NoRule : PySem.W.mroIn K a_NoRule (.type "object") = some true)
    (ve_NoRule : PySem.W.kitOne K (.ref a_NoRule) (.type "ValueError") = some true)
    (x_NoRule : PySem.W.excIn K a_NoRule [.type "ValueError", .type "Exception", .type "BaseException", .type "object"] "ValueError.__new__" = true)
    (kit_NoRule_NoRule : PySem.W.kitOne K (.ref a_NoRule) (.ref a_NoRule) = some true)
    (kit_NoRule_NoPiece : PySem.W.kitOne K (.ref a_NoRule) (.ref a_NoPiece) = some false)
    (ss_NoRule : PySem.W.subIn K (.ref a_NoRule) (.ref a_NoRule) = some true)
    (be_NoPiece : PySem.W.subIn K (.ref a_NoPiece) (.type "BaseException") = some true)
    (ty_NoPiece : PySem.W.typeIn K (.ref a_NoPiece) = some (.type "type"))
    (kc_NoPiece : PySem.W.keepIn K (.ref a_NoPiece) = true)
    (eg_NoPiece : PySem.W.findIn K (.ref a_NoPiece) "__getattribute__" = some (some (.builtin "BaseException.__getattribute__")))
    (ek_NoPiece : PySem.W.findIn K (.ref a_NoPiece) "__getattr__" = some none)
    (hd_NoPiece : PySem.W.hasDictIn K a_NoPiece = true)
    (ea_NoPiece : PySem.W.findIn K (.ref a_NoPiece) "__class__" = some (some (.builtin "object.__class__")))
    (em_NoPiece : PySem.W.mroIn K a_NoPiece (.type "object") = some true)
    (ve_NoPiece : PySem.W.kitOne K (.ref a_NoPiece) (.type "ValueError") = some true)
    (xl_NoPiece : K.lookup a_NoPiece = some (PySem.excClassObj nm_NoPiece q_NoPiece a_NoPiece N_NoPiece bs_NoPiece [.ref a_JoinError, .type "ValueError", .type "Exception", .type "BaseException", .type "object"] true sn_NoPiece sub_NoPiece ab_NoPiece col_NoPiece dd_NoPiece m0_NoPiece m1_NoPiece m2_NoPiece m3_NoPiece m5_NoPiece "ValueError.__new__"))
    (sa_NoPiece : PySem.W.findIn K (.ref a_NoPiece) "__setattr__" = some (some (.builtin "object.__setattr__")))
    (tf_NoPiece : PySem.W.typeIn K (.ref a_NoPiece___init__) = some (.type "function"))
    (no_NoPiece_row : PySem.W.findIn K (.ref a_NoPiece) "row" = some none)
    (kit_NoPiece_NoRule : PySem.W.kitOne K (.ref a_NoPiece) (.ref a_NoRule) = some false)
    (kit_NoPiece_NoPiece : PySem.W.kitOne K (.ref a_NoPiece) (.ref a_NoPiece) = some true)
    (ns_LETTERS : PySem.W.nsIn K mainGlobals "LETTERS" = some (some (.str "abcdefghijklmnopqrstuvwxyz" t_LETTERS)))
    (ns_FIGURES : PySem.W.nsIn K mainGlobals "FIGURES" = some (some (.str "0123456789" t_FIGURES)))
    (ns_bool : PySem.W.nsIn K mainGlobals "bool" = some none)
    (ns_int : PySem.W.nsIn K mainGlobals "int" = some none)
    (ns_isinstance : PySem.W.nsIn K mainGlobals "isinstance" = some none)
    (ns_len : PySem.W.nsIn K mainGlobals "len" = some none)
    (ns_range : PySem.W.nsIn K mainGlobals "range" = some none)
    (ns_str : PySem.W.nsIn K mainGlobals "str" = some none)
    (ns_tuple : PySem.W.nsIn K mainGlobals "tuple" = some none)
    : ∃ fd : FuncData, (∀ (s : Shared) (v : Value), BindsTo s fd ⟨[v], []⟩ [("_law_script", v)]) ∧ ∀ base : Heap, K.In base → base.Ns mainGlobals mg → FnOk l.prog w K mg base CX0 8 fa fd ["_law_script"] (sp_law K) := by
  have e := hfa.symm.trans (PySem.W.mg_of X G ns_law)
  cases e
  exact ⟨_, fun s v => .of_eq rfl, fun base _ _ => ok_law (P := l.prog) (w := w) (base := base) (T := {
    a_NoPiece___init__ := _, d_NoPiece___init__ := _, F_NoPiece___init__ := fun_mk (st := s_NoPiece___init__) lk_NoPiece___init__ cd_is_NoPiece___init__ kp_NoPiece___init__,
    b_NoPiece___init__ := (fun_mk (st := s_NoPiece___init__) lk_NoPiece___init__ cd_is_NoPiece___init__ kp_NoPiece___init__).binds (ps := ["self", "row"]) fun _ _ _ _ _ _ us hl => match us, hl with | [_, _], _ => rfl,
    a_Rule___init__ := _, d_Rule___init__ := _, F_Rule___init__ := fun_mk (st := s_Rule___init__) lk_Rule___init__ cd_is_Rule___init__ kp_Rule___init__,
    b_Rule___init__ := (fun_mk (st := s_Rule___init__) lk_Rule___init__ cd_is_Rule___init__ kp_Rule___init__).binds (ps := ["self", "title"]) fun _ _ _ _ _ _ us hl => match us, hl with | [_, _], _ => rfl,
    a_Rule_leans := _, d_Rule_leans := _, F_Rule_leans := fun_mk (st := s_Rule_leans) lk_Rule_leans cd_is_Rule_leans kp_Rule_leans,
    b_Rule_leans := (fun_mk (st := s_Rule_leans) lk_Rule_leans cd_is_Rule_leans kp_Rule_leans).binds (ps := ["self"]) fun _ _ _ _ _ _ us hl => match us, hl with | [_], _ => rfl,
    a_NearRule_leans := _, d_NearRule_leans := _, F_NearRule_leans := fun_mk (st := s_NearRule_leans) lk_NearRule_leans cd_is_NearRule_leans kp_NearRule_leans,
    b_NearRule_leans := (fun_mk (st := s_NearRule_leans) lk_NearRule_leans cd_is_NearRule_leans kp_NearRule_leans).binds (ps := ["self"]) fun _ _ _ _ _ _ us hl => match us, hl with | [_], _ => rfl,
    a_SplitRule_leans := _, d_SplitRule_leans := _, F_SplitRule_leans := fun_mk (st := s_SplitRule_leans) lk_SplitRule_leans cd_is_SplitRule_leans kp_SplitRule_leans,
    b_SplitRule_leans := (fun_mk (st := s_SplitRule_leans) lk_SplitRule_leans cd_is_SplitRule_leans kp_SplitRule_leans).binds (ps := ["self"]) fun _ _ _ _ _ _ us hl => match us, hl with | [_], _ => rfl,
    a_rule_of := _, d_rule_of := _, F_rule_of := fun_mk (st := s_rule_of) lk_rule_of cd_is_rule_of kp_rule_of,
    m_rule_of := PySem.W.mg_of X G ns_rule_of,
    b_rule_of := (fun_mk (st := s_rule_of) lk_rule_of cd_is_rule_of kp_rule_of).binds (ps := ["title"]) fun _ _ _ _ _ _ us hl => match us, hl with | [_], _ => rfl,
    a_is_name := _, d_is_name := _, F_is_name := fun_mk (st := s_is_name) lk_is_name cd_is_is_name kp_is_name,
    m_is_name := PySem.W.mg_of X G ns_is_name,
    b_is_name := (fun_mk (st := s_is_name) lk_is_name cd_is_is_name kp_is_name).binds (ps := ["text"]) fun _ _ _ _ _ _ us hl => match us, hl with | [_], _ => rfl,
    a_number_of := _, d_number_of := _, F_number_of := fun_mk (st := s_number_of) lk_number_of cd_is_number_of kp_number_of,
    m_number_of := PySem.W.mg_of X G ns_number_of,
    b_number_of := (fun_mk (st := s_number_of) lk_number_of cd_is_number_of kp_number_of).binds (ps := ["text", "least", "most"]) fun _ _ _ _ _ _ us hl => match us, hl with | [_, _, _], _ => rfl,
    a_step_told := _, d_step_told := _, F_step_told := fun_mk (st := s_step_told) lk_step_told cd_is_step_told kp_step_told,
    m_step_told := PySem.W.mg_of X G ns_step_told,
    b_step_told := (fun_mk (st := s_step_told) lk_step_told cd_is_step_told kp_step_told).binds (ps := ["text"]) fun _ _ _ _ _ _ us hl => match us, hl with | [_], _ => rfl,
    a_is_title := _, d_is_title := _, F_is_title := fun_mk (st := s_is_title) lk_is_title cd_is_is_title kp_is_title,
    m_is_title := PySem.W.mg_of X G ns_is_title,
    b_is_title := (fun_mk (st := s_is_title) lk_is_title cd_is_is_title kp_is_title).binds (ps := ["text"]) fun _ _ _ _ _ _ us hl => match us, hl with | [_], _ => rfl,
    a_put_stretch := _, d_put_stretch := _, F_put_stretch := fun_mk (st := s_put_stretch) lk_put_stretch cd_is_put_stretch kp_put_stretch,
    m_put_stretch := PySem.W.mg_of X G ns_put_stretch,
    b_put_stretch := (fun_mk (st := s_put_stretch) lk_put_stretch cd_is_put_stretch kp_put_stretch).binds (ps := ["stretches", "parts"]) fun _ _ _ _ _ _ us hl => match us, hl with | [_, _], _ => rfl,
    a_put_word := _, d_put_word := _, F_put_word := fun_mk (st := s_put_word) lk_put_word cd_is_put_word kp_put_word,
    m_put_word := PySem.W.mg_of X G ns_put_word,
    b_put_word := (fun_mk (st := s_put_word) lk_put_word cd_is_put_word kp_put_word).binds (ps := ["stretches", "parts"]) fun _ _ _ _ _ _ us hl => match us, hl with | [_, _], _ => rfl,
    a_put_fill := _, d_put_fill := _, F_put_fill := fun_mk (st := s_put_fill) lk_put_fill cd_is_put_fill kp_put_fill,
    m_put_fill := PySem.W.mg_of X G ns_put_fill,
    b_put_fill := (fun_mk (st := s_put_fill) lk_put_fill cd_is_put_fill kp_put_fill).binds (ps := ["stretches", "parts"]) fun _ _ _ _ _ _ us hl => match us, hl with | [_, _], _ => rfl,
    a_put_name := _, d_put_name := _, F_put_name := fun_mk (st := s_put_name) lk_put_name cd_is_put_name kp_put_name,
    m_put_name := PySem.W.mg_of X G ns_put_name,
    b_put_name := (fun_mk (st := s_put_name) lk_put_name cd_is_put_name kp_put_name).binds (ps := ["stretches", "names", "parts"]) fun _ _ _ _ _ _ us hl => match us, hl with | [_, _, _], _ => rfl,
    a_put_row := _, d_put_row := _, F_put_row := fun_mk (st := s_put_row) lk_put_row cd_is_put_row kp_put_row,
    m_put_row := PySem.W.mg_of X G ns_put_row,
    b_put_row := (fun_mk (st := s_put_row) lk_put_row cd_is_put_row kp_put_row).binds (ps := ["stretches", "names", "parts", "last"]) fun _ _ _ _ _ _ us hl => match us, hl with | [_, _, _, _], _ => rfl,
    a_read_piece := _, d_read_piece := _, F_read_piece := fun_mk (st := s_read_piece) lk_read_piece cd_is_read_piece kp_read_piece,
    m_read_piece := PySem.W.mg_of X G ns_read_piece,
    b_read_piece := (fun_mk (st := s_read_piece) lk_read_piece cd_is_read_piece kp_read_piece).binds (ps := ["text"]) fun _ _ _ _ _ _ us hl => match us, hl with | [_], _ => rfl,
    a_law_whole := _, d_law_whole := _, F_law_whole := fun_mk (st := s_law_whole) lk_law_whole cd_is_law_whole kp_law_whole,
    m_law_whole := PySem.W.mg_of X G ns_law_whole,
    b_law_whole := (fun_mk (st := s_law_whole) lk_law_whole cd_is_law_whole kp_law_whole).binds (ps := ["_law_found"]) fun _ _ _ _ _ _ us hl => match us, hl with | [_], _ => rfl,
    a_law_cell_at := _, d_law_cell_at := _, F_law_cell_at := fun_mk (st := s_law_cell_at) lk_law_cell_at cd_is_law_cell_at kp_law_cell_at,
    m_law_cell_at := PySem.W.mg_of X G ns_law_cell_at,
    b_law_cell_at := (fun_mk (st := s_law_cell_at) lk_law_cell_at cd_is_law_cell_at kp_law_cell_at).binds (ps := ["_law_script", "_law_k"]) fun _ _ _ _ _ _ us hl => match us, hl with | [_, _], _ => rfl,
    a_law_name_by := _, d_law_name_by := _, F_law_name_by := fun_mk (st := s_law_name_by) lk_law_name_by cd_is_law_name_by kp_law_name_by,
    m_law_name_by := PySem.W.mg_of X G ns_law_name_by,
    b_law_name_by := (fun_mk (st := s_law_name_by) lk_law_name_by cd_is_law_name_by kp_law_name_by).binds (ps := ["_law_cell", "_law_k"]) fun _ _ _ _ _ _ us hl => match us, hl with | [_, _], _ => rfl,
    a_law_add_by := _, d_law_add_by := _, F_law_add_by := fun_mk (st := s_law_add_by) lk_law_add_by cd_is_law_add_by kp_law_add_by,
    m_law_add_by := PySem.W.mg_of X G ns_law_add_by,
    b_law_add_by := (fun_mk (st := s_law_add_by) lk_law_add_by cd_is_law_add_by kp_law_add_by).binds (ps := ["_law_number"]) fun _ _ _ _ _ _ us hl => match us, hl with | [_], _ => rfl,
    a_law_fill_by := _, d_law_fill_by := _, F_law_fill_by := fun_mk (st := s_law_fill_by) lk_law_fill_by cd_is_law_fill_by kp_law_fill_by,
    m_law_fill_by := PySem.W.mg_of X G ns_law_fill_by,
    b_law_fill_by := (fun_mk (st := s_law_fill_by) lk_law_fill_by cd_is_law_fill_by kp_law_fill_by).binds (ps := ["_law_number", "_law_at", "_law_names_by"]) fun _ _ _ _ _ _ us hl => match us, hl with | [_, _, _], _ => rfl,
    a_law_fill_row := _, d_law_fill_row := _, F_law_fill_row := fun_mk (st := s_law_fill_row) lk_law_fill_row cd_is_law_fill_row kp_law_fill_row,
    m_law_fill_row := PySem.W.mg_of X G ns_law_fill_row,
    b_law_fill_row := (fun_mk (st := s_law_fill_row) lk_law_fill_row cd_is_law_fill_row kp_law_fill_row).binds (ps := ["_law_fill"]) fun _ _ _ _ _ _ us hl => match us, hl with | [_], _ => rfl,
    a_law_word_by := _, d_law_word_by := _, F_law_word_by := fun_mk (st := s_law_word_by) lk_law_word_by cd_is_law_word_by kp_law_word_by,
    m_law_word_by := PySem.W.mg_of X G ns_law_word_by,
    b_law_word_by := (fun_mk (st := s_law_word_by) lk_law_word_by cd_is_law_word_by kp_law_word_by).binds (ps := ["_law_cell"]) fun _ _ _ _ _ _ us hl => match us, hl with | [_], _ => rfl,
    a_law_put := _, d_law_put := _, F_law_put := fun_mk (st := s_law_put) lk_law_put cd_is_law_put kp_law_put,
    m_law_put := PySem.W.mg_of X G ns_law_put,
    b_law_put := (fun_mk (st := s_law_put) lk_law_put cd_is_law_put kp_law_put).binds (ps := ["_law_cell", "_law_names_by", "_law_stretches", "_law_told"]) fun _ _ _ _ _ _ us hl => match us, hl with | [_, _, _, _], _ => rfl,
    a_law_built := _, d_law_built := _, F_law_built := fun_mk (st := s_law_built) lk_law_built cd_is_law_built kp_law_built,
    m_law_built := PySem.W.mg_of X G ns_law_built,
    b_law_built := (fun_mk (st := s_law_built) lk_law_built cd_is_law_built kp_law_built).binds (ps := ["_law_script"]) fun _ _ _ _ _ _ us hl => match us, hl with | [_], _ => rfl,
    a_law_so := _, d_law_so := _, F_law_so := fun_mk (st := s_law_so) lk_law_so cd_is_law_so kp_law_so,
    m_law_so := PySem.W.mg_of X G ns_law_so,
    b_law_so := (fun_mk (st := s_law_so) lk_law_so cd_is_law_so kp_law_so).binds (ps := ["_law_found", "_law_due"]) fun _ _ _ _ _ _ us hl => match us, hl with | [_, _], _ => rfl,
    a_law := _, d_law := _, F_law := fun_mk (st := s_law) lk_law cd_is_law kp_law,
    m_law := PySem.W.mg_of X G ns_law,
    b_law := (fun_mk (st := s_law) lk_law cd_is_law kp_law).binds (ps := ["_law_script"]) fun _ _ _ _ _ _ us hl => match us, hl with | [_], _ => rfl,
    a_Rule := _, c_Rule := ⟨pg_Rule, hd_Rule, po_Rule, sa_Rule⟩, g_Rule := PySem.W.mg_of X G ns_Rule,
    k_Rule := ⟨mkk_Rule, fi_Rule___init__, isf_Rule___init__, kpc_Rule⟩,
    na_Rule_title := nat_Rule_title,
    me_Rule_leans := ⟨fi_Rule_leans, isf_Rule_leans, kp_Rule_leans⟩,
    a_HighRule := _, c_HighRule := ⟨pg_HighRule, hd_HighRule, po_HighRule, sa_HighRule⟩, g_HighRule := PySem.W.mg_of X G ns_HighRule,
    k_HighRule := ⟨mkk_HighRule, fi_HighRule___init__, isf_Rule___init__, kpc_HighRule⟩,
    na_HighRule_title := nat_HighRule_title,
    me_HighRule_leans := ⟨fi_HighRule_leans, isf_Rule_leans, kp_Rule_leans⟩,
    a_LowRule := _, c_LowRule := ⟨pg_LowRule, hd_LowRule, po_LowRule, sa_LowRule⟩, g_LowRule := PySem.W.mg_of X G ns_LowRule,
    k_LowRule := ⟨mkk_LowRule, fi_LowRule___init__, isf_Rule___init__, kpc_LowRule⟩,
    na_LowRule_title := nat_LowRule_title,
    me_LowRule_leans := ⟨fi_LowRule_leans, isf_Rule_leans, kp_Rule_leans⟩,
    a_NearRule := _, c_NearRule := ⟨pg_NearRule, hd_NearRule, po_NearRule, sa_NearRule⟩, g_NearRule := PySem.W.mg_of X G ns_NearRule,
    k_NearRule := ⟨mkk_NearRule, fi_NearRule___init__, isf_Rule___init__, kpc_NearRule⟩,
    na_NearRule_title := nat_NearRule_title,
    me_NearRule_leans := ⟨fi_NearRule_leans, isf_NearRule_leans, kp_NearRule_leans⟩,
    a_SplitRule := _, c_SplitRule := ⟨pg_SplitRule, hd_SplitRule, po_SplitRule, sa_SplitRule⟩, g_SplitRule := PySem.W.mg_of X G ns_SplitRule,
    k_SplitRule := ⟨mkk_SplitRule, fi_SplitRule___init__, isf_Rule___init__, kpc_SplitRule⟩,
    na_SplitRule_title := nat_SplitRule_title,
    me_SplitRule_leans := ⟨fi_SplitRule_leans, isf_SplitRule_leans, kp_SplitRule_leans⟩,
    a_NoRule := _, g_NoRule := PySem.W.mg_of X G ns_NoRule,
    a_NoPiece := _, g_NoPiece := PySem.W.mg_of X G ns_NoPiece,
    be_NoRule := be_NoRule, ty_NoRule := ty_NoRule, kc_NoRule := kc_NoRule, ec_NoRule := ⟨eg_NoRule, ek_NoRule, be_NoRule, hd_NoRule, ea_NoRule, en, et, em_NoRule⟩, ve_NoRule := ve_NoRule,
    x_NoRule := x_NoRule,
    kit_NoRule_NoRule := kit_NoRule_NoRule,
    kit_NoRule_NoPiece := kit_NoRule_NoPiece,
    exs_NoRule := PySem.W.exm_ref be_NoRule hd_NoRule ty_NoRule ss_NoRule,
    be_NoPiece := be_NoPiece, ty_NoPiece := ty_NoPiece, kc_NoPiece := kc_NoPiece, ec_NoPiece := ⟨eg_NoPiece, ek_NoPiece, be_NoPiece, hd_NoPiece, ea_NoPiece, en, et, em_NoPiece⟩, ve_NoPiece := ve_NoPiece,
    o_NoPiece := ⟨⟨_, _, _, _, _, _, _, _, _, _, _, _, _, _, _, xl_NoPiece, by rfl⟩, sa_NoPiece, be_NoPiece, ty_NoPiece, kc_NoPiece⟩, i_NoPiece := ini_NoPiece, t_NoPiece := tf_NoPiece, xf_NoPiece := ⟨eg_NoPiece, ek_NoPiece, be_NoPiece, hd_NoPiece⟩,
    no_NoPiece_row := no_NoPiece_row,
    kit_NoPiece_NoRule := kit_NoPiece_NoRule,
    kit_NoPiece_NoPiece := kit_NoPiece_NoPiece,
    t_LETTERS := t_LETTERS, g_LETTERS := PySem.W.mg_of X G ns_LETTERS,
    t_FIGURES := t_FIGURES, g_FIGURES := PySem.W.mg_of X G ns_FIGURES,
    n_bool := PySem.W.mg_none_of X G ns_bool,
    n_int := PySem.W.mg_none_of X G ns_int,
    n_isinstance := PySem.W.mg_none_of X G ns_isinstance,
    n_len := PySem.W.mg_none_of X G ns_len,
    n_range := PySem.W.mg_none_of X G ns_range,
    n_str := PySem.W.mg_none_of X G ns_str,
    n_tuple := PySem.W.mg_none_of X G ns_tuple })⟩
theorem walk {l : PySem.W.OpenLaw} {q : Program} {loose : List Str} {XP : (Str → Option Value) → Heap → Prop} {YP : World → Heap → Prop} {d : DefRec} {K : Params → PySem.W.Frag} (hn : l.most = some 63) (hdf : d.params.defaults = [])
    (hY : ∀ (w : World) (h : Heap), YP w h → (K w.params).In h)
    (F : ∀ (w : World) (mg : Str → Option Value) (fa : Addr) (h : Heap), (K w.params).In h → h.Ns mainGlobals mg → mg d.name = some (.ref fa) →
      ∃ fd : FuncData, (∀ (s : Shared) (u : Value), BindsTo s fd ⟨[u], []⟩ [("_law_script", u)]) ∧ ∀ base : Heap, (K w.params).In base → base.Ns mainGlobals mg → FnOk l.prog w (K w.params) mg base CX0 8 fa fd ["_law_script"] (sp_law (K w.params))) :
    PySem.W.WalkO q loose XP YP l.row.toRowW d [] (fun f vs => PySem.call f vs) :=
  L2.walk_of (n := 63) (k := 8) (x := "_law_script") (CX := fun _ => CX0) (sp := fun w => sp_law (K w.params)) hn (by decide) hdf ⟨rfl, by decide, by decide⟩ hY F (fun _ _ a ns hl _ hS => ⟨a, ns, rfl, hS, hl, fun _ => rfl⟩) fun _ _ _ _ _ z => z
end Jw
open PySem PySem.W PyProof.Rows
set_option maxRecDepth 100000 in
set_option maxHeartbeats 0 in
theorem PySem.Challenge.cw_joinload_k12_rows_read_holds : PySem.Challenge.rw_joinload_k12_rows_read.Holds := by
  w_on; o_law; k_head; (case hw => w_witness2)
  k_fill
  refine Jw.walk (l := PySem.Challenge.rw_joinload_k12_rows_read) rfl rfl (fun w h Y => PySem.W.kIn_of Y) ?F
  case F =>
    intro w mg fa h KX G hmg
    refine' Jw.all_mk KX G hmg ?ns_Rule ?ns_HighRule ?ns_LowRule ?ns_NearRule ?ns_SplitRule ?ns_NoRule ?ns_NoPiece ?ini_NoPiece ?fi_Rule___init__ ?fi_Rule_leans ?fi_HighRule___init__ ?fi_HighRule_leans ?fi_LowRule___init__ ?fi_LowRule_leans ?fi_NearRule___init__ ?fi_NearRule_leans ?fi_SplitRule___init__ ?fi_SplitRule_leans ?ns_rule_of ?ns_is_name ?ns_number_of ?ns_step_told ?ns_is_title ?ns_put_stretch ?ns_put_word ?ns_put_fill ?ns_put_name ?ns_put_row ?ns_read_piece ?ns_law_whole ?ns_law_cell_at ?ns_law_name_by ?ns_law_add_by ?ns_law_fill_by ?ns_law_fill_row ?ns_law_word_by ?ns_law_put ?ns_law_built ?ns_law_so ?ns_law ?lk_NoPiece___init__ ?cd_is_NoPiece___init__ ?kp_NoPiece___init__ ?isf_NoPiece___init__ ?lk_Rule___init__ ?cd_is_Rule___init__ ?kp_Rule___init__ ?isf_Rule___init__ ?lk_Rule_leans ?cd_is_Rule_leans ?kp_Rule_leans ?isf_Rule_leans ?lk_NearRule_leans ?cd_is_NearRule_leans ?kp_NearRule_leans ?isf_NearRule_leans ?lk_SplitRule_leans ?cd_is_SplitRule_leans ?kp_SplitRule_leans ?isf_SplitRule_leans ?lk_rule_of ?cd_is_rule_of ?kp_rule_of ?lk_is_name ?cd_is_is_name ?kp_is_name ?lk_number_of ?cd_is_number_of ?kp_number_of ?lk_step_told ?cd_is_step_told ?kp_step_told ?lk_is_title ?cd_is_is_title ?kp_is_title ?lk_put_stretch ?cd_is_put_stretch ?kp_put_stretch ?lk_put_word ?cd_is_put_word ?kp_put_word ?lk_put_fill ?cd_is_put_fill ?kp_put_fill ?lk_put_name ?cd_is_put_name ?kp_put_name ?lk_put_row ?cd_is_put_row ?kp_put_row ?lk_read_piece ?cd_is_read_piece ?kp_read_piece ?lk_law_whole ?cd_is_law_whole ?kp_law_whole ?lk_law_cell_at ?cd_is_law_cell_at ?kp_law_cell_at ?lk_law_name_by ?cd_is_law_name_by ?kp_law_name_by ?lk_law_add_by ?cd_is_law_add_by ?kp_law_add_by ?lk_law_fill_by ?cd_is_law_fill_by ?kp_law_fill_by ?lk_law_fill_row ?cd_is_law_fill_row ?kp_law_fill_row ?lk_law_word_by ?cd_is_law_word_by ?kp_law_word_by ?lk_law_put ?cd_is_law_put ?kp_law_put ?lk_law_built ?cd_is_law_built ?kp_law_built ?lk_law_so ?cd_is_law_so ?kp_law_so ?lk_law ?cd_is_law ?kp_law ?pg_Rule ?hd_Rule ?po_Rule ?sa_Rule ?mkk_Rule ?kpc_Rule ?nat_Rule_title ?pg_HighRule ?hd_HighRule ?po_HighRule ?sa_HighRule ?mkk_HighRule ?kpc_HighRule ?nat_HighRule_title ?pg_LowRule ?hd_LowRule ?po_LowRule ?sa_LowRule ?mkk_LowRule ?kpc_LowRule ?nat_LowRule_title ?pg_NearRule ?hd_NearRule ?po_NearRule ?sa_NearRule ?mkk_NearRule ?kpc_NearRule ?nat_NearRule_title ?pg_SplitRule ?hd_SplitRule ?po_SplitRule ?sa_SplitRule ?mkk_SplitRule ?kpc_SplitRule ?nat_SplitRule_title ?en ?et ?be_NoRule ?ty_NoRule ?kc_NoRule ?eg_NoRule ?ek_NoRule ?hd_NoRule ?ea_NoRule ?em_NoRule ?ve_NoRule ?x_NoRule ?kit_NoRule_NoRule ?kit_NoRule_NoPiece ?ss_NoRule ?be_NoPiece ?ty_NoPiece ?kc_NoPiece ?eg_NoPiece ?ek_NoPiece ?hd_NoPiece ?ea_NoPiece ?em_NoPiece ?ve_NoPiece ?xl_NoPiece ?sa_NoPiece ?tf_NoPiece ?no_NoPiece_row ?kit_NoPiece_NoRule ?kit_NoPiece_NoPiece ?ns_LETTERS ?ns_FIGURES ?ns_bool ?ns_int ?ns_isinstance ?ns_len ?ns_range ?ns_str ?ns_tuple
    (case ns_Rule => first | k_is | k_exc | kit_is)
    (case ns_HighRule => first | k_is | k_exc | kit_is)
    (case ns_LowRule => first | k_is | k_exc | kit_is)
    (case ns_NearRule => first | k_is | k_exc | kit_is)
    (case ns_SplitRule => first | k_is | k_exc | kit_is)
    (case ns_NoRule => first | k_is | k_exc | kit_is)
    (case ns_NoPiece => first | k_is | k_exc | kit_is)
    (case ini_NoPiece => first | k_is | k_exc | kit_is)
    (case fi_Rule___init__ => first | k_is | k_exc | kit_is)
    (case fi_Rule_leans => first | k_is | k_exc | kit_is)
    (case fi_HighRule___init__ => first | k_is | k_exc | kit_is)
    (case fi_HighRule_leans => first | k_is | k_exc | kit_is)
    (case fi_LowRule___init__ => first | k_is | k_exc | kit_is)
    (case fi_LowRule_leans => first | k_is | k_exc | kit_is)
    (case fi_NearRule___init__ => first | k_is | k_exc | kit_is)
    (case fi_NearRule_leans => first | k_is | k_exc | kit_is)
    (case fi_SplitRule___init__ => first | k_is | k_exc | kit_is)
    (case fi_SplitRule_leans => first | k_is | k_exc | kit_is)
    (case ns_rule_of => first | k_is | k_exc | kit_is)
    (case ns_is_name => first | k_is | k_exc | kit_is)
    (case ns_number_of => first | k_is | k_exc | kit_is)
    (case ns_step_told => first | k_is | k_exc | kit_is)
    (case ns_is_title => first | k_is | k_exc | kit_is)
    (case ns_put_stretch => first | k_is | k_exc | kit_is)
    (case ns_put_word => first | k_is | k_exc | kit_is)
    (case ns_put_fill => first | k_is | k_exc | kit_is)
    (case ns_put_name => first | k_is | k_exc | kit_is)
    (case ns_put_row => first | k_is | k_exc | kit_is)
    (case ns_read_piece => first | k_is | k_exc | kit_is)
    (case ns_law_whole => first | k_is | k_exc | kit_is)
    (case ns_law_cell_at => first | k_is | k_exc | kit_is)
    (case ns_law_name_by => first | k_is | k_exc | kit_is)
    (case ns_law_add_by => first | k_is | k_exc | kit_is)
    (case ns_law_fill_by => first | k_is | k_exc | kit_is)
    (case ns_law_fill_row => first | k_is | k_exc | kit_is)
    (case ns_law_word_by => first | k_is | k_exc | kit_is)
    (case ns_law_put => first | k_is | k_exc | kit_is)
    (case ns_law_built => first | k_is | k_exc | kit_is)
    (case ns_law_so => first | k_is | k_exc | kit_is)
    (case ns_law => first | k_is | k_exc | kit_is)
    (case lk_NoPiece___init__ => first | k_is | k_exc | kit_is)
    (case cd_is_NoPiece___init__ => first | k_is | k_exc | kit_is)
    (case kp_NoPiece___init__ => first | k_is | k_exc | kit_is)
    (case isf_NoPiece___init__ => first | k_is | k_exc | kit_is)
    (case lk_Rule___init__ => first | k_is | k_exc | kit_is)
    (case cd_is_Rule___init__ => first | k_is | k_exc | kit_is)
    (case kp_Rule___init__ => first | k_is | k_exc | kit_is)
    (case isf_Rule___init__ => first | k_is | k_exc | kit_is)
    (case lk_Rule_leans => first | k_is | k_exc | kit_is)
    (case cd_is_Rule_leans => first | k_is | k_exc | kit_is)
    (case kp_Rule_leans => first | k_is | k_exc | kit_is)
    (case isf_Rule_leans => first | k_is | k_exc | kit_is)
    (case lk_NearRule_leans => first | k_is | k_exc | kit_is)
    (case cd_is_NearRule_leans => first | k_is | k_exc | kit_is)
    (case kp_NearRule_leans => first | k_is | k_exc | kit_is)
    (case isf_NearRule_leans => first | k_is | k_exc | kit_is)
    (case lk_SplitRule_leans => first | k_is | k_exc | kit_is)
    (case cd_is_SplitRule_leans => first | k_is | k_exc | kit_is)
    (case kp_SplitRule_leans => first | k_is | k_exc | kit_is)
    (case isf_SplitRule_leans => first | k_is | k_exc | kit_is)
    (case lk_rule_of => first | k_is | k_exc | kit_is)
    (case cd_is_rule_of => first | k_is | k_exc | kit_is)
    (case kp_rule_of => first | k_is | k_exc | kit_is)
    (case lk_is_name => first | k_is | k_exc | kit_is)
    (case cd_is_is_name => first | k_is | k_exc | kit_is)
    (case kp_is_name => first | k_is | k_exc | kit_is)
    (case lk_number_of => first | k_is | k_exc | kit_is)
    (case cd_is_number_of => first | k_is | k_exc | kit_is)
    (case kp_number_of => first | k_is | k_exc | kit_is)
    (case lk_step_told => first | k_is | k_exc | kit_is)
    (case cd_is_step_told => first | k_is | k_exc | kit_is)
    (case kp_step_told => first | k_is | k_exc | kit_is)
    (case lk_is_title => first | k_is | k_exc | kit_is)
    (case cd_is_is_title => first | k_is | k_exc | kit_is)
    (case kp_is_title => first | k_is | k_exc | kit_is)
    (case lk_put_stretch => first | k_is | k_exc | kit_is)
    (case cd_is_put_stretch => first | k_is | k_exc | kit_is)
    (case kp_put_stretch => first | k_is | k_exc | kit_is)
    (case lk_put_word => first | k_is | k_exc | kit_is)
    (case cd_is_put_word => first | k_is | k_exc | kit_is)
    (case kp_put_word => first | k_is | k_exc | kit_is)
    (case lk_put_fill => first | k_is | k_exc | kit_is)
    (case cd_is_put_fill => first | k_is | k_exc | kit_is)
    (case kp_put_fill => first | k_is | k_exc | kit_is)
    (case lk_put_name => first | k_is | k_exc | kit_is)
    (case cd_is_put_name => first | k_is | k_exc | kit_is)
    (case kp_put_name => first | k_is | k_exc | kit_is)
    (case lk_put_row => first | k_is | k_exc | kit_is)
    (case cd_is_put_row => first | k_is | k_exc | kit_is)
    (case kp_put_row => first | k_is | k_exc | kit_is)
    (case lk_read_piece => first | k_is | k_exc | kit_is)
    (case cd_is_read_piece => first | k_is | k_exc | kit_is)
    (case kp_read_piece => first | k_is | k_exc | kit_is)
    (case lk_law_whole => first | k_is | k_exc | kit_is)
    (case cd_is_law_whole => first | k_is | k_exc | kit_is)
    (case kp_law_whole => first | k_is | k_exc | kit_is)
    (case lk_law_cell_at => first | k_is | k_exc | kit_is)
    (case cd_is_law_cell_at => first | k_is | k_exc | kit_is)
    (case kp_law_cell_at => first | k_is | k_exc | kit_is)
    (case lk_law_name_by => first | k_is | k_exc | kit_is)
    (case cd_is_law_name_by => first | k_is | k_exc | kit_is)
    (case kp_law_name_by => first | k_is | k_exc | kit_is)
    (case lk_law_add_by => first | k_is | k_exc | kit_is)
    (case cd_is_law_add_by => first | k_is | k_exc | kit_is)
    (case kp_law_add_by => first | k_is | k_exc | kit_is)
    (case lk_law_fill_by => first | k_is | k_exc | kit_is)
    (case cd_is_law_fill_by => first | k_is | k_exc | kit_is)
    (case kp_law_fill_by => first | k_is | k_exc | kit_is)
    (case lk_law_fill_row => first | k_is | k_exc | kit_is)
    (case cd_is_law_fill_row => first | k_is | k_exc | kit_is)
    (case kp_law_fill_row => first | k_is | k_exc | kit_is)
    (case lk_law_word_by => first | k_is | k_exc | kit_is)
    (case cd_is_law_word_by => first | k_is | k_exc | kit_is)
    (case kp_law_word_by => first | k_is | k_exc | kit_is)
    (case lk_law_put => first | k_is | k_exc | kit_is)
    (case cd_is_law_put => first | k_is | k_exc | kit_is)
    (case kp_law_put => first | k_is | k_exc | kit_is)
    (case lk_law_built => first | k_is | k_exc | kit_is)
    (case cd_is_law_built => first | k_is | k_exc | kit_is)
    (case kp_law_built => first | k_is | k_exc | kit_is)
    (case lk_law_so => first | k_is | k_exc | kit_is)
    (case cd_is_law_so => first | k_is | k_exc | kit_is)
    (case kp_law_so => first | k_is | k_exc | kit_is)
    (case lk_law => first | k_is | k_exc | kit_is)
    (case cd_is_law => first | k_is | k_exc | kit_is)
    (case kp_law => first | k_is | k_exc | kit_is)
    (case pg_Rule => first | k_is | k_exc | kit_is)
    (case hd_Rule => first | k_is | k_exc | kit_is)
    (case po_Rule => first | k_is | k_exc | kit_is)
    (case sa_Rule => first | k_is | k_exc | kit_is)
    (case mkk_Rule => first | k_is | k_exc | kit_is)
    (case kpc_Rule => first | k_is | k_exc | kit_is)
    (case nat_Rule_title => first | k_is | k_exc | kit_is)
    (case pg_HighRule => first | k_is | k_exc | kit_is)
    (case hd_HighRule => first | k_is | k_exc | kit_is)
    (case po_HighRule => first | k_is | k_exc | kit_is)
    (case sa_HighRule => first | k_is | k_exc | kit_is)
    (case mkk_HighRule => first | k_is | k_exc | kit_is)
    (case kpc_HighRule => first | k_is | k_exc | kit_is)
    (case nat_HighRule_title => first | k_is | k_exc | kit_is)
    (case pg_LowRule => first | k_is | k_exc | kit_is)
    (case hd_LowRule => first | k_is | k_exc | kit_is)
    (case po_LowRule => first | k_is | k_exc | kit_is)
    (case sa_LowRule => first | k_is | k_exc | kit_is)
    (case mkk_LowRule => first | k_is | k_exc | kit_is)
    (case kpc_LowRule => first | k_is | k_exc | kit_is)
    (case nat_LowRule_title => first | k_is | k_exc | kit_is)
    (case pg_NearRule => first | k_is | k_exc | kit_is)
    (case hd_NearRule => first | k_is | k_exc | kit_is)
    (case po_NearRule => first | k_is | k_exc | kit_is)
    (case sa_NearRule => first | k_is | k_exc | kit_is)
    (case mkk_NearRule => first | k_is | k_exc | kit_is)
    (case kpc_NearRule => first | k_is | k_exc | kit_is)
    (case nat_NearRule_title => first | k_is | k_exc | kit_is)
    (case pg_SplitRule => first | k_is | k_exc | kit_is)
    (case hd_SplitRule => first | k_is | k_exc | kit_is)
    (case po_SplitRule => first | k_is | k_exc | kit_is)
    (case sa_SplitRule => first | k_is | k_exc | kit_is)
    (case mkk_SplitRule => first | k_is | k_exc | kit_is)
    (case kpc_SplitRule => first | k_is | k_exc | kit_is)
    (case nat_SplitRule_title => first | k_is | k_exc | kit_is)
    (case en => first | k_is | k_exc | kit_is)
    (case et => first | k_is | k_exc | kit_is)
    (case be_NoRule => first | k_is | k_exc | kit_is)
    (case ty_NoRule => first | k_is | k_exc | kit_is)
    (case kc_NoRule => first | k_is | k_exc | kit_is)
    (case eg_NoRule => first | k_is | k_exc | kit_is)
    (case ek_NoRule => first | k_is | k_exc | kit_is)
    (case hd_NoRule => first | k_is | k_exc | kit_is)
    (case ea_NoRule => first | k_is | k_exc | kit_is)
    (case em_NoRule => first | k_is | k_exc | kit_is)
    (case ve_NoRule => first | k_is | k_exc | kit_is)
    (case x_NoRule => first | k_is | k_exc | kit_is)
    (case kit_NoRule_NoRule => first | k_is | k_exc | kit_is)
    (case kit_NoRule_NoPiece => first | k_is | k_exc | kit_is)
    (case ss_NoRule => first | k_is | k_exc | kit_is)
    (case be_NoPiece => first | k_is | k_exc | kit_is)
    (case ty_NoPiece => first | k_is | k_exc | kit_is)
    (case kc_NoPiece => first | k_is | k_exc | kit_is)
    (case eg_NoPiece => first | k_is | k_exc | kit_is)
    (case ek_NoPiece => first | k_is | k_exc | kit_is)
    (case hd_NoPiece => first | k_is | k_exc | kit_is)
    (case ea_NoPiece => first | k_is | k_exc | kit_is)
    (case em_NoPiece => first | k_is | k_exc | kit_is)
    (case ve_NoPiece => first | k_is | k_exc | kit_is)
    (case xl_NoPiece => first | k_is | k_exc | kit_is)
    (case sa_NoPiece => first | k_is | k_exc | kit_is)
    (case tf_NoPiece => first | k_is | k_exc | kit_is)
    (case no_NoPiece_row => first | k_is | k_exc | kit_is)
    (case kit_NoPiece_NoRule => first | k_is | k_exc | kit_is)
    (case kit_NoPiece_NoPiece => first | k_is | k_exc | kit_is)
    (case ns_LETTERS => first | k_is | k_exc | kit_is)
    (case ns_FIGURES => first | k_is | k_exc | kit_is)
    (case ns_bool => first | k_is | k_exc | kit_is)
    (case ns_int => first | k_is | k_exc | kit_is)
    (case ns_isinstance => first | k_is | k_exc | kit_is)
    (case ns_len => first | k_is | k_exc | kit_is)
    (case ns_range => first | k_is | k_exc | kit_is)
    (case ns_str => first | k_is | k_exc | kit_is)
    (case ns_tuple => first | k_is | k_exc | kit_is)
