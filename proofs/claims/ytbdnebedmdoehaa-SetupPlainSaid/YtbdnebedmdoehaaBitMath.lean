/- Bits of whole numbers: no program here. -/
import Derived.Test.YtbdnebedmdoehaaMath
namespace Go.PK
def zbits : Nat → Int → List Int
  | 0, _ => []
  | n + 1, z => z % 2 :: zbits n (z / 2)
theorem zbits_length : ∀ n z, (zbits n z).length = n
  | 0, _ => rfl
  | n + 1, z => by rw [zbits, List.length_cons, zbits_length]
theorem two_pos (n : Nat) : (0 : Int) < 2 ^ n := Int.pow_pos (by decide)
theorem half_pow (z : Int) (n : Nat) : z / 2 ^ n / 2 = z / 2 ^ (n + 1) := by
  rw [Int.pow_succ, ← Int.ediv_ediv_of_nonneg (Int.le_of_lt (two_pos n))]
theorem pow_half (z : Int) (n : Nat) : z / 2 / 2 ^ n = z / 2 ^ (n + 1) := by
  rw [Int.pow_succ, Int.mul_comm, ← Int.ediv_ediv_of_nonneg (by decide)]
theorem zbits_snoc : ∀ n z, zbits (n + 1) z = zbits n z ++ [z / 2 ^ n % 2]
  | 0, z => by simp [zbits]
  | n + 1, z => by rw [zbits, zbits_snoc n (z / 2), pow_half, zbits]; rfl
theorem zbits_get : ∀ {n z i}, i < n → (zbits n z)[i]? = some (z / 2 ^ i % 2)
  | n + 1, z, 0, _ => by simp [zbits]
  | n + 1, z, i + 1, h => by
    rw [zbits, List.getElem?_cons_succ, zbits_get (by omega), pow_half]
theorem zbits_add : ∀ (n : Nat) (z q : Int), zbits n (z + 2 ^ n * q) = zbits n z
  | 0, _, _ => rfl
  | n + 1, z, q => by
    have e : (2 : Int) ^ (n + 1) * q = 2 * (2 ^ n * q) := by rw [Int.pow_succ]; simp only [Int.mul_comm, Int.mul_left_comm]
    rw [e, zbits, zbits]
    have h1 : (z + 2 * (2 ^ n * q)) % 2 = z % 2 := by omega
    have h2 : (z + 2 * (2 ^ n * q)) / 2 = z / 2 + 2 ^ n * q := by omega
    rw [h1, h2, zbits_add]
theorem zbits_app : ∀ (m n : Nat) (z : Int), zbits (m + n) z = zbits m z ++ zbits n (z / 2 ^ m)
  | 0, n, z => by simp [zbits]
  | m + 1, n, z => by
    rw [show m + 1 + n = (m + n) + 1 by omega, zbits, zbits_app m n, pow_half, zbits]; rfl
theorem zbits_two (z : Int) : zbits 64 (z % 18446744073709551616) ++ zbits 64 (z / 18446744073709551616 % 18446744073709551616) = zbits 128 z := by
  rw [show (128 : Nat) = 64 + 64 from rfl, zbits_app]
  have h : ∀ y : Int, zbits 64 (y % 18446744073709551616) = zbits 64 y := fun y => by
    have := zbits_add 64 (y % 18446744073709551616) (y / 18446744073709551616)
    rw [show (2 : Int) ^ 64 = 18446744073709551616 from rfl] at this
    rw [← this]; congr 1; omega
  rw [h, h]; rfl
theorem mod_pow (z : Int) (n : Nat) : z % 2 ^ (n + 1) = z % 2 ^ n + z / 2 ^ n % 2 * 2 ^ n := by
  have h1 := Int.emod_add_mul_ediv z (2 ^ n)
  have h2 := Int.emod_nonneg z (Int.ne_of_gt (two_pos n))
  have h3 := Int.emod_lt_of_pos z (two_pos n)
  have h4 := half_pow z n
  have h5 := Int.emod_add_mul_ediv z (2 ^ (n + 1))
  have e : ∀ k : Int, (2 : Int) ^ (n + 1) * k = 2 ^ n * (2 * k) := fun k => by rw [Int.pow_succ, Int.mul_assoc]
  rw [e, ← h4] at h5
  have h6 : z / 2 ^ n = z / 2 ^ n % 2 + 2 * (z / 2 ^ n / 2) := by omega
  rw [h6, Int.mul_add] at h1
  have h7 : (z / 2 ^ n % 2 + 2 * (z / 2 ^ n / 2)) / 2 = z / 2 ^ n / 2 := by omega
  have h8 : (z / 2 ^ n % 2 + 2 * (z / 2 ^ n / 2)) % 2 = z / 2 ^ n % 2 := by omega
  rw [Int.mul_comm (z / 2 ^ n % 2) (2 ^ n)]
  generalize hA : 2 ^ n * (2 * (z / 2 ^ n / 2)) = A at *
  generalize hB : 2 ^ n * (z / 2 ^ n % 2) = B at *
  omega
theorem mod_bd (z : Int) (n : Nat) (h : n ≤ 64) : 0 ≤ z % 2 ^ n ∧ z % 2 ^ n < 18446744073709551616 := by
  have h1 := Int.emod_nonneg z (Int.ne_of_gt (two_pos n))
  have h2 := Int.emod_lt_of_pos z (two_pos n)
  have h3 : (2 : Int) ^ n ≤ 2 ^ 64 := by
    have := Nat.pow_le_pow_right (n := 2) (by decide) h
    exact_mod_cast this
  rw [show (2 : Int) ^ 64 = 18446744073709551616 from rfl] at h3
  omega
theorem bit_bd (z : Int) (n : Nat) : 0 ≤ z / 2 ^ n % 2 ∧ z / 2 ^ n % 2 ≤ 1 := by omega
/-- What is carried. -/
def cy (a b : Int) (n : Nat) : Int := (a + b) / 2 ^ n - a / 2 ^ n - b / 2 ^ n
theorem cy_step (a b : Int) (n : Nat) : (a / 2 ^ n % 2 + b / 2 ^ n % 2 + cy a b n) % 2 = (a + b) / 2 ^ n % 2 ∧ (a / 2 ^ n % 2 + b / 2 ^ n % 2 + cy a b n) / 2 = cy a b (n + 1) := by
  simp only [cy, ← half_pow]
  omega
theorem cy_bd (a b : Int) : ∀ n, 0 ≤ cy a b n ∧ cy a b n ≤ 1
  | 0 => by simp [cy]; omega
  | n + 1 => by
    have h := cy_bd a b n
    have := (cy_step a b n).2
    have h1 := bit_bd a n
    have h2 := bit_bd b n
    omega
end Go.PK
