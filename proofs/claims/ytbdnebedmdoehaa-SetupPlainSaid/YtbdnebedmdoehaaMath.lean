/- Wide numbers, as integers: no program here. -/
import Derived.Test.YtbdnebedmdoehaaPC
namespace Go.PK

theorem IntKind.wrap_i64 (n : Int) : IntKind.i64.wrap n = (n + 9223372036854775808) % 18446744073709551616 - 9223372036854775808 := by
  simp only [IntKind.wrap, IntKind.bits, IntKind.signed]
  simp
  omega
theorem IntKind.wrap_u64 (n : Int) : IntKind.u64.wrap n = n % 18446744073709551616 := by
  simp [IntKind.wrap, IntKind.bits, IntKind.signed]

/-- A wide number. -/
def W (z : Int) : Value := .agg #[.int .i64 (z / 18446744073709551616), .int .u64 (z % 18446744073709551616)]

def clip (z : Int) : Int := if z < -9223372036854775808 then -9223372036854775808 else if z > 9223372036854775807 then 9223372036854775807 else z
def cut (z : Int) : Bool := decide (z < -9223372036854775808 ∨ z > 9223372036854775807)

theorem W_of (n : Int) (h : -9223372036854775808 ≤ n ∧ n ≤ 9223372036854775807) : Value.agg #[.int .i64 (n.fdiv (2 ^ 63)), .int .u64 (IntKind.u64.wrap n)] = W n := by
  rw [IntKind.wrap_u64, W]
  have : n.fdiv (2 ^ 63) = n / 18446744073709551616 := by
    rw [Int.fdiv_eq_ediv_of_nonneg _ (by decide)]
    omega
  rw [this]

theorem W_zero : W 0 = .agg #[.int .i64 0, .int .u64 0] := rfl
end Go.PK
