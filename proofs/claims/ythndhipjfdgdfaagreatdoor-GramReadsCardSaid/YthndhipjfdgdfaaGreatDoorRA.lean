import Derived.Test.YthndhipjfdgdfaaGreatDoorBA
import Derived.Test.YthndhipjfdgdfaaGreatDoorXA
set_option linter.unusedVariables false
set_option linter.unusedSimpArgs false
namespace Go.Proofs.YthndhipjfdgdfaaGreatDoor
open Go.PK
/-! ### The reference's numbers and keys, written -/
theorem tdivN (m : Nat) : Int.tdiv (m : Int) 10 = ((m / 10 : Nat) : Int) := rfl
theorem wrapU {x : Int} (h1 : 0 ≤ x) (h2 : x < 18446744073709551616) : IntKind.wrap .u64 x = x := by
  simp [IntKind.wrap, IntKind.bits, IntKind.signed]; omega
theorem wrapV_u64 {n : Int} (h1 : 0 ≤ n) (h2 : n ≤ 18446744073709551615) : Value.int .u64 (IntKind.u64.wrap n) = .int .u64 n := by rw [wrapU h1 (by omega)]
end Go.Proofs.YthndhipjfdgdfaaGreatDoor

namespace Go.Proofs.YthndhipjfdgdfaaGreatDoor
open Go.PK
/-! ### The reference's print -/
end Go.Proofs.YthndhipjfdgdfaaGreatDoor
