import Derived.Test.YtcnefidknaobhaaGreatBase0
import Derived.Test.YtcnefidknaobhaaGreatRef8
set_option linter.unusedVariables false
set_option linter.unusedSimpArgs false
namespace Go.Proofs.YtcnefidknaobhaaGreat
open Go.PK

/-- An integer written otherwise. -/
theorem intV {a : Int} {n : Nat} (h : a = (n : Int)) (hn : n ≤ 9223372036854775807) : Value.int .i64 (IntKind.i64.wrap a) = .int .i64 (n : Int) := by
  rw [h, IntWalk.i64_in _ (by omega)]

def amongN (x : Int) (n : Nat) : Nat := (IntKind.u64.wrap x).toNat % n
theorem amongN_lt {x : Int} {n : Nat} (h : 0 < n) : amongN x n < n := Nat.mod_lt _ h
theorem u64_nonneg (x : Int) : 0 ≤ IntKind.u64.wrap x := by simp [IntKind.wrap, IntKind.bits, IntKind.signed]; omega

theorem sum_after (b : Nat) (p : Option Addr) (cap : Nat) (l : List B8) (hb : l.length ≤ 1000000000) :
    Spc Tryz.prog 325 #[.pointer (some ⟨b, 0, none⟩)] [hcel b (after l).1 p (after l).2.length cap l.length, sls p 1 (after l).2.length (bytes (after l).2)] [] (Is (.agg (bytes (sha l)).toArray)) :=
  sum_any b (after l).1 p cap l.length (after l).2 (after_rest l).1 hb

end Go.Proofs.YtcnefidknaobhaaGreat
