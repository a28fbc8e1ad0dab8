import Derived.Test.YtcnefidknaobhaaGreatBase0
import Derived.Test.YtcnefidknaobhaaGreatPC
set_option linter.unusedVariables false
set_option linter.unusedSimpArgs false
namespace Go.Proofs.YtcnefidknaobhaaGreat
open Go.PK
/-! ### Integers as keys of a map -/
def goodI (v : Value) : Prop := ∃ n, v = .int .i64 n
theorem keyI : KeyT Tryz.prog 3 goodI where
  desc := ⟨_, Tryz.runUnderlying3, fun a b ha hb => by
    obtain ⟨m, rfl⟩ := ha; obtain ⟨n, rfl⟩ := hb
    by_cases h : m = n <;> simp [Instr.sameNow, same, h]⟩
  eq := by
    rintro _ _ ⟨a, rfl⟩ ⟨c, rfl⟩ w
    by_cases h : a = c <;> simp [Op.equal, Op.maxDepth, same, h, Go.part, go_sem]
  chk := by
    rintro _ ⟨a, rfl⟩ e w
    have : ∀ n, (Instr.checkKey e (n + 2) 3 (.int .i64 a)).run Tryz.prog w = .ok () w := by
      intro n
      simp [Instr.checkKey, Go.part, go_sem]
    exact this 9998
  bits := by
    rintro _ ⟨a, rfl⟩
    simp [Instr.sameBits]
theorem setV_absent {k v : Value} : ∀ {c : List (Value × Value)}, lookV k c = none → setV k v c = c ++ [(k, v)]
  | [], _ => rfl
  | (a, u) :: c, h => by
    rw [lookV] at h
    split at h
    · cases h
    · next hn => rw [setV, if_neg hn, setV_absent h]; rfl
end Go.Proofs.YtcnefidknaobhaaGreat
