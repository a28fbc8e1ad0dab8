/- The facts on types that the walks want, by program. -/
import Derived.Test.YtpokocnnaendaaaPkL
import Derived.Test.YtpokocnnaendaaaProg
import Derived.KernelRfl
namespace Go.Proofs.Ytpokocnnaendaaa
open Go.PK
theorem mixed : Try.prog.follows .mixedOrders = true := by kernel_rfl
theorem fa_48_0 : ∀ p w, (Instr.fieldAt 48 (.pointer (some p)) 0).run Try.prog w = .ok (.pointer (some (p.add 0))) w := fun p w => by kernel_rfl
theorem fa_48_1 : ∀ p w, (Instr.fieldAt 48 (.pointer (some p)) 1).run Try.prog w = .ok (.pointer (some (p.add 8))) w := fun p w => by kernel_rfl
theorem fa_48_2 : ∀ p w, (Instr.fieldAt 48 (.pointer (some p)) 2).run Try.prog w = .ok (.pointer (some (p.add 9))) w := fun p w => by kernel_rfl
theorem fa_48_3 : ∀ p w, (Instr.fieldAt 48 (.pointer (some p)) 3).run Try.prog w = .ok (.pointer (some (p.add 10))) w := fun p w => by kernel_rfl
theorem pl_48 : StrT Try.prog 48 #[(0, 8), (8, 1), (9, 1), (10, 1)] := ⟨_, Try.runUnderlying48, fun w => by kernel_rfl⟩
theorem el_22 : ElemT Try.prog 22 23 1 24 := ⟨by kernel_rfl, ⟨Try.t23, _, by kernel_rfl, (by first | exact rfl | kernel_rfl), by kernel_rfl, by kernel_rfl, by kernel_rfl⟩, by decide⟩
theorem el_23 : ElemT Try.prog 23 5 1 1 := ⟨by kernel_rfl, ⟨Try.t5, _, by kernel_rfl, (by first | exact rfl | kernel_rfl), by kernel_rfl, by kernel_rfl, by kernel_rfl⟩, by decide⟩
theorem el_55 : ElemT Try.prog 55 50 32 32 := ⟨by kernel_rfl, ⟨Try.t50, _, by kernel_rfl, (by first | exact rfl | kernel_rfl), by kernel_rfl, by kernel_rfl, by kernel_rfl⟩, by decide⟩
theorem el_87 : ElemT Try.prog 87 44 1 4 := ⟨by kernel_rfl, ⟨Try.t44, _, by kernel_rfl, (by first | exact rfl | kernel_rfl), by kernel_rfl, by kernel_rfl, by kernel_rfl⟩, by decide⟩
end Go.Proofs.Ytpokocnnaendaaa
