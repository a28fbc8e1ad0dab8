/- The facts on types that the walks want, by program. -/
import Derived.Test.YtnpkogbniejgfaaPkH
import Derived.Test.YtnpkogbniejgfaaProg
import Derived.KernelRfl
namespace Go.Proofs.Ytnpkogbniejgfaa
open Go.PK
theorem mixed : Try.prog.follows .mixedOrders = true := by kernel_rfl
theorem fa_30_0 : ∀ p w, (Instr.fieldAt 30 (.pointer (some p)) 0).run Try.prog w = .ok (.pointer (some (p.add 0))) w := fun p w => by kernel_rfl
theorem fa_30_1 : ∀ p w, (Instr.fieldAt 30 (.pointer (some p)) 1).run Try.prog w = .ok (.pointer (some (p.add 1))) w := fun p w => by kernel_rfl
theorem fa_44_0 : ∀ p w, (Instr.fieldAt 44 (.pointer (some p)) 0).run Try.prog w = .ok (.pointer (some (p.add 0))) w := fun p w => by kernel_rfl
theorem fa_44_1 : ∀ p w, (Instr.fieldAt 44 (.pointer (some p)) 1).run Try.prog w = .ok (.pointer (some (p.add 1))) w := fun p w => by kernel_rfl
theorem fa_44_2 : ∀ p w, (Instr.fieldAt 44 (.pointer (some p)) 2).run Try.prog w = .ok (.pointer (some (p.add 3))) w := fun p w => by kernel_rfl
theorem fa_45_0 : ∀ p w, (Instr.fieldAt 45 (.pointer (some p)) 0).run Try.prog w = .ok (.pointer (some (p.add 0))) w := fun p w => by kernel_rfl
theorem fa_45_1 : ∀ p w, (Instr.fieldAt 45 (.pointer (some p)) 1).run Try.prog w = .ok (.pointer (some (p.add 1))) w := fun p w => by kernel_rfl
theorem fa_52_0 : ∀ p w, (Instr.fieldAt 52 (.pointer (some p)) 0).run Try.prog w = .ok (.pointer (some (p.add 0))) w := fun p w => by kernel_rfl
theorem fa_52_1 : ∀ p w, (Instr.fieldAt 52 (.pointer (some p)) 1).run Try.prog w = .ok (.pointer (some (p.add 1))) w := fun p w => by kernel_rfl
theorem fa_52_2 : ∀ p w, (Instr.fieldAt 52 (.pointer (some p)) 2).run Try.prog w = .ok (.pointer (some (p.add 2))) w := fun p w => by kernel_rfl
theorem fa_52_3 : ∀ p w, (Instr.fieldAt 52 (.pointer (some p)) 3).run Try.prog w = .ok (.pointer (some (p.add 26))) w := fun p w => by kernel_rfl
theorem fa_60_0 : ∀ p w, (Instr.fieldAt 60 (.pointer (some p)) 0).run Try.prog w = .ok (.pointer (some (p.add 0))) w := fun p w => by kernel_rfl
theorem fa_60_1 : ∀ p w, (Instr.fieldAt 60 (.pointer (some p)) 1).run Try.prog w = .ok (.pointer (some (p.add 1))) w := fun p w => by kernel_rfl
theorem fa_60_2 : ∀ p w, (Instr.fieldAt 60 (.pointer (some p)) 2).run Try.prog w = .ok (.pointer (some (p.add 2))) w := fun p w => by kernel_rfl
theorem fa_64_0 : ∀ p w, (Instr.fieldAt 64 (.pointer (some p)) 0).run Try.prog w = .ok (.pointer (some (p.add 0))) w := fun p w => by kernel_rfl
theorem fa_64_1 : ∀ p w, (Instr.fieldAt 64 (.pointer (some p)) 1).run Try.prog w = .ok (.pointer (some (p.add 1))) w := fun p w => by kernel_rfl
theorem fa_75_0 : ∀ p w, (Instr.fieldAt 75 (.pointer (some p)) 0).run Try.prog w = .ok (.pointer (some (p.add 0))) w := fun p w => by kernel_rfl
theorem fa_75_1 : ∀ p w, (Instr.fieldAt 75 (.pointer (some p)) 1).run Try.prog w = .ok (.pointer (some (p.add 1))) w := fun p w => by kernel_rfl
theorem pl_30 : StrT Try.prog 30 #[(0, 1), (1, 1)] := ⟨_, Try.runUnderlying30, fun w => by kernel_rfl⟩
theorem pl_45 : StrT Try.prog 45 #[(0, 1), (1, 1)] := ⟨_, Try.runUnderlying45, fun w => by kernel_rfl⟩
theorem pl_52 : StrT Try.prog 52 #[(0, 1), (1, 1), (2, 24), (26, 24)] := ⟨_, Try.runUnderlying52, fun w => by kernel_rfl⟩
theorem pl_60 : StrT Try.prog 60 #[(0, 1), (1, 1), (2, 1)] := ⟨_, Try.runUnderlying60, fun w => by kernel_rfl⟩
theorem pl_64 : StrT Try.prog 64 #[(0, 1), (1, 1)] := ⟨_, Try.runUnderlying64, fun w => by kernel_rfl⟩
theorem pl_75 : StrT Try.prog 75 #[(0, 1), (1, 1)] := ⟨_, Try.runUnderlying75, fun w => by kernel_rfl⟩
theorem el_53 : ElemT Try.prog 53 30 2 16 := ⟨by kernel_rfl, ⟨Try.t30, _, by kernel_rfl, (by first | exact rfl | kernel_rfl), by kernel_rfl, by kernel_rfl, by kernel_rfl⟩, by decide⟩
theorem el_55 : ElemT Try.prog 55 45 2 16 := ⟨by kernel_rfl, ⟨Try.t45, _, by kernel_rfl, (by first | exact rfl | kernel_rfl), by kernel_rfl, by kernel_rfl, by kernel_rfl⟩, by decide⟩
theorem el_82 : ElemT Try.prog 82 3 1 8 := ⟨by kernel_rfl, ⟨Try.t3, _, by kernel_rfl, (by first | exact rfl | kernel_rfl), by kernel_rfl, by kernel_rfl, by kernel_rfl⟩, by decide⟩
end Go.Proofs.Ytnpkogbniejgfaa
