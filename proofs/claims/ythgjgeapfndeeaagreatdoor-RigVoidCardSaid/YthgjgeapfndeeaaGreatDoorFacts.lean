/- The facts on types that the walks want, by program. -/
import Derived.Test.YthgjgeapfndeeaaGreatDoorPD
import Derived.Test.YthgjgeapfndeeaaGreatDoorProg
import Derived.KernelRfl
set_option linter.unusedVariables false
set_option linter.unusedSimpArgs false
namespace Go.Proofs.YthgjgeapfndeeaaGreatDoor
open Go.PK
theorem mixed : Tryz.prog.follows .mixedOrders = true := by kernel_rfl
theorem fa_35_0 : ∀ p w, (Instr.fieldAt 35 (.pointer (some p)) 0).run Tryz.prog w = .ok (.pointer (some (p.add 0))) w := fun p w => by kernel_rfl
theorem fa_38_0 : ∀ p w, (Instr.fieldAt 38 (.pointer (some p)) 0).run Tryz.prog w = .ok (.pointer (some (p.add 0))) w := fun p w => by kernel_rfl
theorem fa_38_1 : ∀ p w, (Instr.fieldAt 38 (.pointer (some p)) 1).run Tryz.prog w = .ok (.pointer (some (p.add 45))) w := fun p w => by kernel_rfl
theorem fa_38_2 : ∀ p w, (Instr.fieldAt 38 (.pointer (some p)) 2).run Tryz.prog w = .ok (.pointer (some (p.add 46))) w := fun p w => by kernel_rfl
theorem fa_38_3 : ∀ p w, (Instr.fieldAt 38 (.pointer (some p)) 3).run Tryz.prog w = .ok (.pointer (some (p.add 47))) w := fun p w => by kernel_rfl
theorem fa_38_4 : ∀ p w, (Instr.fieldAt 38 (.pointer (some p)) 4).run Tryz.prog w = .ok (.pointer (some (p.add 48))) w := fun p w => by kernel_rfl
theorem fa_38_5 : ∀ p w, (Instr.fieldAt 38 (.pointer (some p)) 5).run Tryz.prog w = .ok (.pointer (some (p.add 49))) w := fun p w => by kernel_rfl
theorem fa_122_1 : ∀ p w, (Instr.fieldAt 122 (.pointer (some p)) 1).run Tryz.prog w = .ok (.pointer (some (p.add 1))) w := fun p w => by kernel_rfl
theorem fa_122_2 : ∀ p w, (Instr.fieldAt 122 (.pointer (some p)) 2).run Tryz.prog w = .ok (.pointer (some (p.add 2))) w := fun p w => by kernel_rfl
theorem fa_122_3 : ∀ p w, (Instr.fieldAt 122 (.pointer (some p)) 3).run Tryz.prog w = .ok (.pointer (some (p.add 3))) w := fun p w => by kernel_rfl
theorem fa_211_0 : ∀ p w, (Instr.fieldAt 211 (.pointer (some p)) 0).run Tryz.prog w = .ok (.pointer (some (p.add 0))) w := fun p w => by kernel_rfl
theorem fa_211_1 : ∀ p w, (Instr.fieldAt 211 (.pointer (some p)) 1).run Tryz.prog w = .ok (.pointer (some (p.add 1))) w := fun p w => by kernel_rfl
theorem fa_211_2 : ∀ p w, (Instr.fieldAt 211 (.pointer (some p)) 2).run Tryz.prog w = .ok (.pointer (some (p.add 2))) w := fun p w => by kernel_rfl
theorem fa_211_3 : ∀ p w, (Instr.fieldAt 211 (.pointer (some p)) 3).run Tryz.prog w = .ok (.pointer (some (p.add 3))) w := fun p w => by kernel_rfl
theorem fa_453_0 : ∀ p w, (Instr.fieldAt 453 (.pointer (some p)) 0).run Tryz.prog w = .ok (.pointer (some (p.add 0))) w := fun p w => by kernel_rfl
theorem fa_453_1 : ∀ p w, (Instr.fieldAt 453 (.pointer (some p)) 1).run Tryz.prog w = .ok (.pointer (some (p.add 1))) w := fun p w => by kernel_rfl
theorem fa_549_0 : ∀ p w, (Instr.fieldAt 549 (.pointer (some p)) 0).run Tryz.prog w = .ok (.pointer (some (p.add 0))) w := fun p w => by kernel_rfl
theorem fa_549_1 : ∀ p w, (Instr.fieldAt 549 (.pointer (some p)) 1).run Tryz.prog w = .ok (.pointer (some (p.add 8))) w := fun p w => by kernel_rfl
theorem fa_549_2 : ∀ p w, (Instr.fieldAt 549 (.pointer (some p)) 2).run Tryz.prog w = .ok (.pointer (some (p.add 9))) w := fun p w => by kernel_rfl
theorem fa_549_3 : ∀ p w, (Instr.fieldAt 549 (.pointer (some p)) 3).run Tryz.prog w = .ok (.pointer (some (p.add 10))) w := fun p w => by kernel_rfl
theorem fa_554_0 : ∀ p w, (Instr.fieldAt 554 (.pointer (some p)) 0).run Tryz.prog w = .ok (.pointer (some (p.add 0))) w := fun p w => by kernel_rfl
theorem fa_554_1 : ∀ p w, (Instr.fieldAt 554 (.pointer (some p)) 1).run Tryz.prog w = .ok (.pointer (some (p.add 1))) w := fun p w => by kernel_rfl
theorem fa_562_0 : ∀ p w, (Instr.fieldAt 562 (.pointer (some p)) 0).run Tryz.prog w = .ok (.pointer (some (p.add 0))) w := fun p w => by kernel_rfl
theorem fa_562_1 : ∀ p w, (Instr.fieldAt 562 (.pointer (some p)) 1).run Tryz.prog w = .ok (.pointer (some (p.add 32))) w := fun p w => by kernel_rfl
theorem fa_562_2 : ∀ p w, (Instr.fieldAt 562 (.pointer (some p)) 2).run Tryz.prog w = .ok (.pointer (some (p.add 33))) w := fun p w => by kernel_rfl
theorem fa_706_0 : ∀ p w, (Instr.fieldAt 706 (.pointer (some p)) 0).run Tryz.prog w = .ok (.pointer (some (p.add 0))) w := fun p w => by kernel_rfl
theorem pl_453 : StrT Tryz.prog 453 #[(0, 1), (1, 1)] := ⟨_, Tryz.runUnderlying453, fun w => by kernel_rfl⟩
theorem pl_549 : StrT Tryz.prog 549 #[(0, 8), (8, 1), (9, 1), (10, 1)] := ⟨_, Tryz.runUnderlying549, fun w => by kernel_rfl⟩
theorem pl_575 : StrT Tryz.prog 575 #[(0, 2), (2, 1)] := ⟨_, Tryz.runUnderlying575, fun w => by kernel_rfl⟩
theorem pl_706 : StrT Tryz.prog 706 #[(0, 1), (1, 1)] := ⟨_, Tryz.runUnderlying706, fun w => by kernel_rfl⟩
theorem el_22 : ElemT Tryz.prog 22 5 1 1 := ⟨by kernel_rfl, ⟨Tryz.t5, _, by kernel_rfl, (by first | exact rfl | kernel_rfl), by kernel_rfl, by kernel_rfl, by kernel_rfl⟩, by decide⟩
theorem el_237 : ElemT Tryz.prog 237 3 1 8 := ⟨by kernel_rfl, ⟨Tryz.t3, _, by kernel_rfl, (by first | exact rfl | kernel_rfl), by kernel_rfl, by kernel_rfl, by kernel_rfl⟩, by decide⟩
theorem el_669 : ElemT Tryz.prog 669 90 1 4 := ⟨by kernel_rfl, ⟨Tryz.t90, _, by kernel_rfl, (by first | exact rfl | kernel_rfl), by kernel_rfl, by kernel_rfl, by kernel_rfl⟩, by decide⟩
end Go.Proofs.YthgjgeapfndeeaaGreatDoor
