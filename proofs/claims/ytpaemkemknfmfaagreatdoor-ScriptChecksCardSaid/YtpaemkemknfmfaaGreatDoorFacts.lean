/- The facts on types that the walks want, by program. -/
import Derived.Test.YtpaemkemknfmfaaGreatDoorPD
import Derived.Test.YtpaemkemknfmfaaGreatDoorProg
import Derived.KernelRfl
set_option linter.unusedVariables false
set_option linter.unusedSimpArgs false
namespace Go.Proofs.YtpaemkemknfmfaaGreatDoor
open Go.PK
theorem mixed : Tryz.prog.follows .mixedOrders = true := by kernel_rfl
theorem fa_42_1 : ∀ p w, (Instr.fieldAt 42 (.pointer (some p)) 1).run Tryz.prog w = .ok (.pointer (some (p.add 1))) w := fun p w => by kernel_rfl
theorem fa_42_2 : ∀ p w, (Instr.fieldAt 42 (.pointer (some p)) 2).run Tryz.prog w = .ok (.pointer (some (p.add 4))) w := fun p w => by kernel_rfl
theorem fa_42_6 : ∀ p w, (Instr.fieldAt 42 (.pointer (some p)) 6).run Tryz.prog w = .ok (.pointer (some (p.add 10))) w := fun p w => by kernel_rfl
theorem fa_45_0 : ∀ p w, (Instr.fieldAt 45 (.pointer (some p)) 0).run Tryz.prog w = .ok (.pointer (some (p.add 0))) w := fun p w => by kernel_rfl
theorem fa_45_1 : ∀ p w, (Instr.fieldAt 45 (.pointer (some p)) 1).run Tryz.prog w = .ok (.pointer (some (p.add 1))) w := fun p w => by kernel_rfl
theorem fa_45_2 : ∀ p w, (Instr.fieldAt 45 (.pointer (some p)) 2).run Tryz.prog w = .ok (.pointer (some (p.add 2))) w := fun p w => by kernel_rfl
theorem fa_45_3 : ∀ p w, (Instr.fieldAt 45 (.pointer (some p)) 3).run Tryz.prog w = .ok (.pointer (some (p.add 59))) w := fun p w => by kernel_rfl
theorem fa_45_4 : ∀ p w, (Instr.fieldAt 45 (.pointer (some p)) 4).run Tryz.prog w = .ok (.pointer (some (p.add 60))) w := fun p w => by kernel_rfl
theorem fa_45_5 : ∀ p w, (Instr.fieldAt 45 (.pointer (some p)) 5).run Tryz.prog w = .ok (.pointer (some (p.add 61))) w := fun p w => by kernel_rfl
theorem fa_45_6 : ∀ p w, (Instr.fieldAt 45 (.pointer (some p)) 6).run Tryz.prog w = .ok (.pointer (some (p.add 62))) w := fun p w => by kernel_rfl
theorem fa_45_7 : ∀ p w, (Instr.fieldAt 45 (.pointer (some p)) 7).run Tryz.prog w = .ok (.pointer (some (p.add 65))) w := fun p w => by kernel_rfl
theorem fa_56_0 : ∀ p w, (Instr.fieldAt 56 (.pointer (some p)) 0).run Tryz.prog w = .ok (.pointer (some (p.add 0))) w := fun p w => by kernel_rfl
theorem fa_56_1 : ∀ p w, (Instr.fieldAt 56 (.pointer (some p)) 1).run Tryz.prog w = .ok (.pointer (some (p.add 1))) w := fun p w => by kernel_rfl
theorem fa_78_0 : ∀ p w, (Instr.fieldAt 78 (.pointer (some p)) 0).run Tryz.prog w = .ok (.pointer (some (p.add 0))) w := fun p w => by kernel_rfl
theorem fa_78_1 : ∀ p w, (Instr.fieldAt 78 (.pointer (some p)) 1).run Tryz.prog w = .ok (.pointer (some (p.add 1))) w := fun p w => by kernel_rfl
theorem fa_354_0 : ∀ p w, (Instr.fieldAt 354 (.pointer (some p)) 0).run Tryz.prog w = .ok (.pointer (some (p.add 0))) w := fun p w => by kernel_rfl
theorem fa_354_1 : ∀ p w, (Instr.fieldAt 354 (.pointer (some p)) 1).run Tryz.prog w = .ok (.pointer (some (p.add 32))) w := fun p w => by kernel_rfl
theorem fa_354_2 : ∀ p w, (Instr.fieldAt 354 (.pointer (some p)) 2).run Tryz.prog w = .ok (.pointer (some (p.add 33))) w := fun p w => by kernel_rfl
theorem fa_401_0 : ∀ p w, (Instr.fieldAt 401 (.pointer (some p)) 0).run Tryz.prog w = .ok (.pointer (some (p.add 0))) w := fun p w => by kernel_rfl
theorem fa_401_1 : ∀ p w, (Instr.fieldAt 401 (.pointer (some p)) 1).run Tryz.prog w = .ok (.pointer (some (p.add 1))) w := fun p w => by kernel_rfl
theorem fa_519_0 : ∀ p w, (Instr.fieldAt 519 (.pointer (some p)) 0).run Tryz.prog w = .ok (.pointer (some (p.add 0))) w := fun p w => by kernel_rfl
theorem fa_519_1 : ∀ p w, (Instr.fieldAt 519 (.pointer (some p)) 1).run Tryz.prog w = .ok (.pointer (some (p.add 8))) w := fun p w => by kernel_rfl
theorem fa_519_2 : ∀ p w, (Instr.fieldAt 519 (.pointer (some p)) 2).run Tryz.prog w = .ok (.pointer (some (p.add 9))) w := fun p w => by kernel_rfl
theorem fa_519_3 : ∀ p w, (Instr.fieldAt 519 (.pointer (some p)) 3).run Tryz.prog w = .ok (.pointer (some (p.add 10))) w := fun p w => by kernel_rfl
theorem fa_522_0 : ∀ p w, (Instr.fieldAt 522 (.pointer (some p)) 0).run Tryz.prog w = .ok (.pointer (some (p.add 0))) w := fun p w => by kernel_rfl
theorem pl_42 : StrT Tryz.prog 42 #[(0, 1), (1, 3), (4, 3), (7, 1), (8, 1), (9, 1), (10, 1), (11, 1), (12, 1), (13, 3), (16, 32), (48, 1), (49, 1), (50, 1), (51, 1), (52, 1), (53, 1), (54, 1), (55, 1), (56, 1)] := ⟨_, Tryz.runUnderlying42, fun w => by kernel_rfl⟩
theorem pl_45 : StrT Tryz.prog 45 #[(0, 1), (1, 1), (2, 57), (59, 1), (60, 1), (61, 1), (62, 3), (65, 1)] := ⟨_, Tryz.runUnderlying45, fun w => by kernel_rfl⟩
theorem pl_56 : StrT Tryz.prog 56 #[(0, 1), (1, 1)] := ⟨_, Tryz.runUnderlying56, fun w => by kernel_rfl⟩
theorem pl_519 : StrT Tryz.prog 519 #[(0, 8), (8, 1), (9, 1), (10, 1)] := ⟨_, Tryz.runUnderlying519, fun w => by kernel_rfl⟩
theorem pl_522 : StrT Tryz.prog 522 #[(0, 1), (1, 1)] := ⟨_, Tryz.runUnderlying522, fun w => by kernel_rfl⟩
theorem el_27 : ElemT Tryz.prog 27 9 1 16 := ⟨by kernel_rfl, ⟨Tryz.t9, _, by kernel_rfl, (by first | exact rfl | kernel_rfl), by kernel_rfl, by kernel_rfl, by kernel_rfl⟩, by decide⟩
theorem el_43 : ElemT Tryz.prog 43 5 1 1 := ⟨by kernel_rfl, ⟨Tryz.t5, _, by kernel_rfl, (by first | exact rfl | kernel_rfl), by kernel_rfl, by kernel_rfl, by kernel_rfl⟩, by decide⟩
theorem el_127 : ElemT Tryz.prog 127 3 1 8 := ⟨by kernel_rfl, ⟨Tryz.t3, _, by kernel_rfl, (by first | exact rfl | kernel_rfl), by kernel_rfl, by kernel_rfl, by kernel_rfl⟩, by decide⟩
theorem el_136 : ElemT Tryz.prog 136 38 32 32 := ⟨by kernel_rfl, ⟨Tryz.t38, _, by kernel_rfl, (by first | exact rfl | kernel_rfl), by kernel_rfl, by kernel_rfl, by kernel_rfl⟩, by decide⟩
end Go.Proofs.YtpaemkemknfmfaaGreatDoor
