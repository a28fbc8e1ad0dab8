/- The facts on types that the walks want, by program. -/
import Derived.Test.YthndhipjfdgdfaaGreatDoorPD
import Derived.Test.YthndhipjfdgdfaaGreatDoorProg
import Derived.KernelRfl
set_option linter.unusedVariables false
set_option linter.unusedSimpArgs false
namespace Go.Proofs.YthndhipjfdgdfaaGreatDoor
open Go.PK
theorem mixed : Tryz.prog.follows .mixedOrders = true := by kernel_rfl
theorem fa_27_0 : ∀ p w, (Instr.fieldAt 27 (.pointer (some p)) 0).run Tryz.prog w = .ok (.pointer (some (p.add 0))) w := fun p w => by kernel_rfl
theorem fa_27_1 : ∀ p w, (Instr.fieldAt 27 (.pointer (some p)) 1).run Tryz.prog w = .ok (.pointer (some (p.add 1))) w := fun p w => by kernel_rfl
theorem fa_27_2 : ∀ p w, (Instr.fieldAt 27 (.pointer (some p)) 2).run Tryz.prog w = .ok (.pointer (some (p.add 2))) w := fun p w => by kernel_rfl
theorem fa_27_3 : ∀ p w, (Instr.fieldAt 27 (.pointer (some p)) 3).run Tryz.prog w = .ok (.pointer (some (p.add 3))) w := fun p w => by kernel_rfl
theorem fa_32_0 : ∀ p w, (Instr.fieldAt 32 (.pointer (some p)) 0).run Tryz.prog w = .ok (.pointer (some (p.add 0))) w := fun p w => by kernel_rfl
theorem fa_32_1 : ∀ p w, (Instr.fieldAt 32 (.pointer (some p)) 1).run Tryz.prog w = .ok (.pointer (some (p.add 1))) w := fun p w => by kernel_rfl
theorem fa_32_2 : ∀ p w, (Instr.fieldAt 32 (.pointer (some p)) 2).run Tryz.prog w = .ok (.pointer (some (p.add 4))) w := fun p w => by kernel_rfl
theorem fa_32_3 : ∀ p w, (Instr.fieldAt 32 (.pointer (some p)) 3).run Tryz.prog w = .ok (.pointer (some (p.add 5))) w := fun p w => by kernel_rfl
theorem fa_32_4 : ∀ p w, (Instr.fieldAt 32 (.pointer (some p)) 4).run Tryz.prog w = .ok (.pointer (some (p.add 9))) w := fun p w => by kernel_rfl
theorem fa_32_5 : ∀ p w, (Instr.fieldAt 32 (.pointer (some p)) 5).run Tryz.prog w = .ok (.pointer (some (p.add 41))) w := fun p w => by kernel_rfl
theorem fa_32_6 : ∀ p w, (Instr.fieldAt 32 (.pointer (some p)) 6).run Tryz.prog w = .ok (.pointer (some (p.add 42))) w := fun p w => by kernel_rfl
theorem fa_32_7 : ∀ p w, (Instr.fieldAt 32 (.pointer (some p)) 7).run Tryz.prog w = .ok (.pointer (some (p.add 43))) w := fun p w => by kernel_rfl
theorem fa_32_8 : ∀ p w, (Instr.fieldAt 32 (.pointer (some p)) 8).run Tryz.prog w = .ok (.pointer (some (p.add 44))) w := fun p w => by kernel_rfl
theorem fa_35_0 : ∀ p w, (Instr.fieldAt 35 (.pointer (some p)) 0).run Tryz.prog w = .ok (.pointer (some (p.add 0))) w := fun p w => by kernel_rfl
theorem fa_35_1 : ∀ p w, (Instr.fieldAt 35 (.pointer (some p)) 1).run Tryz.prog w = .ok (.pointer (some (p.add 45))) w := fun p w => by kernel_rfl
theorem fa_35_2 : ∀ p w, (Instr.fieldAt 35 (.pointer (some p)) 2).run Tryz.prog w = .ok (.pointer (some (p.add 46))) w := fun p w => by kernel_rfl
theorem fa_35_3 : ∀ p w, (Instr.fieldAt 35 (.pointer (some p)) 3).run Tryz.prog w = .ok (.pointer (some (p.add 47))) w := fun p w => by kernel_rfl
theorem fa_35_4 : ∀ p w, (Instr.fieldAt 35 (.pointer (some p)) 4).run Tryz.prog w = .ok (.pointer (some (p.add 48))) w := fun p w => by kernel_rfl
theorem fa_35_5 : ∀ p w, (Instr.fieldAt 35 (.pointer (some p)) 5).run Tryz.prog w = .ok (.pointer (some (p.add 49))) w := fun p w => by kernel_rfl
theorem fa_38_0 : ∀ p w, (Instr.fieldAt 38 (.pointer (some p)) 0).run Tryz.prog w = .ok (.pointer (some (p.add 0))) w := fun p w => by kernel_rfl
theorem fa_38_1 : ∀ p w, (Instr.fieldAt 38 (.pointer (some p)) 1).run Tryz.prog w = .ok (.pointer (some (p.add 1))) w := fun p w => by kernel_rfl
theorem fa_38_2 : ∀ p w, (Instr.fieldAt 38 (.pointer (some p)) 2).run Tryz.prog w = .ok (.pointer (some (p.add 2))) w := fun p w => by kernel_rfl
theorem fa_38_3 : ∀ p w, (Instr.fieldAt 38 (.pointer (some p)) 3).run Tryz.prog w = .ok (.pointer (some (p.add 3))) w := fun p w => by kernel_rfl
theorem fa_40_0 : ∀ p w, (Instr.fieldAt 40 (.pointer (some p)) 0).run Tryz.prog w = .ok (.pointer (some (p.add 0))) w := fun p w => by kernel_rfl
theorem fa_40_1 : ∀ p w, (Instr.fieldAt 40 (.pointer (some p)) 1).run Tryz.prog w = .ok (.pointer (some (p.add 1))) w := fun p w => by kernel_rfl
theorem fa_40_2 : ∀ p w, (Instr.fieldAt 40 (.pointer (some p)) 2).run Tryz.prog w = .ok (.pointer (some (p.add 4))) w := fun p w => by kernel_rfl
theorem fa_40_3 : ∀ p w, (Instr.fieldAt 40 (.pointer (some p)) 3).run Tryz.prog w = .ok (.pointer (some (p.add 5))) w := fun p w => by kernel_rfl
theorem fa_40_4 : ∀ p w, (Instr.fieldAt 40 (.pointer (some p)) 4).run Tryz.prog w = .ok (.pointer (some (p.add 9))) w := fun p w => by kernel_rfl
theorem fa_40_5 : ∀ p w, (Instr.fieldAt 40 (.pointer (some p)) 5).run Tryz.prog w = .ok (.pointer (some (p.add 41))) w := fun p w => by kernel_rfl
theorem fa_40_6 : ∀ p w, (Instr.fieldAt 40 (.pointer (some p)) 6).run Tryz.prog w = .ok (.pointer (some (p.add 42))) w := fun p w => by kernel_rfl
theorem fa_40_7 : ∀ p w, (Instr.fieldAt 40 (.pointer (some p)) 7).run Tryz.prog w = .ok (.pointer (some (p.add 43))) w := fun p w => by kernel_rfl
theorem fa_40_8 : ∀ p w, (Instr.fieldAt 40 (.pointer (some p)) 8).run Tryz.prog w = .ok (.pointer (some (p.add 44))) w := fun p w => by kernel_rfl
theorem fa_43_0 : ∀ p w, (Instr.fieldAt 43 (.pointer (some p)) 0).run Tryz.prog w = .ok (.pointer (some (p.add 0))) w := fun p w => by kernel_rfl
theorem fa_43_1 : ∀ p w, (Instr.fieldAt 43 (.pointer (some p)) 1).run Tryz.prog w = .ok (.pointer (some (p.add 45))) w := fun p w => by kernel_rfl
theorem fa_43_2 : ∀ p w, (Instr.fieldAt 43 (.pointer (some p)) 2).run Tryz.prog w = .ok (.pointer (some (p.add 46))) w := fun p w => by kernel_rfl
theorem fa_43_3 : ∀ p w, (Instr.fieldAt 43 (.pointer (some p)) 3).run Tryz.prog w = .ok (.pointer (some (p.add 47))) w := fun p w => by kernel_rfl
theorem fa_43_4 : ∀ p w, (Instr.fieldAt 43 (.pointer (some p)) 4).run Tryz.prog w = .ok (.pointer (some (p.add 48))) w := fun p w => by kernel_rfl
theorem fa_43_5 : ∀ p w, (Instr.fieldAt 43 (.pointer (some p)) 5).run Tryz.prog w = .ok (.pointer (some (p.add 49))) w := fun p w => by kernel_rfl
theorem fa_73_0 : ∀ p w, (Instr.fieldAt 73 (.pointer (some p)) 0).run Tryz.prog w = .ok (.pointer (some (p.add 0))) w := fun p w => by kernel_rfl
theorem fa_73_1 : ∀ p w, (Instr.fieldAt 73 (.pointer (some p)) 1).run Tryz.prog w = .ok (.pointer (some (p.add 1))) w := fun p w => by kernel_rfl
theorem fa_73_2 : ∀ p w, (Instr.fieldAt 73 (.pointer (some p)) 2).run Tryz.prog w = .ok (.pointer (some (p.add 2))) w := fun p w => by kernel_rfl
theorem fa_73_3 : ∀ p w, (Instr.fieldAt 73 (.pointer (some p)) 3).run Tryz.prog w = .ok (.pointer (some (p.add 3))) w := fun p w => by kernel_rfl
theorem fa_77_0 : ∀ p w, (Instr.fieldAt 77 (.pointer (some p)) 0).run Tryz.prog w = .ok (.pointer (some (p.add 0))) w := fun p w => by kernel_rfl
theorem fa_77_1 : ∀ p w, (Instr.fieldAt 77 (.pointer (some p)) 1).run Tryz.prog w = .ok (.pointer (some (p.add 1))) w := fun p w => by kernel_rfl
theorem fa_77_2 : ∀ p w, (Instr.fieldAt 77 (.pointer (some p)) 2).run Tryz.prog w = .ok (.pointer (some (p.add 2))) w := fun p w => by kernel_rfl
theorem fa_77_3 : ∀ p w, (Instr.fieldAt 77 (.pointer (some p)) 3).run Tryz.prog w = .ok (.pointer (some (p.add 3))) w := fun p w => by kernel_rfl
theorem fa_85_0 : ∀ p w, (Instr.fieldAt 85 (.pointer (some p)) 0).run Tryz.prog w = .ok (.pointer (some (p.add 0))) w := fun p w => by kernel_rfl
theorem fa_85_1 : ∀ p w, (Instr.fieldAt 85 (.pointer (some p)) 1).run Tryz.prog w = .ok (.pointer (some (p.add 1))) w := fun p w => by kernel_rfl
theorem fa_87_0 : ∀ p w, (Instr.fieldAt 87 (.pointer (some p)) 0).run Tryz.prog w = .ok (.pointer (some (p.add 0))) w := fun p w => by kernel_rfl
theorem fa_94_0 : ∀ p w, (Instr.fieldAt 94 (.pointer (some p)) 0).run Tryz.prog w = .ok (.pointer (some (p.add 0))) w := fun p w => by kernel_rfl
theorem fa_94_1 : ∀ p w, (Instr.fieldAt 94 (.pointer (some p)) 1).run Tryz.prog w = .ok (.pointer (some (p.add 1))) w := fun p w => by kernel_rfl
theorem fa_94_2 : ∀ p w, (Instr.fieldAt 94 (.pointer (some p)) 2).run Tryz.prog w = .ok (.pointer (some (p.add 2))) w := fun p w => by kernel_rfl
theorem fa_96_0 : ∀ p w, (Instr.fieldAt 96 (.pointer (some p)) 0).run Tryz.prog w = .ok (.pointer (some (p.add 0))) w := fun p w => by kernel_rfl
theorem fa_96_1 : ∀ p w, (Instr.fieldAt 96 (.pointer (some p)) 1).run Tryz.prog w = .ok (.pointer (some (p.add 3))) w := fun p w => by kernel_rfl
theorem fa_96_2 : ∀ p w, (Instr.fieldAt 96 (.pointer (some p)) 2).run Tryz.prog w = .ok (.pointer (some (p.add 4))) w := fun p w => by kernel_rfl
theorem fa_96_3 : ∀ p w, (Instr.fieldAt 96 (.pointer (some p)) 3).run Tryz.prog w = .ok (.pointer (some (p.add 5))) w := fun p w => by kernel_rfl
theorem fa_96_4 : ∀ p w, (Instr.fieldAt 96 (.pointer (some p)) 4).run Tryz.prog w = .ok (.pointer (some (p.add 6))) w := fun p w => by kernel_rfl
theorem fa_96_5 : ∀ p w, (Instr.fieldAt 96 (.pointer (some p)) 5).run Tryz.prog w = .ok (.pointer (some (p.add 7))) w := fun p w => by kernel_rfl
theorem fa_96_6 : ∀ p w, (Instr.fieldAt 96 (.pointer (some p)) 6).run Tryz.prog w = .ok (.pointer (some (p.add 8))) w := fun p w => by kernel_rfl
theorem fa_96_7 : ∀ p w, (Instr.fieldAt 96 (.pointer (some p)) 7).run Tryz.prog w = .ok (.pointer (some (p.add 9))) w := fun p w => by kernel_rfl
theorem fa_98_0 : ∀ p w, (Instr.fieldAt 98 (.pointer (some p)) 0).run Tryz.prog w = .ok (.pointer (some (p.add 0))) w := fun p w => by kernel_rfl
theorem fa_98_1 : ∀ p w, (Instr.fieldAt 98 (.pointer (some p)) 1).run Tryz.prog w = .ok (.pointer (some (p.add 1))) w := fun p w => by kernel_rfl
theorem fa_98_2 : ∀ p w, (Instr.fieldAt 98 (.pointer (some p)) 2).run Tryz.prog w = .ok (.pointer (some (p.add 2))) w := fun p w => by kernel_rfl
theorem fa_98_3 : ∀ p w, (Instr.fieldAt 98 (.pointer (some p)) 3).run Tryz.prog w = .ok (.pointer (some (p.add 34))) w := fun p w => by kernel_rfl
theorem fa_98_4 : ∀ p w, (Instr.fieldAt 98 (.pointer (some p)) 4).run Tryz.prog w = .ok (.pointer (some (p.add 35))) w := fun p w => by kernel_rfl
theorem fa_98_5 : ∀ p w, (Instr.fieldAt 98 (.pointer (some p)) 5).run Tryz.prog w = .ok (.pointer (some (p.add 36))) w := fun p w => by kernel_rfl
theorem fa_98_6 : ∀ p w, (Instr.fieldAt 98 (.pointer (some p)) 6).run Tryz.prog w = .ok (.pointer (some (p.add 37))) w := fun p w => by kernel_rfl
theorem fa_98_7 : ∀ p w, (Instr.fieldAt 98 (.pointer (some p)) 7).run Tryz.prog w = .ok (.pointer (some (p.add 38))) w := fun p w => by kernel_rfl
theorem fa_104_0 : ∀ p w, (Instr.fieldAt 104 (.pointer (some p)) 0).run Tryz.prog w = .ok (.pointer (some (p.add 0))) w := fun p w => by kernel_rfl
theorem fa_104_1 : ∀ p w, (Instr.fieldAt 104 (.pointer (some p)) 1).run Tryz.prog w = .ok (.pointer (some (p.add 1))) w := fun p w => by kernel_rfl
theorem fa_104_2 : ∀ p w, (Instr.fieldAt 104 (.pointer (some p)) 2).run Tryz.prog w = .ok (.pointer (some (p.add 2))) w := fun p w => by kernel_rfl
theorem fa_106_0 : ∀ p w, (Instr.fieldAt 106 (.pointer (some p)) 0).run Tryz.prog w = .ok (.pointer (some (p.add 0))) w := fun p w => by kernel_rfl
theorem fa_106_1 : ∀ p w, (Instr.fieldAt 106 (.pointer (some p)) 1).run Tryz.prog w = .ok (.pointer (some (p.add 3))) w := fun p w => by kernel_rfl
theorem fa_106_2 : ∀ p w, (Instr.fieldAt 106 (.pointer (some p)) 2).run Tryz.prog w = .ok (.pointer (some (p.add 4))) w := fun p w => by kernel_rfl
theorem fa_106_3 : ∀ p w, (Instr.fieldAt 106 (.pointer (some p)) 3).run Tryz.prog w = .ok (.pointer (some (p.add 5))) w := fun p w => by kernel_rfl
theorem fa_106_4 : ∀ p w, (Instr.fieldAt 106 (.pointer (some p)) 4).run Tryz.prog w = .ok (.pointer (some (p.add 6))) w := fun p w => by kernel_rfl
theorem fa_106_5 : ∀ p w, (Instr.fieldAt 106 (.pointer (some p)) 5).run Tryz.prog w = .ok (.pointer (some (p.add 7))) w := fun p w => by kernel_rfl
theorem fa_106_6 : ∀ p w, (Instr.fieldAt 106 (.pointer (some p)) 6).run Tryz.prog w = .ok (.pointer (some (p.add 8))) w := fun p w => by kernel_rfl
theorem fa_106_7 : ∀ p w, (Instr.fieldAt 106 (.pointer (some p)) 7).run Tryz.prog w = .ok (.pointer (some (p.add 9))) w := fun p w => by kernel_rfl
theorem fa_108_0 : ∀ p w, (Instr.fieldAt 108 (.pointer (some p)) 0).run Tryz.prog w = .ok (.pointer (some (p.add 0))) w := fun p w => by kernel_rfl
theorem fa_108_1 : ∀ p w, (Instr.fieldAt 108 (.pointer (some p)) 1).run Tryz.prog w = .ok (.pointer (some (p.add 1))) w := fun p w => by kernel_rfl
theorem fa_108_3 : ∀ p w, (Instr.fieldAt 108 (.pointer (some p)) 3).run Tryz.prog w = .ok (.pointer (some (p.add 34))) w := fun p w => by kernel_rfl
theorem fa_108_4 : ∀ p w, (Instr.fieldAt 108 (.pointer (some p)) 4).run Tryz.prog w = .ok (.pointer (some (p.add 35))) w := fun p w => by kernel_rfl
theorem fa_108_5 : ∀ p w, (Instr.fieldAt 108 (.pointer (some p)) 5).run Tryz.prog w = .ok (.pointer (some (p.add 36))) w := fun p w => by kernel_rfl
theorem fa_108_6 : ∀ p w, (Instr.fieldAt 108 (.pointer (some p)) 6).run Tryz.prog w = .ok (.pointer (some (p.add 37))) w := fun p w => by kernel_rfl
theorem fa_108_7 : ∀ p w, (Instr.fieldAt 108 (.pointer (some p)) 7).run Tryz.prog w = .ok (.pointer (some (p.add 38))) w := fun p w => by kernel_rfl
theorem fa_124_0 : ∀ p w, (Instr.fieldAt 124 (.pointer (some p)) 0).run Tryz.prog w = .ok (.pointer (some (p.add 0))) w := fun p w => by kernel_rfl
theorem fa_124_1 : ∀ p w, (Instr.fieldAt 124 (.pointer (some p)) 1).run Tryz.prog w = .ok (.pointer (some (p.add 50))) w := fun p w => by kernel_rfl
theorem fa_149_1 : ∀ p w, (Instr.fieldAt 149 (.pointer (some p)) 1).run Tryz.prog w = .ok (.pointer (some (p.add 3))) w := fun p w => by kernel_rfl
theorem fa_149_2 : ∀ p w, (Instr.fieldAt 149 (.pointer (some p)) 2).run Tryz.prog w = .ok (.pointer (some (p.add 4))) w := fun p w => by kernel_rfl
theorem fa_177_0 : ∀ p w, (Instr.fieldAt 177 (.pointer (some p)) 0).run Tryz.prog w = .ok (.pointer (some (p.add 0))) w := fun p w => by kernel_rfl
theorem fa_177_1 : ∀ p w, (Instr.fieldAt 177 (.pointer (some p)) 1).run Tryz.prog w = .ok (.pointer (some (p.add 1))) w := fun p w => by kernel_rfl
theorem fa_215_0 : ∀ p w, (Instr.fieldAt 215 (.pointer (some p)) 0).run Tryz.prog w = .ok (.pointer (some (p.add 0))) w := fun p w => by kernel_rfl
theorem fa_215_1 : ∀ p w, (Instr.fieldAt 215 (.pointer (some p)) 1).run Tryz.prog w = .ok (.pointer (some (p.add 1))) w := fun p w => by kernel_rfl
theorem fa_215_2 : ∀ p w, (Instr.fieldAt 215 (.pointer (some p)) 2).run Tryz.prog w = .ok (.pointer (some (p.add 2))) w := fun p w => by kernel_rfl
theorem fa_215_3 : ∀ p w, (Instr.fieldAt 215 (.pointer (some p)) 3).run Tryz.prog w = .ok (.pointer (some (p.add 3))) w := fun p w => by kernel_rfl
theorem fa_217_0 : ∀ p w, (Instr.fieldAt 217 (.pointer (some p)) 0).run Tryz.prog w = .ok (.pointer (some (p.add 0))) w := fun p w => by kernel_rfl
theorem fa_217_1 : ∀ p w, (Instr.fieldAt 217 (.pointer (some p)) 1).run Tryz.prog w = .ok (.pointer (some (p.add 1))) w := fun p w => by kernel_rfl
theorem fa_217_2 : ∀ p w, (Instr.fieldAt 217 (.pointer (some p)) 2).run Tryz.prog w = .ok (.pointer (some (p.add 2))) w := fun p w => by kernel_rfl
theorem fa_217_3 : ∀ p w, (Instr.fieldAt 217 (.pointer (some p)) 3).run Tryz.prog w = .ok (.pointer (some (p.add 3))) w := fun p w => by kernel_rfl
theorem fa_235_0 : ∀ p w, (Instr.fieldAt 235 (.pointer (some p)) 0).run Tryz.prog w = .ok (.pointer (some (p.add 0))) w := fun p w => by kernel_rfl
theorem fa_235_1 : ∀ p w, (Instr.fieldAt 235 (.pointer (some p)) 1).run Tryz.prog w = .ok (.pointer (some (p.add 3))) w := fun p w => by kernel_rfl
theorem fa_235_2 : ∀ p w, (Instr.fieldAt 235 (.pointer (some p)) 2).run Tryz.prog w = .ok (.pointer (some (p.add 4))) w := fun p w => by kernel_rfl
theorem fa_294_5 : ∀ p w, (Instr.fieldAt 294 (.pointer (some p)) 5).run Tryz.prog w = .ok (.pointer (some (p.add 20))) w := fun p w => by kernel_rfl
theorem fa_295_0 : ∀ p w, (Instr.fieldAt 295 (.pointer (some p)) 0).run Tryz.prog w = .ok (.pointer (some (p.add 0))) w := fun p w => by kernel_rfl
theorem fa_295_1 : ∀ p w, (Instr.fieldAt 295 (.pointer (some p)) 1).run Tryz.prog w = .ok (.pointer (some (p.add 1))) w := fun p w => by kernel_rfl
theorem fa_295_2 : ∀ p w, (Instr.fieldAt 295 (.pointer (some p)) 2).run Tryz.prog w = .ok (.pointer (some (p.add 2))) w := fun p w => by kernel_rfl
theorem fa_295_3 : ∀ p w, (Instr.fieldAt 295 (.pointer (some p)) 3).run Tryz.prog w = .ok (.pointer (some (p.add 3))) w := fun p w => by kernel_rfl
theorem fa_297_0 : ∀ p w, (Instr.fieldAt 297 (.pointer (some p)) 0).run Tryz.prog w = .ok (.pointer (some (p.add 0))) w := fun p w => by kernel_rfl
theorem fa_297_1 : ∀ p w, (Instr.fieldAt 297 (.pointer (some p)) 1).run Tryz.prog w = .ok (.pointer (some (p.add 1))) w := fun p w => by kernel_rfl
theorem fa_297_2 : ∀ p w, (Instr.fieldAt 297 (.pointer (some p)) 2).run Tryz.prog w = .ok (.pointer (some (p.add 2))) w := fun p w => by kernel_rfl
theorem fa_297_3 : ∀ p w, (Instr.fieldAt 297 (.pointer (some p)) 3).run Tryz.prog w = .ok (.pointer (some (p.add 3))) w := fun p w => by kernel_rfl
theorem fa_319_0 : ∀ p w, (Instr.fieldAt 319 (.pointer (some p)) 0).run Tryz.prog w = .ok (.pointer (some (p.add 0))) w := fun p w => by kernel_rfl
theorem fa_319_1 : ∀ p w, (Instr.fieldAt 319 (.pointer (some p)) 1).run Tryz.prog w = .ok (.pointer (some (p.add 1))) w := fun p w => by kernel_rfl
theorem pl_27 : StrT Tryz.prog 27 #[(0, 1), (1, 1), (2, 1), (3, 1)] := ⟨_, Tryz.runUnderlying27, fun w => by kernel_rfl⟩
theorem pl_32 : StrT Tryz.prog 32 #[(0, 1), (1, 3), (4, 1), (5, 4), (9, 32), (41, 1), (42, 1), (43, 1), (44, 1)] := ⟨_, Tryz.runUnderlying32, fun w => by kernel_rfl⟩
theorem pl_35 : StrT Tryz.prog 35 #[(0, 45), (45, 1), (46, 1), (47, 1), (48, 1), (49, 1)] := ⟨_, Tryz.runUnderlying35, fun w => by kernel_rfl⟩
theorem pl_38 : StrT Tryz.prog 38 #[(0, 1), (1, 1), (2, 1), (3, 1)] := ⟨_, Tryz.runUnderlying38, fun w => by kernel_rfl⟩
theorem pl_40 : StrT Tryz.prog 40 #[(0, 1), (1, 3), (4, 1), (5, 4), (9, 32), (41, 1), (42, 1), (43, 1), (44, 1)] := ⟨_, Tryz.runUnderlying40, fun w => by kernel_rfl⟩
theorem pl_43 : StrT Tryz.prog 43 #[(0, 45), (45, 1), (46, 1), (47, 1), (48, 1), (49, 1)] := ⟨_, Tryz.runUnderlying43, fun w => by kernel_rfl⟩
theorem pl_73 : StrT Tryz.prog 73 #[(0, 1), (1, 1), (2, 1), (3, 1)] := ⟨_, Tryz.runUnderlying73, fun w => by kernel_rfl⟩
theorem pl_77 : StrT Tryz.prog 77 #[(0, 1), (1, 1), (2, 1), (3, 1)] := ⟨_, Tryz.runUnderlying77, fun w => by kernel_rfl⟩
theorem pl_87 : StrT Tryz.prog 87 #[(0, 2)] := ⟨_, Tryz.runUnderlying87, fun w => by kernel_rfl⟩
theorem pl_94 : StrT Tryz.prog 94 #[(0, 1), (1, 1), (2, 1)] := ⟨_, Tryz.runUnderlying94, fun w => by kernel_rfl⟩
theorem pl_96 : StrT Tryz.prog 96 #[(0, 3), (3, 1), (4, 1), (5, 1), (6, 1), (7, 1), (8, 1), (9, 1)] := ⟨_, Tryz.runUnderlying96, fun w => by kernel_rfl⟩
theorem pl_98 : StrT Tryz.prog 98 #[(0, 1), (1, 1), (2, 32), (34, 1), (35, 1), (36, 1), (37, 1), (38, 10)] := ⟨_, Tryz.runUnderlying98, fun w => by kernel_rfl⟩
theorem pl_104 : StrT Tryz.prog 104 #[(0, 1), (1, 1), (2, 1)] := ⟨_, Tryz.runUnderlying104, fun w => by kernel_rfl⟩
theorem pl_106 : StrT Tryz.prog 106 #[(0, 3), (3, 1), (4, 1), (5, 1), (6, 1), (7, 1), (8, 1), (9, 1)] := ⟨_, Tryz.runUnderlying106, fun w => by kernel_rfl⟩
theorem pl_108 : StrT Tryz.prog 108 #[(0, 1), (1, 1), (2, 32), (34, 1), (35, 1), (36, 1), (37, 1), (38, 10)] := ⟨_, Tryz.runUnderlying108, fun w => by kernel_rfl⟩
theorem pl_124 : StrT Tryz.prog 124 #[(0, 50), (50, 1)] := ⟨_, Tryz.runUnderlying124, fun w => by kernel_rfl⟩
theorem pl_149 : StrT Tryz.prog 149 #[(0, 3), (3, 1), (4, 1)] := ⟨_, Tryz.runUnderlying149, fun w => by kernel_rfl⟩
theorem pl_177 : StrT Tryz.prog 177 #[(0, 1), (1, 1)] := ⟨_, Tryz.runUnderlying177, fun w => by kernel_rfl⟩
theorem pl_200 : StrT Tryz.prog 200 #[(0, 1), (1, 1), (2, 24)] := ⟨_, Tryz.runUnderlying200, fun w => by kernel_rfl⟩
theorem pl_213 : StrT Tryz.prog 213 #[(0, 10), (10, 1), (11, 1), (12, 1), (13, 1)] := ⟨_, Tryz.runUnderlying213, fun w => by kernel_rfl⟩
theorem pl_215 : StrT Tryz.prog 215 #[(0, 1), (1, 1), (2, 1), (3, 1)] := ⟨_, Tryz.runUnderlying215, fun w => by kernel_rfl⟩
theorem pl_217 : StrT Tryz.prog 217 #[(0, 1), (1, 1), (2, 1), (3, 4)] := ⟨_, Tryz.runUnderlying217, fun w => by kernel_rfl⟩
theorem pl_235 : StrT Tryz.prog 235 #[(0, 3), (3, 1), (4, 1)] := ⟨_, Tryz.runUnderlying235, fun w => by kernel_rfl⟩
theorem pl_240 : StrT Tryz.prog 240 #[(0, 1), (1, 1), (2, 1), (3, 1), (4, 2), (6, 1), (7, 1)] := ⟨_, Tryz.runUnderlying240, fun w => by kernel_rfl⟩
theorem pl_243 : StrT Tryz.prog 243 #[(0, 1), (1, 1), (2, 1)] := ⟨_, Tryz.runUnderlying243, fun w => by kernel_rfl⟩
theorem pl_245 : StrT Tryz.prog 245 #[(0, 3), (3, 32), (35, 32), (67, 1)] := ⟨_, Tryz.runUnderlying245, fun w => by kernel_rfl⟩
theorem pl_263 : StrT Tryz.prog 263 #[(0, 1), (1, 1), (2, 24), (26, 24)] := ⟨_, Tryz.runUnderlying263, fun w => by kernel_rfl⟩
theorem pl_268 : StrT Tryz.prog 268 #[(0, 1), (1, 1), (2, 40)] := ⟨_, Tryz.runUnderlying268, fun w => by kernel_rfl⟩
theorem pl_273 : StrT Tryz.prog 273 #[(0, 1), (1, 1), (2, 1), (3, 40)] := ⟨_, Tryz.runUnderlying273, fun w => by kernel_rfl⟩
theorem pl_285 : StrT Tryz.prog 285 #[(0, 1), (1, 1), (2, 24)] := ⟨_, Tryz.runUnderlying285, fun w => by kernel_rfl⟩
theorem pl_290 : StrT Tryz.prog 290 #[(0, 9), (9, 1)] := ⟨_, Tryz.runUnderlying290, fun w => by kernel_rfl⟩
theorem pl_294 : StrT Tryz.prog 294 #[(0, 3), (3, 3), (6, 3), (9, 1), (10, 10), (20, 1), (21, 1), (22, 1), (23, 1), (24, 1)] := ⟨_, Tryz.runUnderlying294, fun w => by kernel_rfl⟩
theorem pl_295 : StrT Tryz.prog 295 #[(0, 1), (1, 1), (2, 1), (3, 1)] := ⟨_, Tryz.runUnderlying295, fun w => by kernel_rfl⟩
theorem pl_297 : StrT Tryz.prog 297 #[(0, 1), (1, 1), (2, 1), (3, 4)] := ⟨_, Tryz.runUnderlying297, fun w => by kernel_rfl⟩
theorem pl_302 : StrT Tryz.prog 302 #[(0, 7), (7, 4), (11, 1)] := ⟨_, Tryz.runUnderlying302, fun w => by kernel_rfl⟩
theorem pl_319 : StrT Tryz.prog 319 #[(0, 1), (1, 1)] := ⟨_, Tryz.runUnderlying319, fun w => by kernel_rfl⟩
theorem pl_352 : StrT Tryz.prog 352 #[(0, 1), (1, 3), (4, 1), (5, 1), (6, 1)] := ⟨_, Tryz.runUnderlying352, fun w => by kernel_rfl⟩
theorem pl_362 : StrT Tryz.prog 362 #[(0, 1), (1, 1), (2, 1)] := ⟨_, Tryz.runUnderlying362, fun w => by kernel_rfl⟩
theorem pl_365 : StrT Tryz.prog 365 #[(0, 1), (1, 1), (2, 1)] := ⟨_, Tryz.runUnderlying365, fun w => by kernel_rfl⟩
theorem pl_370 : StrT Tryz.prog 370 #[(0, 1), (1, 1), (2, 1), (3, 40)] := ⟨_, Tryz.runUnderlying370, fun w => by kernel_rfl⟩
theorem el_22 : ElemT Tryz.prog 22 98 48 160 := ⟨by kernel_rfl, ⟨Tryz.t98, _, by kernel_rfl, (by first | exact rfl | kernel_rfl), by kernel_rfl, by kernel_rfl, by kernel_rfl⟩, by decide⟩
theorem el_33 : ElemT Tryz.prog 33 73 4 48 := ⟨by kernel_rfl, ⟨Tryz.t73, _, by kernel_rfl, (by first | exact rfl | kernel_rfl), by kernel_rfl, by kernel_rfl, by kernel_rfl⟩, by decide⟩
theorem el_37 : ElemT Tryz.prog 37 108 48 160 := ⟨by kernel_rfl, ⟨Tryz.t108, _, by kernel_rfl, (by first | exact rfl | kernel_rfl), by kernel_rfl, by kernel_rfl, by kernel_rfl⟩, by decide⟩
theorem el_41 : ElemT Tryz.prog 41 77 4 48 := ⟨by kernel_rfl, ⟨Tryz.t77, _, by kernel_rfl, (by first | exact rfl | kernel_rfl), by kernel_rfl, by kernel_rfl, by kernel_rfl⟩, by decide⟩
theorem el_61 : ElemT Tryz.prog 61 3 1 8 := ⟨by kernel_rfl, ⟨Tryz.t3, _, by kernel_rfl, (by first | exact rfl | kernel_rfl), by kernel_rfl, by kernel_rfl, by kernel_rfl⟩, by decide⟩
theorem el_62 : ElemT Tryz.prog 62 9 1 16 := ⟨by kernel_rfl, ⟨Tryz.t9, _, by kernel_rfl, (by first | exact rfl | kernel_rfl), by kernel_rfl, by kernel_rfl, by kernel_rfl⟩, by decide⟩
theorem el_71 : ElemT Tryz.prog 71 80 2 16 := ⟨by kernel_rfl, ⟨Tryz.t80, _, by kernel_rfl, (by first | exact rfl | kernel_rfl), by kernel_rfl, by kernel_rfl, by kernel_rfl⟩, by decide⟩
theorem el_75 : ElemT Tryz.prog 75 79 2 16 := ⟨by kernel_rfl, ⟨Tryz.t79, _, by kernel_rfl, (by first | exact rfl | kernel_rfl), by kernel_rfl, by kernel_rfl, by kernel_rfl⟩, by decide⟩
theorem el_83 : ElemT Tryz.prog 83 5 1 1 := ⟨by kernel_rfl, ⟨Tryz.t5, _, by kernel_rfl, (by first | exact rfl | kernel_rfl), by kernel_rfl, by kernel_rfl, by kernel_rfl⟩, by decide⟩
theorem el_147 : ElemT Tryz.prog 147 217 7 56 := ⟨by kernel_rfl, ⟨Tryz.t217, _, by kernel_rfl, (by first | exact rfl | kernel_rfl), by kernel_rfl, by kernel_rfl, by kernel_rfl⟩, by decide⟩
theorem el_233 : ElemT Tryz.prog 233 297 7 56 := ⟨by kernel_rfl, ⟨Tryz.t297, _, by kernel_rfl, (by first | exact rfl | kernel_rfl), by kernel_rfl, by kernel_rfl, by kernel_rfl⟩, by decide⟩
end Go.Proofs.YthndhipjfdgdfaaGreatDoor
