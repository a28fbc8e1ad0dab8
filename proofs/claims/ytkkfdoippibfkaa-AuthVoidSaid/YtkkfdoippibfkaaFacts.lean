/- The facts on types that the walks want, by program. -/
import Derived.Test.YtkkfdoippibfkaaPkP
import Derived.Test.YtkkfdoippibfkaaProg
import Derived.KernelRfl
namespace Go.Proofs.Ytkkfdoippibfkaa
open Go.PK
theorem mixed : Try.prog.follows .mixedOrders = true := by kernel_rfl
theorem fa_29_0 : ∀ p w, (Instr.fieldAt 29 (.pointer (some p)) 0).run Try.prog w = .ok (.pointer (some (p.add 0))) w := fun p w => by kernel_rfl
theorem fa_38_0 : ∀ p w, (Instr.fieldAt 38 (.pointer (some p)) 0).run Try.prog w = .ok (.pointer (some (p.add 0))) w := fun p w => by kernel_rfl
theorem fa_38_1 : ∀ p w, (Instr.fieldAt 38 (.pointer (some p)) 1).run Try.prog w = .ok (.pointer (some (p.add 1))) w := fun p w => by kernel_rfl
theorem fa_38_2 : ∀ p w, (Instr.fieldAt 38 (.pointer (some p)) 2).run Try.prog w = .ok (.pointer (some (p.add 2))) w := fun p w => by kernel_rfl
theorem fa_38_3 : ∀ p w, (Instr.fieldAt 38 (.pointer (some p)) 3).run Try.prog w = .ok (.pointer (some (p.add 34))) w := fun p w => by kernel_rfl
theorem fa_38_4 : ∀ p w, (Instr.fieldAt 38 (.pointer (some p)) 4).run Try.prog w = .ok (.pointer (some (p.add 35))) w := fun p w => by kernel_rfl
theorem fa_38_5 : ∀ p w, (Instr.fieldAt 38 (.pointer (some p)) 5).run Try.prog w = .ok (.pointer (some (p.add 36))) w := fun p w => by kernel_rfl
theorem fa_38_6 : ∀ p w, (Instr.fieldAt 38 (.pointer (some p)) 6).run Try.prog w = .ok (.pointer (some (p.add 37))) w := fun p w => by kernel_rfl
theorem fa_49_0 : ∀ p w, (Instr.fieldAt 49 (.pointer (some p)) 0).run Try.prog w = .ok (.pointer (some (p.add 0))) w := fun p w => by kernel_rfl
theorem fa_49_1 : ∀ p w, (Instr.fieldAt 49 (.pointer (some p)) 1).run Try.prog w = .ok (.pointer (some (p.add 1))) w := fun p w => by kernel_rfl
theorem fa_49_2 : ∀ p w, (Instr.fieldAt 49 (.pointer (some p)) 2).run Try.prog w = .ok (.pointer (some (p.add 2))) w := fun p w => by kernel_rfl
theorem fa_49_3 : ∀ p w, (Instr.fieldAt 49 (.pointer (some p)) 3).run Try.prog w = .ok (.pointer (some (p.add 3))) w := fun p w => by kernel_rfl
theorem fa_52_0 : ∀ p w, (Instr.fieldAt 52 (.pointer (some p)) 0).run Try.prog w = .ok (.pointer (some (p.add 0))) w := fun p w => by kernel_rfl
theorem fa_52_1 : ∀ p w, (Instr.fieldAt 52 (.pointer (some p)) 1).run Try.prog w = .ok (.pointer (some (p.add 1))) w := fun p w => by kernel_rfl
theorem fa_52_2 : ∀ p w, (Instr.fieldAt 52 (.pointer (some p)) 2).run Try.prog w = .ok (.pointer (some (p.add 4))) w := fun p w => by kernel_rfl
theorem fa_52_3 : ∀ p w, (Instr.fieldAt 52 (.pointer (some p)) 3).run Try.prog w = .ok (.pointer (some (p.add 5))) w := fun p w => by kernel_rfl
theorem fa_52_4 : ∀ p w, (Instr.fieldAt 52 (.pointer (some p)) 4).run Try.prog w = .ok (.pointer (some (p.add 9))) w := fun p w => by kernel_rfl
theorem fa_52_5 : ∀ p w, (Instr.fieldAt 52 (.pointer (some p)) 5).run Try.prog w = .ok (.pointer (some (p.add 41))) w := fun p w => by kernel_rfl
theorem fa_52_6 : ∀ p w, (Instr.fieldAt 52 (.pointer (some p)) 6).run Try.prog w = .ok (.pointer (some (p.add 42))) w := fun p w => by kernel_rfl
theorem fa_52_7 : ∀ p w, (Instr.fieldAt 52 (.pointer (some p)) 7).run Try.prog w = .ok (.pointer (some (p.add 43))) w := fun p w => by kernel_rfl
theorem fa_52_8 : ∀ p w, (Instr.fieldAt 52 (.pointer (some p)) 8).run Try.prog w = .ok (.pointer (some (p.add 44))) w := fun p w => by kernel_rfl
theorem fa_55_0 : ∀ p w, (Instr.fieldAt 55 (.pointer (some p)) 0).run Try.prog w = .ok (.pointer (some (p.add 0))) w := fun p w => by kernel_rfl
theorem fa_55_1 : ∀ p w, (Instr.fieldAt 55 (.pointer (some p)) 1).run Try.prog w = .ok (.pointer (some (p.add 1))) w := fun p w => by kernel_rfl
theorem fa_55_2 : ∀ p w, (Instr.fieldAt 55 (.pointer (some p)) 2).run Try.prog w = .ok (.pointer (some (p.add 2))) w := fun p w => by kernel_rfl
theorem fa_55_3 : ∀ p w, (Instr.fieldAt 55 (.pointer (some p)) 3).run Try.prog w = .ok (.pointer (some (p.add 3))) w := fun p w => by kernel_rfl
theorem fa_57_0 : ∀ p w, (Instr.fieldAt 57 (.pointer (some p)) 0).run Try.prog w = .ok (.pointer (some (p.add 0))) w := fun p w => by kernel_rfl
theorem fa_57_1 : ∀ p w, (Instr.fieldAt 57 (.pointer (some p)) 1).run Try.prog w = .ok (.pointer (some (p.add 1))) w := fun p w => by kernel_rfl
theorem fa_57_2 : ∀ p w, (Instr.fieldAt 57 (.pointer (some p)) 2).run Try.prog w = .ok (.pointer (some (p.add 4))) w := fun p w => by kernel_rfl
theorem fa_57_3 : ∀ p w, (Instr.fieldAt 57 (.pointer (some p)) 3).run Try.prog w = .ok (.pointer (some (p.add 5))) w := fun p w => by kernel_rfl
theorem fa_57_4 : ∀ p w, (Instr.fieldAt 57 (.pointer (some p)) 4).run Try.prog w = .ok (.pointer (some (p.add 9))) w := fun p w => by kernel_rfl
theorem fa_57_5 : ∀ p w, (Instr.fieldAt 57 (.pointer (some p)) 5).run Try.prog w = .ok (.pointer (some (p.add 41))) w := fun p w => by kernel_rfl
theorem fa_57_6 : ∀ p w, (Instr.fieldAt 57 (.pointer (some p)) 6).run Try.prog w = .ok (.pointer (some (p.add 42))) w := fun p w => by kernel_rfl
theorem fa_57_7 : ∀ p w, (Instr.fieldAt 57 (.pointer (some p)) 7).run Try.prog w = .ok (.pointer (some (p.add 43))) w := fun p w => by kernel_rfl
theorem fa_57_8 : ∀ p w, (Instr.fieldAt 57 (.pointer (some p)) 8).run Try.prog w = .ok (.pointer (some (p.add 44))) w := fun p w => by kernel_rfl
theorem fa_61_0 : ∀ p w, (Instr.fieldAt 61 (.pointer (some p)) 0).run Try.prog w = .ok (.pointer (some (p.add 0))) w := fun p w => by kernel_rfl
theorem fa_61_1 : ∀ p w, (Instr.fieldAt 61 (.pointer (some p)) 1).run Try.prog w = .ok (.pointer (some (p.add 1))) w := fun p w => by kernel_rfl
theorem fa_61_2 : ∀ p w, (Instr.fieldAt 61 (.pointer (some p)) 2).run Try.prog w = .ok (.pointer (some (p.add 2))) w := fun p w => by kernel_rfl
theorem fa_63_0 : ∀ p w, (Instr.fieldAt 63 (.pointer (some p)) 0).run Try.prog w = .ok (.pointer (some (p.add 0))) w := fun p w => by kernel_rfl
theorem fa_63_1 : ∀ p w, (Instr.fieldAt 63 (.pointer (some p)) 1).run Try.prog w = .ok (.pointer (some (p.add 3))) w := fun p w => by kernel_rfl
theorem fa_63_2 : ∀ p w, (Instr.fieldAt 63 (.pointer (some p)) 2).run Try.prog w = .ok (.pointer (some (p.add 4))) w := fun p w => by kernel_rfl
theorem fa_63_3 : ∀ p w, (Instr.fieldAt 63 (.pointer (some p)) 3).run Try.prog w = .ok (.pointer (some (p.add 5))) w := fun p w => by kernel_rfl
theorem fa_63_4 : ∀ p w, (Instr.fieldAt 63 (.pointer (some p)) 4).run Try.prog w = .ok (.pointer (some (p.add 6))) w := fun p w => by kernel_rfl
theorem fa_63_5 : ∀ p w, (Instr.fieldAt 63 (.pointer (some p)) 5).run Try.prog w = .ok (.pointer (some (p.add 7))) w := fun p w => by kernel_rfl
theorem fa_63_6 : ∀ p w, (Instr.fieldAt 63 (.pointer (some p)) 6).run Try.prog w = .ok (.pointer (some (p.add 8))) w := fun p w => by kernel_rfl
theorem fa_63_7 : ∀ p w, (Instr.fieldAt 63 (.pointer (some p)) 7).run Try.prog w = .ok (.pointer (some (p.add 9))) w := fun p w => by kernel_rfl
theorem fa_65_0 : ∀ p w, (Instr.fieldAt 65 (.pointer (some p)) 0).run Try.prog w = .ok (.pointer (some (p.add 0))) w := fun p w => by kernel_rfl
theorem fa_65_1 : ∀ p w, (Instr.fieldAt 65 (.pointer (some p)) 1).run Try.prog w = .ok (.pointer (some (p.add 1))) w := fun p w => by kernel_rfl
theorem fa_65_3 : ∀ p w, (Instr.fieldAt 65 (.pointer (some p)) 3).run Try.prog w = .ok (.pointer (some (p.add 34))) w := fun p w => by kernel_rfl
theorem fa_65_4 : ∀ p w, (Instr.fieldAt 65 (.pointer (some p)) 4).run Try.prog w = .ok (.pointer (some (p.add 35))) w := fun p w => by kernel_rfl
theorem fa_65_5 : ∀ p w, (Instr.fieldAt 65 (.pointer (some p)) 5).run Try.prog w = .ok (.pointer (some (p.add 36))) w := fun p w => by kernel_rfl
theorem fa_65_6 : ∀ p w, (Instr.fieldAt 65 (.pointer (some p)) 6).run Try.prog w = .ok (.pointer (some (p.add 37))) w := fun p w => by kernel_rfl
theorem fa_65_7 : ∀ p w, (Instr.fieldAt 65 (.pointer (some p)) 7).run Try.prog w = .ok (.pointer (some (p.add 38))) w := fun p w => by kernel_rfl
theorem fa_70_0 : ∀ p w, (Instr.fieldAt 70 (.pointer (some p)) 0).run Try.prog w = .ok (.pointer (some (p.add 0))) w := fun p w => by kernel_rfl
theorem fa_70_1 : ∀ p w, (Instr.fieldAt 70 (.pointer (some p)) 1).run Try.prog w = .ok (.pointer (some (p.add 1))) w := fun p w => by kernel_rfl
theorem fa_70_2 : ∀ p w, (Instr.fieldAt 70 (.pointer (some p)) 2).run Try.prog w = .ok (.pointer (some (p.add 2))) w := fun p w => by kernel_rfl
theorem fa_72_0 : ∀ p w, (Instr.fieldAt 72 (.pointer (some p)) 0).run Try.prog w = .ok (.pointer (some (p.add 0))) w := fun p w => by kernel_rfl
theorem fa_72_1 : ∀ p w, (Instr.fieldAt 72 (.pointer (some p)) 1).run Try.prog w = .ok (.pointer (some (p.add 3))) w := fun p w => by kernel_rfl
theorem fa_72_2 : ∀ p w, (Instr.fieldAt 72 (.pointer (some p)) 2).run Try.prog w = .ok (.pointer (some (p.add 4))) w := fun p w => by kernel_rfl
theorem fa_72_3 : ∀ p w, (Instr.fieldAt 72 (.pointer (some p)) 3).run Try.prog w = .ok (.pointer (some (p.add 5))) w := fun p w => by kernel_rfl
theorem fa_72_4 : ∀ p w, (Instr.fieldAt 72 (.pointer (some p)) 4).run Try.prog w = .ok (.pointer (some (p.add 6))) w := fun p w => by kernel_rfl
theorem fa_72_5 : ∀ p w, (Instr.fieldAt 72 (.pointer (some p)) 5).run Try.prog w = .ok (.pointer (some (p.add 7))) w := fun p w => by kernel_rfl
theorem fa_72_6 : ∀ p w, (Instr.fieldAt 72 (.pointer (some p)) 6).run Try.prog w = .ok (.pointer (some (p.add 8))) w := fun p w => by kernel_rfl
theorem fa_72_7 : ∀ p w, (Instr.fieldAt 72 (.pointer (some p)) 7).run Try.prog w = .ok (.pointer (some (p.add 9))) w := fun p w => by kernel_rfl
theorem fa_74_0 : ∀ p w, (Instr.fieldAt 74 (.pointer (some p)) 0).run Try.prog w = .ok (.pointer (some (p.add 0))) w := fun p w => by kernel_rfl
theorem fa_74_1 : ∀ p w, (Instr.fieldAt 74 (.pointer (some p)) 1).run Try.prog w = .ok (.pointer (some (p.add 1))) w := fun p w => by kernel_rfl
theorem fa_74_2 : ∀ p w, (Instr.fieldAt 74 (.pointer (some p)) 2).run Try.prog w = .ok (.pointer (some (p.add 2))) w := fun p w => by kernel_rfl
theorem fa_74_3 : ∀ p w, (Instr.fieldAt 74 (.pointer (some p)) 3).run Try.prog w = .ok (.pointer (some (p.add 34))) w := fun p w => by kernel_rfl
theorem fa_74_4 : ∀ p w, (Instr.fieldAt 74 (.pointer (some p)) 4).run Try.prog w = .ok (.pointer (some (p.add 35))) w := fun p w => by kernel_rfl
theorem fa_74_5 : ∀ p w, (Instr.fieldAt 74 (.pointer (some p)) 5).run Try.prog w = .ok (.pointer (some (p.add 36))) w := fun p w => by kernel_rfl
theorem fa_74_6 : ∀ p w, (Instr.fieldAt 74 (.pointer (some p)) 6).run Try.prog w = .ok (.pointer (some (p.add 37))) w := fun p w => by kernel_rfl
theorem fa_74_7 : ∀ p w, (Instr.fieldAt 74 (.pointer (some p)) 7).run Try.prog w = .ok (.pointer (some (p.add 38))) w := fun p w => by kernel_rfl
theorem fa_83_0 : ∀ p w, (Instr.fieldAt 83 (.pointer (some p)) 0).run Try.prog w = .ok (.pointer (some (p.add 0))) w := fun p w => by kernel_rfl
theorem fa_83_1 : ∀ p w, (Instr.fieldAt 83 (.pointer (some p)) 1).run Try.prog w = .ok (.pointer (some (p.add 3))) w := fun p w => by kernel_rfl
theorem fa_83_2 : ∀ p w, (Instr.fieldAt 83 (.pointer (some p)) 2).run Try.prog w = .ok (.pointer (some (p.add 4))) w := fun p w => by kernel_rfl
theorem fa_87_0 : ∀ p w, (Instr.fieldAt 87 (.pointer (some p)) 0).run Try.prog w = .ok (.pointer (some (p.add 0))) w := fun p w => by kernel_rfl
theorem fa_87_1 : ∀ p w, (Instr.fieldAt 87 (.pointer (some p)) 1).run Try.prog w = .ok (.pointer (some (p.add 3))) w := fun p w => by kernel_rfl
theorem fa_87_2 : ∀ p w, (Instr.fieldAt 87 (.pointer (some p)) 2).run Try.prog w = .ok (.pointer (some (p.add 4))) w := fun p w => by kernel_rfl
theorem fa_99_0 : ∀ p w, (Instr.fieldAt 99 (.pointer (some p)) 0).run Try.prog w = .ok (.pointer (some (p.add 0))) w := fun p w => by kernel_rfl
theorem fa_99_1 : ∀ p w, (Instr.fieldAt 99 (.pointer (some p)) 1).run Try.prog w = .ok (.pointer (some (p.add 1))) w := fun p w => by kernel_rfl
theorem fa_99_2 : ∀ p w, (Instr.fieldAt 99 (.pointer (some p)) 2).run Try.prog w = .ok (.pointer (some (p.add 2))) w := fun p w => by kernel_rfl
theorem fa_99_3 : ∀ p w, (Instr.fieldAt 99 (.pointer (some p)) 3).run Try.prog w = .ok (.pointer (some (p.add 3))) w := fun p w => by kernel_rfl
theorem fa_99_4 : ∀ p w, (Instr.fieldAt 99 (.pointer (some p)) 4).run Try.prog w = .ok (.pointer (some (p.add 4))) w := fun p w => by kernel_rfl
theorem fa_99_5 : ∀ p w, (Instr.fieldAt 99 (.pointer (some p)) 5).run Try.prog w = .ok (.pointer (some (p.add 5))) w := fun p w => by kernel_rfl
theorem fa_109_0 : ∀ p w, (Instr.fieldAt 109 (.pointer (some p)) 0).run Try.prog w = .ok (.pointer (some (p.add 0))) w := fun p w => by kernel_rfl
theorem fa_109_1 : ∀ p w, (Instr.fieldAt 109 (.pointer (some p)) 1).run Try.prog w = .ok (.pointer (some (p.add 1))) w := fun p w => by kernel_rfl
theorem fa_114_0 : ∀ p w, (Instr.fieldAt 114 (.pointer (some p)) 0).run Try.prog w = .ok (.pointer (some (p.add 0))) w := fun p w => by kernel_rfl
theorem fa_114_1 : ∀ p w, (Instr.fieldAt 114 (.pointer (some p)) 1).run Try.prog w = .ok (.pointer (some (p.add 1))) w := fun p w => by kernel_rfl
theorem fa_116_1 : ∀ p w, (Instr.fieldAt 116 (.pointer (some p)) 1).run Try.prog w = .ok (.pointer (some (p.add 1))) w := fun p w => by kernel_rfl
theorem fa_116_2 : ∀ p w, (Instr.fieldAt 116 (.pointer (some p)) 2).run Try.prog w = .ok (.pointer (some (p.add 2))) w := fun p w => by kernel_rfl
theorem fa_116_4 : ∀ p w, (Instr.fieldAt 116 (.pointer (some p)) 4).run Try.prog w = .ok (.pointer (some (p.add 4))) w := fun p w => by kernel_rfl
theorem fa_116_9 : ∀ p w, (Instr.fieldAt 116 (.pointer (some p)) 9).run Try.prog w = .ok (.pointer (some (p.add 29))) w := fun p w => by kernel_rfl
theorem fa_123_0 : ∀ p w, (Instr.fieldAt 123 (.pointer (some p)) 0).run Try.prog w = .ok (.pointer (some (p.add 0))) w := fun p w => by kernel_rfl
theorem fa_123_1 : ∀ p w, (Instr.fieldAt 123 (.pointer (some p)) 1).run Try.prog w = .ok (.pointer (some (p.add 1))) w := fun p w => by kernel_rfl
theorem fa_123_2 : ∀ p w, (Instr.fieldAt 123 (.pointer (some p)) 2).run Try.prog w = .ok (.pointer (some (p.add 2))) w := fun p w => by kernel_rfl
theorem fa_123_3 : ∀ p w, (Instr.fieldAt 123 (.pointer (some p)) 3).run Try.prog w = .ok (.pointer (some (p.add 3))) w := fun p w => by kernel_rfl
theorem fa_123_4 : ∀ p w, (Instr.fieldAt 123 (.pointer (some p)) 4).run Try.prog w = .ok (.pointer (some (p.add 4))) w := fun p w => by kernel_rfl
theorem fa_136_0 : ∀ p w, (Instr.fieldAt 136 (.pointer (some p)) 0).run Try.prog w = .ok (.pointer (some (p.add 0))) w := fun p w => by kernel_rfl
theorem fa_136_1 : ∀ p w, (Instr.fieldAt 136 (.pointer (some p)) 1).run Try.prog w = .ok (.pointer (some (p.add 32))) w := fun p w => by kernel_rfl
theorem fa_136_2 : ∀ p w, (Instr.fieldAt 136 (.pointer (some p)) 2).run Try.prog w = .ok (.pointer (some (p.add 64))) w := fun p w => by kernel_rfl
theorem fa_136_3 : ∀ p w, (Instr.fieldAt 136 (.pointer (some p)) 3).run Try.prog w = .ok (.pointer (some (p.add 65))) w := fun p w => by kernel_rfl
theorem fa_138_0 : ∀ p w, (Instr.fieldAt 138 (.pointer (some p)) 0).run Try.prog w = .ok (.pointer (some (p.add 0))) w := fun p w => by kernel_rfl
theorem fa_138_1 : ∀ p w, (Instr.fieldAt 138 (.pointer (some p)) 1).run Try.prog w = .ok (.pointer (some (p.add 1))) w := fun p w => by kernel_rfl
theorem fa_138_2 : ∀ p w, (Instr.fieldAt 138 (.pointer (some p)) 2).run Try.prog w = .ok (.pointer (some (p.add 2))) w := fun p w => by kernel_rfl
theorem fa_138_3 : ∀ p w, (Instr.fieldAt 138 (.pointer (some p)) 3).run Try.prog w = .ok (.pointer (some (p.add 3))) w := fun p w => by kernel_rfl
theorem fa_142_0 : ∀ p w, (Instr.fieldAt 142 (.pointer (some p)) 0).run Try.prog w = .ok (.pointer (some (p.add 0))) w := fun p w => by kernel_rfl
theorem fa_142_1 : ∀ p w, (Instr.fieldAt 142 (.pointer (some p)) 1).run Try.prog w = .ok (.pointer (some (p.add 1))) w := fun p w => by kernel_rfl
theorem fa_142_2 : ∀ p w, (Instr.fieldAt 142 (.pointer (some p)) 2).run Try.prog w = .ok (.pointer (some (p.add 2))) w := fun p w => by kernel_rfl
theorem fa_142_3 : ∀ p w, (Instr.fieldAt 142 (.pointer (some p)) 3).run Try.prog w = .ok (.pointer (some (p.add 3))) w := fun p w => by kernel_rfl
theorem fa_148_0 : ∀ p w, (Instr.fieldAt 148 (.pointer (some p)) 0).run Try.prog w = .ok (.pointer (some (p.add 0))) w := fun p w => by kernel_rfl
theorem fa_148_1 : ∀ p w, (Instr.fieldAt 148 (.pointer (some p)) 1).run Try.prog w = .ok (.pointer (some (p.add 32))) w := fun p w => by kernel_rfl
theorem fa_148_2 : ∀ p w, (Instr.fieldAt 148 (.pointer (some p)) 2).run Try.prog w = .ok (.pointer (some (p.add 64))) w := fun p w => by kernel_rfl
theorem fa_148_3 : ∀ p w, (Instr.fieldAt 148 (.pointer (some p)) 3).run Try.prog w = .ok (.pointer (some (p.add 65))) w := fun p w => by kernel_rfl
theorem fa_160_0 : ∀ p w, (Instr.fieldAt 160 (.pointer (some p)) 0).run Try.prog w = .ok (.pointer (some (p.add 0))) w := fun p w => by kernel_rfl
theorem fa_160_1 : ∀ p w, (Instr.fieldAt 160 (.pointer (some p)) 1).run Try.prog w = .ok (.pointer (some (p.add 1))) w := fun p w => by kernel_rfl
theorem fa_160_2 : ∀ p w, (Instr.fieldAt 160 (.pointer (some p)) 2).run Try.prog w = .ok (.pointer (some (p.add 2))) w := fun p w => by kernel_rfl
theorem fa_160_3 : ∀ p w, (Instr.fieldAt 160 (.pointer (some p)) 3).run Try.prog w = .ok (.pointer (some (p.add 3))) w := fun p w => by kernel_rfl
theorem fa_161_0 : ∀ p w, (Instr.fieldAt 161 (.pointer (some p)) 0).run Try.prog w = .ok (.pointer (some (p.add 0))) w := fun p w => by kernel_rfl
theorem fa_161_1 : ∀ p w, (Instr.fieldAt 161 (.pointer (some p)) 1).run Try.prog w = .ok (.pointer (some (p.add 1))) w := fun p w => by kernel_rfl
theorem fa_161_2 : ∀ p w, (Instr.fieldAt 161 (.pointer (some p)) 2).run Try.prog w = .ok (.pointer (some (p.add 2))) w := fun p w => by kernel_rfl
theorem fa_161_3 : ∀ p w, (Instr.fieldAt 161 (.pointer (some p)) 3).run Try.prog w = .ok (.pointer (some (p.add 3))) w := fun p w => by kernel_rfl
theorem fa_167_0 : ∀ p w, (Instr.fieldAt 167 (.pointer (some p)) 0).run Try.prog w = .ok (.pointer (some (p.add 0))) w := fun p w => by kernel_rfl
theorem fa_167_1 : ∀ p w, (Instr.fieldAt 167 (.pointer (some p)) 1).run Try.prog w = .ok (.pointer (some (p.add 32))) w := fun p w => by kernel_rfl
theorem fa_167_2 : ∀ p w, (Instr.fieldAt 167 (.pointer (some p)) 2).run Try.prog w = .ok (.pointer (some (p.add 33))) w := fun p w => by kernel_rfl
theorem fa_172_0 : ∀ p w, (Instr.fieldAt 172 (.pointer (some p)) 0).run Try.prog w = .ok (.pointer (some (p.add 0))) w := fun p w => by kernel_rfl
theorem fa_172_1 : ∀ p w, (Instr.fieldAt 172 (.pointer (some p)) 1).run Try.prog w = .ok (.pointer (some (p.add 1))) w := fun p w => by kernel_rfl
theorem fa_172_2 : ∀ p w, (Instr.fieldAt 172 (.pointer (some p)) 2).run Try.prog w = .ok (.pointer (some (p.add 33))) w := fun p w => by kernel_rfl
theorem fa_172_3 : ∀ p w, (Instr.fieldAt 172 (.pointer (some p)) 3).run Try.prog w = .ok (.pointer (some (p.add 34))) w := fun p w => by kernel_rfl
theorem fa_175_0 : ∀ p w, (Instr.fieldAt 175 (.pointer (some p)) 0).run Try.prog w = .ok (.pointer (some (p.add 0))) w := fun p w => by kernel_rfl
theorem fa_175_1 : ∀ p w, (Instr.fieldAt 175 (.pointer (some p)) 1).run Try.prog w = .ok (.pointer (some (p.add 1))) w := fun p w => by kernel_rfl
theorem fa_196_0 : ∀ p w, (Instr.fieldAt 196 (.pointer (some p)) 0).run Try.prog w = .ok (.pointer (some (p.add 0))) w := fun p w => by kernel_rfl
theorem fa_196_1 : ∀ p w, (Instr.fieldAt 196 (.pointer (some p)) 1).run Try.prog w = .ok (.pointer (some (p.add 1))) w := fun p w => by kernel_rfl
theorem fa_196_2 : ∀ p w, (Instr.fieldAt 196 (.pointer (some p)) 2).run Try.prog w = .ok (.pointer (some (p.add 2))) w := fun p w => by kernel_rfl
theorem fa_196_3 : ∀ p w, (Instr.fieldAt 196 (.pointer (some p)) 3).run Try.prog w = .ok (.pointer (some (p.add 3))) w := fun p w => by kernel_rfl
theorem fa_198_0 : ∀ p w, (Instr.fieldAt 198 (.pointer (some p)) 0).run Try.prog w = .ok (.pointer (some (p.add 0))) w := fun p w => by kernel_rfl
theorem fa_198_1 : ∀ p w, (Instr.fieldAt 198 (.pointer (some p)) 1).run Try.prog w = .ok (.pointer (some (p.add 1))) w := fun p w => by kernel_rfl
theorem fa_198_2 : ∀ p w, (Instr.fieldAt 198 (.pointer (some p)) 2).run Try.prog w = .ok (.pointer (some (p.add 2))) w := fun p w => by kernel_rfl
theorem fa_198_3 : ∀ p w, (Instr.fieldAt 198 (.pointer (some p)) 3).run Try.prog w = .ok (.pointer (some (p.add 3))) w := fun p w => by kernel_rfl
theorem fa_199_0 : ∀ p w, (Instr.fieldAt 199 (.pointer (some p)) 0).run Try.prog w = .ok (.pointer (some (p.add 0))) w := fun p w => by kernel_rfl
theorem fa_199_1 : ∀ p w, (Instr.fieldAt 199 (.pointer (some p)) 1).run Try.prog w = .ok (.pointer (some (p.add 1))) w := fun p w => by kernel_rfl
theorem fa_199_2 : ∀ p w, (Instr.fieldAt 199 (.pointer (some p)) 2).run Try.prog w = .ok (.pointer (some (p.add 2))) w := fun p w => by kernel_rfl
theorem fa_199_3 : ∀ p w, (Instr.fieldAt 199 (.pointer (some p)) 3).run Try.prog w = .ok (.pointer (some (p.add 3))) w := fun p w => by kernel_rfl
theorem fa_201_0 : ∀ p w, (Instr.fieldAt 201 (.pointer (some p)) 0).run Try.prog w = .ok (.pointer (some (p.add 0))) w := fun p w => by kernel_rfl
theorem fa_201_1 : ∀ p w, (Instr.fieldAt 201 (.pointer (some p)) 1).run Try.prog w = .ok (.pointer (some (p.add 1))) w := fun p w => by kernel_rfl
theorem fa_201_2 : ∀ p w, (Instr.fieldAt 201 (.pointer (some p)) 2).run Try.prog w = .ok (.pointer (some (p.add 2))) w := fun p w => by kernel_rfl
theorem fa_201_3 : ∀ p w, (Instr.fieldAt 201 (.pointer (some p)) 3).run Try.prog w = .ok (.pointer (some (p.add 3))) w := fun p w => by kernel_rfl
theorem fa_221_0 : ∀ p w, (Instr.fieldAt 221 (.pointer (some p)) 0).run Try.prog w = .ok (.pointer (some (p.add 0))) w := fun p w => by kernel_rfl
theorem fa_221_1 : ∀ p w, (Instr.fieldAt 221 (.pointer (some p)) 1).run Try.prog w = .ok (.pointer (some (p.add 1))) w := fun p w => by kernel_rfl
theorem fa_221_2 : ∀ p w, (Instr.fieldAt 221 (.pointer (some p)) 2).run Try.prog w = .ok (.pointer (some (p.add 2))) w := fun p w => by kernel_rfl
theorem fa_234_0 : ∀ p w, (Instr.fieldAt 234 (.pointer (some p)) 0).run Try.prog w = .ok (.pointer (some (p.add 0))) w := fun p w => by kernel_rfl
theorem fa_234_1 : ∀ p w, (Instr.fieldAt 234 (.pointer (some p)) 1).run Try.prog w = .ok (.pointer (some (p.add 1))) w := fun p w => by kernel_rfl
theorem fa_234_2 : ∀ p w, (Instr.fieldAt 234 (.pointer (some p)) 2).run Try.prog w = .ok (.pointer (some (p.add 2))) w := fun p w => by kernel_rfl
theorem fa_237_0 : ∀ p w, (Instr.fieldAt 237 (.pointer (some p)) 0).run Try.prog w = .ok (.pointer (some (p.add 0))) w := fun p w => by kernel_rfl
theorem fa_237_1 : ∀ p w, (Instr.fieldAt 237 (.pointer (some p)) 1).run Try.prog w = .ok (.pointer (some (p.add 1))) w := fun p w => by kernel_rfl
theorem fa_237_2 : ∀ p w, (Instr.fieldAt 237 (.pointer (some p)) 2).run Try.prog w = .ok (.pointer (some (p.add 2))) w := fun p w => by kernel_rfl
theorem fa_246_5 : ∀ p w, (Instr.fieldAt 246 (.pointer (some p)) 5).run Try.prog w = .ok (.pointer (some (p.add 20))) w := fun p w => by kernel_rfl
theorem fa_277_0 : ∀ p w, (Instr.fieldAt 277 (.pointer (some p)) 0).run Try.prog w = .ok (.pointer (some (p.add 0))) w := fun p w => by kernel_rfl
theorem fa_277_1 : ∀ p w, (Instr.fieldAt 277 (.pointer (some p)) 1).run Try.prog w = .ok (.pointer (some (p.add 1))) w := fun p w => by kernel_rfl
theorem fa_292_0 : ∀ p w, (Instr.fieldAt 292 (.pointer (some p)) 0).run Try.prog w = .ok (.pointer (some (p.add 0))) w := fun p w => by kernel_rfl
theorem fa_308_0 : ∀ p w, (Instr.fieldAt 308 (.pointer (some p)) 0).run Try.prog w = .ok (.pointer (some (p.add 0))) w := fun p w => by kernel_rfl
theorem fa_308_1 : ∀ p w, (Instr.fieldAt 308 (.pointer (some p)) 1).run Try.prog w = .ok (.pointer (some (p.add 1))) w := fun p w => by kernel_rfl
theorem fa_308_2 : ∀ p w, (Instr.fieldAt 308 (.pointer (some p)) 2).run Try.prog w = .ok (.pointer (some (p.add 2))) w := fun p w => by kernel_rfl
theorem fa_310_0 : ∀ p w, (Instr.fieldAt 310 (.pointer (some p)) 0).run Try.prog w = .ok (.pointer (some (p.add 0))) w := fun p w => by kernel_rfl
theorem fa_310_1 : ∀ p w, (Instr.fieldAt 310 (.pointer (some p)) 1).run Try.prog w = .ok (.pointer (some (p.add 3))) w := fun p w => by kernel_rfl
theorem fa_310_2 : ∀ p w, (Instr.fieldAt 310 (.pointer (some p)) 2).run Try.prog w = .ok (.pointer (some (p.add 35))) w := fun p w => by kernel_rfl
theorem fa_310_3 : ∀ p w, (Instr.fieldAt 310 (.pointer (some p)) 3).run Try.prog w = .ok (.pointer (some (p.add 67))) w := fun p w => by kernel_rfl
theorem fa_363_0 : ∀ p w, (Instr.fieldAt 363 (.pointer (some p)) 0).run Try.prog w = .ok (.pointer (some (p.add 0))) w := fun p w => by kernel_rfl
theorem fa_363_1 : ∀ p w, (Instr.fieldAt 363 (.pointer (some p)) 1).run Try.prog w = .ok (.pointer (some (p.add 8))) w := fun p w => by kernel_rfl
theorem fa_363_2 : ∀ p w, (Instr.fieldAt 363 (.pointer (some p)) 2).run Try.prog w = .ok (.pointer (some (p.add 9))) w := fun p w => by kernel_rfl
theorem fa_363_3 : ∀ p w, (Instr.fieldAt 363 (.pointer (some p)) 3).run Try.prog w = .ok (.pointer (some (p.add 10))) w := fun p w => by kernel_rfl
theorem pl_29 : StrT Try.prog 29 #[(0, 1)] := ⟨_, Try.runUnderlying29, fun w => by kernel_rfl⟩
theorem pl_49 : StrT Try.prog 49 #[(0, 1), (1, 1), (2, 1), (3, 1)] := ⟨_, Try.runUnderlying49, fun w => by kernel_rfl⟩
theorem pl_52 : StrT Try.prog 52 #[(0, 1), (1, 3), (4, 1), (5, 4), (9, 32), (41, 1), (42, 1), (43, 1), (44, 1)] := ⟨_, Try.runUnderlying52, fun w => by kernel_rfl⟩
theorem pl_55 : StrT Try.prog 55 #[(0, 1), (1, 1), (2, 1), (3, 1)] := ⟨_, Try.runUnderlying55, fun w => by kernel_rfl⟩
theorem pl_57 : StrT Try.prog 57 #[(0, 1), (1, 3), (4, 1), (5, 4), (9, 32), (41, 1), (42, 1), (43, 1), (44, 1)] := ⟨_, Try.runUnderlying57, fun w => by kernel_rfl⟩
theorem pl_61 : StrT Try.prog 61 #[(0, 1), (1, 1), (2, 1)] := ⟨_, Try.runUnderlying61, fun w => by kernel_rfl⟩
theorem pl_63 : StrT Try.prog 63 #[(0, 3), (3, 1), (4, 1), (5, 1), (6, 1), (7, 1), (8, 1), (9, 1)] := ⟨_, Try.runUnderlying63, fun w => by kernel_rfl⟩
theorem pl_65 : StrT Try.prog 65 #[(0, 1), (1, 1), (2, 32), (34, 1), (35, 1), (36, 1), (37, 1), (38, 10)] := ⟨_, Try.runUnderlying65, fun w => by kernel_rfl⟩
theorem pl_70 : StrT Try.prog 70 #[(0, 1), (1, 1), (2, 1)] := ⟨_, Try.runUnderlying70, fun w => by kernel_rfl⟩
theorem pl_72 : StrT Try.prog 72 #[(0, 3), (3, 1), (4, 1), (5, 1), (6, 1), (7, 1), (8, 1), (9, 1)] := ⟨_, Try.runUnderlying72, fun w => by kernel_rfl⟩
theorem pl_74 : StrT Try.prog 74 #[(0, 1), (1, 1), (2, 32), (34, 1), (35, 1), (36, 1), (37, 1), (38, 10)] := ⟨_, Try.runUnderlying74, fun w => by kernel_rfl⟩
theorem pl_83 : StrT Try.prog 83 #[(0, 3), (3, 1), (4, 1)] := ⟨_, Try.runUnderlying83, fun w => by kernel_rfl⟩
theorem pl_87 : StrT Try.prog 87 #[(0, 3), (3, 1), (4, 1)] := ⟨_, Try.runUnderlying87, fun w => by kernel_rfl⟩
theorem pl_99 : StrT Try.prog 99 #[(0, 1), (1, 1), (2, 1), (3, 1), (4, 1), (5, 16)] := ⟨_, Try.runUnderlying99, fun w => by kernel_rfl⟩
theorem pl_109 : StrT Try.prog 109 #[(0, 1), (1, 1)] := ⟨_, Try.runUnderlying109, fun w => by kernel_rfl⟩
theorem pl_114 : StrT Try.prog 114 #[(0, 1), (1, 1)] := ⟨_, Try.runUnderlying114, fun w => by kernel_rfl⟩
theorem pl_123 : StrT Try.prog 123 #[(0, 1), (1, 1), (2, 1), (3, 1), (4, 1)] := ⟨_, Try.runUnderlying123, fun w => by kernel_rfl⟩
theorem pl_136 : StrT Try.prog 136 #[(0, 32), (32, 32), (64, 1), (65, 1)] := ⟨_, Try.runUnderlying136, fun w => by kernel_rfl⟩
theorem pl_138 : StrT Try.prog 138 #[(0, 1), (1, 1), (2, 1), (3, 1)] := ⟨_, Try.runUnderlying138, fun w => by kernel_rfl⟩
theorem pl_142 : StrT Try.prog 142 #[(0, 1), (1, 1), (2, 1), (3, 1)] := ⟨_, Try.runUnderlying142, fun w => by kernel_rfl⟩
theorem pl_148 : StrT Try.prog 148 #[(0, 32), (32, 32), (64, 1), (65, 1)] := ⟨_, Try.runUnderlying148, fun w => by kernel_rfl⟩
theorem pl_160 : StrT Try.prog 160 #[(0, 1), (1, 1), (2, 1), (3, 1)] := ⟨_, Try.runUnderlying160, fun w => by kernel_rfl⟩
theorem pl_161 : StrT Try.prog 161 #[(0, 1), (1, 1), (2, 1), (3, 1)] := ⟨_, Try.runUnderlying161, fun w => by kernel_rfl⟩
theorem pl_167 : StrT Try.prog 167 #[(0, 32), (32, 1), (33, 1)] := ⟨_, Try.runUnderlying167, fun w => by kernel_rfl⟩
theorem pl_172 : StrT Try.prog 172 #[(0, 1), (1, 32), (33, 1), (34, 1)] := ⟨_, Try.runUnderlying172, fun w => by kernel_rfl⟩
theorem pl_175 : StrT Try.prog 175 #[(0, 1), (1, 1)] := ⟨_, Try.runUnderlying175, fun w => by kernel_rfl⟩
theorem pl_196 : StrT Try.prog 196 #[(0, 1), (1, 1), (2, 1), (3, 1)] := ⟨_, Try.runUnderlying196, fun w => by kernel_rfl⟩
theorem pl_198 : StrT Try.prog 198 #[(0, 1), (1, 1), (2, 1), (3, 4)] := ⟨_, Try.runUnderlying198, fun w => by kernel_rfl⟩
theorem pl_199 : StrT Try.prog 199 #[(0, 1), (1, 1), (2, 1), (3, 1)] := ⟨_, Try.runUnderlying199, fun w => by kernel_rfl⟩
theorem pl_201 : StrT Try.prog 201 #[(0, 1), (1, 1), (2, 1), (3, 4)] := ⟨_, Try.runUnderlying201, fun w => by kernel_rfl⟩
theorem pl_213 : StrT Try.prog 213 #[(0, 1), (1, 1)] := ⟨_, Try.runUnderlying213, fun w => by kernel_rfl⟩
theorem pl_221 : StrT Try.prog 221 #[(0, 1), (1, 1), (2, 1)] := ⟨_, Try.runUnderlying221, fun w => by kernel_rfl⟩
theorem pl_234 : StrT Try.prog 234 #[(0, 1), (1, 1), (2, 1)] := ⟨_, Try.runUnderlying234, fun w => by kernel_rfl⟩
theorem pl_237 : StrT Try.prog 237 #[(0, 1), (1, 1), (2, 24)] := ⟨_, Try.runUnderlying237, fun w => by kernel_rfl⟩
theorem pl_242 : StrT Try.prog 242 #[(0, 9), (9, 1)] := ⟨_, Try.runUnderlying242, fun w => by kernel_rfl⟩
theorem pl_246 : StrT Try.prog 246 #[(0, 3), (3, 3), (6, 3), (9, 1), (10, 10), (20, 1), (21, 1), (22, 1), (23, 1), (24, 1)] := ⟨_, Try.runUnderlying246, fun w => by kernel_rfl⟩
theorem pl_251 : StrT Try.prog 251 #[(0, 7), (7, 4), (11, 1)] := ⟨_, Try.runUnderlying251, fun w => by kernel_rfl⟩
theorem pl_257 : StrT Try.prog 257 #[(0, 1), (1, 1), (2, 24)] := ⟨_, Try.runUnderlying257, fun w => by kernel_rfl⟩
theorem pl_270 : StrT Try.prog 270 #[(0, 10), (10, 1), (11, 1), (12, 1), (13, 1)] := ⟨_, Try.runUnderlying270, fun w => by kernel_rfl⟩
theorem pl_277 : StrT Try.prog 277 #[(0, 1), (1, 1)] := ⟨_, Try.runUnderlying277, fun w => by kernel_rfl⟩
theorem pl_292 : StrT Try.prog 292 #[(0, 1)] := ⟨_, Try.runUnderlying292, fun w => by kernel_rfl⟩
theorem pl_308 : StrT Try.prog 308 #[(0, 1), (1, 1), (2, 1)] := ⟨_, Try.runUnderlying308, fun w => by kernel_rfl⟩
theorem pl_310 : StrT Try.prog 310 #[(0, 3), (3, 32), (35, 32), (67, 1)] := ⟨_, Try.runUnderlying310, fun w => by kernel_rfl⟩
theorem pl_321 : StrT Try.prog 321 #[(0, 1), (1, 1), (2, 24), (26, 24)] := ⟨_, Try.runUnderlying321, fun w => by kernel_rfl⟩
theorem pl_326 : StrT Try.prog 326 #[(0, 1), (1, 1), (2, 40)] := ⟨_, Try.runUnderlying326, fun w => by kernel_rfl⟩
theorem pl_331 : StrT Try.prog 331 #[(0, 1), (1, 1), (2, 1), (3, 40)] := ⟨_, Try.runUnderlying331, fun w => by kernel_rfl⟩
theorem pl_363 : StrT Try.prog 363 #[(0, 8), (8, 1), (9, 1), (10, 1)] := ⟨_, Try.runUnderlying363, fun w => by kernel_rfl⟩
theorem pl_382 : StrT Try.prog 382 #[(0, 1), (1, 3), (4, 1), (5, 1), (6, 1)] := ⟨_, Try.runUnderlying382, fun w => by kernel_rfl⟩
theorem pl_399 : StrT Try.prog 399 #[(0, 1), (1, 1), (2, 1)] := ⟨_, Try.runUnderlying399, fun w => by kernel_rfl⟩
theorem pl_402 : StrT Try.prog 402 #[(0, 1), (1, 1), (2, 1)] := ⟨_, Try.runUnderlying402, fun w => by kernel_rfl⟩
theorem pl_407 : StrT Try.prog 407 #[(0, 1), (1, 1), (2, 1), (3, 40)] := ⟨_, Try.runUnderlying407, fun w => by kernel_rfl⟩
theorem el_27 : ElemT Try.prog 27 172 35 56 := ⟨by kernel_rfl, ⟨Try.t172, _, by kernel_rfl, (by first | exact rfl | kernel_rfl), by kernel_rfl, by kernel_rfl, by kernel_rfl⟩, by decide⟩
theorem el_43 : ElemT Try.prog 43 3 1 8 := ⟨by kernel_rfl, ⟨Try.t3, _, by kernel_rfl, (by first | exact rfl | kernel_rfl), by kernel_rfl, by kernel_rfl, by kernel_rfl⟩, by decide⟩
theorem el_44 : ElemT Try.prog 44 74 48 160 := ⟨by kernel_rfl, ⟨Try.t74, _, by kernel_rfl, (by first | exact rfl | kernel_rfl), by kernel_rfl, by kernel_rfl, by kernel_rfl⟩, by decide⟩
theorem el_54 : ElemT Try.prog 54 65 48 160 := ⟨by kernel_rfl, ⟨Try.t65, _, by kernel_rfl, (by first | exact rfl | kernel_rfl), by kernel_rfl, by kernel_rfl, by kernel_rfl⟩, by decide⟩
theorem el_81 : ElemT Try.prog 81 198 7 56 := ⟨by kernel_rfl, ⟨Try.t198, _, by kernel_rfl, (by first | exact rfl | kernel_rfl), by kernel_rfl, by kernel_rfl, by kernel_rfl⟩, by decide⟩
theorem el_85 : ElemT Try.prog 85 201 7 56 := ⟨by kernel_rfl, ⟨Try.t201, _, by kernel_rfl, (by first | exact rfl | kernel_rfl), by kernel_rfl, by kernel_rfl, by kernel_rfl⟩, by decide⟩
theorem el_95 : ElemT Try.prog 95 5 1 1 := ⟨by kernel_rfl, ⟨Try.t5, _, by kernel_rfl, (by first | exact rfl | kernel_rfl), by kernel_rfl, by kernel_rfl, by kernel_rfl⟩, by decide⟩
theorem el_134 : ElemT Try.prog 134 138 4 32 := ⟨by kernel_rfl, ⟨Try.t138, _, by kernel_rfl, (by first | exact rfl | kernel_rfl), by kernel_rfl, by kernel_rfl, by kernel_rfl⟩, by decide⟩
theorem el_146 : ElemT Try.prog 146 142 4 32 := ⟨by kernel_rfl, ⟨Try.t142, _, by kernel_rfl, (by first | exact rfl | kernel_rfl), by kernel_rfl, by kernel_rfl, by kernel_rfl⟩, by decide⟩
theorem el_152 : ElemT Try.prog 152 160 4 32 := ⟨by kernel_rfl, ⟨Try.t160, _, by kernel_rfl, (by first | exact rfl | kernel_rfl), by kernel_rfl, by kernel_rfl, by kernel_rfl⟩, by decide⟩
theorem el_154 : ElemT Try.prog 154 161 4 32 := ⟨by kernel_rfl, ⟨Try.t161, _, by kernel_rfl, (by first | exact rfl | kernel_rfl), by kernel_rfl, by kernel_rfl, by kernel_rfl⟩, by decide⟩
theorem el_357 : ElemT Try.prog 357 31 1 4 := ⟨by kernel_rfl, ⟨Try.t31, _, by kernel_rfl, (by first | exact rfl | kernel_rfl), by kernel_rfl, by kernel_rfl, by kernel_rfl⟩, by decide⟩
end Go.Proofs.Ytkkfdoippibfkaa
