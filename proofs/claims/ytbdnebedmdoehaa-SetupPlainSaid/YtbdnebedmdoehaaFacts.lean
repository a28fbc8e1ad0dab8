/- The facts on types that the walks want, by program. -/
import Derived.Test.YtbdnebedmdoehaaPD
import Derived.Test.YtbdnebedmdoehaaProg
import Derived.KernelRfl
namespace Go.Proofs.Ytbdnebedmdoehaa
open Go.PK
theorem mixed : Try.prog.follows .mixedOrders = true := by kernel_rfl
theorem fa_28_0 : ∀ p w, (Instr.fieldAt 28 (.pointer (some p)) 0).run Try.prog w = .ok (.pointer (some (p.add 0))) w := fun p w => by kernel_rfl
theorem fa_28_1 : ∀ p w, (Instr.fieldAt 28 (.pointer (some p)) 1).run Try.prog w = .ok (.pointer (some (p.add 1))) w := fun p w => by kernel_rfl
theorem fa_28_2 : ∀ p w, (Instr.fieldAt 28 (.pointer (some p)) 2).run Try.prog w = .ok (.pointer (some (p.add 2))) w := fun p w => by kernel_rfl
theorem fa_28_3 : ∀ p w, (Instr.fieldAt 28 (.pointer (some p)) 3).run Try.prog w = .ok (.pointer (some (p.add 3))) w := fun p w => by kernel_rfl
theorem fa_33_0 : ∀ p w, (Instr.fieldAt 33 (.pointer (some p)) 0).run Try.prog w = .ok (.pointer (some (p.add 0))) w := fun p w => by kernel_rfl
theorem fa_33_1 : ∀ p w, (Instr.fieldAt 33 (.pointer (some p)) 1).run Try.prog w = .ok (.pointer (some (p.add 1))) w := fun p w => by kernel_rfl
theorem fa_33_2 : ∀ p w, (Instr.fieldAt 33 (.pointer (some p)) 2).run Try.prog w = .ok (.pointer (some (p.add 4))) w := fun p w => by kernel_rfl
theorem fa_33_3 : ∀ p w, (Instr.fieldAt 33 (.pointer (some p)) 3).run Try.prog w = .ok (.pointer (some (p.add 5))) w := fun p w => by kernel_rfl
theorem fa_33_4 : ∀ p w, (Instr.fieldAt 33 (.pointer (some p)) 4).run Try.prog w = .ok (.pointer (some (p.add 9))) w := fun p w => by kernel_rfl
theorem fa_33_5 : ∀ p w, (Instr.fieldAt 33 (.pointer (some p)) 5).run Try.prog w = .ok (.pointer (some (p.add 41))) w := fun p w => by kernel_rfl
theorem fa_33_6 : ∀ p w, (Instr.fieldAt 33 (.pointer (some p)) 6).run Try.prog w = .ok (.pointer (some (p.add 42))) w := fun p w => by kernel_rfl
theorem fa_33_7 : ∀ p w, (Instr.fieldAt 33 (.pointer (some p)) 7).run Try.prog w = .ok (.pointer (some (p.add 43))) w := fun p w => by kernel_rfl
theorem fa_33_8 : ∀ p w, (Instr.fieldAt 33 (.pointer (some p)) 8).run Try.prog w = .ok (.pointer (some (p.add 44))) w := fun p w => by kernel_rfl
theorem fa_36_0 : ∀ p w, (Instr.fieldAt 36 (.pointer (some p)) 0).run Try.prog w = .ok (.pointer (some (p.add 0))) w := fun p w => by kernel_rfl
theorem fa_36_1 : ∀ p w, (Instr.fieldAt 36 (.pointer (some p)) 1).run Try.prog w = .ok (.pointer (some (p.add 1))) w := fun p w => by kernel_rfl
theorem fa_36_2 : ∀ p w, (Instr.fieldAt 36 (.pointer (some p)) 2).run Try.prog w = .ok (.pointer (some (p.add 2))) w := fun p w => by kernel_rfl
theorem fa_36_3 : ∀ p w, (Instr.fieldAt 36 (.pointer (some p)) 3).run Try.prog w = .ok (.pointer (some (p.add 3))) w := fun p w => by kernel_rfl
theorem fa_38_0 : ∀ p w, (Instr.fieldAt 38 (.pointer (some p)) 0).run Try.prog w = .ok (.pointer (some (p.add 0))) w := fun p w => by kernel_rfl
theorem fa_38_1 : ∀ p w, (Instr.fieldAt 38 (.pointer (some p)) 1).run Try.prog w = .ok (.pointer (some (p.add 1))) w := fun p w => by kernel_rfl
theorem fa_38_2 : ∀ p w, (Instr.fieldAt 38 (.pointer (some p)) 2).run Try.prog w = .ok (.pointer (some (p.add 4))) w := fun p w => by kernel_rfl
theorem fa_38_3 : ∀ p w, (Instr.fieldAt 38 (.pointer (some p)) 3).run Try.prog w = .ok (.pointer (some (p.add 5))) w := fun p w => by kernel_rfl
theorem fa_38_4 : ∀ p w, (Instr.fieldAt 38 (.pointer (some p)) 4).run Try.prog w = .ok (.pointer (some (p.add 9))) w := fun p w => by kernel_rfl
theorem fa_38_5 : ∀ p w, (Instr.fieldAt 38 (.pointer (some p)) 5).run Try.prog w = .ok (.pointer (some (p.add 41))) w := fun p w => by kernel_rfl
theorem fa_38_6 : ∀ p w, (Instr.fieldAt 38 (.pointer (some p)) 6).run Try.prog w = .ok (.pointer (some (p.add 42))) w := fun p w => by kernel_rfl
theorem fa_38_7 : ∀ p w, (Instr.fieldAt 38 (.pointer (some p)) 7).run Try.prog w = .ok (.pointer (some (p.add 43))) w := fun p w => by kernel_rfl
theorem fa_38_8 : ∀ p w, (Instr.fieldAt 38 (.pointer (some p)) 8).run Try.prog w = .ok (.pointer (some (p.add 44))) w := fun p w => by kernel_rfl
theorem fa_42_0 : ∀ p w, (Instr.fieldAt 42 (.pointer (some p)) 0).run Try.prog w = .ok (.pointer (some (p.add 0))) w := fun p w => by kernel_rfl
theorem fa_42_1 : ∀ p w, (Instr.fieldAt 42 (.pointer (some p)) 1).run Try.prog w = .ok (.pointer (some (p.add 1))) w := fun p w => by kernel_rfl
theorem fa_42_2 : ∀ p w, (Instr.fieldAt 42 (.pointer (some p)) 2).run Try.prog w = .ok (.pointer (some (p.add 2))) w := fun p w => by kernel_rfl
theorem fa_44_0 : ∀ p w, (Instr.fieldAt 44 (.pointer (some p)) 0).run Try.prog w = .ok (.pointer (some (p.add 0))) w := fun p w => by kernel_rfl
theorem fa_44_1 : ∀ p w, (Instr.fieldAt 44 (.pointer (some p)) 1).run Try.prog w = .ok (.pointer (some (p.add 3))) w := fun p w => by kernel_rfl
theorem fa_44_2 : ∀ p w, (Instr.fieldAt 44 (.pointer (some p)) 2).run Try.prog w = .ok (.pointer (some (p.add 4))) w := fun p w => by kernel_rfl
theorem fa_44_3 : ∀ p w, (Instr.fieldAt 44 (.pointer (some p)) 3).run Try.prog w = .ok (.pointer (some (p.add 5))) w := fun p w => by kernel_rfl
theorem fa_44_4 : ∀ p w, (Instr.fieldAt 44 (.pointer (some p)) 4).run Try.prog w = .ok (.pointer (some (p.add 6))) w := fun p w => by kernel_rfl
theorem fa_44_5 : ∀ p w, (Instr.fieldAt 44 (.pointer (some p)) 5).run Try.prog w = .ok (.pointer (some (p.add 7))) w := fun p w => by kernel_rfl
theorem fa_44_6 : ∀ p w, (Instr.fieldAt 44 (.pointer (some p)) 6).run Try.prog w = .ok (.pointer (some (p.add 8))) w := fun p w => by kernel_rfl
theorem fa_44_7 : ∀ p w, (Instr.fieldAt 44 (.pointer (some p)) 7).run Try.prog w = .ok (.pointer (some (p.add 9))) w := fun p w => by kernel_rfl
theorem fa_46_0 : ∀ p w, (Instr.fieldAt 46 (.pointer (some p)) 0).run Try.prog w = .ok (.pointer (some (p.add 0))) w := fun p w => by kernel_rfl
theorem fa_46_1 : ∀ p w, (Instr.fieldAt 46 (.pointer (some p)) 1).run Try.prog w = .ok (.pointer (some (p.add 1))) w := fun p w => by kernel_rfl
theorem fa_46_3 : ∀ p w, (Instr.fieldAt 46 (.pointer (some p)) 3).run Try.prog w = .ok (.pointer (some (p.add 34))) w := fun p w => by kernel_rfl
theorem fa_46_4 : ∀ p w, (Instr.fieldAt 46 (.pointer (some p)) 4).run Try.prog w = .ok (.pointer (some (p.add 35))) w := fun p w => by kernel_rfl
theorem fa_46_5 : ∀ p w, (Instr.fieldAt 46 (.pointer (some p)) 5).run Try.prog w = .ok (.pointer (some (p.add 36))) w := fun p w => by kernel_rfl
theorem fa_46_6 : ∀ p w, (Instr.fieldAt 46 (.pointer (some p)) 6).run Try.prog w = .ok (.pointer (some (p.add 37))) w := fun p w => by kernel_rfl
theorem fa_46_7 : ∀ p w, (Instr.fieldAt 46 (.pointer (some p)) 7).run Try.prog w = .ok (.pointer (some (p.add 38))) w := fun p w => by kernel_rfl
theorem fa_53_0 : ∀ p w, (Instr.fieldAt 53 (.pointer (some p)) 0).run Try.prog w = .ok (.pointer (some (p.add 0))) w := fun p w => by kernel_rfl
theorem fa_53_1 : ∀ p w, (Instr.fieldAt 53 (.pointer (some p)) 1).run Try.prog w = .ok (.pointer (some (p.add 1))) w := fun p w => by kernel_rfl
theorem fa_53_2 : ∀ p w, (Instr.fieldAt 53 (.pointer (some p)) 2).run Try.prog w = .ok (.pointer (some (p.add 2))) w := fun p w => by kernel_rfl
theorem fa_55_0 : ∀ p w, (Instr.fieldAt 55 (.pointer (some p)) 0).run Try.prog w = .ok (.pointer (some (p.add 0))) w := fun p w => by kernel_rfl
theorem fa_55_1 : ∀ p w, (Instr.fieldAt 55 (.pointer (some p)) 1).run Try.prog w = .ok (.pointer (some (p.add 3))) w := fun p w => by kernel_rfl
theorem fa_55_2 : ∀ p w, (Instr.fieldAt 55 (.pointer (some p)) 2).run Try.prog w = .ok (.pointer (some (p.add 4))) w := fun p w => by kernel_rfl
theorem fa_55_3 : ∀ p w, (Instr.fieldAt 55 (.pointer (some p)) 3).run Try.prog w = .ok (.pointer (some (p.add 5))) w := fun p w => by kernel_rfl
theorem fa_55_4 : ∀ p w, (Instr.fieldAt 55 (.pointer (some p)) 4).run Try.prog w = .ok (.pointer (some (p.add 6))) w := fun p w => by kernel_rfl
theorem fa_55_5 : ∀ p w, (Instr.fieldAt 55 (.pointer (some p)) 5).run Try.prog w = .ok (.pointer (some (p.add 7))) w := fun p w => by kernel_rfl
theorem fa_55_6 : ∀ p w, (Instr.fieldAt 55 (.pointer (some p)) 6).run Try.prog w = .ok (.pointer (some (p.add 8))) w := fun p w => by kernel_rfl
theorem fa_55_7 : ∀ p w, (Instr.fieldAt 55 (.pointer (some p)) 7).run Try.prog w = .ok (.pointer (some (p.add 9))) w := fun p w => by kernel_rfl
theorem fa_57_0 : ∀ p w, (Instr.fieldAt 57 (.pointer (some p)) 0).run Try.prog w = .ok (.pointer (some (p.add 0))) w := fun p w => by kernel_rfl
theorem fa_57_1 : ∀ p w, (Instr.fieldAt 57 (.pointer (some p)) 1).run Try.prog w = .ok (.pointer (some (p.add 1))) w := fun p w => by kernel_rfl
theorem fa_57_2 : ∀ p w, (Instr.fieldAt 57 (.pointer (some p)) 2).run Try.prog w = .ok (.pointer (some (p.add 2))) w := fun p w => by kernel_rfl
theorem fa_57_3 : ∀ p w, (Instr.fieldAt 57 (.pointer (some p)) 3).run Try.prog w = .ok (.pointer (some (p.add 34))) w := fun p w => by kernel_rfl
theorem fa_57_4 : ∀ p w, (Instr.fieldAt 57 (.pointer (some p)) 4).run Try.prog w = .ok (.pointer (some (p.add 35))) w := fun p w => by kernel_rfl
theorem fa_57_5 : ∀ p w, (Instr.fieldAt 57 (.pointer (some p)) 5).run Try.prog w = .ok (.pointer (some (p.add 36))) w := fun p w => by kernel_rfl
theorem fa_57_6 : ∀ p w, (Instr.fieldAt 57 (.pointer (some p)) 6).run Try.prog w = .ok (.pointer (some (p.add 37))) w := fun p w => by kernel_rfl
theorem fa_57_7 : ∀ p w, (Instr.fieldAt 57 (.pointer (some p)) 7).run Try.prog w = .ok (.pointer (some (p.add 38))) w := fun p w => by kernel_rfl
theorem fa_66_0 : ∀ p w, (Instr.fieldAt 66 (.pointer (some p)) 0).run Try.prog w = .ok (.pointer (some (p.add 0))) w := fun p w => by kernel_rfl
theorem fa_66_1 : ∀ p w, (Instr.fieldAt 66 (.pointer (some p)) 1).run Try.prog w = .ok (.pointer (some (p.add 3))) w := fun p w => by kernel_rfl
theorem fa_66_2 : ∀ p w, (Instr.fieldAt 66 (.pointer (some p)) 2).run Try.prog w = .ok (.pointer (some (p.add 4))) w := fun p w => by kernel_rfl
theorem fa_70_0 : ∀ p w, (Instr.fieldAt 70 (.pointer (some p)) 0).run Try.prog w = .ok (.pointer (some (p.add 0))) w := fun p w => by kernel_rfl
theorem fa_70_1 : ∀ p w, (Instr.fieldAt 70 (.pointer (some p)) 1).run Try.prog w = .ok (.pointer (some (p.add 3))) w := fun p w => by kernel_rfl
theorem fa_70_2 : ∀ p w, (Instr.fieldAt 70 (.pointer (some p)) 2).run Try.prog w = .ok (.pointer (some (p.add 4))) w := fun p w => by kernel_rfl
theorem fa_81_0 : ∀ p w, (Instr.fieldAt 81 (.pointer (some p)) 0).run Try.prog w = .ok (.pointer (some (p.add 0))) w := fun p w => by kernel_rfl
theorem fa_81_1 : ∀ p w, (Instr.fieldAt 81 (.pointer (some p)) 1).run Try.prog w = .ok (.pointer (some (p.add 32))) w := fun p w => by kernel_rfl
theorem fa_81_2 : ∀ p w, (Instr.fieldAt 81 (.pointer (some p)) 2).run Try.prog w = .ok (.pointer (some (p.add 64))) w := fun p w => by kernel_rfl
theorem fa_81_3 : ∀ p w, (Instr.fieldAt 81 (.pointer (some p)) 3).run Try.prog w = .ok (.pointer (some (p.add 65))) w := fun p w => by kernel_rfl
theorem fa_83_0 : ∀ p w, (Instr.fieldAt 83 (.pointer (some p)) 0).run Try.prog w = .ok (.pointer (some (p.add 0))) w := fun p w => by kernel_rfl
theorem fa_83_1 : ∀ p w, (Instr.fieldAt 83 (.pointer (some p)) 1).run Try.prog w = .ok (.pointer (some (p.add 1))) w := fun p w => by kernel_rfl
theorem fa_83_2 : ∀ p w, (Instr.fieldAt 83 (.pointer (some p)) 2).run Try.prog w = .ok (.pointer (some (p.add 2))) w := fun p w => by kernel_rfl
theorem fa_83_3 : ∀ p w, (Instr.fieldAt 83 (.pointer (some p)) 3).run Try.prog w = .ok (.pointer (some (p.add 3))) w := fun p w => by kernel_rfl
theorem fa_87_0 : ∀ p w, (Instr.fieldAt 87 (.pointer (some p)) 0).run Try.prog w = .ok (.pointer (some (p.add 0))) w := fun p w => by kernel_rfl
theorem fa_87_1 : ∀ p w, (Instr.fieldAt 87 (.pointer (some p)) 1).run Try.prog w = .ok (.pointer (some (p.add 1))) w := fun p w => by kernel_rfl
theorem fa_87_2 : ∀ p w, (Instr.fieldAt 87 (.pointer (some p)) 2).run Try.prog w = .ok (.pointer (some (p.add 2))) w := fun p w => by kernel_rfl
theorem fa_87_3 : ∀ p w, (Instr.fieldAt 87 (.pointer (some p)) 3).run Try.prog w = .ok (.pointer (some (p.add 3))) w := fun p w => by kernel_rfl
theorem fa_93_0 : ∀ p w, (Instr.fieldAt 93 (.pointer (some p)) 0).run Try.prog w = .ok (.pointer (some (p.add 0))) w := fun p w => by kernel_rfl
theorem fa_93_1 : ∀ p w, (Instr.fieldAt 93 (.pointer (some p)) 1).run Try.prog w = .ok (.pointer (some (p.add 32))) w := fun p w => by kernel_rfl
theorem fa_93_2 : ∀ p w, (Instr.fieldAt 93 (.pointer (some p)) 2).run Try.prog w = .ok (.pointer (some (p.add 64))) w := fun p w => by kernel_rfl
theorem fa_93_3 : ∀ p w, (Instr.fieldAt 93 (.pointer (some p)) 3).run Try.prog w = .ok (.pointer (some (p.add 65))) w := fun p w => by kernel_rfl
theorem fa_105_0 : ∀ p w, (Instr.fieldAt 105 (.pointer (some p)) 0).run Try.prog w = .ok (.pointer (some (p.add 0))) w := fun p w => by kernel_rfl
theorem fa_105_1 : ∀ p w, (Instr.fieldAt 105 (.pointer (some p)) 1).run Try.prog w = .ok (.pointer (some (p.add 1))) w := fun p w => by kernel_rfl
theorem fa_105_2 : ∀ p w, (Instr.fieldAt 105 (.pointer (some p)) 2).run Try.prog w = .ok (.pointer (some (p.add 2))) w := fun p w => by kernel_rfl
theorem fa_105_3 : ∀ p w, (Instr.fieldAt 105 (.pointer (some p)) 3).run Try.prog w = .ok (.pointer (some (p.add 3))) w := fun p w => by kernel_rfl
theorem fa_106_0 : ∀ p w, (Instr.fieldAt 106 (.pointer (some p)) 0).run Try.prog w = .ok (.pointer (some (p.add 0))) w := fun p w => by kernel_rfl
theorem fa_106_1 : ∀ p w, (Instr.fieldAt 106 (.pointer (some p)) 1).run Try.prog w = .ok (.pointer (some (p.add 1))) w := fun p w => by kernel_rfl
theorem fa_106_2 : ∀ p w, (Instr.fieldAt 106 (.pointer (some p)) 2).run Try.prog w = .ok (.pointer (some (p.add 2))) w := fun p w => by kernel_rfl
theorem fa_106_3 : ∀ p w, (Instr.fieldAt 106 (.pointer (some p)) 3).run Try.prog w = .ok (.pointer (some (p.add 3))) w := fun p w => by kernel_rfl
theorem fa_130_0 : ∀ p w, (Instr.fieldAt 130 (.pointer (some p)) 0).run Try.prog w = .ok (.pointer (some (p.add 0))) w := fun p w => by kernel_rfl
theorem fa_130_1 : ∀ p w, (Instr.fieldAt 130 (.pointer (some p)) 1).run Try.prog w = .ok (.pointer (some (p.add 1))) w := fun p w => by kernel_rfl
theorem fa_130_2 : ∀ p w, (Instr.fieldAt 130 (.pointer (some p)) 2).run Try.prog w = .ok (.pointer (some (p.add 2))) w := fun p w => by kernel_rfl
theorem fa_130_3 : ∀ p w, (Instr.fieldAt 130 (.pointer (some p)) 3).run Try.prog w = .ok (.pointer (some (p.add 3))) w := fun p w => by kernel_rfl
theorem fa_132_0 : ∀ p w, (Instr.fieldAt 132 (.pointer (some p)) 0).run Try.prog w = .ok (.pointer (some (p.add 0))) w := fun p w => by kernel_rfl
theorem fa_132_1 : ∀ p w, (Instr.fieldAt 132 (.pointer (some p)) 1).run Try.prog w = .ok (.pointer (some (p.add 1))) w := fun p w => by kernel_rfl
theorem fa_132_2 : ∀ p w, (Instr.fieldAt 132 (.pointer (some p)) 2).run Try.prog w = .ok (.pointer (some (p.add 2))) w := fun p w => by kernel_rfl
theorem fa_132_3 : ∀ p w, (Instr.fieldAt 132 (.pointer (some p)) 3).run Try.prog w = .ok (.pointer (some (p.add 3))) w := fun p w => by kernel_rfl
theorem fa_133_0 : ∀ p w, (Instr.fieldAt 133 (.pointer (some p)) 0).run Try.prog w = .ok (.pointer (some (p.add 0))) w := fun p w => by kernel_rfl
theorem fa_133_1 : ∀ p w, (Instr.fieldAt 133 (.pointer (some p)) 1).run Try.prog w = .ok (.pointer (some (p.add 1))) w := fun p w => by kernel_rfl
theorem fa_133_2 : ∀ p w, (Instr.fieldAt 133 (.pointer (some p)) 2).run Try.prog w = .ok (.pointer (some (p.add 2))) w := fun p w => by kernel_rfl
theorem fa_133_3 : ∀ p w, (Instr.fieldAt 133 (.pointer (some p)) 3).run Try.prog w = .ok (.pointer (some (p.add 3))) w := fun p w => by kernel_rfl
theorem fa_135_0 : ∀ p w, (Instr.fieldAt 135 (.pointer (some p)) 0).run Try.prog w = .ok (.pointer (some (p.add 0))) w := fun p w => by kernel_rfl
theorem fa_135_1 : ∀ p w, (Instr.fieldAt 135 (.pointer (some p)) 1).run Try.prog w = .ok (.pointer (some (p.add 1))) w := fun p w => by kernel_rfl
theorem fa_135_2 : ∀ p w, (Instr.fieldAt 135 (.pointer (some p)) 2).run Try.prog w = .ok (.pointer (some (p.add 2))) w := fun p w => by kernel_rfl
theorem fa_135_3 : ∀ p w, (Instr.fieldAt 135 (.pointer (some p)) 3).run Try.prog w = .ok (.pointer (some (p.add 3))) w := fun p w => by kernel_rfl
theorem fa_145_0 : ∀ p w, (Instr.fieldAt 145 (.pointer (some p)) 0).run Try.prog w = .ok (.pointer (some (p.add 0))) w := fun p w => by kernel_rfl
theorem fa_145_1 : ∀ p w, (Instr.fieldAt 145 (.pointer (some p)) 1).run Try.prog w = .ok (.pointer (some (p.add 1))) w := fun p w => by kernel_rfl
theorem fa_145_2 : ∀ p w, (Instr.fieldAt 145 (.pointer (some p)) 2).run Try.prog w = .ok (.pointer (some (p.add 2))) w := fun p w => by kernel_rfl
theorem fa_171_5 : ∀ p w, (Instr.fieldAt 171 (.pointer (some p)) 5).run Try.prog w = .ok (.pointer (some (p.add 20))) w := fun p w => by kernel_rfl
theorem fa_202_0 : ∀ p w, (Instr.fieldAt 202 (.pointer (some p)) 0).run Try.prog w = .ok (.pointer (some (p.add 0))) w := fun p w => by kernel_rfl
theorem fa_202_1 : ∀ p w, (Instr.fieldAt 202 (.pointer (some p)) 1).run Try.prog w = .ok (.pointer (some (p.add 1))) w := fun p w => by kernel_rfl
theorem fa_222_0 : ∀ p w, (Instr.fieldAt 222 (.pointer (some p)) 0).run Try.prog w = .ok (.pointer (some (p.add 0))) w := fun p w => by kernel_rfl
theorem fa_222_1 : ∀ p w, (Instr.fieldAt 222 (.pointer (some p)) 1).run Try.prog w = .ok (.pointer (some (p.add 1))) w := fun p w => by kernel_rfl
theorem fa_222_2 : ∀ p w, (Instr.fieldAt 222 (.pointer (some p)) 2).run Try.prog w = .ok (.pointer (some (p.add 2))) w := fun p w => by kernel_rfl
theorem fa_224_0 : ∀ p w, (Instr.fieldAt 224 (.pointer (some p)) 0).run Try.prog w = .ok (.pointer (some (p.add 0))) w := fun p w => by kernel_rfl
theorem fa_224_1 : ∀ p w, (Instr.fieldAt 224 (.pointer (some p)) 1).run Try.prog w = .ok (.pointer (some (p.add 3))) w := fun p w => by kernel_rfl
theorem fa_224_2 : ∀ p w, (Instr.fieldAt 224 (.pointer (some p)) 2).run Try.prog w = .ok (.pointer (some (p.add 35))) w := fun p w => by kernel_rfl
theorem fa_224_3 : ∀ p w, (Instr.fieldAt 224 (.pointer (some p)) 3).run Try.prog w = .ok (.pointer (some (p.add 67))) w := fun p w => by kernel_rfl
theorem fa_260_0 : ∀ p w, (Instr.fieldAt 260 (.pointer (some p)) 0).run Try.prog w = .ok (.pointer (some (p.add 0))) w := fun p w => by kernel_rfl
theorem fa_260_1 : ∀ p w, (Instr.fieldAt 260 (.pointer (some p)) 1).run Try.prog w = .ok (.pointer (some (p.add 8))) w := fun p w => by kernel_rfl
theorem fa_260_2 : ∀ p w, (Instr.fieldAt 260 (.pointer (some p)) 2).run Try.prog w = .ok (.pointer (some (p.add 9))) w := fun p w => by kernel_rfl
theorem fa_260_3 : ∀ p w, (Instr.fieldAt 260 (.pointer (some p)) 3).run Try.prog w = .ok (.pointer (some (p.add 10))) w := fun p w => by kernel_rfl
theorem pl_28 : StrT Try.prog 28 #[(0, 1), (1, 1), (2, 1), (3, 1)] := ⟨_, Try.runUnderlying28, fun w => by kernel_rfl⟩
theorem pl_33 : StrT Try.prog 33 #[(0, 1), (1, 3), (4, 1), (5, 4), (9, 32), (41, 1), (42, 1), (43, 1), (44, 1)] := ⟨_, Try.runUnderlying33, fun w => by kernel_rfl⟩
theorem pl_36 : StrT Try.prog 36 #[(0, 1), (1, 1), (2, 1), (3, 1)] := ⟨_, Try.runUnderlying36, fun w => by kernel_rfl⟩
theorem pl_38 : StrT Try.prog 38 #[(0, 1), (1, 3), (4, 1), (5, 4), (9, 32), (41, 1), (42, 1), (43, 1), (44, 1)] := ⟨_, Try.runUnderlying38, fun w => by kernel_rfl⟩
theorem pl_42 : StrT Try.prog 42 #[(0, 1), (1, 1), (2, 1)] := ⟨_, Try.runUnderlying42, fun w => by kernel_rfl⟩
theorem pl_44 : StrT Try.prog 44 #[(0, 3), (3, 1), (4, 1), (5, 1), (6, 1), (7, 1), (8, 1), (9, 1)] := ⟨_, Try.runUnderlying44, fun w => by kernel_rfl⟩
theorem pl_46 : StrT Try.prog 46 #[(0, 1), (1, 1), (2, 32), (34, 1), (35, 1), (36, 1), (37, 1), (38, 10)] := ⟨_, Try.runUnderlying46, fun w => by kernel_rfl⟩
theorem pl_53 : StrT Try.prog 53 #[(0, 1), (1, 1), (2, 1)] := ⟨_, Try.runUnderlying53, fun w => by kernel_rfl⟩
theorem pl_55 : StrT Try.prog 55 #[(0, 3), (3, 1), (4, 1), (5, 1), (6, 1), (7, 1), (8, 1), (9, 1)] := ⟨_, Try.runUnderlying55, fun w => by kernel_rfl⟩
theorem pl_57 : StrT Try.prog 57 #[(0, 1), (1, 1), (2, 32), (34, 1), (35, 1), (36, 1), (37, 1), (38, 10)] := ⟨_, Try.runUnderlying57, fun w => by kernel_rfl⟩
theorem pl_66 : StrT Try.prog 66 #[(0, 3), (3, 1), (4, 1)] := ⟨_, Try.runUnderlying66, fun w => by kernel_rfl⟩
theorem pl_70 : StrT Try.prog 70 #[(0, 3), (3, 1), (4, 1)] := ⟨_, Try.runUnderlying70, fun w => by kernel_rfl⟩
theorem pl_81 : StrT Try.prog 81 #[(0, 32), (32, 32), (64, 1), (65, 1)] := ⟨_, Try.runUnderlying81, fun w => by kernel_rfl⟩
theorem pl_83 : StrT Try.prog 83 #[(0, 1), (1, 1), (2, 1), (3, 1)] := ⟨_, Try.runUnderlying83, fun w => by kernel_rfl⟩
theorem pl_87 : StrT Try.prog 87 #[(0, 1), (1, 1), (2, 1), (3, 1)] := ⟨_, Try.runUnderlying87, fun w => by kernel_rfl⟩
theorem pl_93 : StrT Try.prog 93 #[(0, 32), (32, 32), (64, 1), (65, 1)] := ⟨_, Try.runUnderlying93, fun w => by kernel_rfl⟩
theorem pl_105 : StrT Try.prog 105 #[(0, 1), (1, 1), (2, 1), (3, 1)] := ⟨_, Try.runUnderlying105, fun w => by kernel_rfl⟩
theorem pl_106 : StrT Try.prog 106 #[(0, 1), (1, 1), (2, 1), (3, 1)] := ⟨_, Try.runUnderlying106, fun w => by kernel_rfl⟩
theorem pl_130 : StrT Try.prog 130 #[(0, 1), (1, 1), (2, 1), (3, 1)] := ⟨_, Try.runUnderlying130, fun w => by kernel_rfl⟩
theorem pl_132 : StrT Try.prog 132 #[(0, 1), (1, 1), (2, 1), (3, 4)] := ⟨_, Try.runUnderlying132, fun w => by kernel_rfl⟩
theorem pl_133 : StrT Try.prog 133 #[(0, 1), (1, 1), (2, 1), (3, 1)] := ⟨_, Try.runUnderlying133, fun w => by kernel_rfl⟩
theorem pl_135 : StrT Try.prog 135 #[(0, 1), (1, 1), (2, 1), (3, 4)] := ⟨_, Try.runUnderlying135, fun w => by kernel_rfl⟩
theorem pl_145 : StrT Try.prog 145 #[(0, 1), (1, 1), (2, 1)] := ⟨_, Try.runUnderlying145, fun w => by kernel_rfl⟩
theorem pl_162 : StrT Try.prog 162 #[(0, 1), (1, 1), (2, 24)] := ⟨_, Try.runUnderlying162, fun w => by kernel_rfl⟩
theorem pl_167 : StrT Try.prog 167 #[(0, 9), (9, 1)] := ⟨_, Try.runUnderlying167, fun w => by kernel_rfl⟩
theorem pl_171 : StrT Try.prog 171 #[(0, 3), (3, 3), (6, 3), (9, 1), (10, 10), (20, 1), (21, 1), (22, 1), (23, 1), (24, 1)] := ⟨_, Try.runUnderlying171, fun w => by kernel_rfl⟩
theorem pl_176 : StrT Try.prog 176 #[(0, 7), (7, 4), (11, 1)] := ⟨_, Try.runUnderlying176, fun w => by kernel_rfl⟩
theorem pl_182 : StrT Try.prog 182 #[(0, 1), (1, 1), (2, 24)] := ⟨_, Try.runUnderlying182, fun w => by kernel_rfl⟩
theorem pl_195 : StrT Try.prog 195 #[(0, 10), (10, 1), (11, 1), (12, 1), (13, 1)] := ⟨_, Try.runUnderlying195, fun w => by kernel_rfl⟩
theorem pl_202 : StrT Try.prog 202 #[(0, 1), (1, 1)] := ⟨_, Try.runUnderlying202, fun w => by kernel_rfl⟩
theorem pl_222 : StrT Try.prog 222 #[(0, 1), (1, 1), (2, 1)] := ⟨_, Try.runUnderlying222, fun w => by kernel_rfl⟩
theorem pl_224 : StrT Try.prog 224 #[(0, 3), (3, 32), (35, 32), (67, 1)] := ⟨_, Try.runUnderlying224, fun w => by kernel_rfl⟩
theorem pl_235 : StrT Try.prog 235 #[(0, 1), (1, 1), (2, 24), (26, 24)] := ⟨_, Try.runUnderlying235, fun w => by kernel_rfl⟩
theorem pl_240 : StrT Try.prog 240 #[(0, 1), (1, 1), (2, 40)] := ⟨_, Try.runUnderlying240, fun w => by kernel_rfl⟩
theorem pl_245 : StrT Try.prog 245 #[(0, 1), (1, 1), (2, 1), (3, 40)] := ⟨_, Try.runUnderlying245, fun w => by kernel_rfl⟩
theorem pl_260 : StrT Try.prog 260 #[(0, 8), (8, 1), (9, 1), (10, 1)] := ⟨_, Try.runUnderlying260, fun w => by kernel_rfl⟩
theorem pl_285 : StrT Try.prog 285 #[(0, 1), (1, 3), (4, 1), (5, 1), (6, 1)] := ⟨_, Try.runUnderlying285, fun w => by kernel_rfl⟩
theorem pl_298 : StrT Try.prog 298 #[(0, 1), (1, 1), (2, 1)] := ⟨_, Try.runUnderlying298, fun w => by kernel_rfl⟩
theorem pl_301 : StrT Try.prog 301 #[(0, 1), (1, 1), (2, 1)] := ⟨_, Try.runUnderlying301, fun w => by kernel_rfl⟩
theorem pl_306 : StrT Try.prog 306 #[(0, 1), (1, 1), (2, 1), (3, 40)] := ⟨_, Try.runUnderlying306, fun w => by kernel_rfl⟩
theorem el_22 : ElemT Try.prog 22 3 1 8 := ⟨by kernel_rfl, ⟨Try.t3, _, by kernel_rfl, (by first | exact rfl | kernel_rfl), by kernel_rfl, by kernel_rfl, by kernel_rfl⟩, by decide⟩
theorem el_23 : ElemT Try.prog 23 57 48 160 := ⟨by kernel_rfl, ⟨Try.t57, _, by kernel_rfl, (by first | exact rfl | kernel_rfl), by kernel_rfl, by kernel_rfl, by kernel_rfl⟩, by decide⟩
theorem el_35 : ElemT Try.prog 35 46 48 160 := ⟨by kernel_rfl, ⟨Try.t46, _, by kernel_rfl, (by first | exact rfl | kernel_rfl), by kernel_rfl, by kernel_rfl, by kernel_rfl⟩, by decide⟩
theorem el_64 : ElemT Try.prog 64 132 7 56 := ⟨by kernel_rfl, ⟨Try.t132, _, by kernel_rfl, (by first | exact rfl | kernel_rfl), by kernel_rfl, by kernel_rfl, by kernel_rfl⟩, by decide⟩
theorem el_68 : ElemT Try.prog 68 135 7 56 := ⟨by kernel_rfl, ⟨Try.t135, _, by kernel_rfl, (by first | exact rfl | kernel_rfl), by kernel_rfl, by kernel_rfl, by kernel_rfl⟩, by decide⟩
theorem el_79 : ElemT Try.prog 79 83 4 32 := ⟨by kernel_rfl, ⟨Try.t83, _, by kernel_rfl, (by first | exact rfl | kernel_rfl), by kernel_rfl, by kernel_rfl, by kernel_rfl⟩, by decide⟩
theorem el_91 : ElemT Try.prog 91 87 4 32 := ⟨by kernel_rfl, ⟨Try.t87, _, by kernel_rfl, (by first | exact rfl | kernel_rfl), by kernel_rfl, by kernel_rfl, by kernel_rfl⟩, by decide⟩
theorem el_97 : ElemT Try.prog 97 105 4 32 := ⟨by kernel_rfl, ⟨Try.t105, _, by kernel_rfl, (by first | exact rfl | kernel_rfl), by kernel_rfl, by kernel_rfl, by kernel_rfl⟩, by decide⟩
theorem el_99 : ElemT Try.prog 99 106 4 32 := ⟨by kernel_rfl, ⟨Try.t106, _, by kernel_rfl, (by first | exact rfl | kernel_rfl), by kernel_rfl, by kernel_rfl, by kernel_rfl⟩, by decide⟩
theorem el_137 : ElemT Try.prog 137 5 1 1 := ⟨by kernel_rfl, ⟨Try.t5, _, by kernel_rfl, (by first | exact rfl | kernel_rfl), by kernel_rfl, by kernel_rfl, by kernel_rfl⟩, by decide⟩
theorem el_253 : ElemT Try.prog 253 207 1 4 := ⟨by kernel_rfl, ⟨Try.t207, _, by kernel_rfl, (by first | exact rfl | kernel_rfl), by kernel_rfl, by kernel_rfl, by kernel_rfl⟩, by decide⟩
end Go.Proofs.Ytbdnebedmdoehaa
