/- The facts on types that the walks want, by program. -/
import Derived.Test.YtcnefidknaobhaaGreatPD
import Derived.Test.YtcnefidknaobhaaGreatProg
import Derived.KernelRfl
set_option linter.unusedVariables false
set_option linter.unusedSimpArgs false
namespace Go.Proofs.YtcnefidknaobhaaGreat
open Go.PK
theorem mixed : Tryz.prog.follows .mixedOrders = true := by kernel_rfl
theorem fa_30_0 : ∀ p w, (Instr.fieldAt 30 (.pointer (some p)) 0).run Tryz.prog w = .ok (.pointer (some (p.add 0))) w := fun p w => by kernel_rfl
theorem fa_30_1 : ∀ p w, (Instr.fieldAt 30 (.pointer (some p)) 1).run Tryz.prog w = .ok (.pointer (some (p.add 1))) w := fun p w => by kernel_rfl
theorem fa_30_2 : ∀ p w, (Instr.fieldAt 30 (.pointer (some p)) 2).run Tryz.prog w = .ok (.pointer (some (p.add 2))) w := fun p w => by kernel_rfl
theorem fa_30_3 : ∀ p w, (Instr.fieldAt 30 (.pointer (some p)) 3).run Tryz.prog w = .ok (.pointer (some (p.add 3))) w := fun p w => by kernel_rfl
theorem fa_35_0 : ∀ p w, (Instr.fieldAt 35 (.pointer (some p)) 0).run Tryz.prog w = .ok (.pointer (some (p.add 0))) w := fun p w => by kernel_rfl
theorem fa_35_1 : ∀ p w, (Instr.fieldAt 35 (.pointer (some p)) 1).run Tryz.prog w = .ok (.pointer (some (p.add 1))) w := fun p w => by kernel_rfl
theorem fa_35_2 : ∀ p w, (Instr.fieldAt 35 (.pointer (some p)) 2).run Tryz.prog w = .ok (.pointer (some (p.add 4))) w := fun p w => by kernel_rfl
theorem fa_35_3 : ∀ p w, (Instr.fieldAt 35 (.pointer (some p)) 3).run Tryz.prog w = .ok (.pointer (some (p.add 5))) w := fun p w => by kernel_rfl
theorem fa_35_4 : ∀ p w, (Instr.fieldAt 35 (.pointer (some p)) 4).run Tryz.prog w = .ok (.pointer (some (p.add 9))) w := fun p w => by kernel_rfl
theorem fa_35_5 : ∀ p w, (Instr.fieldAt 35 (.pointer (some p)) 5).run Tryz.prog w = .ok (.pointer (some (p.add 41))) w := fun p w => by kernel_rfl
theorem fa_35_6 : ∀ p w, (Instr.fieldAt 35 (.pointer (some p)) 6).run Tryz.prog w = .ok (.pointer (some (p.add 42))) w := fun p w => by kernel_rfl
theorem fa_35_7 : ∀ p w, (Instr.fieldAt 35 (.pointer (some p)) 7).run Tryz.prog w = .ok (.pointer (some (p.add 43))) w := fun p w => by kernel_rfl
theorem fa_35_8 : ∀ p w, (Instr.fieldAt 35 (.pointer (some p)) 8).run Tryz.prog w = .ok (.pointer (some (p.add 44))) w := fun p w => by kernel_rfl
theorem fa_45_0 : ∀ p w, (Instr.fieldAt 45 (.pointer (some p)) 0).run Tryz.prog w = .ok (.pointer (some (p.add 0))) w := fun p w => by kernel_rfl
theorem fa_45_1 : ∀ p w, (Instr.fieldAt 45 (.pointer (some p)) 1).run Tryz.prog w = .ok (.pointer (some (p.add 1))) w := fun p w => by kernel_rfl
theorem fa_48_0 : ∀ p w, (Instr.fieldAt 48 (.pointer (some p)) 0).run Tryz.prog w = .ok (.pointer (some (p.add 0))) w := fun p w => by kernel_rfl
theorem fa_48_1 : ∀ p w, (Instr.fieldAt 48 (.pointer (some p)) 1).run Tryz.prog w = .ok (.pointer (some (p.add 1))) w := fun p w => by kernel_rfl
theorem fa_48_2 : ∀ p w, (Instr.fieldAt 48 (.pointer (some p)) 2).run Tryz.prog w = .ok (.pointer (some (p.add 17))) w := fun p w => by kernel_rfl
theorem fa_48_3 : ∀ p w, (Instr.fieldAt 48 (.pointer (some p)) 3).run Tryz.prog w = .ok (.pointer (some (p.add 18))) w := fun p w => by kernel_rfl
theorem fa_52_0 : ∀ p w, (Instr.fieldAt 52 (.pointer (some p)) 0).run Tryz.prog w = .ok (.pointer (some (p.add 0))) w := fun p w => by kernel_rfl
theorem fa_52_1 : ∀ p w, (Instr.fieldAt 52 (.pointer (some p)) 1).run Tryz.prog w = .ok (.pointer (some (p.add 45))) w := fun p w => by kernel_rfl
theorem fa_52_2 : ∀ p w, (Instr.fieldAt 52 (.pointer (some p)) 2).run Tryz.prog w = .ok (.pointer (some (p.add 46))) w := fun p w => by kernel_rfl
theorem fa_52_3 : ∀ p w, (Instr.fieldAt 52 (.pointer (some p)) 3).run Tryz.prog w = .ok (.pointer (some (p.add 47))) w := fun p w => by kernel_rfl
theorem fa_52_4 : ∀ p w, (Instr.fieldAt 52 (.pointer (some p)) 4).run Tryz.prog w = .ok (.pointer (some (p.add 48))) w := fun p w => by kernel_rfl
theorem fa_52_5 : ∀ p w, (Instr.fieldAt 52 (.pointer (some p)) 5).run Tryz.prog w = .ok (.pointer (some (p.add 49))) w := fun p w => by kernel_rfl
theorem fa_52_6 : ∀ p w, (Instr.fieldAt 52 (.pointer (some p)) 6).run Tryz.prog w = .ok (.pointer (some (p.add 50))) w := fun p w => by kernel_rfl
theorem fa_52_7 : ∀ p w, (Instr.fieldAt 52 (.pointer (some p)) 7).run Tryz.prog w = .ok (.pointer (some (p.add 51))) w := fun p w => by kernel_rfl
theorem fa_52_8 : ∀ p w, (Instr.fieldAt 52 (.pointer (some p)) 8).run Tryz.prog w = .ok (.pointer (some (p.add 52))) w := fun p w => by kernel_rfl
theorem fa_52_9 : ∀ p w, (Instr.fieldAt 52 (.pointer (some p)) 9).run Tryz.prog w = .ok (.pointer (some (p.add 53))) w := fun p w => by kernel_rfl
theorem fa_52_10 : ∀ p w, (Instr.fieldAt 52 (.pointer (some p)) 10).run Tryz.prog w = .ok (.pointer (some (p.add 54))) w := fun p w => by kernel_rfl
theorem fa_52_11 : ∀ p w, (Instr.fieldAt 52 (.pointer (some p)) 11).run Tryz.prog w = .ok (.pointer (some (p.add 55))) w := fun p w => by kernel_rfl
theorem fa_52_12 : ∀ p w, (Instr.fieldAt 52 (.pointer (some p)) 12).run Tryz.prog w = .ok (.pointer (some (p.add 56))) w := fun p w => by kernel_rfl
theorem fa_52_13 : ∀ p w, (Instr.fieldAt 52 (.pointer (some p)) 13).run Tryz.prog w = .ok (.pointer (some (p.add 106))) w := fun p w => by kernel_rfl
theorem fa_52_14 : ∀ p w, (Instr.fieldAt 52 (.pointer (some p)) 14).run Tryz.prog w = .ok (.pointer (some (p.add 156))) w := fun p w => by kernel_rfl
theorem fa_52_15 : ∀ p w, (Instr.fieldAt 52 (.pointer (some p)) 15).run Tryz.prog w = .ok (.pointer (some (p.add 157))) w := fun p w => by kernel_rfl
theorem fa_67_0 : ∀ p w, (Instr.fieldAt 67 (.pointer (some p)) 0).run Tryz.prog w = .ok (.pointer (some (p.add 0))) w := fun p w => by kernel_rfl
theorem fa_67_1 : ∀ p w, (Instr.fieldAt 67 (.pointer (some p)) 1).run Tryz.prog w = .ok (.pointer (some (p.add 1))) w := fun p w => by kernel_rfl
theorem fa_67_2 : ∀ p w, (Instr.fieldAt 67 (.pointer (some p)) 2).run Tryz.prog w = .ok (.pointer (some (p.add 4))) w := fun p w => by kernel_rfl
theorem fa_67_3 : ∀ p w, (Instr.fieldAt 67 (.pointer (some p)) 3).run Tryz.prog w = .ok (.pointer (some (p.add 7))) w := fun p w => by kernel_rfl
theorem fa_67_4 : ∀ p w, (Instr.fieldAt 67 (.pointer (some p)) 4).run Tryz.prog w = .ok (.pointer (some (p.add 8))) w := fun p w => by kernel_rfl
theorem fa_67_5 : ∀ p w, (Instr.fieldAt 67 (.pointer (some p)) 5).run Tryz.prog w = .ok (.pointer (some (p.add 9))) w := fun p w => by kernel_rfl
theorem fa_67_6 : ∀ p w, (Instr.fieldAt 67 (.pointer (some p)) 6).run Tryz.prog w = .ok (.pointer (some (p.add 10))) w := fun p w => by kernel_rfl
theorem fa_67_7 : ∀ p w, (Instr.fieldAt 67 (.pointer (some p)) 7).run Tryz.prog w = .ok (.pointer (some (p.add 11))) w := fun p w => by kernel_rfl
theorem fa_67_8 : ∀ p w, (Instr.fieldAt 67 (.pointer (some p)) 8).run Tryz.prog w = .ok (.pointer (some (p.add 12))) w := fun p w => by kernel_rfl
theorem fa_67_9 : ∀ p w, (Instr.fieldAt 67 (.pointer (some p)) 9).run Tryz.prog w = .ok (.pointer (some (p.add 13))) w := fun p w => by kernel_rfl
theorem fa_67_10 : ∀ p w, (Instr.fieldAt 67 (.pointer (some p)) 10).run Tryz.prog w = .ok (.pointer (some (p.add 16))) w := fun p w => by kernel_rfl
theorem fa_67_11 : ∀ p w, (Instr.fieldAt 67 (.pointer (some p)) 11).run Tryz.prog w = .ok (.pointer (some (p.add 48))) w := fun p w => by kernel_rfl
theorem fa_67_12 : ∀ p w, (Instr.fieldAt 67 (.pointer (some p)) 12).run Tryz.prog w = .ok (.pointer (some (p.add 49))) w := fun p w => by kernel_rfl
theorem fa_67_13 : ∀ p w, (Instr.fieldAt 67 (.pointer (some p)) 13).run Tryz.prog w = .ok (.pointer (some (p.add 50))) w := fun p w => by kernel_rfl
theorem fa_67_14 : ∀ p w, (Instr.fieldAt 67 (.pointer (some p)) 14).run Tryz.prog w = .ok (.pointer (some (p.add 51))) w := fun p w => by kernel_rfl
theorem fa_67_15 : ∀ p w, (Instr.fieldAt 67 (.pointer (some p)) 15).run Tryz.prog w = .ok (.pointer (some (p.add 52))) w := fun p w => by kernel_rfl
theorem fa_67_16 : ∀ p w, (Instr.fieldAt 67 (.pointer (some p)) 16).run Tryz.prog w = .ok (.pointer (some (p.add 53))) w := fun p w => by kernel_rfl
theorem fa_67_17 : ∀ p w, (Instr.fieldAt 67 (.pointer (some p)) 17).run Tryz.prog w = .ok (.pointer (some (p.add 54))) w := fun p w => by kernel_rfl
theorem fa_67_18 : ∀ p w, (Instr.fieldAt 67 (.pointer (some p)) 18).run Tryz.prog w = .ok (.pointer (some (p.add 55))) w := fun p w => by kernel_rfl
theorem fa_67_19 : ∀ p w, (Instr.fieldAt 67 (.pointer (some p)) 19).run Tryz.prog w = .ok (.pointer (some (p.add 56))) w := fun p w => by kernel_rfl
theorem fa_80_0 : ∀ p w, (Instr.fieldAt 80 (.pointer (some p)) 0).run Tryz.prog w = .ok (.pointer (some (p.add 0))) w := fun p w => by kernel_rfl
theorem fa_80_1 : ∀ p w, (Instr.fieldAt 80 (.pointer (some p)) 1).run Tryz.prog w = .ok (.pointer (some (p.add 1))) w := fun p w => by kernel_rfl
theorem fa_80_2 : ∀ p w, (Instr.fieldAt 80 (.pointer (some p)) 2).run Tryz.prog w = .ok (.pointer (some (p.add 2))) w := fun p w => by kernel_rfl
theorem fa_80_3 : ∀ p w, (Instr.fieldAt 80 (.pointer (some p)) 3).run Tryz.prog w = .ok (.pointer (some (p.add 3))) w := fun p w => by kernel_rfl
theorem fa_80_4 : ∀ p w, (Instr.fieldAt 80 (.pointer (some p)) 4).run Tryz.prog w = .ok (.pointer (some (p.add 4))) w := fun p w => by kernel_rfl
theorem fa_80_5 : ∀ p w, (Instr.fieldAt 80 (.pointer (some p)) 5).run Tryz.prog w = .ok (.pointer (some (p.add 5))) w := fun p w => by kernel_rfl
theorem fa_85_4 : ∀ p w, (Instr.fieldAt 85 (.pointer (some p)) 4).run Tryz.prog w = .ok (.pointer (some (p.add 4))) w := fun p w => by kernel_rfl
theorem fa_95_0 : ∀ p w, (Instr.fieldAt 95 (.pointer (some p)) 0).run Tryz.prog w = .ok (.pointer (some (p.add 0))) w := fun p w => by kernel_rfl
theorem fa_95_2 : ∀ p w, (Instr.fieldAt 95 (.pointer (some p)) 2).run Tryz.prog w = .ok (.pointer (some (p.add 6))) w := fun p w => by kernel_rfl
theorem fa_95_3 : ∀ p w, (Instr.fieldAt 95 (.pointer (some p)) 3).run Tryz.prog w = .ok (.pointer (some (p.add 7))) w := fun p w => by kernel_rfl
theorem fa_99_0 : ∀ p w, (Instr.fieldAt 99 (.pointer (some p)) 0).run Tryz.prog w = .ok (.pointer (some (p.add 0))) w := fun p w => by kernel_rfl
theorem fa_99_1 : ∀ p w, (Instr.fieldAt 99 (.pointer (some p)) 1).run Tryz.prog w = .ok (.pointer (some (p.add 1))) w := fun p w => by kernel_rfl
theorem fa_117_0 : ∀ p w, (Instr.fieldAt 117 (.pointer (some p)) 0).run Tryz.prog w = .ok (.pointer (some (p.add 0))) w := fun p w => by kernel_rfl
theorem fa_117_1 : ∀ p w, (Instr.fieldAt 117 (.pointer (some p)) 1).run Tryz.prog w = .ok (.pointer (some (p.add 2))) w := fun p w => by kernel_rfl
theorem fa_117_2 : ∀ p w, (Instr.fieldAt 117 (.pointer (some p)) 2).run Tryz.prog w = .ok (.pointer (some (p.add 3))) w := fun p w => by kernel_rfl
theorem fa_124_0 : ∀ p w, (Instr.fieldAt 124 (.pointer (some p)) 0).run Tryz.prog w = .ok (.pointer (some (p.add 0))) w := fun p w => by kernel_rfl
theorem fa_124_1 : ∀ p w, (Instr.fieldAt 124 (.pointer (some p)) 1).run Tryz.prog w = .ok (.pointer (some (p.add 1))) w := fun p w => by kernel_rfl
theorem fa_124_2 : ∀ p w, (Instr.fieldAt 124 (.pointer (some p)) 2).run Tryz.prog w = .ok (.pointer (some (p.add 2))) w := fun p w => by kernel_rfl
theorem fa_124_3 : ∀ p w, (Instr.fieldAt 124 (.pointer (some p)) 3).run Tryz.prog w = .ok (.pointer (some (p.add 3))) w := fun p w => by kernel_rfl
theorem fa_137_0 : ∀ p w, (Instr.fieldAt 137 (.pointer (some p)) 0).run Tryz.prog w = .ok (.pointer (some (p.add 0))) w := fun p w => by kernel_rfl
theorem fa_137_1 : ∀ p w, (Instr.fieldAt 137 (.pointer (some p)) 1).run Tryz.prog w = .ok (.pointer (some (p.add 1))) w := fun p w => by kernel_rfl
theorem fa_137_2 : ∀ p w, (Instr.fieldAt 137 (.pointer (some p)) 2).run Tryz.prog w = .ok (.pointer (some (p.add 2))) w := fun p w => by kernel_rfl
theorem fa_141_0 : ∀ p w, (Instr.fieldAt 141 (.pointer (some p)) 0).run Tryz.prog w = .ok (.pointer (some (p.add 0))) w := fun p w => by kernel_rfl
theorem fa_141_1 : ∀ p w, (Instr.fieldAt 141 (.pointer (some p)) 1).run Tryz.prog w = .ok (.pointer (some (p.add 1))) w := fun p w => by kernel_rfl
theorem fa_141_2 : ∀ p w, (Instr.fieldAt 141 (.pointer (some p)) 2).run Tryz.prog w = .ok (.pointer (some (p.add 4))) w := fun p w => by kernel_rfl
theorem fa_141_3 : ∀ p w, (Instr.fieldAt 141 (.pointer (some p)) 3).run Tryz.prog w = .ok (.pointer (some (p.add 5))) w := fun p w => by kernel_rfl
theorem fa_141_4 : ∀ p w, (Instr.fieldAt 141 (.pointer (some p)) 4).run Tryz.prog w = .ok (.pointer (some (p.add 6))) w := fun p w => by kernel_rfl
theorem fa_144_0 : ∀ p w, (Instr.fieldAt 144 (.pointer (some p)) 0).run Tryz.prog w = .ok (.pointer (some (p.add 0))) w := fun p w => by kernel_rfl
theorem fa_144_1 : ∀ p w, (Instr.fieldAt 144 (.pointer (some p)) 1).run Tryz.prog w = .ok (.pointer (some (p.add 1))) w := fun p w => by kernel_rfl
theorem fa_152_0 : ∀ p w, (Instr.fieldAt 152 (.pointer (some p)) 0).run Tryz.prog w = .ok (.pointer (some (p.add 0))) w := fun p w => by kernel_rfl
theorem fa_152_1 : ∀ p w, (Instr.fieldAt 152 (.pointer (some p)) 1).run Tryz.prog w = .ok (.pointer (some (p.add 9))) w := fun p w => by kernel_rfl
theorem fa_155_0 : ∀ p w, (Instr.fieldAt 155 (.pointer (some p)) 0).run Tryz.prog w = .ok (.pointer (some (p.add 0))) w := fun p w => by kernel_rfl
theorem fa_155_1 : ∀ p w, (Instr.fieldAt 155 (.pointer (some p)) 1).run Tryz.prog w = .ok (.pointer (some (p.add 3))) w := fun p w => by kernel_rfl
theorem fa_155_2 : ∀ p w, (Instr.fieldAt 155 (.pointer (some p)) 2).run Tryz.prog w = .ok (.pointer (some (p.add 6))) w := fun p w => by kernel_rfl
theorem fa_155_3 : ∀ p w, (Instr.fieldAt 155 (.pointer (some p)) 3).run Tryz.prog w = .ok (.pointer (some (p.add 9))) w := fun p w => by kernel_rfl
theorem fa_155_4 : ∀ p w, (Instr.fieldAt 155 (.pointer (some p)) 4).run Tryz.prog w = .ok (.pointer (some (p.add 10))) w := fun p w => by kernel_rfl
theorem fa_155_5 : ∀ p w, (Instr.fieldAt 155 (.pointer (some p)) 5).run Tryz.prog w = .ok (.pointer (some (p.add 20))) w := fun p w => by kernel_rfl
theorem fa_155_6 : ∀ p w, (Instr.fieldAt 155 (.pointer (some p)) 6).run Tryz.prog w = .ok (.pointer (some (p.add 21))) w := fun p w => by kernel_rfl
theorem fa_155_7 : ∀ p w, (Instr.fieldAt 155 (.pointer (some p)) 7).run Tryz.prog w = .ok (.pointer (some (p.add 22))) w := fun p w => by kernel_rfl
theorem fa_155_8 : ∀ p w, (Instr.fieldAt 155 (.pointer (some p)) 8).run Tryz.prog w = .ok (.pointer (some (p.add 23))) w := fun p w => by kernel_rfl
theorem fa_155_9 : ∀ p w, (Instr.fieldAt 155 (.pointer (some p)) 9).run Tryz.prog w = .ok (.pointer (some (p.add 24))) w := fun p w => by kernel_rfl
theorem fa_158_0 : ∀ p w, (Instr.fieldAt 158 (.pointer (some p)) 0).run Tryz.prog w = .ok (.pointer (some (p.add 0))) w := fun p w => by kernel_rfl
theorem fa_158_1 : ∀ p w, (Instr.fieldAt 158 (.pointer (some p)) 1).run Tryz.prog w = .ok (.pointer (some (p.add 3))) w := fun p w => by kernel_rfl
theorem fa_162_0 : ∀ p w, (Instr.fieldAt 162 (.pointer (some p)) 0).run Tryz.prog w = .ok (.pointer (some (p.add 0))) w := fun p w => by kernel_rfl
theorem fa_162_1 : ∀ p w, (Instr.fieldAt 162 (.pointer (some p)) 1).run Tryz.prog w = .ok (.pointer (some (p.add 1))) w := fun p w => by kernel_rfl
theorem fa_162_2 : ∀ p w, (Instr.fieldAt 162 (.pointer (some p)) 2).run Tryz.prog w = .ok (.pointer (some (p.add 2))) w := fun p w => by kernel_rfl
theorem fa_162_3 : ∀ p w, (Instr.fieldAt 162 (.pointer (some p)) 3).run Tryz.prog w = .ok (.pointer (some (p.add 3))) w := fun p w => by kernel_rfl
theorem fa_164_0 : ∀ p w, (Instr.fieldAt 164 (.pointer (some p)) 0).run Tryz.prog w = .ok (.pointer (some (p.add 0))) w := fun p w => by kernel_rfl
theorem fa_164_1 : ∀ p w, (Instr.fieldAt 164 (.pointer (some p)) 1).run Tryz.prog w = .ok (.pointer (some (p.add 1))) w := fun p w => by kernel_rfl
theorem fa_164_2 : ∀ p w, (Instr.fieldAt 164 (.pointer (some p)) 2).run Tryz.prog w = .ok (.pointer (some (p.add 2))) w := fun p w => by kernel_rfl
theorem fa_164_3 : ∀ p w, (Instr.fieldAt 164 (.pointer (some p)) 3).run Tryz.prog w = .ok (.pointer (some (p.add 3))) w := fun p w => by kernel_rfl
theorem fa_166_0 : ∀ p w, (Instr.fieldAt 166 (.pointer (some p)) 0).run Tryz.prog w = .ok (.pointer (some (p.add 0))) w := fun p w => by kernel_rfl
theorem fa_166_1 : ∀ p w, (Instr.fieldAt 166 (.pointer (some p)) 1).run Tryz.prog w = .ok (.pointer (some (p.add 7))) w := fun p w => by kernel_rfl
theorem fa_166_2 : ∀ p w, (Instr.fieldAt 166 (.pointer (some p)) 2).run Tryz.prog w = .ok (.pointer (some (p.add 11))) w := fun p w => by kernel_rfl
theorem fa_177_0 : ∀ p w, (Instr.fieldAt 177 (.pointer (some p)) 0).run Tryz.prog w = .ok (.pointer (some (p.add 0))) w := fun p w => by kernel_rfl
theorem fa_177_1 : ∀ p w, (Instr.fieldAt 177 (.pointer (some p)) 1).run Tryz.prog w = .ok (.pointer (some (p.add 3))) w := fun p w => by kernel_rfl
theorem fa_177_2 : ∀ p w, (Instr.fieldAt 177 (.pointer (some p)) 2).run Tryz.prog w = .ok (.pointer (some (p.add 4))) w := fun p w => by kernel_rfl
theorem fa_180_0 : ∀ p w, (Instr.fieldAt 180 (.pointer (some p)) 0).run Tryz.prog w = .ok (.pointer (some (p.add 0))) w := fun p w => by kernel_rfl
theorem fa_180_1 : ∀ p w, (Instr.fieldAt 180 (.pointer (some p)) 1).run Tryz.prog w = .ok (.pointer (some (p.add 3))) w := fun p w => by kernel_rfl
theorem fa_180_2 : ∀ p w, (Instr.fieldAt 180 (.pointer (some p)) 2).run Tryz.prog w = .ok (.pointer (some (p.add 4))) w := fun p w => by kernel_rfl
theorem fa_180_3 : ∀ p w, (Instr.fieldAt 180 (.pointer (some p)) 3).run Tryz.prog w = .ok (.pointer (some (p.add 5))) w := fun p w => by kernel_rfl
theorem fa_180_4 : ∀ p w, (Instr.fieldAt 180 (.pointer (some p)) 4).run Tryz.prog w = .ok (.pointer (some (p.add 6))) w := fun p w => by kernel_rfl
theorem fa_180_5 : ∀ p w, (Instr.fieldAt 180 (.pointer (some p)) 5).run Tryz.prog w = .ok (.pointer (some (p.add 7))) w := fun p w => by kernel_rfl
theorem fa_180_6 : ∀ p w, (Instr.fieldAt 180 (.pointer (some p)) 6).run Tryz.prog w = .ok (.pointer (some (p.add 8))) w := fun p w => by kernel_rfl
theorem fa_180_7 : ∀ p w, (Instr.fieldAt 180 (.pointer (some p)) 7).run Tryz.prog w = .ok (.pointer (some (p.add 9))) w := fun p w => by kernel_rfl
theorem fa_182_0 : ∀ p w, (Instr.fieldAt 182 (.pointer (some p)) 0).run Tryz.prog w = .ok (.pointer (some (p.add 0))) w := fun p w => by kernel_rfl
theorem fa_182_1 : ∀ p w, (Instr.fieldAt 182 (.pointer (some p)) 1).run Tryz.prog w = .ok (.pointer (some (p.add 1))) w := fun p w => by kernel_rfl
theorem fa_182_2 : ∀ p w, (Instr.fieldAt 182 (.pointer (some p)) 2).run Tryz.prog w = .ok (.pointer (some (p.add 2))) w := fun p w => by kernel_rfl
theorem fa_182_3 : ∀ p w, (Instr.fieldAt 182 (.pointer (some p)) 3).run Tryz.prog w = .ok (.pointer (some (p.add 34))) w := fun p w => by kernel_rfl
theorem fa_182_4 : ∀ p w, (Instr.fieldAt 182 (.pointer (some p)) 4).run Tryz.prog w = .ok (.pointer (some (p.add 35))) w := fun p w => by kernel_rfl
theorem fa_182_5 : ∀ p w, (Instr.fieldAt 182 (.pointer (some p)) 5).run Tryz.prog w = .ok (.pointer (some (p.add 36))) w := fun p w => by kernel_rfl
theorem fa_182_6 : ∀ p w, (Instr.fieldAt 182 (.pointer (some p)) 6).run Tryz.prog w = .ok (.pointer (some (p.add 37))) w := fun p w => by kernel_rfl
theorem fa_182_7 : ∀ p w, (Instr.fieldAt 182 (.pointer (some p)) 7).run Tryz.prog w = .ok (.pointer (some (p.add 38))) w := fun p w => by kernel_rfl
theorem fa_202_0 : ∀ p w, (Instr.fieldAt 202 (.pointer (some p)) 0).run Tryz.prog w = .ok (.pointer (some (p.add 0))) w := fun p w => by kernel_rfl
theorem fa_202_1 : ∀ p w, (Instr.fieldAt 202 (.pointer (some p)) 1).run Tryz.prog w = .ok (.pointer (some (p.add 1))) w := fun p w => by kernel_rfl
theorem fa_202_2 : ∀ p w, (Instr.fieldAt 202 (.pointer (some p)) 2).run Tryz.prog w = .ok (.pointer (some (p.add 2))) w := fun p w => by kernel_rfl
theorem fa_202_3 : ∀ p w, (Instr.fieldAt 202 (.pointer (some p)) 3).run Tryz.prog w = .ok (.pointer (some (p.add 3))) w := fun p w => by kernel_rfl
theorem fa_202_4 : ∀ p w, (Instr.fieldAt 202 (.pointer (some p)) 4).run Tryz.prog w = .ok (.pointer (some (p.add 4))) w := fun p w => by kernel_rfl
theorem fa_205_0 : ∀ p w, (Instr.fieldAt 205 (.pointer (some p)) 0).run Tryz.prog w = .ok (.pointer (some (p.add 0))) w := fun p w => by kernel_rfl
theorem fa_205_1 : ∀ p w, (Instr.fieldAt 205 (.pointer (some p)) 1).run Tryz.prog w = .ok (.pointer (some (p.add 4))) w := fun p w => by kernel_rfl
theorem fa_205_2 : ∀ p w, (Instr.fieldAt 205 (.pointer (some p)) 2).run Tryz.prog w = .ok (.pointer (some (p.add 5))) w := fun p w => by kernel_rfl
theorem fa_205_3 : ∀ p w, (Instr.fieldAt 205 (.pointer (some p)) 3).run Tryz.prog w = .ok (.pointer (some (p.add 37))) w := fun p w => by kernel_rfl
theorem fa_205_4 : ∀ p w, (Instr.fieldAt 205 (.pointer (some p)) 4).run Tryz.prog w = .ok (.pointer (some (p.add 38))) w := fun p w => by kernel_rfl
theorem fa_205_5 : ∀ p w, (Instr.fieldAt 205 (.pointer (some p)) 5).run Tryz.prog w = .ok (.pointer (some (p.add 39))) w := fun p w => by kernel_rfl
theorem fa_205_6 : ∀ p w, (Instr.fieldAt 205 (.pointer (some p)) 6).run Tryz.prog w = .ok (.pointer (some (p.add 40))) w := fun p w => by kernel_rfl
theorem fa_231_0 : ∀ p w, (Instr.fieldAt 231 (.pointer (some p)) 0).run Tryz.prog w = .ok (.pointer (some (p.add 0))) w := fun p w => by kernel_rfl
theorem fa_235_0 : ∀ p w, (Instr.fieldAt 235 (.pointer (some p)) 0).run Tryz.prog w = .ok (.pointer (some (p.add 0))) w := fun p w => by kernel_rfl
theorem fa_235_1 : ∀ p w, (Instr.fieldAt 235 (.pointer (some p)) 1).run Tryz.prog w = .ok (.pointer (some (p.add 1))) w := fun p w => by kernel_rfl
theorem fa_238_0 : ∀ p w, (Instr.fieldAt 238 (.pointer (some p)) 0).run Tryz.prog w = .ok (.pointer (some (p.add 0))) w := fun p w => by kernel_rfl
theorem fa_238_1 : ∀ p w, (Instr.fieldAt 238 (.pointer (some p)) 1).run Tryz.prog w = .ok (.pointer (some (p.add 1))) w := fun p w => by kernel_rfl
theorem fa_238_2 : ∀ p w, (Instr.fieldAt 238 (.pointer (some p)) 2).run Tryz.prog w = .ok (.pointer (some (p.add 2))) w := fun p w => by kernel_rfl
theorem fa_265_0 : ∀ p w, (Instr.fieldAt 265 (.pointer (some p)) 0).run Tryz.prog w = .ok (.pointer (some (p.add 0))) w := fun p w => by kernel_rfl
theorem fa_265_1 : ∀ p w, (Instr.fieldAt 265 (.pointer (some p)) 1).run Tryz.prog w = .ok (.pointer (some (p.add 1))) w := fun p w => by kernel_rfl
theorem fa_270_0 : ∀ p w, (Instr.fieldAt 270 (.pointer (some p)) 0).run Tryz.prog w = .ok (.pointer (some (p.add 0))) w := fun p w => by kernel_rfl
theorem fa_270_1 : ∀ p w, (Instr.fieldAt 270 (.pointer (some p)) 1).run Tryz.prog w = .ok (.pointer (some (p.add 1))) w := fun p w => by kernel_rfl
theorem fa_270_2 : ∀ p w, (Instr.fieldAt 270 (.pointer (some p)) 2).run Tryz.prog w = .ok (.pointer (some (p.add 2))) w := fun p w => by kernel_rfl
theorem fa_273_0 : ∀ p w, (Instr.fieldAt 273 (.pointer (some p)) 0).run Tryz.prog w = .ok (.pointer (some (p.add 0))) w := fun p w => by kernel_rfl
theorem fa_277_0 : ∀ p w, (Instr.fieldAt 277 (.pointer (some p)) 0).run Tryz.prog w = .ok (.pointer (some (p.add 0))) w := fun p w => by kernel_rfl
theorem fa_277_1 : ∀ p w, (Instr.fieldAt 277 (.pointer (some p)) 1).run Tryz.prog w = .ok (.pointer (some (p.add 1))) w := fun p w => by kernel_rfl
theorem fa_277_2 : ∀ p w, (Instr.fieldAt 277 (.pointer (some p)) 2).run Tryz.prog w = .ok (.pointer (some (p.add 2))) w := fun p w => by kernel_rfl
theorem fa_277_3 : ∀ p w, (Instr.fieldAt 277 (.pointer (some p)) 3).run Tryz.prog w = .ok (.pointer (some (p.add 3))) w := fun p w => by kernel_rfl
theorem fa_277_4 : ∀ p w, (Instr.fieldAt 277 (.pointer (some p)) 4).run Tryz.prog w = .ok (.pointer (some (p.add 4))) w := fun p w => by kernel_rfl
theorem fa_282_0 : ∀ p w, (Instr.fieldAt 282 (.pointer (some p)) 0).run Tryz.prog w = .ok (.pointer (some (p.add 0))) w := fun p w => by kernel_rfl
theorem fa_282_1 : ∀ p w, (Instr.fieldAt 282 (.pointer (some p)) 1).run Tryz.prog w = .ok (.pointer (some (p.add 32))) w := fun p w => by kernel_rfl
theorem fa_282_2 : ∀ p w, (Instr.fieldAt 282 (.pointer (some p)) 2).run Tryz.prog w = .ok (.pointer (some (p.add 33))) w := fun p w => by kernel_rfl
theorem fa_287_0 : ∀ p w, (Instr.fieldAt 287 (.pointer (some p)) 0).run Tryz.prog w = .ok (.pointer (some (p.add 0))) w := fun p w => by kernel_rfl
theorem fa_287_1 : ∀ p w, (Instr.fieldAt 287 (.pointer (some p)) 1).run Tryz.prog w = .ok (.pointer (some (p.add 1))) w := fun p w => by kernel_rfl
theorem fa_287_2 : ∀ p w, (Instr.fieldAt 287 (.pointer (some p)) 2).run Tryz.prog w = .ok (.pointer (some (p.add 2))) w := fun p w => by kernel_rfl
theorem fa_306_0 : ∀ p w, (Instr.fieldAt 306 (.pointer (some p)) 0).run Tryz.prog w = .ok (.pointer (some (p.add 0))) w := fun p w => by kernel_rfl
theorem fa_306_1 : ∀ p w, (Instr.fieldAt 306 (.pointer (some p)) 1).run Tryz.prog w = .ok (.pointer (some (p.add 1))) w := fun p w => by kernel_rfl
theorem fa_306_2 : ∀ p w, (Instr.fieldAt 306 (.pointer (some p)) 2).run Tryz.prog w = .ok (.pointer (some (p.add 2))) w := fun p w => by kernel_rfl
theorem fa_306_3 : ∀ p w, (Instr.fieldAt 306 (.pointer (some p)) 3).run Tryz.prog w = .ok (.pointer (some (p.add 3))) w := fun p w => by kernel_rfl
theorem fa_306_4 : ∀ p w, (Instr.fieldAt 306 (.pointer (some p)) 4).run Tryz.prog w = .ok (.pointer (some (p.add 6))) w := fun p w => by kernel_rfl
theorem fa_322_0 : ∀ p w, (Instr.fieldAt 322 (.pointer (some p)) 0).run Tryz.prog w = .ok (.pointer (some (p.add 0))) w := fun p w => by kernel_rfl
theorem fa_322_1 : ∀ p w, (Instr.fieldAt 322 (.pointer (some p)) 1).run Tryz.prog w = .ok (.pointer (some (p.add 1))) w := fun p w => by kernel_rfl
theorem fa_328_0 : ∀ p w, (Instr.fieldAt 328 (.pointer (some p)) 0).run Tryz.prog w = .ok (.pointer (some (p.add 0))) w := fun p w => by kernel_rfl
theorem fa_328_1 : ∀ p w, (Instr.fieldAt 328 (.pointer (some p)) 1).run Tryz.prog w = .ok (.pointer (some (p.add 1))) w := fun p w => by kernel_rfl
theorem fa_328_2 : ∀ p w, (Instr.fieldAt 328 (.pointer (some p)) 2).run Tryz.prog w = .ok (.pointer (some (p.add 2))) w := fun p w => by kernel_rfl
theorem fa_328_3 : ∀ p w, (Instr.fieldAt 328 (.pointer (some p)) 3).run Tryz.prog w = .ok (.pointer (some (p.add 3))) w := fun p w => by kernel_rfl
theorem fa_332_0 : ∀ p w, (Instr.fieldAt 332 (.pointer (some p)) 0).run Tryz.prog w = .ok (.pointer (some (p.add 0))) w := fun p w => by kernel_rfl
theorem fa_349_0 : ∀ p w, (Instr.fieldAt 349 (.pointer (some p)) 0).run Tryz.prog w = .ok (.pointer (some (p.add 0))) w := fun p w => by kernel_rfl
theorem fa_349_1 : ∀ p w, (Instr.fieldAt 349 (.pointer (some p)) 1).run Tryz.prog w = .ok (.pointer (some (p.add 1))) w := fun p w => by kernel_rfl
theorem fa_351_0 : ∀ p w, (Instr.fieldAt 351 (.pointer (some p)) 0).run Tryz.prog w = .ok (.pointer (some (p.add 0))) w := fun p w => by kernel_rfl
theorem fa_351_1 : ∀ p w, (Instr.fieldAt 351 (.pointer (some p)) 1).run Tryz.prog w = .ok (.pointer (some (p.add 2))) w := fun p w => by kernel_rfl
theorem fa_365_0 : ∀ p w, (Instr.fieldAt 365 (.pointer (some p)) 0).run Tryz.prog w = .ok (.pointer (some (p.add 0))) w := fun p w => by kernel_rfl
theorem fa_376_0 : ∀ p w, (Instr.fieldAt 376 (.pointer (some p)) 0).run Tryz.prog w = .ok (.pointer (some (p.add 0))) w := fun p w => by kernel_rfl
theorem fa_376_1 : ∀ p w, (Instr.fieldAt 376 (.pointer (some p)) 1).run Tryz.prog w = .ok (.pointer (some (p.add 1))) w := fun p w => by kernel_rfl
theorem fa_403_0 : ∀ p w, (Instr.fieldAt 403 (.pointer (some p)) 0).run Tryz.prog w = .ok (.pointer (some (p.add 0))) w := fun p w => by kernel_rfl
theorem fa_403_1 : ∀ p w, (Instr.fieldAt 403 (.pointer (some p)) 1).run Tryz.prog w = .ok (.pointer (some (p.add 1))) w := fun p w => by kernel_rfl
theorem fa_403_2 : ∀ p w, (Instr.fieldAt 403 (.pointer (some p)) 2).run Tryz.prog w = .ok (.pointer (some (p.add 2))) w := fun p w => by kernel_rfl
theorem fa_407_0 : ∀ p w, (Instr.fieldAt 407 (.pointer (some p)) 0).run Tryz.prog w = .ok (.pointer (some (p.add 0))) w := fun p w => by kernel_rfl
theorem fa_407_1 : ∀ p w, (Instr.fieldAt 407 (.pointer (some p)) 1).run Tryz.prog w = .ok (.pointer (some (p.add 1))) w := fun p w => by kernel_rfl
theorem fa_429_0 : ∀ p w, (Instr.fieldAt 429 (.pointer (some p)) 0).run Tryz.prog w = .ok (.pointer (some (p.add 0))) w := fun p w => by kernel_rfl
theorem fa_429_1 : ∀ p w, (Instr.fieldAt 429 (.pointer (some p)) 1).run Tryz.prog w = .ok (.pointer (some (p.add 1))) w := fun p w => by kernel_rfl
theorem fa_466_0 : ∀ p w, (Instr.fieldAt 466 (.pointer (some p)) 0).run Tryz.prog w = .ok (.pointer (some (p.add 0))) w := fun p w => by kernel_rfl
theorem fa_466_1 : ∀ p w, (Instr.fieldAt 466 (.pointer (some p)) 1).run Tryz.prog w = .ok (.pointer (some (p.add 3))) w := fun p w => by kernel_rfl
theorem fa_466_2 : ∀ p w, (Instr.fieldAt 466 (.pointer (some p)) 2).run Tryz.prog w = .ok (.pointer (some (p.add 4))) w := fun p w => by kernel_rfl
theorem fa_491_0 : ∀ p w, (Instr.fieldAt 491 (.pointer (some p)) 0).run Tryz.prog w = .ok (.pointer (some (p.add 0))) w := fun p w => by kernel_rfl
theorem fa_491_1 : ∀ p w, (Instr.fieldAt 491 (.pointer (some p)) 1).run Tryz.prog w = .ok (.pointer (some (p.add 8))) w := fun p w => by kernel_rfl
theorem fa_491_2 : ∀ p w, (Instr.fieldAt 491 (.pointer (some p)) 2).run Tryz.prog w = .ok (.pointer (some (p.add 9))) w := fun p w => by kernel_rfl
theorem fa_491_3 : ∀ p w, (Instr.fieldAt 491 (.pointer (some p)) 3).run Tryz.prog w = .ok (.pointer (some (p.add 10))) w := fun p w => by kernel_rfl
theorem pl_30 : StrT Tryz.prog 30 #[(0, 1), (1, 1), (2, 1), (3, 1)] := ⟨_, Tryz.runUnderlying30, fun w => by kernel_rfl⟩
theorem pl_35 : StrT Tryz.prog 35 #[(0, 1), (1, 3), (4, 1), (5, 4), (9, 32), (41, 1), (42, 1), (43, 1), (44, 1)] := ⟨_, Tryz.runUnderlying35, fun w => by kernel_rfl⟩
theorem pl_45 : StrT Tryz.prog 45 #[(0, 1), (1, 1)] := ⟨_, Tryz.runUnderlying45, fun w => by kernel_rfl⟩
theorem pl_48 : StrT Tryz.prog 48 #[(0, 1), (1, 16), (17, 1), (18, 32)] := ⟨_, Tryz.runUnderlying48, fun w => by kernel_rfl⟩
theorem pl_52 : StrT Tryz.prog 52 #[(0, 45), (45, 1), (46, 1), (47, 1), (48, 1), (49, 1), (50, 1), (51, 1), (52, 1), (53, 1), (54, 1), (55, 1), (56, 50), (106, 50), (156, 1), (157, 1)] := ⟨_, Tryz.runUnderlying52, fun w => by kernel_rfl⟩
theorem pl_67 : StrT Tryz.prog 67 #[(0, 1), (1, 3), (4, 3), (7, 1), (8, 1), (9, 1), (10, 1), (11, 1), (12, 1), (13, 3), (16, 32), (48, 1), (49, 1), (50, 1), (51, 1), (52, 1), (53, 1), (54, 1), (55, 1), (56, 1)] := ⟨_, Tryz.runUnderlying67, fun w => by kernel_rfl⟩
theorem pl_80 : StrT Tryz.prog 80 #[(0, 1), (1, 1), (2, 1), (3, 1), (4, 1), (5, 16)] := ⟨_, Tryz.runUnderlying80, fun w => by kernel_rfl⟩
theorem pl_85 : StrT Tryz.prog 85 #[(0, 1), (1, 1), (2, 1), (3, 1), (4, 1), (5, 57)] := ⟨_, Tryz.runUnderlying85, fun w => by kernel_rfl⟩
theorem pl_95 : StrT Tryz.prog 95 #[(0, 3), (3, 3), (6, 1), (7, 1)] := ⟨_, Tryz.runUnderlying95, fun w => by kernel_rfl⟩
theorem pl_99 : StrT Tryz.prog 99 #[(0, 1), (1, 1)] := ⟨_, Tryz.runUnderlying99, fun w => by kernel_rfl⟩
theorem pl_117 : StrT Tryz.prog 117 #[(0, 2), (2, 1), (3, 1)] := ⟨_, Tryz.runUnderlying117, fun w => by kernel_rfl⟩
theorem pl_124 : StrT Tryz.prog 124 #[(0, 1), (1, 1), (2, 1), (3, 1)] := ⟨_, Tryz.runUnderlying124, fun w => by kernel_rfl⟩
theorem pl_137 : StrT Tryz.prog 137 #[(0, 1), (1, 1), (2, 1)] := ⟨_, Tryz.runUnderlying137, fun w => by kernel_rfl⟩
theorem pl_141 : StrT Tryz.prog 141 #[(0, 1), (1, 3), (4, 1), (5, 1), (6, 1)] := ⟨_, Tryz.runUnderlying141, fun w => by kernel_rfl⟩
theorem pl_144 : StrT Tryz.prog 144 #[(0, 1), (1, 1)] := ⟨_, Tryz.runUnderlying144, fun w => by kernel_rfl⟩
theorem pl_152 : StrT Tryz.prog 152 #[(0, 9), (9, 1)] := ⟨_, Tryz.runUnderlying152, fun w => by kernel_rfl⟩
theorem pl_155 : StrT Tryz.prog 155 #[(0, 3), (3, 3), (6, 3), (9, 1), (10, 10), (20, 1), (21, 1), (22, 1), (23, 1), (24, 1)] := ⟨_, Tryz.runUnderlying155, fun w => by kernel_rfl⟩
theorem pl_158 : StrT Tryz.prog 158 #[(0, 3), (3, 1)] := ⟨_, Tryz.runUnderlying158, fun w => by kernel_rfl⟩
theorem pl_162 : StrT Tryz.prog 162 #[(0, 1), (1, 1), (2, 1), (3, 1)] := ⟨_, Tryz.runUnderlying162, fun w => by kernel_rfl⟩
theorem pl_164 : StrT Tryz.prog 164 #[(0, 1), (1, 1), (2, 1), (3, 4)] := ⟨_, Tryz.runUnderlying164, fun w => by kernel_rfl⟩
theorem pl_166 : StrT Tryz.prog 166 #[(0, 7), (7, 4), (11, 1)] := ⟨_, Tryz.runUnderlying166, fun w => by kernel_rfl⟩
theorem pl_177 : StrT Tryz.prog 177 #[(0, 3), (3, 1), (4, 1)] := ⟨_, Tryz.runUnderlying177, fun w => by kernel_rfl⟩
theorem pl_180 : StrT Tryz.prog 180 #[(0, 3), (3, 1), (4, 1), (5, 1), (6, 1), (7, 1), (8, 1), (9, 1)] := ⟨_, Tryz.runUnderlying180, fun w => by kernel_rfl⟩
theorem pl_182 : StrT Tryz.prog 182 #[(0, 1), (1, 1), (2, 32), (34, 1), (35, 1), (36, 1), (37, 1), (38, 10)] := ⟨_, Tryz.runUnderlying182, fun w => by kernel_rfl⟩
theorem pl_202 : StrT Tryz.prog 202 #[(0, 1), (1, 1), (2, 1), (3, 1), (4, 1)] := ⟨_, Tryz.runUnderlying202, fun w => by kernel_rfl⟩
theorem pl_205 : StrT Tryz.prog 205 #[(0, 4), (4, 1), (5, 32), (37, 1), (38, 1), (39, 1), (40, 1)] := ⟨_, Tryz.runUnderlying205, fun w => by kernel_rfl⟩
theorem pl_231 : StrT Tryz.prog 231 #[(0, 1)] := ⟨_, Tryz.runUnderlying231, fun w => by kernel_rfl⟩
theorem pl_235 : StrT Tryz.prog 235 #[(0, 1), (1, 1)] := ⟨_, Tryz.runUnderlying235, fun w => by kernel_rfl⟩
theorem pl_238 : StrT Tryz.prog 238 #[(0, 1), (1, 1), (2, 1)] := ⟨_, Tryz.runUnderlying238, fun w => by kernel_rfl⟩
theorem pl_265 : StrT Tryz.prog 265 #[(0, 1), (1, 1)] := ⟨_, Tryz.runUnderlying265, fun w => by kernel_rfl⟩
theorem pl_270 : StrT Tryz.prog 270 #[(0, 1), (1, 1), (2, 1)] := ⟨_, Tryz.runUnderlying270, fun w => by kernel_rfl⟩
theorem pl_273 : StrT Tryz.prog 273 #[(0, 1)] := ⟨_, Tryz.runUnderlying273, fun w => by kernel_rfl⟩
theorem pl_277 : StrT Tryz.prog 277 #[(0, 1), (1, 1), (2, 1), (3, 1), (4, 1)] := ⟨_, Tryz.runUnderlying277, fun w => by kernel_rfl⟩
theorem pl_282 : StrT Tryz.prog 282 #[(0, 32), (32, 1), (33, 1)] := ⟨_, Tryz.runUnderlying282, fun w => by kernel_rfl⟩
theorem pl_287 : StrT Tryz.prog 287 #[(0, 1), (1, 1), (2, 24)] := ⟨_, Tryz.runUnderlying287, fun w => by kernel_rfl⟩
theorem pl_306 : StrT Tryz.prog 306 #[(0, 1), (1, 1), (2, 1), (3, 3), (6, 3)] := ⟨_, Tryz.runUnderlying306, fun w => by kernel_rfl⟩
theorem pl_310 : StrT Tryz.prog 310 #[(0, 1), (1, 1)] := ⟨_, Tryz.runUnderlying310, fun w => by kernel_rfl⟩
theorem pl_322 : StrT Tryz.prog 322 #[(0, 1), (1, 1)] := ⟨_, Tryz.runUnderlying322, fun w => by kernel_rfl⟩
theorem pl_328 : StrT Tryz.prog 328 #[(0, 1), (1, 1), (2, 1), (3, 40)] := ⟨_, Tryz.runUnderlying328, fun w => by kernel_rfl⟩
theorem pl_332 : StrT Tryz.prog 332 #[(0, 1)] := ⟨_, Tryz.runUnderlying332, fun w => by kernel_rfl⟩
theorem pl_349 : StrT Tryz.prog 349 #[(0, 1), (1, 1)] := ⟨_, Tryz.runUnderlying349, fun w => by kernel_rfl⟩
theorem pl_351 : StrT Tryz.prog 351 #[(0, 2), (2, 21)] := ⟨_, Tryz.runUnderlying351, fun w => by kernel_rfl⟩
theorem pl_365 : StrT Tryz.prog 365 #[(0, 1)] := ⟨_, Tryz.runUnderlying365, fun w => by kernel_rfl⟩
theorem pl_376 : StrT Tryz.prog 376 #[(0, 1), (1, 32)] := ⟨_, Tryz.runUnderlying376, fun w => by kernel_rfl⟩
theorem pl_403 : StrT Tryz.prog 403 #[(0, 1), (1, 1), (2, 1)] := ⟨_, Tryz.runUnderlying403, fun w => by kernel_rfl⟩
theorem pl_407 : StrT Tryz.prog 407 #[(0, 1), (1, 1)] := ⟨_, Tryz.runUnderlying407, fun w => by kernel_rfl⟩
theorem pl_429 : StrT Tryz.prog 429 #[(0, 1), (1, 1)] := ⟨_, Tryz.runUnderlying429, fun w => by kernel_rfl⟩
theorem pl_466 : StrT Tryz.prog 466 #[(0, 3), (3, 1), (4, 1)] := ⟨_, Tryz.runUnderlying466, fun w => by kernel_rfl⟩
theorem pl_491 : StrT Tryz.prog 491 #[(0, 8), (8, 1), (9, 1), (10, 1)] := ⟨_, Tryz.runUnderlying491, fun w => by kernel_rfl⟩
theorem el_22 : ElemT Tryz.prog 22 5 1 1 := ⟨by kernel_rfl, ⟨Tryz.t5, _, by kernel_rfl, (by first | exact rfl | kernel_rfl), by kernel_rfl, by kernel_rfl, by kernel_rfl⟩, by decide⟩
theorem el_25 : ElemT Tryz.prog 25 182 48 160 := ⟨by kernel_rfl, ⟨Tryz.t182, _, by kernel_rfl, (by first | exact rfl | kernel_rfl), by kernel_rfl, by kernel_rfl, by kernel_rfl⟩, by decide⟩
theorem el_49 : ElemT Tryz.prog 49 85 62 200 := ⟨by kernel_rfl, ⟨Tryz.t85, _, by kernel_rfl, (by first | exact rfl | kernel_rfl), by kernel_rfl, by kernel_rfl, by kernel_rfl⟩, by decide⟩
theorem el_86 : ElemT Tryz.prog 86 80 21 72 := ⟨by kernel_rfl, ⟨Tryz.t80, _, by kernel_rfl, (by first | exact rfl | kernel_rfl), by kernel_rfl, by kernel_rfl, by kernel_rfl⟩, by decide⟩
theorem el_108 : ElemT Tryz.prog 108 3 1 8 := ⟨by kernel_rfl, ⟨Tryz.t3, _, by kernel_rfl, (by first | exact rfl | kernel_rfl), by kernel_rfl, by kernel_rfl, by kernel_rfl⟩, by decide⟩
theorem el_110 : ElemT Tryz.prog 110 32 32 32 := ⟨by kernel_rfl, ⟨Tryz.t32, _, by kernel_rfl, (by first | exact rfl | kernel_rfl), by kernel_rfl, by kernel_rfl, by kernel_rfl⟩, by decide⟩
theorem el_175 : ElemT Tryz.prog 175 164 7 56 := ⟨by kernel_rfl, ⟨Tryz.t164, _, by kernel_rfl, (by first | exact rfl | kernel_rfl), by kernel_rfl, by kernel_rfl, by kernel_rfl⟩, by decide⟩
theorem el_187 : ElemT Tryz.prog 187 156 1 8 := ⟨by kernel_rfl, ⟨Tryz.t156, _, by kernel_rfl, (by first | exact rfl | kernel_rfl), by kernel_rfl, by kernel_rfl, by kernel_rfl⟩, by decide⟩
theorem el_195 : ElemT Tryz.prog 195 26 1 8 := ⟨by kernel_rfl, ⟨Tryz.t26, _, by kernel_rfl, (by first | exact rfl | kernel_rfl), by kernel_rfl, by kernel_rfl, by kernel_rfl⟩, by decide⟩
theorem el_254 : ElemT Tryz.prog 254 351 23 80 := ⟨by kernel_rfl, ⟨Tryz.t351, _, by kernel_rfl, (by first | exact rfl | kernel_rfl), by kernel_rfl, by kernel_rfl, by kernel_rfl⟩, by decide⟩
theorem el_346 : ElemT Tryz.prog 346 349 2 8 := ⟨by kernel_rfl, ⟨Tryz.t349, _, by kernel_rfl, (by first | exact rfl | kernel_rfl), by kernel_rfl, by kernel_rfl, by kernel_rfl⟩, by decide⟩
theorem el_414 : ElemT Tryz.prog 414 43 1 4 := ⟨by kernel_rfl, ⟨Tryz.t43, _, by kernel_rfl, (by first | exact rfl | kernel_rfl), by kernel_rfl, by kernel_rfl, by kernel_rfl⟩, by decide⟩
end Go.Proofs.YtcnefidknaobhaaGreat
