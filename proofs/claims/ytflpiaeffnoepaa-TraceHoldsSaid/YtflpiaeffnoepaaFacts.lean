/- The facts on types that the walks want, by program. -/
import Derived.Test.YtflpiaeffnoepaaPkP
import Derived.Test.YtflpiaeffnoepaaProg
import Derived.KernelRfl
namespace Go.Proofs.Ytflpiaeffnoepaa
open Go.PK
theorem mixed : Try.prog.follows .mixedOrders = true := by kernel_rfl
theorem fa_33_0 : ∀ p w, (Instr.fieldAt 33 (.pointer (some p)) 0).run Try.prog w = .ok (.pointer (some (p.add 0))) w := fun p w => by kernel_rfl
theorem fa_33_1 : ∀ p w, (Instr.fieldAt 33 (.pointer (some p)) 1).run Try.prog w = .ok (.pointer (some (p.add 1))) w := fun p w => by kernel_rfl
theorem fa_33_2 : ∀ p w, (Instr.fieldAt 33 (.pointer (some p)) 2).run Try.prog w = .ok (.pointer (some (p.add 4))) w := fun p w => by kernel_rfl
theorem fa_33_3 : ∀ p w, (Instr.fieldAt 33 (.pointer (some p)) 3).run Try.prog w = .ok (.pointer (some (p.add 7))) w := fun p w => by kernel_rfl
theorem fa_33_4 : ∀ p w, (Instr.fieldAt 33 (.pointer (some p)) 4).run Try.prog w = .ok (.pointer (some (p.add 8))) w := fun p w => by kernel_rfl
theorem fa_33_5 : ∀ p w, (Instr.fieldAt 33 (.pointer (some p)) 5).run Try.prog w = .ok (.pointer (some (p.add 9))) w := fun p w => by kernel_rfl
theorem fa_33_6 : ∀ p w, (Instr.fieldAt 33 (.pointer (some p)) 6).run Try.prog w = .ok (.pointer (some (p.add 10))) w := fun p w => by kernel_rfl
theorem fa_33_7 : ∀ p w, (Instr.fieldAt 33 (.pointer (some p)) 7).run Try.prog w = .ok (.pointer (some (p.add 11))) w := fun p w => by kernel_rfl
theorem fa_33_8 : ∀ p w, (Instr.fieldAt 33 (.pointer (some p)) 8).run Try.prog w = .ok (.pointer (some (p.add 12))) w := fun p w => by kernel_rfl
theorem fa_33_9 : ∀ p w, (Instr.fieldAt 33 (.pointer (some p)) 9).run Try.prog w = .ok (.pointer (some (p.add 13))) w := fun p w => by kernel_rfl
theorem fa_33_10 : ∀ p w, (Instr.fieldAt 33 (.pointer (some p)) 10).run Try.prog w = .ok (.pointer (some (p.add 16))) w := fun p w => by kernel_rfl
theorem fa_33_11 : ∀ p w, (Instr.fieldAt 33 (.pointer (some p)) 11).run Try.prog w = .ok (.pointer (some (p.add 48))) w := fun p w => by kernel_rfl
theorem fa_33_12 : ∀ p w, (Instr.fieldAt 33 (.pointer (some p)) 12).run Try.prog w = .ok (.pointer (some (p.add 49))) w := fun p w => by kernel_rfl
theorem fa_33_13 : ∀ p w, (Instr.fieldAt 33 (.pointer (some p)) 13).run Try.prog w = .ok (.pointer (some (p.add 50))) w := fun p w => by kernel_rfl
theorem fa_33_14 : ∀ p w, (Instr.fieldAt 33 (.pointer (some p)) 14).run Try.prog w = .ok (.pointer (some (p.add 51))) w := fun p w => by kernel_rfl
theorem fa_33_15 : ∀ p w, (Instr.fieldAt 33 (.pointer (some p)) 15).run Try.prog w = .ok (.pointer (some (p.add 52))) w := fun p w => by kernel_rfl
theorem fa_33_16 : ∀ p w, (Instr.fieldAt 33 (.pointer (some p)) 16).run Try.prog w = .ok (.pointer (some (p.add 53))) w := fun p w => by kernel_rfl
theorem fa_33_17 : ∀ p w, (Instr.fieldAt 33 (.pointer (some p)) 17).run Try.prog w = .ok (.pointer (some (p.add 54))) w := fun p w => by kernel_rfl
theorem fa_33_18 : ∀ p w, (Instr.fieldAt 33 (.pointer (some p)) 18).run Try.prog w = .ok (.pointer (some (p.add 55))) w := fun p w => by kernel_rfl
theorem fa_33_19 : ∀ p w, (Instr.fieldAt 33 (.pointer (some p)) 19).run Try.prog w = .ok (.pointer (some (p.add 56))) w := fun p w => by kernel_rfl
theorem fa_57_0 : ∀ p w, (Instr.fieldAt 57 (.pointer (some p)) 0).run Try.prog w = .ok (.pointer (some (p.add 0))) w := fun p w => by kernel_rfl
theorem fa_57_1 : ∀ p w, (Instr.fieldAt 57 (.pointer (some p)) 1).run Try.prog w = .ok (.pointer (some (p.add 1))) w := fun p w => by kernel_rfl
theorem fa_57_2 : ∀ p w, (Instr.fieldAt 57 (.pointer (some p)) 2).run Try.prog w = .ok (.pointer (some (p.add 2))) w := fun p w => by kernel_rfl
theorem fa_57_3 : ∀ p w, (Instr.fieldAt 57 (.pointer (some p)) 3).run Try.prog w = .ok (.pointer (some (p.add 3))) w := fun p w => by kernel_rfl
theorem fa_58_0 : ∀ p w, (Instr.fieldAt 58 (.pointer (some p)) 0).run Try.prog w = .ok (.pointer (some (p.add 0))) w := fun p w => by kernel_rfl
theorem fa_58_1 : ∀ p w, (Instr.fieldAt 58 (.pointer (some p)) 1).run Try.prog w = .ok (.pointer (some (p.add 1))) w := fun p w => by kernel_rfl
theorem fa_58_2 : ∀ p w, (Instr.fieldAt 58 (.pointer (some p)) 2).run Try.prog w = .ok (.pointer (some (p.add 2))) w := fun p w => by kernel_rfl
theorem fa_58_3 : ∀ p w, (Instr.fieldAt 58 (.pointer (some p)) 3).run Try.prog w = .ok (.pointer (some (p.add 3))) w := fun p w => by kernel_rfl
theorem fa_66_0 : ∀ p w, (Instr.fieldAt 66 (.pointer (some p)) 0).run Try.prog w = .ok (.pointer (some (p.add 0))) w := fun p w => by kernel_rfl
theorem fa_66_1 : ∀ p w, (Instr.fieldAt 66 (.pointer (some p)) 1).run Try.prog w = .ok (.pointer (some (p.add 1))) w := fun p w => by kernel_rfl
theorem fa_66_2 : ∀ p w, (Instr.fieldAt 66 (.pointer (some p)) 2).run Try.prog w = .ok (.pointer (some (p.add 2))) w := fun p w => by kernel_rfl
theorem fa_70_0 : ∀ p w, (Instr.fieldAt 70 (.pointer (some p)) 0).run Try.prog w = .ok (.pointer (some (p.add 0))) w := fun p w => by kernel_rfl
theorem fa_70_1 : ∀ p w, (Instr.fieldAt 70 (.pointer (some p)) 1).run Try.prog w = .ok (.pointer (some (p.add 32))) w := fun p w => by kernel_rfl
theorem fa_70_2 : ∀ p w, (Instr.fieldAt 70 (.pointer (some p)) 2).run Try.prog w = .ok (.pointer (some (p.add 64))) w := fun p w => by kernel_rfl
theorem fa_70_3 : ∀ p w, (Instr.fieldAt 70 (.pointer (some p)) 3).run Try.prog w = .ok (.pointer (some (p.add 65))) w := fun p w => by kernel_rfl
theorem fa_74_0 : ∀ p w, (Instr.fieldAt 74 (.pointer (some p)) 0).run Try.prog w = .ok (.pointer (some (p.add 0))) w := fun p w => by kernel_rfl
theorem fa_74_1 : ∀ p w, (Instr.fieldAt 74 (.pointer (some p)) 1).run Try.prog w = .ok (.pointer (some (p.add 32))) w := fun p w => by kernel_rfl
theorem fa_74_2 : ∀ p w, (Instr.fieldAt 74 (.pointer (some p)) 2).run Try.prog w = .ok (.pointer (some (p.add 64))) w := fun p w => by kernel_rfl
theorem fa_74_3 : ∀ p w, (Instr.fieldAt 74 (.pointer (some p)) 3).run Try.prog w = .ok (.pointer (some (p.add 65))) w := fun p w => by kernel_rfl
theorem fa_80_0 : ∀ p w, (Instr.fieldAt 80 (.pointer (some p)) 0).run Try.prog w = .ok (.pointer (some (p.add 0))) w := fun p w => by kernel_rfl
theorem fa_80_1 : ∀ p w, (Instr.fieldAt 80 (.pointer (some p)) 1).run Try.prog w = .ok (.pointer (some (p.add 1))) w := fun p w => by kernel_rfl
theorem fa_80_2 : ∀ p w, (Instr.fieldAt 80 (.pointer (some p)) 2).run Try.prog w = .ok (.pointer (some (p.add 2))) w := fun p w => by kernel_rfl
theorem fa_82_0 : ∀ p w, (Instr.fieldAt 82 (.pointer (some p)) 0).run Try.prog w = .ok (.pointer (some (p.add 0))) w := fun p w => by kernel_rfl
theorem fa_82_1 : ∀ p w, (Instr.fieldAt 82 (.pointer (some p)) 1).run Try.prog w = .ok (.pointer (some (p.add 3))) w := fun p w => by kernel_rfl
theorem fa_82_2 : ∀ p w, (Instr.fieldAt 82 (.pointer (some p)) 2).run Try.prog w = .ok (.pointer (some (p.add 35))) w := fun p w => by kernel_rfl
theorem fa_82_3 : ∀ p w, (Instr.fieldAt 82 (.pointer (some p)) 3).run Try.prog w = .ok (.pointer (some (p.add 67))) w := fun p w => by kernel_rfl
theorem fa_99_0 : ∀ p w, (Instr.fieldAt 99 (.pointer (some p)) 0).run Try.prog w = .ok (.pointer (some (p.add 0))) w := fun p w => by kernel_rfl
theorem fa_99_1 : ∀ p w, (Instr.fieldAt 99 (.pointer (some p)) 1).run Try.prog w = .ok (.pointer (some (p.add 1))) w := fun p w => by kernel_rfl
theorem fa_99_2 : ∀ p w, (Instr.fieldAt 99 (.pointer (some p)) 2).run Try.prog w = .ok (.pointer (some (p.add 2))) w := fun p w => by kernel_rfl
theorem fa_99_3 : ∀ p w, (Instr.fieldAt 99 (.pointer (some p)) 3).run Try.prog w = .ok (.pointer (some (p.add 3))) w := fun p w => by kernel_rfl
theorem fa_100_0 : ∀ p w, (Instr.fieldAt 100 (.pointer (some p)) 0).run Try.prog w = .ok (.pointer (some (p.add 0))) w := fun p w => by kernel_rfl
theorem fa_100_1 : ∀ p w, (Instr.fieldAt 100 (.pointer (some p)) 1).run Try.prog w = .ok (.pointer (some (p.add 1))) w := fun p w => by kernel_rfl
theorem fa_100_2 : ∀ p w, (Instr.fieldAt 100 (.pointer (some p)) 2).run Try.prog w = .ok (.pointer (some (p.add 2))) w := fun p w => by kernel_rfl
theorem fa_100_3 : ∀ p w, (Instr.fieldAt 100 (.pointer (some p)) 3).run Try.prog w = .ok (.pointer (some (p.add 3))) w := fun p w => by kernel_rfl
theorem fa_108_0 : ∀ p w, (Instr.fieldAt 108 (.pointer (some p)) 0).run Try.prog w = .ok (.pointer (some (p.add 0))) w := fun p w => by kernel_rfl
theorem fa_112_0 : ∀ p w, (Instr.fieldAt 112 (.pointer (some p)) 0).run Try.prog w = .ok (.pointer (some (p.add 0))) w := fun p w => by kernel_rfl
theorem fa_112_1 : ∀ p w, (Instr.fieldAt 112 (.pointer (some p)) 1).run Try.prog w = .ok (.pointer (some (p.add 1))) w := fun p w => by kernel_rfl
theorem fa_112_2 : ∀ p w, (Instr.fieldAt 112 (.pointer (some p)) 2).run Try.prog w = .ok (.pointer (some (p.add 2))) w := fun p w => by kernel_rfl
theorem fa_112_3 : ∀ p w, (Instr.fieldAt 112 (.pointer (some p)) 3).run Try.prog w = .ok (.pointer (some (p.add 34))) w := fun p w => by kernel_rfl
theorem fa_112_4 : ∀ p w, (Instr.fieldAt 112 (.pointer (some p)) 4).run Try.prog w = .ok (.pointer (some (p.add 35))) w := fun p w => by kernel_rfl
theorem fa_112_5 : ∀ p w, (Instr.fieldAt 112 (.pointer (some p)) 5).run Try.prog w = .ok (.pointer (some (p.add 36))) w := fun p w => by kernel_rfl
theorem fa_112_6 : ∀ p w, (Instr.fieldAt 112 (.pointer (some p)) 6).run Try.prog w = .ok (.pointer (some (p.add 37))) w := fun p w => by kernel_rfl
theorem fa_123_0 : ∀ p w, (Instr.fieldAt 123 (.pointer (some p)) 0).run Try.prog w = .ok (.pointer (some (p.add 0))) w := fun p w => by kernel_rfl
theorem fa_123_1 : ∀ p w, (Instr.fieldAt 123 (.pointer (some p)) 1).run Try.prog w = .ok (.pointer (some (p.add 1))) w := fun p w => by kernel_rfl
theorem fa_129_0 : ∀ p w, (Instr.fieldAt 129 (.pointer (some p)) 0).run Try.prog w = .ok (.pointer (some (p.add 0))) w := fun p w => by kernel_rfl
theorem fa_129_1 : ∀ p w, (Instr.fieldAt 129 (.pointer (some p)) 1).run Try.prog w = .ok (.pointer (some (p.add 1))) w := fun p w => by kernel_rfl
theorem fa_129_2 : ∀ p w, (Instr.fieldAt 129 (.pointer (some p)) 2).run Try.prog w = .ok (.pointer (some (p.add 2))) w := fun p w => by kernel_rfl
theorem fa_129_3 : ∀ p w, (Instr.fieldAt 129 (.pointer (some p)) 3).run Try.prog w = .ok (.pointer (some (p.add 3))) w := fun p w => by kernel_rfl
theorem fa_131_0 : ∀ p w, (Instr.fieldAt 131 (.pointer (some p)) 0).run Try.prog w = .ok (.pointer (some (p.add 0))) w := fun p w => by kernel_rfl
theorem fa_131_1 : ∀ p w, (Instr.fieldAt 131 (.pointer (some p)) 1).run Try.prog w = .ok (.pointer (some (p.add 1))) w := fun p w => by kernel_rfl
theorem fa_131_2 : ∀ p w, (Instr.fieldAt 131 (.pointer (some p)) 2).run Try.prog w = .ok (.pointer (some (p.add 4))) w := fun p w => by kernel_rfl
theorem fa_131_3 : ∀ p w, (Instr.fieldAt 131 (.pointer (some p)) 3).run Try.prog w = .ok (.pointer (some (p.add 5))) w := fun p w => by kernel_rfl
theorem fa_131_4 : ∀ p w, (Instr.fieldAt 131 (.pointer (some p)) 4).run Try.prog w = .ok (.pointer (some (p.add 9))) w := fun p w => by kernel_rfl
theorem fa_131_5 : ∀ p w, (Instr.fieldAt 131 (.pointer (some p)) 5).run Try.prog w = .ok (.pointer (some (p.add 41))) w := fun p w => by kernel_rfl
theorem fa_131_6 : ∀ p w, (Instr.fieldAt 131 (.pointer (some p)) 6).run Try.prog w = .ok (.pointer (some (p.add 42))) w := fun p w => by kernel_rfl
theorem fa_131_7 : ∀ p w, (Instr.fieldAt 131 (.pointer (some p)) 7).run Try.prog w = .ok (.pointer (some (p.add 43))) w := fun p w => by kernel_rfl
theorem fa_131_8 : ∀ p w, (Instr.fieldAt 131 (.pointer (some p)) 8).run Try.prog w = .ok (.pointer (some (p.add 44))) w := fun p w => by kernel_rfl
theorem fa_134_0 : ∀ p w, (Instr.fieldAt 134 (.pointer (some p)) 0).run Try.prog w = .ok (.pointer (some (p.add 0))) w := fun p w => by kernel_rfl
theorem fa_134_1 : ∀ p w, (Instr.fieldAt 134 (.pointer (some p)) 1).run Try.prog w = .ok (.pointer (some (p.add 1))) w := fun p w => by kernel_rfl
theorem fa_134_2 : ∀ p w, (Instr.fieldAt 134 (.pointer (some p)) 2).run Try.prog w = .ok (.pointer (some (p.add 2))) w := fun p w => by kernel_rfl
theorem fa_134_3 : ∀ p w, (Instr.fieldAt 134 (.pointer (some p)) 3).run Try.prog w = .ok (.pointer (some (p.add 3))) w := fun p w => by kernel_rfl
theorem fa_136_0 : ∀ p w, (Instr.fieldAt 136 (.pointer (some p)) 0).run Try.prog w = .ok (.pointer (some (p.add 0))) w := fun p w => by kernel_rfl
theorem fa_136_1 : ∀ p w, (Instr.fieldAt 136 (.pointer (some p)) 1).run Try.prog w = .ok (.pointer (some (p.add 1))) w := fun p w => by kernel_rfl
theorem fa_136_2 : ∀ p w, (Instr.fieldAt 136 (.pointer (some p)) 2).run Try.prog w = .ok (.pointer (some (p.add 4))) w := fun p w => by kernel_rfl
theorem fa_136_3 : ∀ p w, (Instr.fieldAt 136 (.pointer (some p)) 3).run Try.prog w = .ok (.pointer (some (p.add 5))) w := fun p w => by kernel_rfl
theorem fa_136_4 : ∀ p w, (Instr.fieldAt 136 (.pointer (some p)) 4).run Try.prog w = .ok (.pointer (some (p.add 9))) w := fun p w => by kernel_rfl
theorem fa_136_5 : ∀ p w, (Instr.fieldAt 136 (.pointer (some p)) 5).run Try.prog w = .ok (.pointer (some (p.add 41))) w := fun p w => by kernel_rfl
theorem fa_136_6 : ∀ p w, (Instr.fieldAt 136 (.pointer (some p)) 6).run Try.prog w = .ok (.pointer (some (p.add 42))) w := fun p w => by kernel_rfl
theorem fa_136_7 : ∀ p w, (Instr.fieldAt 136 (.pointer (some p)) 7).run Try.prog w = .ok (.pointer (some (p.add 43))) w := fun p w => by kernel_rfl
theorem fa_136_8 : ∀ p w, (Instr.fieldAt 136 (.pointer (some p)) 8).run Try.prog w = .ok (.pointer (some (p.add 44))) w := fun p w => by kernel_rfl
theorem fa_140_0 : ∀ p w, (Instr.fieldAt 140 (.pointer (some p)) 0).run Try.prog w = .ok (.pointer (some (p.add 0))) w := fun p w => by kernel_rfl
theorem fa_140_1 : ∀ p w, (Instr.fieldAt 140 (.pointer (some p)) 1).run Try.prog w = .ok (.pointer (some (p.add 1))) w := fun p w => by kernel_rfl
theorem fa_140_2 : ∀ p w, (Instr.fieldAt 140 (.pointer (some p)) 2).run Try.prog w = .ok (.pointer (some (p.add 2))) w := fun p w => by kernel_rfl
theorem fa_142_0 : ∀ p w, (Instr.fieldAt 142 (.pointer (some p)) 0).run Try.prog w = .ok (.pointer (some (p.add 0))) w := fun p w => by kernel_rfl
theorem fa_142_1 : ∀ p w, (Instr.fieldAt 142 (.pointer (some p)) 1).run Try.prog w = .ok (.pointer (some (p.add 3))) w := fun p w => by kernel_rfl
theorem fa_142_2 : ∀ p w, (Instr.fieldAt 142 (.pointer (some p)) 2).run Try.prog w = .ok (.pointer (some (p.add 4))) w := fun p w => by kernel_rfl
theorem fa_142_3 : ∀ p w, (Instr.fieldAt 142 (.pointer (some p)) 3).run Try.prog w = .ok (.pointer (some (p.add 5))) w := fun p w => by kernel_rfl
theorem fa_142_4 : ∀ p w, (Instr.fieldAt 142 (.pointer (some p)) 4).run Try.prog w = .ok (.pointer (some (p.add 6))) w := fun p w => by kernel_rfl
theorem fa_142_5 : ∀ p w, (Instr.fieldAt 142 (.pointer (some p)) 5).run Try.prog w = .ok (.pointer (some (p.add 7))) w := fun p w => by kernel_rfl
theorem fa_142_6 : ∀ p w, (Instr.fieldAt 142 (.pointer (some p)) 6).run Try.prog w = .ok (.pointer (some (p.add 8))) w := fun p w => by kernel_rfl
theorem fa_142_7 : ∀ p w, (Instr.fieldAt 142 (.pointer (some p)) 7).run Try.prog w = .ok (.pointer (some (p.add 9))) w := fun p w => by kernel_rfl
theorem fa_144_0 : ∀ p w, (Instr.fieldAt 144 (.pointer (some p)) 0).run Try.prog w = .ok (.pointer (some (p.add 0))) w := fun p w => by kernel_rfl
theorem fa_144_1 : ∀ p w, (Instr.fieldAt 144 (.pointer (some p)) 1).run Try.prog w = .ok (.pointer (some (p.add 1))) w := fun p w => by kernel_rfl
theorem fa_144_3 : ∀ p w, (Instr.fieldAt 144 (.pointer (some p)) 3).run Try.prog w = .ok (.pointer (some (p.add 34))) w := fun p w => by kernel_rfl
theorem fa_144_4 : ∀ p w, (Instr.fieldAt 144 (.pointer (some p)) 4).run Try.prog w = .ok (.pointer (some (p.add 35))) w := fun p w => by kernel_rfl
theorem fa_144_5 : ∀ p w, (Instr.fieldAt 144 (.pointer (some p)) 5).run Try.prog w = .ok (.pointer (some (p.add 36))) w := fun p w => by kernel_rfl
theorem fa_144_6 : ∀ p w, (Instr.fieldAt 144 (.pointer (some p)) 6).run Try.prog w = .ok (.pointer (some (p.add 37))) w := fun p w => by kernel_rfl
theorem fa_144_7 : ∀ p w, (Instr.fieldAt 144 (.pointer (some p)) 7).run Try.prog w = .ok (.pointer (some (p.add 38))) w := fun p w => by kernel_rfl
theorem fa_149_0 : ∀ p w, (Instr.fieldAt 149 (.pointer (some p)) 0).run Try.prog w = .ok (.pointer (some (p.add 0))) w := fun p w => by kernel_rfl
theorem fa_149_1 : ∀ p w, (Instr.fieldAt 149 (.pointer (some p)) 1).run Try.prog w = .ok (.pointer (some (p.add 1))) w := fun p w => by kernel_rfl
theorem fa_149_2 : ∀ p w, (Instr.fieldAt 149 (.pointer (some p)) 2).run Try.prog w = .ok (.pointer (some (p.add 2))) w := fun p w => by kernel_rfl
theorem fa_151_0 : ∀ p w, (Instr.fieldAt 151 (.pointer (some p)) 0).run Try.prog w = .ok (.pointer (some (p.add 0))) w := fun p w => by kernel_rfl
theorem fa_151_1 : ∀ p w, (Instr.fieldAt 151 (.pointer (some p)) 1).run Try.prog w = .ok (.pointer (some (p.add 3))) w := fun p w => by kernel_rfl
theorem fa_151_2 : ∀ p w, (Instr.fieldAt 151 (.pointer (some p)) 2).run Try.prog w = .ok (.pointer (some (p.add 4))) w := fun p w => by kernel_rfl
theorem fa_151_3 : ∀ p w, (Instr.fieldAt 151 (.pointer (some p)) 3).run Try.prog w = .ok (.pointer (some (p.add 5))) w := fun p w => by kernel_rfl
theorem fa_151_4 : ∀ p w, (Instr.fieldAt 151 (.pointer (some p)) 4).run Try.prog w = .ok (.pointer (some (p.add 6))) w := fun p w => by kernel_rfl
theorem fa_151_5 : ∀ p w, (Instr.fieldAt 151 (.pointer (some p)) 5).run Try.prog w = .ok (.pointer (some (p.add 7))) w := fun p w => by kernel_rfl
theorem fa_151_6 : ∀ p w, (Instr.fieldAt 151 (.pointer (some p)) 6).run Try.prog w = .ok (.pointer (some (p.add 8))) w := fun p w => by kernel_rfl
theorem fa_151_7 : ∀ p w, (Instr.fieldAt 151 (.pointer (some p)) 7).run Try.prog w = .ok (.pointer (some (p.add 9))) w := fun p w => by kernel_rfl
theorem fa_153_0 : ∀ p w, (Instr.fieldAt 153 (.pointer (some p)) 0).run Try.prog w = .ok (.pointer (some (p.add 0))) w := fun p w => by kernel_rfl
theorem fa_153_1 : ∀ p w, (Instr.fieldAt 153 (.pointer (some p)) 1).run Try.prog w = .ok (.pointer (some (p.add 1))) w := fun p w => by kernel_rfl
theorem fa_153_2 : ∀ p w, (Instr.fieldAt 153 (.pointer (some p)) 2).run Try.prog w = .ok (.pointer (some (p.add 2))) w := fun p w => by kernel_rfl
theorem fa_153_3 : ∀ p w, (Instr.fieldAt 153 (.pointer (some p)) 3).run Try.prog w = .ok (.pointer (some (p.add 34))) w := fun p w => by kernel_rfl
theorem fa_153_4 : ∀ p w, (Instr.fieldAt 153 (.pointer (some p)) 4).run Try.prog w = .ok (.pointer (some (p.add 35))) w := fun p w => by kernel_rfl
theorem fa_153_5 : ∀ p w, (Instr.fieldAt 153 (.pointer (some p)) 5).run Try.prog w = .ok (.pointer (some (p.add 36))) w := fun p w => by kernel_rfl
theorem fa_153_6 : ∀ p w, (Instr.fieldAt 153 (.pointer (some p)) 6).run Try.prog w = .ok (.pointer (some (p.add 37))) w := fun p w => by kernel_rfl
theorem fa_153_7 : ∀ p w, (Instr.fieldAt 153 (.pointer (some p)) 7).run Try.prog w = .ok (.pointer (some (p.add 38))) w := fun p w => by kernel_rfl
theorem fa_162_0 : ∀ p w, (Instr.fieldAt 162 (.pointer (some p)) 0).run Try.prog w = .ok (.pointer (some (p.add 0))) w := fun p w => by kernel_rfl
theorem fa_162_1 : ∀ p w, (Instr.fieldAt 162 (.pointer (some p)) 1).run Try.prog w = .ok (.pointer (some (p.add 3))) w := fun p w => by kernel_rfl
theorem fa_162_2 : ∀ p w, (Instr.fieldAt 162 (.pointer (some p)) 2).run Try.prog w = .ok (.pointer (some (p.add 4))) w := fun p w => by kernel_rfl
theorem fa_166_0 : ∀ p w, (Instr.fieldAt 166 (.pointer (some p)) 0).run Try.prog w = .ok (.pointer (some (p.add 0))) w := fun p w => by kernel_rfl
theorem fa_166_1 : ∀ p w, (Instr.fieldAt 166 (.pointer (some p)) 1).run Try.prog w = .ok (.pointer (some (p.add 3))) w := fun p w => by kernel_rfl
theorem fa_166_2 : ∀ p w, (Instr.fieldAt 166 (.pointer (some p)) 2).run Try.prog w = .ok (.pointer (some (p.add 4))) w := fun p w => by kernel_rfl
theorem fa_175_0 : ∀ p w, (Instr.fieldAt 175 (.pointer (some p)) 0).run Try.prog w = .ok (.pointer (some (p.add 0))) w := fun p w => by kernel_rfl
theorem fa_182_0 : ∀ p w, (Instr.fieldAt 182 (.pointer (some p)) 0).run Try.prog w = .ok (.pointer (some (p.add 0))) w := fun p w => by kernel_rfl
theorem fa_197_0 : ∀ p w, (Instr.fieldAt 197 (.pointer (some p)) 0).run Try.prog w = .ok (.pointer (some (p.add 0))) w := fun p w => by kernel_rfl
theorem fa_197_1 : ∀ p w, (Instr.fieldAt 197 (.pointer (some p)) 1).run Try.prog w = .ok (.pointer (some (p.add 1))) w := fun p w => by kernel_rfl
theorem fa_197_2 : ∀ p w, (Instr.fieldAt 197 (.pointer (some p)) 2).run Try.prog w = .ok (.pointer (some (p.add 2))) w := fun p w => by kernel_rfl
theorem fa_206_0 : ∀ p w, (Instr.fieldAt 206 (.pointer (some p)) 0).run Try.prog w = .ok (.pointer (some (p.add 0))) w := fun p w => by kernel_rfl
theorem fa_206_1 : ∀ p w, (Instr.fieldAt 206 (.pointer (some p)) 1).run Try.prog w = .ok (.pointer (some (p.add 32))) w := fun p w => by kernel_rfl
theorem fa_206_2 : ∀ p w, (Instr.fieldAt 206 (.pointer (some p)) 2).run Try.prog w = .ok (.pointer (some (p.add 33))) w := fun p w => by kernel_rfl
theorem fa_210_0 : ∀ p w, (Instr.fieldAt 210 (.pointer (some p)) 0).run Try.prog w = .ok (.pointer (some (p.add 0))) w := fun p w => by kernel_rfl
theorem fa_210_1 : ∀ p w, (Instr.fieldAt 210 (.pointer (some p)) 1).run Try.prog w = .ok (.pointer (some (p.add 1))) w := fun p w => by kernel_rfl
theorem fa_210_2 : ∀ p w, (Instr.fieldAt 210 (.pointer (some p)) 2).run Try.prog w = .ok (.pointer (some (p.add 33))) w := fun p w => by kernel_rfl
theorem fa_210_3 : ∀ p w, (Instr.fieldAt 210 (.pointer (some p)) 3).run Try.prog w = .ok (.pointer (some (p.add 34))) w := fun p w => by kernel_rfl
theorem fa_213_0 : ∀ p w, (Instr.fieldAt 213 (.pointer (some p)) 0).run Try.prog w = .ok (.pointer (some (p.add 0))) w := fun p w => by kernel_rfl
theorem fa_213_1 : ∀ p w, (Instr.fieldAt 213 (.pointer (some p)) 1).run Try.prog w = .ok (.pointer (some (p.add 1))) w := fun p w => by kernel_rfl
theorem fa_237_0 : ∀ p w, (Instr.fieldAt 237 (.pointer (some p)) 0).run Try.prog w = .ok (.pointer (some (p.add 0))) w := fun p w => by kernel_rfl
theorem fa_237_1 : ∀ p w, (Instr.fieldAt 237 (.pointer (some p)) 1).run Try.prog w = .ok (.pointer (some (p.add 1))) w := fun p w => by kernel_rfl
theorem fa_237_2 : ∀ p w, (Instr.fieldAt 237 (.pointer (some p)) 2).run Try.prog w = .ok (.pointer (some (p.add 2))) w := fun p w => by kernel_rfl
theorem fa_237_3 : ∀ p w, (Instr.fieldAt 237 (.pointer (some p)) 3).run Try.prog w = .ok (.pointer (some (p.add 3))) w := fun p w => by kernel_rfl
theorem fa_239_0 : ∀ p w, (Instr.fieldAt 239 (.pointer (some p)) 0).run Try.prog w = .ok (.pointer (some (p.add 0))) w := fun p w => by kernel_rfl
theorem fa_239_1 : ∀ p w, (Instr.fieldAt 239 (.pointer (some p)) 1).run Try.prog w = .ok (.pointer (some (p.add 1))) w := fun p w => by kernel_rfl
theorem fa_239_2 : ∀ p w, (Instr.fieldAt 239 (.pointer (some p)) 2).run Try.prog w = .ok (.pointer (some (p.add 2))) w := fun p w => by kernel_rfl
theorem fa_239_3 : ∀ p w, (Instr.fieldAt 239 (.pointer (some p)) 3).run Try.prog w = .ok (.pointer (some (p.add 3))) w := fun p w => by kernel_rfl
theorem fa_240_0 : ∀ p w, (Instr.fieldAt 240 (.pointer (some p)) 0).run Try.prog w = .ok (.pointer (some (p.add 0))) w := fun p w => by kernel_rfl
theorem fa_240_1 : ∀ p w, (Instr.fieldAt 240 (.pointer (some p)) 1).run Try.prog w = .ok (.pointer (some (p.add 1))) w := fun p w => by kernel_rfl
theorem fa_240_2 : ∀ p w, (Instr.fieldAt 240 (.pointer (some p)) 2).run Try.prog w = .ok (.pointer (some (p.add 2))) w := fun p w => by kernel_rfl
theorem fa_240_3 : ∀ p w, (Instr.fieldAt 240 (.pointer (some p)) 3).run Try.prog w = .ok (.pointer (some (p.add 3))) w := fun p w => by kernel_rfl
theorem fa_242_0 : ∀ p w, (Instr.fieldAt 242 (.pointer (some p)) 0).run Try.prog w = .ok (.pointer (some (p.add 0))) w := fun p w => by kernel_rfl
theorem fa_242_1 : ∀ p w, (Instr.fieldAt 242 (.pointer (some p)) 1).run Try.prog w = .ok (.pointer (some (p.add 1))) w := fun p w => by kernel_rfl
theorem fa_242_2 : ∀ p w, (Instr.fieldAt 242 (.pointer (some p)) 2).run Try.prog w = .ok (.pointer (some (p.add 2))) w := fun p w => by kernel_rfl
theorem fa_242_3 : ∀ p w, (Instr.fieldAt 242 (.pointer (some p)) 3).run Try.prog w = .ok (.pointer (some (p.add 3))) w := fun p w => by kernel_rfl
theorem fa_288_5 : ∀ p w, (Instr.fieldAt 288 (.pointer (some p)) 5).run Try.prog w = .ok (.pointer (some (p.add 20))) w := fun p w => by kernel_rfl
theorem fa_319_0 : ∀ p w, (Instr.fieldAt 319 (.pointer (some p)) 0).run Try.prog w = .ok (.pointer (some (p.add 0))) w := fun p w => by kernel_rfl
theorem fa_319_1 : ∀ p w, (Instr.fieldAt 319 (.pointer (some p)) 1).run Try.prog w = .ok (.pointer (some (p.add 1))) w := fun p w => by kernel_rfl
theorem fa_337_0 : ∀ p w, (Instr.fieldAt 337 (.pointer (some p)) 0).run Try.prog w = .ok (.pointer (some (p.add 0))) w := fun p w => by kernel_rfl
theorem fa_337_1 : ∀ p w, (Instr.fieldAt 337 (.pointer (some p)) 1).run Try.prog w = .ok (.pointer (some (p.add 8))) w := fun p w => by kernel_rfl
theorem fa_337_2 : ∀ p w, (Instr.fieldAt 337 (.pointer (some p)) 2).run Try.prog w = .ok (.pointer (some (p.add 9))) w := fun p w => by kernel_rfl
theorem fa_337_3 : ∀ p w, (Instr.fieldAt 337 (.pointer (some p)) 3).run Try.prog w = .ok (.pointer (some (p.add 10))) w := fun p w => by kernel_rfl
theorem pl_33 : StrT Try.prog 33 #[(0, 1), (1, 3), (4, 3), (7, 1), (8, 1), (9, 1), (10, 1), (11, 1), (12, 1), (13, 3), (16, 32), (48, 1), (49, 1), (50, 1), (51, 1), (52, 1), (53, 1), (54, 1), (55, 1), (56, 1)] := ⟨_, Try.runUnderlying33, fun w => by kernel_rfl⟩
theorem pl_57 : StrT Try.prog 57 #[(0, 1), (1, 1), (2, 1), (3, 1)] := ⟨_, Try.runUnderlying57, fun w => by kernel_rfl⟩
theorem pl_58 : StrT Try.prog 58 #[(0, 1), (1, 1), (2, 1), (3, 1)] := ⟨_, Try.runUnderlying58, fun w => by kernel_rfl⟩
theorem pl_66 : StrT Try.prog 66 #[(0, 1), (1, 1), (2, 1)] := ⟨_, Try.runUnderlying66, fun w => by kernel_rfl⟩
theorem pl_70 : StrT Try.prog 70 #[(0, 32), (32, 32), (64, 1), (65, 1)] := ⟨_, Try.runUnderlying70, fun w => by kernel_rfl⟩
theorem pl_74 : StrT Try.prog 74 #[(0, 32), (32, 32), (64, 1), (65, 1)] := ⟨_, Try.runUnderlying74, fun w => by kernel_rfl⟩
theorem pl_80 : StrT Try.prog 80 #[(0, 1), (1, 1), (2, 1)] := ⟨_, Try.runUnderlying80, fun w => by kernel_rfl⟩
theorem pl_82 : StrT Try.prog 82 #[(0, 3), (3, 32), (35, 32), (67, 1)] := ⟨_, Try.runUnderlying82, fun w => by kernel_rfl⟩
theorem pl_99 : StrT Try.prog 99 #[(0, 1), (1, 1), (2, 1), (3, 1)] := ⟨_, Try.runUnderlying99, fun w => by kernel_rfl⟩
theorem pl_100 : StrT Try.prog 100 #[(0, 1), (1, 1), (2, 1), (3, 1)] := ⟨_, Try.runUnderlying100, fun w => by kernel_rfl⟩
theorem pl_108 : StrT Try.prog 108 #[(0, 1)] := ⟨_, Try.runUnderlying108, fun w => by kernel_rfl⟩
theorem pl_123 : StrT Try.prog 123 #[(0, 1), (1, 1)] := ⟨_, Try.runUnderlying123, fun w => by kernel_rfl⟩
theorem pl_129 : StrT Try.prog 129 #[(0, 1), (1, 1), (2, 1), (3, 1)] := ⟨_, Try.runUnderlying129, fun w => by kernel_rfl⟩
theorem pl_131 : StrT Try.prog 131 #[(0, 1), (1, 3), (4, 1), (5, 4), (9, 32), (41, 1), (42, 1), (43, 1), (44, 1)] := ⟨_, Try.runUnderlying131, fun w => by kernel_rfl⟩
theorem pl_134 : StrT Try.prog 134 #[(0, 1), (1, 1), (2, 1), (3, 1)] := ⟨_, Try.runUnderlying134, fun w => by kernel_rfl⟩
theorem pl_136 : StrT Try.prog 136 #[(0, 1), (1, 3), (4, 1), (5, 4), (9, 32), (41, 1), (42, 1), (43, 1), (44, 1)] := ⟨_, Try.runUnderlying136, fun w => by kernel_rfl⟩
theorem pl_140 : StrT Try.prog 140 #[(0, 1), (1, 1), (2, 1)] := ⟨_, Try.runUnderlying140, fun w => by kernel_rfl⟩
theorem pl_142 : StrT Try.prog 142 #[(0, 3), (3, 1), (4, 1), (5, 1), (6, 1), (7, 1), (8, 1), (9, 1)] := ⟨_, Try.runUnderlying142, fun w => by kernel_rfl⟩
theorem pl_144 : StrT Try.prog 144 #[(0, 1), (1, 1), (2, 32), (34, 1), (35, 1), (36, 1), (37, 1), (38, 10)] := ⟨_, Try.runUnderlying144, fun w => by kernel_rfl⟩
theorem pl_149 : StrT Try.prog 149 #[(0, 1), (1, 1), (2, 1)] := ⟨_, Try.runUnderlying149, fun w => by kernel_rfl⟩
theorem pl_151 : StrT Try.prog 151 #[(0, 3), (3, 1), (4, 1), (5, 1), (6, 1), (7, 1), (8, 1), (9, 1)] := ⟨_, Try.runUnderlying151, fun w => by kernel_rfl⟩
theorem pl_153 : StrT Try.prog 153 #[(0, 1), (1, 1), (2, 32), (34, 1), (35, 1), (36, 1), (37, 1), (38, 10)] := ⟨_, Try.runUnderlying153, fun w => by kernel_rfl⟩
theorem pl_162 : StrT Try.prog 162 #[(0, 3), (3, 1), (4, 1)] := ⟨_, Try.runUnderlying162, fun w => by kernel_rfl⟩
theorem pl_166 : StrT Try.prog 166 #[(0, 3), (3, 1), (4, 1)] := ⟨_, Try.runUnderlying166, fun w => by kernel_rfl⟩
theorem pl_175 : StrT Try.prog 175 #[(0, 1)] := ⟨_, Try.runUnderlying175, fun w => by kernel_rfl⟩
theorem pl_182 : StrT Try.prog 182 #[(0, 1)] := ⟨_, Try.runUnderlying182, fun w => by kernel_rfl⟩
theorem pl_197 : StrT Try.prog 197 #[(0, 1), (1, 1), (2, 1)] := ⟨_, Try.runUnderlying197, fun w => by kernel_rfl⟩
theorem pl_206 : StrT Try.prog 206 #[(0, 32), (32, 1), (33, 1)] := ⟨_, Try.runUnderlying206, fun w => by kernel_rfl⟩
theorem pl_210 : StrT Try.prog 210 #[(0, 1), (1, 32), (33, 1), (34, 1)] := ⟨_, Try.runUnderlying210, fun w => by kernel_rfl⟩
theorem pl_213 : StrT Try.prog 213 #[(0, 1), (1, 1)] := ⟨_, Try.runUnderlying213, fun w => by kernel_rfl⟩
theorem pl_237 : StrT Try.prog 237 #[(0, 1), (1, 1), (2, 1), (3, 1)] := ⟨_, Try.runUnderlying237, fun w => by kernel_rfl⟩
theorem pl_239 : StrT Try.prog 239 #[(0, 1), (1, 1), (2, 1), (3, 4)] := ⟨_, Try.runUnderlying239, fun w => by kernel_rfl⟩
theorem pl_240 : StrT Try.prog 240 #[(0, 1), (1, 1), (2, 1), (3, 1)] := ⟨_, Try.runUnderlying240, fun w => by kernel_rfl⟩
theorem pl_242 : StrT Try.prog 242 #[(0, 1), (1, 1), (2, 1), (3, 4)] := ⟨_, Try.runUnderlying242, fun w => by kernel_rfl⟩
theorem pl_279 : StrT Try.prog 279 #[(0, 1), (1, 1), (2, 24)] := ⟨_, Try.runUnderlying279, fun w => by kernel_rfl⟩
theorem pl_284 : StrT Try.prog 284 #[(0, 9), (9, 1)] := ⟨_, Try.runUnderlying284, fun w => by kernel_rfl⟩
theorem pl_288 : StrT Try.prog 288 #[(0, 3), (3, 3), (6, 3), (9, 1), (10, 10), (20, 1), (21, 1), (22, 1), (23, 1), (24, 1)] := ⟨_, Try.runUnderlying288, fun w => by kernel_rfl⟩
theorem pl_293 : StrT Try.prog 293 #[(0, 7), (7, 4), (11, 1)] := ⟨_, Try.runUnderlying293, fun w => by kernel_rfl⟩
theorem pl_299 : StrT Try.prog 299 #[(0, 1), (1, 1), (2, 24)] := ⟨_, Try.runUnderlying299, fun w => by kernel_rfl⟩
theorem pl_312 : StrT Try.prog 312 #[(0, 10), (10, 1), (11, 1), (12, 1), (13, 1)] := ⟨_, Try.runUnderlying312, fun w => by kernel_rfl⟩
theorem pl_319 : StrT Try.prog 319 #[(0, 1), (1, 1)] := ⟨_, Try.runUnderlying319, fun w => by kernel_rfl⟩
theorem pl_337 : StrT Try.prog 337 #[(0, 8), (8, 1), (9, 1), (10, 1)] := ⟨_, Try.runUnderlying337, fun w => by kernel_rfl⟩
theorem pl_365 : StrT Try.prog 365 #[(0, 1), (1, 1), (2, 24), (26, 24)] := ⟨_, Try.runUnderlying365, fun w => by kernel_rfl⟩
theorem pl_370 : StrT Try.prog 370 #[(0, 1), (1, 1), (2, 40)] := ⟨_, Try.runUnderlying370, fun w => by kernel_rfl⟩
theorem pl_375 : StrT Try.prog 375 #[(0, 1), (1, 1), (2, 1), (3, 40)] := ⟨_, Try.runUnderlying375, fun w => by kernel_rfl⟩
theorem pl_406 : StrT Try.prog 406 #[(0, 1), (1, 3), (4, 1), (5, 1), (6, 1)] := ⟨_, Try.runUnderlying406, fun w => by kernel_rfl⟩
theorem pl_415 : StrT Try.prog 415 #[(0, 1), (1, 1), (2, 1)] := ⟨_, Try.runUnderlying415, fun w => by kernel_rfl⟩
theorem pl_418 : StrT Try.prog 418 #[(0, 1), (1, 1), (2, 1)] := ⟨_, Try.runUnderlying418, fun w => by kernel_rfl⟩
theorem pl_423 : StrT Try.prog 423 #[(0, 1), (1, 1), (2, 1), (3, 40)] := ⟨_, Try.runUnderlying423, fun w => by kernel_rfl⟩
theorem el_34 : ElemT Try.prog 34 5 1 1 := ⟨by kernel_rfl, ⟨Try.t5, _, by kernel_rfl, (by first | exact rfl | kernel_rfl), by kernel_rfl, by kernel_rfl, by kernel_rfl⟩, by decide⟩
theorem el_49 : ElemT Try.prog 49 57 4 32 := ⟨by kernel_rfl, ⟨Try.t57, _, by kernel_rfl, (by first | exact rfl | kernel_rfl), by kernel_rfl, by kernel_rfl, by kernel_rfl⟩, by decide⟩
theorem el_63 : ElemT Try.prog 63 58 4 32 := ⟨by kernel_rfl, ⟨Try.t58, _, by kernel_rfl, (by first | exact rfl | kernel_rfl), by kernel_rfl, by kernel_rfl, by kernel_rfl⟩, by decide⟩
theorem el_64 : ElemT Try.prog 64 61 32 32 := ⟨by kernel_rfl, ⟨Try.t61, _, by kernel_rfl, (by first | exact rfl | kernel_rfl), by kernel_rfl, by kernel_rfl, by kernel_rfl⟩, by decide⟩
theorem el_68 : ElemT Try.prog 68 3 1 8 := ⟨by kernel_rfl, ⟨Try.t3, _, by kernel_rfl, (by first | exact rfl | kernel_rfl), by kernel_rfl, by kernel_rfl, by kernel_rfl⟩, by decide⟩
theorem el_93 : ElemT Try.prog 93 99 4 32 := ⟨by kernel_rfl, ⟨Try.t99, _, by kernel_rfl, (by first | exact rfl | kernel_rfl), by kernel_rfl, by kernel_rfl, by kernel_rfl⟩, by decide⟩
theorem el_95 : ElemT Try.prog 95 100 4 32 := ⟨by kernel_rfl, ⟨Try.t100, _, by kernel_rfl, (by first | exact rfl | kernel_rfl), by kernel_rfl, by kernel_rfl, by kernel_rfl⟩, by decide⟩
theorem el_106 : ElemT Try.prog 106 210 35 56 := ⟨by kernel_rfl, ⟨Try.t210, _, by kernel_rfl, (by first | exact rfl | kernel_rfl), by kernel_rfl, by kernel_rfl, by kernel_rfl⟩, by decide⟩
theorem el_127 : ElemT Try.prog 127 153 48 160 := ⟨by kernel_rfl, ⟨Try.t153, _, by kernel_rfl, (by first | exact rfl | kernel_rfl), by kernel_rfl, by kernel_rfl, by kernel_rfl⟩, by decide⟩
theorem el_133 : ElemT Try.prog 133 144 48 160 := ⟨by kernel_rfl, ⟨Try.t144, _, by kernel_rfl, (by first | exact rfl | kernel_rfl), by kernel_rfl, by kernel_rfl, by kernel_rfl⟩, by decide⟩
theorem el_160 : ElemT Try.prog 160 239 7 56 := ⟨by kernel_rfl, ⟨Try.t239, _, by kernel_rfl, (by first | exact rfl | kernel_rfl), by kernel_rfl, by kernel_rfl, by kernel_rfl⟩, by decide⟩
theorem el_164 : ElemT Try.prog 164 242 7 56 := ⟨by kernel_rfl, ⟨Try.t242, _, by kernel_rfl, (by first | exact rfl | kernel_rfl), by kernel_rfl, by kernel_rfl, by kernel_rfl⟩, by decide⟩
theorem el_330 : ElemT Try.prog 330 25 1 4 := ⟨by kernel_rfl, ⟨Try.t25, _, by kernel_rfl, (by first | exact rfl | kernel_rfl), by kernel_rfl, by kernel_rfl, by kernel_rfl⟩, by decide⟩
end Go.Proofs.Ytflpiaeffnoepaa
