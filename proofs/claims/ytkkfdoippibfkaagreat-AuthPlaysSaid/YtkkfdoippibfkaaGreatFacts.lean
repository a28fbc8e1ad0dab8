/- The facts on types that the walks want, by program. -/
import Derived.Test.YtkkfdoippibfkaaGreatPD
import Derived.Test.YtkkfdoippibfkaaGreatProg
import Derived.KernelRfl
namespace Go.Proofs.YtkkfdoippibfkaaGreat
open Go.PK
theorem mixed : Tryz.prog.follows .mixedOrders = true := by kernel_rfl
theorem fa_38_0 : ∀ p w, (Instr.fieldAt 38 (.pointer (some p)) 0).run Tryz.prog w = .ok (.pointer (some (p.add 0))) w := fun p w => by kernel_rfl
theorem fa_38_1 : ∀ p w, (Instr.fieldAt 38 (.pointer (some p)) 1).run Tryz.prog w = .ok (.pointer (some (p.add 1))) w := fun p w => by kernel_rfl
theorem fa_38_2 : ∀ p w, (Instr.fieldAt 38 (.pointer (some p)) 2).run Tryz.prog w = .ok (.pointer (some (p.add 2))) w := fun p w => by kernel_rfl
theorem fa_38_3 : ∀ p w, (Instr.fieldAt 38 (.pointer (some p)) 3).run Tryz.prog w = .ok (.pointer (some (p.add 3))) w := fun p w => by kernel_rfl
theorem fa_38_4 : ∀ p w, (Instr.fieldAt 38 (.pointer (some p)) 4).run Tryz.prog w = .ok (.pointer (some (p.add 4))) w := fun p w => by kernel_rfl
theorem fa_38_5 : ∀ p w, (Instr.fieldAt 38 (.pointer (some p)) 5).run Tryz.prog w = .ok (.pointer (some (p.add 5))) w := fun p w => by kernel_rfl
theorem fa_40_0 : ∀ p w, (Instr.fieldAt 40 (.pointer (some p)) 0).run Tryz.prog w = .ok (.pointer (some (p.add 0))) w := fun p w => by kernel_rfl
theorem fa_40_1 : ∀ p w, (Instr.fieldAt 40 (.pointer (some p)) 1).run Tryz.prog w = .ok (.pointer (some (p.add 1))) w := fun p w => by kernel_rfl
theorem fa_43_0 : ∀ p w, (Instr.fieldAt 43 (.pointer (some p)) 0).run Tryz.prog w = .ok (.pointer (some (p.add 0))) w := fun p w => by kernel_rfl
theorem fa_43_1 : ∀ p w, (Instr.fieldAt 43 (.pointer (some p)) 1).run Tryz.prog w = .ok (.pointer (some (p.add 1))) w := fun p w => by kernel_rfl
theorem fa_43_2 : ∀ p w, (Instr.fieldAt 43 (.pointer (some p)) 2).run Tryz.prog w = .ok (.pointer (some (p.add 2))) w := fun p w => by kernel_rfl
theorem fa_43_3 : ∀ p w, (Instr.fieldAt 43 (.pointer (some p)) 3).run Tryz.prog w = .ok (.pointer (some (p.add 3))) w := fun p w => by kernel_rfl
theorem fa_43_4 : ∀ p w, (Instr.fieldAt 43 (.pointer (some p)) 4).run Tryz.prog w = .ok (.pointer (some (p.add 4))) w := fun p w => by kernel_rfl
theorem fa_43_5 : ∀ p w, (Instr.fieldAt 43 (.pointer (some p)) 5).run Tryz.prog w = .ok (.pointer (some (p.add 25))) w := fun p w => by kernel_rfl
theorem fa_43_6 : ∀ p w, (Instr.fieldAt 43 (.pointer (some p)) 6).run Tryz.prog w = .ok (.pointer (some (p.add 26))) w := fun p w => by kernel_rfl
theorem fa_43_7 : ∀ p w, (Instr.fieldAt 43 (.pointer (some p)) 7).run Tryz.prog w = .ok (.pointer (some (p.add 27))) w := fun p w => by kernel_rfl
theorem fa_43_8 : ∀ p w, (Instr.fieldAt 43 (.pointer (some p)) 8).run Tryz.prog w = .ok (.pointer (some (p.add 28))) w := fun p w => by kernel_rfl
theorem fa_43_9 : ∀ p w, (Instr.fieldAt 43 (.pointer (some p)) 9).run Tryz.prog w = .ok (.pointer (some (p.add 29))) w := fun p w => by kernel_rfl
theorem fa_43_10 : ∀ p w, (Instr.fieldAt 43 (.pointer (some p)) 10).run Tryz.prog w = .ok (.pointer (some (p.add 31))) w := fun p w => by kernel_rfl
theorem fa_76_0 : ∀ p w, (Instr.fieldAt 76 (.pointer (some p)) 0).run Tryz.prog w = .ok (.pointer (some (p.add 0))) w := fun p w => by kernel_rfl
theorem fa_76_1 : ∀ p w, (Instr.fieldAt 76 (.pointer (some p)) 1).run Tryz.prog w = .ok (.pointer (some (p.add 1))) w := fun p w => by kernel_rfl
theorem fa_76_2 : ∀ p w, (Instr.fieldAt 76 (.pointer (some p)) 2).run Tryz.prog w = .ok (.pointer (some (p.add 2))) w := fun p w => by kernel_rfl
theorem fa_76_3 : ∀ p w, (Instr.fieldAt 76 (.pointer (some p)) 3).run Tryz.prog w = .ok (.pointer (some (p.add 3))) w := fun p w => by kernel_rfl
theorem fa_76_4 : ∀ p w, (Instr.fieldAt 76 (.pointer (some p)) 4).run Tryz.prog w = .ok (.pointer (some (p.add 4))) w := fun p w => by kernel_rfl
theorem fa_83_0 : ∀ p w, (Instr.fieldAt 83 (.pointer (some p)) 0).run Tryz.prog w = .ok (.pointer (some (p.add 0))) w := fun p w => by kernel_rfl
theorem fa_85_0 : ∀ p w, (Instr.fieldAt 85 (.pointer (some p)) 0).run Tryz.prog w = .ok (.pointer (some (p.add 0))) w := fun p w => by kernel_rfl
theorem fa_85_1 : ∀ p w, (Instr.fieldAt 85 (.pointer (some p)) 1).run Tryz.prog w = .ok (.pointer (some (p.add 1))) w := fun p w => by kernel_rfl
theorem fa_89_0 : ∀ p w, (Instr.fieldAt 89 (.pointer (some p)) 0).run Tryz.prog w = .ok (.pointer (some (p.add 0))) w := fun p w => by kernel_rfl
theorem fa_89_1 : ∀ p w, (Instr.fieldAt 89 (.pointer (some p)) 1).run Tryz.prog w = .ok (.pointer (some (p.add 16))) w := fun p w => by kernel_rfl
theorem fa_93_0 : ∀ p w, (Instr.fieldAt 93 (.pointer (some p)) 0).run Tryz.prog w = .ok (.pointer (some (p.add 0))) w := fun p w => by kernel_rfl
theorem fa_93_1 : ∀ p w, (Instr.fieldAt 93 (.pointer (some p)) 1).run Tryz.prog w = .ok (.pointer (some (p.add 1))) w := fun p w => by kernel_rfl
theorem fa_93_2 : ∀ p w, (Instr.fieldAt 93 (.pointer (some p)) 2).run Tryz.prog w = .ok (.pointer (some (p.add 2))) w := fun p w => by kernel_rfl
theorem fa_93_3 : ∀ p w, (Instr.fieldAt 93 (.pointer (some p)) 3).run Tryz.prog w = .ok (.pointer (some (p.add 3))) w := fun p w => by kernel_rfl
theorem fa_93_4 : ∀ p w, (Instr.fieldAt 93 (.pointer (some p)) 4).run Tryz.prog w = .ok (.pointer (some (p.add 4))) w := fun p w => by kernel_rfl
theorem fa_110_0 : ∀ p w, (Instr.fieldAt 110 (.pointer (some p)) 0).run Tryz.prog w = .ok (.pointer (some (p.add 0))) w := fun p w => by kernel_rfl
theorem fa_110_1 : ∀ p w, (Instr.fieldAt 110 (.pointer (some p)) 1).run Tryz.prog w = .ok (.pointer (some (p.add 1))) w := fun p w => by kernel_rfl
theorem fa_110_2 : ∀ p w, (Instr.fieldAt 110 (.pointer (some p)) 2).run Tryz.prog w = .ok (.pointer (some (p.add 2))) w := fun p w => by kernel_rfl
theorem fa_113_0 : ∀ p w, (Instr.fieldAt 113 (.pointer (some p)) 0).run Tryz.prog w = .ok (.pointer (some (p.add 0))) w := fun p w => by kernel_rfl
theorem fa_113_1 : ∀ p w, (Instr.fieldAt 113 (.pointer (some p)) 1).run Tryz.prog w = .ok (.pointer (some (p.add 1))) w := fun p w => by kernel_rfl
theorem fa_113_2 : ∀ p w, (Instr.fieldAt 113 (.pointer (some p)) 2).run Tryz.prog w = .ok (.pointer (some (p.add 2))) w := fun p w => by kernel_rfl
theorem fa_115_0 : ∀ p w, (Instr.fieldAt 115 (.pointer (some p)) 0).run Tryz.prog w = .ok (.pointer (some (p.add 0))) w := fun p w => by kernel_rfl
theorem fa_115_1 : ∀ p w, (Instr.fieldAt 115 (.pointer (some p)) 1).run Tryz.prog w = .ok (.pointer (some (p.add 1))) w := fun p w => by kernel_rfl
theorem fa_119_0 : ∀ p w, (Instr.fieldAt 119 (.pointer (some p)) 0).run Tryz.prog w = .ok (.pointer (some (p.add 0))) w := fun p w => by kernel_rfl
theorem fa_119_1 : ∀ p w, (Instr.fieldAt 119 (.pointer (some p)) 1).run Tryz.prog w = .ok (.pointer (some (p.add 1))) w := fun p w => by kernel_rfl
theorem fa_119_2 : ∀ p w, (Instr.fieldAt 119 (.pointer (some p)) 2).run Tryz.prog w = .ok (.pointer (some (p.add 2))) w := fun p w => by kernel_rfl
theorem fa_122_0 : ∀ p w, (Instr.fieldAt 122 (.pointer (some p)) 0).run Tryz.prog w = .ok (.pointer (some (p.add 0))) w := fun p w => by kernel_rfl
theorem fa_122_1 : ∀ p w, (Instr.fieldAt 122 (.pointer (some p)) 1).run Tryz.prog w = .ok (.pointer (some (p.add 1))) w := fun p w => by kernel_rfl
theorem fa_122_2 : ∀ p w, (Instr.fieldAt 122 (.pointer (some p)) 2).run Tryz.prog w = .ok (.pointer (some (p.add 2))) w := fun p w => by kernel_rfl
theorem fa_126_0 : ∀ p w, (Instr.fieldAt 126 (.pointer (some p)) 0).run Tryz.prog w = .ok (.pointer (some (p.add 0))) w := fun p w => by kernel_rfl
theorem fa_126_1 : ∀ p w, (Instr.fieldAt 126 (.pointer (some p)) 1).run Tryz.prog w = .ok (.pointer (some (p.add 1))) w := fun p w => by kernel_rfl
theorem fa_129_0 : ∀ p w, (Instr.fieldAt 129 (.pointer (some p)) 0).run Tryz.prog w = .ok (.pointer (some (p.add 0))) w := fun p w => by kernel_rfl
theorem fa_131_0 : ∀ p w, (Instr.fieldAt 131 (.pointer (some p)) 0).run Tryz.prog w = .ok (.pointer (some (p.add 0))) w := fun p w => by kernel_rfl
theorem fa_131_1 : ∀ p w, (Instr.fieldAt 131 (.pointer (some p)) 1).run Tryz.prog w = .ok (.pointer (some (p.add 1))) w := fun p w => by kernel_rfl
theorem fa_131_2 : ∀ p w, (Instr.fieldAt 131 (.pointer (some p)) 2).run Tryz.prog w = .ok (.pointer (some (p.add 33))) w := fun p w => by kernel_rfl
theorem fa_131_3 : ∀ p w, (Instr.fieldAt 131 (.pointer (some p)) 3).run Tryz.prog w = .ok (.pointer (some (p.add 34))) w := fun p w => by kernel_rfl
theorem fa_137_0 : ∀ p w, (Instr.fieldAt 137 (.pointer (some p)) 0).run Tryz.prog w = .ok (.pointer (some (p.add 0))) w := fun p w => by kernel_rfl
theorem fa_137_1 : ∀ p w, (Instr.fieldAt 137 (.pointer (some p)) 1).run Tryz.prog w = .ok (.pointer (some (p.add 32))) w := fun p w => by kernel_rfl
theorem fa_137_2 : ∀ p w, (Instr.fieldAt 137 (.pointer (some p)) 2).run Tryz.prog w = .ok (.pointer (some (p.add 33))) w := fun p w => by kernel_rfl
theorem fa_160_0 : ∀ p w, (Instr.fieldAt 160 (.pointer (some p)) 0).run Tryz.prog w = .ok (.pointer (some (p.add 0))) w := fun p w => by kernel_rfl
theorem fa_160_1 : ∀ p w, (Instr.fieldAt 160 (.pointer (some p)) 1).run Tryz.prog w = .ok (.pointer (some (p.add 1))) w := fun p w => by kernel_rfl
theorem fa_175_0 : ∀ p w, (Instr.fieldAt 175 (.pointer (some p)) 0).run Tryz.prog w = .ok (.pointer (some (p.add 0))) w := fun p w => by kernel_rfl
theorem fa_175_1 : ∀ p w, (Instr.fieldAt 175 (.pointer (some p)) 1).run Tryz.prog w = .ok (.pointer (some (p.add 8))) w := fun p w => by kernel_rfl
theorem fa_175_2 : ∀ p w, (Instr.fieldAt 175 (.pointer (some p)) 2).run Tryz.prog w = .ok (.pointer (some (p.add 9))) w := fun p w => by kernel_rfl
theorem fa_175_3 : ∀ p w, (Instr.fieldAt 175 (.pointer (some p)) 3).run Tryz.prog w = .ok (.pointer (some (p.add 10))) w := fun p w => by kernel_rfl
theorem pl_38 : StrT Tryz.prog 38 #[(0, 1), (1, 1), (2, 1), (3, 1), (4, 1), (5, 16)] := ⟨_, Tryz.runUnderlying38, fun w => by kernel_rfl⟩
theorem pl_40 : StrT Tryz.prog 40 #[(0, 1), (1, 1)] := ⟨_, Tryz.runUnderlying40, fun w => by kernel_rfl⟩
theorem pl_76 : StrT Tryz.prog 76 #[(0, 1), (1, 1), (2, 1), (3, 1), (4, 1)] := ⟨_, Tryz.runUnderlying76, fun w => by kernel_rfl⟩
theorem pl_83 : StrT Tryz.prog 83 #[(0, 1)] := ⟨_, Tryz.runUnderlying83, fun w => by kernel_rfl⟩
theorem pl_85 : StrT Tryz.prog 85 #[(0, 1), (1, 1)] := ⟨_, Tryz.runUnderlying85, fun w => by kernel_rfl⟩
theorem pl_89 : StrT Tryz.prog 89 #[(0, 16), (16, 8)] := ⟨_, Tryz.runUnderlying89, fun w => by kernel_rfl⟩
theorem pl_93 : StrT Tryz.prog 93 #[(0, 1), (1, 1), (2, 1), (3, 1), (4, 1)] := ⟨_, Tryz.runUnderlying93, fun w => by kernel_rfl⟩
theorem pl_101 : StrT Tryz.prog 101 #[(0, 1), (1, 1)] := ⟨_, Tryz.runUnderlying101, fun w => by kernel_rfl⟩
theorem pl_103 : StrT Tryz.prog 103 #[(0, 1), (1, 1)] := ⟨_, Tryz.runUnderlying103, fun w => by kernel_rfl⟩
theorem pl_113 : StrT Tryz.prog 113 #[(0, 1), (1, 1), (2, 24)] := ⟨_, Tryz.runUnderlying113, fun w => by kernel_rfl⟩
theorem pl_115 : StrT Tryz.prog 115 #[(0, 1), (1, 1)] := ⟨_, Tryz.runUnderlying115, fun w => by kernel_rfl⟩
theorem pl_119 : StrT Tryz.prog 119 #[(0, 1), (1, 1), (2, 1)] := ⟨_, Tryz.runUnderlying119, fun w => by kernel_rfl⟩
theorem pl_122 : StrT Tryz.prog 122 #[(0, 1), (1, 1), (2, 24)] := ⟨_, Tryz.runUnderlying122, fun w => by kernel_rfl⟩
theorem pl_126 : StrT Tryz.prog 126 #[(0, 1), (1, 1)] := ⟨_, Tryz.runUnderlying126, fun w => by kernel_rfl⟩
theorem pl_129 : StrT Tryz.prog 129 #[(0, 1)] := ⟨_, Tryz.runUnderlying129, fun w => by kernel_rfl⟩
theorem pl_131 : StrT Tryz.prog 131 #[(0, 1), (1, 32), (33, 1), (34, 1)] := ⟨_, Tryz.runUnderlying131, fun w => by kernel_rfl⟩
theorem pl_137 : StrT Tryz.prog 137 #[(0, 32), (32, 1), (33, 1)] := ⟨_, Tryz.runUnderlying137, fun w => by kernel_rfl⟩
theorem pl_160 : StrT Tryz.prog 160 #[(0, 1), (1, 1)] := ⟨_, Tryz.runUnderlying160, fun w => by kernel_rfl⟩
theorem pl_175 : StrT Tryz.prog 175 #[(0, 8), (8, 1), (9, 1), (10, 1)] := ⟨_, Tryz.runUnderlying175, fun w => by kernel_rfl⟩
theorem el_34 : ElemT Tryz.prog 34 5 1 1 := ⟨by kernel_rfl, ⟨Tryz.t5, _, by kernel_rfl, (by first | exact rfl | kernel_rfl), by kernel_rfl, by kernel_rfl, by kernel_rfl⟩, by decide⟩
theorem el_41 : ElemT Tryz.prog 41 3 1 8 := ⟨by kernel_rfl, ⟨Tryz.t3, _, by kernel_rfl, (by first | exact rfl | kernel_rfl), by kernel_rfl, by kernel_rfl, by kernel_rfl⟩, by decide⟩
theorem el_81 : ElemT Tryz.prog 81 131 35 56 := ⟨by kernel_rfl, ⟨Tryz.t131, _, by kernel_rfl, (by first | exact rfl | kernel_rfl), by kernel_rfl, by kernel_rfl, by kernel_rfl⟩, by decide⟩
theorem el_90 : ElemT Tryz.prog 90 103 2 16 := ⟨by kernel_rfl, ⟨Tryz.t103, _, by kernel_rfl, (by first | exact rfl | kernel_rfl), by kernel_rfl, by kernel_rfl, by kernel_rfl⟩, by decide⟩
theorem el_91 : ElemT Tryz.prog 91 115 2 16 := ⟨by kernel_rfl, ⟨Tryz.t115, _, by kernel_rfl, (by first | exact rfl | kernel_rfl), by kernel_rfl, by kernel_rfl, by kernel_rfl⟩, by decide⟩
theorem el_187 : ElemT Tryz.prog 187 32 1 4 := ⟨by kernel_rfl, ⟨Tryz.t32, _, by kernel_rfl, (by first | exact rfl | kernel_rfl), by kernel_rfl, by kernel_rfl, by kernel_rfl⟩, by decide⟩
end Go.Proofs.YtkkfdoippibfkaaGreat
