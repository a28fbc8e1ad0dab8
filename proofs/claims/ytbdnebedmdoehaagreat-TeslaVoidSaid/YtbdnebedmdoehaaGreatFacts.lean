/- The facts on types that the walks want, by program. -/
import Derived.Test.YtbdnebedmdoehaaGreatPD
import Derived.Test.YtbdnebedmdoehaaGreatProg
import Derived.KernelRfl
namespace Go.Proofs.YtbdnebedmdoehaaGreat
open Go.PK
theorem mixed : Tryz.prog.follows .mixedOrders = true := by kernel_rfl
theorem fa_30_0 : ∀ p w, (Instr.fieldAt 30 (.pointer (some p)) 0).run Tryz.prog w = .ok (.pointer (some (p.add 0))) w := fun p w => by kernel_rfl
theorem fa_30_1 : ∀ p w, (Instr.fieldAt 30 (.pointer (some p)) 1).run Tryz.prog w = .ok (.pointer (some (p.add 1))) w := fun p w => by kernel_rfl
theorem fa_30_2 : ∀ p w, (Instr.fieldAt 30 (.pointer (some p)) 2).run Tryz.prog w = .ok (.pointer (some (p.add 2))) w := fun p w => by kernel_rfl
theorem fa_30_3 : ∀ p w, (Instr.fieldAt 30 (.pointer (some p)) 3).run Tryz.prog w = .ok (.pointer (some (p.add 3))) w := fun p w => by kernel_rfl
theorem fa_30_4 : ∀ p w, (Instr.fieldAt 30 (.pointer (some p)) 4).run Tryz.prog w = .ok (.pointer (some (p.add 4))) w := fun p w => by kernel_rfl
theorem fa_30_5 : ∀ p w, (Instr.fieldAt 30 (.pointer (some p)) 5).run Tryz.prog w = .ok (.pointer (some (p.add 5))) w := fun p w => by kernel_rfl
theorem fa_37_0 : ∀ p w, (Instr.fieldAt 37 (.pointer (some p)) 0).run Tryz.prog w = .ok (.pointer (some (p.add 0))) w := fun p w => by kernel_rfl
theorem fa_37_1 : ∀ p w, (Instr.fieldAt 37 (.pointer (some p)) 1).run Tryz.prog w = .ok (.pointer (some (p.add 1))) w := fun p w => by kernel_rfl
theorem fa_37_2 : ∀ p w, (Instr.fieldAt 37 (.pointer (some p)) 2).run Tryz.prog w = .ok (.pointer (some (p.add 2))) w := fun p w => by kernel_rfl
theorem fa_37_3 : ∀ p w, (Instr.fieldAt 37 (.pointer (some p)) 3).run Tryz.prog w = .ok (.pointer (some (p.add 3))) w := fun p w => by kernel_rfl
theorem fa_47_1 : ∀ p w, (Instr.fieldAt 47 (.pointer (some p)) 1).run Tryz.prog w = .ok (.pointer (some (p.add 1))) w := fun p w => by kernel_rfl
theorem fa_47_2 : ∀ p w, (Instr.fieldAt 47 (.pointer (some p)) 2).run Tryz.prog w = .ok (.pointer (some (p.add 2))) w := fun p w => by kernel_rfl
theorem fa_47_8 : ∀ p w, (Instr.fieldAt 47 (.pointer (some p)) 8).run Tryz.prog w = .ok (.pointer (some (p.add 8))) w := fun p w => by kernel_rfl
theorem fa_47_9 : ∀ p w, (Instr.fieldAt 47 (.pointer (some p)) 9).run Tryz.prog w = .ok (.pointer (some (p.add 29))) w := fun p w => by kernel_rfl
theorem fa_68_0 : ∀ p w, (Instr.fieldAt 68 (.pointer (some p)) 0).run Tryz.prog w = .ok (.pointer (some (p.add 0))) w := fun p w => by kernel_rfl
theorem fa_68_1 : ∀ p w, (Instr.fieldAt 68 (.pointer (some p)) 1).run Tryz.prog w = .ok (.pointer (some (p.add 1))) w := fun p w => by kernel_rfl
theorem fa_68_2 : ∀ p w, (Instr.fieldAt 68 (.pointer (some p)) 2).run Tryz.prog w = .ok (.pointer (some (p.add 4))) w := fun p w => by kernel_rfl
theorem fa_68_3 : ∀ p w, (Instr.fieldAt 68 (.pointer (some p)) 3).run Tryz.prog w = .ok (.pointer (some (p.add 7))) w := fun p w => by kernel_rfl
theorem fa_68_4 : ∀ p w, (Instr.fieldAt 68 (.pointer (some p)) 4).run Tryz.prog w = .ok (.pointer (some (p.add 8))) w := fun p w => by kernel_rfl
theorem fa_68_5 : ∀ p w, (Instr.fieldAt 68 (.pointer (some p)) 5).run Tryz.prog w = .ok (.pointer (some (p.add 9))) w := fun p w => by kernel_rfl
theorem fa_68_6 : ∀ p w, (Instr.fieldAt 68 (.pointer (some p)) 6).run Tryz.prog w = .ok (.pointer (some (p.add 10))) w := fun p w => by kernel_rfl
theorem fa_68_7 : ∀ p w, (Instr.fieldAt 68 (.pointer (some p)) 7).run Tryz.prog w = .ok (.pointer (some (p.add 11))) w := fun p w => by kernel_rfl
theorem fa_68_8 : ∀ p w, (Instr.fieldAt 68 (.pointer (some p)) 8).run Tryz.prog w = .ok (.pointer (some (p.add 12))) w := fun p w => by kernel_rfl
theorem fa_68_9 : ∀ p w, (Instr.fieldAt 68 (.pointer (some p)) 9).run Tryz.prog w = .ok (.pointer (some (p.add 13))) w := fun p w => by kernel_rfl
theorem fa_68_10 : ∀ p w, (Instr.fieldAt 68 (.pointer (some p)) 10).run Tryz.prog w = .ok (.pointer (some (p.add 16))) w := fun p w => by kernel_rfl
theorem fa_68_11 : ∀ p w, (Instr.fieldAt 68 (.pointer (some p)) 11).run Tryz.prog w = .ok (.pointer (some (p.add 48))) w := fun p w => by kernel_rfl
theorem fa_68_12 : ∀ p w, (Instr.fieldAt 68 (.pointer (some p)) 12).run Tryz.prog w = .ok (.pointer (some (p.add 49))) w := fun p w => by kernel_rfl
theorem fa_68_13 : ∀ p w, (Instr.fieldAt 68 (.pointer (some p)) 13).run Tryz.prog w = .ok (.pointer (some (p.add 50))) w := fun p w => by kernel_rfl
theorem fa_68_14 : ∀ p w, (Instr.fieldAt 68 (.pointer (some p)) 14).run Tryz.prog w = .ok (.pointer (some (p.add 51))) w := fun p w => by kernel_rfl
theorem fa_68_15 : ∀ p w, (Instr.fieldAt 68 (.pointer (some p)) 15).run Tryz.prog w = .ok (.pointer (some (p.add 52))) w := fun p w => by kernel_rfl
theorem fa_68_16 : ∀ p w, (Instr.fieldAt 68 (.pointer (some p)) 16).run Tryz.prog w = .ok (.pointer (some (p.add 53))) w := fun p w => by kernel_rfl
theorem fa_68_17 : ∀ p w, (Instr.fieldAt 68 (.pointer (some p)) 17).run Tryz.prog w = .ok (.pointer (some (p.add 54))) w := fun p w => by kernel_rfl
theorem fa_68_18 : ∀ p w, (Instr.fieldAt 68 (.pointer (some p)) 18).run Tryz.prog w = .ok (.pointer (some (p.add 55))) w := fun p w => by kernel_rfl
theorem fa_68_19 : ∀ p w, (Instr.fieldAt 68 (.pointer (some p)) 19).run Tryz.prog w = .ok (.pointer (some (p.add 56))) w := fun p w => by kernel_rfl
theorem fa_81_0 : ∀ p w, (Instr.fieldAt 81 (.pointer (some p)) 0).run Tryz.prog w = .ok (.pointer (some (p.add 0))) w := fun p w => by kernel_rfl
theorem fa_81_1 : ∀ p w, (Instr.fieldAt 81 (.pointer (some p)) 1).run Tryz.prog w = .ok (.pointer (some (p.add 4))) w := fun p w => by kernel_rfl
theorem fa_81_2 : ∀ p w, (Instr.fieldAt 81 (.pointer (some p)) 2).run Tryz.prog w = .ok (.pointer (some (p.add 5))) w := fun p w => by kernel_rfl
theorem fa_81_3 : ∀ p w, (Instr.fieldAt 81 (.pointer (some p)) 3).run Tryz.prog w = .ok (.pointer (some (p.add 37))) w := fun p w => by kernel_rfl
theorem fa_81_4 : ∀ p w, (Instr.fieldAt 81 (.pointer (some p)) 4).run Tryz.prog w = .ok (.pointer (some (p.add 38))) w := fun p w => by kernel_rfl
theorem fa_81_5 : ∀ p w, (Instr.fieldAt 81 (.pointer (some p)) 5).run Tryz.prog w = .ok (.pointer (some (p.add 39))) w := fun p w => by kernel_rfl
theorem fa_81_6 : ∀ p w, (Instr.fieldAt 81 (.pointer (some p)) 6).run Tryz.prog w = .ok (.pointer (some (p.add 40))) w := fun p w => by kernel_rfl
theorem fa_117_0 : ∀ p w, (Instr.fieldAt 117 (.pointer (some p)) 0).run Tryz.prog w = .ok (.pointer (some (p.add 0))) w := fun p w => by kernel_rfl
theorem fa_117_1 : ∀ p w, (Instr.fieldAt 117 (.pointer (some p)) 1).run Tryz.prog w = .ok (.pointer (some (p.add 1))) w := fun p w => by kernel_rfl
theorem fa_134_0 : ∀ p w, (Instr.fieldAt 134 (.pointer (some p)) 0).run Tryz.prog w = .ok (.pointer (some (p.add 0))) w := fun p w => by kernel_rfl
theorem fa_139_0 : ∀ p w, (Instr.fieldAt 139 (.pointer (some p)) 0).run Tryz.prog w = .ok (.pointer (some (p.add 0))) w := fun p w => by kernel_rfl
theorem fa_139_1 : ∀ p w, (Instr.fieldAt 139 (.pointer (some p)) 1).run Tryz.prog w = .ok (.pointer (some (p.add 2))) w := fun p w => by kernel_rfl
theorem fa_141_0 : ∀ p w, (Instr.fieldAt 141 (.pointer (some p)) 0).run Tryz.prog w = .ok (.pointer (some (p.add 0))) w := fun p w => by kernel_rfl
theorem fa_141_1 : ∀ p w, (Instr.fieldAt 141 (.pointer (some p)) 1).run Tryz.prog w = .ok (.pointer (some (p.add 1))) w := fun p w => by kernel_rfl
theorem fa_162_0 : ∀ p w, (Instr.fieldAt 162 (.pointer (some p)) 0).run Tryz.prog w = .ok (.pointer (some (p.add 0))) w := fun p w => by kernel_rfl
theorem fa_179_0 : ∀ p w, (Instr.fieldAt 179 (.pointer (some p)) 0).run Tryz.prog w = .ok (.pointer (some (p.add 0))) w := fun p w => by kernel_rfl
theorem fa_179_1 : ∀ p w, (Instr.fieldAt 179 (.pointer (some p)) 1).run Tryz.prog w = .ok (.pointer (some (p.add 8))) w := fun p w => by kernel_rfl
theorem fa_179_2 : ∀ p w, (Instr.fieldAt 179 (.pointer (some p)) 2).run Tryz.prog w = .ok (.pointer (some (p.add 9))) w := fun p w => by kernel_rfl
theorem fa_179_3 : ∀ p w, (Instr.fieldAt 179 (.pointer (some p)) 3).run Tryz.prog w = .ok (.pointer (some (p.add 10))) w := fun p w => by kernel_rfl
theorem pl_30 : StrT Tryz.prog 30 #[(0, 1), (1, 1), (2, 1), (3, 1), (4, 1), (5, 16)] := ⟨_, Tryz.runUnderlying30, fun w => by kernel_rfl⟩
theorem pl_37 : StrT Tryz.prog 37 #[(0, 1), (1, 1), (2, 1), (3, 1)] := ⟨_, Tryz.runUnderlying37, fun w => by kernel_rfl⟩
theorem pl_68 : StrT Tryz.prog 68 #[(0, 1), (1, 3), (4, 3), (7, 1), (8, 1), (9, 1), (10, 1), (11, 1), (12, 1), (13, 3), (16, 32), (48, 1), (49, 1), (50, 1), (51, 1), (52, 1), (53, 1), (54, 1), (55, 1), (56, 1)] := ⟨_, Tryz.runUnderlying68, fun w => by kernel_rfl⟩
theorem pl_81 : StrT Tryz.prog 81 #[(0, 4), (4, 1), (5, 32), (37, 1), (38, 1), (39, 1), (40, 1)] := ⟨_, Tryz.runUnderlying81, fun w => by kernel_rfl⟩
theorem pl_117 : StrT Tryz.prog 117 #[(0, 1), (1, 1)] := ⟨_, Tryz.runUnderlying117, fun w => by kernel_rfl⟩
theorem pl_134 : StrT Tryz.prog 134 #[(0, 1)] := ⟨_, Tryz.runUnderlying134, fun w => by kernel_rfl⟩
theorem pl_139 : StrT Tryz.prog 139 #[(0, 2), (2, 21)] := ⟨_, Tryz.runUnderlying139, fun w => by kernel_rfl⟩
theorem pl_141 : StrT Tryz.prog 141 #[(0, 1), (1, 32)] := ⟨_, Tryz.runUnderlying141, fun w => by kernel_rfl⟩
theorem pl_162 : StrT Tryz.prog 162 #[(0, 1)] := ⟨_, Tryz.runUnderlying162, fun w => by kernel_rfl⟩
theorem pl_179 : StrT Tryz.prog 179 #[(0, 8), (8, 1), (9, 1), (10, 1)] := ⟨_, Tryz.runUnderlying179, fun w => by kernel_rfl⟩
theorem el_26 : ElemT Tryz.prog 26 5 1 1 := ⟨by kernel_rfl, ⟨Tryz.t5, _, by kernel_rfl, (by first | exact rfl | kernel_rfl), by kernel_rfl, by kernel_rfl, by kernel_rfl⟩, by decide⟩
theorem el_39 : ElemT Tryz.prog 39 23 32 32 := ⟨by kernel_rfl, ⟨Tryz.t23, _, by kernel_rfl, (by first | exact rfl | kernel_rfl), by kernel_rfl, by kernel_rfl, by kernel_rfl⟩, by decide⟩
theorem el_51 : ElemT Tryz.prog 51 30 21 72 := ⟨by kernel_rfl, ⟨Tryz.t30, _, by kernel_rfl, (by first | exact rfl | kernel_rfl), by kernel_rfl, by kernel_rfl, by kernel_rfl⟩, by decide⟩
theorem el_82 : ElemT Tryz.prog 82 117 2 8 := ⟨by kernel_rfl, ⟨Tryz.t117, _, by kernel_rfl, (by first | exact rfl | kernel_rfl), by kernel_rfl, by kernel_rfl, by kernel_rfl⟩, by decide⟩
theorem el_100 : ElemT Tryz.prog 100 139 23 80 := ⟨by kernel_rfl, ⟨Tryz.t139, _, by kernel_rfl, (by first | exact rfl | kernel_rfl), by kernel_rfl, by kernel_rfl, by kernel_rfl⟩, by decide⟩
theorem el_210 : ElemT Tryz.prog 210 24 1 4 := ⟨by kernel_rfl, ⟨Tryz.t24, _, by kernel_rfl, (by first | exact rfl | kernel_rfl), by kernel_rfl, by kernel_rfl, by kernel_rfl⟩, by decide⟩
end Go.Proofs.YtbdnebedmdoehaaGreat
