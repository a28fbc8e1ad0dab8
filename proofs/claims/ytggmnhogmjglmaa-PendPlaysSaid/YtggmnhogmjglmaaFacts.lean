/- The facts on types that the walks want, by program. -/
import Derived.Test.YtggmnhogmjglmaaPD
import Derived.Test.YtggmnhogmjglmaaProg
import Derived.KernelRfl
namespace Go.Proofs.Ytggmnhogmjglmaa
open Go.PK
theorem mixed : Try.prog.follows .mixedOrders = true := by kernel_rfl
theorem fa_28_0 : ∀ p w, (Instr.fieldAt 28 (.pointer (some p)) 0).run Try.prog w = .ok (.pointer (some (p.add 0))) w := fun p w => by kernel_rfl
theorem fa_28_1 : ∀ p w, (Instr.fieldAt 28 (.pointer (some p)) 1).run Try.prog w = .ok (.pointer (some (p.add 1))) w := fun p w => by kernel_rfl
theorem fa_34_0 : ∀ p w, (Instr.fieldAt 34 (.pointer (some p)) 0).run Try.prog w = .ok (.pointer (some (p.add 0))) w := fun p w => by kernel_rfl
theorem fa_34_1 : ∀ p w, (Instr.fieldAt 34 (.pointer (some p)) 1).run Try.prog w = .ok (.pointer (some (p.add 1))) w := fun p w => by kernel_rfl
theorem fa_34_2 : ∀ p w, (Instr.fieldAt 34 (.pointer (some p)) 2).run Try.prog w = .ok (.pointer (some (p.add 2))) w := fun p w => by kernel_rfl
theorem fa_34_3 : ∀ p w, (Instr.fieldAt 34 (.pointer (some p)) 3).run Try.prog w = .ok (.pointer (some (p.add 3))) w := fun p w => by kernel_rfl
theorem fa_34_4 : ∀ p w, (Instr.fieldAt 34 (.pointer (some p)) 4).run Try.prog w = .ok (.pointer (some (p.add 4))) w := fun p w => by kernel_rfl
theorem fa_34_5 : ∀ p w, (Instr.fieldAt 34 (.pointer (some p)) 5).run Try.prog w = .ok (.pointer (some (p.add 5))) w := fun p w => by kernel_rfl
theorem fa_36_0 : ∀ p w, (Instr.fieldAt 36 (.pointer (some p)) 0).run Try.prog w = .ok (.pointer (some (p.add 0))) w := fun p w => by kernel_rfl
theorem fa_36_1 : ∀ p w, (Instr.fieldAt 36 (.pointer (some p)) 1).run Try.prog w = .ok (.pointer (some (p.add 1))) w := fun p w => by kernel_rfl
theorem fa_36_2 : ∀ p w, (Instr.fieldAt 36 (.pointer (some p)) 2).run Try.prog w = .ok (.pointer (some (p.add 3))) w := fun p w => by kernel_rfl
theorem fa_41_0 : ∀ p w, (Instr.fieldAt 41 (.pointer (some p)) 0).run Try.prog w = .ok (.pointer (some (p.add 0))) w := fun p w => by kernel_rfl
theorem fa_41_1 : ∀ p w, (Instr.fieldAt 41 (.pointer (some p)) 1).run Try.prog w = .ok (.pointer (some (p.add 2))) w := fun p w => by kernel_rfl
theorem fa_43_0 : ∀ p w, (Instr.fieldAt 43 (.pointer (some p)) 0).run Try.prog w = .ok (.pointer (some (p.add 0))) w := fun p w => by kernel_rfl
theorem fa_43_1 : ∀ p w, (Instr.fieldAt 43 (.pointer (some p)) 1).run Try.prog w = .ok (.pointer (some (p.add 1))) w := fun p w => by kernel_rfl
theorem fa_54_0 : ∀ p w, (Instr.fieldAt 54 (.pointer (some p)) 0).run Try.prog w = .ok (.pointer (some (p.add 0))) w := fun p w => by kernel_rfl
theorem fa_65_0 : ∀ p w, (Instr.fieldAt 65 (.pointer (some p)) 0).run Try.prog w = .ok (.pointer (some (p.add 0))) w := fun p w => by kernel_rfl
theorem fa_65_1 : ∀ p w, (Instr.fieldAt 65 (.pointer (some p)) 1).run Try.prog w = .ok (.pointer (some (p.add 2))) w := fun p w => by kernel_rfl
theorem fa_68_0 : ∀ p w, (Instr.fieldAt 68 (.pointer (some p)) 0).run Try.prog w = .ok (.pointer (some (p.add 0))) w := fun p w => by kernel_rfl
theorem fa_79_0 : ∀ p w, (Instr.fieldAt 79 (.pointer (some p)) 0).run Try.prog w = .ok (.pointer (some (p.add 0))) w := fun p w => by kernel_rfl
theorem fa_79_1 : ∀ p w, (Instr.fieldAt 79 (.pointer (some p)) 1).run Try.prog w = .ok (.pointer (some (p.add 1))) w := fun p w => by kernel_rfl
theorem fa_81_0 : ∀ p w, (Instr.fieldAt 81 (.pointer (some p)) 0).run Try.prog w = .ok (.pointer (some (p.add 0))) w := fun p w => by kernel_rfl
theorem fa_81_1 : ∀ p w, (Instr.fieldAt 81 (.pointer (some p)) 1).run Try.prog w = .ok (.pointer (some (p.add 1))) w := fun p w => by kernel_rfl
theorem fa_81_2 : ∀ p w, (Instr.fieldAt 81 (.pointer (some p)) 2).run Try.prog w = .ok (.pointer (some (p.add 3))) w := fun p w => by kernel_rfl
theorem fa_82_0 : ∀ p w, (Instr.fieldAt 82 (.pointer (some p)) 0).run Try.prog w = .ok (.pointer (some (p.add 0))) w := fun p w => by kernel_rfl
theorem fa_82_1 : ∀ p w, (Instr.fieldAt 82 (.pointer (some p)) 1).run Try.prog w = .ok (.pointer (some (p.add 1))) w := fun p w => by kernel_rfl
theorem fa_92_0 : ∀ p w, (Instr.fieldAt 92 (.pointer (some p)) 0).run Try.prog w = .ok (.pointer (some (p.add 0))) w := fun p w => by kernel_rfl
theorem fa_92_1 : ∀ p w, (Instr.fieldAt 92 (.pointer (some p)) 1).run Try.prog w = .ok (.pointer (some (p.add 1))) w := fun p w => by kernel_rfl
theorem fa_92_2 : ∀ p w, (Instr.fieldAt 92 (.pointer (some p)) 2).run Try.prog w = .ok (.pointer (some (p.add 2))) w := fun p w => by kernel_rfl
theorem fa_92_3 : ∀ p w, (Instr.fieldAt 92 (.pointer (some p)) 3).run Try.prog w = .ok (.pointer (some (p.add 26))) w := fun p w => by kernel_rfl
theorem fa_100_0 : ∀ p w, (Instr.fieldAt 100 (.pointer (some p)) 0).run Try.prog w = .ok (.pointer (some (p.add 0))) w := fun p w => by kernel_rfl
theorem fa_100_1 : ∀ p w, (Instr.fieldAt 100 (.pointer (some p)) 1).run Try.prog w = .ok (.pointer (some (p.add 1))) w := fun p w => by kernel_rfl
theorem fa_100_2 : ∀ p w, (Instr.fieldAt 100 (.pointer (some p)) 2).run Try.prog w = .ok (.pointer (some (p.add 2))) w := fun p w => by kernel_rfl
theorem fa_107_0 : ∀ p w, (Instr.fieldAt 107 (.pointer (some p)) 0).run Try.prog w = .ok (.pointer (some (p.add 0))) w := fun p w => by kernel_rfl
theorem fa_107_1 : ∀ p w, (Instr.fieldAt 107 (.pointer (some p)) 1).run Try.prog w = .ok (.pointer (some (p.add 1))) w := fun p w => by kernel_rfl
theorem fa_123_0 : ∀ p w, (Instr.fieldAt 123 (.pointer (some p)) 0).run Try.prog w = .ok (.pointer (some (p.add 0))) w := fun p w => by kernel_rfl
theorem fa_123_1 : ∀ p w, (Instr.fieldAt 123 (.pointer (some p)) 1).run Try.prog w = .ok (.pointer (some (p.add 1))) w := fun p w => by kernel_rfl
theorem pl_28 : StrT Try.prog 28 #[(0, 1), (1, 1)] := ⟨_, Try.runUnderlying28, fun w => by kernel_rfl⟩
theorem pl_34 : StrT Try.prog 34 #[(0, 1), (1, 1), (2, 1), (3, 1), (4, 1), (5, 16)] := ⟨_, Try.runUnderlying34, fun w => by kernel_rfl⟩
theorem pl_41 : StrT Try.prog 41 #[(0, 2), (2, 21)] := ⟨_, Try.runUnderlying41, fun w => by kernel_rfl⟩
theorem pl_43 : StrT Try.prog 43 #[(0, 1), (1, 1)] := ⟨_, Try.runUnderlying43, fun w => by kernel_rfl⟩
theorem pl_54 : StrT Try.prog 54 #[(0, 1)] := ⟨_, Try.runUnderlying54, fun w => by kernel_rfl⟩
theorem pl_65 : StrT Try.prog 65 #[(0, 2), (2, 21)] := ⟨_, Try.runUnderlying65, fun w => by kernel_rfl⟩
theorem pl_68 : StrT Try.prog 68 #[(0, 1)] := ⟨_, Try.runUnderlying68, fun w => by kernel_rfl⟩
theorem pl_79 : StrT Try.prog 79 #[(0, 1), (1, 1)] := ⟨_, Try.runUnderlying79, fun w => by kernel_rfl⟩
theorem pl_82 : StrT Try.prog 82 #[(0, 1), (1, 1)] := ⟨_, Try.runUnderlying82, fun w => by kernel_rfl⟩
theorem pl_92 : StrT Try.prog 92 #[(0, 1), (1, 1), (2, 24), (26, 24)] := ⟨_, Try.runUnderlying92, fun w => by kernel_rfl⟩
theorem pl_100 : StrT Try.prog 100 #[(0, 1), (1, 1), (2, 1)] := ⟨_, Try.runUnderlying100, fun w => by kernel_rfl⟩
theorem pl_107 : StrT Try.prog 107 #[(0, 1), (1, 1)] := ⟨_, Try.runUnderlying107, fun w => by kernel_rfl⟩
theorem pl_123 : StrT Try.prog 123 #[(0, 1), (1, 1)] := ⟨_, Try.runUnderlying123, fun w => by kernel_rfl⟩
theorem el_30 : ElemT Try.prog 30 5 1 1 := ⟨by kernel_rfl, ⟨Try.t5, _, by kernel_rfl, (by first | exact rfl | kernel_rfl), by kernel_rfl, by kernel_rfl, by kernel_rfl⟩, by decide⟩
theorem el_38 : ElemT Try.prog 38 41 23 80 := ⟨by kernel_rfl, ⟨Try.t41, _, by kernel_rfl, (by first | exact rfl | kernel_rfl), by kernel_rfl, by kernel_rfl, by kernel_rfl⟩, by decide⟩
theorem el_52 : ElemT Try.prog 52 65 23 80 := ⟨by kernel_rfl, ⟨Try.t65, _, by kernel_rfl, (by first | exact rfl | kernel_rfl), by kernel_rfl, by kernel_rfl, by kernel_rfl⟩, by decide⟩
theorem el_61 : ElemT Try.prog 61 28 2 8 := ⟨by kernel_rfl, ⟨Try.t28, _, by kernel_rfl, (by first | exact rfl | kernel_rfl), by kernel_rfl, by kernel_rfl, by kernel_rfl⟩, by decide⟩
theorem el_93 : ElemT Try.prog 93 79 2 16 := ⟨by kernel_rfl, ⟨Try.t79, _, by kernel_rfl, (by first | exact rfl | kernel_rfl), by kernel_rfl, by kernel_rfl, by kernel_rfl⟩, by decide⟩
theorem el_95 : ElemT Try.prog 95 82 2 16 := ⟨by kernel_rfl, ⟨Try.t82, _, by kernel_rfl, (by first | exact rfl | kernel_rfl), by kernel_rfl, by kernel_rfl, by kernel_rfl⟩, by decide⟩
theorem el_129 : ElemT Try.prog 129 3 1 8 := ⟨by kernel_rfl, ⟨Try.t3, _, by kernel_rfl, (by first | exact rfl | kernel_rfl), by kernel_rfl, by kernel_rfl, by kernel_rfl⟩, by decide⟩
end Go.Proofs.Ytggmnhogmjglmaa
