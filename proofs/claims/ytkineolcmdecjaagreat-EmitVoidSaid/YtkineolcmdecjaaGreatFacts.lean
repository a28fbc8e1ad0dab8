/- The facts on types that the walks want, by program. -/
import Derived.Test.YtkineolcmdecjaaGreatPD
import Derived.Test.YtkineolcmdecjaaGreatProg
import Derived.KernelRfl
namespace Go.Proofs.YtkineolcmdecjaaGreat
open Go.PK
theorem mixed : Tryz.prog.follows .mixedOrders = true := by kernel_rfl
theorem fa_29_0 : ∀ p w, (Instr.fieldAt 29 (.pointer (some p)) 0).run Tryz.prog w = .ok (.pointer (some (p.add 0))) w := fun p w => by kernel_rfl
theorem fa_29_1 : ∀ p w, (Instr.fieldAt 29 (.pointer (some p)) 1).run Tryz.prog w = .ok (.pointer (some (p.add 1))) w := fun p w => by kernel_rfl
theorem fa_29_2 : ∀ p w, (Instr.fieldAt 29 (.pointer (some p)) 2).run Tryz.prog w = .ok (.pointer (some (p.add 2))) w := fun p w => by kernel_rfl
theorem fa_29_3 : ∀ p w, (Instr.fieldAt 29 (.pointer (some p)) 3).run Tryz.prog w = .ok (.pointer (some (p.add 3))) w := fun p w => by kernel_rfl
theorem fa_34_0 : ∀ p w, (Instr.fieldAt 34 (.pointer (some p)) 0).run Tryz.prog w = .ok (.pointer (some (p.add 0))) w := fun p w => by kernel_rfl
theorem fa_34_1 : ∀ p w, (Instr.fieldAt 34 (.pointer (some p)) 1).run Tryz.prog w = .ok (.pointer (some (p.add 1))) w := fun p w => by kernel_rfl
theorem fa_34_2 : ∀ p w, (Instr.fieldAt 34 (.pointer (some p)) 2).run Tryz.prog w = .ok (.pointer (some (p.add 4))) w := fun p w => by kernel_rfl
theorem fa_34_3 : ∀ p w, (Instr.fieldAt 34 (.pointer (some p)) 3).run Tryz.prog w = .ok (.pointer (some (p.add 5))) w := fun p w => by kernel_rfl
theorem fa_34_4 : ∀ p w, (Instr.fieldAt 34 (.pointer (some p)) 4).run Tryz.prog w = .ok (.pointer (some (p.add 9))) w := fun p w => by kernel_rfl
theorem fa_34_5 : ∀ p w, (Instr.fieldAt 34 (.pointer (some p)) 5).run Tryz.prog w = .ok (.pointer (some (p.add 41))) w := fun p w => by kernel_rfl
theorem fa_34_6 : ∀ p w, (Instr.fieldAt 34 (.pointer (some p)) 6).run Tryz.prog w = .ok (.pointer (some (p.add 42))) w := fun p w => by kernel_rfl
theorem fa_34_7 : ∀ p w, (Instr.fieldAt 34 (.pointer (some p)) 7).run Tryz.prog w = .ok (.pointer (some (p.add 43))) w := fun p w => by kernel_rfl
theorem fa_34_8 : ∀ p w, (Instr.fieldAt 34 (.pointer (some p)) 8).run Tryz.prog w = .ok (.pointer (some (p.add 44))) w := fun p w => by kernel_rfl
theorem fa_69_0 : ∀ p w, (Instr.fieldAt 69 (.pointer (some p)) 0).run Tryz.prog w = .ok (.pointer (some (p.add 0))) w := fun p w => by kernel_rfl
theorem fa_69_1 : ∀ p w, (Instr.fieldAt 69 (.pointer (some p)) 1).run Tryz.prog w = .ok (.pointer (some (p.add 1))) w := fun p w => by kernel_rfl
theorem fa_69_2 : ∀ p w, (Instr.fieldAt 69 (.pointer (some p)) 2).run Tryz.prog w = .ok (.pointer (some (p.add 4))) w := fun p w => by kernel_rfl
theorem fa_69_3 : ∀ p w, (Instr.fieldAt 69 (.pointer (some p)) 3).run Tryz.prog w = .ok (.pointer (some (p.add 7))) w := fun p w => by kernel_rfl
theorem fa_69_4 : ∀ p w, (Instr.fieldAt 69 (.pointer (some p)) 4).run Tryz.prog w = .ok (.pointer (some (p.add 8))) w := fun p w => by kernel_rfl
theorem fa_69_5 : ∀ p w, (Instr.fieldAt 69 (.pointer (some p)) 5).run Tryz.prog w = .ok (.pointer (some (p.add 9))) w := fun p w => by kernel_rfl
theorem fa_69_6 : ∀ p w, (Instr.fieldAt 69 (.pointer (some p)) 6).run Tryz.prog w = .ok (.pointer (some (p.add 10))) w := fun p w => by kernel_rfl
theorem fa_69_7 : ∀ p w, (Instr.fieldAt 69 (.pointer (some p)) 7).run Tryz.prog w = .ok (.pointer (some (p.add 11))) w := fun p w => by kernel_rfl
theorem fa_69_8 : ∀ p w, (Instr.fieldAt 69 (.pointer (some p)) 8).run Tryz.prog w = .ok (.pointer (some (p.add 12))) w := fun p w => by kernel_rfl
theorem fa_69_9 : ∀ p w, (Instr.fieldAt 69 (.pointer (some p)) 9).run Tryz.prog w = .ok (.pointer (some (p.add 13))) w := fun p w => by kernel_rfl
theorem fa_69_10 : ∀ p w, (Instr.fieldAt 69 (.pointer (some p)) 10).run Tryz.prog w = .ok (.pointer (some (p.add 16))) w := fun p w => by kernel_rfl
theorem fa_69_11 : ∀ p w, (Instr.fieldAt 69 (.pointer (some p)) 11).run Tryz.prog w = .ok (.pointer (some (p.add 48))) w := fun p w => by kernel_rfl
theorem fa_69_12 : ∀ p w, (Instr.fieldAt 69 (.pointer (some p)) 12).run Tryz.prog w = .ok (.pointer (some (p.add 49))) w := fun p w => by kernel_rfl
theorem fa_69_13 : ∀ p w, (Instr.fieldAt 69 (.pointer (some p)) 13).run Tryz.prog w = .ok (.pointer (some (p.add 50))) w := fun p w => by kernel_rfl
theorem fa_69_14 : ∀ p w, (Instr.fieldAt 69 (.pointer (some p)) 14).run Tryz.prog w = .ok (.pointer (some (p.add 51))) w := fun p w => by kernel_rfl
theorem fa_69_15 : ∀ p w, (Instr.fieldAt 69 (.pointer (some p)) 15).run Tryz.prog w = .ok (.pointer (some (p.add 52))) w := fun p w => by kernel_rfl
theorem fa_69_16 : ∀ p w, (Instr.fieldAt 69 (.pointer (some p)) 16).run Tryz.prog w = .ok (.pointer (some (p.add 53))) w := fun p w => by kernel_rfl
theorem fa_69_17 : ∀ p w, (Instr.fieldAt 69 (.pointer (some p)) 17).run Tryz.prog w = .ok (.pointer (some (p.add 54))) w := fun p w => by kernel_rfl
theorem fa_69_18 : ∀ p w, (Instr.fieldAt 69 (.pointer (some p)) 18).run Tryz.prog w = .ok (.pointer (some (p.add 55))) w := fun p w => by kernel_rfl
theorem fa_69_19 : ∀ p w, (Instr.fieldAt 69 (.pointer (some p)) 19).run Tryz.prog w = .ok (.pointer (some (p.add 56))) w := fun p w => by kernel_rfl
theorem fa_71_1 : ∀ p w, (Instr.fieldAt 71 (.pointer (some p)) 1).run Tryz.prog w = .ok (.pointer (some (p.add 1))) w := fun p w => by kernel_rfl
theorem fa_71_2 : ∀ p w, (Instr.fieldAt 71 (.pointer (some p)) 2).run Tryz.prog w = .ok (.pointer (some (p.add 2))) w := fun p w => by kernel_rfl
theorem fa_71_3 : ∀ p w, (Instr.fieldAt 71 (.pointer (some p)) 3).run Tryz.prog w = .ok (.pointer (some (p.add 3))) w := fun p w => by kernel_rfl
theorem fa_78_0 : ∀ p w, (Instr.fieldAt 78 (.pointer (some p)) 0).run Tryz.prog w = .ok (.pointer (some (p.add 0))) w := fun p w => by kernel_rfl
theorem fa_78_1 : ∀ p w, (Instr.fieldAt 78 (.pointer (some p)) 1).run Tryz.prog w = .ok (.pointer (some (p.add 1))) w := fun p w => by kernel_rfl
theorem fa_78_2 : ∀ p w, (Instr.fieldAt 78 (.pointer (some p)) 2).run Tryz.prog w = .ok (.pointer (some (p.add 2))) w := fun p w => by kernel_rfl
theorem fa_78_3 : ∀ p w, (Instr.fieldAt 78 (.pointer (some p)) 3).run Tryz.prog w = .ok (.pointer (some (p.add 3))) w := fun p w => by kernel_rfl
theorem fa_78_4 : ∀ p w, (Instr.fieldAt 78 (.pointer (some p)) 4).run Tryz.prog w = .ok (.pointer (some (p.add 4))) w := fun p w => by kernel_rfl
theorem fa_78_5 : ∀ p w, (Instr.fieldAt 78 (.pointer (some p)) 5).run Tryz.prog w = .ok (.pointer (some (p.add 5))) w := fun p w => by kernel_rfl
theorem fa_93_2 : ∀ p w, (Instr.fieldAt 93 (.pointer (some p)) 2).run Tryz.prog w = .ok (.pointer (some (p.add 46))) w := fun p w => by kernel_rfl
theorem fa_93_3 : ∀ p w, (Instr.fieldAt 93 (.pointer (some p)) 3).run Tryz.prog w = .ok (.pointer (some (p.add 47))) w := fun p w => by kernel_rfl
theorem fa_93_4 : ∀ p w, (Instr.fieldAt 93 (.pointer (some p)) 4).run Tryz.prog w = .ok (.pointer (some (p.add 48))) w := fun p w => by kernel_rfl
theorem fa_118_0 : ∀ p w, (Instr.fieldAt 118 (.pointer (some p)) 0).run Tryz.prog w = .ok (.pointer (some (p.add 0))) w := fun p w => by kernel_rfl
theorem fa_118_1 : ∀ p w, (Instr.fieldAt 118 (.pointer (some p)) 1).run Tryz.prog w = .ok (.pointer (some (p.add 1))) w := fun p w => by kernel_rfl
theorem fa_118_2 : ∀ p w, (Instr.fieldAt 118 (.pointer (some p)) 2).run Tryz.prog w = .ok (.pointer (some (p.add 2))) w := fun p w => by kernel_rfl
theorem fa_120_0 : ∀ p w, (Instr.fieldAt 120 (.pointer (some p)) 0).run Tryz.prog w = .ok (.pointer (some (p.add 0))) w := fun p w => by kernel_rfl
theorem fa_120_1 : ∀ p w, (Instr.fieldAt 120 (.pointer (some p)) 1).run Tryz.prog w = .ok (.pointer (some (p.add 3))) w := fun p w => by kernel_rfl
theorem fa_120_2 : ∀ p w, (Instr.fieldAt 120 (.pointer (some p)) 2).run Tryz.prog w = .ok (.pointer (some (p.add 4))) w := fun p w => by kernel_rfl
theorem fa_120_3 : ∀ p w, (Instr.fieldAt 120 (.pointer (some p)) 3).run Tryz.prog w = .ok (.pointer (some (p.add 5))) w := fun p w => by kernel_rfl
theorem fa_120_4 : ∀ p w, (Instr.fieldAt 120 (.pointer (some p)) 4).run Tryz.prog w = .ok (.pointer (some (p.add 6))) w := fun p w => by kernel_rfl
theorem fa_120_5 : ∀ p w, (Instr.fieldAt 120 (.pointer (some p)) 5).run Tryz.prog w = .ok (.pointer (some (p.add 7))) w := fun p w => by kernel_rfl
theorem fa_120_6 : ∀ p w, (Instr.fieldAt 120 (.pointer (some p)) 6).run Tryz.prog w = .ok (.pointer (some (p.add 8))) w := fun p w => by kernel_rfl
theorem fa_120_7 : ∀ p w, (Instr.fieldAt 120 (.pointer (some p)) 7).run Tryz.prog w = .ok (.pointer (some (p.add 9))) w := fun p w => by kernel_rfl
theorem fa_122_0 : ∀ p w, (Instr.fieldAt 122 (.pointer (some p)) 0).run Tryz.prog w = .ok (.pointer (some (p.add 0))) w := fun p w => by kernel_rfl
theorem fa_122_1 : ∀ p w, (Instr.fieldAt 122 (.pointer (some p)) 1).run Tryz.prog w = .ok (.pointer (some (p.add 1))) w := fun p w => by kernel_rfl
theorem fa_122_2 : ∀ p w, (Instr.fieldAt 122 (.pointer (some p)) 2).run Tryz.prog w = .ok (.pointer (some (p.add 2))) w := fun p w => by kernel_rfl
theorem fa_122_3 : ∀ p w, (Instr.fieldAt 122 (.pointer (some p)) 3).run Tryz.prog w = .ok (.pointer (some (p.add 34))) w := fun p w => by kernel_rfl
theorem fa_122_4 : ∀ p w, (Instr.fieldAt 122 (.pointer (some p)) 4).run Tryz.prog w = .ok (.pointer (some (p.add 35))) w := fun p w => by kernel_rfl
theorem fa_122_5 : ∀ p w, (Instr.fieldAt 122 (.pointer (some p)) 5).run Tryz.prog w = .ok (.pointer (some (p.add 36))) w := fun p w => by kernel_rfl
theorem fa_122_6 : ∀ p w, (Instr.fieldAt 122 (.pointer (some p)) 6).run Tryz.prog w = .ok (.pointer (some (p.add 37))) w := fun p w => by kernel_rfl
theorem fa_122_7 : ∀ p w, (Instr.fieldAt 122 (.pointer (some p)) 7).run Tryz.prog w = .ok (.pointer (some (p.add 38))) w := fun p w => by kernel_rfl
theorem fa_125_0 : ∀ p w, (Instr.fieldAt 125 (.pointer (some p)) 0).run Tryz.prog w = .ok (.pointer (some (p.add 0))) w := fun p w => by kernel_rfl
theorem fa_125_1 : ∀ p w, (Instr.fieldAt 125 (.pointer (some p)) 1).run Tryz.prog w = .ok (.pointer (some (p.add 48))) w := fun p w => by kernel_rfl
theorem fa_125_2 : ∀ p w, (Instr.fieldAt 125 (.pointer (some p)) 2).run Tryz.prog w = .ok (.pointer (some (p.add 49))) w := fun p w => by kernel_rfl
theorem fa_179_0 : ∀ p w, (Instr.fieldAt 179 (.pointer (some p)) 0).run Tryz.prog w = .ok (.pointer (some (p.add 0))) w := fun p w => by kernel_rfl
theorem fa_179_1 : ∀ p w, (Instr.fieldAt 179 (.pointer (some p)) 1).run Tryz.prog w = .ok (.pointer (some (p.add 3))) w := fun p w => by kernel_rfl
theorem fa_179_2 : ∀ p w, (Instr.fieldAt 179 (.pointer (some p)) 2).run Tryz.prog w = .ok (.pointer (some (p.add 4))) w := fun p w => by kernel_rfl
theorem fa_217_0 : ∀ p w, (Instr.fieldAt 217 (.pointer (some p)) 0).run Tryz.prog w = .ok (.pointer (some (p.add 0))) w := fun p w => by kernel_rfl
theorem fa_238_5 : ∀ p w, (Instr.fieldAt 238 (.pointer (some p)) 5).run Tryz.prog w = .ok (.pointer (some (p.add 20))) w := fun p w => by kernel_rfl
theorem fa_240_0 : ∀ p w, (Instr.fieldAt 240 (.pointer (some p)) 0).run Tryz.prog w = .ok (.pointer (some (p.add 0))) w := fun p w => by kernel_rfl
theorem fa_240_1 : ∀ p w, (Instr.fieldAt 240 (.pointer (some p)) 1).run Tryz.prog w = .ok (.pointer (some (p.add 1))) w := fun p w => by kernel_rfl
theorem fa_240_2 : ∀ p w, (Instr.fieldAt 240 (.pointer (some p)) 2).run Tryz.prog w = .ok (.pointer (some (p.add 2))) w := fun p w => by kernel_rfl
theorem fa_240_3 : ∀ p w, (Instr.fieldAt 240 (.pointer (some p)) 3).run Tryz.prog w = .ok (.pointer (some (p.add 3))) w := fun p w => by kernel_rfl
theorem fa_242_0 : ∀ p w, (Instr.fieldAt 242 (.pointer (some p)) 0).run Tryz.prog w = .ok (.pointer (some (p.add 0))) w := fun p w => by kernel_rfl
theorem fa_242_1 : ∀ p w, (Instr.fieldAt 242 (.pointer (some p)) 1).run Tryz.prog w = .ok (.pointer (some (p.add 1))) w := fun p w => by kernel_rfl
theorem fa_242_2 : ∀ p w, (Instr.fieldAt 242 (.pointer (some p)) 2).run Tryz.prog w = .ok (.pointer (some (p.add 2))) w := fun p w => by kernel_rfl
theorem fa_242_3 : ∀ p w, (Instr.fieldAt 242 (.pointer (some p)) 3).run Tryz.prog w = .ok (.pointer (some (p.add 3))) w := fun p w => by kernel_rfl
theorem fa_282_0 : ∀ p w, (Instr.fieldAt 282 (.pointer (some p)) 0).run Tryz.prog w = .ok (.pointer (some (p.add 0))) w := fun p w => by kernel_rfl
theorem fa_354_0 : ∀ p w, (Instr.fieldAt 354 (.pointer (some p)) 0).run Tryz.prog w = .ok (.pointer (some (p.add 0))) w := fun p w => by kernel_rfl
theorem fa_354_1 : ∀ p w, (Instr.fieldAt 354 (.pointer (some p)) 1).run Tryz.prog w = .ok (.pointer (some (p.add 1))) w := fun p w => by kernel_rfl
theorem fa_368_0 : ∀ p w, (Instr.fieldAt 368 (.pointer (some p)) 0).run Tryz.prog w = .ok (.pointer (some (p.add 0))) w := fun p w => by kernel_rfl
theorem fa_368_1 : ∀ p w, (Instr.fieldAt 368 (.pointer (some p)) 1).run Tryz.prog w = .ok (.pointer (some (p.add 8))) w := fun p w => by kernel_rfl
theorem fa_368_2 : ∀ p w, (Instr.fieldAt 368 (.pointer (some p)) 2).run Tryz.prog w = .ok (.pointer (some (p.add 9))) w := fun p w => by kernel_rfl
theorem fa_368_3 : ∀ p w, (Instr.fieldAt 368 (.pointer (some p)) 3).run Tryz.prog w = .ok (.pointer (some (p.add 10))) w := fun p w => by kernel_rfl
theorem pl_29 : StrT Tryz.prog 29 #[(0, 1), (1, 1), (2, 1), (3, 1)] := ⟨_, Tryz.runUnderlying29, fun w => by kernel_rfl⟩
theorem pl_34 : StrT Tryz.prog 34 #[(0, 1), (1, 3), (4, 1), (5, 4), (9, 32), (41, 1), (42, 1), (43, 1), (44, 1)] := ⟨_, Tryz.runUnderlying34, fun w => by kernel_rfl⟩
theorem pl_69 : StrT Tryz.prog 69 #[(0, 1), (1, 3), (4, 3), (7, 1), (8, 1), (9, 1), (10, 1), (11, 1), (12, 1), (13, 3), (16, 32), (48, 1), (49, 1), (50, 1), (51, 1), (52, 1), (53, 1), (54, 1), (55, 1), (56, 1)] := ⟨_, Tryz.runUnderlying69, fun w => by kernel_rfl⟩
theorem pl_78 : StrT Tryz.prog 78 #[(0, 1), (1, 1), (2, 1), (3, 1), (4, 1), (5, 16)] := ⟨_, Tryz.runUnderlying78, fun w => by kernel_rfl⟩
theorem pl_93 : StrT Tryz.prog 93 #[(0, 45), (45, 1), (46, 1), (47, 1), (48, 1)] := ⟨_, Tryz.runUnderlying93, fun w => by kernel_rfl⟩
theorem pl_118 : StrT Tryz.prog 118 #[(0, 1), (1, 1), (2, 1)] := ⟨_, Tryz.runUnderlying118, fun w => by kernel_rfl⟩
theorem pl_120 : StrT Tryz.prog 120 #[(0, 3), (3, 1), (4, 1), (5, 1), (6, 1), (7, 1), (8, 1), (9, 1)] := ⟨_, Tryz.runUnderlying120, fun w => by kernel_rfl⟩
theorem pl_122 : StrT Tryz.prog 122 #[(0, 1), (1, 1), (2, 32), (34, 1), (35, 1), (36, 1), (37, 1), (38, 10)] := ⟨_, Tryz.runUnderlying122, fun w => by kernel_rfl⟩
theorem pl_125 : StrT Tryz.prog 125 #[(0, 48), (48, 1), (49, 1)] := ⟨_, Tryz.runUnderlying125, fun w => by kernel_rfl⟩
theorem pl_163 : StrT Tryz.prog 163 #[(0, 1), (1, 1), (2, 1), (3, 1), (4, 16)] := ⟨_, Tryz.runUnderlying163, fun w => by kernel_rfl⟩
theorem pl_179 : StrT Tryz.prog 179 #[(0, 3), (3, 1), (4, 1)] := ⟨_, Tryz.runUnderlying179, fun w => by kernel_rfl⟩
theorem pl_217 : StrT Tryz.prog 217 #[(0, 1)] := ⟨_, Tryz.runUnderlying217, fun w => by kernel_rfl⟩
theorem pl_229 : StrT Tryz.prog 229 #[(0, 1), (1, 1), (2, 24)] := ⟨_, Tryz.runUnderlying229, fun w => by kernel_rfl⟩
theorem pl_234 : StrT Tryz.prog 234 #[(0, 9), (9, 1)] := ⟨_, Tryz.runUnderlying234, fun w => by kernel_rfl⟩
theorem pl_238 : StrT Tryz.prog 238 #[(0, 3), (3, 3), (6, 3), (9, 1), (10, 10), (20, 1), (21, 1), (22, 1), (23, 1), (24, 1)] := ⟨_, Tryz.runUnderlying238, fun w => by kernel_rfl⟩
theorem pl_240 : StrT Tryz.prog 240 #[(0, 1), (1, 1), (2, 1), (3, 1)] := ⟨_, Tryz.runUnderlying240, fun w => by kernel_rfl⟩
theorem pl_242 : StrT Tryz.prog 242 #[(0, 1), (1, 1), (2, 1), (3, 4)] := ⟨_, Tryz.runUnderlying242, fun w => by kernel_rfl⟩
theorem pl_247 : StrT Tryz.prog 247 #[(0, 7), (7, 4), (11, 1)] := ⟨_, Tryz.runUnderlying247, fun w => by kernel_rfl⟩
theorem pl_282 : StrT Tryz.prog 282 #[(0, 1)] := ⟨_, Tryz.runUnderlying282, fun w => by kernel_rfl⟩
theorem pl_348 : StrT Tryz.prog 348 #[(0, 1), (1, 3), (4, 1), (5, 1), (6, 1)] := ⟨_, Tryz.runUnderlying348, fun w => by kernel_rfl⟩
theorem pl_354 : StrT Tryz.prog 354 #[(0, 1), (1, 1)] := ⟨_, Tryz.runUnderlying354, fun w => by kernel_rfl⟩
theorem pl_368 : StrT Tryz.prog 368 #[(0, 8), (8, 1), (9, 1), (10, 1)] := ⟨_, Tryz.runUnderlying368, fun w => by kernel_rfl⟩
theorem pl_373 : StrT Tryz.prog 373 #[(0, 1), (1, 1), (2, 1)] := ⟨_, Tryz.runUnderlying373, fun w => by kernel_rfl⟩
theorem pl_376 : StrT Tryz.prog 376 #[(0, 1), (1, 1), (2, 1)] := ⟨_, Tryz.runUnderlying376, fun w => by kernel_rfl⟩
theorem pl_381 : StrT Tryz.prog 381 #[(0, 1), (1, 1), (2, 1), (3, 40)] := ⟨_, Tryz.runUnderlying381, fun w => by kernel_rfl⟩
theorem el_24 : ElemT Tryz.prog 24 122 48 160 := ⟨by kernel_rfl, ⟨Tryz.t122, _, by kernel_rfl, (by first | exact rfl | kernel_rfl), by kernel_rfl, by kernel_rfl, by kernel_rfl⟩, by decide⟩
theorem el_52 : ElemT Tryz.prog 52 3 1 8 := ⟨by kernel_rfl, ⟨Tryz.t3, _, by kernel_rfl, (by first | exact rfl | kernel_rfl), by kernel_rfl, by kernel_rfl, by kernel_rfl⟩, by decide⟩
theorem el_72 : ElemT Tryz.prog 72 78 21 72 := ⟨by kernel_rfl, ⟨Tryz.t78, _, by kernel_rfl, (by first | exact rfl | kernel_rfl), by kernel_rfl, by kernel_rfl, by kernel_rfl⟩, by decide⟩
theorem el_74 : ElemT Tryz.prog 74 5 1 1 := ⟨by kernel_rfl, ⟨Tryz.t5, _, by kernel_rfl, (by first | exact rfl | kernel_rfl), by kernel_rfl, by kernel_rfl, by kernel_rfl⟩, by decide⟩
theorem el_89 : ElemT Tryz.prog 89 31 32 32 := ⟨by kernel_rfl, ⟨Tryz.t31, _, by kernel_rfl, (by first | exact rfl | kernel_rfl), by kernel_rfl, by kernel_rfl, by kernel_rfl⟩, by decide⟩
theorem el_161 : ElemT Tryz.prog 161 74 1 24 := ⟨by kernel_rfl, ⟨Tryz.t74, _, by kernel_rfl, (by first | exact rfl | kernel_rfl), by kernel_rfl, by kernel_rfl, by kernel_rfl⟩, by decide⟩
theorem el_177 : ElemT Tryz.prog 177 242 7 56 := ⟨by kernel_rfl, ⟨Tryz.t242, _, by kernel_rfl, (by first | exact rfl | kernel_rfl), by kernel_rfl, by kernel_rfl, by kernel_rfl⟩, by decide⟩
theorem el_389 : ElemT Tryz.prog 389 61 1 4 := ⟨by kernel_rfl, ⟨Tryz.t61, _, by kernel_rfl, (by first | exact rfl | kernel_rfl), by kernel_rfl, by kernel_rfl, by kernel_rfl⟩, by decide⟩
end Go.Proofs.YtkineolcmdecjaaGreat
