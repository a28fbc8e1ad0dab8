import Derived.Test.YtkineolcmdecjaaGreatPD
import Derived.Test.YtkineolcmdecjaaGreatProg
import Derived.KernelRfl
namespace Go.Proofs.YtkineolcmdecjaaGreat
open Go.PK
open Tryz
theorem mixed:prog.follows .mixedOrders=true:=by kernel_rfl
theorem fa_29_0:∀p w,(Instr.fieldAt 29 (.pointer (some p)) 0).run prog w= .ok (.pointer (some (p.add 0))) w:=fun p w=> by kernel_rfl
theorem fa_29_1:∀p w,(Instr.fieldAt 29 (.pointer (some p)) 1).run prog w= .ok (.pointer (some (p.add 1))) w:=fun p w=> by kernel_rfl
theorem fa_29_2:∀p w,(Instr.fieldAt 29 (.pointer (some p)) 2).run prog w= .ok (.pointer (some (p.add 2))) w:=fun p w=> by kernel_rfl
theorem fa_29_3:∀p w,(Instr.fieldAt 29 (.pointer (some p)) 3).run prog w= .ok (.pointer (some (p.add 3))) w:=fun p w=> by kernel_rfl
theorem fa_34_0:∀p w,(Instr.fieldAt 34 (.pointer (some p)) 0).run prog w= .ok (.pointer (some (p.add 0))) w:=fun p w=> by kernel_rfl
theorem fa_34_1:∀p w,(Instr.fieldAt 34 (.pointer (some p)) 1).run prog w= .ok (.pointer (some (p.add 1))) w:=fun p w=> by kernel_rfl
theorem fa_34_2:∀p w,(Instr.fieldAt 34 (.pointer (some p)) 2).run prog w= .ok (.pointer (some (p.add 4))) w:=fun p w=> by kernel_rfl
theorem fa_34_3:∀p w,(Instr.fieldAt 34 (.pointer (some p)) 3).run prog w= .ok (.pointer (some (p.add 5))) w:=fun p w=> by kernel_rfl
theorem fa_34_4:∀p w,(Instr.fieldAt 34 (.pointer (some p)) 4).run prog w= .ok (.pointer (some (p.add 9))) w:=fun p w=> by kernel_rfl
theorem fa_34_5:∀p w,(Instr.fieldAt 34 (.pointer (some p)) 5).run prog w= .ok (.pointer (some (p.add 41))) w:=fun p w=> by kernel_rfl
theorem fa_34_6:∀p w,(Instr.fieldAt 34 (.pointer (some p)) 6).run prog w= .ok (.pointer (some (p.add 42))) w:=fun p w=> by kernel_rfl
theorem fa_34_7:∀p w,(Instr.fieldAt 34 (.pointer (some p)) 7).run prog w= .ok (.pointer (some (p.add 43))) w:=fun p w=> by kernel_rfl
theorem fa_34_8:∀p w,(Instr.fieldAt 34 (.pointer (some p)) 8).run prog w= .ok (.pointer (some (p.add 44))) w:=fun p w=> by kernel_rfl
theorem fa_45_0:∀p w,(Instr.fieldAt 45 (.pointer (some p)) 0).run prog w= .ok (.pointer (some (p.add 0))) w:=fun p w=> by kernel_rfl
theorem fa_45_1:∀p w,(Instr.fieldAt 45 (.pointer (some p)) 1).run prog w= .ok (.pointer (some (p.add 1))) w:=fun p w=> by kernel_rfl
theorem fa_45_2:∀p w,(Instr.fieldAt 45 (.pointer (some p)) 2).run prog w= .ok (.pointer (some (p.add 2))) w:=fun p w=> by kernel_rfl
theorem fa_45_3:∀p w,(Instr.fieldAt 45 (.pointer (some p)) 3).run prog w= .ok (.pointer (some (p.add 3))) w:=fun p w=> by kernel_rfl
theorem fa_47_0:∀p w,(Instr.fieldAt 47 (.pointer (some p)) 0).run prog w= .ok (.pointer (some (p.add 0))) w:=fun p w=> by kernel_rfl
theorem fa_47_1:∀p w,(Instr.fieldAt 47 (.pointer (some p)) 1).run prog w= .ok (.pointer (some (p.add 1))) w:=fun p w=> by kernel_rfl
theorem fa_47_2:∀p w,(Instr.fieldAt 47 (.pointer (some p)) 2).run prog w= .ok (.pointer (some (p.add 4))) w:=fun p w=> by kernel_rfl
theorem fa_47_3:∀p w,(Instr.fieldAt 47 (.pointer (some p)) 3).run prog w= .ok (.pointer (some (p.add 5))) w:=fun p w=> by kernel_rfl
theorem fa_47_4:∀p w,(Instr.fieldAt 47 (.pointer (some p)) 4).run prog w= .ok (.pointer (some (p.add 9))) w:=fun p w=> by kernel_rfl
theorem fa_47_5:∀p w,(Instr.fieldAt 47 (.pointer (some p)) 5).run prog w= .ok (.pointer (some (p.add 41))) w:=fun p w=> by kernel_rfl
theorem fa_47_6:∀p w,(Instr.fieldAt 47 (.pointer (some p)) 6).run prog w= .ok (.pointer (some (p.add 42))) w:=fun p w=> by kernel_rfl
theorem fa_47_7:∀p w,(Instr.fieldAt 47 (.pointer (some p)) 7).run prog w= .ok (.pointer (some (p.add 43))) w:=fun p w=> by kernel_rfl
theorem fa_47_8:∀p w,(Instr.fieldAt 47 (.pointer (some p)) 8).run prog w= .ok (.pointer (some (p.add 44))) w:=fun p w=> by kernel_rfl
theorem fa_55_0:∀p w,(Instr.fieldAt 55 (.pointer (some p)) 0).run prog w= .ok (.pointer (some (p.add 0))) w:=fun p w=> by kernel_rfl
theorem fa_55_1:∀p w,(Instr.fieldAt 55 (.pointer (some p)) 1).run prog w= .ok (.pointer (some (p.add 1))) w:=fun p w=> by kernel_rfl
theorem fa_55_2:∀p w,(Instr.fieldAt 55 (.pointer (some p)) 2).run prog w= .ok (.pointer (some (p.add 2))) w:=fun p w=> by kernel_rfl
theorem fa_57_0:∀p w,(Instr.fieldAt 57 (.pointer (some p)) 0).run prog w= .ok (.pointer (some (p.add 0))) w:=fun p w=> by kernel_rfl
theorem fa_57_1:∀p w,(Instr.fieldAt 57 (.pointer (some p)) 1).run prog w= .ok (.pointer (some (p.add 3))) w:=fun p w=> by kernel_rfl
theorem fa_57_2:∀p w,(Instr.fieldAt 57 (.pointer (some p)) 2).run prog w= .ok (.pointer (some (p.add 4))) w:=fun p w=> by kernel_rfl
theorem fa_57_3:∀p w,(Instr.fieldAt 57 (.pointer (some p)) 3).run prog w= .ok (.pointer (some (p.add 5))) w:=fun p w=> by kernel_rfl
theorem fa_57_4:∀p w,(Instr.fieldAt 57 (.pointer (some p)) 4).run prog w= .ok (.pointer (some (p.add 6))) w:=fun p w=> by kernel_rfl
theorem fa_57_5:∀p w,(Instr.fieldAt 57 (.pointer (some p)) 5).run prog w= .ok (.pointer (some (p.add 7))) w:=fun p w=> by kernel_rfl
theorem fa_57_6:∀p w,(Instr.fieldAt 57 (.pointer (some p)) 6).run prog w= .ok (.pointer (some (p.add 8))) w:=fun p w=> by kernel_rfl
theorem fa_57_7:∀p w,(Instr.fieldAt 57 (.pointer (some p)) 7).run prog w= .ok (.pointer (some (p.add 9))) w:=fun p w=> by kernel_rfl
theorem fa_59_0:∀p w,(Instr.fieldAt 59 (.pointer (some p)) 0).run prog w= .ok (.pointer (some (p.add 0))) w:=fun p w=> by kernel_rfl
theorem fa_59_1:∀p w,(Instr.fieldAt 59 (.pointer (some p)) 1).run prog w= .ok (.pointer (some (p.add 1))) w:=fun p w=> by kernel_rfl
theorem fa_59_2:∀p w,(Instr.fieldAt 59 (.pointer (some p)) 2).run prog w= .ok (.pointer (some (p.add 2))) w:=fun p w=> by kernel_rfl
theorem fa_59_3:∀p w,(Instr.fieldAt 59 (.pointer (some p)) 3).run prog w= .ok (.pointer (some (p.add 34))) w:=fun p w=> by kernel_rfl
theorem fa_59_4:∀p w,(Instr.fieldAt 59 (.pointer (some p)) 4).run prog w= .ok (.pointer (some (p.add 35))) w:=fun p w=> by kernel_rfl
theorem fa_59_5:∀p w,(Instr.fieldAt 59 (.pointer (some p)) 5).run prog w= .ok (.pointer (some (p.add 36))) w:=fun p w=> by kernel_rfl
theorem fa_59_6:∀p w,(Instr.fieldAt 59 (.pointer (some p)) 6).run prog w= .ok (.pointer (some (p.add 37))) w:=fun p w=> by kernel_rfl
theorem fa_59_7:∀p w,(Instr.fieldAt 59 (.pointer (some p)) 7).run prog w= .ok (.pointer (some (p.add 38))) w:=fun p w=> by kernel_rfl
theorem fa_69_0:∀p w,(Instr.fieldAt 69 (.pointer (some p)) 0).run prog w= .ok (.pointer (some (p.add 0))) w:=fun p w=> by kernel_rfl
theorem fa_69_1:∀p w,(Instr.fieldAt 69 (.pointer (some p)) 1).run prog w= .ok (.pointer (some (p.add 1))) w:=fun p w=> by kernel_rfl
theorem fa_69_2:∀p w,(Instr.fieldAt 69 (.pointer (some p)) 2).run prog w= .ok (.pointer (some (p.add 4))) w:=fun p w=> by kernel_rfl
theorem fa_69_3:∀p w,(Instr.fieldAt 69 (.pointer (some p)) 3).run prog w= .ok (.pointer (some (p.add 7))) w:=fun p w=> by kernel_rfl
theorem fa_69_4:∀p w,(Instr.fieldAt 69 (.pointer (some p)) 4).run prog w= .ok (.pointer (some (p.add 8))) w:=fun p w=> by kernel_rfl
theorem fa_69_5:∀p w,(Instr.fieldAt 69 (.pointer (some p)) 5).run prog w= .ok (.pointer (some (p.add 9))) w:=fun p w=> by kernel_rfl
theorem fa_69_6:∀p w,(Instr.fieldAt 69 (.pointer (some p)) 6).run prog w= .ok (.pointer (some (p.add 10))) w:=fun p w=> by kernel_rfl
theorem fa_69_7:∀p w,(Instr.fieldAt 69 (.pointer (some p)) 7).run prog w= .ok (.pointer (some (p.add 11))) w:=fun p w=> by kernel_rfl
theorem fa_69_8:∀p w,(Instr.fieldAt 69 (.pointer (some p)) 8).run prog w= .ok (.pointer (some (p.add 12))) w:=fun p w=> by kernel_rfl
theorem fa_69_9:∀p w,(Instr.fieldAt 69 (.pointer (some p)) 9).run prog w= .ok (.pointer (some (p.add 13))) w:=fun p w=> by kernel_rfl
theorem fa_69_10:∀p w,(Instr.fieldAt 69 (.pointer (some p)) 10).run prog w= .ok (.pointer (some (p.add 16))) w:=fun p w=> by kernel_rfl
theorem fa_69_11:∀p w,(Instr.fieldAt 69 (.pointer (some p)) 11).run prog w= .ok (.pointer (some (p.add 48))) w:=fun p w=> by kernel_rfl
theorem fa_69_12:∀p w,(Instr.fieldAt 69 (.pointer (some p)) 12).run prog w= .ok (.pointer (some (p.add 49))) w:=fun p w=> by kernel_rfl
theorem fa_69_13:∀p w,(Instr.fieldAt 69 (.pointer (some p)) 13).run prog w= .ok (.pointer (some (p.add 50))) w:=fun p w=> by kernel_rfl
theorem fa_69_14:∀p w,(Instr.fieldAt 69 (.pointer (some p)) 14).run prog w= .ok (.pointer (some (p.add 51))) w:=fun p w=> by kernel_rfl
theorem fa_69_15:∀p w,(Instr.fieldAt 69 (.pointer (some p)) 15).run prog w= .ok (.pointer (some (p.add 52))) w:=fun p w=> by kernel_rfl
theorem fa_69_16:∀p w,(Instr.fieldAt 69 (.pointer (some p)) 16).run prog w= .ok (.pointer (some (p.add 53))) w:=fun p w=> by kernel_rfl
theorem fa_69_17:∀p w,(Instr.fieldAt 69 (.pointer (some p)) 17).run prog w= .ok (.pointer (some (p.add 54))) w:=fun p w=> by kernel_rfl
theorem fa_69_18:∀p w,(Instr.fieldAt 69 (.pointer (some p)) 18).run prog w= .ok (.pointer (some (p.add 55))) w:=fun p w=> by kernel_rfl
theorem fa_69_19:∀p w,(Instr.fieldAt 69 (.pointer (some p)) 19).run prog w= .ok (.pointer (some (p.add 56))) w:=fun p w=> by kernel_rfl
theorem fa_71_0:∀p w,(Instr.fieldAt 71 (.pointer (some p)) 0).run prog w= .ok (.pointer (some (p.add 0))) w:=fun p w=> by kernel_rfl
theorem fa_71_1:∀p w,(Instr.fieldAt 71 (.pointer (some p)) 1).run prog w= .ok (.pointer (some (p.add 1))) w:=fun p w=> by kernel_rfl
theorem fa_71_2:∀p w,(Instr.fieldAt 71 (.pointer (some p)) 2).run prog w= .ok (.pointer (some (p.add 2))) w:=fun p w=> by kernel_rfl
theorem fa_71_3:∀p w,(Instr.fieldAt 71 (.pointer (some p)) 3).run prog w= .ok (.pointer (some (p.add 3))) w:=fun p w=> by kernel_rfl
theorem fa_71_4:∀p w,(Instr.fieldAt 71 (.pointer (some p)) 4).run prog w= .ok (.pointer (some (p.add 60))) w:=fun p w=> by kernel_rfl
theorem fa_78_0:∀p w,(Instr.fieldAt 78 (.pointer (some p)) 0).run prog w= .ok (.pointer (some (p.add 0))) w:=fun p w=> by kernel_rfl
theorem fa_78_1:∀p w,(Instr.fieldAt 78 (.pointer (some p)) 1).run prog w= .ok (.pointer (some (p.add 1))) w:=fun p w=> by kernel_rfl
theorem fa_78_2:∀p w,(Instr.fieldAt 78 (.pointer (some p)) 2).run prog w= .ok (.pointer (some (p.add 2))) w:=fun p w=> by kernel_rfl
theorem fa_78_3:∀p w,(Instr.fieldAt 78 (.pointer (some p)) 3).run prog w= .ok (.pointer (some (p.add 3))) w:=fun p w=> by kernel_rfl
theorem fa_78_4:∀p w,(Instr.fieldAt 78 (.pointer (some p)) 4).run prog w= .ok (.pointer (some (p.add 4))) w:=fun p w=> by kernel_rfl
theorem fa_78_5:∀p w,(Instr.fieldAt 78 (.pointer (some p)) 5).run prog w= .ok (.pointer (some (p.add 5))) w:=fun p w=> by kernel_rfl
theorem fa_86_0:∀p w,(Instr.fieldAt 86 (.pointer (some p)) 0).run prog w= .ok (.pointer (some (p.add 0))) w:=fun p w=> by kernel_rfl
theorem fa_86_1:∀p w,(Instr.fieldAt 86 (.pointer (some p)) 1).run prog w= .ok (.pointer (some (p.add 1))) w:=fun p w=> by kernel_rfl
theorem fa_86_2:∀p w,(Instr.fieldAt 86 (.pointer (some p)) 2).run prog w= .ok (.pointer (some (p.add 2))) w:=fun p w=> by kernel_rfl
theorem fa_86_3:∀p w,(Instr.fieldAt 86 (.pointer (some p)) 3).run prog w= .ok (.pointer (some (p.add 3))) w:=fun p w=> by kernel_rfl
theorem fa_86_4:∀p w,(Instr.fieldAt 86 (.pointer (some p)) 4).run prog w= .ok (.pointer (some (p.add 4))) w:=fun p w=> by kernel_rfl
theorem fa_93_0:∀p w,(Instr.fieldAt 93 (.pointer (some p)) 0).run prog w= .ok (.pointer (some (p.add 0))) w:=fun p w=> by kernel_rfl
theorem fa_93_1:∀p w,(Instr.fieldAt 93 (.pointer (some p)) 1).run prog w= .ok (.pointer (some (p.add 45))) w:=fun p w=> by kernel_rfl
theorem fa_93_2:∀p w,(Instr.fieldAt 93 (.pointer (some p)) 2).run prog w= .ok (.pointer (some (p.add 46))) w:=fun p w=> by kernel_rfl
theorem fa_93_3:∀p w,(Instr.fieldAt 93 (.pointer (some p)) 3).run prog w= .ok (.pointer (some (p.add 47))) w:=fun p w=> by kernel_rfl
theorem fa_93_4:∀p w,(Instr.fieldAt 93 (.pointer (some p)) 4).run prog w= .ok (.pointer (some (p.add 48))) w:=fun p w=> by kernel_rfl
theorem fa_108_0:∀p w,(Instr.fieldAt 108 (.pointer (some p)) 0).run prog w= .ok (.pointer (some (p.add 0))) w:=fun p w=> by kernel_rfl
theorem fa_108_1:∀p w,(Instr.fieldAt 108 (.pointer (some p)) 1).run prog w= .ok (.pointer (some (p.add 45))) w:=fun p w=> by kernel_rfl
theorem fa_108_2:∀p w,(Instr.fieldAt 108 (.pointer (some p)) 2).run prog w= .ok (.pointer (some (p.add 46))) w:=fun p w=> by kernel_rfl
theorem fa_108_3:∀p w,(Instr.fieldAt 108 (.pointer (some p)) 3).run prog w= .ok (.pointer (some (p.add 54))) w:=fun p w=> by kernel_rfl
theorem fa_108_4:∀p w,(Instr.fieldAt 108 (.pointer (some p)) 4).run prog w= .ok (.pointer (some (p.add 62))) w:=fun p w=> by kernel_rfl
theorem fa_118_0:∀p w,(Instr.fieldAt 118 (.pointer (some p)) 0).run prog w= .ok (.pointer (some (p.add 0))) w:=fun p w=> by kernel_rfl
theorem fa_118_1:∀p w,(Instr.fieldAt 118 (.pointer (some p)) 1).run prog w= .ok (.pointer (some (p.add 1))) w:=fun p w=> by kernel_rfl
theorem fa_118_2:∀p w,(Instr.fieldAt 118 (.pointer (some p)) 2).run prog w= .ok (.pointer (some (p.add 2))) w:=fun p w=> by kernel_rfl
theorem fa_120_0:∀p w,(Instr.fieldAt 120 (.pointer (some p)) 0).run prog w= .ok (.pointer (some (p.add 0))) w:=fun p w=> by kernel_rfl
theorem fa_120_1:∀p w,(Instr.fieldAt 120 (.pointer (some p)) 1).run prog w= .ok (.pointer (some (p.add 3))) w:=fun p w=> by kernel_rfl
theorem fa_120_2:∀p w,(Instr.fieldAt 120 (.pointer (some p)) 2).run prog w= .ok (.pointer (some (p.add 4))) w:=fun p w=> by kernel_rfl
theorem fa_120_3:∀p w,(Instr.fieldAt 120 (.pointer (some p)) 3).run prog w= .ok (.pointer (some (p.add 5))) w:=fun p w=> by kernel_rfl
theorem fa_120_4:∀p w,(Instr.fieldAt 120 (.pointer (some p)) 4).run prog w= .ok (.pointer (some (p.add 6))) w:=fun p w=> by kernel_rfl
theorem fa_120_5:∀p w,(Instr.fieldAt 120 (.pointer (some p)) 5).run prog w= .ok (.pointer (some (p.add 7))) w:=fun p w=> by kernel_rfl
theorem fa_120_6:∀p w,(Instr.fieldAt 120 (.pointer (some p)) 6).run prog w= .ok (.pointer (some (p.add 8))) w:=fun p w=> by kernel_rfl
theorem fa_120_7:∀p w,(Instr.fieldAt 120 (.pointer (some p)) 7).run prog w= .ok (.pointer (some (p.add 9))) w:=fun p w=> by kernel_rfl
theorem fa_122_0:∀p w,(Instr.fieldAt 122 (.pointer (some p)) 0).run prog w= .ok (.pointer (some (p.add 0))) w:=fun p w=> by kernel_rfl
theorem fa_122_1:∀p w,(Instr.fieldAt 122 (.pointer (some p)) 1).run prog w= .ok (.pointer (some (p.add 1))) w:=fun p w=> by kernel_rfl
theorem fa_122_2:∀p w,(Instr.fieldAt 122 (.pointer (some p)) 2).run prog w= .ok (.pointer (some (p.add 2))) w:=fun p w=> by kernel_rfl
theorem fa_122_3:∀p w,(Instr.fieldAt 122 (.pointer (some p)) 3).run prog w= .ok (.pointer (some (p.add 34))) w:=fun p w=> by kernel_rfl
theorem fa_122_4:∀p w,(Instr.fieldAt 122 (.pointer (some p)) 4).run prog w= .ok (.pointer (some (p.add 35))) w:=fun p w=> by kernel_rfl
theorem fa_122_5:∀p w,(Instr.fieldAt 122 (.pointer (some p)) 5).run prog w= .ok (.pointer (some (p.add 36))) w:=fun p w=> by kernel_rfl
theorem fa_122_6:∀p w,(Instr.fieldAt 122 (.pointer (some p)) 6).run prog w= .ok (.pointer (some (p.add 37))) w:=fun p w=> by kernel_rfl
theorem fa_122_7:∀p w,(Instr.fieldAt 122 (.pointer (some p)) 7).run prog w= .ok (.pointer (some (p.add 38))) w:=fun p w=> by kernel_rfl
theorem fa_125_0:∀p w,(Instr.fieldAt 125 (.pointer (some p)) 0).run prog w= .ok (.pointer (some (p.add 0))) w:=fun p w=> by kernel_rfl
theorem fa_125_1:∀p w,(Instr.fieldAt 125 (.pointer (some p)) 1).run prog w= .ok (.pointer (some (p.add 48))) w:=fun p w=> by kernel_rfl
theorem fa_125_2:∀p w,(Instr.fieldAt 125 (.pointer (some p)) 2).run prog w= .ok (.pointer (some (p.add 49))) w:=fun p w=> by kernel_rfl
theorem fa_132_0:∀p w,(Instr.fieldAt 132 (.pointer (some p)) 0).run prog w= .ok (.pointer (some (p.add 0))) w:=fun p w=> by kernel_rfl
theorem fa_134_0:∀p w,(Instr.fieldAt 134 (.pointer (some p)) 0).run prog w= .ok (.pointer (some (p.add 0))) w:=fun p w=> by kernel_rfl
theorem fa_134_1:∀p w,(Instr.fieldAt 134 (.pointer (some p)) 1).run prog w= .ok (.pointer (some (p.add 1))) w:=fun p w=> by kernel_rfl
theorem fa_138_0:∀p w,(Instr.fieldAt 138 (.pointer (some p)) 0).run prog w= .ok (.pointer (some (p.add 0))) w:=fun p w=> by kernel_rfl
theorem fa_138_1:∀p w,(Instr.fieldAt 138 (.pointer (some p)) 1).run prog w= .ok (.pointer (some (p.add 16))) w:=fun p w=> by kernel_rfl
theorem fa_146_0:∀p w,(Instr.fieldAt 146 (.pointer (some p)) 0).run prog w= .ok (.pointer (some (p.add 0))) w:=fun p w=> by kernel_rfl
theorem fa_146_1:∀p w,(Instr.fieldAt 146 (.pointer (some p)) 1).run prog w= .ok (.pointer (some (p.add 1))) w:=fun p w=> by kernel_rfl
theorem fa_150_0:∀p w,(Instr.fieldAt 150 (.pointer (some p)) 0).run prog w= .ok (.pointer (some (p.add 0))) w:=fun p w=> by kernel_rfl
theorem fa_150_1:∀p w,(Instr.fieldAt 150 (.pointer (some p)) 1).run prog w= .ok (.pointer (some (p.add 1))) w:=fun p w=> by kernel_rfl
theorem fa_150_2:∀p w,(Instr.fieldAt 150 (.pointer (some p)) 2).run prog w= .ok (.pointer (some (p.add 33))) w:=fun p w=> by kernel_rfl
theorem fa_150_3:∀p w,(Instr.fieldAt 150 (.pointer (some p)) 3).run prog w= .ok (.pointer (some (p.add 34))) w:=fun p w=> by kernel_rfl
theorem fa_179_0:∀p w,(Instr.fieldAt 179 (.pointer (some p)) 0).run prog w= .ok (.pointer (some (p.add 0))) w:=fun p w=> by kernel_rfl
theorem fa_179_1:∀p w,(Instr.fieldAt 179 (.pointer (some p)) 1).run prog w= .ok (.pointer (some (p.add 3))) w:=fun p w=> by kernel_rfl
theorem fa_179_2:∀p w,(Instr.fieldAt 179 (.pointer (some p)) 2).run prog w= .ok (.pointer (some (p.add 4))) w:=fun p w=> by kernel_rfl
theorem fa_190_1:∀p w,(Instr.fieldAt 190 (.pointer (some p)) 1).run prog w= .ok (.pointer (some (p.add 3))) w:=fun p w=> by kernel_rfl
theorem fa_190_2:∀p w,(Instr.fieldAt 190 (.pointer (some p)) 2).run prog w= .ok (.pointer (some (p.add 4))) w:=fun p w=> by kernel_rfl
theorem fa_193_0:∀p w,(Instr.fieldAt 193 (.pointer (some p)) 0).run prog w= .ok (.pointer (some (p.add 0))) w:=fun p w=> by kernel_rfl
theorem fa_193_1:∀p w,(Instr.fieldAt 193 (.pointer (some p)) 1).run prog w= .ok (.pointer (some (p.add 1))) w:=fun p w=> by kernel_rfl
theorem fa_193_2:∀p w,(Instr.fieldAt 193 (.pointer (some p)) 2).run prog w= .ok (.pointer (some (p.add 2))) w:=fun p w=> by kernel_rfl
theorem fa_196_0:∀p w,(Instr.fieldAt 196 (.pointer (some p)) 0).run prog w= .ok (.pointer (some (p.add 0))) w:=fun p w=> by kernel_rfl
theorem fa_196_1:∀p w,(Instr.fieldAt 196 (.pointer (some p)) 1).run prog w= .ok (.pointer (some (p.add 1))) w:=fun p w=> by kernel_rfl
theorem fa_196_2:∀p w,(Instr.fieldAt 196 (.pointer (some p)) 2).run prog w= .ok (.pointer (some (p.add 2))) w:=fun p w=> by kernel_rfl
theorem fa_217_0:∀p w,(Instr.fieldAt 217 (.pointer (some p)) 0).run prog w= .ok (.pointer (some (p.add 0))) w:=fun p w=> by kernel_rfl
theorem fa_238_5:∀p w,(Instr.fieldAt 238 (.pointer (some p)) 5).run prog w= .ok (.pointer (some (p.add 20))) w:=fun p w=> by kernel_rfl
theorem fa_240_0:∀p w,(Instr.fieldAt 240 (.pointer (some p)) 0).run prog w= .ok (.pointer (some (p.add 0))) w:=fun p w=> by kernel_rfl
theorem fa_240_1:∀p w,(Instr.fieldAt 240 (.pointer (some p)) 1).run prog w= .ok (.pointer (some (p.add 1))) w:=fun p w=> by kernel_rfl
theorem fa_240_2:∀p w,(Instr.fieldAt 240 (.pointer (some p)) 2).run prog w= .ok (.pointer (some (p.add 2))) w:=fun p w=> by kernel_rfl
theorem fa_240_3:∀p w,(Instr.fieldAt 240 (.pointer (some p)) 3).run prog w= .ok (.pointer (some (p.add 3))) w:=fun p w=> by kernel_rfl
theorem fa_242_0:∀p w,(Instr.fieldAt 242 (.pointer (some p)) 0).run prog w= .ok (.pointer (some (p.add 0))) w:=fun p w=> by kernel_rfl
theorem fa_242_1:∀p w,(Instr.fieldAt 242 (.pointer (some p)) 1).run prog w= .ok (.pointer (some (p.add 1))) w:=fun p w=> by kernel_rfl
theorem fa_242_2:∀p w,(Instr.fieldAt 242 (.pointer (some p)) 2).run prog w= .ok (.pointer (some (p.add 2))) w:=fun p w=> by kernel_rfl
theorem fa_242_3:∀p w,(Instr.fieldAt 242 (.pointer (some p)) 3).run prog w= .ok (.pointer (some (p.add 3))) w:=fun p w=> by kernel_rfl
theorem fa_263_0:∀p w,(Instr.fieldAt 263 (.pointer (some p)) 0).run prog w= .ok (.pointer (some (p.add 0))) w:=fun p w=> by kernel_rfl
theorem fa_263_1:∀p w,(Instr.fieldAt 263 (.pointer (some p)) 1).run prog w= .ok (.pointer (some (p.add 1))) w:=fun p w=> by kernel_rfl
theorem fa_263_2:∀p w,(Instr.fieldAt 263 (.pointer (some p)) 2).run prog w= .ok (.pointer (some (p.add 2))) w:=fun p w=> by kernel_rfl
theorem fa_263_3:∀p w,(Instr.fieldAt 263 (.pointer (some p)) 3).run prog w= .ok (.pointer (some (p.add 3))) w:=fun p w=> by kernel_rfl
theorem fa_265_0:∀p w,(Instr.fieldAt 265 (.pointer (some p)) 0).run prog w= .ok (.pointer (some (p.add 0))) w:=fun p w=> by kernel_rfl
theorem fa_265_1:∀p w,(Instr.fieldAt 265 (.pointer (some p)) 1).run prog w= .ok (.pointer (some (p.add 1))) w:=fun p w=> by kernel_rfl
theorem fa_265_2:∀p w,(Instr.fieldAt 265 (.pointer (some p)) 2).run prog w= .ok (.pointer (some (p.add 2))) w:=fun p w=> by kernel_rfl
theorem fa_265_3:∀p w,(Instr.fieldAt 265 (.pointer (some p)) 3).run prog w= .ok (.pointer (some (p.add 3))) w:=fun p w=> by kernel_rfl
theorem fa_282_0:∀p w,(Instr.fieldAt 282 (.pointer (some p)) 0).run prog w= .ok (.pointer (some (p.add 0))) w:=fun p w=> by kernel_rfl
theorem fa_354_0:∀p w,(Instr.fieldAt 354 (.pointer (some p)) 0).run prog w= .ok (.pointer (some (p.add 0))) w:=fun p w=> by kernel_rfl
theorem fa_354_1:∀p w,(Instr.fieldAt 354 (.pointer (some p)) 1).run prog w= .ok (.pointer (some (p.add 1))) w:=fun p w=> by kernel_rfl
theorem fa_368_0:∀p w,(Instr.fieldAt 368 (.pointer (some p)) 0).run prog w= .ok (.pointer (some (p.add 0))) w:=fun p w=> by kernel_rfl
theorem fa_368_1:∀p w,(Instr.fieldAt 368 (.pointer (some p)) 1).run prog w= .ok (.pointer (some (p.add 8))) w:=fun p w=> by kernel_rfl
theorem fa_368_2:∀p w,(Instr.fieldAt 368 (.pointer (some p)) 2).run prog w= .ok (.pointer (some (p.add 9))) w:=fun p w=> by kernel_rfl
theorem fa_368_3:∀p w,(Instr.fieldAt 368 (.pointer (some p)) 3).run prog w= .ok (.pointer (some (p.add 10))) w:=fun p w=> by kernel_rfl
theorem pl_29:StrT prog 29 #[(0,1),(1,1),(2,1),(3,1)]:=⟨_,runUnderlying29,fun w=> by kernel_rfl⟩
theorem pl_34:StrT prog 34 #[(0,1),(1,3),(4,1),(5,4),(9,32),(41,1),(42,1),(43,1),(44,1)]:=⟨_,runUnderlying34,fun w=> by kernel_rfl⟩
theorem pl_45:StrT prog 45 #[(0,1),(1,1),(2,1),(3,1)]:=⟨_,runUnderlying45,fun w=> by kernel_rfl⟩
theorem pl_47:StrT prog 47 #[(0,1),(1,3),(4,1),(5,4),(9,32),(41,1),(42,1),(43,1),(44,1)]:=⟨_,runUnderlying47,fun w=> by kernel_rfl⟩
theorem pl_55:StrT prog 55 #[(0,1),(1,1),(2,1)]:=⟨_,runUnderlying55,fun w=> by kernel_rfl⟩
theorem pl_57:StrT prog 57 #[(0,3),(3,1),(4,1),(5,1),(6,1),(7,1),(8,1),(9,1)]:=⟨_,runUnderlying57,fun w=> by kernel_rfl⟩
theorem pl_59:StrT prog 59 #[(0,1),(1,1),(2,32),(34,1),(35,1),(36,1),(37,1),(38,10)]:=⟨_,runUnderlying59,fun w=> by kernel_rfl⟩
theorem pl_69:StrT prog 69 #[(0,1),(1,3),(4,3),(7,1),(8,1),(9,1),(10,1),(11,1),(12,1),(13,3),(16,32),(48,1),(49,1),(50,1),(51,1),(52,1),(53,1),(54,1),(55,1),(56,1)]:=⟨_,runUnderlying69,fun w=> by kernel_rfl⟩
theorem pl_78:StrT prog 78 #[(0,1),(1,1),(2,1),(3,1),(4,1),(5,16)]:=⟨_,runUnderlying78,fun w=> by kernel_rfl⟩
theorem pl_86:StrT prog 86 #[(0,1),(1,1),(2,1),(3,1),(4,1)]:=⟨_,runUnderlying86,fun w=> by kernel_rfl⟩
theorem pl_93:StrT prog 93 #[(0,45),(45,1),(46,1),(47,1),(48,1)]:=⟨_,runUnderlying93,fun w=> by kernel_rfl⟩
theorem pl_108:StrT prog 108 #[(0,45),(45,1),(46,8),(54,8),(62,1)]:=⟨_,runUnderlying108,fun w=> by kernel_rfl⟩
theorem pl_118:StrT prog 118 #[(0,1),(1,1),(2,1)]:=⟨_,runUnderlying118,fun w=> by kernel_rfl⟩
theorem pl_120:StrT prog 120 #[(0,3),(3,1),(4,1),(5,1),(6,1),(7,1),(8,1),(9,1)]:=⟨_,runUnderlying120,fun w=> by kernel_rfl⟩
theorem pl_122:StrT prog 122 #[(0,1),(1,1),(2,32),(34,1),(35,1),(36,1),(37,1),(38,10)]:=⟨_,runUnderlying122,fun w=> by kernel_rfl⟩
theorem pl_125:StrT prog 125 #[(0,48),(48,1),(49,1)]:=⟨_,runUnderlying125,fun w=> by kernel_rfl⟩
theorem pl_132:StrT prog 132 #[(0,1)]:=⟨_,runUnderlying132,fun w=> by kernel_rfl⟩
theorem pl_134:StrT prog 134 #[(0,1),(1,1)]:=⟨_,runUnderlying134,fun w=> by kernel_rfl⟩
theorem pl_138:StrT prog 138 #[(0,16),(16,8)]:=⟨_,runUnderlying138,fun w=> by kernel_rfl⟩
theorem pl_141:StrT prog 141 #[(0,1),(1,1)]:=⟨_,runUnderlying141,fun w=> by kernel_rfl⟩
theorem pl_146:StrT prog 146 #[(0,1),(1,1)]:=⟨_,runUnderlying146,fun w=> by kernel_rfl⟩
theorem pl_150:StrT prog 150 #[(0,1),(1,32),(33,1),(34,1)]:=⟨_,runUnderlying150,fun w=> by kernel_rfl⟩
theorem pl_163:StrT prog 163 #[(0,1),(1,1),(2,1),(3,1),(4,16)]:=⟨_,runUnderlying163,fun w=> by kernel_rfl⟩
theorem pl_179:StrT prog 179 #[(0,3),(3,1),(4,1)]:=⟨_,runUnderlying179,fun w=> by kernel_rfl⟩
theorem pl_190:StrT prog 190 #[(0,3),(3,1),(4,1)]:=⟨_,runUnderlying190,fun w=> by kernel_rfl⟩
theorem pl_196:StrT prog 196 #[(0,1),(1,1),(2,24)]:=⟨_,runUnderlying196,fun w=> by kernel_rfl⟩
theorem pl_217:StrT prog 217 #[(0,1)]:=⟨_,runUnderlying217,fun w=> by kernel_rfl⟩
theorem pl_229:StrT prog 229 #[(0,1),(1,1),(2,24)]:=⟨_,runUnderlying229,fun w=> by kernel_rfl⟩
theorem pl_234:StrT prog 234 #[(0,9),(9,1)]:=⟨_,runUnderlying234,fun w=> by kernel_rfl⟩
theorem pl_238:StrT prog 238 #[(0,3),(3,3),(6,3),(9,1),(10,10),(20,1),(21,1),(22,1),(23,1),(24,1)]:=⟨_,runUnderlying238,fun w=> by kernel_rfl⟩
theorem pl_240:StrT prog 240 #[(0,1),(1,1),(2,1),(3,1)]:=⟨_,runUnderlying240,fun w=> by kernel_rfl⟩
theorem pl_242:StrT prog 242 #[(0,1),(1,1),(2,1),(3,4)]:=⟨_,runUnderlying242,fun w=> by kernel_rfl⟩
theorem pl_247:StrT prog 247 #[(0,7),(7,4),(11,1)]:=⟨_,runUnderlying247,fun w=> by kernel_rfl⟩
theorem pl_262:StrT prog 262 #[(0,10),(10,1),(11,1),(12,1),(13,1)]:=⟨_,runUnderlying262,fun w=> by kernel_rfl⟩
theorem pl_263:StrT prog 263 #[(0,1),(1,1),(2,1),(3,1)]:=⟨_,runUnderlying263,fun w=> by kernel_rfl⟩
theorem pl_265:StrT prog 265 #[(0,1),(1,1),(2,1),(3,4)]:=⟨_,runUnderlying265,fun w=> by kernel_rfl⟩
theorem pl_282:StrT prog 282 #[(0,1)]:=⟨_,runUnderlying282,fun w=> by kernel_rfl⟩
theorem pl_298:StrT prog 298 #[(0,1),(1,1),(2,24),(26,24)]:=⟨_,runUnderlying298,fun w=> by kernel_rfl⟩
theorem pl_303:StrT prog 303 #[(0,1),(1,1),(2,40)]:=⟨_,runUnderlying303,fun w=> by kernel_rfl⟩
theorem pl_308:StrT prog 308 #[(0,1),(1,1),(2,1),(3,40)]:=⟨_,runUnderlying308,fun w=> by kernel_rfl⟩
theorem pl_348:StrT prog 348 #[(0,1),(1,3),(4,1),(5,1),(6,1)]:=⟨_,runUnderlying348,fun w=> by kernel_rfl⟩
theorem pl_354:StrT prog 354 #[(0,1),(1,1)]:=⟨_,runUnderlying354,fun w=> by kernel_rfl⟩
theorem pl_368:StrT prog 368 #[(0,8),(8,1),(9,1),(10,1)]:=⟨_,runUnderlying368,fun w=> by kernel_rfl⟩
theorem pl_373:StrT prog 373 #[(0,1),(1,1),(2,1)]:=⟨_,runUnderlying373,fun w=> by kernel_rfl⟩
theorem pl_376:StrT prog 376 #[(0,1),(1,1),(2,1)]:=⟨_,runUnderlying376,fun w=> by kernel_rfl⟩
theorem pl_381:StrT prog 381 #[(0,1),(1,1),(2,1),(3,40)]:=⟨_,runUnderlying381,fun w=> by kernel_rfl⟩
theorem el_24:ElemT prog 24 122 48 160:=⟨zi,⟨Tryz.t122,_,zi,zr,zi,zi,zi⟩,zc⟩
theorem el_44:ElemT prog 44 59 48 160:=⟨zi,⟨Tryz.t59,_,zi,zr,zi,zi,zi⟩,zc⟩
theorem el_52:ElemT prog 52 3 1 8:=⟨zi,⟨Tryz.t3,_,zi,zr,zi,zi,zi⟩,zc⟩
theorem el_72:ElemT prog 72 78 21 72:=⟨zi,⟨Tryz.t78,_,zi,zr,zi,zi,zi⟩,zc⟩
theorem el_74:ElemT prog 74 5 1 1:=⟨zi,⟨Tryz.t5,_,zi,zr,zi,zi,zi⟩,zc⟩
theorem el_83:ElemT prog 83 141 2 16:=⟨zi,⟨Tryz.t141,_,zi,zr,zi,zi,zi⟩,zc⟩
theorem el_84:ElemT prog 84 146 2 16:=⟨zi,⟨Tryz.t146,_,zi,zr,zi,zi,zi⟩,zc⟩
theorem el_89:ElemT prog 89 31 32 32:=⟨zi,⟨Tryz.t31,_,zi,zr,zi,zi,zi⟩,zc⟩
theorem el_130:ElemT prog 130 150 35 56:=⟨zi,⟨Tryz.t150,_,zi,zr,zi,zi,zi⟩,zc⟩
theorem el_161:ElemT prog 161 74 1 24:=⟨zi,⟨Tryz.t74,_,zi,zr,zi,zi,zi⟩,zc⟩
theorem el_177:ElemT prog 177 242 7 56:=⟨zi,⟨Tryz.t242,_,zi,zr,zi,zi,zi⟩,zc⟩
theorem el_188:ElemT prog 188 265 7 56:=⟨zi,⟨Tryz.t265,_,zi,zr,zi,zi,zi⟩,zc⟩
theorem el_389:ElemT prog 389 61 1 4:=⟨zi,⟨Tryz.t61,_,zi,zr,zi,zi,zi⟩,zc⟩
end Go.Proofs.YtkineolcmdecjaaGreat
