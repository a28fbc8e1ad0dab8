import Derived.Test.YthndhipjfdgdfaaGreatDoorMA
set_option linter.unusedVariables false
set_option linter.unusedSimpArgs false
namespace Go.Proofs.YthndhipjfdgdfaaGreatDoor
open Go.PK

theorem tmodAm (a b : Nat) : (a : Int).tmod (b : Int) = ((a % b : Nat) : Int) := by rw [Int.tmod_eq_emod_of_nonneg (by omega)]; simp
def amongN (x : Int) (n : Nat) : Nat := (IntKind.u64.wrap x).toNat % n
theorem amongN_lt {x : Int} {n : Nat} (h : 0 < n) : amongN x n < n := Nat.mod_lt _ h
theorem u64_nonneg (x : Int) : 0 ≤ IntKind.u64.wrap x := by simp [IntKind.wrap, IntKind.bits, IntKind.signed]; omega

theorem among_any (x : Int) (n : Nat) (h0 : 0 < n) (hn : n ≤ 1000000000) : Spc Tryz.prog 20 #[.int .i64 x, .int .i64 (n : Int)] [] [] (Is (.int .i64 (amongN x n : Int))) := by
  have hw : IntKind.u64.wrap (n : Int) = (n : Int) := by simp [IntKind.wrap, IntKind.bits, IntKind.signed]; omega
  have hlt := amongN_lt (x := x) h0
  refine Spc.enter Tryz.func20 rfl rfl rfl (fun w0 hw0 => ?_)
  refine CW.seq (CW.rg (RL.p rfl (RL.nil (NQ.seq (CW.seq (CW.seq (CW.rg (RL.p rfl (RL.p rfl (RL.nil (NQ.seq (CW.condF rfl ((by simp; omega)) ?_))))))))))))
  refine CW.skip (NQ.seq (CW.seq (CW.rg (RL.p rfl (RL.conv Tryz.runUnderlying3 Tryz.runUnderlying30 rfl rfl rfl rfl (RL.p rfl (RL.conv Tryz.runUnderlying3 Tryz.runUnderlying30 rfl rfl rfl rfl ?_)))))))
  rw [hw]
  refine RL.remX (v' := .int .u64 (amongN x n : Int)) rfl rfl rfl rfl rfl (by omega) (by rw [← Int.toNat_of_nonneg (u64_nonneg x), tmodAm]; rfl) ?_
  refine RL.conv Tryz.runUnderlying30 Tryz.runUnderlying3 rfl rfl rfl rfl (RL.p rfl (RL.nil (NQ.seq (CW.ok [4] rfl (CW.ret ?_)))))
  exact RQ.post (res1 rfl rfl) (Split.none _) ⟨by rw [IntWalk.i64_in _ (by omega)], rfl, rfl⟩


end Go.Proofs.YthndhipjfdgdfaaGreatDoor
