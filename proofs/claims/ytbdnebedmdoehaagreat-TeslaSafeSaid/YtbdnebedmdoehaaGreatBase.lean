import Derived.Test.YtbdnebedmdoehaaGreatRef8
namespace Go.Proofs.YtbdnebedmdoehaaGreat
open Go.PK

/-- An integer written otherwise. -/
theorem intV {a : Int} {n : Nat} (h : a = (n : Int)) (hn : n ≤ 9223372036854775807) : Value.int .i64 (IntKind.i64.wrap a) = .int .i64 (n : Int) := by
  rw [h, IntWalk.i64_in _ (by omega)]

def amongN (x : Int) (n : Nat) : Nat := (IntKind.u64.wrap x).toNat % n
theorem amongN_lt {x : Int} {n : Nat} (h : 0 < n) : amongN x n < n := Nat.mod_lt _ h
theorem u64_nonneg (x : Int) : 0 ≤ IntKind.u64.wrap x := by simp [IntKind.wrap, IntKind.bits, IntKind.signed]; omega

theorem among_any (x : Int) (n : Nat) (h0 : 0 < n) (hn : n ≤ 1000000000) : Spc Tryz.prog 15 #[.int .i64 x, .int .i64 (n : Int)] [] [] (Is (.int .i64 (amongN x n : Int))) := by
  have hw : IntKind.u64.wrap (n : Int) = (n : Int) := by simp [IntKind.wrap, IntKind.bits, IntKind.signed]; omega
  have hlt := amongN_lt (x := x) h0
  refine Spc.enter Tryz.func15 rfl rfl rfl (fun w0 hw0 => ?_)
  refine CW.seq (CW.rg (RL.p rfl (RL.nil (NQ.seq (CW.seq (CW.seq (CW.rg (RL.p rfl (RL.p rfl (RL.nil (NQ.seq (CW.condF rfl ((by simp; omega)) ?_))))))))))))
  refine CW.skip (NQ.seq (CW.seq (CW.rg (RL.p rfl (RL.conv Tryz.runUnderlying3 Tryz.runUnderlying25 rfl rfl rfl rfl (RL.p rfl (RL.conv Tryz.runUnderlying3 Tryz.runUnderlying25 rfl rfl rfl rfl ?_)))))))
  rw [hw]
  refine RL.remX (v' := .int .u64 (amongN x n : Int)) rfl rfl rfl rfl rfl (by omega) (by rw [← Int.toNat_of_nonneg (u64_nonneg x), tmodN]; rfl) ?_
  refine RL.conv Tryz.runUnderlying25 Tryz.runUnderlying3 rfl rfl rfl rfl (RL.p rfl (RL.nil (NQ.seq (CW.ok [4] rfl (CW.ret ?_)))))
  exact RQ.post (res1 rfl rfl) (Split.none _) ⟨by rw [IntWalk.i64_in _ (by omega)], rfl, rfl⟩

abbrev ints (l : List Int) : List Value := l.map (Value.int .i64)
theorem sum_after (b : Nat) (p : Option Addr) (cap : Nat) (l : List B8) (hb : l.length ≤ 1000000000) :
    Spc Tryz.prog 82 #[.pointer (some ⟨b, 0, none⟩)] [hcel b (after l).1 p (after l).2.length cap l.length, sls p 1 (after l).2.length (bytes (after l).2)] [] (Is (.agg (bytes (sha l)).toArray)) :=
  sum_any b (after l).1 p cap l.length (after l).2 (after_rest l).1 hb

end Go.Proofs.YtbdnebedmdoehaaGreat
