import Derived.Test.YtkineolcmdecjaaGreatBA
import Derived.Test.YtkineolcmdecjaaGreatRef8
namespace Go.Proofs.YtkineolcmdecjaaGreat
open Go.PK
open Tryz
def amongN (x:Int) (n:Nat):Nat:=(IntKind.u64.wrap x).toNat % n
theorem amongN_lt {x:Int} {n:Nat} (h:0 < n):amongN x n < n:=Nat.mod_lt _ h
theorem u64_nonneg (x:Int):0≤IntKind.u64.wrap x:=by simp [IntKind.wrap,IntKind.bits,IntKind.signed];omega
theorem among_any (x:Int) (n:Nat) (h0:0 < n) (hn:n≤1000000000):Spc prog 43 #[.int .i64 x, .int .i64 (n:Int)] [] [] (Is (.int .i64 (amongN x n:Int))):=by
 have hw:IntKind.u64.wrap (n:Int)=(n:Int):=by simp [IntKind.wrap,IntKind.bits,IntKind.signed];omega
 have hlt:=amongN_lt (x:=x) h0
 refine Spc.en func43 rfl rfl (fun w0 hw0=> ?_)
 refine CW.sr (RL.pn rfl (CW.ss (CW.s1 rfl (CW.cF rfl (zp) ?_))))
 refine CW.sn (CW.sr (RL.p rfl (RL.conv runUnderlying3 runUnderlying32 rfl (RL.p rfl (RL.conv runUnderlying3 runUnderlying32 rfl ?_)))))
 rw [hw]
 refine RL.remX (v':= .int .u64 (amongN x n:Int)) rfl rfl rfl zb (by rw [←Int.toNat_of_nonneg (u64_nonneg x),tmodN];rfl) ?_
 refine RL.conv runUnderlying32 runUnderlying3 rfl (RL.pn rfl (CW.ok [4] rfl (CW.rr ?_)))
 exact RQ.pp (res1 rfl rfl) (Split.nn _) ⟨by rw [IntWalk.i64_in _ zb],rfl,rfl⟩
theorem sum_after (b:Nat) (p:Option Addr) (cap:Nat) (l:List B8) (hb:l.length≤1000000000):
  Spc prog 184 #[.pointer (some ⟨b,0,none⟩)] [hcel b (after l).1 p (after l).2.length cap l.length,sls p 1 (after l).2.length (bytes (after l).2)] [] (Is (.agg (bytes (sha l)).toArray)):=
 sum_any b (after l).1 p cap l.length (after l).2 (after_rest l).1 hb
end Go.Proofs.YtkineolcmdecjaaGreat
