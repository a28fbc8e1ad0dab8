import Derived.Test.YtkineolcmdecjaaGreatBA
import Derived.Test.YtkineolcmdecjaaGreatKindMath
namespace Go.Proofs.YtkineolcmdecjaaGreat
open Go.PK
open Tryz
theorem num12 (N n:Nat) (hN:N < 18446744073709551616) (hn:n≤8):Spc prog 162 #[.int .u64 (N:Int), .int .i64 (n:Int)] [] [] (OwnB (beN n N)):=by
 refine Spc.en func162 rfl rfl (fun w0 hw0=> ?_)
 refine CW.sr (RL.pn rfl (CW.sg [0] [] (RL.buildOwn [] runUnderlying74 sizeOf5 zeroValue5 rfl rfl zc zc rfl zc rfl ?_)))
 intro b1
 refine RL.pn rfl (CW.ss (CW.sr (RL.pn rfl (CW.bb ?_))))
 refine CW.loop (γ:=Nat×Option Nat×Nat) (fun g=> g.1≤n∧(g.1=0∨g.2.1.isSome=true)) (fun g=> [(0, .int .u64 ((N / 256^g.1:Nat):Int)),(1, .int .i64 (n:Int)),(5,slO g.2.1 g.1 g.2.2),(6, .int .i64 (g.1:Int))]) (fun _=> [])
  (fun g=> [own g.2.1 g.2.2 5 1 g.1 (bytes (beN g.1 N))]) (fun g=> n - g.1) (0,some b1,0) zm
  (.cons (by simp;rfl) sE) (fun w h=> h) ?_
 rintro ⟨i,ob',c'⟩ ⟨hi,ho⟩
 dsimp only at hi ho ⊢
 refine CW.ss (CW.sr (RL.p rfl (RL.qn rfl ?_)))
 refine CW.cd rfl (fun hlt=> ?_) (fun hlt=> ?_)
 ·
  refine CW.sn (CW.ss (CW.bb (CW.sg [3,5] [5] (RL.p rfl (RL.rem rfl zc ?_)))))
  refine RL.lowest runUnderlying32 runUnderlying5 rfl (RL.buildOwn [_] runUnderlying74 sizeOf5 zeroValue5 rfl rfl zc zc rfl zc rfl ?_)
  intro b2
  refine RL.p rfl (RL.appendq el_74 rfl ?_)
  intro ob1 cap1 ho1
  refine RL.pn rfl (CW.ok [0,1,5,6] rfl (CW.rg (RL.p rfl ?_)))
  have hlt:i < n:=by simp at hlt;omega
  refine RL.quoX (v':= .int .u64 ((N / 256^(i+1):Nat):Int)) rfl zc (quoA _ _ hN) ?_
  refine RL.p rfl (RL.ee (NQ.bb (NQ.ss (CW.rg (RL.p rfl (RL.bx rfl (wrapV_i64 zb zb) ?_))))))
  refine RL.p rfl (RL.ee ?_)
  refine NQ.rr (g:=(i,ob',c')) (i+1,ob1,cap1) ⟨hlt,by rw [Nat.add_comm] at ho1;exact ho1⟩ (by show n - (i+1) < n - i;omega) (.cons rfl (.cons rfl (.cons (by rw [Nat.add_comm i 1];rfl) sE))) (fun w h=> ?_)
  rw [own_is (ob:=ob1) (n':=i+1) (xs':=bytes (beN (i+1) N)) zb (by rw [beN_cons,←lowA];rfl)] at h
  exact h.rea (fun _ h=> h) rE
 ·
  refine CW.xx (XQ.ss (XQ.ss (XQ.hh (NQ.ss (CW.ok [5] rfl (CW.s1 rfl (CW.rr ?_)))))))
  have hi8:i=n:=by simp at hlt;omega
  subst hi8
  rw [own_is (ob:=ob') (n':=(beN i N).length) (xs':=bytes (beN i N)) (beN_length _ _).symm rfl]
  exact RQ.pp (res1 rfl rfl) (.keep .nil) ⟨ob',c',by rw [beN_length],rfl,rfl,by rw [beN_length];exact ho⟩
end Go.Proofs.YtkineolcmdecjaaGreat
