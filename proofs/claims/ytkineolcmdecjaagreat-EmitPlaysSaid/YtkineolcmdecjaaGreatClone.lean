import Derived.Test.YtkineolcmdecjaaGreatOwnN
namespace Go.Proofs.YtkineolcmdecjaaGreat
open Go.PK
open Tryz
theorem clone_any (p:Option Addr) (n c:Nat) (l:List B8) (hn:l.length=n) (hb:n≤1000000000):Spc prog 93 #[.slice p n c] [sls p 1 n (bytes l)] [] (OwnB l):=by
 subst hn
 refine Spc.fact (p:=p=none→l.length=0) (fun w hw e=> sls_nil (hw.i _ (List.Mem.head _)) e) (fun hpp=> ?_)
 cases p with
 | none=>
  have h0:=hpp rfl
  refine Spc.enter func93 rfl rfl rfl (fun w0 hw0=> ?_)
  refine CW.sr (RL.pn rfl (CW.seq (CW.sr (RL.p rfl (RL.cmp rfl rfl rfl (eql_slice runUnderlying74 _ _ _) (RL.ns (CW.condT rfl (rfl) (CW.seq ?_))))))))
  refine CW.rg (RL.pn rfl (CW.ret (RQ.seq (RQ.ownNone (e:=5) 1 ?_))))
  rw [List.length_eq_zero_iff.1 h0]
  exact RQ.post (res1 rfl rfl) (.keep .nil) ⟨none,0,rfl,rfl,rfl, .inl rfl⟩
 | some a=>
  refine Spc.enter func93 rfl rfl rfl (fun w0 hw0=> ?_)
  refine CW.sr (RL.pn rfl (CW.seq (CW.sr (RL.p rfl (RL.cmp rfl rfl rfl (eql_slice runUnderlying74 _ _ _) (RL.ns (CW.condF rfl (rfl) (CW.skip ?_))))))))
  refine NQ.seq (CW.seq (CW.region (ef:= [0,2]) (bk:= [2]) (RL.buildOwn [] runUnderlying74 sizeOf5 zeroValue5 rfl rfl (by decide) (by decide) rfl (by decide) rfl rfl rfl rfl ?_)))
  intro b1
  refine RL.p rfl (RL.appendq el_74 rfl rfl rfl rfl rfl ?_)
  intro ob1 cap1 ho1
  refine RL.pn rfl (CW.ok [2] rfl (CW.ret ?_))
  rw [own_is (Nat.zero_add l.length) (List.nil_append _)]
  exact RQ.post (res1 rfl rfl) (.keep .nil) ⟨ob1,cap1,by rw [Nat.zero_add],rfl,rfl,by simpa using ho1⟩
end Go.Proofs.YtkineolcmdecjaaGreat
