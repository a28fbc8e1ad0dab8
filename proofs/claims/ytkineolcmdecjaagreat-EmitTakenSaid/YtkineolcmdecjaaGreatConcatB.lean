import Derived.Test.YtkineolcmdecjaaGreatHB
import Derived.Test.YtkineolcmdecjaaGreatPE
namespace Go.Proofs.YtkineolcmdecjaaGreat
open Go.PK
open Tryz
def OwnX (l:List B8):Value→List It→List It→Prop:=fun v I' H'=> ∃ob cap,v=slO ob l.length cap∧I'= []∧H'= [own ob cap 5 1 l.length (bytes l)]
theorem ones_u8 (l:List B8):∀u∈bytes l,u.oneCell'=true:=fun u hu=> by
 obtain ⟨b, -,rfl⟩:=List.mem_map.1 hu;rfl
theorem bytes_app (a b:List B8):bytes (a++b)=bytes a++bytes b:=List.map_append
theorem growB_nil (n:Nat) (hn:n≤1000000):Spc prog 179 #[.slice none 0 0, .int .i64 (n:Int)] [] []
  (fun v I' H'=> ∃ob cap,v=slO ob 0 cap∧I'= []∧H'= [own ob cap 5 1 0 []]):=by
 refine Spc.en func179 rfl rfl (fun w0 hw0=> ?_)
 refine CW.sr (RL.pn rfl (CW.ss (CW.s1 rfl (CW.cF rfl (zm) ?_))))
 refine CW.sn (CW.ss (CW.sr (RL.q rfl (RL.capS runUnderlying74 rfl rfl (RL.p rfl (RL.lenS runUnderlying74 rfl (RL.bx rfl (wrapV_i64 zb zb) ?_)))))))
 refine RL.bx rfl (wrapV_i64 zb zb) ?_
 refine RL.pn rfl (CW.ok [0,1,4] rfl (CW.s1 rfl ?_))
 refine CW.cd rfl (fun hp=> ?_) (fun hp=> ?_)
 ·
  have hp:0 < n:=by simp at hp;omega
  refine CW.rn (ef:= [5]) (bk:= [5]) (RL.q rfl (RL.capS runUnderlying74 rfl rfl (RL.slice (lo:=0) (hi:=0) runUnderlying74 sizeOf5 rfl rfl rfl zb zb ?_)))
  refine RL.p rfl (RL.appendMk0 (mm:=n) (zs:= [.int .u8 0]) el_74 (fun ii z hi hz=> by rw [show prog.info? 5=some Tryz.t5 by kernel_rfl] at hi;cases hi;cases hz;rfl) rfl runUnderlying3 rfl rfl rfl (by show _=some (Value.int .i64 ((n:Nat):Int));simp [Env.ev,Env.get]) hp zd zd ?_)
  intro b cap'
  refine RL.p rfl (RL.lenS runUnderlying74 rfl (RL.slice (lo:=0) (hi:=0) runUnderlying74 sizeOf5 rfl rfl rfl zb zb ?_))
  refine RL.tt (d:=25) (v':= .slice (some ⟨b,0,none⟩) 0 cap') rfl (by simp only [Nat.sub_zero];congr 1;split <;> simp [add_none]) ?_
  refine RL.pn rfl (CW.ok [0] rfl (CW.s1 rfl (CW.rr ?_)))
  exact RQ.pp (res1 rfl rfl) (.keep .nil) ⟨some b,cap',rfl,rfl,rfl⟩
 ·
  refine CW.sn (CW.s1 rfl (CW.rr (RQ.ownNone (e:=5) 1 ?_)))
  exact RQ.pp (res1 rfl rfl) (.keep .nil) ⟨none,0,rfl,rfl,rfl⟩
theorem concatB_any (pp:Option Addr) (cap n:Nat) (ps:List Part) (hn:ps.length=n) (hnb:n≤1000000) (hb:(joined ps).length≤1000000):
  Spc prog 148 #[.slice pp n cap] (sls pp 1 n (ps.map Part.v)::ps.map Part.i) [] (OwnX (joined ps)):=by
 subst hn
 generalize hBase:sls pp 1 ps.length (ps.map Part.v)::ps.map Part.i=Base
 have hmem:sls pp 1 ps.length (ps.map Part.v)∈Base:=by rw [←hBase];exact List.Mem.head _
 have hpm:∀x∈ps,Part.i x∈Base:=fun x hx=> by rw [←hBase];exact List.mem_cons_of_mem _ (List.mem_map_of_mem hx)
 clear hBase
 refine Spc.en func148 rfl rfl (fun w0 hw0=> ?_)
 refine CW.sr (RL.pn rfl (CW.sr (RL.pn rfl (CW.ss (CW.sr (RL.p rfl ?_))))))
 refine RL.lenS runUnderlying161 rfl (RL.pn rfl (CW.bb ?_))
 refine CW.ff (p:=pp=none→ps.length=0) (fun w hC e=> sls_nil (hC.s.i _ hmem) e) (fun hpp=> ?_)
 refine CW.loop (γ:=Nat) (fun i=> i≤ps.length) (fun i=> [(0, .slice pp ps.length cap),(3, .int .i64 ((joined (ps.take i)).length:Int)),(9, .slice pp ps.length cap),(10, .int .i64 (ps.length:Int)),(11, .int .i64 (i:Int))]) (fun _=> Base) (fun _=> []) (fun i=> ps.length - i) 0 zb
  sE (fun w h=> h) ?_
 intro i hi
 have hle:=joined_le ps i
 have hle1:=joined_le ps (i+1)
 refine CW.sr (RL.pn rfl (CW.ss ?_))
 refine CW.cd rfl (fun hlt=> ?_) (fun hlt=> ?_)
 ·
  have hlt:i < ps.length:=by simp at hlt;omega
  cases pp with
  | none=> exact absurd (hpp rfl) zb
  | some a=>
  have hv:(ps.map Part.v)[i*1]? =some (.slice ps[i].p ps[i].m.length ps[i].c):=by rw [Nat.mul_one,List.getElem?_map,List.getElem?_eq_getElem hlt];rfl
  rw [joined_succ hlt,List.length_append] at hle1
  refine CW.sn (CW.ss (CW.bb (CW.sr (RL.idx (j:=i) runUnderlying161 sizeOf74 rfl rfl hlt (RL.load isAgg74 rfl (Rd.getS hmem hv) (RL.pn rfl (CW.sr (RL.p rfl ?_))))))))
  refine RL.p rfl (RL.lenS runUnderlying74 rfl (RL.bx rfl (wrapV_i64 zb zb) ?_))
  refine RL.pn rfl (CW.ok [0,3,9,10,11] rfl (CW.s1 rfl (CW.cF rfl zp ?_)))
  refine CW.kk (NQ.bb (NQ.ss (CW.rg (RL.bx rfl (wrapV_i64 zb zb) ?_))))
  refine RL.p rfl (RL.ee ?_)
  refine NQ.rr (g:=i) (i+1) hlt (by show ps.length - (i+1) < ps.length - i;omega) (.cons rfl (.cons (by rw [joined_succ hlt,List.length_append];rfl) sE)) (fun w h=> h)
 ·
  have hin:i=ps.length:=by simp at hlt;omega
  subst hin
  rw [List.take_length]
  refine CW.xx (XQ.ss (XQ.ss (XQ.hh (NQ.ss (CW.sg [1] [] (RL.p rfl (RL.cq (growB_nil (joined ps).length hb) call179 rfl (.inl rfl) ?_)))))))
  rintro _ _ _ ⟨ob,c0,rfl,rfl,rfl⟩
  refine RL.pn rfl (CW.ok [0,6] rfl (CW.ss (CW.sr (RL.p rfl (RL.lenS runUnderlying161 rfl (RL.pn rfl (CW.bb ?_)))))))
  refine CW.loop (γ:=Nat×Option Nat×Nat) (fun g=> g.1≤ps.length) (fun g=> [(6,slO g.2.1 (joined (ps.take g.1)).length g.2.2),(25, .slice pp ps.length cap),(26, .int .i64 (ps.length:Int)),(27, .int .i64 (g.1:Int))]) (fun _=> Base)
   (fun g=> [own g.2.1 g.2.2 5 1 (joined (ps.take g.1)).length (bytes (joined (ps.take g.1)))]) (fun g=> ps.length - g.1) (0,ob,c0) zm sE (fun w h=> h) ?_
  rintro ⟨i,ob',c'⟩ hi'
  dsimp only at hi' ⊢
  have hle:=joined_le ps i
  have hle1:=joined_le ps (i+1)
  refine CW.sr (RL.pn rfl (CW.ss ?_))
  refine CW.cd rfl (fun hlt=> ?_) (fun hlt=> ?_)
  ·
   have hlt:i < ps.length:=by simp at hlt;omega
   cases pp with
   | none=> exact absurd (hpp rfl) zb
   | some a=>
   have hv:(ps.map Part.v)[i*1]? =some (.slice ps[i].p ps[i].m.length ps[i].c):=by rw [Nat.mul_one,List.getElem?_map,List.getElem?_eq_getElem hlt];rfl
   have hmi:sls ps[i].p 1 ps[i].m.length (bytes ps[i].m)∈Base:=hpm _ (List.getElem_mem hlt)
   rw [joined_succ hlt,List.length_append] at hle1
   refine CW.sn (CW.ss (CW.bb (CW.sr (RL.idx (j:=i) runUnderlying161 sizeOf74 rfl rfl hlt (RL.load isAgg74 rfl (Rd.getS hmem hv) (RL.pn rfl (CW.rn (ef:= [2]) (bk:= [2]) (RL.q rfl ?_))))))))
   refine RL.appendA el_74 rfl za (Src.sls hmi) (ones_u8 _) zd zd ?_
   intro ob2 c2 ho2
   refine RL.p rfl (RL.ee (NQ.bb (NQ.ss (CW.ok [6,25,26,27] rfl (CW.rg (RL.bx rfl (wrapV_i64 zb zb) ?_))))))
   refine RL.p rfl (RL.ee ?_)
   refine NQ.rr (g:=(i,ob',c')) (i+1,ob2,c2) hlt (by show ps.length - (i+1) < ps.length - i;omega) (.cons (by rw [joined_succ hlt,List.length_append];rfl) sE) (fun w h=> ?_)
   dsimp only
   rw [joined_succ hlt,List.length_append,bytes_app]
   exact h
  ·
   refine CW.xx (XQ.ss (XQ.ss (XQ.hh (NQ.ss (CW.s1 rfl (CW.ok [2] rfl (CW.rr ?_)))))))
   have hin:i=ps.length:=by simp at hlt;omega
   subst hin
   rw [List.take_length]
   exact RQ.pp (res1 rfl rfl) (.keep .nil) ⟨ob',c',rfl,rfl,rfl⟩
end Go.Proofs.YtkineolcmdecjaaGreat
