import Derived.Test.YtkineolcmdecjaaGreatFr0
import Derived.Test.YtkineolcmdecjaaGreatBase0
import Derived.Test.YtkineolcmdecjaaGreatPD
import Derived.Test.YtkineolcmdecjaaGreatRA
namespace Go.Proofs.YtkineolcmdecjaaGreat
open Go.PK
open Tryz
theorem tag_eq (l1 l2:List B8) (h1:l1.length=16) (h2:l2.length=16) (x y:Operand) (w:World):(do eqGuard .eql 76 x y (.agg (bytes l1).toArray) (.agg (bytes l2).toArray);binOp .eql 76 (.agg (bytes l1).toArray) (.agg (bytes l2).toArray):Sem Value).run prog w= .ok (.bool (l1==l2)) w:=
 eql_arr8 (e:=5) (by kernel_rfl) (ii:=Tryz.t5) (by kernel_rfl) (by kernel_rfl) isAgg5 runUnderlying5 (by kernel_rfl) l1 l2 h1 h2 w
end Go.Proofs.YtkineolcmdecjaaGreat
namespace Go.Proofs.YtkineolcmdecjaaGreat
open Go.PK
open Tryz
def Fr.same (f g:Fr):Bool:=f.kd==g.kd && (f.sr==g.sr && (f.ep==g.ep && (f.ct==g.ct && (f.b==g.b && f.tag==g.tag))))
theorem same_iff {f g:Fr}:f.same g=true↔f=g:=by
 obtain ⟨a,b,c,d,e,h⟩:=f
 obtain ⟨a',b',c',d',e',h'⟩:=g
 simp [Fr.same]
theorem frsame_any (f g:Fr) (p q:Option Addr) (n m c d:Nat) (hf:f.Ok) (hg:g.Ok):Spc prog 31 #[.agg (f.cells (.slice p n c)).toArray, .agg (g.cells (.slice q m d)).toArray] [sls p 1 n (bytes f.b),sls q 1 m (bytes g.b)] [] (Is (.bool (f.same g))):=by
 have hl:=fr_len hf.tag (.slice p n c)
 have hl2:=fr_len hg.tag (.slice q m d)
 have ht:=hf.tag
 have hu:=hg.tag
 have hlt:(bytes f.tag).length=16:=by rw [List.length_map,ht]
 have hlu:(bytes g.tag).length=16:=by rw [List.length_map,hu]
 refine Spc.enter func31 rfl rfl rfl (fun w0 hw0=> ?_)
 refine CW.seq (CW.region (ef:= [0,1]) (bk:= []) (RL.box rfl rfl rfl rfl ?_))
 intro b1
 refine RL.box rfl rfl rfl rfl ?_
 intro b2
 refine RL.pn rfl (CW.seq (CW.freezeP (A:= [_,_]) (B:= []) (.take (.take .nil)) rfl ?_))
 have f1:RdsN [cel b2 (g.cells (.slice q m d)) 78,cel b1 (f.cells (.slice p n c)) 78,sls p 1 n (bytes f.b),sls q 1 m (bytes g.b)] ⟨b1,0+5,none⟩ 16 (bytes f.tag):=RdsN.told mQ (fr_tag f _) hlt
 have f2:RdsN [cel b2 (g.cells (.slice q m d)) 78,cel b1 (f.cells (.slice p n c)) 78,sls p 1 n (bytes f.b),sls q 1 m (bytes g.b)] ⟨b2,0+5,none⟩ 16 (bytes g.tag):=RdsN.told mQ (fr_tag g _) hlu
 refine CW.rg (RL.fa fa_78_0 rfl (RL.lq isAgg3 rfl ?_))
 refine RL.fa fa_78_0 rfl (RL.lq isAgg3 rfl ?_)
 refine RL.q rfl ?_
 apply RL.andB (d:=10) (dp:=16) (l':=(Sq.of [12,13,14,15,16,17,18,19,20,21,22,23,24,25,26,27,28,29,30,31,32,33,34,35,36,37,38,39,40,41,42])) rfl (sK [2,3,4] rfl)
 ·
  intro hb6 K6
  refine RL.fa fa_78_1 rfl (RL.lq isAgg3 rfl ?_)
  refine RL.fa fa_78_1 rfl (RL.lq isAgg3 rfl ?_)
  refine RL.q rfl ?_
  exact K6 _ (.cons rfl (sK [2,3,4] rfl))
 ·
  intro hb6 K6
  refine RL.q rfl (RL.q rfl (RL.q rfl ?_))
  exact K6 _ (.cons rfl (sK [2,3,4] rfl))
 refine RL.p rfl ?_
 apply RL.andB (d:=17) (dp:=23) (l':=(Sq.of [19,20,21,22,23,24,25,26,27,28,29,30,31,32,33,34,35,36,37,38,39,40,41,42])) rfl (sK [2,3,4] rfl)
 ·
  intro hb13 K13
  refine RL.fa fa_78_2 rfl (RL.lq isAgg61 rfl ?_)
  refine RL.fa fa_78_2 rfl (RL.lq isAgg61 rfl ?_)
  refine RL.q rfl ?_
  exact K13 _ (.cons rfl (sK [2,3,4] rfl))
 ·
  intro hb13 K13
  refine RL.q rfl (RL.q rfl (RL.q rfl ?_))
  exact K13 _ (.cons rfl (sK [2,3,4] rfl))
 refine RL.p rfl ?_
 apply RL.andB (d:=24) (dp:=30) (l':=(Sq.of [26,27,28,29,30,31,32,33,34,35,36,37,38,39,40,41,42])) rfl (sK [2,3,4] rfl)
 ·
  intro hb20 K20
  refine RL.fa fa_78_3 rfl (RL.lq isAgg32 rfl ?_)
  refine RL.fa fa_78_3 rfl (RL.lq isAgg32 rfl ?_)
  refine RL.q rfl ?_
  exact K20 _ (.cons rfl (sK [2,3,4] rfl))
 ·
  intro hb20 K20
  refine RL.q rfl (RL.q rfl (RL.q rfl ?_))
  exact K20 _ (.cons rfl (sK [2,3,4] rfl))
 refine RL.p rfl ?_
 apply RL.andB (d:=31) (dp:=39) (l':=(Sq.of [35,36,37,38,39,40,41,42])) rfl (sK [2,3,4] rfl)
 ·
  intro hb27 K27
  refine RL.fa fa_78_4 rfl (RL.lq isAgg74 rfl ?_)
  refine RL.bytesStr (bs:=f.b) (e:=5) (by kernel_rfl) (by kernel_rfl) (by kernel_rfl) rfl rfl (Src.sls mQ) ?_
  refine RL.fa fa_78_4 rfl (RL.lq isAgg74 rfl ?_)
  refine RL.bytesStr (bs:=g.b) (e:=5) (by kernel_rfl) (by kernel_rfl) (by kernel_rfl) rfl rfl (Src.sls mQ) ?_
  refine RL.cmp rfl rfl rfl (eql_txt f.b g.b) (RL.p rfl ?_)
  exact K27 _ (.cons rfl (sK [2,3,4] rfl))
 ·
  intro hb27 K27
  refine RL.q rfl (RL.q rfl (RL.q rfl (RL.q rfl ?_)))
  exact K27 _ (.cons rfl (sK [2,3,4] rfl))
 refine RL.p rfl ?_
 apply RL.andB (d:=40) (dp:=46) (l':=(Sq.of [42])) rfl (sK [4] rfl)
 ·
  intro hb36 K36
  refine RL.fa fa_78_5 rfl (RL.loadSq isAgg76 sizeOf76 rfl rfl ?_)
  refine RL.fa fa_78_5 rfl (RL.loadSq isAgg76 sizeOf76 rfl rfl ?_)
  refine RL.cmp rfl rfl rfl (tag_eq _ _ ht hu _ _) (RL.p rfl ?_)
  exact K36 _ (.cons rfl (sK [4] rfl))
 ·
  intro hb36 K36
  refine RL.q rfl (RL.q rfl (RL.q rfl ?_))
  exact K36 _ (.cons rfl (sK [4] rfl))
 refine RL.pn rfl (CW.ret ?_)
 exact RQ.post (res1 rfl rfl) (Split.none _) ⟨by
  congr 1
  rw [Bool.eq_iff_iff]
  simp [Fr.same,Int.natCast_inj,and_assoc],rfl,rfl⟩
end Go.Proofs.YtkineolcmdecjaaGreat
namespace Go.Proofs.YtkineolcmdecjaaGreat
open Go.PK
open Tryz
theorem saidB_same (l:List FrO) (f:Fr):saidB l f=l.any fun x=> x.f.same f:=by
 rw [saidB]
 congr 1
 funext x
 rw [Bool.eq_iff_iff,same_iff,Bool.and_eq_true,decide_eq_true_eq,beq_iff_eq]
 obtain ⟨⟨a,b,c,d,e,g⟩,_,_⟩:=x
 obtain ⟨a',b',c',d',e',g'⟩:=f
 constructor
 ·rintro ⟨h1,h2⟩
  simp only [Fr.hd,Prod.mk.injEq] at h1 h2
  obtain ⟨rfl,rfl,rfl,rfl,rfl⟩:=h1
  subst h2;rfl
 ·intro h
  cases h;exact ⟨rfl,rfl⟩
theorem rSaid_any (z:RCr) (f:Fr) (p:Option Addr) (c n:Nat) (hz:z.Ok) (hf:f.Ok) (hn:f.b.length=n) (hb:n≤1000000):Spc prog 30 #[.pointer (some ⟨z.b,0,none⟩), .agg (f.cells (.slice p n c)).toArray] [rcrI z,sls p 1 n (bytes f.b)] [] (Is (.bool (saidB z.l f))):=by
 subst hn
 have h21f:=fr_len hf.tag (.slice p f.b.length c)
 have hll:=hz.ll
 refine Spc.enter func30 rfl rfl rfl (fun w0 hw0=> ?_)
 refine CW.seq (CW.region (ef:= [0]) (bk:= []) (RL.box rfl rfl rfl rfl ?_))
 intro b1
 refine RL.pn rfl (CW.s2 (CW.freezeAll rfl ?_))
 refine CW.openT (l:=RcrL z) (by simp) (fun J hJ hz'=> ?_)
 have m1:cel b1 (f.cells (.slice p f.b.length c)) 78∈J:=hJ _ (by simp)
 have mF:sls p 1 f.b.length (bytes f.b)∈J:=hJ _ (by simp)
 have mC:rcrC z∈J:=hz' _ (by simp)
 have mL:rcrL z∈J:=hz' _ (by simp)
 have mB:rcrB z∈J:=hz' _ (by simp)
 clear hJ hz'
 have fS:RdI J ⟨z.b,0+62,none⟩ (slO z.so z.l.length z.soc):=⟨fun _=> Rd.getI mC (rcr_l hz.cm)⟩
 refine CW.rg (RL.pn rfl (CW.block (CW.loop (γ:=Nat) (fun i=> i≤z.l.length∧(z.l.take i).any (fun x=> x.f.same f)=false) (fun i=> [(0, .pointer (some ⟨z.b,0,none⟩)),(3, .pointer (some ⟨b1,0,none⟩)),(5, .int .i64 (i:Int))]) (fun _=> J) (fun _=> []) (fun i=> z.l.length - i) 0 ⟨Nat.zero_le _,by simp⟩ sE (fun w h=> h) ?_)))
 rintro i ⟨hi,hno⟩
 refine CW.fact (p:=z.so=none→z.l.length=0) (fun w hC e=> own_none (by have:=hC.s.i _ mL;rw [rcrL,e] at this;exact this)) (fun hpa=> ?_)
 refine CW.seq (CW.sr (RL.q rfl (RL.p rfl (RL.fa fa_108_4 rfl (RL.lq isAgg72 rfl ?_)))))
 refine RL.lenS runUnderlying72 rfl rfl (RL.pn rfl (CW.ok [0,3,5,12] rfl ?_))
 refine CW.cond rfl (fun hlt=> ?_) (fun hlt=> ?_)
 ·
  have hlt:i < z.l.length:=by simp at hlt;omega
  obtain ⟨sb,hsb⟩:∃sb,z.so=some sb:=by
   cases h:z.so with
   | none=> exact absurd (hpa h) (by omega)
   | some sb=> exact ⟨sb,rfl⟩
  have hx:=List.getElem?_eq_getElem hlt
  have htk:(z.l.take (i+1)).any (fun x=> x.f.same f)=((z.l.take i).any (fun x=> x.f.same f) || (z.l[i]).f.same f):=by
   rw [List.take_add_one,hx,List.any_append]
   show (_ || ((z.l[i]).f.same f || false))=_
   rw [Bool.or_false]
  generalize z.l[i]=x at hx htk
  have hxm:=List.mem_of_getElem? hx
  have hfit:=hz.l x hxm
  have hbl:=hfit.b
  have h21:=fr_len hfit.ok.tag x.sl
  have hlen:∀y∈z.l,y.cells.length=21:=fun y hy=> fr_len (hz.l y hy).ok.tag _
  refine CW.sub (Lies.allI (List.mem_map.2 ⟨x,hxm,rfl⟩:bodyO x∈z.l.map bodyO)) mB ?_
  refine CW.genI (fun J2 hJ2=> ?_)
  have n0:bodyO x∈J2:=hJ2 _ (List.Mem.head _)
  have nL:own (some sb) z.soc 78 21 z.l.length (z.l.flatMap FrO.cells)∈J2:=by rw [←hsb];exact hJ2 _ (List.Mem.tail _ mL)
  have n1:cel b1 (f.cells (.slice p f.b.length c)) 78∈J2:=hJ2 _ (List.Mem.tail _ m1)
  have nF:sls p 1 f.b.length (bytes f.b)∈J2:=hJ2 _ (List.Mem.tail _ mF)
  have nC:rcrC z∈J2:=hJ2 _ (List.Mem.tail _ mC)
  have hJJ:∀x∈J,x∈J2:=fun x hx=> hJ2 _ (List.Mem.tail _ hx)
  clear hJ2
  have fS:RdI J2 ⟨z.b,0+62,none⟩ (slO (some sb) z.l.length z.soc):=by rw [←hsb];exact ⟨fun _=> Rd.getI nC (rcr_l hz.cm)⟩
  have fA:RdsN J2 ⟨sb,0+i*21,none⟩ 21 x.cells:=⟨fun _=> own_rdsI (f:=FrO.cells) nL hx hlen,h21⟩
  have fF:RdsN J2 ⟨b1,0,none⟩ 21 (f.cells (.slice p f.b.length c)):=⟨fun _=> Rds.allI n1,h21f⟩
  refine CW.sn (CW.seq (CW.bs (CW.regionD (Sq.of [0,1,2,3,4,5,6,7,8]) [] [] [0,1,2,3,4,5,6,7,8] mixed (by kernel_rfl) ?_)))
  refine RL.q rfl (RL.fa fa_108_4 rfl (RL.loadTq isAgg72 rfl rfl ?_))
  refine RL.p rfl (RL.idxAt (j:=i) runUnderlying72 sizeOf78 rfl rfl rfl rfl hlt (RL.loadSTq isAgg78 sizeOf78 rfl rfl ?_))
  refine RL.loadSTq isAgg78 sizeOf78 rfl rfl ?_
  refine RL.callvT (frsame_any x.f f (x.ob.map fun b=> ⟨b,0,none⟩) p _ _ x.cp c hfit.ok hf) call31 rfl rfl (Lend.ownI n0 (.inI nF .nil)) ?_
  refine RL.ns (CW.ok [0,3,5,23] rfl ?_)
  refine CW.cond rfl (fun he=> ?_) (fun he=> ?_)
  ·
   refine CW.sr (RL.pn rfl (CW.ret (RQ.block (RQ.seq (RQ.seq (RQ.block (RQ.seq ?_)))))))
   have hs:saidB z.l f=true:=by
    rw [saidB_same,List.any_eq_true]
    exact ⟨x,hxm,he⟩
   exact RQ.post (res1 rfl rfl) (Split.none _) ⟨by rw [hs],rfl,rfl⟩
  ·
   refine CW.skip (NQ.block (NQ.seq (CW.rg (RL.p rfl (RL.bx rfl (wrapV_i64 (by omega) (by omega)) ?_)))))
   refine RL.p rfl (RL.nil ?_)
   refine NQ.round (g:=i) (i+1) ⟨hlt,by rw [htk,hno,he];rfl⟩ (by show z.l.length - (i+1) < z.l.length - i;omega) sE (fun w h=> h.rea (fun x hx=> hJJ x hx) .nil)
 ·
  have hin:i=z.l.length:=by simp at hlt;omega
  subst hin
  rw [List.take_length] at hno
  refine CW.exit (XQ.seq (XQ.seq (XQ.hit (NQ.seq (CW.sr (RL.pn rfl (CW.ret ?_)))))))
  exact RQ.post (res1 rfl rfl) (Split.none _) ⟨by rw [saidB_same,hno],rfl,rfl⟩
end Go.Proofs.YtkineolcmdecjaaGreat
