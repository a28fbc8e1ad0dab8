/- Part 5 of the proof. -/
import Derived.Test.YthlchaldjekokaaGreatG4
import Derived.KernelRfl
set_option linter.all false
namespace Go.Proofs.YthlchaldjekokaaGreat
open Go.PK
abbrev Pt:=Int×Int
structure Zn where
 keep:Bool
 L:List Pt
 fl:Int
 rf:Int
def ptB(p:Pt):Bool:=decide ((-2305843009213693952≤p.1∧p.1≤2305843009213693952)∧(-2305843009213693952≤p.2∧p.2≤2305843009213693952))
def edgB(L:List Pt)(i:Nat):Bool:=match L[i]?,L[(i+1)%L.length]? with
 | some a,some b=>ptB a && !(decide (a=b))
 | _,_=>true
def Zn.ok(z:Zn):Bool:=decide (3≤z.L.length∧z.L.length≤16∧z.fl≤z.rf)&&(List.range z.L.length).all (edgB z.L)
def Zn.err(z:Zn):Int:=if z.ok=true then 0 else 2
def Pt.cells(p:Pt):List Value:=[.int .i64 p.1,.int .i64 p.2]
def znC(k:Bool)(sl:Value)(f r:Int):List Value:=[.bool k,sl,.int .i64 f,.int .i64 r]
theorem jg{I:List It}{b n sz i:Nat}{α:Type}{f:α→List Value}{R:List α}{x:α}(hm:sls (some ⟨b,0,none⟩) sz n (R.flatMap f)∈I)(hx:R[i]?=some x)(hf:∀y∈R,(f y).length=sz):RdsN I ⟨b,0+i*sz,none⟩ sz (f x):=
 ⟨fun H=>by
  have h:=Rds.part (H:=H) (j:=i*sz) (vs:=f x) (Rds.sls hm) (fun q u hu=>by
   have hlt:q<sz:=by have:=(List.getElem?_eq_some_iff.1 hu).1;rwa[hf x (List.mem_of_getElem? hx)] at this
   rw[eL (f:=f) (n:=sz) hf hx hlt];exact hu)
  rwa[bn] at h,hf x (List.mem_of_getElem? hx)⟩
theorem bB{P:Program}{t:TypeId}{cs:List Value}{off:Nat}{v:Value}(hag:∀w,(isAgg t).run P w=.ok false w)(h:cs[off]?=some v)(w:World):(Go.part t cs.toArray off).run P w=.ok v w:=by simp[Go.part,hag,h]
theorem dc{P:Program}{t:TypeId}(hu:∀w,(underlying t).run P w=.ok (.int .i64) w)(d:Nat)(m n:Int)(w:World):(Op.equalIn (d+1) t (.int .i64 m) (.int .i64 n)).run P w=.ok (m==n) w:=by rw[Op.equalIn.eq_2];simp[hu]
theorem eq2_items{P:Program}{e:TypeId}(hag:∀w,(isAgg e).run P w=.ok false w)(hu:∀w,(underlying e).run P w=.ok (.int .i64) w)(dd:Nat)(a b c d:Int)(w:World):(Op.eqItems (dd+1) e 1 #[.int .i64 a,.int .i64 b] #[.int .i64 c,.int .i64 d] (List.range 2)).run P w=.ok (decide ((a,b)=(c,d))) w:=by have p:∀(x y:Int),(Go.part e #[Value.int .i64 x,.int .i64 y] (0*1)).run P w=.ok (.int .i64 x) w:=fun x y=>bB (cs:=[Value.int .i64 x,.int .i64 y]) (off:=0*1) hag rfl w;have q:∀(x y:Int),(Go.part e #[Value.int .i64 x,.int .i64 y] (1*1)).run P w=.ok (.int .i64 y) w:=fun x y=>bB (cs:=[Value.int .i64 x,.int .i64 y]) (off:=1*1) hag rfl w;rw[show List.range 2=[0,1] from rfl];have q':∀(x y:Int),(Go.part e #[Value.int .i64 x,.int .i64 y] 1).run P w=.ok (.int .i64 y) w:=q;simp only[Op.eqItems,Sem.run_bind,p,q,dc hu,Result.andThen_ok];by_cases h1:a=c<;>by_cases h2:b=d<;>simp[h1,h2,q',dc hu]
theorem eql_pt{t e:TypeId}{ii:TypeInfo}(hu:Tryz.prog.underlying t=some (.array 2 e))(hi:Tryz.prog.info? e=some ii)(hc:Tryz.prog.cellsOf e=1)(hag:∀w,(isAgg e).run Tryz.prog w=.ok false w)(hue:∀w,(underlying e).run Tryz.prog w=.ok (.int .i64) w)(hm:Tryz.prog.eqGuardType Tryz.prog.depth t=false)(p q:Pt)(x y:Operand)(w:World):(do eqGuard .eql t x y (.agg p.cells.toArray) (.agg q.cells.toArray);binOp .eql t (.agg p.cells.toArray) (.agg q.cells.toArray):Sem Value).run Tryz.prog w=.ok (.bool (decide (p=q))) w:=by
 have h:(Op.equal t (.agg p.cells.toArray) (.agg q.cells.toArray)).run Tryz.prog w=.ok (decide (p=q)) w:=by unfold Op.equal;rw[show Op.maxDepth=9999+1 from rfl,run_equalIn_array (P:=Tryz.prog) w 9999 _ _ hu hi,hc,show 9999=9998+1 from rfl];exact eq2_items hag hue 9998 p.1 p.2 q.1 q.2 w
 simp[eqGuard,binOp,hm,h]
theorem fright_any(p:Pt):Spc Tryz.prog 139 #[.agg #[.int .i64 p.1,.int .i64 p.2]] [] [] (Is (.bool (ptB p))):=by
 refine Spc.enter Tryz.func139 (h:=?_);refine fun w0 hw0=>?_;refine go 9 ?_;intro b1;refine ak (vs:=[_,_]) KA82.h KS82.h rfl rfl rfl rfl (by first|(apply Rds.cel;(solve|(repeat (first|exact List.Mem.head _|apply List.Mem.tail)));exact am ⟨rfl,rfl,trivial⟩)|(apply Rds.celI;(solve|(repeat (first|exact List.Mem.head _|apply List.Mem.tail)));exact am ⟨rfl,rfl,trivial⟩)|assumption|(apply aU;assumption)) ?_;refine go 4 ?_;refine CW.loop (γ:=Nat) (fun g=>g≤2∧(1≤g→ -2305843009213693952≤p.1∧p.1≤2305843009213693952)∧(2≤g→ -2305843009213693952≤p.2∧p.2≤2305843009213693952)) (fun g=>[(5,.agg #[.int .i64 p.1,.int .i64 p.2]),(6,.int .i64 (g:Int))]) (fun _=>[]) (fun _=>[]) (fun g=>2-g) 0 ⟨by omega,by omega,by omega⟩ (.cons rfl (.cons rfl .nil)) (fun w h=>h.rea (fun _ h=>h) .nil) ?_;rintro g ⟨hg,h1,h2⟩
 have hv:∀x:Int,(if g=0 then p.1 else p.2)=x→g<2→(#[Value.int .i64 p.1,.int .i64 p.2])[g*1]?=some (.int .i64 x):=by
  rintro _ rfl hlt;have:g=0∨g=1:=by omega
  rcases this with rfl|rfl<;>rfl
 refine go 6 ?_;refine CW.cond rfl (fun hlt=>?_) (fun hlt=>?_)
 ·have hlt':g<2:=by simp at hlt;omega
  refine go 6 ?_;refine RL.index (j:=g) KU82.h KS25.h KA25.h rfl rfl rfl rfl rfl rfl hlt' (hv _ rfl hlt') (go 8 ?_);apply au (d:=11) (dp:=14) (l':=(Sq.of [])) rfl (sK [5,6] rfl)
  ·intro hb3 K3;refine go 3 ?_;exact K3 _ (.cons rfl (sK [5,6] rfl))
  ·intro hb3 K3;refine go 3 ?_;exact K3 _ (.cons rfl (sK [5,6] rfl))
  refine go 2 ?_;refine CW.cond rfl (fun hb=>?_) (fun hb=>?_)
  ·refine go 11 ?_;refine RQ.post (az rfl rfl) (aa _) ⟨?_,rfl,rfl⟩;congr 1;symm;rw[ptB,decide_eq_false_iff_not];rintro⟨⟨a1,a2⟩,b1,b2⟩;have:g=0∨g=1:=by omega
   rcases this with rfl|rfl<;>simp at hb<;>omega
  ·refine go 4 ?_;refine ap rfl (ad (by omega) (by omega)) ?_;refine go 2 ?_;refine NQ.round (g:=g) (g+1) ⟨by omega,fun _=>?_,fun _=>?_⟩ (by omega) (.cons rfl (.cons rfl .nil)) (fun w h=>h.rea (fun _ h=>h) .nil)
   ·rcases Nat.eq_zero_or_pos g with rfl|h0
    ·simp at hb;omega
    ·exact h1 h0
   ·have:g=1:=by omega
    subst this;simp at hb;omega
 ·refine go 11 ?_;have hg2:g=2:=by simp at hlt;omega
  subst hg2;refine RQ.post (az rfl rfl) (aa _) ⟨?_,rfl,rfl⟩;rw[ptB,decide_eq_true ⟨h1 (by omega),h2 (by omega)⟩]
def edL(L:List Pt):List (List Value):=(List.range L.length).map fun k=>[.agg (L.getD k (0,0)).cells.toArray,.agg (L.getD ((k+1)%L.length) (0,0)).cells.toArray]
theorem edL_at{L:List Pt}{k:Nat}{a:List Value}(h:(edL L)[k]?=some a):k<L.length∧a=[.agg (L.getD k (0,0)).cells.toArray,.agg (L.getD ((k+1)%L.length) (0,0)).cells.toArray]:=by
 have hk:k<L.length:=by have:=(List.getElem?_eq_some_iff.1 h).1;simpa[edL] using this
 refine⟨hk,?_⟩;rw[edL,List.getElem?_map,List.getElem?_range hk] at h;exact(Option.some.inj h).symm
theorem ptD{L:List Pt}{k:Nat}(hk:k<L.length):L[k]?=some (L.getD k (0,0)):=by rw[List.getD_eq_getElem?_getD,List.getElem?_eq_getElem hk];rfl
theorem edgB_D{L:List Pt}{k:Nat}(hk:k<L.length):edgB L k=(ptB (L.getD k (0,0)) && !(decide (L.getD k (0,0)=L.getD ((k+1)%L.length) (0,0)))):=by rw[edgB,ptD hk,ptD (Nat.mod_lt _ (by omega))]
theorem Split.front:∀A B:List It,Split (A++B) A []
 | [],B=>aa B
 | _::A,B=>.keep (Split.front A B)
theorem Les.nil':∀B:List It,Les B []
 | []=>.nil
 | _::B=>.drop (Les.nil' B)
theorem Les.front:∀A B:List It,Les (A++B) A
 | [],B=>Les.nil' B
 | _::A,B=>.keep (Les.front A B)
theorem eY:∀H:List It,Split H H []
 | []=>.nil
 | _::H=>.keep (eY H)
theorem edges_it(z:Zn)(ob:Option Nat)(cap n:Nat)(hn:z.L.length=n)(hl:n≤1000000):Iter Tryz.prog 180 [.agg (znC z.keep (aE ob n cap) z.fl z.rf).toArray] [] [sls (ob.map fun b=>⟨b,0,none⟩) 2 n (z.L.flatMap Pt.cells)] (edL z.L):=by
 subst hn;intro l X Z p hY;show Spc _ _ #[.agg (znC z.keep (aE ob z.L.length cap) z.fl z.rf).toArray,.func (.yield l) #[] #[]] _ _ _;have hLl:∀q∈z.L,(Pt.cells q).length=2:=fun _ _=>rfl;have hel:(edL z.L).length=z.L.length:=by simp[edL]
 refine Spc.enter Tryz.func180 (h:=?_);refine fun w0 hw0=>?_;refine go 6 ?_;intro b1;refine aB (A:=[cel b1 (znC z.keep (aE ob z.L.length cap) z.fl z.rf) 85]) (B:=X 0) (.take (ai _)) rfl ?_;refine aW (fun J hJ=>?_);have m1:cel b1 (znC z.keep (aE ob z.L.length cap) z.fl z.rf) 85∈J:=hJ _ (by simp);have m2:sls (ob.map fun b=>⟨b,0,none⟩) 2 z.L.length (z.L.flatMap Pt.cells)∈J:=hJ _ (by simp);clear hJ;have fS:RdI J ⟨b1,0+1,none⟩ (aE ob z.L.length cap):=⟨fun _=>Rd.celI m1 rfl⟩;refine go 8 ?_;refine CW.loop (γ:=Nat) (fun i=>i≤z.L.length∧∀k,k<i→p k=true) (fun i=>[(1,.func (.yield l) #[] #[]),(2,.pointer (some ⟨b1,0,none⟩)),(7,aE ob z.L.length cap),(8,.int .i64 (z.L.length:Int)),(9,.int .i64 (i:Int))]) (fun _=>J) (fun i=>X i) (fun i=>z.L.length-i) 0 ⟨Nat.zero_le _,by omega⟩ (.cons rfl (.cons rfl (.cons rfl (.cons rfl (.cons rfl .nil))))) (fun w h=>h) ?_;rintro i ⟨hi,hp⟩;refine aR (p:=ob=none→z.L.length=0) (fun w hC e=>bf (hC.s.i _ m2) (by rw[e];rfl)) (fun hpa=>?_);refine go 6 ?_;refine CW.cond rfl (fun hlt=>?_) (fun hlt=>?_)
 ·have hlt':i<z.L.length:=by simp at hlt;omega
  cases ob with
  | none=>exact absurd (hpa rfl) (by omega)
  | some bo=>
  have hm':(i+1)%z.L.length<z.L.length:=Nat.mod_lt _ (by omega);have fA:RdsN J ⟨bo,0+i*2,none⟩ 2 (Pt.cells (z.L.getD i (0,0))):=jg (f:=Pt.cells) m2 (ptD hlt') hLl;have fB:RdsN J ⟨bo,0+(i+1)%z.L.length*2,none⟩ 2 (Pt.cells (z.L.getD ((i+1)%z.L.length) (0,0))):=jg (f:=Pt.cells) m2 (ptD hm') hLl;have hy:=hY i _ (show(edL z.L)[i]?=some [.agg (z.L.getD i (0,0)).cells.toArray,.agg (z.L.getD ((i+1)%z.L.length) (0,0)).cells.toArray] by rw[edL,List.getElem?_map,List.getElem?_range hlt'];rfl);refine go 7 ?_;refine aP (j:=i) (ho:=rfl) (hlt:=hlt') (h:=go 7 ?_);intro b2;refine ae (Sq.of [0,1,2,3,4,5,6,7,8,9,10,11,12,13]) [12] [12] [0,2,3,4,5,6,7,8,9,10,11,13] (h:=?_);refine go 1 ?_;refine aT KA82.h KS82.h rfl rfl rfl rfl mQ rfl ?_;refine go 3 ?_;refine ap rfl (ad (by omega) (by omega)) ?_;refine go 3 ?_;refine RL.remX (v':=.int .i64 (((i+1)%z.L.length:Nat):Int)) rfl rfl rfl rfl rfl (by omega) (by rw[show((i:Int)+1).tmod (z.L.length:Int)=(((i+1)%z.L.length:Nat):Int) from rfl]) ?_;refine aP (j:=(i+1)%z.L.length) (ho:=rfl) (hlt:=hm') (h:=go 1 ?_);refine RL.callY hy rfl rfl rfl rfl rfl rfl rfl (.leave (Pick.all _)) ?_;rintro _ _ ⟨rfl,rfl⟩;refine go 3 ?_;refine CW.cond rfl (fun hq=>?_) (fun hq=>?_)
  ·have hpf:p i=false:=by simpa using hq
   refine go 5 ?_;rw[if_neg (by rw[hpf];decide)];exact RQ.post (dn rfl) (Split.front _ _) ⟨rfl,rfl,.inr ⟨i,by rw[hel];exact hlt',hpf,rfl⟩⟩
  ·have hpt:p i=true:=by simpa using hq
   refine go 4 ?_;refine ap rfl (ad (by omega) (by omega)) ?_;refine go 2 ?_;rw[if_pos hpt];exact NQ.round (g:=i) (i+1) ⟨hlt',fun k hk=>by rcases Nat.lt_succ_iff_lt_or_eq.1 hk with h|rfl;exact hp k h;exact hpt⟩ (by omega) (.cons rfl (.cons rfl (.cons rfl (.cons rfl (.cons rfl .nil))))) (fun w h=>h.les (fun _ h=>h) (Les.front _ _))
 ·refine go 4 ?_;have hin:i=z.L.length:=by simp at hlt;omega
  subst hin;exact NQ.post (dn rfl) (eY _) ⟨rfl,rfl,.inl ⟨by rw[hel],fun k hk=>hp k (by rwa[hel] at hk)⟩⟩
theorem zn_yes{z:Zn}(h:3≤z.L.length∧z.L.length≤16∧z.fl≤z.rf)(hk:∀k,k<z.L.length→edgB z.L k=true):z.err=0:=by rw[Zn.err,Zn.ok,decide_eq_true h,Bool.true_and,if_pos];simpa using hk
theorem zn_no{z:Zn}{k:Nat}(hk:k<z.L.length)(h:edgB z.L k=false):z.err=2:=by rw[Zn.err,if_neg];rw[Zn.ok,Bool.and_eq_true,not_and];intro _ h2;have:=List.all_eq_true.1 h2 k (by simpa using hk);rw[h] at this;cases this
theorem zn_no'{z:Zn}(h: ¬(3≤z.L.length∧z.L.length≤16∧z.fl≤z.rf)):z.err=2:=by rw[Zn.err,if_neg];rw[Zn.ok,decide_eq_false h];simp
theorem fcheck_any(z:Zn)(ob:Option Nat)(cap n:Nat)(hn:z.L.length=n)(hl:n≤1000000):Spc Tryz.prog 107 #[.agg (znC z.keep (aE ob n cap) z.fl z.rf).toArray] [sls (ob.map fun b=>⟨b,0,none⟩) 2 n (z.L.flatMap Pt.cells)] [] (Is (.int .i64 z.err)):=by
 have hit:=edges_it z ob cap n hn hl;subst hn;refine Spc.enter Tryz.func107 (h:=?_);refine fun w0 hw0=>?_;refine go 14 ?_;intro b1 b2;apply au (d:=9) (dp:=14) (l':=(Sq.of [10,11,12,13,14,15,16])) rfl (sK [1,2] rfl)
 ·intro hb5 K5;refine go 5 ?_;exact K5 _ (.cons rfl (sK [1,2] rfl))
 ·intro hb5 K5;refine go 5 ?_;exact K5 _ (.cons rfl (sK [1,2] rfl))
 refine go 1 ?_;apply au (d:=15) (dp:=21) (l':=(Sq.of [])) rfl (sK [1,2] rfl)
 ·intro hb11 K11;refine go 6 ?_;exact K11 _ (.cons rfl (sK [1,2] rfl))
 ·intro hb11 K11;refine go 6 ?_;exact K11 _ (.cons rfl (sK [1,2] rfl))
 refine go 2 ?_;refine CW.cond rfl (fun h1=>?_) (fun h1=>?_)
 ·refine go 7 ?_;exact RQ.post (resV rfl rfl KA41.h mQ) (aa _) ⟨by rw[zn_no' (by simp at h1;omega)],rfl,rfl⟩
 ·refine go 6 ?_;refine RL.makeFunc rfl rfl rfl rfl rfl (go 3 ?_);have h1':3≤z.L.length∧z.L.length≤16∧z.fl≤z.rf:=by simp at h1;omega
  refine CW.rangeFunc (X:=fun _=>[cel b2 [.int .i64 0] 41]) (Z:=fun _=>[cel b2 [.int .i64 2] 41]) (p:=edgB z.L) hit rfl Tryz.call180 (fun a ha=>?_) (by decide) pE (by repeat (first|exact Lend.nil|(refine Lend.inI ?_ ?_;(solve|(repeat (first|exact List.Mem.head _|apply List.Mem.tail))))|(refine Lend.inH ?_ ?_;(solve|(repeat (first|exact List.Mem.head _|apply List.Mem.tail)))))) (fun l r k a w1 ha=>?_) (fun hall D=>?_) (fun k hk1 hk2 D=>?_)
  ·simp only[edL,List.mem_map] at ha;obtain⟨_,-,rfl⟩:=ha;rfl
  ·obtain⟨hk,rfl⟩:=edL_at ha;rw[edgB_D hk];generalize z.L.getD k (0,0)=pa;generalize z.L.getD ((k+1)%z.L.length) (0,0)=pb;refine go 10 ?_;intro b3 b4;refine NQ.rdBegin ?_;refine go 4 ?_;refine ab (fright_any pa) (h:=?_);refine go 2 ?_;apply au (d:=29) (dp:=33) (l':=(Sq.of [])) rfl (sK [2,24,25] rfl)
   ·intro hb4 K4;refine go 2 ?_;refine bj rfl rfl rfl rfl rfl (fun w=>eql_pt (by kernel_rfl) (ii:=Tryz.t25) (by kernel_rfl) (by kernel_rfl) KA25.h KU25.h (by kernel_rfl) pa pb _ _ w) ?_;refine go 1 ?_;exact K4 _ (.cons rfl (sK [2,24,25] rfl))
   ·intro hb4 K4;refine go 4 ?_;exact K4 _ (.cons rfl (sK [2,24,25] rfl))
   refine go 2 ?_;refine CW.cond rfl (fun hq=>?_) (fun hq=>?_)
   ·have hp:(ptB pa && !decide (pa=pb))=false:=by revert hq;cases ptB pa<;>cases decide (pa=pb)<;>simp
    rw[hp];refine go 7 ?_;exact RQ.rdRet rE ⟨rfl,rfl⟩
   ·have hp:(ptB pa && !decide (pa=pb))=true:=by revert hq;cases ptB pa<;>cases decide (pa=pb)<;>simp
    rw[hp];refine go 2 ?_;exact NQ.rdEnd rE ⟨rfl,rfl⟩
  ·refine go 8 ?_;refine RQ.marks ?_;exact RQ.post (resV rfl rfl KA41.h mQ) (aa _) ⟨by rw[zn_yes h1' (fun k hk=>hall k (by rw[edL];simpa using hk))],rfl,rfl⟩
  ·refine go 2 ?_;refine RQ.marks ?_;exact RQ.post (resV rfl rfl KA41.h mQ) (aa _) ⟨by rw[zn_no (by simpa[edL] using hk1) hk2],rfl,rfl⟩
def PtZ:Value→List It→List It→Prop:=fun v I' H'=>∃p,v=.tuple #[.pointer p,.int .i64 0]∧I'=[]∧H'=[]
abbrev ZO:=Zn×Option Nat×Nat
def znO(z:ZO):List Value:=znC z.1.keep (aE z.2.1 z.1.L.length z.2.2) z.1.fl z.1.rf
def znS(z:ZO):It:=sls (z.2.1.map fun b=>⟨b,0,none⟩) 2 z.1.L.length (z.1.L.flatMap Pt.cells)
theorem znO_len(z:ZO):(znO z).length=4:=rfl
structure PG where
 Cc:List Value
 R:List (List Value)
 ZL:List ZO
 oa:Option Nat
 oz:Option Nat
 ca:Nat
 cz:Nat
 de:Int
 ra:Int
 mo:Int
 sz:Int
def PG.C(G:PG):List Value:=G.Cc++[aE G.oz G.ZL.length G.cz,.int .i64 G.de,.int .i64 G.ra,.int .i64 G.mo,.int .i64 G.sz]
structure PG.Ok(G:PG)(im:It):Prop where
 cm:G.Cc.length=45
 hd:G.Cc[0]?=some (aE G.oa G.R.length G.ca)
 nl:G.R.length≤1000000
 nz:G.ZL.length≤8
 np:∀z∈G.ZL,z.1.L.length≤1000000
 ze:∀z∈G.ZL,z.1.err=0
 rl:∀s∈G.R,s.length=48
 ro:∀s∈G.R,dO s=true
 sc:Spc Tryz.prog 51 #[.agg G.Cc.toArray] [im] [] (Is (.int .i64 0))
 sy:Spc Tryz.prog 63 #[.int .i64 G.de,.int .i64 G.ra,.int .i64 G.mo] [] [] PtZ
 tr:Spc Tryz.prog 27 #[.int .i64 G.sz] [] [] PtZ
 ba:∀s∈G.R,Spc Tryz.prog 59 #[.agg s.toArray] [] [] (Is (.bool true))
abbrev PG.I(G:PG)(im:It):List It:=im::sls (G.oa.map fun b=>⟨b,0,none⟩) 48 G.R.length (G.R.flatMap id)::sls (G.oz.map fun b=>⟨b,0,none⟩) 4 G.ZL.length (G.ZL.flatMap znO)::G.ZL.map znS
theorem PG.cf{G:PG}(h:G.Cc.length=45)(j:Nat)(u:Value)(hu:G.Cc[j]?=some u):G.C[0+0+j]?=some u:=by rw[show 0+0+j=j by omega,PG.C,List.getElem?_append_left (List.getElem?_eq_some_iff.1 hu).1];exact hu
theorem PG.tl{G:PG}(h:G.Cc.length=45)(j:Nat):G.C[0+(45+j)]?=[aE G.oz G.ZL.length G.cz,.int .i64 G.de,.int .i64 G.ra,.int .i64 G.mo,.int .i64 G.sz][j]?:=by rw[PG.C,List.getElem?_append_right (by rw[h];omega),h,show 0+(45+j)-45=j by omega]
theorem PG.len{G:PG}(h:G.Cc.length=45):G.C.length=50:=by rw[PG.C,List.length_append,h];rfl
def zL(n:Nat):List (List Value):=List.replicate n [.int .i64 0]
theorem zL_at{n k:Nat}(h:k<n):(zL n)[k]?=some [.int .i64 0]:=by rw[zL,List.getElem?_replicate,if_pos h]
theorem zL_of{n k:Nat}{a:List Value}(h:(zL n)[k]?=some a):a=[.int .i64 0]:=by
 rw[zL,List.getElem?_replicate] at h;split at h
 ·exact(Option.some.inj h).symm
 ·cases h
theorem parts_it(G:PG)(im:It)(hG:G.Ok im):Iter Tryz.prog 58 [.agg G.C.toArray] [] (G.I im) (zL (3+G.ZL.length)):=by
 intro l X Z p hY;show Spc _ _ #[.agg G.C.toArray,.func (.yield l) #[] #[]] _ _ _;have hel:(zL (3+G.ZL.length)).length=3+G.ZL.length:=by simp[zL]
 have hnz:=hG.nz;have hY:∀k,k<3+G.ZL.length→_:=fun k hk=>hY k _ (zL_at hk);refine Spc.enter Tryz.func58 (h:=?_);refine fun w0 hw0=>?_;refine go 7 ?_;intro b1;refine aB (A:=[cel b1 G.C 37]) (B:=X 0) (.take (ai _)) rfl ?_;refine aW (fun J hJ=>?_);have m0:im∈J:=hJ _ (by simp);have m1:cel b1 G.C 37∈J:=hJ _ (by simp);have m2:sls (G.oa.map fun b=>⟨b,0,none⟩) 48 G.R.length (G.R.flatMap id)∈J:=hJ _ (by simp);have m3:sls (G.oz.map fun b=>⟨b,0,none⟩) 4 G.ZL.length (G.ZL.flatMap znO)∈J:=hJ _ (by simp);have m4:∀z∈G.ZL,znS z∈J:=fun z hz=>hJ _ (by repeat (first|exact List.mem_map_of_mem hz|apply List.mem_cons_of_mem));clear hJ;have fC:RdsN J ⟨b1,0+0,none⟩ 45 G.Cc:=aV m1 (PG.cf hG.cm) hG.cm;have fS:RdI J ⟨b1,0+0+0,none⟩ (aE G.oa G.R.length G.ca):=⟨fun _=>aD m1 (PG.cf hG.cm 0 _ hG.hd)⟩;have fZ:RdI J ⟨b1,0+45,none⟩ (aE G.oz G.ZL.length G.cz):=⟨fun _=>aD m1 (PG.tl hG.cm 0)⟩;have f6:RdI J ⟨b1,0+46,none⟩ (.int .i64 G.de):=⟨fun _=>aD m1 (PG.tl hG.cm 1)⟩;have f7:RdI J ⟨b1,0+47,none⟩ (.int .i64 G.ra):=⟨fun _=>aD m1 (PG.tl hG.cm 2)⟩;have f8:RdI J ⟨b1,0+48,none⟩ (.int .i64 G.mo):=⟨fun _=>aD m1 (PG.tl hG.cm 3)⟩;have f9:RdI J ⟨b1,0+49,none⟩ (.int .i64 G.sz):=⟨fun _=>aD m1 (PG.tl hG.cm 4)⟩;refine go 4 ?_;refine ar (hG.sc) (hl:=.inI m0 .nil) (h:=?_);refine RL.callY (hY 0 (by omega)) rfl rfl rfl rfl rfl rfl rfl (Pick.all _) ?_;rintro _ _ ⟨rfl,rfl⟩;rw[List.append_nil];refine go 3 ?_;refine CW.cond rfl (fun h0=>?_) (fun h0=>?_)
 ·have hpf:p 0=false:=by simpa using h0
  refine go 2 ?_;rw[if_neg (by rw[hpf];decide)];exact RQ.post (dn rfl) (eY _) ⟨rfl,rfl,.inr ⟨0,by omega,hpf,rfl⟩⟩
 ·have hp0:p 0=true:=by simpa using h0
  rw[if_pos hp0];refine go 10 ?_;refine RL.call hG.sy (hp:=ai _) (hl:=.nil) (hb:=.inl rfl) (h:=?_);rintro _ _ _ ⟨p1,rfl,rfl,rfl⟩;rw[List.nil_append,List.nil_append];refine go 11 ?_;refine RL.call hG.tr (hp:=ai _) (hl:=.nil) (hb:=.inl rfl) (h:=?_);rintro _ _ _ ⟨p2,rfl,rfl,rfl⟩;rw[List.nil_append,List.nil_append];refine go 12 ?_;refine RL.callY (hY 1 (by omega)) rfl rfl rfl rfl rfl rfl rfl (Pick.all _) ?_;rintro _ _ ⟨rfl,rfl⟩;rw[List.append_nil];refine go 2 ?_;refine RL.part (d:=36) rfl (fun h1=>?_) (fun h1=>?_)
  ·refine go 7 ?_;refine aI (h:=go 2 ?_);have hpf:p 1=false:=by simpa using h1
   rw[if_neg (by rw[hpf];decide)];exact RQ.post (dn rfl) (eY _) ⟨rfl,rfl,.inr ⟨1,by omega,hpf,rfl⟩⟩
  ·have hp1:p 1=true:=by simpa using h1
   rw[if_pos hp1];refine go 2 ?_;refine RL.callY (hY 2 (by omega)) rfl rfl rfl rfl rfl rfl rfl (Pick.all _) ?_;rintro _ _ ⟨rfl,rfl⟩;rw[List.append_nil];refine go 4 ?_;refine CW.cond rfl (fun h2=>?_) (fun h2=>?_)
   ·have hpf:p 2=false:=by simpa using h2
    refine go 2 ?_;rw[if_neg (by rw[hpf];decide)];exact RQ.post (dn rfl) (eY _) ⟨rfl,rfl,.inr ⟨2,by omega,hpf,rfl⟩⟩
   ·have hp2:p 2=true:=by simpa using h2
    rw[if_pos hp2];refine go 11 ?_
    refine CW.loop (γ:=Nat) (fun i=>i≤G.ZL.length∧∀k,k<3+i→p k=true) (fun i=>[(1,.func (.yield l) #[] #[]),(43,aE G.oz G.ZL.length G.cz),(44,.int .i64 (G.ZL.length:Int)),(45,.int .i64 (i:Int))]) (fun _=>J) (fun i=>X (3+i)) (fun i=>G.ZL.length-i) 0 ⟨Nat.zero_le _,fun k hk=>by
     have:k=0∨k=1∨k=2:=by omega
     rcases this with rfl|rfl|rfl
     ·exact hp0
     ·exact hp1
     ·exact hp2⟩ (.cons rfl (.cons rfl (.cons rfl (.cons rfl .nil)))) (fun w h=>h) ?_
    rintro i ⟨hi,hp⟩;refine aR (p:=G.oz=none→G.ZL.length=0) (fun w hC e=>bf (hC.s.i _ m3) (by rw[e];rfl)) (fun hpa=>?_);refine go 6 ?_;refine CW.cond rfl (fun hlt=>?_) (fun hlt=>?_)
    ·have hlt':i<G.ZL.length:=by simp at hlt;omega
     have hoz:∃bz,G.oz=some bz:=by
      cases h:G.oz with
      | none=>exact absurd (hpa h) (by omega)
      | some bz=>exact⟨bz,rfl⟩
     obtain⟨bz,hoz⟩:=hoz;rw[hoz] at m3 fZ ⊢;obtain⟨z,hz⟩:∃z,G.ZL[i]?=some z:=⟨_,List.getElem?_eq_getElem hlt'⟩;have hzm:=List.mem_of_getElem? hz;have fA:RdsN J ⟨bz,0+i*4,none⟩ 4 (znO z):=jg (f:=znO) m3 hz (fun z _=>znO_len z);have hy:=hY (3+i) (by omega);have hfc:=fcheck_any z.1 z.2.1 z.2.2 _ rfl (hG.np z hzm);rw[hG.ze z hzm] at hfc;refine go 6 ?_;refine aP (j:=i) (ho:=rfl) (hlt:=hlt') (h:=go 8 ?_);intro b2;refine aT KA85.h KS85.h rfl rfl rfl rfl mQ rfl ?_;refine ar (hfc) (hl:=.inI (m4 z hzm) .nil) (h:=?_);refine RL.callY hy rfl rfl rfl rfl rfl rfl rfl (.leave (Pick.all _)) ?_;rintro _ _ ⟨rfl,rfl⟩;refine go 3 ?_;refine CW.cond rfl (fun hq=>?_) (fun hq=>?_)
     ·have hpf:p (3+i)=false:=by simpa using hq
      refine go 5 ?_;rw[if_neg (by rw[hpf];decide)];exact RQ.post (dn rfl) (Split.front _ _) ⟨rfl,rfl,.inr ⟨3+i,by omega,hpf,rfl⟩⟩
     ·have hpt:p (3+i)=true:=by simpa using hq
      refine go 4 ?_;refine ap rfl (ad (by omega) (by omega)) ?_;refine go 2 ?_;rw[if_pos hpt];exact NQ.round (g:=i) (i+1) ⟨hlt',fun k hk=>by rcases Nat.lt_succ_iff_lt_or_eq.1 (show k<(3+i)+1 by omega) with h|rfl;exact hp k h;exact hpt⟩ (by omega) (.cons rfl (.cons rfl (.cons rfl (.cons rfl .nil)))) (fun w h=>h.les (fun _ h=>h) (Les.front _ _))
    ·refine go 4 ?_;have hin:i=G.ZL.length:=by simp at hlt;omega
     subst hin;exact NQ.post (dn rfl) (eY _) ⟨rfl,rfl,.inl ⟨by rw[hel],fun k hk=>hp k (by omega)⟩⟩
theorem gcheck_yes(G:PG)(im:It)(hG:G.Ok im):Spc Tryz.prog 24 #[.agg G.C.toArray] (G.I im) [] (Is (.int .i64 0)):=by
 have hit:=parts_it G im hG;have hnz:=hG.nz;have hnl:=hG.nl;have hpl:=PG.len hG.cm;refine Spc.enter Tryz.func24 (h:=?_);refine fun w0 hw0=>?_;refine go 8 ?_;intro b1 b2;refine aB (A:=[cel b1 G.C 37]) (B:=[cel b2 [.int .i64 0] 41]) (h:=?_);refine aW (fun J hJ=>?_);have hplI:∀x∈G.I im,x∈J:=fun x hx=>hJ x (List.Mem.tail _ hx);have m0:im∈J:=hJ _ (by simp);have m1:cel b1 G.C 37∈J:=hJ _ (by simp);have m2:sls (G.oa.map fun b=>⟨b,0,none⟩) 48 G.R.length (G.R.flatMap id)∈J:=hJ _ (by simp);have m3:sls (G.oz.map fun b=>⟨b,0,none⟩) 4 G.ZL.length (G.ZL.flatMap znO)∈J:=hJ _ (by simp);have m4:∀z∈G.ZL,znS z∈J:=fun z hz=>hJ _ (by repeat (first|exact List.mem_map_of_mem hz|apply List.mem_cons_of_mem));clear hJ;have fC:RdsN J ⟨b1,0+0,none⟩ 45 G.Cc:=aV m1 (PG.cf hG.cm) hG.cm;have fS:RdI J ⟨b1,0+0+0,none⟩ (aE G.oa G.R.length G.ca):=⟨fun _=>aD m1 (PG.cf hG.cm 0 _ hG.hd)⟩;have fZ:RdI J ⟨b1,0+45,none⟩ (aE G.oz G.ZL.length G.cz):=⟨fun _=>aD m1 (PG.tl hG.cm 0)⟩;have f6:RdI J ⟨b1,0+46,none⟩ (.int .i64 G.de):=⟨fun _=>aD m1 (PG.tl hG.cm 1)⟩;have f7:RdI J ⟨b1,0+47,none⟩ (.int .i64 G.ra):=⟨fun _=>aD m1 (PG.tl hG.cm 2)⟩;have f8:RdI J ⟨b1,0+48,none⟩ (.int .i64 G.mo):=⟨fun _=>aD m1 (PG.tl hG.cm 3)⟩;have f9:RdI J ⟨b1,0+49,none⟩ (.int .i64 G.sz):=⟨fun _=>aD m1 (PG.tl hG.cm 4)⟩;have fA:RdsN J ⟨b1,0,none⟩ 50 G.C:=aV m1 (fun j u hu=>by rw[Nat.zero_add];exact hu) hpl;refine go 7 ?_;refine CW.cond rfl (fun h8=>?_) (fun h8=>?_)
 ·exfalso;revert h8;simp<;>omega
 ·refine go 6 ?_;refine RL.makeFunc rfl rfl rfl rfl rfl (go 3 ?_);refine CW.rangeFunc (X:=fun _=>[cel b2 [.int .i64 0] 41]) (Z:=fun _=>[cel b2 [.int .i64 310] 41]) (p:=fun _=>true) hit rfl Tryz.call58 (fun a ha=>?_) (by decide) pE (Lend.many hplI) (fun l r k a w1 ha=>?_) (fun hall D=>?_) (fun k hk1 hk2 D=>?_)
  ·obtain⟨k,hk⟩:=List.getElem?_of_mem ha;rw[zL_of hk];rfl
  ·obtain rfl:=zL_of ha;refine go 3 ?_;refine NQ.rdBegin ?_;refine go 7 ?_;refine CW.cond rfl (fun hq=>?_) (fun hq=>?_)
   ·exfalso;revert hq;simp
   ·refine go 2 ?_;exact NQ.rdEnd rE ⟨rfl,rfl⟩
  ·have hD:=hall;clear hD hall;refine go 13 ?_;refine CW.loop (γ:=Nat) (fun i=>i≤G.R.length) (fun i=>[(2,.pointer (some ⟨b2,0,none⟩)),(17,aE G.oa G.R.length G.ca),(18,.int .i64 (G.R.length:Int)),(19,.int .i64 (i:Int))]) (fun _=>J) (fun _=>[blk D (.deferred (some [])),cel b2 [.int .i64 0] 41]) (fun i=>G.R.length-i) 0 (Nat.zero_le _) (.cons rfl (.cons rfl (.cons rfl (.cons rfl .nil)))) wE ?_;rintro i hi;refine aR (p:=G.oa=none→G.R.length=0) (fun w hC e=>bf (hC.s.i _ m2) (by rw[e];rfl)) (fun hpa=>?_);refine go 6 ?_;refine CW.cond rfl (fun hlt=>?_) (fun hlt=>?_)
   ·have hlt':i<G.R.length:=by simp at hlt;omega
    have hoz:∃ba,G.oa=some ba:=by
     cases h:G.oa with
     | none=>exact absurd (hpa h) (by omega)
     | some ba=>exact⟨ba,rfl⟩
    obtain⟨ba,hoz⟩:=hoz;rw[hoz] at m2 fS ⊢;have hx:=List.getElem?_eq_getElem hlt';generalize G.R[i]=s at hx;have hsm:=List.mem_of_getElem? hx;have hsl:=hG.rl s hsm;have fB:RdsN J ⟨ba,0+i*48,none⟩ 48 s:=jg (f:=id) m2 hx (fun s hs=>hG.rl s hs);refine go 6 ?_;refine aP (j:=i) (ho:=rfl) (hlt:=hlt') (h:=go 2 ?_);intro b3;refine an (ho:=rfl) (h1:=hG.ro s hsm) (hv:=hsl) (h:=?_);refine go 4 ?_;refine aT (ho:=rfl) (hl:=hsl) (h:=?_);refine ab ((hG.ba s hsm)) (h:=?_);refine go 3 ?_;refine CW.cond rfl (fun hq=>?_) (fun hq=>?_)
    ·exfalso;revert hq;simp
    ·refine go 4 ?_;refine ap rfl (ad (by omega) (by omega)) ?_;refine go 2 ?_;exact NQ.round (g:=i) (i+1) hlt' (by omega) (.cons rfl (.cons rfl (.cons rfl (.cons rfl .nil)))) wE
   ·refine go 11 ?_;refine RQ.marks ?_;exact RQ.post (resV rfl rfl KA41.h mQ) (aa _) ⟨rfl,rfl,rfl⟩
  ·cases hk2
structure Ent where
 t:Int
 k:Int
 s:Int
 e:Int
def Ent.cells(x:Ent):List Value:=[.int .i64 x.t,.int .i64 x.k,.int .i64 x.s,.int .i64 x.e]
def twoB(n:Int):Bool:=decide (0≤n)&&decide (n≤65535)
def Ent.ok(x:Ent):Bool:=decide (0≤x.t)&&decide (x.t≤1099511627776)&&twoB x.k&&twoB x.s&&twoB x.e
def Ent.be(x:Ent):List B8:=beN 8 x.t.toNat++beN 2 x.k.toNat++beN 2 x.s.toNat++beN 2 x.e.toNat
theorem Ent.be_length(x:Ent):x.be.length=14:=by simp[Ent.be,aw]
def ee(h:List B8)(x:Ent):List B8:=i8 (h++x.be)
theorem du(h:List B8)(x:Ent):(ee h x).length=32:=bA _
theorem Ent.ok_iff{x:Ent}:x.ok=true↔(0≤x.t∧x.t≤1099511627776)∧(0≤x.k∧x.k≤65535)∧(0≤x.s∧x.s≤65535)∧(0≤x.e∧x.e≤65535):=by
 simp only[Ent.ok,twoB,Bool.and_eq_true,decide_eq_true_eq];constructor
 ·rintro⟨⟨⟨h1,h2⟩,h3⟩,h4⟩;exact⟨h1,h2,h3,h4⟩
 ·rintro⟨h1,h2,h3,h4⟩;exact⟨⟨⟨h1,h2⟩,h3⟩,h4⟩
def rOwnM(n:Nat)(l:List B8):Value→List It→List It→Prop:=fun v I' H'=>∃b,v=.slice (some ⟨b,0,none⟩) n n∧I'=[]∧H'=[cel b (bytes l) 5]
theorem rmk_step{l:List B8}{i n:Nat}(hi:i<n){v:B8}(hl:l.length=n)(hv:l[i]?=some v):bP (bytes (l.take i)++List.replicate (n-i) (U8 0#8)) (0+i*1) [U8 v]=bytes (l.take (i+1))++List.replicate (n-(i+1)) (U8 0#8):=by
 have e:(bytes (l.take i)).length=i:=by rw[List.length_map,List.length_take];omega
 have h:=spl_snoc (z:=U8 0#8) (v:=U8 v) (k:=n-(i+1)) (bytes (l.take i));rw[e] at h;rw[show 0+i*1=i by omega,show n-i=n-(i+1)+1 by omega,h];have hlt:i<l.length:=by omega
 rw[List.getElem?_eq_getElem hlt,Option.some.injEq] at hv;rw[List.take_succ_eq_append_getElem hlt,hv];simp
theorem num_any(N n:Nat)(h0:0<n)(hn:n≤8):Spc Tryz.prog 220 #[.int .i64 (N:Int),.int .i64 (n:Int)] [] [] (rOwnM n (beN n N)):=by
 refine Spc.enter Tryz.func220 (h:=?_);refine fun w0 hw0=>?_;refine go 8 ?_;refine RL.makeSlice (len:=n) (zs:=[U8 0#8]) KU55.h KS5.h (ii:=Tryz.t5) (by kernel_rfl) KZ5.h rfl rfl (by decide) h0 (by show n*1≤1000000;omega) (by omega) rfl rfl rfl rfl rfl rfl rfl rfl ?_;intro b1;rw[reps_one];refine go 12 ?_;refine CW.loop (γ:=Nat) (fun i=>i≤n) (fun i=>[(0,.int .i64 (N:Int)),(1,.int .i64 (n:Int)),(5,.slice (some ⟨b1,0,none⟩) n n),(10,.int .i64 (n:Int)),(11,.int .i64 (i:Int))]) (fun _=>[]) (fun i=>[cel b1 (bytes ((beN n N).take i)++List.replicate (n-i) (U8 0#8)) 5]) (fun i=>n-i) 0 (by simp) (.cons rfl (.cons rfl (.cons rfl (.cons rfl (.cons rfl .nil))))) (fun w h=>h) ?_;intro i hi;refine go 6 ?_;refine CW.cond rfl (fun hlt=>?_) (fun hlt=>?_)
 ·refine go 15 ?_;refine ap rfl (ad (by omega) (by omega)) ?_;refine go 1 ?_;refine ap rfl (ad (by omega) (by omega)) ?_;refine ap rfl (ad (by omega) (by omega)) ?_;have hlt:i<n:=by simp at hlt;omega
  refine RL.shr (8*(n-1-i)) (hn:=by omega) (hs:=by show 8*(n-1-i)≤64;omega) (h:=?_);refine go 1 ?_;refine aP (j:=i) (ho:=rfl) (hlt:=hlt) (h:=?_);rw[byteA];refine aj (vs:=[_]) (rmk_step (l:=beN n N) hlt (aw _ _) (by rw[beN_get n N i hlt,Nat.pow_mul])) KS5.h rfl rfl rfl rfl rfl rfl rfl rfl uE (by simp[aw];omega) ?_;refine go 4 ?_;refine ap rfl (ad (by omega) (by omega)) ?_;refine go 2 ?_;refine NQ.round (g:=i) (i+1) hlt (by show n-(i+1)<n-i;omega) (.cons rfl (.cons rfl (.cons rfl (.cons rfl (.cons rfl .nil))))) (fun w h=>h)
 ·refine go 12 ?_;have hin:i=n:=by simp at hlt;omega
  subst hin;rw[Nat.sub_self,List.replicate_zero,List.append_nil,List.take_of_length_le (by rw[aw];exact Nat.le_refl _)];exact RQ.post (az rfl rfl) (.keep .nil) ⟨b1,rfl,rfl,rfl⟩
def odd(n:Int):Bool:=decide (n<0)||decide (n>65535)
theorem odd_two(n:Int):odd n= !twoB n:=by unfold odd twoB;by_cases h1:n<0<;>by_cases h2:n>65535<;>simp[h1,h2]<;>omega
theorem odd_any(n:Int):Spc Tryz.prog 298 #[.int .i64 n] [] [] (Is (.bool (odd n))):=by
 refine Spc.enter Tryz.func298 (h:=?_);refine fun w0 hw0=>?_;refine go 10 ?_;apply au (d:=5) (dp:=8) (l':=(Sq.of [6])) rfl (sK [2] rfl)
 ·intro hb3 K3;refine go 3 ?_;exact K3 _ (.cons rfl (sK [2] rfl))
 ·intro hb3 K3;refine go 3 ?_;exact K3 _ (.cons rfl (sK [2] rfl))
 refine go 4 ?_;exact RQ.post (az rfl rfl) (aa _) ⟨rfl,rfl,rfl⟩
def findO:List Int→Nat→Int
 | [],_=> -1
 | x::r,i=>if odd x then(i:Int) else findO r (i+1)
theorem findO_any:∀(l:List Int) (i:Nat),decide (findO l i≥0)=l.any odd
 | [],i=>rfl
 | x::r,i=>by
  rw[findO,List.any_cons]
  cases h:odd x
  ·rw[if_neg (by simp),findO_any r (i+1)];simp
  ·rw[if_pos rfl];simp
theorem findO_walk(p:Option Addr)(n c:Nat)(l:List Int)(hn:l.length=n)(hb:n≤1000000000):Spc Tryz.prog 341 #[.slice p n c,.func (.func 298) #[] #[]] [sls p 1 n (bO l)] [] (Is (.int .i64 (findO l 0))):=by
 subst hn;refine Spc.enter Tryz.func341 (h:=?_);refine fun w0 hw0=>?_;refine go 14 ?_;refine CW.loop (γ:=Nat) (fun i=>i≤l.length∧findO l 0=findO (l.drop i) i) (fun i=>[(0,.slice p l.length c),(1,.func (.func 298) #[] #[]),(7,.int .i64 (l.length:Int)),(8,.int .i64 (i:Int))]) (fun _=>[sls p 1 l.length (bO l)]) (fun _=>[]) (fun i=>l.length-i) 0 ⟨by omega,by simp⟩ (.cons rfl (.cons rfl (.cons rfl (.cons rfl .nil)))) (fun w h=>h) ?_;rintro i ⟨hi,he⟩;refine aR (p:=p=none→l.length=0) (fun w hC e=>bf (hC.s.i _ (List.Mem.head _)) e) (fun hpp=>?_);refine go 6 ?_;refine CW.cond rfl (fun hlt=>?_) (fun hlt=>?_)
 ·have hlt:i<l.length:=by simp at hlt;omega
  obtain⟨a,rfl⟩:∃a,p=some a:=by
   cases p with
   | none=>exact absurd (hpp rfl) (by omega)
   | some a=>exact⟨a,rfl⟩
  have hd:l.drop i=l[i]::l.drop (i+1):=List.drop_eq_getElem_cons hlt;rw[hd,findO] at he;refine go 15 ?_;refine aS (j:=i) (ho:=rfl) (hlt:=hlt) (h:=?_);refine RL.load (ho:=rfl) (hr:=dP mQ (show(bO l)[i*1]?=some (.int .i64 l[i]) by rw[Nat.mul_one,List.getElem?_map,List.getElem?_eq_getElem hlt];rfl)) (h:=?_);refine RL.callvF (odd_any l[i]) Tryz.call298 rfl rfl rfl rfl rfl (by repeat (first|exact Lend.nil|(refine Lend.inI ?_ ?_;(solve|(repeat (first|exact List.Mem.head _|apply List.Mem.tail))))|(refine Lend.inH ?_ ?_;(solve|(repeat (first|exact List.Mem.head _|apply List.Mem.tail)))))) ?_;refine go 2 ?_;refine CW.cond rfl (fun ho=>?_) (fun ho=>?_)
  ·refine go 12 ?_;rw[if_pos ho] at he;exact RQ.post (az rfl rfl) (aa _) ⟨by rw[he],rfl,rfl⟩
  ·refine go 4 ?_;refine ap rfl (ad (by omega) (by omega)) ?_;refine go 2 ?_;rw[if_neg (by rw[ho];decide)] at he;refine NQ.round (g:=i) (i+1) ⟨hlt,he⟩ (by show l.length-(i+1)<l.length-i;omega) (.cons rfl (.cons rfl (.cons rfl (.cons rfl .nil)))) (fun w h=>h)
 ·refine go 11 ?_;have hin:i=l.length:=by simp at hlt;omega
  subst hin;rw[List.drop_length] at he;exact RQ.post (az rfl rfl) (aa _) ⟨by rw[he];rfl,rfl,rfl⟩
theorem hasO_walk(p:Option Addr)(n c:Nat)(l:List Int)(hn:l.length=n)(hb:n≤1000000000):Spc Tryz.prog 261 #[.slice p n c,.func (.func 298) #[] #[]] [sls p 1 n (bO l)] [] (Is (.bool (l.any odd))):=by refine Spc.enter Tryz.func261 (h:=?_);refine fun w0 hw0=>?_;refine go 9 ?_;refine ab (findO_walk p n c l hn hb) (h:=?_);refine go 5 ?_;exact RQ.post (az rfl rfl) (aa _) ⟨by rw[←findO_any l 0],rfl,rfl⟩
theorem eright_any(x:Ent):Spc Tryz.prog 218 #[.agg x.cells.toArray] [] [] (Is (.bool x.ok)):=by
 refine Spc.enter Tryz.func218 (h:=?_);refine fun w0 hw0=>?_;refine go 17 ?_;intro b1;apply aL (d:=7) (dp:=11) (l':=(Sq.of [8,9,10,11,12,13,14,15,16,17,18,19,20])) rfl (sK [1,2,3] rfl)
 ·intro hb4 K4;refine go 4 ?_;exact K4 _ (.cons rfl (sK [1,2,3] rfl))
 ·intro hb4 K4;refine go 4 ?_;exact K4 _ (.cons rfl (sK [1,2,3] rfl))
 refine go 1 ?_;refine RL.part (d:=12) rfl (fun h=>?_) (fun h=>?_)
 ·refine go 6 ?_;refine RL.buildSlice [_,_,_] (ho:=rfl) (h:=?_);intro b2;refine go 1 ?_;refine ar (hasO_walk (some ⟨b2,0,none⟩) 3 3 [x.k,x.s,x.e] rfl (by decide)) (hl:=Lend.all mQ rfl .nil) (h:=?_);refine go 6 ?_;exact RQ.post (az rfl rfl) (aa _) ⟨by simp at h;simp[Ent.ok,h,odd_two,Bool.and_assoc],rfl,rfl⟩
 ·refine go 15 ?_;exact RQ.post (az rfl rfl) (aa _) ⟨by simp only[Ent.ok,h,Bool.false_and],rfl,rfl⟩
theorem Lend.celI{I F J:List It}{b sz nn:Nat}{cs:List Value}{T:TypeId}(hm:cel b cs T∈I)(hl:cs.length=nn*sz)(h:Lend I F J):Lend I F (sls (some ⟨b,0,none⟩) sz nn cs::J):=
 .of (fun w hw=>cel_sls (hw.i _ hm) hl (fun j u hj=>by rw[Nat.zero_add];exact hj)) (fun c hc=>.inl (mem_bss.2 ⟨_,hm,by simp[sls,cel] at hc ⊢;exact hc.2⟩)) h
theorem num_i(a:Int)(ha:0≤a)(n:Nat)(h0:0<n)(hn:n≤8):Spc Tryz.prog 220 #[.int .i64 a,.int .i64 (n:Int)] [] [] (rOwnM n (beN n a.toNat)):=by have h:=num_any a.toNat n h0 hn;rwa[Int.toNat_of_nonneg ha] at h
def nextV(h:List B8)(x:Ent):Value:=.tuple #[.agg (bytes (if x.ok then ee h x else zeros)).toArray,.int .i64 (if x.ok then 0 else 2)]
theorem next_yes{h:List B8}{x:Ent}(hx:x.ok=true):nextV h x=.tuple #[.agg (bytes (ee h x)).toArray,.int .i64 0]:=by unfold nextV;rw[if_pos hx,if_pos hx]
theorem next_no{h:List B8}{x:Ent}(hx:x.ok=false):nextV h x=.tuple #[.agg (bytes zeros).toArray,.int .i64 2]:=by unfold nextV;rw[if_neg (by simp[hx]),if_neg (by simp[hx])]
theorem lenB(l:List B8):(bytes l).length=l.length*1:=by simp
theorem zeros32:zeros.length=32:=rfl
theorem of_n(pp:Option Addr)(n cap:Nat)(ps:List Part)(l:List B8)(hn:ps.length=n)(hj:aM ps=l)(h1:n≤1000000000)(hb:l.length≤1000000000)(vs:List Value)(hv:ps.map Part.v=vs):Spc Tryz.prog 219 #[.slice pp n cap] (sls pp 1 n vs::ps.map Part.i) [] (Is (.agg (bytes (i8 l)).toArray)):=by subst hn;subst hj;subst hv;exact of_any pp cap ps h1 hb
theorem enext_any(h:List B8)(hl:h.length=32)(x:Ent):Spc Tryz.prog 142 #[.agg (bytes h).toArray,.agg x.cells.toArray] [] [] (Is (nextV h x)):=by
 refine Spc.enter Tryz.func142 (h:=?_);refine fun w0 hw0=>?_;refine go 4 ?_;intro b1 b2;refine RL.alloc (cs:=List.replicate 32 (U8 0#8)) (ho:=rfl) (h:=?_);intro b3;refine go 5 ?_;refine aB (A:=[_,_]) (B:=[_]) (.leave (.take (.take .nil))) rfl ?_;simp only[List.cons_append,List.nil_append];refine go 1 ?_;first|refine aT KA201.h KS201.h rfl rfl rfl rfl (by(solve|(repeat (first|exact List.Mem.head _|apply List.Mem.tail)))) lQ ?_|refine RL.loadWI KA201.h KS201.h rfl rfl rfl rfl (by(solve|(repeat (first|exact List.Mem.head _|apply List.Mem.tail)))) lQ ?_
 refine ab (eright_any x) (h:=?_);refine go 3 ?_;refine CW.cond rfl (fun hx=>?_) (fun hx=>?_)
 ·refine go 2 ?_;refine bi (List.replicate 32 (U8 0#8)) (ho:=rfl) (h:=go 6 ?_);have hx:x.ok=false:=by simpa using hx
  rw[next_no hx];exact RQ.post (bG rfl rfl rfl KA186.h KS186.h mQ rfl) (aa _) ⟨rfl,rfl,rfl⟩
 ·have hx:x.ok=true:=by simpa using hx
  obtain⟨h1,h2,h3,h4⟩:=Ent.ok_iff.1 hx;rw[next_yes hx];refine go 3 ?_;refine ae (Sq.of [0,1,2,4,5,7,8,10,11,3,6,9,12,13,14,15,16]) [3,6,9,12,13,14,15] [15] [0,1,2,4,5,7,8,10,11,16] (h:=?_);refine go 9 ?_;refine ax (num_i x.t h1.1 8 (by decide) (by decide)) (hb:=.inl rfl) (h:=?_);rintro _ _ _ ⟨n1,rfl,rfl,rfl⟩;refine ax (num_i x.k h2.1 2 (by decide) (by decide)) (hb:=.inl rfl) (h:=?_);rintro _ _ _ ⟨n2,rfl,rfl,rfl⟩;refine ax (num_i x.s h3.1 2 (by decide) (by decide)) (hb:=.inl rfl) (h:=?_);rintro _ _ _ ⟨n3,rfl,rfl,rfl⟩;refine ax (num_i x.e h4.1 2 (by decide) (by decide)) (hb:=.inl rfl) (h:=?_);rintro _ _ _ ⟨n4,rfl,rfl,rfl⟩;refine RL.buildSlice [_,_,_,_,_] (ho:=rfl) (h:=?_);intro b4;refine ar (of_n (some ⟨b4,0,none⟩) 5 5 [⟨some ⟨b1,0,none⟩,32,h⟩,⟨some ⟨n1,0,none⟩,8,beN 8 x.t.toNat⟩,⟨some ⟨n2,0,none⟩,2,beN 2 x.k.toNat⟩,⟨some ⟨n3,0,none⟩,2,beN 2 x.s.toNat⟩,⟨some ⟨n4,0,none⟩,2,beN 2 x.e.toNat⟩] (h++x.be) rfl (by simp[aM,Ent.be]) (by decide) (by rw[List.length_append,hl,Ent.be_length];decide) [.slice (some ⟨b1,0,none⟩) 32 32,.slice (some ⟨n1,0,none⟩) 8 8,.slice (some ⟨n2,0,none⟩) 2 2,.slice (some ⟨n3,0,none⟩) 2 2,.slice (some ⟨n4,0,none⟩) 2 2] (by simp only[List.map_cons,List.map_nil,Part.v,hl,aw])) (hl:=Lend.all mQ rfl (Lend.celI mQ (lenB _) (Lend.all mQ (lenB _) (Lend.all mQ (lenB _) (Lend.all mQ (lenB _) (Lend.all mQ (lenB _) .nil)))))) (h:=?_);refine go 5 ?_;exact RQ.post (bG rfl rfl rfl KA186.h KS186.h mQ (by rw[List.length_map,du])) (aa _) ⟨rfl,rfl,rfl⟩
abbrev entsV(l:List Ent):List Value:=l.flatMap Ent.cells
theorem ent_len(l:List Ent):∀a∈l,(Ent.cells a).length=4:=fun _ _=>rfl
theorem ents_len(l:List Ent):(entsV l).length=l.length*4:=ej (ent_len l)
theorem ent_at{l:List Ent}{q:Nat}{x:Ent}(h:l[q]?=some x):∀(j:Nat) (u:Value),x.cells[j]?=some u→(entsV l)[0+q*4+j]?=some u:=fun j u hj=>by
 have hlt:j<4:=(List.getElem?_eq_some_iff.1 hj).1
 rw[Nat.zero_add,eL (ent_len l) h hlt];exact hj
theorem spl_nil:∀l:List Value,bP l 0 []=l
 | []=>rfl
 | _::_=>rfl
theorem rtis_yes(r lb m:Nat)(rest:List Value)(T:TypeId)(hm:0<m):Spc Tryz.prog 141 #[.pointer (some ⟨r,0,none⟩)] [cel r (.slice (some ⟨lb,0,none⟩) m m::rest) T] [] (Is (.bool true)):=by refine Spc.enter Tryz.func141 (h:=?_);refine fun w0 hw0=>?_;refine go 8 ?_;refine bj (hr:=dG KU94.h _) (h:=go 13 ?_);exact RQ.post (az rfl rfl) (aa _) ⟨by simp;omega,rfl,rfl⟩
theorem at_any(r lb m f k:Nat)(rest:List Value)(T:TypeId)(hm:0<m)(hf:f≤1000000000)(hk:k≤1000000000):Spc Tryz.prog 143 #[.pointer (some ⟨r,0,none⟩),.int .i64 (k:Int)] [cel r (.slice (some ⟨lb,0,none⟩) m m:: .int .i64 (f:Int)::rest) T] [] (Is (.pointer (some ⟨lb,0+(f+k)%m*4,none⟩))):=by have hlt:=Nat.mod_lt (f+k) hm;refine Spc.enter Tryz.func143 (h:=?_);refine fun w0 hw0=>?_;refine go 6 ?_;refine ae (Sq.of [0,1,2,3,4,5,6,7,8,9,10,11,12,13,14,15,16,17]) [] [] [0,1,2,4,5,6,8,9,10,11,12,14,15,16,17] (h:=?_);refine go 9 ?_;refine ap rfl (ad (by omega) (by omega)) ?_;refine go 5 ?_;refine RL.remX (v':=.int .i64 (((f+k)%m:Nat):Int)) rfl rfl rfl rfl rfl (by omega) (by rw[←tmodA];rfl) ?_;refine aP (j:=(f+k)%m) (ho:=rfl) (hlt:=hlt) (h:=go 4 ?_);exact RQ.post (az rfl rfl) (aa _) ⟨rfl,rfl,rfl⟩
theorem drop_any(r lb m f n:Nat)(rest:List Value)(T:TypeId)(hm:0<m)(hf:f≤1000000000)(hn:0<n)(hn2:n≤1000000000):Spc Tryz.prog 144 #[.pointer (some ⟨r,0,none⟩)] [] [cel r (.slice (some ⟨lb,0,none⟩) m m:: .int .i64 (f:Int):: .int .i64 (n:Int)::rest) T] (fun _ I' H'=>I'=[]∧H'=[cel r (.slice (some ⟨lb,0,none⟩) m m:: .int .i64 (((f+1)%m:Nat):Int):: .int .i64 ((n-1:Nat):Int)::rest) T]):=by refine Spc.enter Tryz.func144 (h:=?_);refine fun w0 hw0=>?_;refine go 1 ?_;refine ae (Sq.of [0,1,2,3,4,5,6,7,8,9,10,11,12,13,14]) [14] [14] [0,1,2,3,5,6,7,8,10,11,12,13] (h:=?_);refine go 5 ?_;refine ap rfl (ad (by omega) (by omega)) ?_;refine go 5 ?_;refine RL.remX (v':=.int .i64 (((f+1)%m:Nat):Int)) rfl rfl rfl rfl rfl (by omega) (by rw[←tmodA];rfl) ?_;refine go 2 ?_;refine aj (vs:=[_]) (cs:=.slice (some ⟨lb,0,none⟩) m m:: .int .i64 (f:Int):: .int .i64 (n:Int)::rest) (cs':=.slice (some ⟨lb,0,none⟩) m m:: .int .i64 (((f+1)%m:Nat):Int):: .int .i64 (n:Int)::rest) (by simp[bP,spl_nil]) KS3.h rfl rfl rfl rfl rfl rfl rfl rfl uE (by simp) ?_;refine go 7 ?_;refine ap rfl (ad (by omega) (by omega)) ?_;refine go 2 ?_;refine aj (vs:=[.int .i64 ((n:Int)-1)]) (cs:=.slice (some ⟨lb,0,none⟩) m m:: .int .i64 (((f+1)%m:Nat):Int):: .int .i64 (n:Int)::rest) (cs':=.slice (some ⟨lb,0,none⟩) m m:: .int .i64 (((f+1)%m:Nat):Int):: .int .i64 ((n-1:Nat):Int)::rest) (by rw[show((n:Int)-1)=((n-1:Nat):Int) by omega];simp[bP,spl_nil]) KS3.h rfl rfl rfl rfl rfl rfl rfl rfl uE (by simp) ?_;refine go 1 ?_;exact NQ.post (dn rfl) (.keep .nil) ⟨rfl,rfl⟩
theorem push_any(r lb m f n:Nat)(rest:List Value)(T U:TypeId)(rg:List Ent)(x:Ent)(hm:0<m)(hf:f≤1000000000)(hn:n≤1000000000)(hl:rg.length=m):Spc Tryz.prog 145 #[.pointer (some ⟨r,0,none⟩),.agg x.cells.toArray] [] [cel r (.slice (some ⟨lb,0,none⟩) m m:: .int .i64 (f:Int):: .int .i64 (n:Int)::rest) T,cel lb (entsV rg) U] (fun _ I' H'=>I'=[]∧H'=[cel r (.slice (some ⟨lb,0,none⟩) m m:: .int .i64 (f:Int):: .int .i64 ((n+1:Nat):Int)::rest) T,cel lb (entsV (rg.set ((f+n)%m) x)) U]):=by have hlt:=Nat.mod_lt (f+n) hm;refine Spc.enter Tryz.func145 (h:=?_);refine fun w0 hw0=>?_;refine go 6 ?_;intro b1;refine ae (Sq.of [0,1,2,3,4,5,6,7,8]) [8] [8] [0,1,2,3,7] (h:=?_);refine go 5 ?_;refine ab (at_any r lb m f n (.int .i64 (n:Int)::rest) T hm hf hn) (h:=?_);refine ak (vs:=[_,_,_,_]) KA201.h KS201.h rfl rfl rfl rfl (by first|(apply Rds.cel;(solve|(repeat (first|exact List.Mem.head _|apply List.Mem.tail)));exact am ⟨rfl,rfl,rfl,rfl,trivial⟩)|(apply Rds.celI;(solve|(repeat (first|exact List.Mem.head _|apply List.Mem.tail)));exact am ⟨rfl,rfl,rfl,rfl,trivial⟩)|assumption|(apply aU;assumption)) ?_;refine go 1 ?_;refine aj (vs:=x.cells) (cs':=entsV (rg.set ((f+n)%m) x)) (by rw[Nat.zero_add];exact spl_flat x (ent_len rg) rfl (by omega)) KS201.h rfl rfl rfl rfl rfl rfl rfl rfl uE (by rw[ents_len,hl];show 0+(f+n)%m*4+4≤m*4;omega) ?_;refine go 7 ?_;refine ap rfl (ad (by omega) (by omega)) ?_;refine go 2 ?_;refine aj (vs:=[_]) (cs:=.slice (some ⟨lb,0,none⟩) m m:: .int .i64 (f:Int):: .int .i64 (n:Int)::rest) (cs':=.slice (some ⟨lb,0,none⟩) m m:: .int .i64 (f:Int):: .int .i64 ((n+1:Nat):Int)::rest) (by simp[bP,spl_nil]) KS3.h rfl rfl rfl rfl rfl rfl rfl rfl uE (by simp) ?_;refine go 1 ?_;exact NQ.post (dn rfl) (.drop (.keep (.keep .nil))) ⟨rfl,rfl⟩
def bu(lb m f n:Nat)(fr hd:List B8)(c:Nat):List Value:=.slice (some ⟨lb,0,none⟩) m m:: .int .i64 (f:Int):: .int .i64 (n:Int)::(bytes fr++(bytes hd++[.int .i64 (c:Int)]))
abbrev recIt(r lb m f n:Nat)(fr hd:List B8)(c:Nat):It:=cel r (bu lb m f n fr hd c) 188
abbrev rgIt(lb:Nat)(rg:List Ent):It:=cel lb (entsV rg) 201
theorem rec_count{lb m f n:Nat}{fr hd:List B8}{c:Nat}(h1:fr.length=32)(h2:hd.length=32):(bu lb m f n fr hd c)[0+67]?=some (.int .i64 (c:Int)):=by unfold bu;simp[List.getElem?_cons,List.getElem?_append,h1,h2]
theorem add_no(r lb m f n:Nat)(fr hd:List B8)(c:Nat)(rg:List Ent)(x:Ent)(hm:0<m)(h1:fr.length=32)(h2:hd.length=32)(hx:x.ok=false):Spc Tryz.prog 73 #[.pointer (some ⟨r,0,none⟩),.agg x.cells.toArray] [] [recIt r lb m f n fr hd c,rgIt lb rg] (fun v I' H'=>v=.int .i64 2∧I'=[]∧H'=[recIt r lb m f n fr hd c,rgIt lb rg]):=by refine Spc.enter Tryz.func73 (h:=?_);refine fun w0 hw0=>?_;refine go 10 ?_;intro b1;refine ab (rtis_yes r lb m _ 188 hm) (h:=?_);refine go 7 ?_;refine ae (Sq.of [0,1,2,3,4,5,6,7,8,9,10,11]) [9,10] [10] [0,1,2,6,7,8,11] (h:=?_);refine go 3 ?_;refine iX ([.slice (some ⟨lb,0,none⟩) m m,.int .i64 (f:Int),.int .i64 (n:Int)]++bytes fr) (bytes hd) [.int .i64 (c:Int)] KA186.h KS186.h rfl rfl rfl rfl mQ (by simp[bu]) (by simp[h1]) (by simp[h2]) ?_;refine ak (vs:=[_,_,_,_]) KA201.h KS201.h rfl rfl rfl rfl (by first|(apply Rds.cel;(solve|(repeat (first|exact List.Mem.head _|apply List.Mem.tail)));exact am ⟨rfl,rfl,rfl,rfl,trivial⟩)|(apply Rds.celI;(solve|(repeat (first|exact List.Mem.head _|apply List.Mem.tail)));exact am ⟨rfl,rfl,rfl,rfl,trivial⟩)|assumption|(apply aU;assumption)) ?_;refine ab (enext_any hd h2 x) (h:=?_);refine go 1 ?_;rw[next_no hx];refine go 2 ?_;refine RL.alloc (cs:=List.replicate 32 (U8 0#8)) (ho:=rfl) (h:=?_);intro b2;refine go 20 ?_;exact RQ.post (az rfl rfl) (.drop (.drop (.keep (.keep .nil)))) ⟨rfl,rfl,rfl⟩
theorem add_some(r lb m f n:Nat)(fr hd:List B8)(c:Nat)(rg:List Ent)(x:Ent)(hm:0<m)(hmb:m≤4096)(hf:f<m)(hn:n<m)(hc:c≤1000000000)(h1:fr.length=32)(h2:hd.length=32)(hx:x.ok=true)(hrg:rg.length=m):Spc Tryz.prog 73 #[.pointer (some ⟨r,0,none⟩),.agg x.cells.toArray] [] [recIt r lb m f n fr hd c,rgIt lb rg] (fun v I' H'=>v=.int .i64 0∧I'=[]∧H'=[recIt r lb m f (n+1) fr (ee hd x) (c+1),rgIt lb (rg.set ((f+n)%m) x)]):=by refine Spc.enter Tryz.func73 (h:=?_);refine fun w0 hw0=>?_;refine go 10 ?_;intro b1;refine ab (rtis_yes r lb m _ 188 hm) (h:=?_);refine go 7 ?_;refine ae (Sq.of [0,1,2,3,4,5,6,7,8,9,10,11]) [9,10] [10] [0,1,2,6,7,8,11] (h:=?_);refine go 3 ?_;refine iX ([.slice (some ⟨lb,0,none⟩) m m,.int .i64 (f:Int),.int .i64 (n:Int)]++bytes fr) (bytes hd) [.int .i64 (c:Int)] KA186.h KS186.h rfl rfl rfl rfl mQ (by simp[bu]) (by simp[h1]) (by simp[h2]) ?_;refine ak (vs:=[_,_,_,_]) KA201.h KS201.h rfl rfl rfl rfl (by first|(apply Rds.cel;(solve|(repeat (first|exact List.Mem.head _|apply List.Mem.tail)));exact am ⟨rfl,rfl,rfl,rfl,trivial⟩)|(apply Rds.celI;(solve|(repeat (first|exact List.Mem.head _|apply List.Mem.tail)));exact am ⟨rfl,rfl,rfl,rfl,trivial⟩)|assumption|(apply aU;assumption)) ?_;refine ab (enext_any hd h2 x) (h:=?_);refine go 1 ?_;rw[next_yes hx];refine go 2 ?_;refine RL.alloc (cs:=List.replicate 32 (U8 0#8)) (ho:=rfl) (h:=?_);intro b2;refine go 16 ?_;refine ae (Sq.of [0,1,2,3,4,5,6,7,8,9,10,11]) [] [] [0,1,2,3,5,6,7,8,10,11] (h:=?_);refine go 14 ?_;refine ag rfl (by simp;omega) ?_;refine go 3 ?_;refine ae (Sq.of [0,1,2,3,4]) [4] [4] [0,1,2] (h:=?_);refine go 3 ?_;refine ak (vs:=[_,_,_,_]) KA201.h KS201.h rfl rfl rfl rfl (by first|(apply Rds.cel;(solve|(repeat (first|exact List.Mem.head _|apply List.Mem.tail)));exact am ⟨rfl,rfl,rfl,rfl,trivial⟩)|(apply Rds.celI;(solve|(repeat (first|exact List.Mem.head _|apply List.Mem.tail)));exact am ⟨rfl,rfl,rfl,rfl,trivial⟩)|assumption|(apply aU;assumption)) ?_;refine ax (push_any r lb m f n (bytes fr++(bytes hd++[.int .i64 (c:Int)])) 188 201 rg x hm (by omega) (by omega) hrg) (hb:=.inr rfl) (h:=?_);rintro _ _ _ ⟨rfl,rfl⟩;refine go 7 ?_;refine RL.load (ho:=rfl) (hr:=Rd.get (cs:=bu lb m f (n+1) fr hd c) mQ (rec_count h1 h2)) (h:=?_);refine ap rfl (ad (by omega) (by omega)) ?_;refine go 2 ?_;refine eX (cs:=bu lb m f (n+1) fr hd c) (cs':=bu lb m f (n+1) fr hd (c+1)) (vs:=[.int .i64 ((c:Int)+1)]) ([.slice (some ⟨lb,0,none⟩) m m,.int .i64 (f:Int),.int .i64 ((n+1:Nat):Int)]++(bytes fr++bytes hd)) [.int .i64 (c:Int)] [] KS3.h rfl rfl rfl rfl rfl rfl rfl rfl (by simp[bu]) (by simp[bu]) (by simp[h1,h2]) rfl rfl uE ?_;refine go 5 ?_;refine aT (ho:=rfl) (hl:=by rw[List.length_map,du]) (h:=?_);refine go 2 ?_;refine eX (cs:=bu lb m f (n+1) fr hd (c+1)) (cs':=bu lb m f (n+1) fr (ee hd x) (c+1)) (vs:=bytes (ee hd x)) ([.slice (some ⟨lb,0,none⟩) m m,.int .i64 (f:Int),.int .i64 ((n+1:Nat):Int)]++bytes fr) (bytes hd) [.int .i64 ((c+1:Nat):Int)] KS186.h rfl rfl rfl rfl rfl rfl rfl (bC fh _) (by simp[bu]) (by simp[bu]) (by simp[h1]) (by simp[h2]) (by simp[du]) uE ?_;refine go 9 ?_;exact RQ.post (az rfl rfl) (by first|exact .drop (.drop (.keep (.keep .nil)))|exact .drop (.keep (.keep (.drop .nil)))|exact .keep (.keep (.drop (.drop .nil)))) ⟨rfl,rfl,rfl⟩
theorem add_full(r lb m f:Nat)(fr hd:List B8)(c:Nat)(rg:List Ent)(x x0:Ent)(hm:0<m)(hmb:m≤4096)(hf:f<m)(hc:c≤1000000000)(h1:fr.length=32)(h2:hd.length=32)(hx:x.ok=true)(hrg:rg.length=m)(h0:rg[(f+0)%m]?=some x0)(hx0:x0.ok=true):Spc Tryz.prog 73 #[.pointer (some ⟨r,0,none⟩),.agg x.cells.toArray] [] [recIt r lb m f m fr hd c,rgIt lb rg] (fun v I' H'=>v=.int .i64 0∧I'=[]∧H'=[recIt r lb m ((f+1)%m) (m-1+1) (ee fr x0) (ee hd x) (c+1),rgIt lb (rg.set (((f+1)%m+(m-1))%m) x)]):=by have hlt:=Nat.mod_lt (f+1) hm;have h3:=du fr x0;refine Spc.enter Tryz.func73 (h:=?_);refine fun w0 hw0=>?_;refine go 10 ?_;intro b1;refine ab (rtis_yes r lb m _ 188 hm) (h:=?_);refine go 7 ?_;refine ae (Sq.of [0,1,2,3,4,5,6,7,8,9,10,11]) [9,10] [10] [0,1,2,6,7,8,11] (h:=?_);refine go 3 ?_;refine iX ([.slice (some ⟨lb,0,none⟩) m m,.int .i64 (f:Int),.int .i64 (m:Int)]++bytes fr) (bytes hd) [.int .i64 (c:Int)] KA186.h KS186.h rfl rfl rfl rfl mQ (by simp[bu]) (by simp[h1]) (by simp[h2]) ?_;refine ak (vs:=[_,_,_,_]) KA201.h KS201.h rfl rfl rfl rfl (by first|(apply Rds.cel;(solve|(repeat (first|exact List.Mem.head _|apply List.Mem.tail)));exact am ⟨rfl,rfl,rfl,rfl,trivial⟩)|(apply Rds.celI;(solve|(repeat (first|exact List.Mem.head _|apply List.Mem.tail)));exact am ⟨rfl,rfl,rfl,rfl,trivial⟩)|assumption|(apply aU;assumption)) ?_;refine ab (enext_any hd h2 x) (h:=?_);refine go 1 ?_;rw[next_yes hx];refine go 2 ?_;refine RL.alloc (cs:=List.replicate 32 (U8 0#8)) (ho:=rfl) (h:=?_);intro b2;refine go 16 ?_;refine ae (Sq.of [0,1,2,3,4,5,6,7,8,9,10,11]) [] [] [0,1,2,3,5,6,7,8,10,11] (h:=?_);refine go 14 ?_;refine aI rfl (by simp) ?_;refine go 1 ?_;refine ae (Sq.of [0,1,2,3,4,5,6,7,8,9,10,11,12,13,14,15,16,17]) [17] [17] [0,1,2,3,5,6,7,9,12,13,14,15,16] (h:=?_);refine go 4 ?_;refine iX [.slice (some ⟨lb,0,none⟩) m m,.int .i64 (f:Int),.int .i64 (m:Int)] (bytes fr) (bytes hd++[.int .i64 (c:Int)]) KA186.h KS186.h rfl rfl rfl rfl mQ (by simp[bu]) rfl (by simp[h1]) ?_;refine go 3 ?_;refine ab (at_any r lb m f 0 _ 188 hm (by omega) (by omega)) Tryz.call143 rfl rfl rfl rfl ?_;refine go 1 ?_;refine ak (vs:=x0.cells) (ho:=rfl) (hr:=Rds.cel mQ (ent_at h0)) (h:=?_);refine ab (enext_any fr h1 x0) (h:=?_);refine go 1 ?_;rw[next_yes hx0];refine go 4 ?_;refine eX (cs:=bu lb m f m fr hd c) (cs':=bu lb m f m (ee fr x0) hd c) (vs:=bytes (ee fr x0)) [.slice (some ⟨lb,0,none⟩) m m,.int .i64 (f:Int),.int .i64 (m:Int)] (bytes fr) (bytes hd++[.int .i64 (c:Int)]) KS186.h rfl rfl rfl rfl rfl rfl rfl (bC fh _) (by simp[bu]) (by simp[bu]) rfl (by simp[h1]) (by simp[du]) uE ?_;refine go 6 ?_;refine ax (drop_any r lb m f m (bytes (ee fr x0)++(bytes hd++[.int .i64 (c:Int)])) 188 hm (by omega) hm (by omega)) (hb:=.inr rfl) (h:=?_);rintro _ _ _ ⟨rfl,rfl⟩;refine go 3 ?_;refine ae (Sq.of [0,1,2,3,4]) [4] [4] [0,1,2] (h:=?_);refine go 3 ?_;refine ak (vs:=[_,_,_,_]) KA201.h KS201.h rfl rfl rfl rfl (by first|(apply Rds.cel;(solve|(repeat (first|exact List.Mem.head _|apply List.Mem.tail)));exact am ⟨rfl,rfl,rfl,rfl,trivial⟩)|(apply Rds.celI;(solve|(repeat (first|exact List.Mem.head _|apply List.Mem.tail)));exact am ⟨rfl,rfl,rfl,rfl,trivial⟩)|assumption|(apply aU;assumption)) ?_;refine ax (push_any r lb m ((f+1)%m) (m-1) (bytes (ee fr x0)++(bytes hd++[.int .i64 (c:Int)])) 188 201 rg x hm (by omega) (by omega) hrg) (hb:=.inr rfl) (h:=?_);rintro _ _ _ ⟨rfl,rfl⟩;refine go 7 ?_;refine RL.load (ho:=rfl) (hr:=Rd.get (cs:=bu lb m ((f+1)%m) ((m-1)+1) (ee fr x0) hd c) mQ (rec_count h3 h2)) (h:=?_);refine ap rfl (ad (by omega) (by omega)) ?_;refine go 2 ?_;refine eX (cs:=bu lb m ((f+1)%m) ((m-1)+1) (ee fr x0) hd c) (cs':=bu lb m ((f+1)%m) ((m-1)+1) (ee fr x0) hd (c+1)) (vs:=[.int .i64 ((c:Int)+1)]) ([.slice (some ⟨lb,0,none⟩) m m,.int .i64 (((f+1)%m):Int),.int .i64 (((m-1)+1:Nat):Int)]++(bytes (ee fr x0)++bytes hd)) [.int .i64 (c:Int)] [] KS3.h rfl rfl rfl rfl rfl rfl rfl rfl (by simp[bu]) (by simp[bu]) (by simp[h3,h2]) rfl rfl uE ?_;refine go 5 ?_;refine aT (ho:=rfl) (hl:=by rw[List.length_map,du]) (h:=?_);refine go 2 ?_;refine eX (cs:=bu lb m ((f+1)%m) ((m-1)+1) (ee fr x0) hd (c+1)) (cs':=bu lb m ((f+1)%m) ((m-1)+1) (ee fr x0) (ee hd x) (c+1)) (vs:=bytes (ee hd x)) ([.slice (some ⟨lb,0,none⟩) m m,.int .i64 (((f+1)%m):Int),.int .i64 (((m-1)+1:Nat):Int)]++bytes (ee fr x0)) (bytes hd) [.int .i64 ((c+1:Nat):Int)] KS186.h rfl rfl rfl rfl rfl rfl rfl (bC fh _) (by simp[bu]) (by simp[bu]) (by simp[h3]) (by simp[h2]) (by simp[du]) uE ?_;refine go 9 ?_;exact RQ.post (az rfl rfl) (by first|exact .drop (.drop (.keep (.keep .nil)))|exact .drop (.keep (.keep (.drop .nil)))|exact .keep (.keep (.drop (.drop .nil)))) ⟨rfl,rfl,rfl⟩
theorem gS{P:Program}{f:FuncId}{args:Array Value}{I H:List It}{R R':Value→List It→List It→Prop}(h:Spc P f args I H R)(hr:∀v I' H',R v I' H'→R' v I' H'):Spc P f args I H R':=fun w hw=>
 (h w hw).mono fun _ _ ⟨v,I',H',he,hR,hk⟩=>⟨v,I',H',he,hr _ _ _ hR,hk⟩
def gU(es:List Ent):List B8:=es.foldl ee zeros
theorem il(es:List Ent)(x:Ent):gU (es++[x])=ee (gU es) x:=by simp[gU,List.foldl_append]
theorem d5:∀es:List Ent,(gU es).length=32:=by
 intro es;rcases List.eq_nil_or_concat es with rfl|⟨l,x,rfl⟩
 ·rfl
 ·rw[List.concat_eq_append,il,du]
theorem headOf_take{es:List Ent}{q:Nat}{x:Ent}(h:es[q]?=some x):gU (es.take (q+1))=ee (gU (es.take q)) x:=by obtain⟨hq,rfl⟩:=List.getElem?_eq_some_iff.1 h;rw[List.take_succ_eq_append_getElem hq,il]
structure RecInv(m:Nat)(es rg:List Ent):Prop where
 len:rg.length=m
 at_:∀g,es.length-min es.length m≤g→g<es.length→rg[g%m]?=es[g]?
 ok:∀x∈es,x.ok=true
abbrev RecH(r lb m:Nat)(es rg:List Ent):List It:=
 [recIt r lb m ((es.length-min es.length m)%m) (min es.length m) (gU (es.take (es.length-min es.length m))) (gU es) es.length,rgIt lb rg]
def esA(es:List Ent)(x:Ent):List Ent:=if x.ok then es++[x] else es
theorem mod_ne{g n m:Nat}(h1:g<n)(h2:n<g+m):g%m≠n%m:=fun e=>by
 have:=Nat.sub_mod_eq_zero_of_mod_eq e.symm
 rw[Nat.mod_eq_of_lt (by omega)] at this
 omega
theorem RecInv.add{m:Nat}{es rg:List Ent}{x:Ent}(h:RecInv m es rg)(hm:0<m)(hx:x.ok=true):RecInv m (es++[x]) (rg.set (es.length%m) x):=by
 have hlt:=Nat.mod_lt es.length hm;refine⟨by rw[List.length_set,h.len],fun g h1 h2=>?_,fun y hy=>?_⟩
 ·rw[List.length_append,List.length_singleton] at h1 h2;by_cases hg:g=es.length
  ·subst hg;rw[List.getElem?_set_self (by rw[h.len];exact hlt),List.getElem?_append_right (Nat.le_refl _)];simp
  ·have hne:=mod_ne (g:=g) (n:=es.length) (m:=m) (by omega) (by omega);rw[List.getElem?_set_ne (Ne.symm hne),List.getElem?_append_left (by omega)];exact h.at_ g (by omega) (by omega)
 ·rcases List.mem_append.1 hy with hy|hy
  ·exact h.ok y hy
  ·rw[List.mem_singleton.1 hy];exact hx
theorem add_any(r lb m:Nat)(es rg:List Ent)(x:Ent)(hm:0<m)(hmb:m≤4096)(hl:es.length≤1000000000)(h:RecInv m es rg):Spc Tryz.prog 73 #[.pointer (some ⟨r,0,none⟩),.agg x.cells.toArray] [] (RecH r lb m es rg) (fun v I' H'=>v=.int .i64 (if x.ok then 0 else 2)∧I'=[]∧∃rg',RecInv m (esA es x) rg'∧H'=RecH r lb m (esA es x) rg'):=by
 cases hx:x.ok with
 | false=>
  refine gS (add_no r lb m _ _ _ _ _ rg x hm (d5 _) (d5 _) hx) (fun v I' H' ⟨h1,h2,h3⟩=>⟨by rw[h1];rfl,h2,rg,?_,?_⟩)
  ·simpa[esA,hx] using h
  ·simpa[esA,hx] using h3
 | true=>
  have he:esA es x=es++[x]:=by simp[esA,hx]
  rw[he];by_cases hfull:es.length<m
  ·have e1:min es.length m=es.length:=Nat.min_eq_left (by omega);have e2:min (es++[x]).length m=es.length+1:=by rw[List.length_append,List.length_singleton];omega
   refine gS (add_some r lb m _ _ _ _ _ rg x hm hmb (Nat.mod_lt _ hm) (by omega) hl (d5 _) (d5 _) hx h.len) (fun v I' H' ⟨h1,h2,h3⟩=>⟨by rw[h1];rfl,h2,_,h.add hm hx,?_⟩);rw[h3,RecH,e1,e2];simp only[List.length_append,List.length_singleton,Nat.sub_self,List.take_zero,Nat.zero_mod,Nat.zero_add,il]
  ·have e1:min es.length m=m:=Nat.min_eq_right (by omega);have e2:min (es++[x]).length m=m:=by rw[List.length_append,List.length_singleton];omega
   have hq:es.length-m<es.length:=by omega
   have h0:rg[((es.length-m)%m+0)%m]?=some es[es.length-m]:=by rw[Nat.add_zero,Nat.mod_mod,h.at_ _ (by omega) hq,List.getElem?_eq_getElem hq]
   have f1:((es.length-m)%m+1)%m=(es.length+1-m)%m:=by rw[Nat.mod_add_mod];congr 1;omega
   have f2:(((es.length-m)%m+1)%m+(m-1))%m=es.length%m:=by rw[Nat.mod_add_mod,Nat.add_assoc,show 1+(m-1)=m by omega,Nat.mod_add_mod,show es.length-m+m=es.length by omega]
   have hrh:RecH r lb m es rg=[recIt r lb m ((es.length-m)%m) m (gU (es.take (es.length-m))) (gU es) es.length,rgIt lb rg]:=by rw[RecH,e1]
   rw[hrh];refine gS (add_full r lb m _ _ _ _ rg x es[es.length-m] hm hmb (Nat.mod_lt _ hm) hl (d5 _) (d5 _) hx h.len h0 (h.ok _ (List.getElem_mem hq))) (fun v I' H' ⟨h1,h2,h3⟩=>⟨by rw[h1];rfl,h2,_,h.add hm hx,?_⟩);rw[h3,RecH,e2,f2,f1,show m-1+1=m by omega,←headOf_take (List.getElem?_eq_getElem hq),il];simp only[List.length_append,List.length_singleton];rw[List.take_append_of_le_length (by omega),show es.length-m+1=es.length+1-m by omega]
theorem reps_ents(n:Nat):cT [.int .i64 0,.int .i64 0,.int .i64 0,.int .i64 0] n=entsV (List.replicate n ⟨0,0,0,0⟩):=by
 induction n with
 | zero=>rfl
 | succ n ih=>rw[List.replicate_succ];exact congrArg ([Value.int .i64 0,.int .i64 0,.int .i64 0,.int .i64 0]++·) ih
theorem tnew_yes(m:Nat)(h1:0<m)(h2:m≤4096):Spc Tryz.prog 27 #[.int .i64 (m:Int)] [] [] (fun v I' H'=>∃r lb,v=.tuple #[.pointer (some ⟨r,0,none⟩),.int .i64 0]∧I'=[]∧∃rg,RecInv m [] rg∧H'=RecH r lb m [] rg):=by
 refine Spc.enter Tryz.func27 (h:=?_);refine fun w0 hw0=>?_;refine go 12 ?_;apply au (d:=6) (dp:=9) (l':=(Sq.of [])) rfl (sK [0,2,3] rfl)
 ·intro hb3 K3;refine go 3 ?_;exact K3 _ (.cons rfl (sK [0,2,3] rfl))
 ·intro hb3 K3;refine go 3 ?_;exact K3 _ (.cons rfl (sK [0,2,3] rfl))
 refine go 2 ?_;refine ag rfl (by simp;omega) ?_;refine go 5 ?_;refine RL.makeSlice (len:=m) (zs:=[.int .i64 0,.int .i64 0,.int .i64 0,.int .i64 0]) KU183.h KS201.h (ii:=Tryz.t201) (by kernel_rfl) KZ201.h rfl rfl (by decide) h1 (by show m*32≤1000000;omega) (by omega) rfl rfl rfl rfl rfl rfl rfl rfl ?_;intro lb;rw[reps_ents];refine go 1 ?_;refine ay (bu lb m 0 0 zeros zeros 0) (ho:=rfl) (h:=go 6 ?_);intro b1;refine RQ.post (bb rfl rfl rfl) (.keep (.keep .nil)) ⟨b1,lb,rfl,rfl,List.replicate m ⟨0,0,0,0⟩,⟨by simp,fun g h1 h2=>by simp at h2,by simp⟩,?_⟩;simp[RecH,gU,recIt]
structure Kp where
 de:Int
 ra:Int
 mo:Int
 kn:Bool
 lo:Int
 hi:Int
 tk:Int
 od:Int
structure Kp.Ok(k:Kp):Prop where
 de:0≤k.de∧k.de≤65535
 ra:0≤k.ra∧k.ra≤1048576
 mo:1≤k.mo∧k.mo≤100
 lo: -1000000000≤k.lo∧k.lo≤1000000000
 hi: -1000000000≤k.hi∧k.hi≤1000000000
 tk:0≤k.tk∧k.tk≤1000000
 od:0≤k.od∧k.od≤1000000
abbrev Kp.cells(k:Kp):List Value:=[.int .i64 k.de,.int .i64 k.ra,.int .i64 k.mo,.bool k.kn,.int .i64 k.lo,.int .i64 k.hi,.int .i64 k.tk,.int .i64 k.od]
abbrev kpI(b:Nat)(k:Kp):It:=cel b k.cells 205
abbrev Kp.wid(k:Kp)(t:Int):Int:=((min (max t k.tk) 1099511627776-k.tk)*k.ra+1048576-1).fdiv (2^20)
theorem wid_bd{k:Kp}{t:Int}(hk:k.Ok)(ht:0≤t∧t≤1000000):0≤(min (max t k.tk) 1099511627776-k.tk)*k.ra∧(min (max t k.tk) 1099511627776-k.tk)*k.ra≤1000000*1048576:=by have h1:=hk.ra;have h2:=hk.tk;exact⟨Int.mul_nonneg (by omega) h1.1,Int.mul_le_mul (by omega) h1.2 h1.1 (by decide)⟩
theorem wid_le{k:Kp}{t:Int}(hk:k.Ok)(ht:0≤t∧t≤1000000):0≤k.wid t∧k.wid t≤1000001:=by have h:=wid_bd hk ht;unfold Kp.wid;rw[Int.fdiv_eq_ediv_of_nonneg _ (by decide)];omega
theorem kis_any(b:Nat)(k:Kp)(hk:k.Ok):Spc Tryz.prog 74 #[.pointer (some ⟨b,0,none⟩)] [kpI b k] [] (Is (.bool true)):=by
 have h1:=hk.mo;refine Spc.enter Tryz.func74 (h:=?_);refine fun w0 hw0=>?_;refine go 8 ?_;refine bj (hr:=dG KU95.h _) (h:=go 1 ?_);apply aL (d:=5) (dp:=11) (l':=(Sq.of [9])) rfl (sK [2] rfl)
 ·intro hb3 K3;refine go 6 ?_;exact K3 _ (.cons rfl (sK [2] rfl))
 ·intro hb3 K3;refine go 6 ?_;exact K3 _ (.cons rfl (sK [2] rfl))
 refine go 4 ?_;exact RQ.post (az rfl rfl) (aa _) ⟨by simp;omega,rfl,rfl⟩
theorem wider_any(lo hi d:Int)(h1: -1000000000≤lo∧lo≤1000000000)(h2: -1000000000≤hi∧hi≤1000000000)(h3:0≤d∧d≤1000001):Spc Tryz.prog 146 #[.agg #[.int .i64 lo,.int .i64 hi],.int .i64 d] [] [] (Is (.agg #[.int .i64 (lo-d),.int .i64 (hi+d)])):=by refine Spc.enter Tryz.func146 (h:=?_);refine fun w0 hw0=>?_;refine go 11 ?_;intro b1 b2;refine ap rfl (ad (by omega) (by omega)) ?_;refine go 3 ?_;refine ap rfl (ad (by omega) (by omega)) ?_;refine go 1 ?_;refine an (vs:=[.int .i64 (lo-d),.int .i64 (hi+d)]) (ho:=rfl) (h:=?_);refine go 3 ?_;exact RQ.post (cU (vs:=[.int .i64 (lo-d),.int .i64 (hi+d)]) rfl rfl KA203.h KS203.h mQ rfl) (aa _) ⟨rfl,rfl,rfl⟩
theorem both_any(a b c d:Int):Spc Tryz.prog 152 #[.agg #[.int .i64 a,.int .i64 b],.agg #[.int .i64 c,.int .i64 d]] [] [] (Is (.tuple #[.agg #[.int .i64 (max a c),.int .i64 (min b d)],.bool (decide (max a c≤min b d))])):=by refine Spc.enter Tryz.func152 (h:=?_);refine fun w0 hw0=>?_;refine go 14 ?_;intro b1 b2 b3;refine RL.max (h:=go 4 ?_);refine RL.min (h:=go 2 ?_);intro b4;refine an (vs:=[.int .i64 (max a c),.int .i64 (min b d)]) (ho:=rfl) (h:=?_);refine go 3 ?_;refine aB (A:=[cel b4 [.int .i64 (max a c),.int .i64 (min b d)] 203]) (B:=[cel b3 [.int .i64 0,.int .i64 0] 203,cel b2 [.int .i64 c,.int .i64 d] 203,cel b1 [.int .i64 a,.int .i64 b] 203]) (h:=?_);have f0:RdI [cel b4 [.int .i64 (max a c),.int .i64 (min b d)] 203] ⟨b4,0+0,none⟩ (.int .i64 (max a c)):=⟨fun _=>Rd.celI mQ rfl⟩;refine ae (Sq.of [0,1,2,3,4,5,6,7]) [6] [6] [0,1,2,3,4,5,7] (h:=?_);refine eB (vs:=[.int .i64 (max a c),.int .i64 (min b d)]) KA203.h KS203.h rfl rfl rfl rfl (Rds.celI mQ (am ⟨rfl,rfl,trivial⟩)) ?_;refine go 5 ?_;refine an (vs:=[.int .i64 (max a c),.int .i64 (min b d)]) (ho:=rfl) (h:=?_);refine go 4 ?_;exact RQ.post (bG (vs:=[.int .i64 (max a c),.int .i64 (min b d)]) rfl rfl rfl KA203.h KS203.h mQ rfl) (aa _) ⟨rfl,rfl,rfl⟩
theorem span_any(b:Nat)(k:Kp)(t:Int)(hk:k.Ok)(ht:0≤t∧t≤1000000):Spc Tryz.prog 75 #[.pointer (some ⟨b,0,none⟩),.int .i64 t] [kpI b k] [] (Is (.agg #[.int .i64 (k.lo-k.wid t),.int .i64 (k.hi+k.wid t)])):=by have h1:=hk.tk;have h2:=wid_bd hk ht;have h3:=wid_le hk ht;refine Spc.enter Tryz.func75 (h:=?_);refine fun w0 hw0=>?_;refine go 6 ?_;intro b1;refine ae (Sq.of [0,1,2,3,4,5,6,7,8,9,10,11,12]) [] [] [0,1,2,3,5,6,7,8,9,11,12] (h:=?_);refine go 5 ?_;refine RL.max (h:=?_);refine RL.min (h:=go 4 ?_);refine ap rfl (ad (by omega) (by omega)) ?_;refine go 4 ?_;refine ae (Sq.of [0,1,2,3,4,5,6,7,8,9,10,11,12,13,14]) [14] [14] [0,1,2,4,5,6,7,9,10,11,12] (h:=?_);refine go 3 ?_;refine ak (vs:=[.int .i64 k.lo,.int .i64 k.hi]) (ho:=rfl) (hr:=Rds.celI mQ (am ⟨rfl,rfl,trivial⟩)) (h:=?_);refine go 5 ?_;refine ap rfl (ad (by omega) (by omega)) ?_;refine ap rfl (ad (by omega) (by omega)) ?_;refine ap rfl (ad (by omega) (by omega)) ?_;refine RL.shr 20 (h:=?_);refine ab (wider_any k.lo k.hi (k.wid t) hk.lo hk.hi h3) (h:=?_);refine an (vs:=[.int .i64 (k.lo-k.wid t),.int .i64 (k.hi+k.wid t)]) (ho:=rfl) (h:=?_);refine go 3 ?_;exact RQ.post (cU (vs:=[.int .i64 (k.lo-k.wid t),.int .i64 (k.hi+k.wid t)]) rfl rfl KA203.h KS203.h mQ rfl) (aa _) ⟨rfl,rfl,rfl⟩
theorem learn_any(b:Nat)(k:Kp)(lo hi t:Int):Spc Tryz.prog 153 #[.pointer (some ⟨b,0,none⟩),.agg #[.int .i64 lo,.int .i64 hi],.int .i64 t] [] [kpI b k] (fun v I' H'=>v=.tuple #[]∧I'=[]∧H'=[kpI b { k with kn:=true,lo:=lo,hi:=hi,tk:=t,od:=0 }]):=by
 refine Spc.enter Tryz.func153 (h:=?_);refine fun w0 hw0=>?_;refine go 5 ?_;intro b1;refine ae (.cons 0 (.cons 1 (.cons 2 (.cons 3 (.cons 5 (.cons 6 (.cons 7 (.fork [4,8] (fun k=>(bif Nat.beq k 4 then(Sq.of [8,9,10,11,12,13,14,15,16,17]) else(Sq.of [4,9,10,11,12,13,14,15,16,17]))))))))))) [8,11,14,17] [8,11,14,17] [0,1,2,3,5,6,7,9,10,12,13,15,16] (h:=?_);refine go 7 ?_;refine RL.fork ⟨?_,?_,trivial⟩
 ·refine ak (vs:=[.int .i64 lo,.int .i64 hi]) (ho:=rfl) (hr:=Rds.cel mQ (am ⟨rfl,rfl,trivial⟩)) (h:=?_);refine go 11 ?_;exact NQ.post (dn rfl) (.drop (.keep .nil)) ⟨rfl,rfl,rfl⟩
 ·refine go 1 ?_;refine ak (vs:=[.int .i64 lo,.int .i64 hi]) (ho:=rfl) (hr:=Rds.cel mQ (am ⟨rfl,rfl,trivial⟩)) (h:=?_);refine go 10 ?_;exact NQ.post (dn rfl) (.drop (.keep .nil)) ⟨rfl,rfl,rfl⟩
theorem bounds_any(b:Nat)(k:Kp)(t:Int)(hk:k.Ok)(ht:0≤t∧t≤1000000):Spc Tryz.prog 40 #[.pointer (some ⟨b,0,none⟩),.int .i64 t] [kpI b k] [] (Is (if k.kn=true then .tuple #[.int .i64 (k.lo-k.wid t),.int .i64 (k.hi+k.wid t),.bool true] else .tuple #[.int .i64 0,.int .i64 0,.bool false])):=by
 refine Spc.enter Tryz.func40 (h:=?_);refine fun w0 hw0=>?_;refine go 11 ?_;refine ab (kis_any b k hk) (h:=?_);refine go 2 ?_;apply au (d:=11) (dp:=17) (l':=(Sq.of [])) rfl (sK [0,1,4,5,6] rfl)
 ·intro hb4 K4;refine go 6 ?_;exact K4 _ (.cons rfl (sK [0,1,4,5,6] rfl))
 ·intro hb4 K4;refine go 6 ?_;exact K4 _ (.cons rfl (sK [0,1,4,5,6] rfl))
 refine go 2 ?_;refine CW.cond rfl (fun hn=>?_) (fun hn=>?_)
 ·have hf:k.kn=false:=by simpa using hn
  refine go 9 ?_;exact RQ.post (res3 rfl rfl rfl rfl) (aa _) ⟨by rw[hf];rfl,rfl,rfl⟩
 ·have hf:k.kn=true:=by simpa using hn
  refine go 6 ?_;refine ab (span_any b k t hk ht) (h:=?_);refine go 1 ?_;intro b1;refine an (vs:=[.int .i64 (k.lo-k.wid t),.int .i64 (k.hi+k.wid t)]) (ho:=rfl) (h:=?_);refine go 3 ?_;refine ae (Sq.of [0,1,2,3,4,5,6]) [] [] [0,2,4,5,6] (h:=?_);refine go 10 ?_;exact RQ.post (res3 rfl rfl rfl rfl) (aa _) ⟨by rw[hf];rfl,rfl,rfl⟩
def Kp.beat(k:Kp)(t:Int)(n:Nat):Kp:=if k.kn=true then { k with kn:=true,lo:=max ((n:Int)-t) (k.lo-k.wid t),hi:=min ((n:Int)-t+k.de) (k.hi+k.wid t),tk:=t,od:=0 } else { k with kn:=true,lo:=(n:Int)-t,hi:=(n:Int)-t+k.de,tk:=t,od:=0 }
theorem knew_any(d r m:Int)(h1:0≤d∧d≤65535)(h2:0≤r∧r≤1048576)(h3:1≤m∧m≤100):Spc Tryz.prog 63 #[.int .i64 d,.int .i64 r,.int .i64 m] [] [] (fun v I' H'=>∃b,v=.tuple #[.pointer (some ⟨b,0,none⟩),.int .i64 0]∧I'=[]∧H'=[kpI b ⟨d,r,m,false,0,0,0,0⟩]):=by
 refine Spc.enter Tryz.func63 (h:=?_);refine fun w0 hw0=>?_;refine go 12 ?_;apply au (d:=10) (dp:=13) (l':=(Sq.of [6,7,8,9,10,11,12,13,14,15,16,17,18,19,20,21])) rfl (sK [0,1,2,6,7] rfl)
 ·intro hb3 K3;refine go 3 ?_;exact K3 _ (.cons rfl (sK [0,1,2,6,7] rfl))
 ·intro hb3 K3;refine go 3 ?_;exact K3 _ (.cons rfl (sK [0,1,2,6,7] rfl))
 refine go 1 ?_;apply au (d:=14) (dp:=17) (l':=(Sq.of [10,11,12,13,14,15,16,17,18,19,20,21])) rfl (sK [0,1,2,6,7] rfl)
 ·intro hb7 K7;refine go 3 ?_;exact K7 _ (.cons rfl (sK [0,1,2,6,7] rfl))
 ·intro hb7 K7;refine go 3 ?_;exact K7 _ (.cons rfl (sK [0,1,2,6,7] rfl))
 refine go 1 ?_;apply au (d:=18) (dp:=21) (l':=(Sq.of [14,15,16,17,18,19,20,21])) rfl (sK [0,1,2,6,7] rfl)
 ·intro hb11 K11;refine go 3 ?_;exact K11 _ (.cons rfl (sK [0,1,2,6,7] rfl))
 ·intro hb11 K11;refine go 3 ?_;exact K11 _ (.cons rfl (sK [0,1,2,6,7] rfl))
 refine go 1 ?_;apply au (d:=22) (dp:=25) (l':=(Sq.of [18,19,20,21])) rfl (sK [0,1,2,6,7] rfl)
 ·intro hb15 K15;refine go 3 ?_;exact K15 _ (.cons rfl (sK [0,1,2,6,7] rfl))
 ·intro hb15 K15;refine go 3 ?_;exact K15 _ (.cons rfl (sK [0,1,2,6,7] rfl))
 refine go 1 ?_;apply au (d:=26) (dp:=29) (l':=(Sq.of [])) rfl (sK [0,1,2,6,7] rfl)
 ·intro hb19 K19;refine go 3 ?_;exact K19 _ (.cons rfl (sK [0,1,2,6,7] rfl))
 ·intro hb19 K19;refine go 3 ?_;exact K19 _ (.cons rfl (sK [0,1,2,6,7] rfl))
 refine go 2 ?_;refine CW.cond rfl (fun h=>?_) (fun h=>?_)
 ·exfalso;simp at h;omega
 ·refine go 7 ?_;refine ay (Kp.cells ⟨d,r,m,false,0,0,0,0⟩) (ho:=rfl) (h:=go 6 ?_);intro b1;exact RQ.post (bb rfl rfl rfl) (.keep .nil) ⟨_,rfl,rfl,rfl⟩
theorem sure_any(b:Nat)(k:Kp)(t off:Int)(hk:k.Ok)(ht:0≤t∧t≤1000000)(ho:0≤off∧off≤1000000):Spc Tryz.prog 36 #[.pointer (some ⟨b,0,none⟩),.int .i64 t,.int .i64 off] [kpI b k] [] (Is (.bool (k.kn&&(decide (0-off≤k.lo-k.wid t)&&decide (k.hi+k.wid t≤off))))):=by
 refine Spc.enter Tryz.func36 (h:=?_);refine fun w0 hw0=>?_;refine go 9 ?_;refine ab (kis_any b k hk) (h:=?_);refine go 2 ?_;apply au (d:=11) (dp:=17) (l':=(Sq.of [10,11,12,13])) rfl (sK [0,1,2,6] rfl)
 ·intro hb4 K4;refine go 6 ?_;exact K4 _ (.cons rfl (sK [0,1,2,6] rfl))
 ·intro hb4 K4;refine go 6 ?_;exact K4 _ (.cons rfl (sK [0,1,2,6] rfl))
 refine go 1 ?_;apply au (d:=18) (dp:=21) (l':=(Sq.of [])) rfl (sK [0,1,2,6] rfl)
 ·intro hb11 K11;refine go 3 ?_;exact K11 _ (.cons rfl (sK [0,1,2,6] rfl))
 ·intro hb11 K11;refine go 3 ?_;exact K11 _ (.cons rfl (sK [0,1,2,6] rfl))
 refine go 2 ?_;refine CW.cond rfl (fun hn=>?_) (fun hn=>?_)
 ·have hf:k.kn=false:=by
   cases h:k.kn with
   | false=>rfl
   | true=>rw[h] at hn;simp at hn<;>omega
  refine go 7 ?_;exact RQ.post (az rfl rfl) (aa _) ⟨by rw[hf];rfl,rfl,rfl⟩
 ·have hf:k.kn=true:=by
   cases h:k.kn with
   | true=>rfl
   | false=>rw[h] at hn;simp at hn
  refine go 6 ?_;refine ab (span_any b k t hk ht) (h:=?_);refine go 1 ?_;intro b1;refine an (vs:=[.int .i64 (k.lo-k.wid t),.int .i64 (k.hi+k.wid t)]) (ho:=rfl) (h:=?_);refine go 7 ?_;refine RL.neg rfl rfl rfl rfl (av (d:=28) rfl (ad (by omega) (by omega)) ?_);refine go 2 ?_;apply aL (d:=30) (dp:=35) (l':=(Sq.of [11])) rfl .nil
  ·intro hb6 K6;refine go 5 ?_;exact K6 _ (.cons rfl .nil)
  ·intro hb6 K6;refine go 5 ?_;exact K6 _ (.cons rfl .nil)
  refine go 4 ?_;exact RQ.post (az rfl rfl) (aa _) ⟨by rw[hf,Bool.true_and],rfl,rfl⟩
theorem beacon_any(b:Nat)(k:Kp)(t:Int)(n:Nat)(hk:k.Ok)(ht:k.tk≤t∧t≤1000000)(hn:n≤1000000)(hfit:k.kn=true→max ((n:Int)-t) (k.lo-k.wid t)≤min ((n:Int)-t+k.de) (k.hi+k.wid t)):Spc Tryz.prog 80 #[.pointer (some ⟨b,0,none⟩),.int .i64 t,.int .u64 (n:Int)] [] [kpI b k] (fun v I' H'=>v=.int .i64 0∧I'=[]∧H'=[kpI b (k.beat t n)]):=by
 have h1:=hk.tk;have h2:=hk.de;have h3:=hk.lo;have h4:=hk.hi;refine Spc.enter Tryz.func80 (h:=?_);refine fun w0 hw0=>?_;refine go 5 ?_;refine CW.scope (γ:=Unit) 0 (fun _=>False) (fun _=>[]) (fun _=>[]) (fun _=>[]) rfl ?_ (fun _ he=>he.elim);refine go 20 ?_;intro b1 b2;refine ar (kis_any b k hk) (hl:=Lend.inH mQ .nil) (h:=?_);refine go 21 ?_;apply au (d:=20) (dp:=23) (l':=(Sq.of [10,11,12,13])) rfl (sK [0,1,2,6,7,8,9,10] rfl)
 ·intro hb7 K7;refine go 3 ?_;exact K7 _ (.cons rfl (sK [0,1,2,6,7,8,9,10] rfl))
 ·intro hb7 K7;refine go 3 ?_;exact K7 _ (.cons rfl (sK [0,1,2,6,7,8,9,10] rfl))
 refine go 1 ?_;apply au (d:=24) (dp:=27) (l':=(Sq.of [])) rfl (sK [0,1,2,6,7,8,9,10] rfl)
 ·intro hb11 K11;refine go 3 ?_;exact K11 _ (.cons rfl (sK [0,1,2,6,7,8,9,10] rfl))
 ·intro hb11 K11;refine go 3 ?_;exact K11 _ (.cons rfl (sK [0,1,2,6,7,8,9,10] rfl))
 refine go 2 ?_;refine CW.cond rfl (fun h5=>?_) (fun h5=>?_)
 ·exfalso;simp at h5;omega
 ·refine go 6 ?_;refine av (d:=29) rfl (ad (by omega) (by omega)) ?_;refine go 1 ?_;refine ap rfl (ad (by omega) (by omega)) ?_;refine go 5 ?_;refine ae (Sq.of [0,1,2,3,4,5,6,7,8]) [8] [8] [0,2,3,4,6,7] (h:=?_);refine go 6 ?_;refine ap rfl (ad (by omega) (by omega)) ?_;refine go 6 ?_;refine ak (vs:=[.int .i64 ((n:Int)-t),.int .i64 ((n:Int)-t+k.de)]) (ho:=rfl) (hr:=Rds.cel mQ (am ⟨rfl,rfl,trivial⟩)) (h:=?_);refine an (vs:=[.int .i64 ((n:Int)-t),.int .i64 ((n:Int)-t+k.de)]) (ho:=rfl) (h:=?_);refine go 11 ?_;refine CW.cond rfl (fun h6=>?_) (fun h6=>?_)
  ·have h6':k.kn=true:=by simpa using h6
   refine ae (Sq.of [0,1,2,3,4,5,6,7,8,9]) [8] [8] [1,2,5,6,7,9] (h:=?_);refine ak (vs:=[.int .i64 ((n:Int)-t),.int .i64 ((n:Int)-t+k.de)]) (ho:=rfl) (hr:=Rds.cel mQ (am ⟨rfl,rfl,trivial⟩)) (h:=?_);refine go 2 ?_;refine ar (span_any b k t hk (by omega)) (hl:=Lend.inH mQ .nil) (h:=?_);refine ab (both_any ((n:Int)-t) ((n:Int)-t+k.de) (k.lo-k.wid t) (k.hi+k.wid t)) (h:=?_);refine go 3 ?_;refine an (vs:=[.int .i64 (max ((n:Int)-t) (k.lo-k.wid t)),.int .i64 (min ((n:Int)-t+k.de) (k.hi+k.wid t))]) (ho:=rfl) (h:=?_);refine go 9 ?_;refine aI rfl ((decide_eq_true (hfit h6'))) (go 3 ?_);refine ak (vs:=[.int .i64 (max ((n:Int)-t) (k.lo-k.wid t)),.int .i64 (min ((n:Int)-t+k.de) (k.hi+k.wid t))]) (ho:=rfl) (hr:=Rds.cel mQ (am ⟨rfl,rfl,trivial⟩)) (h:=?_);refine go 1 ?_;refine RL.call (learn_any b k (max ((n:Int)-t) (k.lo-k.wid t)) (min ((n:Int)-t+k.de) (k.hi+k.wid t)) t) (hl:=.nil) (hb:=.inr rfl) (h:=?_);rintro _ _ _ ⟨rfl,rfl,rfl⟩;refine go 9 ?_;refine RQ.jump ?_;exact RQ.post (az rfl rfl) (.keep (.drop (.drop .nil))) ⟨rfl,rfl,by rw[Kp.beat,if_pos h6']⟩
  ·have h6': ¬k.kn=true:=by simpa using h6
   refine go 8 ?_;refine aI (h:=go 3 ?_);refine ak (vs:=[.int .i64 ((n:Int)-t),.int .i64 ((n:Int)-t+k.de)]) (ho:=rfl) (hr:=Rds.cel mQ (am ⟨rfl,rfl,trivial⟩)) (h:=?_);refine go 1 ?_;refine RL.call (learn_any b k ((n:Int)-t) ((n:Int)-t+k.de) t) (hl:=.nil) (hb:=.inr rfl) (h:=?_);rintro _ _ _ ⟨rfl,rfl,rfl⟩;refine go 9 ?_;refine RQ.jump ?_;exact RQ.post (az rfl rfl) (.keep (.drop (.drop .nil))) ⟨rfl,rfl,by rw[Kp.beat,if_neg h6']⟩
structure RG where
 b:Nat
 c:Nat→Value
 rb:Nat
 lb:Nat
 m:Nat
 kb:Nat
 C:UC
abbrev RG.cells(G:RG):List Value:=(List.range 50).map G.c++[.pointer (some ⟨G.C.B.b,0,none⟩),.pointer (some ⟨G.rb,0,none⟩),.pointer (some ⟨G.kb,0,none⟩),.int .i64 1,.int .i64 (-1)]
abbrev rgI(G:RG):It:=cel G.b G.cells 99
structure RcS where
 es:List Ent
 rg:List Ent
abbrev recL(G:RG)(s:RcS):It:=allI (RecH G.rb G.lb G.m s.es s.rg)
structure RG.Ok(G:RG):Prop where
 C:G.C.Ok
 o:G.C.out
 m0:0<G.m
 m1:G.m≤4096
theorem gis_yes(G:RG):Spc Tryz.prog 31 #[.pointer (some ⟨G.b,0,none⟩)] [rgI G] [] (Is (.bool true)):=by
 refine Spc.enter Tryz.func31 (h:=?_);refine fun w0 hw0=>?_;refine go 8 ?_;refine bj (hr:=dG KU40.h _) (h:=go 1 ?_);apply aL (d:=5) (dp:=11) (l':=(Sq.of [9])) rfl (sK [2] rfl)
 ·intro hb3 K3;refine go 4 ?_;refine bj (hr:=dG KU59.h _) (h:=go 1 ?_);exact K3 _ (.cons rfl (sK [2] rfl))
 ·intro hb3 K3;refine go 6 ?_;exact K3 _ (.cons rfl (sK [2] rfl))
 refine go 4 ?_;exact RQ.post (az rfl rfl) (aa _) ⟨rfl,rfl,rfl⟩
theorem gunit_any(G:RG):Spc Tryz.prog 12 #[.pointer (some ⟨G.b,0,none⟩)] [rgI G] [] (Is (.pointer (some ⟨G.C.B.b,0,none⟩))):=by refine Spc.enter Tryz.func12 (h:=?_);refine fun w0 hw0=>?_;refine go 9 ?_;refine ab (gis_yes G) (h:=?_);refine go 16 ?_;exact RQ.post (az rfl rfl) (aa _) ⟨rfl,rfl,rfl⟩
def RecW2(G:RG)(s:RcS):Value→List It→List It→Prop:=fun v I' H'=>v=.tuple #[]∧I'=[]∧∃s':RcS,RecInv G.m s'.es s'.rg∧s'.es.length≤s.es.length+1∧H'=[recL G s']
theorem esA_len(es:List Ent)(x:Ent):(esA es x).length≤es.length+1:=by unfold esA;split<;>simp
theorem grecord_any(G:RG)(x:UX)(s:RcS)(kd sr e:Int)(hG:G.Ok)(hs:RecInv G.m s.es s.rg)(hl:s.es.length≤1000000):Spc Tryz.prog 34 #[.pointer (some ⟨G.b,0,none⟩),.int .i64 kd,.int .i64 sr,.int .i64 e] [rgI G,allI (UL G.C x)] [recL G s] (RecW2 G s):=by refine Spc.enter Tryz.func34 (h:=?_);refine fun w0 hw0=>?_;refine ae (Sq.of [0,1,2,3,4,5,6,7,8,9,10,11,12,13]) [13] [13] [0,1,2,4,5,6,9,10,11,12] (h:=?_);refine go 8 ?_;refine ar (gP G.C.B x.u) (hl:=Lend.sub (x:=allI (UL G.C x)) (dm (List.Mem.head _)) mQ .nil) (h:=?_);refine go 4 ?_;refine RL.call ((add_any G.rb G.lb G.m s.es s.rg ⟨x.u.now,kd,sr,e⟩ hG.m0 hG.m1 (by omega) hs).bundle) (hl:=.nil) (hb:=.inr rfl) (h:=?_);rintro _ _ _ ⟨_,⟨rfl,rfl,rg',hr',rfl⟩,rfl⟩;refine go 1 ?_;exact NQ.post (dn rfl) (.keep .nil) ⟨rfl,rfl,⟨_,rg'⟩,hr',esA_len _ _,rfl⟩
theorem neqs_alarm(x y:Operand)(w:World):(do eqGuard .neq 97 x y (.agg #[.int .i64 1,.int .i64 (-1)]) (.agg #[.int .i64 1,.int .i64 (-1)]);binOp .neq 97 (.agg #[.int .i64 1,.int .i64 (-1)]) (.agg #[.int .i64 1,.int .i64 (-1)]):Sem Value).run Tryz.prog w=.ok (.bool false) w:=
 neq_flat (ks:=[.int .i64,.int .i64]) (m:=4) (c:=[.int .i64 1,.int .i64 (-1)]) (d:=[.int .i64 1,.int .i64 (-1)]) (r:=true) (by decide) (by decide+kernel) (by kernel_rfl) (by decide+kernel) (by decide+kernel) (by decide+kernel) ⟨⟨rfl,by unfold gi;decide⟩,⟨rfl,by unfold gi;decide⟩,trivial⟩ ⟨⟨rfl,by unfold gi;decide⟩,⟨rfl,by unfold gi;decide⟩,trivial⟩ (by simp) w
theorem fl_and(p q:Bool):(IntKind.u32.wrap ((BitVec.ofInt IntKind.u32.bits (flN p q 4) &&& BitVec.ofInt IntKind.u32.bits 3).toNat:Int)==0)=true:=by cases p<;>cases q<;>decide+kernel
theorem glook0(G:RG)(x:UX)(hG:G.Ok)(hx:x.Ok)(h0:0≤x.nw):Spc Tryz.prog 33 #[.pointer (some ⟨G.b,0,none⟩)] [rgI G] [allI (UL G.C x)] (fun v I' H'=>v=.agg #[.int .i64 1,.int .i64 (-1)]∧I'=[]∧H'=[allI (UL G.C x)]):=by refine Spc.enter Tryz.func33 (h:=?_);refine fun w0 hw0=>?_;refine go 11 ?_;intro b1;refine RL.call ((ustatus_any G.C x hG.C hG.o hx h0).bundle) (hl:=.nil) (hb:=.inr rfl) (h:=?_);rintro _ _ _ ⟨_,⟨rfl,rfl,md,a,b,c,p,q,rfl⟩,rfl⟩;refine go 1 ?_;intro b2;refine an (ho:=rfl) (h1:=stS_ones _ _ _ _ _) (hv:=jf _ _ _ _ _) (h:=?_);refine go 6 ?_;refine RL.load (ho:=rfl) (hr:=Rd.cel (cs:=stS md a b c (flN p q 4)) mQ rfl) (h:=?_);refine go 4 ?_;refine aI rfl ((fl_and p q)) (go 8 ?_);exact RQ.post (cU rfl rfl KA97.h KS97.h mQ rfl) (.drop (.keep (.drop .nil))) ⟨rfl,rfl,rfl⟩
def GTkR(G:RG)(x:UX):Value→List It→List It→Prop:=fun v I' H'=>v=.int .i64 0∧I'=[]∧∃x':UX,x'.Ok∧x'.u.now=x.u.now+1∧x'.nw=x'.u.now∧H'=[rgI G,allI (UL G.C x')]
theorem gtick_any(G:RG)(x:UX)(hG:G.Ok)(hx:x.Ok)(hnw:x.nw=x.u.now)(hb:x.u.now≤1000000):Spc Tryz.prog 11 #[.pointer (some ⟨G.b,0,none⟩)] [] [rgI G,allI (UL G.C x)] (GTkR G x):=by refine Spc.enter Tryz.func11 (h:=?_);refine fun w0 hw0=>?_;refine go 9 ?_;refine ar (gis_yes G) (hl:=Lend.inH mQ .nil) (h:=?_);refine go 13 ?_;refine RL.call ((utick_any G.C x hG.C hx hnw hb).bundle) (hl:=.nil) (hb:=.inr rfl) (h:=?_);rintro _ _ _ ⟨_,⟨rfl,rfl,x',hx',hn',hw',rfl⟩,rfl⟩;refine go 15 ?_;refine RL.call (glook0 G x' hG hx' (by rw[hw'];exact hx'.n0)) (hl:=Lend.inH (x:=rgI G) mQ .nil) (hb:=.inr rfl) (h:=?_);rintro _ _ _ ⟨rfl,rfl,rfl⟩;refine go 6 ?_;intro b1;refine ae (Sq.of [0,1,2,3,4,5]) [] [] [1,2,3,5] (h:=?_);refine go 4 ?_;refine ak (vs:=[.int .i64 1,.int .i64 (-1)]) (ho:=rfl) (hr:=Rds.cel mQ (am ⟨rfl,rfl,trivial⟩)) (h:=?_);refine bj (hr:=neqs_alarm _ _) (h:=go 11 ?_);exact RQ.rea (fun _ h=>h) (H':=[rgI G,allI (UL G.C x')]) rE (RQ.post (az rfl rfl) (.keep (.keep .nil)) ⟨rfl,rfl,x',hx',hn',hw',rfl⟩)
def kpA(k:Kp)(t e:Int)(n:Nat):Kp:=if e=0 then k.beat t n else k
def fitB(k:Kp)(t:Int)(n:Nat):Prop:=k.kn=true→max ((n:Int)-t) (k.lo-k.wid t)≤min ((n:Int)-t+k.de) (k.hi+k.wid t)
def HrdR(G:RG)(x:UX)(k:Kp)(e:Int)(n:Nat)(s:RcS):Value→List It→List It→Prop:=fun v I' H'=>v=.tuple #[]∧I'=[]∧∃s':RcS,RecInv G.m s'.es s'.rg∧s'.es.length≤s.es.length+1∧H'=[kpI G.kb (kpA k x.u.now e n),recL G s']
theorem evC_tick(f:Fr)(e:Int)(r:Rdg):(evC f e r)[0+5+48]?=some (.int .u64 r.tick):=rfl
theorem gheard_any(G:RG)(x:UX)(f:Fr)(e:Int)(r:Rdg)(k:Kp)(n:Nat)(s:RcS)(hG:G.Ok)(hx:x.Ok)(hb:x.u.now≤1000000)(hs:RecInv G.m s.es s.rg)(hl:s.es.length≤1000000)(hkd:f.kd=7)(hk:k.Ok)(ht:k.tk≤x.u.now)(hr:e=0→r.tick=(n:Int)∧n≤1000000)(hfit:e=0→fitB k x.u.now n):Spc Tryz.prog 39 #[.pointer (some ⟨G.b,0,none⟩),.agg (evC f e r).toArray] [rgI G,allI (UL G.C x)] [kpI G.kb k,recL G s] (HrdR G x k e n s):=by
 have h62:=evC_len f e r;refine Spc.enter Tryz.func39 (h:=?_);refine fun w0 hw0=>?_;refine go 14 ?_;intro b1;refine RL.call (grecord_any G x s f.kd f.sr e hG hs hl) (hl:=Lend.inI mQ (.inI mQ .nil)) (hb:=.inr rfl) (h:=?_);rintro _ _ _ ⟨rfl,rfl,s',hs',hl',rfl⟩;refine go 9 ?_;apply au (d:=16) (dp:=20) (l':=(Sq.of [])) rfl (sK [0,3] rfl)
 ·intro hb4 K4;refine go 4 ?_;exact K4 _ (.cons rfl (sK [0,3] rfl))
 ·intro hb4 K4;refine go 4 ?_;exact K4 _ (.cons rfl (sK [0,3] rfl))
 refine go 2 ?_;refine CW.cond rfl (fun he=>?_) (fun he=>?_)
 ·refine go 2 ?_;have he:e≠0:=by intro h;rw[hkd,h] at he;cases he
  have hkp:kpA k x.u.now e n=k:=if_neg he;exact RQ.rea (fun _ h=>h) (H':=[kpI G.kb k,recL G s']) rE (RQ.post (dn rfl) (.keep (.keep .nil)) ⟨rfl,rfl,s',hs',hl',by rw[hkp]⟩)
 ·have he:e=0:=by rw[hkd] at he;simpa using he
  obtain⟨hn,hnb⟩:=hr he;refine go 3 ?_;refine ae (Sq.of [0,1,2,3,4,5,6,7,8,9,10,11,12,13]) [12] [12] [0,1,2,4,5,6,9,10,13] (h:=?_);refine go 8 ?_;refine ar (gP G.C.B x.u) (hl:=Lend.sub (x:=allI (UL G.C x)) (dm (List.Mem.head _)) mQ .nil) (h:=?_);refine go 2 ?_;refine RL.load KA32.h rfl rfl rfl rfl (Rd.cel (cs:=evC f e r) mQ (evC_tick f e r)) ?_;rw[hn];refine RL.call (beacon_any G.kb k x.u.now n hk ⟨ht,hb⟩ hnb (hfit he)) (hl:=.nil) (hb:=.inr rfl) (h:=?_);rintro _ _ _ ⟨rfl,rfl,rfl⟩;refine go 11 ?_;have hkp:kpA k x.u.now e n=k.beat x.u.now n:=if_pos he;exact NQ.rea (fun _ h=>h) (H':=[kpI G.kb (k.beat x.u.now n),recL G s']) rE (NQ.post (dn rfl) (.keep (.keep .nil)) ⟨rfl,rfl,s',hs',hl',by rw[hkp]⟩)
def lqI:Option RcS→Int
 | none=>0
 | some _=>1
def lqP(G:RG)(s:RcS):Option RcS→Prop
 | none=>True
 | some s'=>RecInv G.m s'.es s'.rg∧s'.es.length≤s.es.length+1
def lqH(G:RG)(k k':Kp)(s:RcS)(J:List It):Option RcS→List It
 | none=>kpI G.kb k::recL G s::J
 | some s'=>kpI G.kb k'::recL G s'::J
def GByR(G:RG)(x:UX)(f:Fr)(k:Kp)(n:Nat)(s:RcS)(nz sm:Int):Value→List It→List It→Prop:=fun v I' H'=>∃(e:Int) (r:Rdg) (y:UX) (eo:Option Nat) (ec:Nat) (p':Option Addr) (c':Nat) (s':RcS),v=.tuple #[aE eo 1 ec,.int .i64 0]∧I'=[]∧y.Ok∧y.u.now=x.u.now∧y.nw=x.nw∧RecInv G.m s'.es s'.rg∧s'.es.length≤s.es.length+1∧
 H'=[own eo ec 73 62 1 (evC f e r),rgI G,allI (UL G.C y),hnI G.C.B.h p' c' nz sm,kpI G.kb (kpA k x.u.now e n),recL G s']
theorem gbytes_any(G:RG)(x:UX)(f:Fr)(k:Kp)(n:Nat)(s:RcS)(h0:Option Addr)(c0:Nat)(nz sm:Int)(q:Option Addr)(c n':Nat)(hG:G.Ok)(hx:x.Ok)(hb:x.u.now≤1000000)(hf:f.Fit)(hkd:f.kd=7)(hn:(eA f).length=n')(hs:RecInv G.m s.es s.rg)(hl:s.es.length≤1000000)(hk:k.Ok)(ht:k.tk≤x.u.now)(hr:∀r,bV 7 f.b=some r→r.tick=(n:Int)∧n≤1000000)(hfit:fitB k x.u.now n):Spc Tryz.prog 16 #[.pointer (some ⟨G.b,0,none⟩),.slice q n' c] [sls q 1 n' (bytes (eA f))] [rgI G,hnI G.C.B.h h0 c0 nz sm,allI (UL G.C x),kpI G.kb k,recL G s] (GByR G x f k n s nz sm):=by
 refine Spc.enter Tryz.func16 (h:=?_);refine fun w0 hw0=>?_;refine go 10 ?_;refine ar (gis_yes G) (hl:=Lend.inH mQ .nil) (h:=?_);refine go 13 ?_;refine RL.call ((ubytes_any G.C x f h0 c0 nz sm q c n' hG.C hx hb hf hkd hn).bundleN 1 2) (hl:=.inI mQ .nil) (hb:=.inr rfl) (h:=?_);rintro _ _ _ ⟨_,⟨e,r,y,eo,ec,p',c',rfl,rfl,her,hy,hyn,hyw,rfl⟩,rfl⟩;refine go 16 ?_;have h62:=evC_len f e r;have hyb:y.u.now≤1000000:=by rw[hyn];exact hb
 refine CW.loop (γ := Option RcS) (lqP G s) (fun g => [(0, .pointer (some ⟨G.b, 0, none⟩)), (6, aE eo 1 ec), (7, .int .i64 0), (22, aE eo 1 ec), (23, .int .i64 1), (24, .int .i64 (lqI g))]) (fun _ => [])
   (lqH G k (kpA k x.u.now e n) s [own eo ec 73 62 1 (evC f e r), rgI G, allI (UL G.C y), hnI G.C.B.h p' c' nz sm]) (fun g => if g.isSome = true then 0 else 1) none trivial
   (.cons rfl (.cons rfl (.cons rfl (.cons rfl (.cons rfl (.cons rfl .nil)))))) (fun w h => h.rea (fun _ h => by cases h) rE) ?_
 rintro g hg
 cases g with
 | none=>
  dsimp only[lqI,lqH];refine go 7 ?_;refine aR (p:=eo=none→False) (fun w hC=>fun e'=>by subst e';have:=dW (hC.s.h (own none ec 73 62 1 (evC f e r)) mQ);omega) (fun hob=>?_)
  cases eo with
  | none=>exact(hob rfl).elim
  | some b=>
  refine go 6 ?_;refine aS (j:=0) (ho:=rfl) (hlt:=by decide) (h:=?_);refine ak (vs:=evC f e r) (ho:=rfl) (hr:=(Rds.own mQ).part (j:=0*62) (fun q u h=>by simpa using h)) (h:=?_);refine go 1 ?_;intro b1;refine an (ho:=rfl) (h1:=ev_ones f e r) (hv:=h62) (h:=?_);refine go 4 ?_;refine aT (ho:=rfl) (hl:=h62) (h:=?_);refine RL.call (gheard_any G y f e r k n s hG hy hyb hs hl hkd hk (by rw[hyn];exact ht) (fun he=>hr r (her he)) (fun _=>by rw[hyn];exact hfit)) Tryz.call39 rfl rfl rfl rfl rfl pE (Lend.inH (x:=rgI G) mQ (Lend.inH (x:=allI (UL G.C y)) mQ .nil)) (.inr rfl) ?_;rintro _ _ _ ⟨rfl,rfl,s',hs',hl',rfl⟩;rw[hyn];refine go 4 ?_;refine ap rfl (ad (by omega) (by omega)) ?_;refine go 2 ?_;exact NQ.round (g:=none) (some s') ⟨hs',hl'⟩ (show 0<1 by decide) (.cons rfl (.cons rfl (.cons rfl (.cons rfl (.cons rfl (.cons rfl .nil)))))) wE
 | some s'=>obtain⟨hs',hl'⟩:=hg;dsimp only[lqI,lqH];refine go 21 ?_;exact RQ.rea (fun _ h=>h) (H':=[own eo ec 73 62 1 (evC f e r),rgI G,allI (UL G.C y),hnI G.C.B.h p' c' nz sm,kpI G.kb (kpA k x.u.now e n),recL G s']) rE (RQ.post (bb rfl rfl rfl) (.keep (.keep (.keep (.keep (.keep (.keep .nil)))))) ⟨e,r,y,eo,ec,p',c',s',rfl,rfl,hy,hyn,hyw,hs',hl',rfl⟩)
def clkV(k:Kp)(t:Int):Value:=if k.kn=true then .tuple #[.int .i64 (k.lo-k.wid t),.int .i64 (k.hi+k.wid t),.bool true] else .tuple #[.int .i64 0,.int .i64 0,.bool false]
theorem gclock_any(G:RG)(x:UX)(k:Kp)(hk:k.Ok)(ht:0≤x.u.now∧x.u.now≤1000000):Spc Tryz.prog 17 #[.pointer (some ⟨G.b,0,none⟩)] [rgI G,allI (UL G.C x),kpI G.kb k] [] (Is (clkV k x.u.now)):=by
 have hbo:=bounds_any G.kb k x.u.now hk ht;unfold clkV
 cases hkn:k.kn with
 | true=>rw[hkn] at hbo;refine Spc.enter Tryz.func17 (h:=?_);refine fun w0 hw0=>?_;refine go 11 ?_;refine ar (gis_yes G) (hl:=Lend.inI mQ .nil) (h:=?_);refine go 7 ?_;refine ae (Sq.of [0,1,2,3,4,5,6,7,8,9,10,11,12,13,14,15]) [] [] [0,1,2,4,5,6,10,11,12,13,14,15] (h:=?_);refine go 8 ?_;refine ar (gP G.C.B x.u) (hl:=Lend.sub (x:=allI (UL G.C x)) (dm (List.Mem.head _)) mQ .nil) (h:=?_);refine ar (hbo) (hl:=Lend.inI mQ .nil) (h:=?_);refine go 9 ?_;exact RQ.post (res3 rfl rfl rfl rfl) (aa _) ⟨rfl,rfl,rfl⟩
 | false=>rw[hkn] at hbo;refine Spc.enter Tryz.func17 (h:=?_);refine fun w0 hw0=>?_;refine go 11 ?_;refine ar (gis_yes G) (hl:=Lend.inI mQ .nil) (h:=?_);refine go 7 ?_;refine ae (Sq.of [0,1,2,3,4,5,6,7,8,9,10,11,12,13,14,15]) [] [] [0,1,2,4,5,6,10,11,12,13,14,15] (h:=?_);refine go 8 ?_;refine ar (gP G.C.B x.u) (hl:=Lend.sub (x:=allI (UL G.C x)) (dm (List.Mem.head _)) mQ .nil) (h:=?_);refine ar (hbo) (hl:=Lend.inI mQ .nil) (h:=?_);refine go 9 ?_;exact RQ.post (res3 rfl rfl rfl rfl) (aa _) ⟨rfl,rfl,rfl⟩
theorem gsure_any(G:RG)(x:UX)(k:Kp)(off:Int)(hk:k.Ok)(ht:0≤x.u.now∧x.u.now≤1000000)(hc:G.c 8=.int .i64 off)(ho:0≤off∧off≤1000000):Spc Tryz.prog 14 #[.pointer (some ⟨G.b,0,none⟩)] [rgI G,allI (UL G.C x),kpI G.kb k] [] (Is (.bool (k.kn&&(decide (0-off≤k.lo-k.wid x.u.now)&&decide (k.hi+k.wid x.u.now≤off))))):=by
 refine Spc.enter Tryz.func14 (h:=?_);refine fun w0 hw0=>?_;refine go 6 ?_;refine ae (Sq.of [0,1,2,3,4,5,6,7,8,9,10,11,12,13,14,15,16,17,18,19,20,21]) [] [] [0,2,3,4,5,7,8,9,12,13,14,15,16,17,20,21] (h:=?_);refine go 1 ?_;refine ar (gis_yes G) (hl:=Lend.inI mQ .nil) (h:=?_);refine go 1 ?_;apply aL (d:=5) (dp:=23) (l':=(Sq.of [21])) rfl (sK [2] rfl)
 ·intro hb3 K3;refine go 8 ?_;refine ar (gP G.C.B x.u) (hl:=Lend.sub (x:=allI (UL G.C x)) (dm (List.Mem.head _)) mQ .nil) (h:=?_);refine go 6 ?_;refine RL.load (ho:=rfl) (hr:=aD mQ rfl) (h:=?_);refine av (d:=21) rfl hc ?_;refine ar (sure_any G.kb k x.u.now off hk ht ho) (hl:=Lend.inI mQ .nil) (h:=?_);refine go 1 ?_;exact K3 _ (.cons rfl (sK [2] rfl))
 ·intro hb3 K3;refine go 18 ?_;exact K3 _ (.cons rfl (sK [2] rfl))
 refine go 4 ?_;exact RQ.post (az rfl rfl) (aa _) ⟨rfl,rfl,rfl⟩
def iM(de ra mo sz:Int):List Value:=[.int .i64 de,.int .i64 ra,.int .i64 mo,.int .i64 sz]
def gV(Cc:List Value)(sl:Value)(T:List Value):List Value:=Cc++([sl]++T)
theorem eP{Cc:List Value}(h:Cc.length=45)(sl:Value)(de ra mo sz:Int):(gV Cc sl (iM de ra mo sz)).length=50:=by simp[gV,iM,h]
theorem plC_at{Cc:List Value}(h:Cc.length=45)(sl:Value)(T:List Value)(j:Nat):(gV Cc sl T)[0+(45+j)]?=(sl::T)[j]?:=by rw[gV,List.getElem?_append_right (by omega),h,show 0+(45+j)-45=j by omega];rfl
theorem iI{Cc:List Value}(h:dO Cc=true)(o:Option Nat)(n c:Nat)(de ra mo sz:Int):dO (gV Cc (aE o n c) (iM de ra mo sz))=true:=by exact onesA h (by cases o<;>rfl)
theorem plC_set{Cc:List Value}(h:Cc.length=45)(sl:Value)(T:List Value)(v:Value):bP (gV Cc sl T) (0+45) [v]=gV Cc v T:=bI (by simp[h]) rfl
def GOwR(Cc:List Value)(de ra mo sz:Int):Value→List It→List It→Prop:=fun v I' H'=>I'=[]∧H'=[]∧∃o c,v=.agg (gV Cc (aE o 1 c) (iM de ra mo sz)).toArray
def zpl:List Value:=gV (zcf.cells (.slice none 0 0)) (.slice none 0 0) (iM 0 0 0 0)
def owV(b:Nat):Option (Option Nat×Nat)→Value
 | none=>.slice (some ⟨b,0,none⟩) 0 0
 | some q=>aE q.1 1 q.2
def owI:Option (Option Nat×Nat)→Int
 | none=>0
 | some _=>1
def owH(b:Nat)(J:List It):Option (Option Nat×Nat)→List It
 | none=>own (some b) 0 85 4 0 []::J
 | some _=>J
theorem ones_zn(z:ZO):dO (znO z)=true:=by cases h:z.2.1<;>simp[znO,znC,aE,h,dO,Value.oneCell']
theorem ones_pts(z:ZO):∀u∈z.1.L.flatMap Pt.cells,u.oneCell'=true:=fun u h=>by
 obtain⟨p,-,hp⟩:=List.mem_flatMap.1 h
 simp only[Pt.cells,List.mem_cons,List.not_mem_nil,or_false] at hp
 rcases hp with rfl|rfl<;>rfl
theorem gown_any(Cc:List Value)(z:ZO)(oz:Option Nat)(cz:Nat)(de ra mo sz:Int)(hc:Cc.length=45)(ho:dO Cc=true)(hz:z.1.L.length≤1000):Spc Tryz.prog 26 #[.agg (gV Cc (aE oz 1 cz) (iM de ra mo sz)).toArray] [sls (oz.map fun b=>⟨b,0,none⟩) 4 1 (znO z),znS z] [] (GOwR Cc de ra mo sz):=by
 have h50:=fun sl=>eP hc sl de ra mo sz;refine Spc.enter Tryz.func26 (h:=?_);refine fun w0 hw0=>?_;refine go 8 ?_;intro b1 b2;refine ao [] (ho:=rfl) (h:=?_);intro b3;refine go 7 ?_;refine RL.load (ho:=rfl) (hr:=Rd.get mQ (plC_at hc _ _ 0)) (h:=?_);refine go 5 ?_;refine aR (p:=oz=none→False) (fun w hC=>fun e'=>by subst e';have:=bf (hC.s.i (sls (Option.map (fun b=>(⟨b,0,none⟩:Addr)) none) 4 1 (znO z)) mQ) rfl;omega) (fun hob=>?_)
 cases oz with
 | none=>exact(hob rfl).elim
 | some bz=>
 clear hob
 refine CW.loop (γ := Option (Option Nat × Nat)) (fun _ => True) (fun g => [(1, .pointer (some ⟨b1, 0, none⟩)), (2, .pointer (some ⟨b2, 0, none⟩)), (3, (owV b3 g)), (8, aE (some bz) 1 cz), (9, .int .i64 1), (10, .int .i64 (owI g))]) (fun _ => [sls (some ⟨bz, 0, none⟩) 4 1 (znO z), znS z])
   (owH b3 [cel b1 (gV Cc (aE (some bz) 1 cz) (iM de ra mo sz)) 37, cel b2 zpl 37]) (fun g => if g.isSome = true then 0 else 1) none trivial
   (.cons rfl (.cons rfl (.cons rfl (.cons rfl (.cons rfl (.cons rfl .nil)))))) wE ?_
 rintro g -
 cases g with
 | none=>dsimp only[owV,owI,owH];refine go 13 ?_;refine aS (j:=0) (ho:=rfl) (hlt:=by decide) (h:=?_);refine ak (vs:=znO z) (ho:=rfl) (hr:=(Rds.sls mQ).part (j:=0*4) (fun q u h=>by simpa using h)) (h:=?_);refine go 1 ?_;intro b4;refine an (vs:=znO z) (ho:=rfl) (h1:=ones_zn z) (h:=?_);refine go 4 ?_;refine ao [] (ho:=rfl) (h:=?_);intro b5;refine go 1 ?_;refine RL.load (ho:=rfl) (hr:=Rd.cel (cs:=znO z) mQ rfl) (h:=?_);refine cd KE83.h rfl rfl rfl rfl rfl rfl rfl (by first|exact⟨(.take (ai _)),rfl⟩|exact⟨(.leave (.take (ai _))),rfl⟩|exact⟨(.leave (.leave (.take (ai _)))),rfl⟩|exact⟨(.leave (.leave (.leave (.take (ai _))))),rfl⟩|exact⟨(.leave (.leave (.leave (.leave (.take (ai _)))))),rfl⟩|exact⟨(.leave (.leave (.leave (.leave (.leave (.take (ai _))))))),rfl⟩|exact⟨(.leave (.leave (.leave (.leave (.leave (.leave (.take (ai _)))))))),rfl⟩|exact⟨(.leave (.leave (.leave (.leave (.leave (.leave (.leave (.take (ai _))))))))),rfl⟩|exact⟨(.leave (.leave (.leave (.leave (.leave (.leave (.leave (.leave (.take (ai _)))))))))),rfl⟩|exact⟨(.leave (.leave (.leave (.leave (.leave (.leave (.leave (.leave (.leave (.take (ai _))))))))))),rfl⟩) (Src.sls (List.Mem.tail _ (List.Mem.head _))) (ones_pts z) (by first|omega|(simp only[maxLen];omega)) (by first|omega|(simp only[maxLen];omega)) ?_;intro ob1 cap1 ho1;refine go 6 ?_;refine ak (vs:=znC z.1.keep (aE ob1 (0+z.1.L.length) cap1) z.1.fl z.1.rf) (ho:=rfl) (hr:=Rds.all mQ) (h:=?_);refine ao [_,_,_,_] (ho:=rfl) (h:=?_);intro b6;refine cd KE35.h (ob:=some b3) (cap:=0) (xs:=[]) rfl rfl rfl rfl rfl rfl rfl ⟨pE,rfl⟩ (Src.ownS (List.Mem.head _)) (dI (ones_zn (z.1,ob1,cap1))) (by first|omega|(simp only[maxLen];omega)) (by first|omega|(simp only[maxLen];omega)) ?_;intro ob2 cap2 ho2;refine go 5 ?_;refine ap rfl (ad (by omega) (by omega)) ?_;refine go 2 ?_;exact NQ.round (g:=none) (some (ob2,cap2)) trivial (show 0<1 by decide) (.cons rfl (.cons rfl (.cons rfl (.cons rfl (.cons rfl (.cons rfl .nil)))))) wE
 | some q=>dsimp only[owV,owI,owH];refine go 16 ?_;refine aj (cs':=gV Cc (aE q.1 1 q.2) (iM de ra mo sz)) (vs:=[_]) (plC_set hc _ _ _) (ho:=rfl) (hl:=by rw[h50];simp) (h:=?_);refine go 4 ?_;refine aT (ho:=rfl) (hl:=h50 _) (h:=?_);refine an (ho:=rfl) (h1:=iI ho _ _ _ _ _ _ _) (hv:=h50 _) (h:=?_);refine go 3 ?_;exact RQ.post (cU rfl rfl KA37.h KS37.h mQ (h50 _)) (aa _) ⟨rfl,rfl,_,_,rfl⟩
abbrev rgC(Cc:List Value)(sl:Value)(de ra mo sz:Int)(T:List Value):List Value:=gV Cc sl (iM de ra mo sz)++T
theorem rgC_at{Cc:List Value}(h:Cc.length=45)(sl:Value)(de ra mo sz:Int)(T:List Value)(j:Nat)(hj:j<50):(rgC Cc sl de ra mo sz T)[j]?=(gV Cc sl (iM de ra mo sz))[j]?:=List.getElem?_append_left (by rw[eP h];exact hj)
theorem rgC_pl{Cc:List Value}(h:Cc.length=45)(sl:Value)(de ra mo sz:Int)(T:List Value)(j:Nat)(hj:j<5):(rgC Cc sl de ra mo sz T)[0+0+(45+j)]?=(sl::iM de ra mo sz)[j]?:=by rw[rgC_at h _ _ _ _ _ _ _ (by omega),←plC_at h sl (iM de ra mo sz) j]
theorem rgC_set{Cc:List Value}(h:Cc.length=45)(sl:Value)(de ra mo sz:Int)(A vs vs' T:List Value)(o:Nat)(ho:o=50+A.length)(hv:vs.length=vs'.length):bP (rgC Cc sl de ra mo sz (A++(vs++T))) o vs'=rgC Cc sl de ra mo sz (A++(vs'++T)):=by have e:=bI (A:=gV Cc sl (iM de ra mo sz)++A) (B:=vs) (B':=vs') (C:=T) (o:=o) (by rw[List.length_append,eP h,ho]) hv.symm;rwa[List.append_assoc,List.append_assoc] at e
theorem gbegin_any(b:Nat)(Cc:List Value)(sl u r:Value)(de ra mo sz:Int)(hc:Cc.length=45)(h1:0≤de∧de≤65535)(h2:0≤ra∧ra≤1048576)(h3:1≤mo∧mo≤100):Spc Tryz.prog 28 #[.pointer (some ⟨b,0,none⟩)] [] [cel b (rgC Cc sl de ra mo sz [u,r,.pointer none,.int .i64 0,.int .i64 0]) 99] (fun v I' H'=>v=.tuple #[]∧I'=[]∧∃kb,H'=[cel b (rgC Cc sl de ra mo sz [u,r,.pointer (some ⟨kb,0,none⟩),.int .i64 1,.int .i64 (-1)]) 99,kpI kb ⟨de,ra,mo,false,0,0,0,0⟩]):=by
 have h55:∀T,(rgC Cc sl de ra mo sz T).length=50+T.length:=fun T=>by rw[List.length_append,eP hc]
 refine Spc.enter Tryz.func28 (h:=?_);refine fun w0 hw0=>?_;refine go 1 ?_;refine ae (Sq.of [0,1,2,3,4,5,6,7,8,9,10,11,12,13,14,15,16,17,18,19,20,21,22]) [16,22] [16,22] [0,1,2,3,4,6,7,8,9,11,12,13,14,17,18,19,20,21] (h:=?_);refine go 5 ?_;refine RL.load KA3.h rfl rfl rfl rfl (Rd.get mQ (rgC_pl hc _ _ _ _ _ _ 1 (by decide))) ?_;refine go 4 ?_;refine RL.load KA3.h rfl rfl rfl rfl (Rd.get mQ (rgC_pl hc _ _ _ _ _ _ 2 (by decide))) ?_;refine go 4 ?_;refine RL.load KA3.h rfl rfl rfl rfl (Rd.get mQ (rgC_pl hc _ _ _ _ _ _ 3 (by decide))) ?_;refine RL.call (knew_any de ra mo h1 h2 h3) (hl:=.nil) (hb:=.inr rfl) (h:=?_);rintro _ _ _ ⟨kb,rfl,rfl,rfl⟩;refine go 5 ?_;refine aj (cs':=rgC Cc sl de ra mo sz [u,r,.pointer (some ⟨kb,0,none⟩),.int .i64 0,.int .i64 0]) (vs:=[_]) (rgC_set hc _ _ _ _ _ [_,_] [.pointer none] [_] _ _ rfl rfl) (ho:=rfl) (hl:=by rw[h55];simp) (h:=?_);refine go 7 ?_;refine aj (cs':=rgC Cc sl de ra mo sz [u,r,.pointer (some ⟨kb,0,none⟩),.int .i64 1,.int .i64 (-1)]) (vs:=[_,_]) (rgC_set hc _ _ _ _ _ [_,_,_] [.int .i64 0,.int .i64 0] [_,_] [] _ rfl rfl) (ho:=rfl) (hl:=by rw[h55];simp) (h:=?_);refine go 1 ?_;exact RQ.rea (fun _ h=>h) (H':=[cel b (rgC Cc sl de ra mo sz [u,r,.pointer (some ⟨kb,0,none⟩),.int .i64 1,.int .i64 (-1)]) 99,kpI kb ⟨de,ra,mo,false,0,0,0,0⟩]) rE (RQ.post (dn rfl) (.keep (.keep .nil)) ⟨rfl,rfl,kb,rfl⟩)
theorem jh{P : Program}{d : Nat}{xs ys : Array Value}{f : Field}{fs : List Field}{a b : Value}{r1 r2 : Bool}{w : World}(hn : f.name ≠ "_")(h1 : (Go.part f.type xs f.offset).run P w = .ok a w)(h2 : (Go.part f.type ys f.offset).run P w = .ok b w)(h3 : (Op.equalIn d f.type a b).run P w = .ok r1 w)(ih : (Op.eqFields d xs ys fs).run P w = .ok r2 w): (Op.eqFields d xs ys (f :: fs)).run P w = .ok (r1 && r2) w := by
 cases r1
 ·simp[Op.eqFields,hn,h1,h2,h3]
 ·simp[Op.eqFields,hn,h1,h2,h3,ih]
theorem eq2_key(d:Nat)(l m:List B8)(h:l.length=32)(h':m.length=32)(w:World):(Op.equalIn (d+2) 31 (.agg (bytes l).toArray) (.agg (bytes m).toArray)).run Tryz.prog w=.ok (l==m) w:=by
 obtain⟨ii,hi⟩:∃ii,Tryz.prog.info? 5=some ii:=by
  cases hx:Tryz.prog.info? 5 with
  | some ii=>exact⟨ii,rfl⟩
  | none=>exact absurd (congrArg Option.isSome hx) (by rw[show(Tryz.prog.info? 5).isSome=true from by kernel_rfl];decide)
 rw[run_equalIn_array (P:=Tryz.prog) w (d+1) (n:=32) (e:=5) _ _ (by kernel_rfl) hi,show Tryz.prog.cellsOf 5=1 from by kernel_rfl];have h8:=iW (P:=Tryz.prog) (e:=5) KA5.h KU5.h d l m (List.range 32) w (fun i hi=>by simp at hi;omega)
 have ha:((List.range 32).all fun i=>l[i]?==m[i]?)=(l==m):=by
  rw[Bool.eq_iff_iff];simp only[List.all_eq_true,List.mem_range,beq_iff_eq];constructor
  ·intro h2;apply List.ext_getElem?;intro i;by_cases hi:i<32
   ·exact h2 i hi
   ·rw[List.getElem?_eq_none (by omega),List.getElem?_eq_none (by omega)]
  ·rintro rfl i _;rfl
 rw[ha] at h8;exact h8
def gatB(x y:Wt):Bool:=(x.go==y.go)&&((x.gg==y.gg)&&((x.gm==y.gm)&&true))
def watB(x y:Wt):Bool:=gatB x y&&((x.sl==y.sl)&&((x.mo==y.mo)&&((x.sa==y.sa)&&((x.ra==y.ra)&&((x.ba==y.ba)&&((x.ho==y.ho)&&((x.pr==y.pr)&&true)))))))
def srcB2(s r:Sr):Bool:=(s.id==r.id)&&((s.kd==r.kd)&&((s.rt==r.rt)&&((s.w==r.w)&&((s.g==r.g)&&((s.st==r.st)&&((s.hz==r.hz)&&(watB s.wt r.wt&&true)))))))
theorem qp_gate(d:Nat)(x y:Wt)(w:World):(Op.equalIn (d+2) 163 (.agg [Value.int .i64 x.go,.int .i64 x.gg,.int .i64 x.gm].toArray) (.agg [Value.int .i64 y.go,.int .i64 y.gg,.int .i64 y.gm].toArray)).run Tryz.prog w=.ok (gatB x y) w:=by rw[run_equalIn_struct (P:=Tryz.prog) w (d+1) 163 _ _ (by kernel_rfl) (by kernel_rfl)];simp only[Program.fieldsOf,Tryz.underlying163];refine jh (by decide) (bB KA25.h rfl w) (bB KA25.h rfl w) (dc KU25.h d _ _ w) ?_;refine jh (by decide) (bB KA25.h rfl w) (bB KA25.h rfl w) (dc KU25.h d _ _ w) ?_;refine jh (by decide) (bB KA25.h rfl w) (bB KA25.h rfl w) (dc KU25.h d _ _ w) ?_;rfl
theorem qp_watch(d:Nat)(x y:Wt)(w:World):(Op.equalIn (d+3) 165 (.agg x.cells.toArray) (.agg y.cells.toArray)).run Tryz.prog w=.ok (watB x y) w:=by rw[run_equalIn_struct (P:=Tryz.prog) w (d+2) 165 _ _ (by kernel_rfl) (by kernel_rfl)];simp only[Program.fieldsOf,Tryz.underlying165];refine jh (by decide) (part_a KA163.h KS163.h rfl w) (part_a KA163.h KS163.h rfl w) (qp_gate d x y w) ?_;refine jh (by decide) (bB KA25.h rfl w) (bB KA25.h rfl w) (dc KU25.h (d+1) _ _ w) ?_;refine jh (by decide) (bB KA25.h rfl w) (bB KA25.h rfl w) (dc KU25.h (d+1) _ _ w) ?_;refine jh (by decide) (bB KA3.h rfl w) (bB KA3.h rfl w) (dc KU3.h (d+1) _ _ w) ?_;refine jh (by decide) (bB KA25.h rfl w) (bB KA25.h rfl w) (dc KU25.h (d+1) _ _ w) ?_;refine jh (by decide) (bB KA3.h rfl w) (bB KA3.h rfl w) (dc KU3.h (d+1) _ _ w) ?_;refine jh (by decide) (bB KA3.h rfl w) (bB KA3.h rfl w) (dc KU3.h (d+1) _ _ w) ?_;refine jh (by decide) (bB KA3.h rfl w) (bB KA3.h rfl w) (dc KU3.h (d+1) _ _ w) ?_;rfl
theorem qp_src(d:Nat)(s r:Sr)(h:s.rt.length=32)(h':r.rt.length=32)(w:World):(Op.equalIn (d+4) 167 (.agg s.cells.toArray) (.agg r.cells.toArray)).run Tryz.prog w=.ok (srcB2 s r) w:=by
 rw[run_equalIn_struct (P:=Tryz.prog) w (d+3) 167 _ _ (by kernel_rfl) (by kernel_rfl)];simp only[Program.fieldsOf,Tryz.underlying167];have ht:∀j,s.cells[34+j]?=s.tl[j]?:=fun j=>by have:=iw h j;rwa[show 0+34+j=34+j by omega] at this
 have hr:∀j,r.cells[34+j]?=r.tl[j]?:=fun j=>by have:=iw h' j;rwa[show 0+34+j=34+j by omega] at this
 refine jh (by decide) (bB KA3.h rfl w) (bB KA3.h rfl w) (dc KU3.h (d+2) _ _ w) ?_;refine jh (by decide) (bB KA3.h rfl w) (bB KA3.h rfl w) (dc KU3.h (d+2) _ _ w) ?_;refine jh (by decide) (part_a KA31.h KS31.h (sr_key h) w) (part_a KA31.h KS31.h (sr_key h') w) (eq2_key (d+1) _ _ h h' w) ?_;refine jh (by decide) (bB KA3.h (ht 0) w) (bB KA3.h (hr 0) w) (dc KU3.h (d+2) _ _ w) ?_;refine jh (by decide) (bB KA3.h (ht 1) w) (bB KA3.h (hr 1) w) (dc KU3.h (d+2) _ _ w) ?_;refine jh (by decide) (bB KA25.h (ht 2) w) (bB KA25.h (hr 2) w) (dc KU25.h (d+2) _ _ w) ?_;refine jh (by decide) (bB KA3.h (ht 3) w) (bB KA3.h (hr 3) w) (dc KU3.h (d+2) _ _ w) ?_;refine jh (by decide) (part_a KA165.h KS165.h (sr_watch h) w) (part_a KA165.h KS165.h (sr_watch h') w) (qp_watch d _ _ w) ?_;rfl
theorem eql_qpsrc(s r:Sr)(h:s.rt.length=32)(h':r.rt.length=32)(x y:Operand)(w:World):(do eqGuard .eql 167 x y (.agg s.cells.toArray) (.agg r.cells.toArray);binOp .eql 167 (.agg s.cells.toArray) (.agg r.cells.toArray):Sem Value).run Tryz.prog w=.ok (.bool (srcB2 s r)) w:=by simp[run_eqGuard_agg,run_eql_struct,qp_src 9996 s r h h' w]
def Sr.zero(s:Sr):Bool:=decide (s.w=0∧s.g=0∧s.st=0∧s.hz=0∧s.wt.go=0∧s.wt.gg=0∧s.wt.gm=0∧s.wt.sl=0∧s.wt.mo=0∧s.wt.sa=0∧s.wt.ra=0∧s.wt.ba=0∧s.wt.ho=0∧s.wt.pr=0)
def Sr.bare(s:Sr):Bool:=aidB s.kd||s.zero
abbrev zW:Wt:=⟨0,0,0,0,0,0,0,0,0,0⟩
theorem srcB2_zero(s:Sr):srcB2 s ⟨s.id,s.kd,s.rt,0,0,0,0,zW⟩=s.zero:=by rw[Bool.eq_iff_iff];simp[srcB2,watB,gatB,Sr.zero];intros;simp only[and_assoc]
theorem gaid_any'(s:Sr):Spc Tryz.prog 108 #[.agg s.cells.toArray] [] [] (Is (.bool (aidB s.kd))):=by
 refine Spc.enter Tryz.func108 (h:=?_);refine fun w0 hw0=>?_;refine go 12 ?_;intro b1;apply aL (d:=6) (dp:=10) (l':=(Sq.of [8])) rfl (sK [2] rfl)
 ·intro hb4 K4;refine go 4 ?_;exact K4 _ (.cons rfl (sK [2] rfl))
 ·intro hb4 K4;refine go 4 ?_;exact K4 _ (.cons rfl (sK [2] rfl))
 refine go 4 ?_;exact RQ.post (az rfl rfl) (aa _) ⟨by congr 1;rw[Bool.eq_iff_iff];simp[aidB],rfl,rfl⟩
theorem fill_bare{a b:Int}{rt:List B8}(h:rt.length=32){places:Array (Nat×Nat)}(hp:places= #[(0,1),(1,1),(2,32),(34,1),(35,1),(36,1),(37,1),(38,10)]):bX (places[·]?) zeroS.cells [(0,.int .i64 a),(1,.int .i64 b),(2,.agg (bytes rt).toArray)]=some (Sr.cells ⟨a,b,rt,0,0,0,0,zW⟩):=by
 subst hp;have hb:(bytes rt).length=32:=by rw[List.length_map,h]
 refine aK (vs:=[.int .i64 a]) [] [zI] ([zI]++(ZK++zeroS.tl)) rfl rfl rfl rfl rfl rfl ?_;refine aK (vs:=[.int .i64 b]) [.int .i64 a] [zI] (ZK++zeroS.tl) rfl rfl rfl rfl rfl rfl ?_;refine aK [.int .i64 a,.int .i64 b] ZK zeroS.tl rfl (cq _) rfl rfl rfl hb ?_;rfl
theorem sr_rt{s:Sr}(h:s.rt.length=32)(j:Nat)(u:Value)(hu:(bytes s.rt)[j]?=some u):s.cells[0+2+j]?=some u:=by have hj:j<(bytes s.rt).length:=(List.getElem?_eq_some_iff.1 hu).1;rw[show 0+2+j=j+1+1 by omega];show(bytes s.rt++s.tl)[j]?=some u;rw[List.getElem?_append_left hj];exact hu
theorem gbare_any(s:Sr)(h:s.rt.length=32):Spc Tryz.prog 59 #[.agg s.cells.toArray] [] [] (Is (.bool s.bare)):=by
 have hsl:=c7 h;have hrl:(bytes s.rt).length=32:=by rw[List.length_map,h]
 refine Spc.enter Tryz.func59 (h:=?_);refine fun w0 hw0=>?_;refine go 7 ?_;intro b1;refine bv rfl ?_;refine aW (fun J hJ=>?_);have m1:cel b1 s.cells 167∈J:=hJ _ (List.Mem.head _);clear hJ;have f0:RdI J ⟨b1,0+0,none⟩ (.int .i64 s.id):=⟨fun _=>Rd.celI m1 rfl⟩;have f1:RdI J ⟨b1,0+1,none⟩ (.int .i64 s.kd):=⟨fun _=>Rd.celI m1 rfl⟩;have f2:RdsN J ⟨b1,0+2,none⟩ 32 (bytes s.rt):=aV m1 (sr_rt h) hrl;have fA:RdsN J ⟨b1,0,none⟩ 48 s.cells:=aV m1 (fun j u hu=>by rw[Nat.zero_add];exact hu) hsl;refine go 2 ?_;refine ab (gaid_any' s) (h:=?_);refine go 1 ?_;apply au (d:=5) (dp:=15) (l':=(Sq.of [13])) rfl (sK [2] rfl)
 ·intro hb3 K3;refine go 7 ?_;refine ay (Sr.cells ⟨s.id,s.kd,s.rt,0,0,0,0,zW⟩) (ho:=rfl) (hf:=fill_bare h rfl) (h:=?_);refine bj (hr:=fun w=>eql_qpsrc s ⟨s.id,s.kd,s.rt,0,0,0,0,zW⟩ h h _ _ w) (h:=?_);refine go 1 ?_;exact K3 _ (.cons rfl (sK [2] rfl))
 ·intro hb3 K3;refine go 10 ?_;exact K3 _ (.cons rfl (sK [2] rfl))
 refine go 4 ?_;exact RQ.post (az rfl rfl) (aa _) ⟨by rw[srcB2_zero];rfl,rfl,rfl⟩
end Go.Proofs.YthlchaldjekokaaGreat
namespace Go.PK
theorem Spc.lose{P:Program}{f:FuncId}{args:Array Value}{I:List It}{R R':Value→List It→List It→Prop}(h:Spc P f args I [] R)(hR:∀v I' H',R v I' H'→R' v I' []):Spc P f args I [] R':=fun w hw=>by
 refine(h w hw).mono ?_
 rintro e w' ⟨v,I',H',rfl,hr,hk,hs',h1,h2⟩
 exact⟨v,I',[],rfl,hR _ _ _ hr,hk,⟨hs'.i,(fun x hx=>by cases hx),List.nodup_nil,(fun b _ hb=>by cases hb)⟩,(fun b hb=>by cases hb),h2⟩
end Go.PK
namespace Go.Proofs.YthlchaldjekokaaGreat
open Go.PK
structure PlOk(c:Cf)(z:ZO)(de ra mo:Int)(m:Nat):Prop where
 bt:BtOk c
 ok:c.ok=true
 de:0≤de∧de≤65535
 ra:0≤ra∧ra≤1048576
 mo:1≤mo∧mo≤100
 m0:0<m
 m1:m≤4096
 zl:z.1.L.length≤1000
 ze:z.1.err=0
 ba:∀s∈c.L,s.bare=true
def plG(c:Cf)(z:ZO)(oa:Option Nat)(ca:Nat)(oz:Option Nat)(cz:Nat)(de ra mo:Int)(m:Nat):PG:=⟨c.cells (aE oa c.L.length ca),c.L.map Sr.cells,[z],oa,oz,ca,cz,de,ra,mo,m⟩
theorem plG_C(c:Cf)(z:ZO)(oa:Option Nat)(ca:Nat)(oz:Option Nat)(cz:Nat)(de ra mo:Int)(m:Nat):(plG c z oa ca oz cz de ra mo m).C=gV (c.cells (aE oa c.L.length ca)) (aE oz 1 cz) (iM de ra mo m):=rfl
abbrev srS(c:Cf)(oa:Option Nat):It:=sls (oa.map fun b=>⟨b,0,none⟩) 48 c.L.length (c.L.flatMap Sr.cells)
theorem plG_I(c:Cf)(z:ZO)(oa:Option Nat)(ca:Nat)(oz:Option Nat)(cz:Nat)(de ra mo:Int)(m:Nat)(im:It):(plG c z oa ca oz cz de ra mo m).I im=[im,srS c oa,sls (oz.map fun b=>⟨b,0,none⟩) 4 1 (znO z),znS z]:=by simp[PG.I,plG,srS,List.flatMap_map]
theorem plG_ok{c:Cf}{z:ZO}{oa:Option Nat}{ca:Nat}{oz:Option Nat}{cz:Nat}{de ra mo:Int}{m:Nat}(h:PlOk c z de ra mo m):(plG c z oa ca oz cz de ra mo m).Ok (srS c oa) where
 cm:=cj h.bt.fit.cm _
 hd:=by simp[plG,Cf.cells]
 nl:=by have:=h.bt.l;simp[plG];omega
 nz:=by simp[plG]
 np:=fun y hy=>by
  obtain rfl:y=z:=by simpa[plG] using hy
  have:=h.zl;omega
 ze:=fun y hy=>by
  obtain rfl:y=z:=by simpa[plG] using hy
  exact h.ze
 rl:=fun s hs=>by
  obtain⟨r,hr,rfl⟩:=List.mem_map.1 hs
  exact c7 (h.bt.fit.L r hr).rt
 ro:=fun s hs=>by
  obtain⟨r,hr,rfl⟩:=List.mem_map.1 hs
  exact cw r
 sc:=by
  have:=ccheck_any c oa ca c.L.length rfl h.bt.fit (by have:=h.bt.l;omega)
  rw[Cf.err,if_pos h.ok] at this
  exact this
 sy:=(knew_any de ra mo h.de h.ra h.mo).lose (fun v I' H'=>by rintro⟨b,rfl,rfl,-⟩;exact⟨_,rfl,rfl,rfl⟩)
 tr:=(tnew_yes m h.m0 h.m1).lose (fun v I' H'=>by rintro⟨r,lb,rfl,rfl,-⟩;exact⟨_,rfl,rfl,rfl⟩)
 ba:=fun s hs=>by
  obtain⟨r,hr,rfl⟩:=List.mem_map.1 hs
  have:=gbare_any r (h.bt.fit.L r hr).rt
  rw[h.ba r hr] at this
  exact this
def GNewR(c:Cf)(de ra mo:Int):Value→List It→List It→Prop:=fun v I' H'=>I'=[]∧∃(G:RG) (x:UX) (s:RcS),G.Ok∧x.Ok∧x.u.now=0∧x.nw=0∧G.c 8=.int .i64 c.sc.of∧RecInv G.m s.es s.rg∧s.es=[]∧v=.tuple #[.pointer (some ⟨G.b,0,none⟩),.int .i64 0]∧H'=[recL G s,rgI G,allI (UL G.C x),hnI G.C.B.h none 0 0 0,kpI G.kb ⟨de,ra,mo,false,0,0,0,0⟩]
theorem zpl_len:zpl.length=50:=eP rfl _ _ _ _ _
def zrg:List Value:=zpl++[.pointer none,.pointer none,.pointer none,.int .i64 0,.int .i64 0]
theorem fill_rig{vs:List Value}(h:vs.length=50)(u:Value)(hu:u.cells.toList=[u]){places:Array (Nat×Nat)}(hp:places= #[(0,50),(50,1),(51,1),(52,1),(53,2)]):bX (places[·]?) zrg [(0,.agg vs.toArray),(1,u)]=some (vs++[u,.pointer none,.pointer none,.int .i64 0,.int .i64 0]):=by subst hp;refine aK (vs:=vs) [] zpl [.pointer none,.pointer none,.pointer none,.int .i64 0,.int .i64 0] rfl (cq _) rfl rfl zpl_len h ?_;refine aK (vs:=[u]) vs [.pointer none] [.pointer none,.pointer none,.int .i64 0,.int .i64 0] rfl hu rfl h rfl rfl ?_;rfl
theorem gnew_any(c:Cf)(z:ZO)(de ra mo:Int)(m:Nat)(hp:PlOk c z de ra mo m)(oa:Option Nat)(ca:Nat)(oz:Option Nat)(cz st:Nat):Spc Tryz.prog 7 #[.agg (gV (c.cells (aE oa c.L.length ca)) (aE oz 1 cz) (iM de ra mo m)).toArray,.pointer (some ⟨st,0,none⟩)] [srS c oa,sls (oz.map fun b=>⟨b,0,none⟩) 4 1 (znO z),znS z] [stI st bn0.v bn0.v (-1)] (GNewR c de ra mo):=by
 have hcm:=hp.bt.fit.cm;have hcl:=cj hcm (aE oa c.L.length ca);have h50:=fun sl=>eP hcl sl de ra mo (m:Int);have hgc:=gcheck_yes (plG c z oa ca oz cz de ra mo m) (srS c oa) (plG_ok hp);rw[plG_C,plG_I] at hgc;refine Spc.enter Tryz.func7 (h:=?_);refine fun w0 hw0=>?_;refine go 9 ?_;intro b1;refine aB (A:=[_]) (B:=[_]) (.take (.leave .nil)) rfl ?_;refine aW (fun J hJ=>?_);have mB:cel b1 (gV (c.cells (aE oa c.L.length ca)) (aE oz 1 cz) (iM de ra mo m)) 37∈J:=hJ _ (List.Mem.head _);have mS:srS c oa∈J:=hJ _ (List.Mem.tail _ (List.Mem.head _));have mZ:sls (oz.map fun b=>⟨b,0,none⟩) 4 1 (znO z)∈J:=hJ _ (List.Mem.tail _ (List.Mem.tail _ (List.Mem.head _)));have mP:znS z∈J:=hJ _ (List.Mem.tail _ (List.Mem.tail _ (List.Mem.tail _ (List.Mem.head _))));clear hJ;have fA:RdsN J ⟨b1,0,none⟩ 50 (gV (c.cells (aE oa c.L.length ca)) (aE oz 1 cz) (iM de ra mo m)):=⟨fun _=>Rds.allI mB,h50 _⟩;have fC:RdsN J ⟨b1,0+0,none⟩ 45 (c.cells (aE oa c.L.length ca)):=aV mB (fun j u hu=>by rw[show 0+0+j=j by omega,gV,List.getElem?_append_left (List.getElem?_eq_some_iff.1 hu).1];exact hu) hcl
 have fS:RdI J ⟨b1,0+49,none⟩ (.int .i64 m):=⟨fun _=>aD mB (plC_at hcl _ _ 4)⟩;refine go 2 ?_;refine ar (hgc) (hl:=.inI mS (.inI mS (.inI mZ (.inI mP .nil)))) (h:=go 17 ?_);refine RL.call (unew_any c oa ca st hp.bt hp.ok) (hl:=.inI mS .nil) (hb:=.inr rfl) (h:=?_);rintro _ _ _ ⟨rfl,C,x,sl,hC,ho,hx,hn,hw,hcc,hst,-,-,rfl,rfl⟩;refine go 15 ?_;rw[List.append_nil];refine CW.rea (fun _ h=>h) (H':=UL C x++[hnI C.B.h none 0 0 0]) rE ?_;refine CW.pack (go 5 ?_);refine RL.call (gown_any (c.cells (aE oa c.L.length ca)) z oz cz de ra mo (m:Int) hcl (ed c (by cases oa<;>rfl)) hp.zl) (hl:=.inI mZ (.inI mP .nil)) (hb:=.inr rfl) (h:=?_);rintro _ _ _ ⟨rfl,rfl,o1,c1,rfl⟩;refine go 1 ?_;refine ay (rgC (c.cells (aE oa c.L.length ca)) (aE o1 1 c1) de ra mo m [.pointer (some ⟨C.B.b,0,none⟩),.pointer none,.pointer none,.int .i64 0,.int .i64 0]) (ho:=rfl) (hf:=fill_rig (h50 (aE o1 1 c1)) (.pointer (some ⟨C.B.b,0,none⟩)) rfl rfl) (h:=go 9 ?_);intro b2;refine RL.call (tnew_yes m hp.m0 hp.m1) (hl:=.nil) (hb:=.inr rfl) (h:=?_);rintro _ _ _ ⟨r,lb,rfl,rfl,rg,hrg,rfl⟩;refine go 5 ?_;refine aj (cs':=rgC (c.cells (aE oa c.L.length ca)) (aE o1 1 c1) de ra mo m [.pointer (some ⟨C.B.b,0,none⟩),.pointer (some ⟨r,0,none⟩),.pointer none,.int .i64 0,.int .i64 0]) (vs:=[_]) (rgC_set hcl _ _ _ _ _ [_] [.pointer none] [_] _ _ rfl rfl) (ho:=rfl) (hl:=by rw[List.length_append,h50];simp) (h:=?_);refine go 5 ?_;refine RL.call (gbegin_any b2 (c.cells (aE oa c.L.length ca)) (aE o1 1 c1) (.pointer (some ⟨C.B.b,0,none⟩)) (.pointer (some ⟨r,0,none⟩)) de ra mo (m:Int) hcl hp.de hp.ra hp.mo) (hl:=.nil) (hb:=.inr rfl) (h:=?_);rintro _ _ _ ⟨rfl,rfl,kb,rfl⟩;refine go 11 ?_;have hG:=map_getD (h50 (aE o1 1 c1));have e1:rgI (⟨b2,fun i=>(gV (c.cells (aE oa c.L.length ca)) (aE o1 1 c1) (iM de ra mo m)).getD i (.bool false),r,lb,m,kb,C⟩:RG)=cel b2 (rgC (c.cells (aE oa c.L.length ca)) (aE o1 1 c1) de ra mo m [.pointer (some ⟨C.B.b,0,none⟩),.pointer (some ⟨r,0,none⟩),.pointer (some ⟨kb,0,none⟩),.int .i64 1,.int .i64 (-1)]) 99:=by show cel b2 (List.map _ (List.range 50)++_) _=_;rw[hG]
 refine RQ.rea (fun _ h=>h) (H':=RecH r lb m [] rg++[cel b2 (rgC (c.cells (aE oa c.L.length ca)) (aE o1 1 c1) de ra mo m [.pointer (some ⟨C.B.b,0,none⟩),.pointer (some ⟨r,0,none⟩),.pointer (some ⟨kb,0,none⟩),.int .i64 1,.int .i64 (-1)]) 99,allI (UL C x),hnI C.B.h none 0 0 0,kpI kb ⟨de,ra,mo,false,0,0,0,0⟩]) rE (RQ.pack ?_);rw[←e1];exact RQ.post (bb rfl rfl rfl) (.keep (.keep (.keep (.keep (.keep .nil))))) ⟨rfl,(⟨b2,fun i=>(gV (c.cells (aE oa c.L.length ca)) (aE o1 1 c1) (iM de ra mo m)).getD i (.bool false),r,lb,m,kb,C⟩:RG),x,⟨[],rg⟩,⟨hC,ho,hp.m0,hp.m1⟩,hx,hn,hw,rfl,hrg,rfl,rfl,rfl⟩
def dC(seed:B8)(id:Int):List B8:=seed::BitVec.ofInt 8 id::List.replicate 30 (0#8)
def noS(seed:B8)(id kd:Int):Sr:=⟨id,kd,dC seed id,0,0,0,0,⟨0,0,0,0,0,0,0,0,0,0⟩⟩
def aidS(seed:B8)(id kd:Int):Sr:=⟨id,kd,dC seed id,1,2,4294967296,200,⟨34359738368,268435456,274877906944,1073741824,137438953472,50,17179869184,3,300,5⟩⟩
def magS(seed:B8)(id kd:Int):Sr:=⟨id,kd,dC seed id,1,2,67108864,200,⟨268435456,1048576,1073741824,16777216,1073741824,50,2147483648,3,300,5⟩⟩
def dU(seed:B8)(id kd:Int):Sr:=if aidB kd=true then(if kd=3 then magS seed id kd else aidS seed id kd) else noS seed id kd
theorem rootB_len(seed:B8)(id:Int):(dC seed id).length=32:=by simp[dC]
theorem set_w{s:Sr}(h:s.rt.length=32)(v:Int):bP s.cells (0+34) [.int .i64 v]=Sr.cells { s with w:=v }:=by
 have e:∀v:Int,Sr.cells { s with w:=v }=(.int .i64 s.id:: .int .i64 s.kd::(bytes s.rt++[]))++([.int .i64 v]++[.int .i64 s.g,.int .i64 s.st,.int .i64 s.hz,.int .i64 s.wt.go,.int .i64 s.wt.gg,.int .i64 s.wt.gm,.int .i64 s.wt.sl,.int .i64 s.wt.mo,.int .i64 s.wt.sa,.int .i64 s.wt.ra,.int .i64 s.wt.ba,.int .i64 s.wt.ho,.int .i64 s.wt.pr]):=fun v=>by simp[Sr.cells,Sr.tl,Wt.cells]
 rw[show s.cells=Sr.cells { s with w:=s.w } from rfl,e,e];exact bI (by simp[h]) rfl
theorem set_g{s:Sr}(h:s.rt.length=32)(v:Int):bP s.cells (0+35) [.int .i64 v]=Sr.cells { s with g:=v }:=by
 have e:∀v:Int,Sr.cells { s with g:=v }=(.int .i64 s.id:: .int .i64 s.kd::(bytes s.rt++[.int .i64 s.w]))++([.int .i64 v]++[.int .i64 s.st,.int .i64 s.hz,.int .i64 s.wt.go,.int .i64 s.wt.gg,.int .i64 s.wt.gm,.int .i64 s.wt.sl,.int .i64 s.wt.mo,.int .i64 s.wt.sa,.int .i64 s.wt.ra,.int .i64 s.wt.ba,.int .i64 s.wt.ho,.int .i64 s.wt.pr]):=fun v=>by simp[Sr.cells,Sr.tl,Wt.cells]
 rw[show s.cells=Sr.cells { s with g:=s.g } from rfl,e,e];exact bI (by simp[h]) rfl
theorem set_st{s:Sr}(h:s.rt.length=32)(v:Int):bP s.cells (0+36) [.int .i64 v]=Sr.cells { s with st:=v }:=by
 have e:∀v:Int,Sr.cells { s with st:=v }=(.int .i64 s.id:: .int .i64 s.kd::(bytes s.rt++[.int .i64 s.w,.int .i64 s.g]))++([.int .i64 v]++[.int .i64 s.hz,.int .i64 s.wt.go,.int .i64 s.wt.gg,.int .i64 s.wt.gm,.int .i64 s.wt.sl,.int .i64 s.wt.mo,.int .i64 s.wt.sa,.int .i64 s.wt.ra,.int .i64 s.wt.ba,.int .i64 s.wt.ho,.int .i64 s.wt.pr]):=fun v=>by simp[Sr.cells,Sr.tl,Wt.cells]
 rw[show s.cells=Sr.cells { s with st:=s.st } from rfl,e,e];exact bI (by simp[h]) rfl
theorem set_hz{s:Sr}(h:s.rt.length=32)(v:Int):bP s.cells (0+37) [.int .i64 v]=Sr.cells { s with hz:=v }:=by
 have e:∀v:Int,Sr.cells { s with hz:=v }=(.int .i64 s.id:: .int .i64 s.kd::(bytes s.rt++[.int .i64 s.w,.int .i64 s.g,.int .i64 s.st]))++([.int .i64 v]++[.int .i64 s.wt.go,.int .i64 s.wt.gg,.int .i64 s.wt.gm,.int .i64 s.wt.sl,.int .i64 s.wt.mo,.int .i64 s.wt.sa,.int .i64 s.wt.ra,.int .i64 s.wt.ba,.int .i64 s.wt.ho,.int .i64 s.wt.pr]):=fun v=>by simp[Sr.cells,Sr.tl,Wt.cells]
 rw[show s.cells=Sr.cells { s with hz:=s.hz } from rfl,e,e];exact bI (by simp[h]) rfl
theorem set_wt{s:Sr}(h:s.rt.length=32)(x:Wt):bP s.cells (0+38) x.cells=Sr.cells { s with wt:=x }:=by
 have e:∀x:Wt,Sr.cells { s with wt:=x }=(.int .i64 s.id:: .int .i64 s.kd::(bytes s.rt++[.int .i64 s.w,.int .i64 s.g,.int .i64 s.st,.int .i64 s.hz]))++(x.cells++[]):=fun x=>by simp[Sr.cells,Sr.tl]
 rw[show s.cells=Sr.cells { s with wt:=s.wt } from rfl,e,e];exact bI (by simp[h]) rfl
theorem set_gate{s:Sr}(h:s.rt.length=32)(a b c:Int):bP s.cells (0+38+0) [.int .i64 a,.int .i64 b,.int .i64 c]=Sr.cells { s with wt:= { s.wt with go:=a,gg:=b,gm:=c } }:=by
 have e:∀a b c:Int,Sr.cells { s with wt:= { s.wt with go:=a,gg:=b,gm:=c } }=(.int .i64 s.id:: .int .i64 s.kd::(bytes s.rt++[.int .i64 s.w,.int .i64 s.g,.int .i64 s.st,.int .i64 s.hz]))++([.int .i64 a,.int .i64 b,.int .i64 c]++[.int .i64 s.wt.sl,.int .i64 s.wt.mo,.int .i64 s.wt.sa,.int .i64 s.wt.ra,.int .i64 s.wt.ba,.int .i64 s.wt.ho,.int .i64 s.wt.pr]):=fun a b c=>by simp[Sr.cells,Sr.tl,Wt.cells]
 rw[show s.cells=Sr.cells { s with wt:= { s.wt with go:=s.wt.go,gg:=s.wt.gg,gm:=s.wt.gm } } from rfl,e,e];exact bI (by simp[h]) rfl
theorem set_sl{s:Sr}(h:s.rt.length=32)(v:Int):bP s.cells (0+38+3) [.int .i64 v]=Sr.cells { s with wt:= { s.wt with sl:=v } }:=by
 have e:∀v:Int,Sr.cells { s with wt:= { s.wt with sl:=v } }=(.int .i64 s.id:: .int .i64 s.kd::(bytes s.rt++[.int .i64 s.w,.int .i64 s.g,.int .i64 s.st,.int .i64 s.hz,.int .i64 s.wt.go,.int .i64 s.wt.gg,.int .i64 s.wt.gm]))++([.int .i64 v]++[.int .i64 s.wt.mo,.int .i64 s.wt.sa,.int .i64 s.wt.ra,.int .i64 s.wt.ba,.int .i64 s.wt.ho,.int .i64 s.wt.pr]):=fun v=>by simp[Sr.cells,Sr.tl,Wt.cells]
 rw[show s.cells=Sr.cells { s with wt:= { s.wt with sl:=s.wt.sl } } from rfl,e,e];exact bI (by simp[h]) rfl
theorem set_mo{s:Sr}(h:s.rt.length=32)(v:Int):bP s.cells (0+38+4) [.int .i64 v]=Sr.cells { s with wt:= { s.wt with mo:=v } }:=by
 have e:∀v:Int,Sr.cells { s with wt:= { s.wt with mo:=v } }=(.int .i64 s.id:: .int .i64 s.kd::(bytes s.rt++[.int .i64 s.w,.int .i64 s.g,.int .i64 s.st,.int .i64 s.hz,.int .i64 s.wt.go,.int .i64 s.wt.gg,.int .i64 s.wt.gm,.int .i64 s.wt.sl]))++([.int .i64 v]++[.int .i64 s.wt.sa,.int .i64 s.wt.ra,.int .i64 s.wt.ba,.int .i64 s.wt.ho,.int .i64 s.wt.pr]):=fun v=>by simp[Sr.cells,Sr.tl,Wt.cells]
 rw[show s.cells=Sr.cells { s with wt:= { s.wt with mo:=s.wt.mo } } from rfl,e,e];exact bI (by simp[h]) rfl
theorem set_ra{s:Sr}(h:s.rt.length=32)(v:Int):bP s.cells (0+38+6) [.int .i64 v]=Sr.cells { s with wt:= { s.wt with ra:=v } }:=by
 have e:∀v:Int,Sr.cells { s with wt:= { s.wt with ra:=v } }=(.int .i64 s.id:: .int .i64 s.kd::(bytes s.rt++[.int .i64 s.w,.int .i64 s.g,.int .i64 s.st,.int .i64 s.hz,.int .i64 s.wt.go,.int .i64 s.wt.gg,.int .i64 s.wt.gm,.int .i64 s.wt.sl,.int .i64 s.wt.mo,.int .i64 s.wt.sa]))++([.int .i64 v]++[.int .i64 s.wt.ba,.int .i64 s.wt.ho,.int .i64 s.wt.pr]):=fun v=>by simp[Sr.cells,Sr.tl,Wt.cells]
 rw[show s.cells=Sr.cells { s with wt:= { s.wt with ra:=s.wt.ra } } from rfl,e,e];exact bI (by simp[h]) rfl
theorem plain_any(seed:B8)(id kd:Int):Spc Tryz.prog 56 #[U8 seed,.int .i64 id,.int .i64 kd] [] [] (Is (.agg (dU seed id kd).cells.toArray)):=by
 have hr:=rootB_len seed id;have hlen:∀s:Sr,s.rt=dC seed id→s.cells.length=48:=fun s h=>c7 (by rw[h];exact hr);refine Spc.enter Tryz.func56 (h:=?_);refine fun w0 hw0=>?_;refine go 11 ?_;intro b1;refine bQ (ho:=rfl) (h:=?_);refine bi (bytes (dC seed id)) (ho:=rfl) (h:=?_);refine ay (noS seed id kd).cells (ho:=rfl) (h:=go 1 ?_);intro b2;refine an (ho:=rfl) (h1:=cw _) (h:=?_);refine go 5 ?_;refine aT KA167.h KS167.h rfl rfl rfl rfl mQ rfl ?_;refine ab (aid_any (noS seed id kd)) (h:=?_);refine go 3 ?_;refine CW.cond rfl (fun h1=>?_) (fun h1=>?_)
 ·refine go 2 ?_;refine aT (ho:=rfl) (hl:=hlen _ rfl) (h:=?_);refine an (ho:=rfl) (h1:=cw _) (hv:=hlen _ rfl) (h:=?_);refine go 4 ?_;have h1':aidB kd=false:=by simpa[noS] using h1
  exact RQ.post (cU rfl rfl KA167.h KS167.h mQ (hlen _ rfl)) (aa _) ⟨by rw[dU,h1',if_neg (by decide)],rfl,rfl⟩
 ·refine go 5 ?_;refine aj (vs:=[_]) (show bP (Sr.cells ⟨id,kd,dC seed id,0,0,0,0,⟨0,0,0,0,0,0,0,0,0,0⟩⟩) (0+34) [.int .i64 1]=Sr.cells ⟨id,kd,dC seed id,1,0,0,0,⟨0,0,0,0,0,0,0,0,0,0⟩⟩ from set_w hr _) KS3.h rfl rfl rfl rfl rfl rfl rfl rfl uE (by rw[hlen _ rfl];decide) ?_;refine go 1 ?_;refine aj (vs:=[_]) (show bP (Sr.cells ⟨id,kd,dC seed id,1,0,0,0,⟨0,0,0,0,0,0,0,0,0,0⟩⟩) (0+35) [.int .i64 2]=Sr.cells ⟨id,kd,dC seed id,1,2,0,0,⟨0,0,0,0,0,0,0,0,0,0⟩⟩ from set_g hr _) KS3.h rfl rfl rfl rfl rfl rfl rfl rfl uE (by rw[hlen _ rfl];decide) ?_;refine go 1 ?_;refine aj (vs:=[_]) (show bP (Sr.cells ⟨id,kd,dC seed id,1,2,0,0,⟨0,0,0,0,0,0,0,0,0,0⟩⟩) (0+36) [.int .i64 4294967296]=Sr.cells ⟨id,kd,dC seed id,1,2,4294967296,0,⟨0,0,0,0,0,0,0,0,0,0⟩⟩ from set_st hr _) KS25.h rfl rfl rfl rfl rfl rfl rfl rfl uE (by rw[hlen _ rfl];decide) ?_;refine go 1 ?_;refine aj (vs:=[_]) (show bP (Sr.cells ⟨id,kd,dC seed id,1,2,4294967296,0,⟨0,0,0,0,0,0,0,0,0,0⟩⟩) (0+37) [.int .i64 200]=Sr.cells ⟨id,kd,dC seed id,1,2,4294967296,200,⟨0,0,0,0,0,0,0,0,0,0⟩⟩ from set_hz hr _) KS3.h rfl rfl rfl rfl rfl rfl rfl rfl uE (by rw[hlen _ rfl];decide) ?_;refine go 7 ?_;refine aj (vs:=Wt.cells ⟨34359738368,268435456,274877906944,1073741824,137438953472,50,17179869184,3,300,5⟩) (show bP (Sr.cells ⟨id,kd,dC seed id,1,2,4294967296,200,⟨0,0,0,0,0,0,0,0,0,0⟩⟩) (0+38) (Wt.cells ⟨34359738368,268435456,274877906944,1073741824,137438953472,50,17179869184,3,300,5⟩)=Sr.cells ⟨id,kd,dC seed id,1,2,4294967296,200,⟨34359738368,268435456,274877906944,1073741824,137438953472,50,17179869184,3,300,5⟩⟩ from set_wt hr _) KS165.h rfl rfl rfl rfl rfl rfl rfl rfl uE (by rw[hlen _ rfl];decide) ?_;refine go 9 ?_;have h1':aidB kd=true:=by simpa[noS] using h1
  refine CW.cond rfl (fun h2=>?_) (fun h2=>?_)
  ·refine go 3 ?_;refine aj (vs:=[_]) (show bP (Sr.cells ⟨id,kd,dC seed id,1,2,4294967296,200,⟨34359738368,268435456,274877906944,1073741824,137438953472,50,17179869184,3,300,5⟩⟩) (0+36) [.int .i64 67108864]=Sr.cells ⟨id,kd,dC seed id,1,2,67108864,200,⟨34359738368,268435456,274877906944,1073741824,137438953472,50,17179869184,3,300,5⟩⟩ from set_st hr _) KS25.h rfl rfl rfl rfl rfl rfl rfl rfl uE (by rw[hlen _ rfl];decide) ?_;refine go 7 ?_;refine aj (vs:=[_,_,_]) (show bP (Sr.cells ⟨id,kd,dC seed id,1,2,67108864,200,⟨34359738368,268435456,274877906944,1073741824,137438953472,50,17179869184,3,300,5⟩⟩) (0+38+0) [.int .i64 268435456,.int .i64 1048576,.int .i64 1073741824]=Sr.cells ⟨id,kd,dC seed id,1,2,67108864,200,⟨268435456,1048576,1073741824,1073741824,137438953472,50,17179869184,3,300,5⟩⟩ from set_gate hr _ _ _) KS163.h rfl rfl rfl rfl rfl rfl rfl rfl uE (by rw[hlen _ rfl];decide) ?_;refine go 5 ?_;refine aj (vs:=[_]) (show bP (Sr.cells ⟨id,kd,dC seed id,1,2,67108864,200,⟨268435456,1048576,1073741824,1073741824,137438953472,50,17179869184,3,300,5⟩⟩) (0+38+3) [.int .i64 16777216]=Sr.cells ⟨id,kd,dC seed id,1,2,67108864,200,⟨268435456,1048576,1073741824,16777216,137438953472,50,17179869184,3,300,5⟩⟩ from set_sl hr _) KS25.h rfl rfl rfl rfl rfl rfl rfl rfl uE (by rw[hlen _ rfl];decide) ?_;refine go 2 ?_;refine aj (vs:=[_]) (show bP (Sr.cells ⟨id,kd,dC seed id,1,2,67108864,200,⟨268435456,1048576,1073741824,16777216,137438953472,50,17179869184,3,300,5⟩⟩) (0+38+4) [.int .i64 1073741824]=Sr.cells ⟨id,kd,dC seed id,1,2,67108864,200,⟨268435456,1048576,1073741824,16777216,1073741824,50,17179869184,3,300,5⟩⟩ from set_mo hr _) KS25.h rfl rfl rfl rfl rfl rfl rfl rfl uE (by rw[hlen _ rfl];decide) ?_;refine go 2 ?_;refine aj (vs:=[_]) (show bP (Sr.cells ⟨id,kd,dC seed id,1,2,67108864,200,⟨268435456,1048576,1073741824,16777216,1073741824,50,17179869184,3,300,5⟩⟩) (0+38+6) [.int .i64 2147483648]=Sr.cells ⟨id,kd,dC seed id,1,2,67108864,200,⟨268435456,1048576,1073741824,16777216,1073741824,50,2147483648,3,300,5⟩⟩ from set_ra hr _) KS25.h rfl rfl rfl rfl rfl rfl rfl rfl uE (by rw[hlen _ rfl];decide) ?_;refine go 4 ?_;refine aT (ho:=rfl) (hl:=hlen _ rfl) (h:=?_);refine an (ho:=rfl) (h1:=cw _) (hv:=hlen _ rfl) (h:=?_);refine go 3 ?_;have h2:kd=3:=by simpa using h2
   exact RQ.post (cU rfl rfl KA167.h KS167.h mQ (hlen _ rfl)) (aa _) ⟨by rw[dU,if_pos h1',if_pos h2];rfl,rfl,rfl⟩
  ·refine go 4 ?_;refine aT (ho:=rfl) (hl:=hlen _ rfl) (h:=?_);refine an (ho:=rfl) (h1:=cw _) (hv:=hlen _ rfl) (h:=?_);refine go 3 ?_;have h2:kd≠3:=by simpa using h2
   exact RQ.post (cU rfl rfl KA167.h KS167.h mQ (hlen _ rfl)) (aa _) ⟨by rw[dU,if_pos h1',if_neg h2];rfl,rfl,rfl⟩
def kindL:List Int:=[1,2,3,4,5,8]
def kindN(i:Nat):Int:=kindL.getD i 0
def cK(seed:B8)(gone:List Int)(i:Nat):List Sr:=((List.range i).filter fun j:Nat=>!gone.contains (j:Int)).map fun j:Nat=>dU seed (j:Int) (kindN j)
def aZ(seed:B8)(gone:List Int):Cf:=⟨0,0,42949672960,4194304,⟨0,100,2,20⟩,List.replicate 32 0,5,500,100,64,cK seed gone 6⟩
theorem plainL_yes{seed:B8}{gone:List Int}{i:Nat}(h:gone.contains (i:Int)=true):cK seed gone (i+1)=cK seed gone i:=by
 have h':(i:Int)∈gone:=by simpa using h
 simp[cK,List.range_succ,List.filter_append,h']
theorem plainL_no{seed:B8}{gone:List Int}{i:Nat}(h:gone.contains (i:Int)=false):cK seed gone (i+1)=cK seed gone i++[dU seed (i:Int) (kindN i)]:=by
 have h': ¬(i:Int)∈gone:=by simpa using h
 simp[cK,List.range_succ,List.filter_append,h']
theorem plainL_len(seed:B8)(gone:List Int)(i:Nat):(cK seed gone i).length≤i:=by rw[cK,List.length_map];exact Nat.le_trans (List.length_filter_le _ _) (by simp)
theorem plainS_rt(seed:B8)(id kd:Int):(dU seed id kd).rt=dC seed id:=by
 unfold dU;split
 ·split<;>rfl
 ·rfl
theorem plainS_len(seed:B8)(id kd:Int):(dU seed id kd).cells.length=48:=c7 (by rw[plainS_rt];exact rootB_len _ _)
def idxI(n:Int)(l:List Int):Int:=match l.findIdx? (fun x=>n==x) with
 | some i=>(i:Int)
 | none=> -1
theorem idxI_no{n:Int}{l:List Int}(h:∀j<l.length,∀x,l[j]?=some x→(n==x)=false):idxI n l= -1:=by rw[idxI,List.findIdx?_eq_none_iff.2 (fun x hx=>by obtain⟨j,hj,rfl⟩:=List.mem_iff_getElem.1 hx;exact h j hj _ (List.getElem?_eq_getElem hj))]
theorem idxI_yes{n:Int}{l:List Int}{i:Nat}{x:Int}(hx:l[i]?=some x)(hp:(n==x)=true)(h:∀j<i,∀x,l[j]?=some x→(n==x)=false):idxI n l=i:=by obtain⟨hlt,rfl⟩:=List.getElem?_eq_some_iff.1 hx;rw[idxI,List.findIdx?_eq_some_iff_getElem.2 ⟨hlt,hp,fun j hj=>by have:=h j hj _ (List.getElem?_eq_getElem (by omega));rw[this];decide⟩]
theorem idxI_has(n:Int)(l:List Int):decide (idxI n l≥0)=l.contains n:=by
 rw[Bool.eq_iff_iff,decide_eq_true_iff,List.contains_iff_mem,idxI]
 cases h:l.findIdx? (fun x=>n==x) with
 | none=>
  have:=List.findIdx?_eq_none_iff.1 h;simp only;constructor
  ·intro h;omega
  ·intro hm;have:=this n hm;simp at this
 | some i=>
  obtain⟨hlt,hp,-⟩:=List.findIdx?_eq_some_iff_getElem.1 h;simp only;refine⟨fun _=>?_,fun _=>by omega⟩;have:n=l[i]:=by simpa using hp
  rw[this];exact List.getElem_mem _
theorem index_int(p:Option Addr)(c m:Nat)(l:List Int)(n:Int)(hm:l.length=m)(hb:m≤1000000):Spc Tryz.prog 104 #[.slice p m c,.int .i64 n] [sls p 1 m (bO l)] [] (Is (.int .i64 (idxI n l))):=by
 subst hm;refine Spc.enter Tryz.func104 (h:=?_);refine fun w0 hw0=>?_;refine go 14 ?_;refine aW (fun J hJ=>?_);have m2:sls p 1 l.length (bO l)∈J:=hJ _ (by simp);clear hJ;refine CW.loop (γ:=Nat) (fun i=>i≤l.length∧(∀j<i,∀x,l[j]?=some x→(n==x)=false)) (fun i=>[(0,.slice p l.length c),(1,.int .i64 n),(7,.int .i64 (l.length:Int)),(8,.int .i64 (i:Int))]) (fun _=>J) (fun _=>[]) (fun i=>l.length-i) 0 ⟨Nat.zero_le _,fun j h=>by omega⟩ (.cons rfl (.cons rfl (.cons rfl (.cons rfl .nil)))) wE ?_;rintro i ⟨hi,hok⟩;refine aR (p:=p=none→l.length=0) (fun w hC e=>bf (hC.s.i _ m2) e) (fun hpa=>?_);refine go 6 ?_;refine CW.cond rfl (fun hlt=>?_) (fun hlt=>?_)
 ·have hlt:i<l.length:=by simp at hlt;omega
  cases p with
  | none=>exact absurd (hpa rfl) (by omega)
  | some a=>
  have hx:=List.getElem?_eq_getElem hlt;generalize l[i]=x at hx;have f1:=RdI.sls m2 hx;refine go 15 ?_;first|refine aP (j:=i) KU87.h KS3.h rfl rfl rfl rfl rfl rfl (hlt) ?_|refine aS (j:=i) KU87.h KS3.h rfl rfl rfl rfl rfl rfl (hlt) ?_
  refine go 4 ?_;refine CW.cond rfl (fun hp=>?_) (fun hp=>?_)
  ·refine go 12 ?_;exact RQ.post (az rfl rfl) (aa _) ⟨by rw[idxI_yes hx hp hok],rfl,rfl⟩
  ·refine go 4 ?_;refine ap rfl (ad (by omega) (by omega)) ?_;refine go 2 ?_;refine NQ.round (g:=i) (i+1) ⟨hlt,fun j hj y hy=>?_⟩ (by show l.length-(i+1)<l.length-i;omega) (.cons rfl (.cons rfl (.cons rfl (.cons rfl .nil)))) wE;rcases Nat.lt_succ_iff_lt_or_eq.1 hj with hj|rfl
   ·exact hok j hj y hy
   ·rw[hx] at hy;cases hy;exact hp
 ·refine go 11 ?_;have hin:i=l.length:=by simp at hlt;omega
  subst hin;exact RQ.post (az rfl rfl) (aa _) ⟨by rw[idxI_no hok],rfl,rfl⟩
theorem cont_int(p:Option Addr)(c m:Nat)(l:List Int)(n:Int)(hm:l.length=m)(hb:m≤1000000):Spc Tryz.prog 55 #[.slice p m c,.int .i64 n] [sls p 1 m (bO l)] [] (Is (.bool (l.contains n))):=by refine Spc.enter Tryz.func55 (h:=?_);refine fun w0 hw0=>?_;refine go 9 ?_;refine ab (index_int p c m l n hm hb) (h:=?_);refine go 5 ?_;exact RQ.post (az rfl rfl) (aa _) ⟨by rw[←idxI_has],rfl,rfl⟩
theorem ji(seed:B8)(p:Option Addr)(c m:Nat)(gone:List Int)(hm:gone.length=m)(hb:m≤1000000):Spc Tryz.prog 22 #[U8 seed,.slice p m c] [sls p 1 m (bO gone)] [] (CfR 167 (aZ seed gone)):=by
 subst hm;have hcm:(aZ seed gone).cm.length=32:=rfl;have hl45:=fun sl=>cj hcm sl;refine Spc.enter Tryz.func22 (h:=?_);refine fun w0 hw0=>?_;refine go 7 ?_;intro b1;refine bi [_,_,_] (ho:=rfl) (h:=go 1 ?_);refine ay ((aZ seed gone).cells (.slice none 0 0)) (ho:=rfl) (h:=go 1 ?_);intro b2;refine an (ho:=rfl) (h1:=ed _ rfl) (hv:=hl45 _) (h:=?_);refine go 5 ?_;refine RL.buildSlice [_,_,_,_,_,_] (ho:=rfl) (h:=?_);intro b3;refine go 5 ?_;refine aB (A:=[cel b3 [.int .i64 1,.int .i64 2,.int .i64 3,.int .i64 4,.int .i64 5,.int .i64 8] 3]) (B:=[cel b2 ((aZ seed gone).cells (.slice none 0 0)) 34,cel b1 (zeroC.cells (.slice none 0 0)) 34]) (h:=?_);refine aW (fun J hJ=>?_);have m2:sls p 1 gone.length (bO gone)∈J:=hJ _ (List.Mem.tail _ (List.Mem.head _));have m3:cel b3 [.int .i64 1,.int .i64 2,.int .i64 3,.int .i64 4,.int .i64 5,.int .i64 8] 3∈J:=hJ _ (List.Mem.head _);clear hJ;refine cZ (e:=167) 48 ?_;refine CW.loop (γ:=Nat×Option Nat×Nat×Nat) (fun g=>g.1≤6∧g.2.2.2=(cK seed gone g.1).length) (fun g=>[(0,U8 seed),(1,.slice p gone.length c),(4,.pointer (some ⟨b1,0,none⟩)),(5,.pointer (some ⟨b2,0,none⟩)),(11,.slice (some ⟨b3,0,none⟩) 6 6),(12,.int .i64 6),(13,.int .i64 (g.1:Int))]) (fun _=>J) (fun g=>[cel b2 ((aZ seed gone).cells (aE g.2.1 g.2.2.2 g.2.2.1)) 34,own g.2.1 g.2.2.1 167 48 g.2.2.2 ((cK seed gone g.1).flatMap Sr.cells),cel b1 (zeroC.cells (.slice none 0 0)) 34]) (fun g=>6-g.1) (0,none,0,0) ⟨Nat.zero_le _,rfl⟩ (.cons rfl (.cons rfl (.cons rfl (.cons rfl (.cons rfl (.cons rfl (.cons rfl .nil))))))) wE ?_;rintro⟨i,ob,cp,n⟩ ⟨hi,hn⟩;dsimp only at hi hn ⊢;have hnb:n≤6:=by rw[hn];exact Nat.le_trans (plainL_len _ _ _) hi
 refine go 6 ?_;refine CW.cond rfl (fun hlt=>?_) (fun hlt=>?_)
 ·have hlt:i<6:=by simp at hlt;omega
  have hsl:=plainS_len seed (i:Int) (kindN i)
  have hk:([.int .i64 1,.int .i64 2,.int .i64 3,.int .i64 4,.int .i64 5,.int .i64 8]:List Value)[0+i*1]?=some (.int .i64 (kindN i)):=by
   match i,hlt with
   | 0,_=>rfl
   | 1,_=>rfl
   | 2,_=>rfl
   | 3,_=>rfl
   | 4,_=>rfl
   | 5,_=>rfl
  have fK:RdI J ⟨b3,0+i*1,none⟩ (.int .i64 (kindN i)):=⟨fun _=>aD m3 hk⟩;refine go 7 ?_;first|refine aP (j:=i) KU87.h KS3.h rfl rfl rfl rfl rfl rfl (hlt) ?_|refine aS (j:=i) KU87.h KS3.h rfl rfl rfl rfl rfl rfl (hlt) ?_
  refine go 9 ?_;refine ar (cont_int p c _ gone (i:Int) rfl hb) (hl:=.inI m2 .nil) (h:=go 3 ?_);refine CW.cond rfl (fun hg=>?_) (fun hg=>?_)
  ·have hg':gone.contains (i:Int)=false:=by simpa using hg
   have hsn:=plainL_no (seed:=seed) hg';refine ae (Sq.of [0,1,2,3,4,5,6,7,8,9]) [6,7,9] [7,9] [0,2,3,4,5,8] (h:=?_);first|refine RL.fieldAddr KF34_0.h rfl rfl rfl rfl ?_|refine d4 KF34_0.h rfl rfl rfl rfl ?_
   refine RL.load (ho:=rfl) (hr:=Rd.cel mQ rfl) (h:=?_);refine go 3 ?_;refine cr (plain_any seed (i:Int) (kindN i)) (h:=?_);refine RL.buildSlice (dU seed (i:Int) (kindN i)).cells (ho:=rfl) (hf:=fill_one48 hsl rfl) (h:=?_);intro b4;refine cd KE24.h rfl rfl rfl rfl rfl rfl rfl (by first|exact⟨(.take (ai _)),rfl⟩|exact⟨(.leave (.take (ai _))),rfl⟩|exact⟨(.leave (.leave (.take (ai _)))),rfl⟩|exact⟨(.leave (.leave (.leave (.take (ai _))))),rfl⟩|exact⟨(.leave (.leave (.leave (.leave (.take (ai _)))))),rfl⟩|exact⟨(.leave (.leave (.leave (.leave (.leave (.take (ai _))))))),rfl⟩|exact⟨(.leave (.leave (.leave (.leave (.leave (.leave (.take (ai _)))))))),rfl⟩|exact⟨(.leave (.leave (.leave (.leave (.leave (.leave (.leave (.take (ai _))))))))),rfl⟩|exact⟨(.leave (.leave (.leave (.leave (.leave (.leave (.leave (.leave (.take (ai _)))))))))),rfl⟩|exact⟨(.leave (.leave (.leave (.leave (.leave (.leave (.leave (.leave (.leave (.take (ai _))))))))))),rfl⟩) (Src.cel (cs:=(dU seed (i:Int) (kindN i)).cells) mQ hsl) (dI (cw _)) (by first|omega|(simp only[maxLen];omega)) (by first|omega|(simp only[maxLen];omega)) ?_;intro ob1 cap1 ho1;first|refine RL.fieldAddr KF34_0.h rfl rfl rfl rfl ?_|refine d4 KF34_0.h rfl rfl rfl rfl ?_
   refine aj (vs:=[_]) cf_set (ho:=rfl) (hl:=by rw[hl45];show 0+0+1≤45;decide) (h:=?_);refine go 4 ?_;refine ap rfl (ad (by omega) (by omega)) ?_;refine go 2 ?_;refine NQ.round (g:=(i,ob,cp,n)) (i+1,ob1,cap1,n+1) ⟨hlt,by rw[hsn];simp[hn]⟩ (by show 6-(i+1)<6-i;omega) (.cons rfl (.cons rfl (.cons rfl (.cons rfl (.cons rfl (.cons rfl (.cons rfl .nil))))))) (fun w h=>h.rea (H':=[cel b2 ((aZ seed gone).cells (aE ob1 (n+1) cap1)) 34,own ob1 cap1 167 48 (n+1) ((cK seed gone (i+1)).flatMap Sr.cells),cel b1 (zeroC.cells (.slice none 0 0)) 34]) (fun _ h=>h) (by rw[hsn,List.flatMap_append,List.flatMap_cons,List.flatMap_nil,List.append_nil];exact rE))
  ·refine go 4 ?_;refine ap rfl (ad (by omega) (by omega)) ?_;refine go 2 ?_;have hg':gone.contains (i:Int)=true:=by simpa using hg
   have hsn:=plainL_yes (seed:=seed) hg';refine NQ.round (g:=(i,ob,cp,n)) (i+1,ob,cp,n) ⟨hlt,by rw[hsn,hn]⟩ (by show 6-(i+1)<6-i;omega) (.cons rfl (.cons rfl (.cons rfl (.cons rfl (.cons rfl (.cons rfl (.cons rfl .nil))))))) (fun w h=>by rw[hsn];exact h.rea (fun _ h=>h) rE)
 ·have hin:i=6:=by simp at hlt;omega
  subst hin;refine go 7 ?_;refine aT (ho:=rfl) (hl:=hl45 _) (h:=?_);refine an (ho:=rfl) (h1:=ed _ rfl) (hv:=hl45 _) (h:=?_);refine go 3 ?_;subst hn;refine RQ.rea (fun _ h=>h) (H':=[own ob cp 167 48 (aZ seed gone).L.length ((aZ seed gone).L.flatMap Sr.cells),cel b1 ((aZ seed gone).cells (aE ob (aZ seed gone).L.length cp)) 34]) rE ?_;exact RQ.post (cU rfl rfl KA34.h KS34.h mQ (hl45 _)) (.keep (aa _)) ⟨ob,cp,rfl,rfl,rfl⟩
def plZn:Zn:=⟨true,[(-4294967296000,-4294967296000),(4294967296000,-4294967296000),(4294967296000,4294967296000),(-4294967296000,4294967296000)],-4294967296000,4294967296000⟩
def GPlR(seed:B8):Value→List It→List It→Prop:=fun v I' H'=>I'=[]∧∃ob cap zb zs,v=.agg (gV ((aZ seed []).cells (aE ob (aZ seed []).L.length cap)) (aE (some zs) 1 1) (iM 20 1000 3 64)).toArray∧H'=[own ob cap 167 48 (aZ seed []).L.length ((aZ seed []).L.flatMap Sr.cells),own (some zs) 1 85 4 1 (znO (plZn,some zb,4)),own (some zb) 4 82 2 4 (plZn.L.flatMap Pt.cells)]
theorem Lend.none0{I F J:List It}(h:Lend I F J):Lend I F (PK.sls none 1 0 []::J):=Lend.of (fun w hw=>⟨rfl,rfl⟩) (fun b hb=>by cases hb) h
theorem pl_fill{Cc:List Value}(h:Cc.length=45)(sl:Value)(hs:sl.cells.toList=[sl]){places:Array (Nat×Nat)}(hp:places= #[(0,45),(45,1),(46,1),(47,1),(48,1),(49,1)])(de ra mo sz:Int):bX (places[·]?) zpl [(0,.agg Cc.toArray),(1,sl),(2,.int .i64 de),(3,.int .i64 ra),(4,.int .i64 mo),(5,.int .i64 sz)]=some (gV Cc sl (iM de ra mo sz)):=by subst hp;have hz:(zcf.cells (.slice none 0 0)).length=45:=rfl;refine aK (vs:=Cc) [] (zcf.cells (.slice none 0 0)) ([.slice none 0 0]++iM 0 0 0 0) rfl (cq _) rfl rfl hz h ?_;refine aK (vs:=[sl]) Cc [.slice none 0 0] (iM 0 0 0 0) rfl hs rfl h rfl rfl ?_;refine aK (vs:=[.int .i64 de]) (Cc++[sl]) [.int .i64 0] [.int .i64 0,.int .i64 0,.int .i64 0] rfl rfl (by simp[iM]) (by simp[h]) rfl rfl ?_;refine aK (vs:=[.int .i64 ra]) (Cc++[sl,.int .i64 de]) [.int .i64 0] [.int .i64 0,.int .i64 0] rfl rfl (by simp) (by simp[h]) rfl rfl ?_;refine aK (vs:=[.int .i64 mo]) (Cc++[sl,.int .i64 de,.int .i64 ra]) [.int .i64 0] [.int .i64 0] rfl rfl (by simp) (by simp[h]) rfl rfl ?_;refine aK (vs:=[.int .i64 sz]) (Cc++[sl,.int .i64 de,.int .i64 ra,.int .i64 mo]) [.int .i64 0] [] rfl rfl (by simp) (by simp[h]) rfl rfl ?_;simp[bX,gV,iM]
theorem gplain_any(seed:B8):Spc Tryz.prog 5 #[U8 seed] [] [] (GPlR seed):=by
 have hcl:=fun sl zl de ra mo sz=>eP (Cc:=(aZ seed []).cells sl) (cj rfl sl) zl de ra mo sz;refine Spc.enter Tryz.func5 (h:=?_);refine fun w0 hw0=>?_;refine go 7 ?_;intro b1;refine bi [_,_] (ho:=rfl) (h:=?_);refine bi [_,_] (ho:=rfl) (h:=?_);refine bi [_,_] (ho:=rfl) (h:=?_);refine bi [_,_] (ho:=rfl) (h:=?_);refine ao [_,_,_,_,_,_,_,_] (ho:=rfl) (h:=?_);intro b2;refine go 6 ?_;intro b3;refine ae (.cons 0 (.fork [1,2] (fun k=>(bif Nat.beq k 1 then(Sq.of [2,3,4,5]) else(.fork [1,3] (fun k=>(bif Nat.beq k 1 then(Sq.of [3,4,5]) else(Sq.of [1,4,5])))))))) [1,3,5] [1,5] [0,4] (h:=?_);refine go 1 ?_;refine RL.fork ⟨?_,?_,trivial⟩
 ·refine RL.call (ji seed none 0 0 [] rfl (by decide)) (hl:=Lend.none0 .nil) (hb:=.inr rfl) (h:=?_);rintro _ _ _ ⟨ob,cap,rfl,rfl,rfl⟩;refine go 1 ?_;refine ao [_,_,_,_] (ho:=rfl) (h:=?_);intro b4;refine ay (gV ((aZ seed []).cells (aE ob (aZ seed []).L.length cap)) (.slice (some ⟨b4,0,none⟩) 1 1) (iM 20 1000 3 64)) (ho:=rfl) (hf:=pl_fill (cj rfl _) _ rfl rfl _ _ _ _) (h:=?_);refine an KS37.h rfl rfl rfl rfl rfl rfl rfl (iI (ed _ (by cases ob<;>rfl)) (some b4) 1 1 _ _ _ _) uE (hcl _ _ _ _ _ _) rfl ?_;refine go 3 ?_;exact RQ.rea (fun _ h=>h) (H':=[cel b1 (gV ((aZ seed []).cells (aE ob (aZ seed []).L.length cap)) (aE (some b4) 1 1) (iM 20 1000 3 64)) 37,own ob cap 167 48 (aZ seed []).L.length ((aZ seed []).L.flatMap Sr.cells),own (some b4) 1 85 4 1 (znO (plZn,some b2,4)),own (some b2) 4 82 2 4 (plZn.L.flatMap Pt.cells)]) rE (RQ.post (cU rfl rfl KA37.h KS37.h mQ (hcl _ _ _ _ _ _)) (.drop (.keep (.keep (.keep .nil)))) ⟨rfl,ob,cap,b2,b4,rfl,rfl⟩)
 ·refine go 1 ?_;refine RL.fork ⟨?_,?_,trivial⟩
  ·refine RL.call (ji seed none 0 0 [] rfl (by decide)) (hl:=Lend.none0 .nil) (hb:=.inr rfl) (h:=?_);rintro _ _ _ ⟨ob,cap,rfl,rfl,rfl⟩;refine ao [_,_,_,_] (ho:=rfl) (h:=?_);intro b4;refine ay (gV ((aZ seed []).cells (aE ob (aZ seed []).L.length cap)) (.slice (some ⟨b4,0,none⟩) 1 1) (iM 20 1000 3 64)) (ho:=rfl) (hf:=pl_fill (cj rfl _) _ rfl rfl _ _ _ _) (h:=?_);refine an KS37.h rfl rfl rfl rfl rfl rfl rfl (iI (ed _ (by cases ob<;>rfl)) (some b4) 1 1 _ _ _ _) uE (hcl _ _ _ _ _ _) rfl ?_;refine go 3 ?_;exact RQ.rea (fun _ h=>h) (H':=[cel b1 (gV ((aZ seed []).cells (aE ob (aZ seed []).L.length cap)) (aE (some b4) 1 1) (iM 20 1000 3 64)) 37,own ob cap 167 48 (aZ seed []).L.length ((aZ seed []).L.flatMap Sr.cells),own (some b4) 1 85 4 1 (znO (plZn,some b2,4)),own (some b2) 4 82 2 4 (plZn.L.flatMap Pt.cells)]) rE (RQ.post (cU rfl rfl KA37.h KS37.h mQ (hcl _ _ _ _ _ _)) (.drop (.keep (.keep (.keep .nil)))) ⟨rfl,ob,cap,b2,b4,rfl,rfl⟩)
  ·refine ao [_,_,_,_] (ho:=rfl) (h:=?_);intro b4;refine RL.call (ji seed none 0 0 [] rfl (by decide)) (hl:=Lend.none0 .nil) (hb:=.inr rfl) (h:=?_);rintro _ _ _ ⟨ob,cap,rfl,rfl,rfl⟩;refine ay (gV ((aZ seed []).cells (aE ob (aZ seed []).L.length cap)) (.slice (some ⟨b4,0,none⟩) 1 1) (iM 20 1000 3 64)) (ho:=rfl) (hf:=pl_fill (cj rfl _) _ rfl rfl _ _ _ _) (h:=?_);refine an KS37.h rfl rfl rfl rfl rfl rfl rfl (iI (ed _ (by cases ob<;>rfl)) (some b4) 1 1 _ _ _ _) uE (hcl _ _ _ _ _ _) rfl ?_;refine go 3 ?_;exact RQ.rea (fun _ h=>h) (H':=[cel b1 (gV ((aZ seed []).cells (aE ob (aZ seed []).L.length cap)) (aE (some b4) 1 1) (iM 20 1000 3 64)) 37,own ob cap 167 48 (aZ seed []).L.length ((aZ seed []).L.flatMap Sr.cells),own (some b4) 1 85 4 1 (znO (plZn,some b2,4)),own (some b2) 4 82 2 4 (plZn.L.flatMap Pt.cells)]) rE (RQ.post (cU rfl rfl KA37.h KS37.h mQ (hcl _ _ _ _ _ _)) (.drop (.keep (.keep (.keep .nil)))) ⟨rfl,ob,cap,b2,b4,rfl,rfl⟩)
def Fr.hd(f:Fr):Int×Int×Nat×Nat×List B8:=(f.kd,f.sr,f.ep,f.ct,f.tag)
def hdC(f:Fr):List Value:=.int .i64 f.kd:: .int .i64 f.sr:: .int .u32 (f.ep:Int):: .int .u64 (f.ct:Int)::bytes f.tag
abbrev hdV(f:Fr):Value:=.agg (hdC f).toArray
def hdG(v:Value):Prop:=∃cs,Fits (.int .i64:: .int .i64:: .int .u32:: .int .u64::List.replicate 16 (.int .u8)) cs∧v=.agg cs.toArray
structure Fr.Num(f:Fr):Prop where
 ok:f.Ok
 kd:gi .i64 f.kd
 sr:gi .i64 f.sr
structure SE where
 f:Fr
 ob:Option Nat
 cp:Nat
 l:List FrO
abbrev SE.v(e:SE):Value:=aE e.ob e.l.length e.cp
abbrev SE.it(e:SE):It:=own e.ob e.cp 55 1 e.l.length (e.l.map FrO.sl)
def encS(E:List SE):List (Value×Value):=E.map fun e=>(hdV e.f,e.v)
def atS(E:List SE)(f:Fr):Option SE:=E.find? fun e=>decide (f.hd=e.f.hd)
def bodS(E:List SE)(f:Fr):List FrO:=match atS E f with
 | some e=>e.l
 | none=>[]
structure SOk(E:List SE)(l:List FrO):Prop where
 b:∀f:Fr,bodS E f=l.filter fun x=>decide (f.hd=x.f.hd)
 g:∀e∈E,e.f.Num
theorem sok_nil:SOk [] []:=⟨fun _=>rfl,by simp⟩
theorem atS_mid{A B:List SE}{e:SE}{f:Fr}(ha:∀a∈A,f.hd≠a.f.hd)(he:f.hd=e.f.hd):atS (A++e::B) f=some e:=by rw[atS,List.find?_eq_some_iff_append];exact⟨by simpa using he,A,B,rfl,fun a h=>by simpa using ha a h⟩
theorem atS_off{A B:List SE}{e v:SE}{f:Fr}(hv:v.f=e.f)(he:f.hd≠e.f.hd):atS (A++v::B) f=atS (A++e::B) f:=by simp[atS,List.find?_append,hv,he]
theorem SOk.hit{A B:List SE}{e v:SE}{x:FrO}{l:List FrO}(h:SOk (A++e::B) l)(ha:∀a∈A,x.f.hd≠a.f.hd)(hx:x.f.hd=e.f.hd)(hv:v.f=e.f)(hl:v.l=e.l++[x]):SOk (A++v::B) (l++[x]) where
 b f:=by
  by_cases hf:f.hd=x.f.hd
  ·have h0:=h.b f
   rw[bodS,atS_mid (fun a h=>by rw[hf];exact ha a h) (by rw[hf,hx])] at h0
   rw[bodS,atS_mid (fun a h=>by rw[hf];exact ha a h) (by rw[hf,hx,hv]),List.filter_append,←h0]
   simp[hl,hf]
  ·have h0:=h.b f
   rw[bodS,atS_off hv (by rw[←hx];exact hf),←bodS,h0,List.filter_append]
   simp[hf]
 g y hy:=by
  rcases List.mem_append.1 hy with hy|hy
  ·exact h.g y (by simp[hy])
  ·rcases List.mem_cons.1 hy with rfl|hy
   ·rw[hv];exact h.g e (by simp)
   ·exact h.g y (by simp[hy])
theorem SOk.miss{E:List SE}{v:SE}{x:FrO}{l:List FrO}(h:SOk E l)(ha:atS E x.f=none)(hv:v.f=x.f)(hl:v.l=[x])(hn:x.f.Num):SOk (E++[v]) (l++[x]) where
 b f:=by
  have hno:∀e∈E,x.f.hd≠e.f.hd:=fun e he=>by simpa using List.find?_eq_none.1 ha e he
  have h0:=h.b f
  by_cases hf:f.hd=x.f.hd
  ·have hnn:atS E f=none:=List.find?_eq_none.2 (fun e he=>by simpa[hf] using hno e he)
   rw[bodS,hnn] at h0
   rw[bodS,atS_mid (fun a h=>by rw[hf];exact hno a h) (by rw[hf,hv]),List.filter_append,←h0]
   simp[hl,hf]
  ·have e1:atS (E++[v]) f=atS E f:=by simp[atS,List.find?_append,hv,hf]
   rw[bodS,e1,←bodS,h0,List.filter_append]
   simp[hf]
 g y hy:=by
  rcases List.mem_append.1 hy with hy|hy
  ·exact h.g y hy
  ·rw[List.mem_singleton.1 hy,hv];exact hn
theorem Lies.allI{x:It}{l:List It}(h:x∈l):Lies (PK.allI l) x:=⟨fun _ hA=>hA x h,fun b hb=>mem_bss.2 ⟨x,h,hb⟩⟩
theorem CW.openT{P:Program}{Q:Exit→Act→World→Prop}{N:Fm}{E:Env}{w0:World}{S:List Nat}{I H:List It}{cc:Code}{l:List It}(hm:PK.allI l∈I)(h:∀J,(∀x∈I,x∈J)→(∀x∈l,x∈J)→CW P cc Q N E w0 S J H):CW P cc Q N E w0 S I H:=fun a w ha hw=>
 h (l++I) (fun y hy=>List.mem_append_right _ hy) (fun y hy=>List.mem_append_left _ hy) a w ha ⟨hw.k,⟨fun x hx=>(List.mem_append.1 hx).elim (fun hx=>hw.s.i _ hm x hx) (hw.s.i x),hw.s.h,hw.s.nd,fun b hi hh=>hw.s.dj b (by
  rw[bss_app] at hi
  rcases List.mem_append.1 hi with hi|hi
  ·obtain⟨x,hx,hbx⟩:=mem_bss.1 hi
   exact mem_bss.2 ⟨_,hm,mem_bss.2 ⟨x,hx,hbx⟩⟩
  ·exact hi) hh⟩,hw.own⟩
def label:List B8:=[112#8,101#8,108#8,111#8,114#8,117#8,115#8,46#8,99#8,104#8,97#8,105#8,110#8]
def nextK(k:List B8):List B8:=i8 (label++k)
theorem iJ(k:List B8):(nextK k).length=32:=bA _
def cG(k:List B8):Nat→List B8
 | 0=>k
 | n+1=>nextK (cG k n)
theorem d6{k:List B8}(h:k.length=32):∀n,(cG k n).length=32
 | 0=>h
 | n+1=>iJ _
def cv(l:List (List B8)):List Value:=l.flatMap bytes
def bF(k:List B8)(n:Nat):List (List B8):=(List.range n).map (cG k)
theorem dB(k:List B8)(n:Nat):(bF k n).length=n:=by simp[bF]
theorem chainL_succ(k:List B8)(n:Nat):bF k (n+1)=bF k n++[cG k n]:=by simp[bF,List.range_succ]
theorem jj(k:List B8){n i:Nat}(h:i<n):(bF k n)[i]?=some (cG k i):=by simp[bF,h]
theorem jk{k:List B8}(h:k.length=32)(n:Nat):∀x∈bF k n,x.length=32:=by intro x hx;obtain⟨i,_,rfl⟩:=List.mem_map.1 hx;exact d6 h i
theorem flatK_get{l:List (List B8)}(h:∀x∈l,x.length=32){i:Nat}{x:List B8}(hi:l[i]?=some x):∀q u,(bytes x)[q]?=some u→(cv l)[i*32+q]?=some u:=by
 intro q u hq;have hlt:q<32:=by have:=(List.getElem?_eq_some_iff.1 hq).1;rwa[List.length_map,h x (List.mem_of_getElem? hi)] at this
 rw[cv,eL (n:=32) (fun a ha=>by rw[List.length_map];exact h a ha) hi hlt];exact hq
theorem fill_one{zs cs:List Value}{size:Nat}(hz:zs.length=size)(hc:cs.length=size):bX (fun j=>some (j*size,size)) (cT zs 1) [(0,.agg cs.toArray)]=some cs:=by simp only[bX,Value.cells,Nat.zero_mul,Nat.zero_add];rw[if_neg (by simp[cT,hz,hc])];rw[spl_all (by simp[cT,hz,hc])]
theorem key_ne(l1 l2:List B8)(h1:l1.length=32)(h2:l2.length=32)(x y:Operand)(w:World):(do eqGuard .neq 31 x y (.agg (bytes l1).toArray) (.agg (bytes l2).toArray);binOp .neq 31 (.agg (bytes l1).toArray) (.agg (bytes l2).toArray):Sem Value).run Tryz.prog w=.ok (.bool (!(l1==l2))) w:=
 neq_arr8 (e:=5) (by kernel_rfl) (ii:=Tryz.t5) (by kernel_rfl) (by kernel_rfl) KA5.h KU5.h (by kernel_rfl) l1 l2 h1 h2 w
theorem next_any(k:List B8)(hk:k.length=32):Spc Tryz.prog 178 #[.agg (bytes k).toArray] [] [] (Is (.agg (bytes (nextK k)).toArray)):=by
 have hj:∀p q,aM [⟨p,13,label⟩,⟨q,32,k⟩]=label++k:=fun p q=>by rw[jc]
 refine Spc.enter Tryz.func178 (h:=?_);refine fun w0 hw0=>?_;refine go 3 ?_;intro b1;refine RL.alloc (cs:=List.replicate 32 (U8 0#8)) (ho:=rfl) (h:=?_);intro b2;refine go 4 ?_;refine RL.buildSlice [_,_,_,_,_,_,_,_,_,_,_,_,_] (ho:=rfl) (h:=?_);intro b3;refine RL.stringish (e:=5) KU55.h KU5.h rfl rfl rfl rfl rfl rfl pE rfl ?_;refine go 1 ?_;refine RL.buildSlice [_,_] (ho:=rfl) (h:=?_);intro b4;refine ar (of_any (some ⟨b4,0,none⟩) 2 [⟨some ⟨b3,0,none⟩,13,label⟩,⟨some ⟨b1,0,none⟩,32,k⟩] (by simp) (by rw[hj];simp[hk,label])) Tryz.call219 rfl rfl rfl rfl (fz mQ rfl (by simp[hk,Part.v];rfl) (.inI (List.Mem.head _) (Lend.all mQ (by simp) .nil))) ?_;refine go 4 ?_;exact RQ.post (cU rfl rfl KA31.h KS31.h mQ (by simp[bA])) (aa _) ⟨by rw[hj];rfl,rfl,rfl⟩
structure Snd where
 s:Sr
 ep:Nat
 ct:Nat
 b:Nat
def Snd.cells(x:Snd):List Value:=x.s.cells++[.int .u32 (x.ep:Int),.int .u64 (x.ct:Int)]
abbrev sndI(x:Snd):It:=cel x.b x.cells 175
def cS(T:List Snd):List (Value×Value):=T.map fun x=>(.int .i64 x.s.id,.pointer (some ⟨x.b,0,none⟩))
def atT(T:List Snd)(n:Int):Option Snd:=T.find? fun x=>decide (n=x.s.id)
structure Crw where
 b:Nat
 lm:Nat
 sm:Nat
 c:Cf
 sp:Option Nat
 sc:Nat
 ko:Nat
 kc:Nat
 K:List (List B8)
 T:List Snd
 so:Option Nat
 soc:Nat
 l:List FrO
 E:List SE
def Crw.tl(z:Crw):List Value:=[aE (some z.ko) z.K.length z.kc,.map (some z.lm),aE z.so z.l.length z.soc,.map (some z.sm)]
def Crw.cells(z:Crw):List Value:=z.c.cells (aE z.sp z.c.L.length z.sc)++z.tl
abbrev crwC(z:Crw):It:=cel z.b z.cells 171
abbrev crwM(z:Crw):It:=aN z.lm aF (cS z.T)
abbrev crwS(z:Crw):It:=aN z.sm hdG (encS z.E)
abbrev crwL(z:Crw):It:=own z.so z.soc 151 21 z.l.length (z.l.flatMap FrO.cells)
abbrev crwR(z:Crw):It:=own z.sp z.sc 167 48 z.c.L.length (z.c.L.flatMap Sr.cells)
abbrev crwK(z:Crw):It:=own (some z.ko) z.kc 31 32 z.K.length (cv z.K)
abbrev crwT(z:Crw):It:=PK.allI (z.T.map sndI)
abbrev crwE(z:Crw):It:=PK.allI (z.E.map SE.it)
abbrev crwB(z:Crw):It:=PK.allI (z.l.map bodyO)
abbrev CrwL(z:Crw):List It:=[crwC z,crwM z,crwS z,crwL z,crwR z,crwK z,crwT z,crwE z,crwB z]
abbrev crwI(z:Crw):It:=PK.allI (CrwL z)
structure Crw.Ok(z:Crw):Prop where
 cm:z.c.cm.length=32
 L:∀s∈z.c.L,s.Fit∧0≤s.id∧s.id≤7
 n:z.c.L.length≤12
 K:∀k∈z.K,k.length=32
 K1:1≤z.K.length∧z.K.length≤513
 T:∀x∈z.T,x.s∈z.c.L∧x.ep<4294967296∧x.ct<18446744073709551616
 Tn:(z.T.map fun x=>x.s.id).Nodup
 l:∀x∈z.l,x.f.Fit
 ll:z.l.length≤1000
 E:SOk z.E z.l
theorem crw_t{z:Crw}(h:z.c.cm.length=32)(j:Nat):z.cells[0+45+j]?=z.tl[j]?:=by rw[Crw.cells,show 0+45+j=(z.c.cells (aE z.sp z.c.L.length z.sc)).length+j by rw[cj h],List.getElem?_append_right (by omega),Nat.add_sub_cancel_left]
theorem crw_m{z:Crw}(h:z.c.cm.length=32):z.cells[0+46]?=some (.map (some z.lm)):=crw_t h 1
theorem look_T(n:Int):∀T:List Snd,aO (.int .i64 n) (cS T)=(atT T n).map fun x=>.pointer (some ⟨x.b,0,none⟩)
 | []=>rfl
 | x::T=>by
  have ih:=look_T n T
  simp only[cS] at ih
  by_cases h:n=x.s.id
  ·simp[cS,aO,atT,h]
  ·simp only[cS,List.map_cons,aO,atT,List.find?_cons,h,decide_false,Value.int.injEq,and_false,if_false,ih]
section
variable {P:Program} {Q:Exit→Act→World→Prop} {N:Fm} {E:Env} {w0:World} {S:List Nat} {I H l m B:List It} {cc:Code} {x:It}
theorem Cls.pushA{w:World}(hp:m.Perm (x::l))(h:Cls w0 S I (x::PK.allI l::B) w):Cls w0 S I (PK.allI m::B) w:=
 ((h.perm (List.Perm.swap _ _ _)).unpack.perm (List.perm_middle.trans (hp.symm.append_right B))).pack
theorem RQ.pushA(hp:m.Perm (x::l))(h:RQ Q N E w0 S I (PK.allI m::B)):RQ Q N E w0 S I (x::PK.allI l::B):=fun a w ha hw=>h a w ha (Cls.pushA hp hw)
theorem RQ.crw{z:Crw}(hr:Rea H (CrwL z++B))(h:RQ Q N E w0 S I (crwI z::B)):RQ Q N E w0 S I H:=RQ.rea (fun _ h=>h) hr (RQ.pack h)
end
def Crw.put(z:Crw)(x:FrO)(so:Option Nat)(soc:Nat)(E:List SE):Crw:=⟨z.b,z.lm,z.sm,z.c,z.sp,z.sc,z.ko,z.kc,z.K,z.T,so,soc,z.l++[x],E⟩
theorem put_flat(l:List FrO)(x:FrO):l.flatMap FrO.cells++x.cells=(l++[x]).flatMap FrO.cells:=by simp
theorem iy{q:IntKind}{n:Int}(h:gi q n):EK.fit (.int q) (.int q n):=And.intro rfl h
theorem eg(b:B8):EK.fit (.int .u8) (U8 b):=show EK.fit (.int .u8) (.int .u8 b.toNat) from And.intro rfl (by have:=b.isLt;simp only[gi,Lit.wf,IntKind.min,IntKind.max,IntKind.signed,IntKind.bits,Bool.and_eq_true,decide_eq_true_eq,Bool.false_eq_true,if_false];omega)
def shapeR:List EK:=[.int .i64,.int .i32,.int .i32,.int .i32,.int .i32,.int .i32,.int .i32,.int .i64,.int .u32,.int .i32,.int .u32,.int .u32,.int .u8,.int .i64,.int .i64,.int .i64,.int .u8,.int .u8,.int .u8,.int .u8,.int .u8,.int .u8,.int .u8,.int .u8,.int .u8,.int .u8,.int .u8,.int .u8,.int .u8,.int .u8,.int .u8,.int .u8,.int .u8,.int .u8,.int .u8,.int .u8,.int .u8,.int .u8,.int .u8,.int .u8,.int .u8,.int .u8,.int .u8,.int .u8,.int .u8,.int .u8,.int .u8,.int .u8,.int .u64,.int .u8,.int .u32,.int .i64,.int .u32,.int .u8,.int .u8,.int .u16,.int .u64]
set_option maxRecDepth 10000
theorem shape_rdg:PK.shape Tryz.prog 4 54=some shapeR:=by kernel_rfl
theorem keyT_rdg:Tryz.prog.keyTypeAt 4 54=true:=by kernel_rfl
theorem wide_rdg:(match Tryz.prog.underlying 54 with|some (.array _ _)|some (.struct _)=>true|_=>false)=true:=by kernel_rfl
theorem cells_rdg:Tryz.prog.cellsOf 54=shapeR.length:=by kernel_rfl
theorem guard_rdg:Tryz.prog.eqGuardType Tryz.prog.depth 54=false:=by kernel_rfl
theorem Rdg.Ok.fits{r:Rdg}(h:r.Ok):Fits shapeR r.cells:=(Fits.cons (iy h.kind) (Fits.cons (iy h.g0) (Fits.cons (iy h.g1) (Fits.cons (iy h.g2) (Fits.cons (iy h.a0) (Fits.cons (iy h.a1) (Fits.cons (iy h.a2) (Fits.cons (iy h.height) (Fits.cons (iy h.heading) (Fits.cons (iy h.speed) (Fits.cons (iy h.steps) (Fits.cons (iy h.interval) (Fits.cons (eg _) (Fits.cons (iy h.p0) (Fits.cons (iy h.p1) (Fits.cons (iy h.p2) (Fits.cons (eg _) (Fits.cons (eg _) (Fits.cons (eg _) (Fits.cons (eg _) (Fits.cons (eg _) (Fits.cons (eg _) (Fits.cons (eg _) (Fits.cons (eg _) (Fits.cons (eg _) (Fits.cons (eg _) (Fits.cons (eg _) (Fits.cons (eg _) (Fits.cons (eg _) (Fits.cons (eg _) (Fits.cons (eg _) (Fits.cons (eg _) (Fits.cons (eg _) (Fits.cons (eg _) (Fits.cons (eg _) (Fits.cons (eg _) (Fits.cons (eg _) (Fits.cons (eg _) (Fits.cons (eg _) (Fits.cons (eg _) (Fits.cons (eg _) (Fits.cons (eg _) (Fits.cons (eg _) (Fits.cons (eg _) (Fits.cons (eg _) (Fits.cons (eg _) (Fits.cons (eg _) (Fits.cons (eg _) (Fits.cons (iy h.tick) (Fits.cons (eg _) (Fits.cons (iy h.epoch) (Fits.cons (iy h.bound) (Fits.cons (iy h.flags) (Fits.cons (eg _) (Fits.cons (eg _) (Fits.cons (iy h.fails) (Fits.cons (iy h.counter) trivial)))))))))))))))))))))))))))))))))))))))))))))))))))))))))
theorem neq_rdg{a b:Rdg}(ha:a.Ok)(hb:b.Ok){r:Bool}(hr:r=true↔a.cells=b.cells)(x y:Operand)(w:World):(do eqGuard .neq 54 x y (.agg a.cells.toArray) (.agg b.cells.toArray);binOp .neq 54 (.agg a.cells.toArray) (.agg b.cells.toArray):Sem Value).run Tryz.prog w=.ok (.bool (!r)) w:=
 neq_flat (by decide) keyT_rdg shape_rdg wide_rdg cells_rdg guard_rdg ha.fits hb.fits hr w
theorem gW(l:List B8)(o:Nat):gi .i32 (fp l o):=by simp only[gi,Lit.wf,fp,IntKind.wrap,IntKind.min,IntKind.max,IntKind.signed,IntKind.bits,Bool.and_eq_true,decide_eq_true_eq];simp;omega
theorem gh(l:List B8)(o:Nat):gi .i64 (i64at l o):=by simp only[gi,Lit.wf,i64at,IntKind.wrap,IntKind.min,IntKind.max,IntKind.signed,IntKind.bits,Bool.and_eq_true,decide_eq_true_eq];simp;omega
theorem wf_n4(l:List B8)(o:Nat):gi .u32 (iH l o 4:Int):=by have h:=nat_lt l o 4;simp only[gi,Lit.wf,IntKind.min,IntKind.max,IntKind.signed,IntKind.bits,Bool.and_eq_true,decide_eq_true_eq,Bool.false_eq_true,if_false];omega
theorem wf_n2(l:List B8)(o:Nat):gi .u16 (iH l o 2:Int):=by have h:=nat_lt l o 2;simp only[gi,Lit.wf,IntKind.min,IntKind.max,IntKind.signed,IntKind.bits,Bool.and_eq_true,decide_eq_true_eq,Bool.false_eq_true,if_false];omega
theorem wf_n8(l:List B8)(o:Nat):gi .u64 (iH l o 8:Int):=by have h:=nat_lt l o 8;simp only[gi,Lit.wf,IntKind.min,IntKind.max,IntKind.signed,IntKind.bits,Bool.and_eq_true,decide_eq_true_eq,Bool.false_eq_true,if_false];omega
theorem rz_ok{k:Int}(h:gi .i64 k):(rz k).Ok:=⟨h,rfl,rfl,rfl,rfl,rfl,rfl,rfl,rfl,rfl,rfl,rfl,rfl,rfl,rfl,rfl,rfl,rfl,rfl,rfl,rfl⟩
theorem getR_ok{k:Int}(hk:gi .i64 k)(l:List B8):(bH k l).Ok:=by
 unfold bH;by_cases h1:k=1
 ·rw[if_pos h1];exact⟨rfl,gW _ _,gW _ _,gW _ _,gW _ _,gW _ _,gW _ _,rfl,rfl,rfl,rfl,rfl,rfl,rfl,rfl,rfl,rfl,rfl,rfl,rfl,rfl⟩
 rw[if_neg h1];by_cases h2:k=2
 ·rw[if_pos h2];exact⟨rfl,rfl,rfl,rfl,rfl,rfl,rfl,gh _ _,rfl,rfl,rfl,rfl,rfl,rfl,rfl,rfl,rfl,rfl,rfl,rfl,rfl⟩
 rw[if_neg h2];by_cases h3:k=3
 ·rw[if_pos h3];exact⟨rfl,rfl,rfl,rfl,rfl,rfl,rfl,rfl,wf_n4 _ _,rfl,rfl,rfl,rfl,rfl,rfl,rfl,rfl,rfl,rfl,rfl,rfl⟩
 rw[if_neg h3];by_cases h4:k=4
 ·rw[if_pos h4];exact⟨rfl,rfl,rfl,rfl,rfl,rfl,rfl,rfl,rfl,gW _ _,wf_n4 _ _,rfl,rfl,rfl,rfl,rfl,rfl,rfl,rfl,rfl,rfl⟩
 rw[if_neg h4];by_cases h5:k=5
 ·rw[if_pos h5];exact⟨rfl,rfl,rfl,rfl,rfl,rfl,rfl,rfl,rfl,rfl,rfl,wf_n4 _ _,gh _ _,gh _ _,gh _ _,rfl,rfl,rfl,rfl,rfl,rfl⟩
 rw[if_neg h5];by_cases h6:k=6
 ·rw[if_pos h6];exact⟨rfl,rfl,rfl,rfl,rfl,rfl,rfl,rfl,rfl,rfl,rfl,wf_n4 _ _,rfl,rfl,rfl,rfl,rfl,rfl,rfl,rfl,rfl⟩
 rw[if_neg h6];by_cases h7:k=7
 ·rw[if_pos h7];exact⟨rfl,rfl,rfl,rfl,rfl,rfl,rfl,rfl,rfl,rfl,rfl,rfl,rfl,rfl,rfl,wf_n8 _ _,rfl,rfl,rfl,rfl,rfl⟩
 rw[if_neg h7];by_cases h8:k=8
 ·rw[if_pos h8];exact⟨rfl,rfl,rfl,rfl,rfl,rfl,rfl,rfl,rfl,rfl,rfl,rfl,rfl,rfl,rfl,rfl,rfl,rfl,rfl,rfl,rfl⟩
 rw[if_neg h8];by_cases h10:k=10
 ·rw[if_pos h10];exact⟨rfl,rfl,rfl,rfl,rfl,rfl,rfl,rfl,rfl,rfl,rfl,rfl,rfl,rfl,rfl,rfl,wf_n4 _ _,rfl,rfl,rfl,rfl⟩
 rw[if_neg h10];by_cases h12:k=12
 ·rw[if_pos h12];exact⟨rfl,rfl,rfl,rfl,rfl,rfl,rfl,rfl,rfl,rfl,rfl,rfl,rfl,rfl,rfl,rfl,rfl,rfl,rfl,rfl,rfl⟩
 rw[if_neg h12];by_cases h13:k=13
 ·rw[if_pos h13];exact⟨rfl,rfl,rfl,rfl,rfl,rfl,rfl,rfl,rfl,rfl,rfl,rfl,gh _ _,gh _ _,gh _ _,rfl,rfl,gh _ _,wf_n4 _ _,rfl,rfl⟩
 rw[if_neg h13];by_cases h14:k=14
 ·rw[if_pos h14];exact⟨rfl,rfl,rfl,rfl,rfl,rfl,rfl,rfl,rfl,rfl,rfl,rfl,rfl,rfl,rfl,rfl,wf_n4 _ _,rfl,rfl,wf_n2 _ _,wf_n8 _ _⟩
 rw[if_neg h14];exact rz_ok hk
def okP(r:Rdg):Prop:=∃x,bV r.kind (aX r)=some x∧x.cells=r.cells
open Classical in
noncomputable def eJ(r:Rdg):List B8:=if okP r then aX r else []
open Classical in
noncomputable def putE(r:Rdg):Int:=if okP r then 0 else 120
def PutR(r:Rdg):Value→List It→List It→Prop:=fun v I' H'=>∃ob cap,v=.tuple #[aE ob (eJ r).length cap,.int .i64 (putE r)]∧I'=[]∧H'=[own ob cap 5 1 (eJ r).length (bytes (eJ r))]
theorem put_yes{r:Rdg}(h:okP r):eJ r=aX r∧putE r=0:=⟨if_pos h,if_pos h⟩
theorem put_no{r:Rdg}(h: ¬okP r):eJ r=[]∧putE r=120:=⟨if_neg h,if_neg h⟩
theorem bodyR_len(r:Rdg):(aX r).length≤100:=by
 unfold aX;by_cases h1:r.kind=1
 ·rw[if_pos h1];simp[aw,aY,aQ,dA]
 rw[if_neg h1];by_cases h2:r.kind=2
 ·rw[if_pos h2];simp[aw,aY,aQ,dA]
 rw[if_neg h2];by_cases h3:r.kind=3
 ·rw[if_pos h3];simp[aw,aY,aQ,dA]
 rw[if_neg h3];by_cases h4:r.kind=4
 ·rw[if_pos h4];simp[aw,aY,aQ,dA]
 rw[if_neg h4];by_cases h5:r.kind=5
 ·rw[if_pos h5];simp[aw,aY,aQ,dA]
 rw[if_neg h5];by_cases h6:r.kind=6
 ·rw[if_pos h6];simp[aw,aY,aQ,dA]
 rw[if_neg h6];by_cases h7:r.kind=7
 ·rw[if_pos h7];simp[aw,aY,aQ,dA]
 rw[if_neg h7];by_cases h8:r.kind=8
 ·rw[if_pos h8];simp[aw,aY,aQ,dA]
 rw[if_neg h8];by_cases h10:r.kind=10
 ·rw[if_pos h10];simp[aw,aY,aQ,dA]
 rw[if_neg h10];by_cases h12:r.kind=12
 ·rw[if_pos h12];simp[aw,aY,aQ,dA]
 rw[if_neg h12];by_cases h13:r.kind=13
 ·rw[if_pos h13];simp[aw,aY,aQ,dA]
 rw[if_neg h13];by_cases h14:r.kind=14
 ·rw[if_pos h14];simp[aw,aY,aQ,dA]
 rw[if_neg h14];simp
theorem not_okP{r:Rdg}(h: ¬(1≤r.kind∧r.kind≤14)): ¬okP r:=by rintro⟨x,hx,-⟩;rw[bV,if_neg (by omega)] at hx;cases hx
theorem got_ok{k:Int}(hk:gi .i64 k){l:List B8}{x:Rdg}(h:bV k l=some x):x.Ok:=by
 unfold bV at h;split at h
 ·cases h;exact getR_ok hk l
 ·cases h
theorem sizeR_37(k:Int):bW k≤37:=by
 unfold bW;by_cases h1:k=1
 ·rw[if_pos h1];decide
 rw[if_neg h1];by_cases h1:k=2
 ·rw[if_pos h1];decide
 rw[if_neg h1];by_cases h1:k=3
 ·rw[if_pos h1];decide
 rw[if_neg h1];by_cases h1:k=4
 ·rw[if_pos h1];decide
 rw[if_neg h1];by_cases h1:k=5
 ·rw[if_pos h1];decide
 rw[if_neg h1];by_cases h1:k=6
 ·rw[if_pos h1];decide
 rw[if_neg h1];split<;>(try split)<;>(try split)<;>(try split)<;>(try split)<;>(try split)<;>(try split)<;>omega
theorem putB_len48(r:Rdg):(eJ r).length≤48:=by
 by_cases h:okP r
 ·rw[(put_yes h).1];obtain⟨x,hx,-⟩:=h;unfold bV at hx;split at hx
  ·next h=>rw[h.2.2.1];have:=sizeR_37 r.kind;omega
  ·cases hx
 ·rw[(put_no h).1];decide
theorem Rds.lie{I H:List It}{x:It}{b off:Nat}{cs vs:List Value}{T:TypeId}(hm:x∈H)(hl:Lies x (cel b cs T))(hv:∀j u,vs[j]?=some u→cs[off+j]?=some u):Rds I H ⟨b,off,none⟩ vs:=fun w hw=>by
 have h0:=hl.A w (hw.h _ hm)
 have hs:Sat [] [cel b cs T] w:=⟨by simp,by simpa using h0,by simp[PK.cel],by simp⟩
 exact Rds.cel (I:=[]) (List.Mem.head _) hv w hs
theorem Rd.lie{I H:List It}{x:It}{b off:Nat}{cs:List Value}{v:Value}{T:TypeId}(hm:x∈H)(hl:Lies x (cel b cs T))(hv:cs[off]?=some v):Rd I H ⟨b,off,none⟩ v:=fun w hw=>by
 have h0:=hl.A w (hw.h _ hm)
 have hs:Sat [] [cel b cs T] w:=⟨by simp,by simpa using h0,by simp[PK.cel],by simp⟩
 exact Rd.get (I:=[]) (List.Mem.head _) hv w hs
def Snd.set(x:Snd)(ep ct:Nat):Snd:=⟨x.s,ep,ct,x.b⟩
def Crw.setT(z:Crw)(T:List Snd):Crw:=⟨z.b,z.lm,z.sm,z.c,z.sp,z.sc,z.ko,z.kc,z.K,T,z.so,z.soc,z.l,z.E⟩
section
variable {P:Program} {Q:Exit→Act→World→Prop} {N:Fm} {E:Env} {w0:World} {S:List Nat} {I H C:List It} {cc:Code}
theorem Rea.same:∀H:List It,Rea H H
 | []=>.nil
 | _::H=>.cons .here (Rea.same H)
end
noncomputable def frS(x:Snd)(r:Rdg):Fr:=(⟨r.kind,x.s.id,x.ep,x.ct+1,eJ r,List.replicate 16 0#8⟩:Fr).sign x.s.rt
noncomputable def sendE(x:Snd)(r:Rdg):Int:=if putE r=0∧(aH x.s.kd).contains r.kind=true then(if x.ct=18446744073709551615 then 3 else 0) else 120
theorem frS_fit{x:Snd}{r:Rdg}(h1:0≤x.s.id∧x.s.id≤7)(h2:x.ep<4294967296)(h3:x.ct<18446744073709551616)(h:sendE x r=0):(frS x r).Fit:=by
 unfold sendE at h;split at h
 ·next hk=>
  split at h
  ·cases h
  ·next hc=>
   have hr:0≤r.kind∧r.kind≤255:=by
    have:=hk.2;rw[List.contains_iff_mem] at this;unfold aH at this;split at this
    ·simp at this;omega
    ·split at this
     ·simp at this;omega
     ·cases this
   have hb:=putB_len48 r;exact⟨⟨h2,by show x.ct+1<18446744073709551616;omega,dS _ _⟩,hr,⟨h1.1,by show x.s.id≤255;omega⟩,hb⟩
 ·cases h
theorem fill_fr{kd sr ep ct:Int}{sl:Value}{places:Array (Nat×Nat)}(hs:sl.oneCell'=true)(hp:places= #[(0,1),(1,1),(2,1),(3,1),(4,1),(5,16)]):bX (places[·]?) (fr0.cells (.slice none 0 0)) [(0,.int .i64 kd),(1,.int .i64 sr),(2,.int .u32 ep),(3,.int .u64 ct),(4,sl)]=some (.int .i64 kd:: .int .i64 sr:: .int .u32 ep:: .int .u64 ct::sl::bytes (List.replicate 16 0#8)):=by subst hp;refine aK (vs:=[.int .i64 kd]) [] [.int .i64 0] (.int .i64 0:: .int .u32 0:: .int .u64 0:: .slice none 0 0::bytes (List.replicate 16 0#8)) rfl rfl rfl rfl rfl rfl ?_;refine aK (vs:=[.int .i64 sr]) [.int .i64 kd] [.int .i64 0] (.int .u32 0:: .int .u64 0:: .slice none 0 0::bytes (List.replicate 16 0#8)) rfl rfl rfl rfl rfl rfl ?_;refine aK (vs:=[.int .u32 ep]) [.int .i64 kd,.int .i64 sr] [.int .u32 0] (.int .u64 0:: .slice none 0 0::bytes (List.replicate 16 0#8)) rfl rfl rfl rfl rfl rfl ?_;refine aK (vs:=[.int .u64 ct]) [.int .i64 kd,.int .i64 sr,.int .u32 ep] [.int .u64 0] (.slice none 0 0::bytes (List.replicate 16 0#8)) rfl rfl rfl rfl rfl rfl ?_;refine aK (vs:=[sl]) [.int .i64 kd,.int .i64 sr,.int .u32 ep,.int .u64 ct] [.slice none 0 0] (bytes (List.replicate 16 0#8)) rfl (by rw[cells_one hs]) rfl rfl rfl rfl ?_;simp[bX]
def Sch.bg(s:Sch)(t:Int):Int:=if t<s.st then 0 else(t-s.st).tdiv s.ln+1
theorem sendE_no{x:Snd}{r:Rdg}(h: ¬(putE r=0∧(aH x.s.kd).contains r.kind=true)):sendE x r=120:=if_neg h
theorem sendE_yes{x:Snd}{r:Rdg}(h:putE r=0∧(aH x.s.kd).contains r.kind=true):sendE x r=if x.ct=18446744073709551615 then 3 else 0:=if_pos h
theorem jl(n:Int):(aH n).length≤6:=by unfold aH;split<;>(try split)<;>simp
theorem Lend.ownN{I F J:List It}{b cap sz n n':Nat}{e:TypeId}{xs xs':List Value}(hm:PK.own (some b) cap e sz n xs∈F)(hn:n=n')(hx:xs=xs')(h:Lend I F J):Lend I F (PK.sls (some ⟨b,0,none⟩) sz n' xs'::J):=by subst hn;subst hx;exact Lend.own (ob:=some b) hm h
def okSteps(n:Int):Prop:=0≤n∧n≤512
def OwnK(k:List B8)(n:Nat):Value→List It→List It→Prop:=fun v I' H'=>∃b cap,v=.tuple #[aE (some b) (n+1) cap,.int .i64 0]∧I'=[]∧H'=[own (some b) cap 31 32 (n+1) (cv (bF k (n+1)))]
theorem flat_succ(k:List B8)(n:Nat):cv (bF k n)++bytes (cG k n)=cv (bF k (n+1)):=by rw[chainL_succ];simp[cv]
theorem rnext_any(k:List B8)(hk:k.length=32):Spc Tryz.prog 179 #[.agg (bytes k).toArray] [] [] (Is (.agg (bytes (nextK k)).toArray)):=by refine Spc.enter Tryz.func179 (h:=?_);refine fun w0 hw0=>?_;refine go 3 ?_;intro b1;refine RL.alloc (cs:=List.replicate 32 (U8 0#8)) (ho:=rfl) (h:=?_);intro b2;refine go 4 ?_;refine RL.buildSlice [_,_,_,_,_,_,_,_,_,_,_,_,_] (ho:=rfl) (h:=?_);intro b3;refine RL.stringish (e:=5) KU55.h KU5.h rfl rfl rfl rfl rfl rfl pE rfl ?_;refine go 1 ?_;refine RL.appendNew (xs:=bytes label) (news:=bytes k) KE55.h rfl rfl rfl rfl rfl rfl (Src.sls (List.Mem.head _)) (Src.cel mQ (by simp[hk])) (by decide) (by decide) (by decide) ?_;intro b4 c4;refine ar (rof_n (some ⟨b4,0,none⟩) 45 c4 (label++k) (by simp[label,hk]) (by decide)) (hl:=Lend.ownN mQ rfl (by simp) .nil) (h:=?_);refine go 4 ?_;exact RQ.post (cU rfl rfl KA31.h KS31.h mQ lQ) (aa _) ⟨rfl,rfl,rfl⟩
theorem all_ok(k:List B8)(hk:k.length=32)(n:Nat)(hn:n≤512):Spc Tryz.prog 102 #[.agg (bytes k).toArray,.int .i64 (n:Int)] [] [] (OwnK k n):=by
 refine Spc.enter Tryz.func102 (h:=?_);refine fun w0 hw0=>?_;refine go 13 ?_;intro b1;refine av (d:=9) (v':=.bool false) rfl ((by simp)) ?_;refine go 5 ?_;refine ag rfl ((by simp;omega)) ?_;refine go 5 ?_;refine ao (bytes k) KU141.h KS31.h KZ31.h rfl rfl (by decide) (by decide) (by simp[hk]) (by decide) rfl rfl rfl rfl rfl (fill_one rfl (by simp[hk])) ?_;intro b2;refine go 11 ?_;refine CW.loop (γ:=Nat×Option Nat×Nat) (fun g=>g.1≤n∧g.2.1.isSome=true) (fun g=>[(2,.pointer (some ⟨b1,0,none⟩)),(6,aE g.2.1 (g.1+1) g.2.2),(15,.int .i64 (n:Int)),(16,.int .i64 (g.1:Int))]) (fun _=>[]) (fun g=>[own g.2.1 g.2.2 31 32 (g.1+1) (cv (bF k (g.1+1))),cel b1 (bytes (cG k g.1)) 31]) (fun g=>n-g.1) (0,some b2,1) ⟨by omega,rfl⟩ (.cons rfl (.cons rfl (.cons rfl (.cons rfl .nil)))) (fun _ h=>by rw[bE (ob:=some b2) (n':=0+1) (xs':=cv (bF k (0+1))) rfl (by simp[cv,bF,cG])] at h;exact h) ?_;rintro⟨i,ob,c⟩ ⟨hi,hob⟩;dsimp only at hi hob ⊢;have hl:=d6 hk i;have hl2:=d6 hk (i+1);refine go 6 ?_;refine CW.cond rfl (fun hlt=>?_) (fun hlt=>?_)
 ·refine go 7 ?_;refine ab (next_any (cG k i) hl) (h:=?_);refine go 6 ?_;have hlt:i<n:=by simp at hlt;omega
  refine ao (bytes (cG k (i+1))) KU141.h KS31.h KZ31.h rfl rfl (by decide) (by decide) (by simp[cG,iJ]) (by decide) rfl rfl rfl rfl rfl (fill_one rfl (by simp[cG,iJ])) ?_;intro b3;refine go 6 ?_;intro ob1 cap1 ho1;refine ap rfl (ad (by omega) (by omega)) ?_;refine go 2 ?_;refine NQ.round (g:=(i,ob,c)) (i+1,ob1,cap1) ⟨hlt,ho1.resolve_left (by omega)⟩ (by show n-(i+1)<n-i;omega) (.cons rfl (.cons rfl (.cons rfl (.cons rfl .nil)))) (fun _ h=>?_);rw[bE (ob:=ob1) (n':=i+1+1) (xs':=cv (bF k (i+1+1))) rfl (flat_succ k (i+1))] at h;exact h.rea (fun _ h=>h) rE
 ·refine go 13 ?_;have hin:i=n:=by simp at hlt;omega
  subst hin
  obtain⟨b,rfl⟩:∃b,ob=some b:=by
   cases ob with
   | none=>cases hob
   | some b=>exact⟨b,rfl⟩
  exact RQ.post (bb rfl rfl rfl) (.keep (.drop .nil)) ⟨b,c,rfl,rfl,rfl⟩
theorem all_bad(k:List B8)(_hk:k.length=32)(n:Int)(hbad: ¬okSteps n):Spc Tryz.prog 102 #[.agg (bytes k).toArray,.int .i64 n] [] [] (Is (.tuple #[.slice none 0 0,.int .i64 2])):=by
 unfold okSteps at hbad;refine Spc.enter Tryz.func102 (h:=?_);refine fun w0 hw0=>?_;refine go 13 ?_;intro b1;refine RL.part (d:=9) rfl (fun hneg=>?_) (fun hneg=>?_)
 ·refine go 5 ?_;refine aI (h:=go 8 ?_);exact RQ.post (bb rfl rfl rfl) (aa _) ⟨rfl,rfl,rfl⟩
 ·refine go 5 ?_;have hneg: ¬n<0:=by simpa using hneg
  refine aI rfl ((by simp;omega)) ?_;refine go 8 ?_;exact RQ.post (bb rfl rfl rfl) (aa _) ⟨rfl,rfl,rfl⟩
theorem Rds.key{I H:List It}{b cap n i:Nat}{l:List (List B8)}{x:List B8}(hm:PK.own (some b) cap 31 32 n (cv l)∈H)(hl:∀x∈l,x.length=32)(hi:l[i]?=some x):Rds I H ((⟨b,0,none⟩:Addr).add (i*32)) (bytes x):=
 Rds.part (Rds.own hm) (flatK_get hl hi)
theorem Rds.keyI{I H:List It}{p:Addr}{n i:Nat}{l:List (List B8)}{x:List B8}(hm:PK.sls (some p) 32 n (cv l)∈I)(hl:∀x∈l,x.length=32)(hi:l[i]?=some x):Rds I H (p.add (i*32)) (bytes x):=
 Rds.part (Rds.sls hm) (flatK_get hl hi)
theorem rall_ok(k:List B8)(hk:k.length=32)(n:Nat)(hn:n≤512):Spc Tryz.prog 106 #[.agg (bytes k).toArray,.int .i64 (n:Int)] [] [] (OwnK k n):=by
 refine Spc.enter Tryz.func106 (h:=?_);refine fun w0 hw0=>?_;refine go 13 ?_;intro b1;refine av (d:=10) (v':=.bool false) rfl ((by simp)) ?_;refine go 5 ?_;refine ag rfl ((by simp;omega)) ?_;refine go 5 ?_;refine ao (bytes k) KU141.h KS31.h KZ31.h rfl rfl (by decide) (by decide) (by simp[hk]) (by decide) rfl rfl rfl rfl rfl (fill_one rfl (by simp[hk])) ?_;intro b2;refine go 10 ?_;refine CW.loop (γ:=Nat×Option Nat×Nat) (fun g=>g.1≤n∧g.2.1.isSome=true) (fun g=>[(1,.int .i64 (n:Int)),(6,aE g.2.1 (g.1+1) g.2.2),(7,.int .i64 (g.1:Int))]) (fun _=>[]) (fun g=>[own g.2.1 g.2.2 31 32 (g.1+1) (cv (bF k (g.1+1)))]) (fun g=>n-g.1) (0,some b2,1) ⟨by omega,rfl⟩ (.cons rfl (.cons rfl (.cons rfl .nil))) (fun _ h=>by rw[bE (ob:=some b2) (n':=0+1) (xs':=cv (bF k (0+1))) rfl (by simp[cv,bF,cG])] at h;exact h.rea (fun _ h=>h) rE) ?_;rintro⟨i,ob,c⟩ ⟨hi,hob⟩;dsimp only at hi hob ⊢
 obtain⟨b,rfl⟩:∃b,ob=some b:=by
  cases ob with
  | none=>cases hob
  | some b=>exact⟨b,rfl⟩
 have hl:=d6 hk i;have hl2:=d6 hk (i+1);refine go 8 ?_;refine CW.cond rfl (fun hlt=>?_) (fun hlt=>?_)
 ·refine go 8 ?_;have hlt:i<n:=by simp at hlt;omega
  refine aS (j:=i) (p:=⟨b,0,none⟩) (ho:=rfl) (h:=?_);refine ak (vs:=bytes (cG k i)) KA31.h (by rw[List.length_map,hl];exact KS31.h) rfl rfl rfl rfl (Rds.key (List.Mem.head _) (jk hk _) (jj k (by omega))) ?_;refine ab (rnext_any (cG k i) hl) (h:=?_);refine ao (bytes (cG k (i+1))) KU141.h KS31.h KZ31.h rfl rfl (by decide) (by decide) (by simp[cG,iJ]) (by decide) rfl rfl rfl rfl rfl (fill_one rfl (by simp[cG,iJ])) ?_;intro b3;refine go 7 ?_;intro ob1 cap1 ho1;refine ap rfl (ad (by omega) (by omega)) ?_;refine go 2 ?_;refine NQ.round (g:=(i,some b,c)) (i+1,ob1,cap1) ⟨hlt,ho1.resolve_left (by omega)⟩ (by show n-(i+1)<n-i;omega) (.cons rfl (.cons rfl (.cons rfl .nil))) (fun _ h=>?_);rw[bE (ob:=ob1) (n':=i+1+1) (xs':=cv (bF k (i+1+1))) rfl (flat_succ k (i+1))] at h;exact h.rea (fun _ h=>h) rE
 ·refine go 13 ?_;have hin:i=n:=by simp at hlt;omega
  subst hin;exact RQ.post (bb rfl rfl rfl) (.keep .nil) ⟨b,c,rfl,rfl,rfl⟩
def RevI(l:List (List B8))(n i:Nat)(L:List (List B8)):Prop:=L.length=n∧(∀x∈L,x.length=32)∧∀k<n,L[k]?=if k<i∨n-i≤k then l[n-1-k]? else l[k]?
theorem RevI.step{l L:List (List B8)}{n i:Nat}{x y:List B8}(h:RevI l n i L)(hi:i<n-1-i)(hx:L[i]?=some x)(hy:L[n-1-i]?=some y):RevI l n (i+1) ((L.set i y).set (n-1-i) x):=by
 obtain⟨h1,h2,h3⟩:=h;have ex:=h3 i (by omega);have ey:=h3 (n-1-i) (by omega);rw[if_neg (by omega),hx] at ex;rw[if_neg (by omega),hy] at ey;refine⟨by simp[h1],fun z hz=>?_,fun k hk=>?_⟩
 ·rcases List.mem_or_eq_of_mem_set hz with hz|rfl
  ·rcases List.mem_or_eq_of_mem_set hz with hz|rfl
   ·exact h2 z hz
   ·exact h2 _ (List.mem_of_getElem? hy)
  ·exact h2 _ (List.mem_of_getElem? hx)
 ·by_cases h4:k=n-1-i
  ·subst h4;rw[List.getElem?_set_self (by simp[h1];omega),if_pos (by omega),show n-1-(n-1-i)=i by omega,ex]
  ·rw[List.getElem?_set_ne (by omega)];by_cases h5:k=i
   ·subst h5;rw[List.getElem?_set_self (by omega),if_pos (by omega),ey]
   ·rw[List.getElem?_set_ne (by omega),h3 k hk];by_cases h6:k<i∨n-i≤k
    ·rw[if_pos h6,if_pos (by omega)]
    ·rw[if_neg h6,if_neg (by omega)]
theorem RevI.done{l L:List (List B8)}{n i:Nat}(hl:l.length=n)(h:RevI l n i L)(hi:n≤2*i+1):L=l.reverse:=by
 obtain⟨h1,h2,h3⟩:=h;apply List.ext_getElem?;intro k;by_cases hk:k<n
 ·rw[h3 k hk,List.getElem?_reverse (by omega),hl];split
  ·rfl
  ·rw[show n-1-k=k by omega]
 ·rw[List.getElem?_eq_none (by omega),List.getElem?_eq_none (by simp;omega)]
theorem flatK_set{L:List (List B8)}(hL:∀x∈L,x.length=32){y:List B8}(hy:y.length=32){q:Nat}(hq:q<L.length):bP (cv L) (q*32) (bytes y)=cv (L.set q y):=
 spl_flat (f:=bytes) y (fun a ha=>by rw[List.length_map];exact hL a ha) (by rw[List.length_map];exact hy) hq
theorem flatK_len:∀ {L:List (List B8)},(∀x∈L,x.length=32)→(cv L).length=L.length*32
 | [],_=>rfl
 | a::L,h=>by
  have ih:=flatK_len (L:=L) (fun x hx=>h x (by simp[hx]))
  simp only[cv] at ih
  rw[cv,List.flatMap_cons,List.length_append,ih,List.length_map,h a (by simp),List.length_cons];omega
theorem rev_none:Spc Tryz.prog 103 #[.slice none 0 0] [] [] (Is (.tuple #[])):=by refine Spc.enter Tryz.func103 (h:=?_);refine fun w0 hw0=>?_;refine go 4 ?_;refine ap rfl (ad (by omega) (by omega)) ?_;refine go 5 ?_;refine CW.loop (γ:=Unit) (fun _=>True) (fun _=>[(0,.slice none 0 0),(2,.int .i64 0),(3,.int .i64 (-1))]) (fun _=>[]) (fun _=>[]) (fun _=>0) () trivial (.cons rfl (.cons rfl (.cons rfl .nil))) (fun w h=>h) ?_;rintro _ _;refine go 13 ?_;exact RQ.post (dn rfl) (aa _) ⟨rfl,rfl,rfl⟩
theorem rev_keys(b c n:Nat)(l:List (List B8))(hn:l.length=n)(hl:∀x∈l,x.length=32)(hb:n≤1000000):Spc Tryz.prog 103 #[.slice (some ⟨b,0,none⟩) n c] [] [own (some b) c 31 32 n (cv l)] (fun v I' H'=>v=.tuple #[]∧I'=[]∧H'=[own (some b) c 31 32 n (cv l.reverse)]):=by
 refine Spc.enter Tryz.func103 (h:=?_);refine fun w0 hw0=>?_;refine go 4 ?_;refine ap rfl (ad (by omega) (by omega)) ?_;refine go 5 ?_;refine CW.loop (γ:=Nat×List (List B8)) (fun g=>2*g.1≤n∧RevI l n g.1 g.2) (fun g=>[(0,.slice (some ⟨b,0,none⟩) n c),(2,.int .i64 (g.1:Int)),(3,.int .i64 ((n:Int)-1-g.1))]) (fun _=>[]) (fun g=>[own (some b) c 31 32 n (cv g.2)]) (fun g=>n-g.1) (0,l) ⟨by omega,hn,hl,fun k hk=>by rw[if_neg (by omega)]⟩ (.cons rfl (.cons rfl (.cons (by simp;rfl) .nil))) (fun w h=>h) ?_;rintro⟨i,L⟩ ⟨hi,hL⟩;dsimp only at hi hL ⊢;have hLl:=hL.1;have hL2:=hL.2.1;refine go 8 ?_;refine CW.cond rfl (fun hlt=>?_) (fun hlt=>?_)
 ·have hlt:i<n-1-i:=by simp at hlt;omega
  have hx:=List.getElem?_eq_getElem (show i<L.length by omega);have hy:=List.getElem?_eq_getElem (show n-1-i<L.length by omega);generalize L[i]=x at hx;generalize L[n-1-i]=y at hy;have hxl:=hL2 x (List.mem_of_getElem? hx);have hyl:=hL2 y (List.mem_of_getElem? hy);have hst:=hL.step hlt hx hy
  have hs1:∀z∈L.set i y,z.length=32:=fun z hz=>by
   rcases List.mem_or_eq_of_mem_set hz with hz|rfl
   ·exact hL2 z hz
   ·exact hyl
  have hs2:(L.set i y).length=n:=by rw[List.length_set,hLl]
  refine go 4 ?_;refine ae (Sq.of [0,1,2,3,4,5,6,7,8,9,10,11,12,13,14,15]) [13,15] [13,15] [0,1,2,3,4,5,6,8,9,10,12,14] (h:=?_);refine go 6 ?_;refine av (d:=19) (v':=.int .i64 ((n-1-i:Nat):Int)) rfl (by congr 1;omega) ?_;refine aP (j:=n-1-i) (ho:=rfl) (h:=?_);refine ak (vs:=bytes y) (hs:=by rw[List.length_map,hyl];exact KS31.h) (ho:=rfl) (hr:=iZ (f:=bytes) mQ hy (fun z hz=>by rw[List.length_map];exact hL2 z hz)) (h:=?_);refine go 2 ?_;refine aP (j:=i) (ho:=rfl) (h:=?_);refine ak (vs:=bytes x) (hs:=by rw[List.length_map,hxl];exact KS31.h) (ho:=rfl) (hr:=iZ (f:=bytes) mQ hx (fun z hz=>by rw[List.length_map];exact hL2 z hz)) (h:=?_);refine aP (j:=i) (ho:=rfl) (h:=?_);refine gv (off:=i*32) (flatK_set (L:=L) hL2 hyl (by omega)) (by rw[List.length_map,hyl];exact KS31.h) rfl rfl rfl rfl rfl (by rw[bn]) rfl rfl (bC fh _) (by rw[flatK_len hL2,List.length_map];omega) uE ?_;refine av (d:=17) (v':=.int .i64 ((n-1-i:Nat):Int)) rfl (by congr 1;omega) ?_;refine aP (j:=n-1-i) (ho:=rfl) (h:=?_);refine gv (off:=(n-1-i)*32) (flatK_set (L:=L.set i y) hs1 hxl (by omega)) (by rw[List.length_map,hxl];exact KS31.h) rfl rfl rfl rfl rfl (by rw[bn]) rfl rfl (bC fh _) (by rw[flatK_len hs1,List.length_map];omega) uE ?_;refine go 5 ?_;refine ap rfl (ad (by omega) (by omega)) ?_;refine go 1 ?_;refine ap rfl (ad (by omega) (by omega)) ?_;refine go 3 ?_;refine NQ.round (g:=(i,L)) (i+1,(L.set i y).set (n-1-i) x) ⟨by omega,hst⟩ (by show n-(i+1)<n-i;omega) (.cons rfl (.cons rfl (.cons (by show some (Value.int .i64 ((n:Int)-1-i-1))=some (Value.int .i64 ((n:Int)-1-((i+1:Nat):Int)));congr 2;omega) .nil))) (fun _ h=>h)
 ·have hin:n≤2*i+1:=by simp at hlt;omega
  have:=hL.done hn hin;subst this;refine go 4 ?_;exact RQ.post (dn rfl) (.keep .nil) ⟨rfl,rfl,rfl⟩
theorem chainR_get(k:List B8)(n:Nat):(bF k (n+1)).reverse[0]?=some (cG k n):=by rw[List.getElem?_reverse (by rw[dB];omega),dB,show n+1-1-0=n by omega,jj _ (by omega)]
theorem gX{k:List B8}(h:k.length=32)(n:Nat):∀x∈(bF k n).reverse,x.length=32:=fun x hx=>jk h n x (List.mem_reverse.1 hx)
def okN(n:Int):Prop:=1≤n∧n≤512
def KeysR(k:List B8)(n:Nat):Value→List It→List It→Prop:=fun v I' H'=>∃b cap,v=.tuple #[aE (some b) (n+1) cap,.int .i64 0]∧I'=[]∧H'=[own (some b) cap 31 32 (n+1) (cv (bF k (n+1)).reverse)]
theorem ekeys_ok(k:List B8)(hk:k.length=32)(n:Nat)(hn:okN n):Spc Tryz.prog 52 #[.agg (bytes k).toArray,.int .i64 (n:Int)] [] [] (KeysR k n):=by unfold okN at hn;refine Spc.enter Tryz.func52 (h:=?_);refine fun w0 hw0=>?_;refine go 14 ?_;intro b1;refine ag rfl ((by simp;omega)) ?_;refine go 6 ?_;refine ax (all_ok k hk n (by omega)) (hb:=.inl rfl) (h:=?_);rintro _ _ _ ⟨b,cap,rfl,rfl,rfl⟩;refine go 10 ?_;refine ax (rev_keys b cap _ (bF k (n+1)) (dB _ _) (jk hk _) (by omega)) Tryz.call103 rfl rfl rfl rfl rfl (.inr rfl) ?_;rintro _ _ _ ⟨rfl,rfl,rfl⟩;refine go 11 ?_;exact RQ.post (bb rfl rfl rfl) (.keep (.drop .nil)) ⟨b,cap,rfl,rfl,rfl⟩
theorem ekeys_bad(k:List B8)(hk:k.length=32)(n:Int)(hn: ¬okN n):Spc Tryz.prog 52 #[.agg (bytes k).toArray,.int .i64 n] [] [] (Is (.tuple #[.slice none 0 0,.int .i64 2])):=by
 unfold okN at hn;refine Spc.enter Tryz.func52 (h:=?_);refine fun w0 hw0=>?_;refine go 14 ?_;intro b1;refine CW.cond rfl (fun h1=>?_) (fun h1=>?_)
 ·refine go 8 ?_;exact RQ.post (bb rfl rfl rfl) (aa _) ⟨rfl,rfl,rfl⟩
 ·have h1: ¬n<1:=by simpa using h1
  have hb:=all_bad k hk n (by unfold okSteps;omega);refine go 6 ?_;refine ab (hb) (h:=?_);refine go 10 ?_;refine ab (rev_none) (h:=?_);refine go 11 ?_;exact RQ.post (bb rfl rfl rfl) (aa _) ⟨rfl,rfl,rfl⟩
def comV(k:List B8)(n:Int):List B8×Int:=if 1≤n∧n≤512 then(cG k n.toNat,0) else(List.replicate 32 0,2)
theorem com_ok(k:List B8){n:Nat}(h:okN n):comV k n=(cG k n,0):=by unfold okN at h;rw[comV,if_pos h];simp
theorem com_no(k:List B8){n:Int}(h: ¬okN n):comV k n=(List.replicate 32 0,2):=if_neg h
abbrev ComV(r:List B8×Int):Value:=.tuple #[.agg (bytes r.1).toArray,.int .i64 r.2]
def eU(L:List Sr):List Sr:=L.filter fun s=>!(aH s.kd).isEmpty
theorem sends_yes{L:List Sr}{i:Nat}{s:Sr}(h:L[i]?=some s)(hk:(aH s.kd).isEmpty=false):eU (L.take (i+1))=eU (L.take i)++[s]:=by rw[eU,eU,List.take_add_one,h,List.filter_append];simp[hk]
theorem sends_no{L:List Sr}{i:Nat}{s:Sr}(h:L[i]?=some s)(hk:(aH s.kd).isEmpty=true):eU (L.take (i+1))=eU (L.take i):=by rw[eU,eU,List.take_add_one,h,List.filter_append];simp[hk]
theorem sr_asc{L:List Sr}(h:srsB L=true):∀ {j i:Nat} {s t:Sr},i<j→L[i]?=some s→L[j]?=some t→s.id<t.id
 | 0,i,_,_,hi,_,_=>by omega
 | j+1,i,s,t,hi,hs,ht=>by
  have h1:=srsB_iff.1 h (j+1)
  rw[gR ht] at h1
  have hj:j<L.length:=by have:=(List.getElem?_eq_some_iff.1 ht).1;omega
  have hx:=List.getElem?_eq_getElem hj
  simp only[wasS,hx,Bool.and_eq_true,decide_eq_true_eq] at h1
  by_cases e:i=j
  ·subst e;rw[hx] at hs;cases hs;exact h1.2
  ·have:=sr_asc h (by omega:i<j) hs hx
   omega
theorem srs_ok{L:List Sr}(h:srsB L=true):∀s∈L,0≤s.id∧s.id≤7:=fun s hs=>by
 obtain⟨j,hj⟩:=List.mem_iff_getElem?.1 hs
 have h1:=srsB_iff.1 h j
 rw[gR hj] at h1
 simp only[Sr.ok,Bool.and_eq_true,decide_eq_true_eq] at h1
 exact h1.1.1
theorem take_mem{L:List Sr}{i:Nat}{s:Sr}(h:s∈L.take i):∃j<i,L[j]?=some s:=by
 obtain⟨j,hj⟩:=List.mem_iff_getElem?.1 h;rw[List.getElem?_take] at hj;split at hj
 ·next hlt=>exact⟨j,hlt,hj⟩
 ·cases hj
theorem fill_crw{c:Cf}{sl ks:Value}{m1 m2:Option Nat}(h:c.cm.length=32)(hk:ks.oneCell'=true){places:Array (Nat×Nat)}(hp:places= #[(0,45),(45,1),(46,1),(47,1),(48,1)]):bX (places[·]?) (zeroC.cells (.slice none 0 0)++[.slice none 0 0,.map none,.slice none 0 0,.map none]) [(0,.agg (c.cells sl).toArray),(1,ks),(2,.map m1),(4,.map m2)]=some (c.cells sl++[ks,.map m1,.slice none 0 0,.map m2]):=by subst hp;have h45:=cj h sl;refine aK (vs:=c.cells sl) [] (zeroC.cells (.slice none 0 0)) [.slice none 0 0,.map none,.slice none 0 0,.map none] rfl (cq _) rfl rfl rfl h45 ?_;refine aK (vs:=[ks]) (c.cells sl) [.slice none 0 0] [.map none,.slice none 0 0,.map none] rfl (by rw[cells_one hk]) rfl h45 rfl rfl ?_;refine aK (vs:=[.map m1]) (c.cells sl++[ks]) [.map none] [.slice none 0 0,.map none] rfl rfl (by simp) (by simp[h45]) rfl rfl ?_;refine aK (vs:=[.map m2]) (c.cells sl++[ks,.map m1,.slice none 0 0]) [.map none] [] rfl rfl (by simp) (by simp[h45]) rfl rfl ?_;simp[bX]
theorem fill_snd{s:Sr}(h:s.rt.length=32){places:Array (Nat×Nat)}(hp:places= #[(0,48),(48,1),(49,1)]):bX (places[·]?) (zeroS.cells++[.int .u32 0,.int .u64 0]) [(0,.agg s.cells.toArray),(1,.int .u32 1)]=some (s.cells++[.int .u32 1,.int .u64 0]):=by subst hp;have h48:=c7 h;refine aK (vs:=s.cells) [] zeroS.cells [.int .u32 0,.int .u64 0] rfl (cq _) rfl rfl rfl h48 ?_;refine aK (vs:=[.int .u32 1]) s.cells [.int .u32 0] [.int .u64 0] rfl rfl rfl h48 rfl rfl ?_;simp[bX]
theorem clone_srs(p:Option Addr)(n ca:Nat)(L:List Sr)(hn:L.length=n)(hb:n≤1000000):Spc Tryz.prog 53 #[.slice p n ca] [sls p 48 n (L.flatMap Sr.cells)] [] (fun v I' H'=>∃ob cap,v=aE ob n cap∧I'=[]∧H'=[own ob cap 167 48 n (L.flatMap Sr.cells)]):=by
 subst hn;refine Spc.fact (p:=p=none→L.length=0) (fun w hw e=>bf (hw.i _ (List.Mem.head _)) e) (fun hpp=>?_)
 cases p with
 | none=>have h0:=hpp rfl;refine Spc.enter Tryz.func53 (h:=?_);refine fun w0 hw0=>?_;refine go 9 ?_;refine bj (hr:=eql_slice KU24.h _ _ _) (h:=go 10 ?_);refine dx (e:=167) 48 ?_;rw[List.length_eq_zero_iff.1 h0];exact RQ.post (az rfl rfl) (.keep .nil) ⟨none,0,rfl,rfl,rfl⟩
 | some a=>refine Spc.enter Tryz.func53 (h:=?_);refine fun w0 hw0=>?_;refine go 9 ?_;refine bj (hr:=eql_slice KU24.h _ _ _) (h:=go 7 ?_);refine ao [] (ho:=rfl) (h:=?_);intro oq;refine go 1 ?_;refine cd KE24.h rfl rfl rfl rfl rfl rfl rfl (by first|exact⟨(.take (ai _)),rfl⟩|exact⟨(.leave (.take (ai _))),rfl⟩|exact⟨(.leave (.leave (.take (ai _)))),rfl⟩|exact⟨(.leave (.leave (.leave (.take (ai _))))),rfl⟩|exact⟨(.leave (.leave (.leave (.leave (.take (ai _)))))),rfl⟩|exact⟨(.leave (.leave (.leave (.leave (.leave (.take (ai _))))))),rfl⟩|exact⟨(.leave (.leave (.leave (.leave (.leave (.leave (.take (ai _)))))))),rfl⟩|exact⟨(.leave (.leave (.leave (.leave (.leave (.leave (.leave (.take (ai _))))))))),rfl⟩|exact⟨(.leave (.leave (.leave (.leave (.leave (.leave (.leave (.leave (.take (ai _)))))))))),rfl⟩|exact⟨(.leave (.leave (.leave (.leave (.leave (.leave (.leave (.leave (.leave (.take (ai _))))))))))),rfl⟩) (Src.sls mQ) (srs_ones _) (by first|omega|(simp only[maxLen];omega)) (by first|omega|(simp only[maxLen];omega)) ?_;intro ob1 cap1 ho1;refine go 4 ?_;rw[bE (Nat.zero_add L.length) (List.nil_append _)];exact RQ.post (az rfl rfl) (.keep .nil) ⟨ob1,cap1,by rw[Nat.zero_add],rfl,rfl⟩
structure RCr where
 b:Nat
 c:Cf
 oa:Option Nat
 ca:Nat
 ko:Nat
 kc:Nat
 K:List (List B8)
 ep:Nat→Nat
 ct:Nat→Nat
 so:Option Nat
 soc:Nat
 l:List FrO
def e8(f:Nat→Nat):List Value:=(List.range 8).map fun i=>.int .u32 (f i:Int)
def c8(f:Nat→Nat):List Value:=(List.range 8).map fun i=>.int .u64 (f i:Int)
def upN(f:Nat→Nat)(i v:Nat):Nat→Nat:=fun j=>if j=i then v else f j
def RCr.cells(z:RCr):List Value:=(z.c.cells (aE z.oa z.c.L.length z.ca)++[aE (some z.ko) z.K.length z.kc])++(e8 z.ep++(c8 z.ct++[aE z.so z.l.length z.soc]))
abbrev rcrC(z:RCr):It:=cel z.b z.cells 146
abbrev rcrL(z:RCr):It:=own z.so z.soc 151 21 z.l.length (z.l.flatMap FrO.cells)
abbrev rcrK(z:RCr):It:=own (some z.ko) z.kc 31 32 z.K.length (cv z.K)
abbrev rcrB(z:RCr):It:=PK.allI (z.l.map bodyO)
abbrev RcrL(z:RCr):List It:=[rcrC z,rcrL z,rcrK z,rcrB z]
abbrev eN(z:RCr):It:=PK.allI (RcrL z)
abbrev rcrS(z:RCr):It:=sls (z.oa.map fun b=>⟨b,0,none⟩) 48 z.c.L.length (z.c.L.flatMap Sr.cells)
structure RCr.Ok(z:RCr):Prop where
 cm:z.c.cm.length=32
 L:∀s∈z.c.L,s.Fit∧0≤s.id∧s.id≤7
 n:z.c.L.length≤12
 K:∀k∈z.K,k.length=32
 K1:1≤z.K.length∧z.K.length≤513
 ep:∀i,z.ep i<4294967296
 ct:∀i,z.ct i<18446744073709551616
 l:∀x∈z.l,x.f.Fit
 ll:z.l.length≤1000
theorem RCr.Ok.fit{z:RCr}(h:z.Ok):z.c.Fit:=⟨h.cm,fun s hs=>(h.L s hs).1⟩
theorem rpre_len{z:RCr}(h:z.c.cm.length=32):(z.c.cells (aE z.oa z.c.L.length z.ca)++[aE (some z.ko) z.K.length z.kc]).length=46:=by rw[List.length_append,cj h];rfl
theorem rcr_len{z:RCr}(h:z.c.cm.length=32):z.cells.length=63:=by rw[RCr.cells,List.length_append,rpre_len h];rfl
theorem rcr_c{z:RCr}(h:z.c.cm.length=32):∀(j:Nat) (u:Value),(z.c.cells (aE z.oa z.c.L.length z.ca))[j]?=some u→z.cells[0+j]?=some u:=fun j u hj=>by
 rw[RCr.cells,Nat.zero_add,List.append_assoc,List.getElem?_append_left (List.getElem?_eq_some_iff.1 hj).1];exact hj
theorem rcr_t{z:RCr}(h:z.c.cm.length=32)(j:Nat):z.cells[0+46+j]?=(e8 z.ep++(c8 z.ct++[aE z.so z.l.length z.soc]))[j]?:=by have:=rpre_len h;rw[RCr.cells,List.getElem?_append_right (by omega),this];congr 1;omega
theorem rcr_e{z:RCr}(h:z.c.cm.length=32){i:Nat}(hi:i<8):z.cells[0+46+i*1]?=some (.int .u32 (z.ep i:Int)):=by rw[rcr_t h,List.getElem?_append_left (by simp[e8];omega)];simp[e8,hi]
theorem rcr_n{z:RCr}(h:z.c.cm.length=32){i:Nat}(hi:i<8):z.cells[0+54+i*1]?=some (.int .u64 (z.ct i:Int)):=by rw[show 0+54+i*1=0+46+(8+i) by omega,rcr_t h,List.getElem?_append_right (by simp[e8]),show 8+i-(e8 z.ep).length=i by simp[e8],List.getElem?_append_left (by simp[c8];omega)];simp[c8,hi]
theorem rcr_l{z:RCr}(h:z.c.cm.length=32):z.cells[0+62]?=some (aE z.so z.l.length z.soc):=by rw[show 0+62=0+46+16 by omega,rcr_t h];rfl
theorem spl_appL{A B v:List Value}{k:Nat}(h:k+v.length≤A.length):bP (A++B) k v=bP A k v++B:=by rw[dH _ _ _ (by rw[List.length_append];omega),dH _ _ _ h,List.take_append_of_le_length (by omega),List.drop_append_of_le_length (by omega)];simp
theorem e8_set{f:Nat→Nat}{i:Nat}(hi:i<8)(v:Nat):bP (e8 f) i [.int .u32 (v:Int)]=e8 (upN f i v):=
 spl_range hi (fun q hq=>by simp[upN,hq]) (by simp[upN])
theorem c8_set{f:Nat→Nat}{i:Nat}(hi:i<8)(v:Nat):bP (c8 f) i [.int .u64 (v:Int)]=c8 (upN f i v):=
 spl_range hi (fun q hq=>by simp[upN,hq]) (by simp[upN])
def RCr.setE(z:RCr)(i v:Nat):RCr:=⟨z.b,z.c,z.oa,z.ca,z.ko,z.kc,z.K,upN z.ep i v,z.ct,z.so,z.soc,z.l⟩
def RCr.setC(z:RCr)(i v:Nat):RCr:=⟨z.b,z.c,z.oa,z.ca,z.ko,z.kc,z.K,z.ep,upN z.ct i v,z.so,z.soc,z.l⟩
def RCr.put(z:RCr)(x:FrO)(so:Option Nat)(soc:Nat):RCr:=⟨z.b,z.c,z.oa,z.ca,z.ko,z.kc,z.K,z.ep,z.ct,so,soc,z.l++[x]⟩
theorem rset_e{z:RCr}(h:z.c.cm.length=32){i:Nat}(hi:i<8)(v:Nat):bP z.cells (0+46+i*1) [.int .u32 (v:Int)]=(z.setE i v).cells:=by rw[RCr.cells,show 0+46+i*1=(z.c.cells (aE z.oa z.c.L.length z.ca)++[aE (some z.ko) z.K.length z.kc]).length+i by rw[rpre_len h];omega,spl_app,spl_appL (by simp[e8];omega),e8_set hi];rfl
theorem rset_n{z:RCr}(h:z.c.cm.length=32){i:Nat}(hi:i<8)(v:Nat):bP z.cells (0+54+i*1) [.int .u64 (v:Int)]=(z.setC i v).cells:=by rw[RCr.cells,show 0+54+i*1=(z.c.cells (aE z.oa z.c.L.length z.ca)++[aE (some z.ko) z.K.length z.kc]).length+((e8 z.ep).length+i) by rw[rpre_len h];simp[e8];omega,spl_app,spl_app,spl_appL (by simp[c8];omega),c8_set hi];rfl
theorem rset_l{z:RCr}(h:z.c.cm.length=32)(x:FrO)(so:Option Nat)(soc:Nat):bP z.cells (0+62) [aE so (z.l.length+1) soc]=(z.put x so soc).cells:=by
 have e:z.cells=((z.c.cells (aE z.oa z.c.L.length z.ca)++[aE (some z.ko) z.K.length z.kc])++(e8 z.ep++c8 z.ct))++([aE z.so z.l.length z.soc]++[]):=by simp[RCr.cells]
 rw[e,bI (by rw[List.length_append,rpre_len h];rfl) (by simp)];simp[RCr.cells,RCr.put]
section
variable {P:Program} {Q:Exit→Act→World→Prop} {N:Fm} {E:Env} {w0:World} {S:List Nat} {I H C:List It} {cc:Code}
theorem CW.rcrOpen{z:RCr}(h:CW P cc Q N E w0 S I ([rcrC z,rcrL z,rcrK z,rcrB z]++C)):CW P cc Q N E w0 S I (eN z::C):=CW.unpack h
theorem RQ.rcr{z:RCr}(hr:Rea H (RcrL z++C))(h:RQ Q N E w0 S I (eN z::C)):RQ Q N E w0 S I H:=RQ.rea (fun _ h=>h) hr (RQ.pack h)
theorem CW.rcr{z:RCr}(hr:Rea H (RcrL z++C))(h:CW P cc Q N E w0 S I (eN z::C)):CW P cc Q N E w0 S I H:=CW.rea (fun _ h=>h) hr (CW.pack h)
end
theorem lie_rc(z:RCr):Lies (eN z) (rcrC z):=Lies.allI (List.Mem.head _)
def grd(c:Cf)(n:Int):Option Sr:=match c.L.find? (fun s=>s.id==n) with
 | some s=>if (aH s.kd).isEmpty=true then none else some s
 | none=>none
def GrdV(c:Cf)(n:Int):Value:=.tuple #[.agg (ik (fun s=>s.id==n) c.L).1.cells.toArray,.bool ((ik (fun s=>s.id==n) c.L).2 && !(aH (ik (fun s=>s.id==n) c.L).1.kd).isEmpty)]
theorem grd_some{c:Cf}{n:Int}{s:Sr}(h:grd c n=some s):GrdV c n=.tuple #[.agg s.cells.toArray,.bool true]∧s∈c.L∧s.id=n:=by
 unfold grd at h
 cases hx:c.L.find? (fun s=>s.id==n) with
 | none=>rw[hx] at h;cases h
 | some t=>
  rw[hx] at h;dsimp only at h;split at h
  ·cases h
  ·next hk=>
   cases h;refine⟨?_,List.mem_of_find?_eq_some hx,by simpa using List.find?_some hx⟩;rw[GrdV,ik,hx];simp[hk]
theorem grd_none{c:Cf}{n:Int}(h:grd c n=none):∃s,(s=zeroS∨s∈c.L)∧GrdV c n=.tuple #[.agg s.cells.toArray,.bool false]:=by
 unfold grd at h
 cases hx:c.L.find? (fun s=>s.id==n) with
 | none=>exact⟨zeroS,.inl rfl,by rw[GrdV,ik,hx];rfl⟩
 | some t=>
  rw[hx] at h;dsimp only at h;split at h
  ·next hk=>exact⟨t,.inr (List.mem_of_find?_eq_some hx),by rw[GrdV,ik,hx];simp[hk]⟩
  ·cases h
theorem revT_snoc{k:List B8}{n j:Nat}(hj:j≤n):cv ((bF k (n+1)).reverse.take j)++bytes (cG k (n-j))=cv ((bF k (n+1)).reverse.take (j+1)):=by
 have:(bF k (n+1)).reverse[j]?=some (cG k (n-j)):=by rw[List.getElem?_reverse (by rw[dB];omega),dB,show n+1-1-j=n-j by omega,jj _ (by omega)]
 rw[List.take_add_one,this];simp[cv]
theorem rkeys_ok(k:List B8)(hk:k.length=32)(n:Nat)(hn:okN n):Spc Tryz.prog 57 #[.agg (bytes k).toArray,.int .i64 (n:Int)] [] [] (KeysR k n):=by
 unfold okN at hn;refine Spc.enter Tryz.func57 (h:=?_);refine fun w0 hw0=>?_;refine go 13 ?_;intro b1;apply au (d:=12) (dp:=15) (l':=(Sq.of [])) rfl (sK [1,2,4,5] rfl)
 ·intro hb3 K3;refine go 3 ?_;exact K3 _ (.cons rfl (sK [1,2,4,5] rfl))
 ·intro hb3 K3;refine go 3 ?_;exact K3 _ (.cons rfl (sK [1,2,4,5] rfl))
 refine go 2 ?_;refine ag rfl ((by simp;omega)) ?_;refine go 6 ?_;refine ax (rall_ok k hk n (by omega)) (hb:=.inl rfl) (h:=?_);rintro _ _ _ ⟨b,cap,rfl,rfl,rfl⟩;refine go 9 ?_;refine ao [] (ho:=rfl) (h:=?_);intro b2;refine go 11 ?_;refine CW.loop (γ:=Nat×Option Nat×Nat) (fun g=>g.1≤n+1∧(g.1=0∨g.2.1.isSome=true)) (fun g=>[(1,.int .i64 (n:Int)),(6,aE (some b) (n+1) cap),(8,aE g.2.1 g.1 g.2.2),(9,.int .i64 ((n:Int)-g.1))]) (fun _=>[]) (fun g=>[own g.2.1 g.2.2 31 32 g.1 (cv ((bF k (n+1)).reverse.take g.1)),own (some b) cap 31 32 (n+1) (cv (bF k (n+1)))]) (fun g=>n+1-g.1) (0,_,_) ⟨by omega,.inl rfl⟩ (.cons rfl (.cons rfl (.cons rfl (.cons (by simp;rfl) .nil)))) wE ?_;rintro⟨j,ob,c⟩ ⟨hj,hob⟩;dsimp only at hj hob ⊢;refine go 7 ?_;refine CW.cond rfl (fun hlt=>?_) (fun hlt=>?_)
 ·have hlt:j≤n:=by simp at hlt;omega
  have hx:=jj k (show n-j<n+1 by omega);have hL:=jk hk (n+1);have hxl:=d6 hk (n-j);refine go 8 ?_;refine av (d:=30) (v':=.int .i64 ((n-j:Nat):Int)) rfl (by congr 1;omega) ?_;refine aP (j:=n-j) (ho:=rfl) (h:=?_);refine ak (vs:=bytes (cG k (n-j))) (hs:=by rw[List.length_map,hxl];exact KS31.h) (ho:=rfl) (hr:=iZ (f:=bytes) mQ hx (fun z hz=>by rw[List.length_map];exact hL z hz)) (h:=?_);refine ao (bytes (cG k (n-j))) KU141.h KS31.h KZ31.h rfl rfl (by decide) (by decide) (by rw[List.length_map];exact hxl) (by decide) rfl rfl rfl rfl rfl (fill_one rfl (by simp[hxl])) ?_;intro oq;refine go 7 ?_;intro ob1 cap1 ho1;refine ap rfl (ad (by omega) (by omega)) ?_;refine go 2 ?_;refine NQ.round (g:=(j,ob,c)) (j+1,ob1,cap1) ⟨by omega,.inr (ho1.resolve_left (by omega))⟩ (by show n+1-(j+1)<n+1-j;omega) (.cons rfl (.cons rfl (.cons rfl (.cons (by show some (Value.int .i64 ((n:Int)-j-1))=some (Value.int .i64 ((n:Int)-((j+1:Nat):Int)));congr 2;omega) .nil)))) (fun _ h=>?_);rw[bE (ob:=ob1) (n':=j+1) (xs':=cv ((bF k (n+1)).reverse.take (j+1))) rfl (revT_snoc hlt)] at h;exact h.rea (fun _ h=>h) rE
 ·have hin:j=n+1:=by simp at hlt;omega
  subst hin
  obtain⟨a,rfl⟩:∃a,ob=some a:=by
   cases ob with
   | none=>simp at hob
   | some a=>exact⟨a,rfl⟩
  refine go 13 ?_;rw[List.take_of_length_le (by rw[List.length_reverse,dB];exact Nat.le_refl _)];exact RQ.post (bb rfl rfl rfl) (.keep (.drop .nil)) ⟨a,c,rfl,rfl,rfl⟩
theorem rkeys_bad(k:List B8)(hk:k.length=32)(n:Int)(hn: ¬okN n):Spc Tryz.prog 57 #[.agg (bytes k).toArray,.int .i64 n] [] [] (Is (.tuple #[.slice none 0 0,.int .i64 2])):=by
 unfold okN at hn;refine Spc.enter Tryz.func57 (h:=?_);refine fun w0 hw0=>?_;refine go 13 ?_;intro b1;apply au (d:=12) (dp:=15) (l':=(Sq.of [])) rfl (sK [1,2,4,5] rfl)
 ·intro hb3 K3;refine go 3 ?_;exact K3 _ (.cons rfl (sK [1,2,4,5] rfl))
 ·intro hb3 K3;refine go 3 ?_;exact K3 _ (.cons rfl (sK [1,2,4,5] rfl))
 refine go 2 ?_;refine aI rfl ((by simp;omega)) ?_;refine go 8 ?_;exact RQ.post (bb rfl rfl rfl) (aa _) ⟨rfl,rfl,rfl⟩
theorem rcom_ok(k:List B8)(hk:k.length=32)(n:Nat)(hn:okN n):Spc Tryz.prog 23 #[.agg (bytes k).toArray,.int .i64 (n:Int)] [] [] (Is (ComV (comV k n))):=by rw[com_ok k hn];have hxl:=d6 hk n;refine Spc.enter Tryz.func23 (h:=?_);refine fun w0 hw0=>?_;refine go 3 ?_;intro b1;refine RL.alloc (cs:=List.replicate 32 (U8 0#8)) (ho:=rfl) (h:=?_);intro b2;refine go 7 ?_;refine ax (rkeys_ok k hk n hn) (hb:=.inl rfl) (h:=?_);rintro _ _ _ ⟨b,cap,rfl,rfl,rfl⟩;have hx:=chainR_get k n;have hL:=gX hk (n+1);generalize (bF k (n+1)).reverse=R at hx hL;refine go 20 ?_;refine aP (j:=0) (ho:=rfl) (h:=?_);refine ak (vs:=bytes (cG k n)) (hs:=by rw[List.length_map,hxl];exact KS31.h) (ho:=rfl) (hr:=iZ (f:=bytes) mQ hx (fun z hz=>by rw[List.length_map];exact hL z hz)) (h:=?_);refine an (ho:=rfl) (h1:=bC fh _) (hv:=by rw[List.length_map];exact hxl) (h:=?_);refine go 4 ?_;exact RQ.post (bG rfl rfl rfl KA31.h KS31.h mQ (by rw[List.length_map];exact hxl)) (aa _) ⟨rfl,rfl,rfl⟩
theorem rcom_bad(k:List B8)(hk:k.length=32)(n:Int)(hn: ¬okN n):Spc Tryz.prog 23 #[.agg (bytes k).toArray,.int .i64 n] [] [] (Is (ComV (comV k n))):=by rw[com_no k hn];refine Spc.enter Tryz.func23 (h:=?_);refine fun w0 hw0=>?_;refine go 3 ?_;intro b1;refine RL.alloc (cs:=List.replicate 32 (U8 0#8)) (ho:=rfl) (h:=?_);intro b2;refine go 7 ?_;refine ab (rkeys_bad k hk n hn) (h:=?_);refine go 17 ?_;refine bi (List.replicate 32 (U8 0#8)) (ho:=rfl) (h:=go 7 ?_);exact RQ.post (bG rfl rfl rfl KA31.h KS31.h mQ rfl) (aa _) ⟨rfl,rfl,rfl⟩
theorem rcom_any(k:List B8)(hk:k.length=32)(n:Int):Spc Tryz.prog 23 #[.agg (bytes k).toArray,.int .i64 n] [] [] (Is (ComV (comV k n))):=by
 by_cases h:okN n
 ·have h':=h;unfold okN at h';obtain⟨m,rfl⟩:∃m:Nat,n=(m:Int):=⟨n.toNat,by omega⟩;exact rcom_ok k hk m h
 ·exact rcom_bad k hk n h
theorem SOk.sub{E:List SE}{l:List FrO}(h:SOk E l){f:Fr}{e:SE}(he:atS E f=some e):∀x∈e.l,x∈l:=fun x hx=>by
 have h0:=h.b f
 rw[bodS,he] at h0
 rw[show e.l=_ from h0] at hx
 exact(List.mem_filter.1 hx).1
theorem Cls.allNil{w0 w:World}{S:List Nat}{I H:List It}(hw:Cls w0 S I H w):Cls w0 S I (PK.allI []::H) w:=Cls.pack (l:=[]) hw
def newE(c:Cf)(k:List B8)(n:Int):Int:=if c.err≠0 then c.err else if 1≤n∧n≤512 then(if cG k n.toNat=c.cm then 0 else 211) else 2
structure NewZ(c:Cf)(k:List B8)(n:Nat)(z:Crw):Prop where
 ok:z.Ok
 cf:z.c=c
 K:z.K=(bF k (n+1)).reverse
 T:z.T.map (·.s)=eU c.L
 n:∀x∈z.T,x.ep=1∧x.ct=0
 l:z.l=[]
def NewC(c:Cf)(k:List B8)(n:Int):Value→List It→List It→Prop:=fun v I' H'=>I'=[]∧((newE c k n≠0∧v=.tuple #[.pointer none,.int .i64 (newE c k n)]∧H'=[])∨(newE c k n=0∧∃z,v=.tuple #[.pointer (some ⟨z.b,0,none⟩),.int .i64 0]∧H'=[crwI z]∧NewZ c k n.toNat z))
theorem err_zero{c:Cf}(h:c.err=0):c.ok=true:=by
 unfold Cf.err at h;split at h
 ·next h1=>exact h1
 ·cases h
theorem ok_srs{c:Cf}(h:c.ok=true):srsB c.L=true∧c.L.length≤8:=by simp only[Cf.ok,srcB,Bool.and_eq_true,decide_eq_true_eq] at h;exact⟨h.1.2.1.1,h.1.2.1.2⟩
theorem cf_cm(c:Cf)(sl:Value):∀(j:Nat) (u:Value),(bytes c.cm)[j]?=some u→(c.cells sl)[0+9+j]?=some u:=fun j u hj=>by
 rw[Cf.cells,show 0+9+j=j+1+1+1+1+1+1+1+1+1 by omega]
 simp only[List.getElem?_cons_succ]
 rw[List.getElem?_append_left (List.getElem?_eq_some_iff.1 hj).1];exact hj
def zN(b lm sm:Nat)(c:Cf)(sp:Option Nat)(sc ko kc:Nat)(K:List (List B8))(T:List Snd):Crw:=⟨b,lm,sm,c,sp,sc,ko,kc,K,T,none,0,[],[]⟩
theorem newZ_ok{b lm sm:Nat}{c:Cf}{sp:Option Nat}{sc ko kc:Nat}{k:List B8}{n:Nat}{T:List Snd}(hc:c.Fit)(hok:c.ok=true)(hk:k.length=32)(hn:1≤n∧n≤512)(hT:T.map (·.s)=eU c.L)(hT1:∀x∈T,x.ep=1∧x.ct=0):NewZ c k n (zN b lm sm c sp sc ko kc (bF k (n+1)).reverse T):=by
 obtain⟨h1,h2⟩:=ok_srs hok;have hm:∀x∈T,x.s∈c.L:=fun x hx=>by have:x.s∈T.map (·.s):=List.mem_map.2 ⟨x,hx,rfl⟩;rw[hT] at this;exact(List.mem_filter.1 this).1
 have hnd:(c.L.map fun s=>s.id).Pairwise (· < ·):=by rw[List.pairwise_map,List.pairwise_iff_getElem];intro i j hi hj hij;exact sr_asc h1 hij (List.getElem?_eq_getElem hi) (List.getElem?_eq_getElem hj)
 refine⟨⟨hc.cm,fun s hs=>⟨hc.L s hs,srs_ok h1 s hs⟩,Nat.le_trans h2 (by decide),gX hk _,by show 1≤(bF k (n+1)).reverse.length∧(bF k (n+1)).reverse.length≤513;rw[List.length_reverse,dB];omega,fun x hx=>⟨hm x hx,by rw[(hT1 x hx).1];decide,by rw[(hT1 x hx).2];decide⟩,?_,by simp[zN],by simp[zN],sok_nil⟩,rfl,rfl,hT,hT1,rfl⟩;show(T.map fun x=>x.s.id).Nodup;have e:(T.map fun x=>x.s.id)=(T.map (·.s)).map fun s=>s.id:=by simp
 rw[e,hT];have hp:((eU c.L).map fun s=>s.id).Pairwise (· < ·):=hnd.sublist ((List.filter_sublist).map _);exact hp.imp (fun h=>by omega)
theorem zN_cells{b lm sm:Nat}{c:Cf}{sp:Option Nat}{sc ko kc n:Nat}{K:List (List B8)}{T:List Snd}(h:K.length=n):(zN b lm sm c sp sc ko kc K T).cells=c.cells (aE sp c.L.length sc)++[aE (some ko) n kc,.map (some lm),.slice none 0 0,.map (some sm)]:=by subst h;rfl
theorem eNew_any(c:Cf)(oa:Option Nat)(ca m:Nat)(k:List B8)(n:Int)(hc:c.Fit)(hm:c.L.length=m)(hmb:m≤1000000)(hk:k.length=32):Spc Tryz.prog 20 #[.agg (c.cells (aE oa m ca)).toArray,.agg (bytes k).toArray,.int .i64 n] [sls (oa.map fun b=>⟨b,0,none⟩) 48 m (c.L.flatMap Sr.cells)] [] (NewC c k n):=by
 subst hm;have h45:=fun sl=>cj hc.cm sl;have h45a:=h45 (aE oa c.L.length ca);have hE:newE c k n=newE c k n:=rfl;conv at hE=>rhs;rw[newE]
 refine Spc.enter Tryz.func20 (h:=?_);refine fun w0 hw0=>?_;refine go 12 ?_;intro b1 b2;refine ar (ccheck_any c oa ca _ rfl hc (by omega)) Tryz.call51 rfl rfl rfl rfl (.inI mQ .nil) ?_;refine go 9 ?_;refine CW.cond rfl (fun h1=>?_) (fun h1=>?_)
 ·refine go 9 ?_;have h1:c.err≠0:=by simpa using h1
  rw[if_pos h1] at hE;exact RQ.post (bb rfl rfl rfl) (aa _) ⟨rfl,.inl ⟨by rw[hE];exact h1,congrArg (fun e=>Value.tuple #[.pointer none,.int .i64 e]) hE.symm,rfl⟩⟩
 ·have h1:c.err=0:=by simpa using h1
  rw[if_neg (by omega)] at hE;have hok:=err_zero h1;obtain⟨hsr,hl8⟩:=ok_srs hok;by_cases hn:okN n
  ·have hn':=hn;unfold okN at hn';obtain⟨j,rfl⟩:∃j:Nat,n=(j:Int):=⟨n.toNat,by omega⟩;rw[if_pos hn',Int.toNat_natCast] at hE;have hkl:=d6 hk j;refine go 6 ?_;refine ax (ekeys_ok k hk j hn) (hb:=.inl rfl) (h:=?_);rintro _ _ _ ⟨ko,kc,rfl,rfl,rfl⟩;have hx:=chainR_get k j;have hL:=gX hk (j+1);refine go 18 ?_;refine ae (Sq.of [0,1,2,3,4,5,6]) [] [] [0,1,3,5,6] (h:=?_);refine go 1 ?_;refine aP (j:=0) (ho:=rfl) (h:=?_);refine ak (vs:=bytes (cG k j)) (hs:=by rw[List.length_map,hkl];exact KS31.h) (ho:=rfl) (hr:=iZ (f:=bytes) mQ hx (fun z hz=>by rw[List.length_map];exact hL z hz)) (h:=?_);refine go 1 ?_;refine ak (vs:=bytes c.cm) (hs:=by rw[List.length_map,hc.cm];exact KS31.h) (ho:=rfl) (hr:=Rds.cel mQ (cf_cm c _)) (h:=?_);refine bj (hr:=key_ne _ _ hkl hc.cm _ _) (h:=go 3 ?_);refine CW.cond rfl (fun h2=>?_) (fun h2=>?_)
   ·refine go 9 ?_;have h2:cG k j≠c.cm:=by simpa using h2
    rw[if_neg h2] at hE;exact RQ.post (bb rfl rfl rfl) (aa _) ⟨rfl,.inl ⟨by rw[hE];exact(by decide),congrArg (fun e=>Value.tuple #[.pointer none,.int .i64 e]) hE.symm,rfl⟩⟩
   ·have h2:cG k j=c.cm:=by simpa using h2
    rw[if_pos h2] at hE;have hKl:(bF k (j+1)).reverse.length=j+1:=by rw[List.length_reverse,dB]
    have hdone:=fun(b lm sm:Nat) (sp:Option Nat) (sc:Nat) (T:List Snd)=>newZ_ok (b:=b) (lm:=lm) (sm:=sm) (sp:=sp) (sc:=sc) (ko:=ko) (kc:=kc) (n:=j) (T:=T) hc hok hk (by omega);generalize (bF k (j+1)).reverse=R at hx hL hKl hdone;refine go 6 ?_;refine RL.load (ho:=rfl) (hr:=Rd.get (v:=aE oa c.L.length ca) mQ rfl) (h:=?_);refine RL.call (clone_srs (oa.map fun b=>⟨b,0,none⟩) _ ca c.L rfl (by omega)) Tryz.call53 rfl rfl rfl rfl rfl pE (.inI mQ .nil) (.inl rfl) ?_;rintro _ _ _ ⟨sp,sc,rfl,rfl,rfl⟩;refine go 1 ?_;refine aj (vs:=[_]) cf_set (ho:=rfl) (hl:=by rw[h45];show 0+0+1≤45;decide) (h:=?_);refine go 4 ?_;refine aT (ho:=rfl) (hl:=h45 _) (h:=?_);refine go 1 ?_;refine RL.makeMap (good:=aF) (h:=?_);refine fun lm=>?_;refine RL.makeMap (good:=hdG) (h:=?_);refine fun sm=>?_;refine ay (zN 0 lm sm c sp sc ko kc R []).cells (ho:=rfl) (hf:=by rw[zN_cells hKl];exact fill_crw hc.cm rfl rfl) (h:=?_);refine RL.box (cs:=(zN 0 lm sm c sp sc ko kc R []).cells) rfl rfl rfl rfl rfl rfl (fun bz=>?_);refine go 7 ?_;refine RL.load (ho:=rfl) (hr:=Rd.get (v:=aE sp c.L.length sc) mQ rfl) (h:=?_);refine go 5 ?_;refine CW.loop (γ:=Nat×List Snd) (fun g=>g.1≤c.L.length∧g.2.map (·.s)=eU (c.L.take g.1)∧∀x∈g.2,x.ep=1∧x.ct=0) (fun g=>[(10,.int .i64 0),(11,.pointer (some ⟨bz,0,none⟩)),(47,aE sp c.L.length sc),(48,.int .i64 (c.L.length:Int)),(49,.int .i64 (g.1:Int))]) (fun _=>[sls (oa.map fun b=>⟨b,0,none⟩) 48 c.L.length (c.L.flatMap Sr.cells)]) (fun g=>[PK.allI (g.2.map sndI),cel bz (zN bz lm sm c sp sc ko kc R []).cells 171,aN lm aF (cS g.2),aN sm hdG [],own sp sc 167 48 c.L.length (c.L.flatMap Sr.cells),own (some ko) kc 31 32 (j+1) (cv R)]) (fun g=>c.L.length-g.1) (0,[]) ⟨Nat.zero_le _,by simp[eU],by simp⟩ (.cons rfl (.cons rfl (.cons rfl (.cons rfl (.cons rfl .nil))))) (fun w h=>(Cls.allNil h).rea (fun _ h=>h) rE) ?_;rintro⟨i,T⟩ ⟨hi,hT,hT1⟩;dsimp only at hi hT hT1 ⊢;refine aR (p:=sp=none→c.L.length=0) (fun w hC e=>dW (by have:=hC.s.h (own sp sc 167 48 c.L.length (c.L.flatMap Sr.cells)) mQ;rw[e] at this;exact this)) (fun hpa=>?_);refine go 6 ?_;refine CW.cond rfl (fun hlt=>?_) (fun hlt=>?_)
    ·have hlt:i<c.L.length:=by simp at hlt;omega
     have hx:=List.getElem?_eq_getElem hlt;have hsy:=fun h=>sends_yes hx h;have hsn:=fun h=>sends_no hx h;have hfr:∀x∈T,x.s.id<(c.L[i]).id:=fun x hxT=>by have:x.s∈T.map (·.s):=List.mem_map.2 ⟨x,hxT,rfl⟩;rw[hT] at this;obtain⟨q,hq,hqs⟩:=take_mem (List.mem_filter.1 this).1;exact sr_asc hsr hq hqs hx
     generalize c.L[i]=s at hx hsy hsn hfr;have hsf:=hc.L s (List.mem_of_getElem? hx);have h48:=c7 hsf.rt;have hLl:∀s∈c.L,s.cells.length=48:=fun s hs=>c7 (hc.L s hs).rt
     obtain⟨sb,rfl⟩:∃sb,sp=some sb:=by
      cases h:sp with
      | none=>exact absurd (hpa h) (by omega)
      | some sb=>exact⟨sb,rfl⟩
     refine go 6 ?_;refine aP (j:=i) (ho:=rfl) (hlt:=hlt) (h:=?_);refine ak (vs:=s.cells) (hs:=by rw[h48];exact KS167.h) (ho:=rfl) (hr:=iZ (f:=Sr.cells) mQ hx hLl) (h:=?_);refine go 1 ?_;intro b3;refine an (ho:=rfl) (h1:=cw s) (hv:=h48) (h:=?_);refine go 5 ?_;refine RL.load (ho:=rfl) (hr:=Rd.get (v:=.int .i64 s.kd) mQ rfl) (h:=?_);refine RL.call (kinds_any s.kd) (hl:=.nil) (hb:=.inl rfl) (h:=?_);rintro _ _ _ ⟨qo,qc,rfl,rfl,rfl⟩;have hkl:=jl s.kd;refine go 4 ?_;refine CW.cond rfl (fun hk=>?_) (fun hk=>?_)
     ·have hk:(aH s.kd).isEmpty=false:=by
       cases h:aH s.kd with
       | nil=>rw[h] at hk;simp at hk
       | cons a l=>rfl
      refine ae (Sq.of [0,1,2,3,4,5,6,7,8,9]) [8,9] [9] [0,1,2,4,7] (h:=?_);refine go 3 ?_;refine RL.load (ho:=rfl) (hr:=Rd.get mQ (crw_m (z:=zN bz lm sm c (some sb) sc ko kc R []) hc.cm)) (h:=?_);refine go 1 ?_;refine RL.load (ho:=rfl) (hr:=Rd.get (v:=.int .i64 s.id) mQ rfl) (h:=?_);refine aT (ho:=rfl) (hl:=h48) (h:=?_);refine ay (Snd.cells ⟨s,1,0,0⟩) (ho:=rfl) (hf:=fill_snd hsf.rt rfl) (h:=?_);refine RL.box (cs:=Snd.cells ⟨s,1,0,0⟩) rfl rfl rfl rfl rfl rfl (fun bx=>?_);refine RL.mapUpdate keyI (ho:=rfl) (hk:=⟨s.id,rfl⟩) (hup:=uE) (h:=?_);refine go 4 ?_;refine ap rfl (ad (by omega) (by omega)) ?_;refine go 2 ?_;have habs:aO (.int .i64 s.id) (cS T)=none:=by rw[look_T,show atT T s.id=none from List.find?_eq_none.2 (fun x hx=>by have:=hfr x hx;simp;omega)];rfl
      have hset:cD (.int .i64 s.id) (.pointer (some ⟨bx,0,none⟩)) (cS T)=cS (T++[(⟨s,1,0,bx⟩:Snd)]):=by rw[gd habs,cS,cS,List.map_append];rfl
      refine NQ.round (g:=(i,T)) (i+1,T++[(⟨s,1,0,bx⟩:Snd)]) ⟨hlt,by rw[List.map_append,hT,hsy hk];rfl,fun x hx=>?_⟩ (by show c.L.length-(i+1)<c.L.length-i;omega) (.cons rfl (.cons rfl (.cons rfl (.cons rfl (.cons rfl .nil))))) (fun w h=>?_)
      ·rcases List.mem_append.1 hx with hx|hx
       ·exact hT1 x hx
       ·rw[List.mem_singleton.1 hx];exact⟨rfl,rfl⟩
      ·rw[hset] at h;have h1:=h.rea (I':=[sls (oa.map fun b=>⟨b,0,none⟩) 48 c.L.length (c.L.flatMap Sr.cells)]) (H':=[sndI ⟨s,1,0,bx⟩,PK.allI (T.map sndI),cel bz (zN bz lm sm c (some sb) sc ko kc R []).cells 171,aN lm aF (cS (T++[(⟨s,1,0,bx⟩:Snd)])),aN sm hdG [],own (some sb) sc 167 48 c.L.length (c.L.flatMap Sr.cells),own (some ko) kc 31 32 (j+1) (cv R)]) (fun _ h=>h) rE;exact Cls.pushA (m:=(T++[(⟨s,1,0,bx⟩:Snd)]).map sndI) (by rw[List.map_append];exact List.perm_append_comm) h1
     ·refine go 4 ?_;refine ap rfl (ad (by omega) (by omega)) ?_;refine go 2 ?_
      have hk:(aH s.kd).isEmpty=true:=by
       cases h:aH s.kd with
       | nil=>rfl
       | cons a l=>rw[h] at hk;simp at hk
      refine NQ.round (g:=(i,T)) (i+1,T) ⟨hlt,by rw[hT,hsn hk],hT1⟩ (by show c.L.length-(i+1)<c.L.length-i;omega) (.cons rfl (.cons rfl (.cons rfl (.cons rfl (.cons rfl .nil))))) wE
    ·have hin:i=c.L.length:=by simp at hlt;omega
     subst hin;rw[List.take_length] at hT;refine go 14 ?_;rw[bE (ob:=some ko) (n':=R.length) hKl.symm rfl];refine dx (e:=151) 21 (RQ.pack (l:=[]) (RQ.pack (l:=[]) (RQ.crw (z:=zN bz lm sm c sp sc ko kc R T) (B:=[]) rE ?_)));exact RQ.post (bb rfl rfl rfl) (.keep .nil) ⟨rfl,.inr ⟨hE,zN bz lm sm c sp sc ko kc R T,rfl,rfl,hdone bz lm sm sp sc T hT hT1⟩⟩
  ·have hb:=ekeys_bad k hk n hn;rw[if_neg (show¬(1≤n∧n≤512) from hn)] at hE;refine go 6 ?_;refine ab (hb) (h:=?_);refine go 27 ?_;exact RQ.post (bb rfl rfl rfl) (aa _) ⟨rfl,.inl ⟨by rw[hE];exact(by decide),congrArg (fun e=>Value.tuple #[.pointer none,.int .i64 e]) hE.symm,rfl⟩⟩
def epI(L:List Sr):Nat→Nat:=fun j=>if (eU L).any (fun s=>s.id==(j:Int))=true then 1 else 0
theorem epI_yes{L:List Sr}{i q:Nat}{s:Sr}(h:L[i]?=some s)(hq:s.id=(q:Int))(hk:(aH s.kd).isEmpty=false):upN (epI (L.take i)) q 1=epI (L.take (i+1)):=by
 funext j;unfold upN epI;rw[sends_yes h hk,List.any_append];by_cases hj:j=q
 ·subst hj;rw[if_pos rfl,if_pos];simp[hq]
 ·rw[if_neg hj];have:([s].any fun s=>s.id==(j:Int))=false:=by simp[hq];omega
  rw[this,Bool.or_false]
theorem epI_no{L:List Sr}{i:Nat}{s:Sr}(h:L[i]?=some s)(hk:(aH s.kd).isEmpty=true):epI (L.take i)=epI (L.take (i+1)):=by unfold epI;rw[sends_no h hk]
def zR(b:Nat)(c:Cf)(oa:Option Nat)(ca ko kc:Nat)(K:List (List B8))(ep:Nat→Nat):RCr:=⟨b,c,oa,ca,ko,kc,K,ep,fun _=>0,none,0,[]⟩
structure RNewZ(c:Cf)(oa:Option Nat)(ca:Nat)(k:List B8)(n:Nat)(z:RCr):Prop where
 ok:z.Ok
 cf:z.c=c
 oa:z.oa=oa
 ca:z.ca=ca
 K:z.K=(bF k (n+1)).reverse
 ep:z.ep=epI c.L
 ct:z.ct=fun _=>0
 l:z.l=[]
def RNewC(c:Cf)(oa:Option Nat)(ca:Nat)(k:List B8)(n:Int):Value→List It→List It→Prop:=fun v I' H'=>I'=[]∧((newE c k n≠0∧v=.tuple #[.pointer none,.int .i64 (newE c k n)]∧H'=[])∨(newE c k n=0∧∃z,v=.tuple #[.pointer (some ⟨z.b,0,none⟩),.int .i64 0]∧H'=[eN z]∧RNewZ c oa ca k n.toNat z))
theorem rnewZ_ok{b:Nat}{c:Cf}{oa:Option Nat}{ca ko kc:Nat}{k:List B8}{n:Nat}(hc:c.Fit)(hok:c.ok=true)(hk:k.length=32)(hn:1≤n∧n≤512):RNewZ c oa ca k n (zR b c oa ca ko kc (bF k (n+1)).reverse (epI c.L)):=by obtain⟨h1,h2⟩:=ok_srs hok;refine⟨⟨hc.cm,fun s hs=>⟨hc.L s hs,srs_ok h1 s hs⟩,Nat.le_trans h2 (by decide),gX hk _,by show 1≤(bF k (n+1)).reverse.length∧(bF k (n+1)).reverse.length≤513;rw[List.length_reverse,dB];omega,fun i=>?_,fun i=>by show 0<_;decide,by simp[zR],by simp[zR]⟩,rfl,rfl,rfl,rfl,rfl,rfl,rfl⟩;show epI c.L i<4294967296;unfold epI;split<;>decide
theorem fill_rcr{c:Cf}{sl ks:Value}(h:c.cm.length=32)(hk:ks.oneCell'=true){places:Array (Nat×Nat)}(hp:places= #[(0,45),(45,1),(46,8),(54,8),(62,1)]):bX (places[·]?) (zeroC.cells (.slice none 0 0)++(.slice none 0 0::(e8 (fun _=>0)++(c8 (fun _=>0)++[.slice none 0 0])))) [(0,.agg (c.cells sl).toArray),(1,ks)]=some ((c.cells sl++[ks])++(e8 (fun _=>0)++(c8 (fun _=>0)++[.slice none 0 0]))):=by subst hp;have h45:=cj h sl;refine aK (vs:=c.cells sl) [] (zeroC.cells (.slice none 0 0)) (.slice none 0 0::(e8 (fun _=>0)++(c8 (fun _=>0)++[.slice none 0 0]))) rfl (cq _) rfl rfl rfl h45 ?_;refine aK (vs:=[ks]) (c.cells sl) [.slice none 0 0] (e8 (fun _=>0)++(c8 (fun _=>0)++[.slice none 0 0])) rfl (by rw[cells_one hk]) rfl h45 rfl rfl ?_;simp[bX]
theorem zR_cells{b:Nat}{c:Cf}{oa:Option Nat}{ca ko kc n:Nat}{K:List (List B8)}{ep:Nat→Nat}(h:K.length=n):(zR b c oa ca ko kc K ep).cells=(c.cells (aE oa c.L.length ca)++[aE (some ko) n kc])++(e8 ep++(c8 (fun _=>0)++[.slice none 0 0])):=by subst h;rfl
theorem epI_nil(L:List Sr):epI (L.take 0)=fun _=>0:=by funext j;simp[epI,eU]
theorem rNew_any(c:Cf)(oa:Option Nat)(ca m:Nat)(k:List B8)(n:Int)(hc:c.Fit)(hm:c.L.length=m)(hmb:m≤1000000)(hk:k.length=32):Spc Tryz.prog 29 #[.agg (c.cells (aE oa m ca)).toArray,.agg (bytes k).toArray,.int .i64 n] [sls (oa.map fun b=>⟨b,0,none⟩) 48 m (c.L.flatMap Sr.cells)] [] (RNewC c oa ca k n):=by
 subst hm;have h45:=cj hc.cm (aE oa c.L.length ca);have hE:newE c k n=newE c k n:=rfl;conv at hE=>rhs;rw[newE]
 refine Spc.enter Tryz.func29 (h:=?_);refine fun w0 hw0=>?_;refine go 10 ?_;intro b1 b2;refine aB (A:=[cel b1 (c.cells (aE oa c.L.length ca)) 110]) (B:=[cel b2 (bytes k) 31]) (h:=?_);refine aW (fun J hJ=>?_);have m1:cel b1 (c.cells (aE oa c.L.length ca)) 110∈J:=hJ _ (List.Mem.head _);have mS:sls (oa.map fun b=>⟨b,0,none⟩) 48 c.L.length (c.L.flatMap Sr.cells)∈J:=hJ _ (List.Mem.tail _ (List.Mem.head _));clear hJ;have fC:RdsN J ⟨b1,0,none⟩ 45 (c.cells (aE oa c.L.length ca)):=⟨fun _=>Rds.allI m1,h45⟩;have fM:RdsN J ⟨b1,0+9,none⟩ 32 (bytes c.cm):=aV m1 (cf_cm c _) (by rw[List.length_map,hc.cm]);have fL:RdI J ⟨b1,0+0,none⟩ (aE oa c.L.length ca):=⟨fun _=>Rd.celI m1 rfl⟩;refine go 2 ?_;refine ar (rcheck_any c oa ca _ rfl hc (by omega)) Tryz.call64 rfl rfl rfl rfl (.inI mS .nil) ?_;refine go 9 ?_;refine CW.cond rfl (fun h1=>?_) (fun h1=>?_)
 ·refine go 9 ?_;have h1:c.err≠0:=by simpa using h1
  rw[if_pos h1] at hE;exact RQ.post (bb rfl rfl rfl) (aa _) ⟨rfl,.inl ⟨by rw[hE];exact h1,congrArg (fun e=>Value.tuple #[.pointer none,.int .i64 e]) hE.symm,rfl⟩⟩
 ·have h1:c.err=0:=by simpa using h1
  rw[if_neg (by omega)] at hE;have hok:=err_zero h1;obtain⟨hsr,hl8⟩:=ok_srs hok;by_cases hn:okN n
  ·have hn':=hn;unfold okN at hn';obtain⟨j,rfl⟩:∃j:Nat,n=(j:Int):=⟨n.toNat,by omega⟩;rw[if_pos hn',Int.toNat_natCast] at hE;have hkl:=d6 hk j;refine go 4 ?_;refine aT (ho:=rfl) (hl:=by rw[List.length_map,hk]) (h:=?_);refine go 1 ?_;refine ax (rkeys_ok k hk j hn) (hb:=.inl rfl) (h:=?_);rintro _ _ _ ⟨ko,kc,rfl,rfl,rfl⟩;have hx:=chainR_get k j;have hL:=gX hk (j+1);refine go 19 ?_;refine ae (Sq.of [0,1,2,3,4,5]) [] [] [0,1,3,4,5] (h:=?_);refine go 1 ?_;refine aP (j:=0) (ho:=rfl) (h:=?_);refine ak (vs:=bytes (cG k j)) (hs:=by rw[List.length_map,hkl];exact KS31.h) (ho:=rfl) (hr:=iZ (f:=bytes) mQ hx (fun z hz=>by rw[List.length_map];exact hL z hz)) (h:=?_);refine go 2 ?_;refine bj (hr:=key_ne _ _ hkl hc.cm _ _) (h:=go 2 ?_);refine CW.cond rfl (fun h2=>?_) (fun h2=>?_)
   ·refine go 8 ?_;have h2:cG k j≠c.cm:=by simpa using h2
    rw[if_neg h2] at hE;exact RQ.post (bb rfl rfl rfl) (aa _) ⟨rfl,.inl ⟨by rw[hE];exact(by decide),congrArg (fun e=>Value.tuple #[.pointer none,.int .i64 e]) hE.symm,rfl⟩⟩
   ·have h2:cG k j=c.cm:=by simpa using h2
    rw[if_pos h2] at hE;have hKl:(bF k (j+1)).reverse.length=j+1:=by rw[List.length_reverse,dB]
    have hdone:=fun(b:Nat)=>rnewZ_ok (b:=b) (oa:=oa) (ca:=ca) (ko:=ko) (kc:=kc) (n:=j) hc hok hk (by omega);generalize (bF k (j+1)).reverse=R at hx hL hKl hdone;refine go 6 ?_;refine ay (zR 0 c oa ca ko kc R fun _=>0).cells (ho:=rfl) (hf:=by rw[zR_cells hKl];exact fill_rcr hc.cm rfl rfl) (h:=?_);refine RL.box (cs:=(zR 0 c oa ca ko kc R fun _=>0).cells) rfl rfl rfl rfl rfl rfl (fun bz=>?_);refine go 10 ?_;refine CW.loop (γ:=Nat) (fun i=>i≤c.L.length) (fun i=>[(3,.pointer (some ⟨b1,0,none⟩)),(11,.pointer (some ⟨bz,0,none⟩)),(12,.int .i64 (i:Int))]) (fun _=>J) (fun i=>[cel bz (zR bz c oa ca ko kc R (epI (c.L.take i))).cells 146,own (some ko) kc 31 32 (j+1) (cv R)]) (fun i=>c.L.length-i) 0 (Nat.zero_le _) (.cons rfl (.cons rfl (.cons rfl .nil))) (fun w h=>by rw[epI_nil];exact h.rea (fun _ h=>h) rE) ?_;intro i hi;refine aR (p:=oa=none→c.L.length=0) (fun w hC e=>bf (hC.s.i _ mS) (by rw[e];rfl)) (fun hpa=>?_);refine go 10 ?_;refine CW.cond rfl (fun hlt=>?_) (fun hlt=>?_)
    ·have hlt:i<c.L.length:=by simp at hlt;omega
     have hx:=List.getElem?_eq_getElem hlt;have hsy:=fun q h=>epI_yes (q:=q) hx h;have hsn:=fun h=>epI_no hx h;have hid0:=srs_ok hsr _ (List.getElem_mem hlt);generalize c.L[i]=s at hx hsy hsn hid0;obtain⟨q,hq⟩:∃q:Nat,s.id=(q:Int):=⟨s.id.toNat,by omega⟩;have hq8:q<8:=by omega
     have hsf:=hc.L s (List.mem_of_getElem? hx);have hLl:∀s∈c.L,s.cells.length=48:=fun s hs=>c7 (hc.L s hs).rt
     obtain⟨sb,rfl⟩:∃sb,oa=some sb:=by
      cases h:oa with
      | none=>exact absurd (hpa h) (by omega)
      | some sb=>exact⟨sb,rfl⟩
     have fI:RdI J ⟨sb,0+i*48+0,none⟩ (.int .i64 s.id):=gQ (f:=Sr.cells) mS hx hLl rfl;have fK:RdI J ⟨sb,0+i*48+1,none⟩ (.int .i64 s.kd):=gQ (f:=Sr.cells) mS hx hLl rfl;have hst:=rset_e (z:=zR bz c (some sb) ca ko kc R (epI (c.L.take i))) hc.cm hq8 1;have hln:=rcr_len (z:=zR bz c (some sb) ca ko kc R (epI (c.L.take i))) hc.cm;refine go 9 ?_;refine aP (j:=i) (ho:=rfl) (hlt:=hlt) (h:=go 2 ?_);refine RL.call (rkinds_any s.kd) (hl:=.nil) (hb:=.inl rfl) (h:=?_);rintro _ _ _ ⟨qo,qc,rfl,rfl,rfl⟩;have hkl:=jl s.kd;refine go 4 ?_;refine CW.cond rfl (fun hk=>?_) (fun hk=>?_)
     ·have hk:(aH s.kd).isEmpty=false:=by
       cases h:aH s.kd with
       | nil=>rw[h] at hk;simp at hk
       | cons a l=>rfl
      refine ae (Sq.of [0,1,2,3,4,5,6,7,8,9,10]) [10] [10] [0,1,2,3,4,5,6,7,8,9] (h:=?_);refine go 4 ?_;refine aP (j:=i) (ho:=rfl) (hlt:=hlt) (h:=go 4 ?_);refine av (d:=59) (v':=.int .i64 (q:Int)) rfl (by rw[hq]) ?_;refine al (j:=q) (ho:=rfl) (hlt:=hq8) (h:=?_);refine aj (vs:=[.int .u32 ((1:Nat):Int)]) hst (ho:=rfl) (hl:=by rw[hln];show 0+46+q*1+1≤63;omega) (h:=?_);refine go 5 ?_;refine ap rfl (ad (by omega) (by omega)) ?_;refine go 2 ?_;refine NQ.round (g:=i) (i+1) hlt (by show c.L.length-(i+1)<c.L.length-i;omega) (.cons rfl (.cons rfl (.cons rfl .nil))) (fun w h=>?_);rw[←hsy q hq hk];exact h.rea (fun _ h=>h) rE
     ·refine go 5 ?_;refine ap rfl (ad (by omega) (by omega)) ?_;refine go 2 ?_
      have hk:(aH s.kd).isEmpty=true:=by
       cases h:aH s.kd with
       | nil=>rfl
       | cons a l=>rw[h] at hk;simp at hk
      refine NQ.round (g:=i) (i+1) hlt (by show c.L.length-(i+1)<c.L.length-i;omega) (.cons rfl (.cons rfl (.cons rfl .nil))) (fun w h=>?_);rw[←hsn hk];exact h.rea (fun _ h=>h) rE
    ·have hin:i=c.L.length:=by simp at hlt;omega
     subst hin;rw[List.take_length];refine go 13 ?_;rw[bE (ob:=some ko) (n':=R.length) hKl.symm rfl];refine dx (e:=151) 21 (RQ.pack (l:=[]) (RQ.rcr (z:=zR bz c oa ca ko kc R (epI c.L)) (C:=[]) rE ?_));exact RQ.post (bb rfl rfl rfl) (.keep .nil) ⟨rfl,.inr ⟨hE,zR bz c oa ca ko kc R (epI c.L),rfl,rfl,hdone bz⟩⟩
  ·have hb:=rkeys_bad k hk n hn;rw[if_neg (show¬(1≤n∧n≤512) from hn)] at hE;refine go 6 ?_;refine ab (hb) (h:=?_);refine go 24 ?_;exact RQ.post (bb rfl rfl rfl) (aa _) ⟨rfl,.inl ⟨by rw[hE];exact(by decide),congrArg (fun e=>Value.tuple #[.pointer none,.int .i64 e]) hE.symm,rfl⟩⟩
theorem nat_step{l:List B8}{o i:Nat}(h:o+i<l.length):iH l o (i+1)=256*iH l o i+(bat l (o+i)).toNat:=by
 have hl:i<(l.drop o).length:=by rw[List.length_drop];omega
 unfold iH;rw[numB_take _ _ hl,List.getElem_drop];simp[bat,h]
theorem nat_wrap{l:List B8}{o i:Nat}(h:o+i<l.length)(h8:i<8):IntKind.u64.wrap (IntKind.u64.wrap (256*(iH l o i:Int))+IntKind.u64.wrap ((bat l (o+i)).toNat:Int))=(iH l o (i+1):Int):=by have hb:=(bat l (o+i)).isLt;have h1:=nat_lt l o i;have h2:256^i≤256^7:=Nat.pow_le_pow_right (by decide) (by omega);rw[nat_step h];simp[IntKind.wrap,IntKind.bits,IntKind.signed];omega
theorem dV(l:List B8)(o:Nat):IntKind.u32.wrap (iH l o 4:Int)=(iH l o 4:Int):=by have h:=nat_lt l o 4;simp[IntKind.wrap,IntKind.bits,IntKind.signed];omega
theorem fg(l:List B8)(o:Nat):IntKind.u16.wrap (iH l o 2:Int)=(iH l o 2:Int):=by have h:=nat_lt l o 2;simp[IntKind.wrap,IntKind.bits,IntKind.signed];omega
theorem spl_length57{r:Rdg}{o:Nat}{v:Value}:(bP (Rdg.cells r) o [v]).length=57:=by rw[gD];rfl
def r1(l:List B8)(j:Nat):Rdg:= { rz 1 with g0:=if 0<j then fp l 0 else 0,g1:=if 1<j then fp l 4 else 0,g2:=if 2<j then fp l 8 else 0,a0:=if 0<j then fp l 12 else 0,a1:=if 1<j then fp l 16 else 0,a2:=if 2<j then fp l 20 else 0 }
theorem r1_step(l:List B8):∀ {j:Nat},j<3→bP (bP (Rdg.cells (r1 l j)) (0+1+j*1) [.int .i32 (fp l (4*j))]) (0+4+j*1) [.int .i32 (fp l (12+4*j))]=Rdg.cells (r1 l (j+1))
 | 0,_=>rfl
 | 1,_=>rfl
 | 2,_=>rfl
def r6(l:List B8)(j:Nat):Rdg:= { rz 6 with interval:=iH l 0 4,key:=fun q=>if q<j then bat l (4+q) else 0 }
theorem r6_step(l:List B8):∀ {j:Nat},j<32→bP (Rdg.cells (r6 l j)) (0+16+j*1) [U8 (bat l (4+j))]=Rdg.cells (r6 l (j+1))
 | 0,_=>rfl
 | 1,_=>rfl
 | 2,_=>rfl
 | 3,_=>rfl
 | 4,_=>rfl
 | 5,_=>rfl
 | 6,_=>rfl
 | 7,_=>rfl
 | 8,_=>rfl
 | 9,_=>rfl
 | 10,_=>rfl
 | 11,_=>rfl
 | 12,_=>rfl
 | 13,_=>rfl
 | 14,_=>rfl
 | 15,_=>rfl
 | 16,_=>rfl
 | 17,_=>rfl
 | 18,_=>rfl
 | 19,_=>rfl
 | 20,_=>rfl
 | 21,_=>rfl
 | 22,_=>rfl
 | 23,_=>rfl
 | 24,_=>rfl
 | 25,_=>rfl
 | 26,_=>rfl
 | 27,_=>rfl
 | 28,_=>rfl
 | 29,_=>rfl
 | 30,_=>rfl
 | 31,_=>rfl
 | _+32,h=>by omega
theorem bat_v{l:List B8}{o:Nat}(h:o<l.length):(bytes l)[o*1]?=some (U8 (bat l o)):=by rw[Nat.mul_one,List.getElem?_map,bat_get h];rfl
theorem bZ(p:Option Addr)(n c o k:Nat)(l:List B8)(hn:l.length=n)(h:o+k≤n)(h8:k≤8)(hb:n≤1000000000):Spc Tryz.prog 225 #[.slice p n c,.int .i64 (o:Int),.int .i64 (k:Int)] [sls p 1 n (bytes l)] [] (Is (.int .u64 (iH l o k:Int))):=by
 subst hn;refine Spc.enter Tryz.func225 (h:=?_);refine fun w0 hw0=>?_;refine go 17 ?_;refine CW.loop (γ:=Nat) (fun i=>i≤k) (fun i=>[(0,.slice p l.length c),(1,.int .i64 (o:Int)),(2,.int .i64 (k:Int)),(7,.int .u64 (iH l o i:Int)),(8,.int .i64 (i:Int))]) (fun _=>[sls p 1 l.length (bytes l)]) (fun _=>[]) (fun i=>k-i) 0 (by omega) (.cons rfl (.cons rfl (.cons rfl (.cons rfl (.cons rfl .nil))))) (fun w h=>h) ?_;intro i hi;refine aR (p:=p=none→l.length=0) (fun w hC e=>bf (hC.s.i _ (List.Mem.head _)) e) (fun hpp=>?_);refine go 8 ?_;refine CW.cond rfl (fun hlt=>?_) (fun hlt=>?_)
 ·refine go 10 ?_;refine ap rfl (ad (by omega) (by omega)) ?_;have hlt:i<k:=by simp at hlt;omega
  have hv:(bytes l)[(o+i)*1]?=some (U8 (bat l (o+i))):=by rw[Nat.mul_one,List.getElem?_map,bat_get (by omega)];rfl
  obtain⟨a,rfl⟩:∃a,p=some a:=by
   cases p with
   | none=>exact absurd (hpp rfl) (by omega)
   | some a=>exact⟨a,rfl⟩
  refine aS (j:=o+i) (ho:=rfl) (hj:=by omega) (h:=?_);refine go 9 ?_;refine ap rfl (ad (by omega) (by omega)) ?_;refine go 2 ?_;rw[nat_wrap (by omega) (by omega)];exact NQ.round (g:=i) (i+1) hlt (by omega) (.cons rfl (.cons rfl (.cons rfl (.cons rfl (.cons rfl .nil))))) (fun w h=>h)
 ·refine go 12 ?_;have hik:i=k:=by simp at hlt;omega
  subst hik;exact RQ.post (az rfl rfl) (aa _) ⟨rfl,rfl,rfl⟩
theorem rgot_1(p:Option Addr)(n c:Nat)(l:List B8)(hn:l.length=n)(h:n=24):Spc Tryz.prog 149 #[.int .i64 1,.slice p n c] [sls p 1 n (bytes l)] [] (Is (hP (bV 1 l))):=by
 subst h;refine cV (g:=fun p=> #[.int .i64 1,.slice p 24 c]) (I:=fun p=>[sls p 1 24 (bytes l)]) (H:=fun _=>[]) (R:=fun _=>Is _) (List.Mem.head _) (by decide) (fun q _=>?_);refine Spc.enter Tryz.func149 (h:=?_);refine fun w0 hw0=>?_;refine go 9 ?_;intro b1;refine ab (bU 1) (h:=?_);refine go 1 ?_;rw[show cu 1=.tuple #[.int .i64 24,.int .i64 0] from rfl];refine go 12 ?_;refine av (d:=18) (v':=.bool false) rfl (rfl) ?_;refine go 13 ?_;refine ay (Rdg.cells (rz 1)) (ho:=rfl) (h:=go 24 ?_);intro b2;refine CW.loop (γ:=Nat) (fun j=>j≤3) (fun j=>[(0,.int .i64 1),(1,.slice (some q) 24 c),(4,.pointer (some ⟨b1,0,none⟩)),(8,.pointer (some ⟨b2,0,none⟩)),(9,.int .i64 (j:Int))]) (fun _=>[sls (some q) 1 24 (bytes l)]) (fun j=>[cel b2 (Rdg.cells (r1 l j)) 54,cel b1 (Rdg.cells (rz 0)) 54]) (fun j=>3-j) 0 (by decide) (.cons rfl (.cons rfl (.cons rfl (.cons rfl (.cons rfl .nil))))) (fun w h=>h) ?_;intro j hj;refine go 7 ?_;refine CW.cond rfl (fun hlt=>?_) (fun hlt=>?_)
 ·have hlt:j<3:=by simp at hlt;omega
  refine go 9 ?_;refine ap rfl (ad (by omega) (by omega)) ?_;refine ab (bZ (some q) 24 c (4*j) 4 l hn (by omega) (by decide) (by decide)) (h:=?_);refine go 3 ?_;refine al (j:=j) KU50.h KS49.h rfl rfl rfl rfl rfl rfl hlt (aj (cs':=bP (Rdg.cells (r1 l j)) (0+1+j*1) [.int .i32 (fp l (4*j))]) (vs:=[_]) (by rw[dV];rfl) KS49.h rfl rfl rfl rfl rfl rfl rfl rfl uE (by show 0+1+j*1+1≤57;omega) ?_);refine go 6 ?_;refine ap rfl (ad (by omega) (by omega)) ?_;refine ap rfl (ad (by omega) (by omega)) ?_;refine ab (bZ (some q) 24 c (12+4*j) 4 l hn (by omega) (by decide) (by decide)) (h:=?_);refine go 3 ?_;refine al (j:=j) KU50.h KS49.h rfl rfl rfl rfl rfl rfl hlt (aj (cs':=Rdg.cells (r1 l (j+1))) (vs:=[_]) (by rw[dV];exact r1_step l hlt) KS49.h rfl rfl rfl rfl rfl rfl rfl rfl uE (by rw[spl_length57];show 0+4+j*1+1≤57;omega) ?_);refine go 5 ?_;refine ap rfl (ad (by omega) (by omega)) ?_;refine go 2 ?_;exact NQ.round (g:=j) (j+1) hlt (by omega) (.cons rfl (.cons rfl (.cons rfl (.cons rfl (.cons rfl .nil))))) (fun w h=>h)
 have hj3:j=3:=by simp at hlt;omega
 subst hj3;refine go 13 ?_;have hm:(bH 1 l).mode=0#8:=rfl;have hq:(bH 1 l).epoch=0:=rfl;have hz:bW 1=24:=rfl;refine av (d:=187) (v':=.bool false) rfl (rfl) ?_;refine go 3 ?_;refine av (d:=190) (v':=.bool false) rfl (rfl) ?_;refine go 7 ?_;refine ag (h:=go 10 ?_);have hok:1≤(1:Int)∧(1:Int)≤14∧l.length=bW 1∧(bH 1 l).mode.toNat≤2∧¬((1:Int)=10∧(bH 1 l).epoch=0):=by refine⟨by decide,by decide,by omega,by rw[hm];decide,by omega⟩
 exact RQ.post (bG rfl rfl rfl KA54.h KS54.h mQ rfl) (aa _) ⟨by rw[bV,if_pos hok];(try simp only[dV,fg]);rfl,rfl,rfl⟩
theorem rgot_2(p:Option Addr)(n c:Nat)(l:List B8)(hn:l.length=n)(h:n=8):Spc Tryz.prog 149 #[.int .i64 2,.slice p n c] [sls p 1 n (bytes l)] [] (Is (hP (bV 2 l))):=by
 subst h;refine cV (g:=fun p=> #[.int .i64 2,.slice p 8 c]) (I:=fun p=>[sls p 1 8 (bytes l)]) (H:=fun _=>[]) (R:=fun _=>Is _) (List.Mem.head _) (by decide) (fun q _=>?_);refine Spc.enter Tryz.func149 (h:=?_);refine fun w0 hw0=>?_;refine go 9 ?_;intro b1;refine ab (bU 2) (h:=?_);refine go 1 ?_;rw[show cu 2=.tuple #[.int .i64 8,.int .i64 0] from rfl];refine go 12 ?_;refine av (d:=18) (v':=.bool false) rfl (rfl) ?_;refine go 13 ?_;refine ay (Rdg.cells (rz 2)) (ho:=rfl) (h:=go 27 ?_);intro b2;refine ab (bZ (some q) 8 c 0 8 l hn (by decide) (by decide) (by decide)) (h:=?_);refine go 13 ?_;have hm:(bH 2 l).mode=0#8:=rfl;have hq:(bH 2 l).epoch=0:=rfl;have hz:bW 2=8:=rfl;refine av (d:=187) (v':=.bool false) rfl (rfl) ?_;refine go 3 ?_;refine av (d:=190) (v':=.bool false) rfl (rfl) ?_;refine go 7 ?_;refine ag (h:=go 10 ?_);have hok:1≤(2:Int)∧(2:Int)≤14∧l.length=bW 2∧(bH 2 l).mode.toNat≤2∧¬((2:Int)=10∧(bH 2 l).epoch=0):=by refine⟨by decide,by decide,by omega,by rw[hm];decide,by omega⟩
 exact RQ.post (bG rfl rfl rfl KA54.h KS54.h mQ rfl) (aa _) ⟨by rw[bV,if_pos hok];(try simp only[dV,fg]);rfl,rfl,rfl⟩
theorem rgot_3(p:Option Addr)(n c:Nat)(l:List B8)(hn:l.length=n)(h:n=4):Spc Tryz.prog 149 #[.int .i64 3,.slice p n c] [sls p 1 n (bytes l)] [] (Is (hP (bV 3 l))):=by
 subst h;refine cV (g:=fun p=> #[.int .i64 3,.slice p 4 c]) (I:=fun p=>[sls p 1 4 (bytes l)]) (H:=fun _=>[]) (R:=fun _=>Is _) (List.Mem.head _) (by decide) (fun q _=>?_);refine Spc.enter Tryz.func149 (h:=?_);refine fun w0 hw0=>?_;refine go 9 ?_;intro b1;refine ab (bU 3) (h:=?_);refine go 1 ?_;rw[show cu 3=.tuple #[.int .i64 4,.int .i64 0] from rfl];refine go 12 ?_;refine av (d:=18) (v':=.bool false) rfl (rfl) ?_;refine go 13 ?_;refine ay (Rdg.cells (rz 3)) (ho:=rfl) (h:=go 34 ?_);intro b2;refine ab (bZ (some q) 4 c 0 4 l hn (by decide) (by decide) (by decide)) (h:=?_);refine go 13 ?_;have hm:(bH 3 l).mode=0#8:=rfl;have hq:(bH 3 l).epoch=0:=rfl;have hz:bW 3=4:=rfl;refine av (d:=187) (v':=.bool false) rfl (rfl) ?_;refine go 3 ?_;refine av (d:=190) (v':=.bool false) rfl (rfl) ?_;refine go 7 ?_;refine ag (h:=go 10 ?_);have hok:1≤(3:Int)∧(3:Int)≤14∧l.length=bW 3∧(bH 3 l).mode.toNat≤2∧¬((3:Int)=10∧(bH 3 l).epoch=0):=by refine⟨by decide,by decide,by omega,by rw[hm];decide,by omega⟩
 exact RQ.post (bG rfl rfl rfl KA54.h KS54.h mQ rfl) (aa _) ⟨by rw[bV,if_pos hok];(try simp only[dV,fg]);rfl,rfl,rfl⟩
theorem rgot_4(p:Option Addr)(n c:Nat)(l:List B8)(hn:l.length=n)(h:n=8):Spc Tryz.prog 149 #[.int .i64 4,.slice p n c] [sls p 1 n (bytes l)] [] (Is (hP (bV 4 l))):=by
 subst h;refine cV (g:=fun p=> #[.int .i64 4,.slice p 8 c]) (I:=fun p=>[sls p 1 8 (bytes l)]) (H:=fun _=>[]) (R:=fun _=>Is _) (List.Mem.head _) (by decide) (fun q _=>?_);refine Spc.enter Tryz.func149 (h:=?_);refine fun w0 hw0=>?_;refine go 9 ?_;intro b1;refine ab (bU 4) (h:=?_);refine go 1 ?_;rw[show cu 4=.tuple #[.int .i64 8,.int .i64 0] from rfl];refine go 12 ?_;refine av (d:=18) (v':=.bool false) rfl (rfl) ?_;refine go 13 ?_;refine ay (Rdg.cells (rz 4)) (ho:=rfl) (h:=go 41 ?_);intro b2;refine ab (bZ (some q) 8 c 0 4 l hn (by decide) (by decide) (by decide)) (h:=?_);refine go 3 ?_;refine ab (bZ (some q) 8 c 4 4 l hn (by decide) (by decide) (by decide)) (h:=?_);refine go 15 ?_;have hm:(bH 4 l).mode=0#8:=rfl;have hq:(bH 4 l).epoch=0:=rfl;have hz:bW 4=8:=rfl;refine av (d:=187) (v':=.bool false) rfl (rfl) ?_;refine go 3 ?_;refine av (d:=190) (v':=.bool false) rfl (rfl) ?_;refine go 7 ?_;refine ag (h:=go 10 ?_);have hok:1≤(4:Int)∧(4:Int)≤14∧l.length=bW 4∧(bH 4 l).mode.toNat≤2∧¬((4:Int)=10∧(bH 4 l).epoch=0):=by refine⟨by decide,by decide,by omega,by rw[hm];decide,by omega⟩
 exact RQ.post (bG rfl rfl rfl KA54.h KS54.h mQ rfl) (aa _) ⟨by rw[bV,if_pos hok];(try simp only[dV,fg]);rfl,rfl,rfl⟩
theorem rgot_5(p:Option Addr)(n c:Nat)(l:List B8)(hn:l.length=n)(h:n=29):Spc Tryz.prog 149 #[.int .i64 5,.slice p n c] [sls p 1 n (bytes l)] [] (Is (hP (bV 5 l))):=by
 subst h;refine cV (g:=fun p=> #[.int .i64 5,.slice p 29 c]) (I:=fun p=>[sls p 1 29 (bytes l)]) (H:=fun _=>[]) (R:=fun _=>Is _) (List.Mem.head _) (by decide) (fun q _=>?_);refine Spc.enter Tryz.func149 (h:=?_);refine fun w0 hw0=>?_;refine go 9 ?_;intro b1;refine ab (bU 5) (h:=?_);refine go 1 ?_;rw[show cu 5=.tuple #[.int .i64 29,.int .i64 0] from rfl];refine go 12 ?_;refine av (d:=18) (v':=.bool false) rfl (rfl) ?_;refine go 13 ?_;refine ay (Rdg.cells (rz 5)) (ho:=rfl) (h:=go 47 ?_);intro b2;refine CW.cut [(0,.int .i64 5),(1,.slice (some q) 29 c),(4,.pointer (some ⟨b1,0,none⟩)),(8,.pointer (some ⟨b2,0,none⟩))] [sls (some q) 1 29 (bytes l)] [cel b2 (bP (bP (Rdg.cells (rz 5)) (0+11) [.int .u32 (IntKind.u32.wrap (iH l 0 4:Int))]) (0+12) [U8 (bat l 4)]) 54,cel b1 (Rdg.cells (rz 0)) 54] ?_ ?_
 ·have hv4:=bat_v (l:=l) (o:=4) (by omega);refine ae (.cons 0 (.cons 1 (.cons 2 (.cons 3 (.cons 4 (.cons 6 (.fork [5,7] (fun k=>(bif Nat.beq k 5 then(Sq.of [7,8,9]) else(Sq.of [5,8,9])))))))))) [7,9] [7,9] [0,2,3,4,6,8] (h:=?_);refine go 1 ?_;refine ab (bZ (some q) 29 c 0 4 l hn (by decide) (by decide) (by decide)) (h:=?_);refine go 2 ?_;refine aS (j:=4) (ho:=rfl) (hlt:=by decide) (h:=?_);refine go 1 ?_;refine RL.fork ⟨?_,?_,trivial⟩
  ·refine go 5 ?_;exact NQ.mid (.cons rfl (.cons rfl (.cons rfl (.cons rfl .nil)))) (fun _ h=>h)
  ·refine go 5 ?_;exact NQ.mid (.cons rfl (.cons rfl (.cons rfl (.cons rfl .nil)))) (fun _ h=>h)
 refine go 2 ?_;refine ab (bZ (some q) 29 c 5 8 l hn (by decide) (by decide) (by decide)) (h:=?_);refine go 2 ?_;refine ab (bZ (some q) 29 c 13 8 l hn (by decide) (by decide) (by decide)) (h:=?_);refine go 2 ?_;refine ab (bZ (some q) 29 c 21 8 l hn (by decide) (by decide) (by decide)) (h:=?_);refine go 1 ?_;refine bi [_,_,_] (ho:=rfl) (h:=go 1 ?_);refine aj (cs':=bP _ (0+13) [_,_,_]) (vs:=[_,_,_]) (ho:=rfl) (hl:=Nat.le_of_ble_eq_true rfl) (h:=?_);refine go 10 ?_;have hm:(bH 5 l).mode=0#8:=rfl;have hq:(bH 5 l).epoch=0:=rfl;have hz:bW 5=29:=rfl;refine av (d:=187) (v':=.bool false) rfl (rfl) ?_;refine go 3 ?_;refine av (d:=190) (v':=.bool false) rfl (rfl) ?_;refine go 7 ?_;refine ag (h:=go 10 ?_);have hok:1≤(5:Int)∧(5:Int)≤14∧l.length=bW 5∧(bH 5 l).mode.toNat≤2∧¬((5:Int)=10∧(bH 5 l).epoch=0):=by refine⟨by decide,by decide,by omega,by rw[hm];decide,by omega⟩
 exact RQ.post (bG rfl rfl rfl KA54.h KS54.h mQ rfl) (aa _) ⟨by rw[bV,if_pos hok];(try simp only[dV,fg]);rfl,rfl,rfl⟩
theorem rgot_6(p:Option Addr)(n c:Nat)(l:List B8)(hn:l.length=n)(h:n=36):Spc Tryz.prog 149 #[.int .i64 6,.slice p n c] [sls p 1 n (bytes l)] [] (Is (hP (bV 6 l))):=by
 subst h;refine cV (g:=fun p=> #[.int .i64 6,.slice p 36 c]) (I:=fun p=>[sls p 1 36 (bytes l)]) (H:=fun _=>[]) (R:=fun _=>Is _) (List.Mem.head _) (by decide) (fun q _=>?_);refine Spc.enter Tryz.func149 (h:=?_);refine fun w0 hw0=>?_;refine go 9 ?_;intro b1;refine ab (bU 6) (h:=?_);refine go 1 ?_;rw[show cu 6=.tuple #[.int .i64 36,.int .i64 0] from rfl];refine go 12 ?_;refine av (d:=18) (v':=.bool false) rfl (rfl) ?_;refine go 13 ?_;refine ay (Rdg.cells (rz 6)) (ho:=rfl) (h:=go 56 ?_);intro b2;refine ab (bZ (some q) 36 c 0 4 l hn (by decide) (by decide) (by decide)) (h:=?_);refine go 11 ?_;refine CW.loop (γ:=Nat) (fun j=>j≤32) (fun j=>[(0,.int .i64 6),(1,.slice (some q) 36 c),(4,.pointer (some ⟨b1,0,none⟩)),(8,.pointer (some ⟨b2,0,none⟩)),(10,.int .i64 (j:Int))]) (fun _=>[sls (some q) 1 36 (bytes l)]) (fun j=>[cel b2 (Rdg.cells (r6 l j)) 54,cel b1 (Rdg.cells (rz 0)) 54]) (fun j=>32-j) 0 (by decide) (.cons rfl (.cons rfl (.cons rfl (.cons rfl (.cons rfl .nil))))) (fun w h=>by rw[dV] at h;exact h) ?_;intro j hj;refine go 7 ?_;refine CW.cond rfl (fun hlt=>?_) (fun hlt=>?_)
 ·refine go 8 ?_;refine ap rfl (ad (by omega) (by omega)) ?_;have hlt:j<32:=by simp at hlt;omega
  have hv:=bat_v (l:=l) (o:=4+j) (by omega);refine aS (j:=4+j) (ho:=rfl) (hj:=by omega) (h:=?_);refine go 2 ?_;refine al (j:=j) (ho:=rfl) (hlt:=hlt) (h:=?_);refine aj (cs':=Rdg.cells (r6 l (j+1))) (vs:=[_]) (r6_step l hlt) (ho:=rfl) (hl:=by show 0+16+j*1+1≤57;omega) (h:=?_);refine go 5 ?_;refine ap rfl (ad (by omega) (by omega)) ?_;refine go 2 ?_;exact NQ.round (g:=j) (j+1) hlt (by omega) (.cons rfl (.cons rfl (.cons rfl (.cons rfl (.cons rfl .nil))))) (fun w h=>h)
 have hj32:j=32:=by simp at hlt;omega
 subst hj32;refine go 13 ?_;have hm:(bH 6 l).mode=0#8:=rfl;have hq:(bH 6 l).epoch=0:=rfl;have hz:bW 6=36:=rfl;refine av (d:=187) (v':=.bool false) rfl (rfl) ?_;refine go 3 ?_;refine av (d:=190) (v':=.bool false) rfl (rfl) ?_;refine go 7 ?_;refine ag (h:=go 10 ?_);have hok:1≤(6:Int)∧(6:Int)≤14∧l.length=bW 6∧(bH 6 l).mode.toNat≤2∧¬((6:Int)=10∧(bH 6 l).epoch=0):=by refine⟨by decide,by decide,by omega,by rw[hm];decide,by omega⟩
 exact RQ.post (bG rfl rfl rfl KA54.h KS54.h mQ rfl) (aa _) ⟨by rw[bV,if_pos hok];(try simp only[dV,fg]);rfl,rfl,rfl⟩
theorem rgot_7(p:Option Addr)(n c:Nat)(l:List B8)(hn:l.length=n)(h:n=8):Spc Tryz.prog 149 #[.int .i64 7,.slice p n c] [sls p 1 n (bytes l)] [] (Is (hP (bV 7 l))):=by
 subst h;refine cV (g:=fun p=> #[.int .i64 7,.slice p 8 c]) (I:=fun p=>[sls p 1 8 (bytes l)]) (H:=fun _=>[]) (R:=fun _=>Is _) (List.Mem.head _) (by decide) (fun q _=>?_);refine Spc.enter Tryz.func149 (h:=?_);refine fun w0 hw0=>?_;refine go 9 ?_;intro b1;refine ab (bU 7) (h:=?_);refine go 1 ?_;rw[show cu 7=.tuple #[.int .i64 8,.int .i64 0] from rfl];refine go 12 ?_;refine av (d:=18) (v':=.bool false) rfl (rfl) ?_;refine go 13 ?_;refine ay (Rdg.cells (rz 7)) (ho:=rfl) (h:=go 62 ?_);intro b2;refine ab (bZ (some q) 8 c 0 8 l hn (by decide) (by decide) (by decide)) (h:=?_);refine go 12 ?_;have hm:(bH 7 l).mode=0#8:=rfl;have hq:(bH 7 l).epoch=0:=rfl;have hz:bW 7=8:=rfl;refine av (d:=187) (v':=.bool false) rfl (rfl) ?_;refine go 3 ?_;refine av (d:=190) (v':=.bool false) rfl (rfl) ?_;refine go 7 ?_;refine ag (h:=go 10 ?_);have hok:1≤(7:Int)∧(7:Int)≤14∧l.length=bW 7∧(bH 7 l).mode.toNat≤2∧¬((7:Int)=10∧(bH 7 l).epoch=0):=by refine⟨by decide,by decide,by omega,by rw[hm];decide,by omega⟩
 exact RQ.post (bG rfl rfl rfl KA54.h KS54.h mQ rfl) (aa _) ⟨by rw[bV,if_pos hok];(try simp only[dV,fg]);rfl,rfl,rfl⟩
theorem rgot_8(p:Option Addr)(n c:Nat)(l:List B8)(hn:l.length=n)(h:n=1):Spc Tryz.prog 149 #[.int .i64 8,.slice p n c] [sls p 1 n (bytes l)] [] (Is (hP (bV 8 l))):=by
 subst h;refine cV (g:=fun p=> #[.int .i64 8,.slice p 1 c]) (I:=fun p=>[sls p 1 1 (bytes l)]) (H:=fun _=>[]) (R:=fun _=>Is _) (List.Mem.head _) (by decide) (fun q _=>?_);refine Spc.enter Tryz.func149 (h:=?_);refine fun w0 hw0=>?_;refine go 9 ?_;intro b1;refine ab (bU 8) (h:=?_);refine go 1 ?_;rw[show cu 8=.tuple #[.int .i64 1,.int .i64 0] from rfl];refine go 12 ?_;refine av (d:=18) (v':=.bool false) rfl (rfl) ?_;refine go 13 ?_;refine ay (Rdg.cells (rz 8)) (ho:=rfl) (h:=go 69 ?_);intro b2;have hv0:=bat_v (l:=l) (o:=0) (by omega);refine aS (j:=0) (ho:=rfl) (hlt:=by decide) (h:=?_);refine go 13 ?_;have hm:(bH 8 l).mode=bat l 0:=rfl;have hq:(bH 8 l).epoch=0:=rfl;have hz:bW 8=1:=rfl;refine RL.part (d:=187) rfl (fun h1=>?_) (fun h1=>?_)
 ·refine go 10 ?_;refine aI (h:=go 9 ?_);have h1:2<(bat l 0).toNat:=by simp at h1;omega
  rw[←hm] at h1;exact RQ.post (bG rfl rfl rfl KA54.h KS54.h mQ rfl) (aa _) ⟨by rw[bV,if_neg (by omega)];rfl,rfl,rfl⟩
 ·refine go 3 ?_;have h1: ¬2<(bat l 0).toNat:=by simp at h1;omega
  refine av (d:=190) (v':=.bool false) rfl (rfl) ?_;refine go 7 ?_;refine ag (h:=go 10 ?_);rw[←hm] at h1;have hok:1≤(8:Int)∧(8:Int)≤14∧l.length=bW 8∧(bH 8 l).mode.toNat≤2∧¬((8:Int)=10∧(bH 8 l).epoch=0):=by refine⟨by decide,by decide,by omega,by omega,by omega⟩
  exact RQ.post (bG rfl rfl rfl KA54.h KS54.h mQ rfl) (aa _) ⟨by rw[bV,if_pos hok];(try simp only[dV,fg]);rfl,rfl,rfl⟩
theorem rgot_9(p:Option Addr)(n c:Nat)(l:List B8)(hn:l.length=n)(h:n=0):Spc Tryz.prog 149 #[.int .i64 9,.slice p n c] [sls p 1 n (bytes l)] [] (Is (hP (bV 9 l))):=by
 subst h;refine Spc.enter Tryz.func149 (h:=?_);refine fun w0 hw0=>?_;refine go 9 ?_;intro b1;refine ab (bU 9) (h:=?_);refine go 1 ?_;rw[show cu 9=.tuple #[.int .i64 0,.int .i64 0] from rfl];refine go 12 ?_;refine av (d:=18) (v':=.bool false) rfl (rfl) ?_;refine go 13 ?_;refine ay (Rdg.cells (rz 9)) (ho:=rfl) (h:=go 105 ?_);intro b2;have hm:(bH 9 l).mode=0#8:=rfl;have hq:(bH 9 l).epoch=0:=rfl;have hz:bW 9=0:=rfl;refine av (d:=187) (v':=.bool false) rfl (rfl) ?_;refine go 3 ?_;refine av (d:=190) (v':=.bool false) rfl (rfl) ?_;refine go 7 ?_;refine ag (h:=go 10 ?_);have hok:1≤(9:Int)∧(9:Int)≤14∧l.length=bW 9∧(bH 9 l).mode.toNat≤2∧¬((9:Int)=10∧(bH 9 l).epoch=0):=by refine⟨by decide,by decide,by omega,by rw[hm];decide,by omega⟩
 exact RQ.post (bG rfl rfl rfl KA54.h KS54.h mQ rfl) (aa _) ⟨by rw[bV,if_pos hok];(try simp only[dV,fg]);rfl,rfl,rfl⟩
theorem rgot_10(p:Option Addr)(n c:Nat)(l:List B8)(hn:l.length=n)(h:n=4):Spc Tryz.prog 149 #[.int .i64 10,.slice p n c] [sls p 1 n (bytes l)] [] (Is (hP (bV 10 l))):=by
 subst h;refine cV (g:=fun p=> #[.int .i64 10,.slice p 4 c]) (I:=fun p=>[sls p 1 4 (bytes l)]) (H:=fun _=>[]) (R:=fun _=>Is _) (List.Mem.head _) (by decide) (fun q _=>?_);refine Spc.enter Tryz.func149 (h:=?_);refine fun w0 hw0=>?_;refine go 9 ?_;intro b1;refine ab (bU 10) (h:=?_);refine go 1 ?_;rw[show cu 10=.tuple #[.int .i64 4,.int .i64 0] from rfl];refine go 12 ?_;refine av (d:=18) (v':=.bool false) rfl (rfl) ?_;refine go 13 ?_;refine ay (Rdg.cells (rz 10)) (ho:=rfl) (h:=go 76 ?_);intro b2;refine ab (bZ (some q) 4 c 0 4 l hn (by decide) (by decide) (by decide)) (h:=?_);refine go 13 ?_;have hm:(bH 10 l).mode=0#8:=rfl;have hq:(bH 10 l).epoch=(iH l 0 4:Int):=rfl;have hz:bW 10=4:=rfl;refine av (d:=187) (v':=.bool false) rfl (rfl) ?_;refine go 3 ?_;refine av (d:=190) (v':=.bool true) rfl (rfl) ?_;refine go 7 ?_;refine CW.cond rfl (fun h3=>?_) (fun h3=>?_)
 ·refine go 9 ?_;have h3:(iH l 0 4:Int)=0:=by simpa[dV] using h3
  rw[←hq] at h3;exact RQ.post (bG rfl rfl rfl KA54.h KS54.h mQ rfl) (aa _) ⟨by rw[bV,if_neg (by omega)];rfl,rfl,rfl⟩
 ·refine go 10 ?_;have h3: ¬(iH l 0 4:Int)=0:=by simpa[dV] using h3
  rw[←hq] at h3;have hok:1≤(10:Int)∧(10:Int)≤14∧l.length=bW 10∧(bH 10 l).mode.toNat≤2∧¬((10:Int)=10∧(bH 10 l).epoch=0):=by refine⟨by decide,by decide,by omega,by rw[hm];decide,fun h=>h3 h.2⟩
  exact RQ.post (bG rfl rfl rfl KA54.h KS54.h mQ rfl) (aa _) ⟨by rw[bV,if_pos hok];(try simp only[dV,fg]);rfl,rfl,rfl⟩
theorem rgot_11(p:Option Addr)(n c:Nat)(l:List B8)(hn:l.length=n)(h:n=0):Spc Tryz.prog 149 #[.int .i64 11,.slice p n c] [sls p 1 n (bytes l)] [] (Is (hP (bV 11 l))):=by
 subst h;refine Spc.enter Tryz.func149 (h:=?_);refine fun w0 hw0=>?_;refine go 9 ?_;intro b1;refine ab (bU 11) (h:=?_);refine go 1 ?_;rw[show cu 11=.tuple #[.int .i64 0,.int .i64 0] from rfl];refine go 12 ?_;refine av (d:=18) (v':=.bool false) rfl (rfl) ?_;refine go 13 ?_;refine ay (Rdg.cells (rz 11)) (ho:=rfl) (h:=go 105 ?_);intro b2;have hm:(bH 11 l).mode=0#8:=rfl;have hq:(bH 11 l).epoch=0:=rfl;have hz:bW 11=0:=rfl;refine av (d:=187) (v':=.bool false) rfl (rfl) ?_;refine go 3 ?_;refine av (d:=190) (v':=.bool false) rfl (rfl) ?_;refine go 7 ?_;refine ag (h:=go 10 ?_);have hok:1≤(11:Int)∧(11:Int)≤14∧l.length=bW 11∧(bH 11 l).mode.toNat≤2∧¬((11:Int)=10∧(bH 11 l).epoch=0):=by refine⟨by decide,by decide,by omega,by rw[hm];decide,by omega⟩
 exact RQ.post (bG rfl rfl rfl KA54.h KS54.h mQ rfl) (aa _) ⟨by rw[bV,if_pos hok];(try simp only[dV,fg]);rfl,rfl,rfl⟩
theorem rgot_12(p:Option Addr)(n c:Nat)(l:List B8)(hn:l.length=n)(h:n=1):Spc Tryz.prog 149 #[.int .i64 12,.slice p n c] [sls p 1 n (bytes l)] [] (Is (hP (bV 12 l))):=by
 subst h;refine cV (g:=fun p=> #[.int .i64 12,.slice p 1 c]) (I:=fun p=>[sls p 1 1 (bytes l)]) (H:=fun _=>[]) (R:=fun _=>Is _) (List.Mem.head _) (by decide) (fun q _=>?_);refine Spc.enter Tryz.func149 (h:=?_);refine fun w0 hw0=>?_;refine go 9 ?_;intro b1;refine ab (bU 12) (h:=?_);refine go 1 ?_;rw[show cu 12=.tuple #[.int .i64 1,.int .i64 0] from rfl];refine go 12 ?_;refine av (d:=18) (v':=.bool false) rfl (rfl) ?_;refine go 13 ?_;refine ay (Rdg.cells (rz 12)) (ho:=rfl) (h:=go 83 ?_);intro b2;have hv0:=bat_v (l:=l) (o:=0) (by omega);refine aS (j:=0) (ho:=rfl) (hlt:=by decide) (h:=?_);refine go 13 ?_;have hm:(bH 12 l).mode=0#8:=rfl;have hq:(bH 12 l).epoch=0:=rfl;have hz:bW 12=1:=rfl;refine av (d:=187) (v':=.bool false) rfl (rfl) ?_;refine go 3 ?_;refine av (d:=190) (v':=.bool false) rfl (rfl) ?_;refine go 7 ?_;refine ag (h:=go 10 ?_);have hok:1≤(12:Int)∧(12:Int)≤14∧l.length=bW 12∧(bH 12 l).mode.toNat≤2∧¬((12:Int)=10∧(bH 12 l).epoch=0):=by refine⟨by decide,by decide,by omega,by rw[hm];decide,by omega⟩
 exact RQ.post (bG rfl rfl rfl KA54.h KS54.h mQ rfl) (aa _) ⟨by rw[bV,if_pos hok];(try simp only[dV,fg]);rfl,rfl,rfl⟩
theorem rgot_13(p:Option Addr)(n c:Nat)(l:List B8)(hn:l.length=n)(h:n=37):Spc Tryz.prog 149 #[.int .i64 13,.slice p n c] [sls p 1 n (bytes l)] [] (Is (hP (bV 13 l))):=by
 subst h;refine cV (g:=fun p=> #[.int .i64 13,.slice p 37 c]) (I:=fun p=>[sls p 1 37 (bytes l)]) (H:=fun _=>[]) (R:=fun _=>Is _) (List.Mem.head _) (by decide) (fun q _=>?_);refine Spc.enter Tryz.func149 (h:=?_);refine fun w0 hw0=>?_;refine go 9 ?_;intro b1;refine ab (bU 13) (h:=?_);refine go 1 ?_;rw[show cu 13=.tuple #[.int .i64 37,.int .i64 0] from rfl];refine go 12 ?_;refine av (d:=18) (v':=.bool false) rfl (rfl) ?_;refine go 13 ?_;refine ay (Rdg.cells (rz 13)) (ho:=rfl) (h:=go 91 ?_);intro b2;have hv0:=bat_v (l:=l) (o:=0) (by omega);refine aS (j:=0) (ho:=rfl) (hlt:=by decide) (h:=?_);refine go 8 ?_;refine ab (bZ (some q) 37 c 1 8 l hn (by decide) (by decide) (by decide)) (h:=?_);refine go 2 ?_;refine ab (bZ (some q) 37 c 9 8 l hn (by decide) (by decide) (by decide)) (h:=?_);refine go 2 ?_;refine ab (bZ (some q) 37 c 17 8 l hn (by decide) (by decide) (by decide)) (h:=?_);refine go 1 ?_;refine bi [_,_,_] (ho:=rfl) (h:=go 1 ?_);refine aj (cs':=bP _ (0+13) [_,_,_]) (vs:=[_,_,_]) (ho:=rfl) (hl:=Nat.le_of_ble_eq_true rfl) (h:=?_);refine go 4 ?_;refine ab (bZ (some q) 37 c 25 8 l hn (by decide) (by decide) (by decide)) (h:=?_);refine go 2 ?_;refine ab (bZ (some q) 37 c 33 4 l hn (by decide) (by decide) (by decide)) (h:=?_);refine go 15 ?_;have hm:(bH 13 l).mode=bat l 0:=rfl;have hq:(bH 13 l).epoch=0:=rfl;have hz:bW 13=37:=rfl;refine RL.part (d:=187) rfl (fun h1=>?_) (fun h1=>?_)
 ·refine go 10 ?_;refine aI (h:=go 9 ?_);have h1:2<(bat l 0).toNat:=by simp at h1;omega
  rw[←hm] at h1;exact RQ.post (bG rfl rfl rfl KA54.h KS54.h mQ rfl) (aa _) ⟨by rw[bV,if_neg (by omega)];rfl,rfl,rfl⟩
 ·refine go 3 ?_;have h1: ¬2<(bat l 0).toNat:=by simp at h1;omega
  refine av (d:=190) (v':=.bool false) rfl (rfl) ?_;refine go 7 ?_;refine ag (h:=go 10 ?_);rw[←hm] at h1;have hok:1≤(13:Int)∧(13:Int)≤14∧l.length=bW 13∧(bH 13 l).mode.toNat≤2∧¬((13:Int)=10∧(bH 13 l).epoch=0):=by refine⟨by decide,by decide,by omega,by omega,by omega⟩
  exact RQ.post (bG rfl rfl rfl KA54.h KS54.h mQ rfl) (aa _) ⟨by rw[bV,if_pos hok];(try simp only[dV,fg]);rfl,rfl,rfl⟩
theorem rgot_14(p:Option Addr)(n c:Nat)(l:List B8)(hn:l.length=n)(h:n=16):Spc Tryz.prog 149 #[.int .i64 14,.slice p n c] [sls p 1 n (bytes l)] [] (Is (hP (bV 14 l))):=by
 subst h;refine cV (g:=fun p=> #[.int .i64 14,.slice p 16 c]) (I:=fun p=>[sls p 1 16 (bytes l)]) (H:=fun _=>[]) (R:=fun _=>Is _) (List.Mem.head _) (by decide) (fun q _=>?_);refine Spc.enter Tryz.func149 (h:=?_);refine fun w0 hw0=>?_;refine go 9 ?_;intro b1;refine ab (bU 14) (h:=?_);refine go 1 ?_;rw[show cu 14=.tuple #[.int .i64 16,.int .i64 0] from rfl];refine go 12 ?_;refine av (d:=18) (v':=.bool false) rfl (rfl) ?_;refine go 13 ?_;refine ay (Rdg.cells (rz 14)) (ho:=rfl) (h:=go 96 ?_);intro b2;refine CW.cut [(0,.int .i64 14),(1,.slice (some q) 16 c),(4,.pointer (some ⟨b1,0,none⟩)),(8,.pointer (some ⟨b2,0,none⟩))] [sls (some q) 1 16 (bytes l)] [cel b2 (bP (bP (bP (Rdg.cells (rz 14)) (0+53) [U8 (bat l 0)]) (0+54) [U8 (bat l 1)]) (0+55) [.int .u16 (IntKind.u16.wrap (iH l 2 2:Int))]) 54,cel b1 (Rdg.cells (rz 0)) 54] ?_ ?_
 ·have hv0:=bat_v (l:=l) (o:=0) (by omega);have hv1:=bat_v (l:=l) (o:=1) (by omega);refine ae (.cons 0 (.cons 1 (.cons 2 (.cons 3 (.cons 4 (.cons 6 (.cons 7 (.cons 8 (.cons 9 (.fork [5,10] (fun k=>(bif Nat.beq k 5 then(Sq.of [10,11,12,13,14]) else(Sq.of [5,11,12,13,14]))))))))))))) [10,12,14] [10,12,14] [0,1,3,4,6,8,9,11,13] (h:=?_);refine go 1 ?_;refine aS (j:=0) (ho:=rfl) (hlt:=by decide) (h:=?_);refine go 2 ?_;refine aS (j:=1) (ho:=rfl) (hlt:=by decide) (h:=?_);refine go 1 ?_;refine ab (bZ (some q) 16 c 2 2 l hn (by decide) (by decide) (by decide)) (h:=?_);refine go 2 ?_;refine RL.fork ⟨?_,?_,trivial⟩
  ·refine go 7 ?_;exact NQ.mid (.cons rfl (.cons rfl (.cons rfl (.cons rfl .nil)))) (fun _ h=>h)
  ·refine go 7 ?_;exact NQ.mid (.cons rfl (.cons rfl (.cons rfl (.cons rfl .nil)))) (fun _ h=>h)
 refine go 2 ?_;refine ab (bZ (some q) 16 c 4 8 l hn (by decide) (by decide) (by decide)) (h:=?_);refine go 1 ?_;refine ab (bZ (some q) 16 c 12 4 l hn (by decide) (by decide) (by decide)) (h:=?_);refine go 15 ?_;have hm:(bH 14 l).mode=0#8:=rfl;have hq:(bH 14 l).epoch=(iH l 12 4:Int):=rfl;have hz:bW 14=16:=rfl;refine av (d:=187) (v':=.bool false) rfl (rfl) ?_;refine go 3 ?_;refine av (d:=190) (v':=.bool false) rfl (rfl) ?_;refine go 7 ?_;refine ag (h:=go 10 ?_);have hok:1≤(14:Int)∧(14:Int)≤14∧l.length=bW 14∧(bH 14 l).mode.toNat≤2∧¬((14:Int)=10∧(bH 14 l).epoch=0):=by refine⟨by decide,by decide,by omega,by rw[hm];decide,by omega⟩
 exact RQ.post (bG rfl rfl rfl KA54.h KS54.h mQ rfl) (aa _) ⟨by rw[bV,if_pos hok];(try simp only[dV,fg]);rfl,rfl,rfl⟩
theorem rgot_bad(k:Int)(p:Option Addr)(n c:Nat)(l:List B8)(hn:l.length=n)(hb:n≤1000000000)(h: ¬(1≤k∧k≤14∧n=bW k)):Spc Tryz.prog 149 #[.int .i64 k,.slice p n c] [sls p 1 n (bytes l)] [] (Is (hP (bV k l))):=by
 by_cases hk:1≤k∧k≤14
 ·have hs:cu k=.tuple #[.int .i64 (bW k:Int),.int .i64 0]:=by rw[cu,if_pos hk]
  refine Spc.enter Tryz.func149 (h:=?_);refine fun w0 hw0=>?_;refine go 9 ?_;intro b1;refine ab (bU k) (h:=?_);refine go 1 ?_;rw[hs];refine go 12 ?_;refine av (d:=18) (v':=.bool false) rfl (rfl) ?_;refine go 7 ?_;refine aI rfl ((by have:n≠bW k:=(by omega);simp;omega)) ?_;refine go 9 ?_;exact RQ.post (bG rfl rfl rfl KA54.h KS54.h mQ rfl) (aa _) ⟨by rw[bV,if_neg (by omega)];rfl,rfl,rfl⟩
 ·have hs:cu k=.tuple #[.int .i64 0,.int .i64 120]:=by rw[cu,if_neg hk]
  refine Spc.enter Tryz.func149 (h:=?_);refine fun w0 hw0=>?_;refine go 9 ?_;intro b1;refine ab (bU k) (h:=?_);refine go 1 ?_;rw[hs];refine go 12 ?_;refine av (d:=18) (v':=.bool true) rfl (rfl) ?_;refine go 7 ?_;refine aI (h:=go 9 ?_);exact RQ.post (bG rfl rfl rfl KA54.h KS54.h mQ rfl) (aa _) ⟨by rw[bV,if_neg (by omega)];rfl,rfl,rfl⟩
theorem rgot_any(k:Int)(p:Option Addr)(n c:Nat)(l:List B8)(hn:l.length=n)(hb:n≤1000000000):Spc Tryz.prog 149 #[.int .i64 k,.slice p n c] [sls p 1 n (bytes l)] [] (Is (hP (bV k l))):=by
 by_cases h:1≤k∧k≤14∧n=bW k
 ·obtain⟨h1,h2,h3⟩:=h;obtain⟨m,rfl⟩:∃m:Nat,k=(m:Int):=⟨k.toNat,by omega⟩;have hm:1≤m∧m≤14:=by omega
  clear h1 h2
  match m,hm,h3 with
  | 1,_,h=>exact rgot_1 p n c l hn h
  | 2,_,h=>exact rgot_2 p n c l hn h
  | 3,_,h=>exact rgot_3 p n c l hn h
  | 4,_,h=>exact rgot_4 p n c l hn h
  | 5,_,h=>exact rgot_5 p n c l hn h
  | 6,_,h=>exact rgot_6 p n c l hn h
  | 7,_,h=>exact rgot_7 p n c l hn h
  | 8,_,h=>exact rgot_8 p n c l hn h
  | 9,_,h=>exact rgot_9 p n c l hn h
  | 10,_,h=>exact rgot_10 p n c l hn h
  | 11,_,h=>exact rgot_11 p n c l hn h
  | 12,_,h=>exact rgot_12 p n c l hn h
  | 13,_,h=>exact rgot_13 p n c l hn h
  | 14,_,h=>exact rgot_14 p n c l hn h
  | 0,h,_=>omega
  | _+15,h,_=>omega
 ·exact rgot_bad k p n c l hn hb h
theorem num12(N n:Nat)(hN:N<18446744073709551616)(hn:n≤8):Spc Tryz.prog 223 #[.int .u64 (N:Int),.int .i64 (n:Int)] [] [] (OwnB (beN n N)):=by
 refine Spc.enter Tryz.func223 (h:=?_);refine fun w0 hw0=>?_;refine go 7 ?_;refine ao [] (ho:=rfl) (h:=?_);intro b1;refine go 10 ?_;refine CW.loop (γ:=Nat×Option Nat×Nat) (fun g=>g.1≤n∧(g.1=0∨g.2.1.isSome=true)) (fun g=>[(0,.int .u64 ((N/256^g.1:Nat):Int)),(1,.int .i64 (n:Int)),(5,aE g.2.1 g.1 g.2.2),(6,.int .i64 (g.1:Int))]) (fun _=>[]) (fun g=>[own g.2.1 g.2.2 5 1 g.1 (bytes (beN g.1 N))]) (fun g=>n-g.1) (0,some b1,0) (by simp) (.cons (by simp;rfl) (.cons rfl (.cons rfl (.cons rfl .nil)))) (fun w h=>h) ?_;rintro⟨i,ob',c'⟩ ⟨hi,ho⟩;dsimp only at hi ho ⊢;refine go 8 ?_;refine CW.cond rfl (fun hlt=>?_) (fun hlt=>?_)
 ·refine go 7 ?_;refine RL.rem rfl rfl rfl rfl rfl (h:=?_);refine bQ (ho:=rfl) (h:=?_);refine ao [_] (ho:=rfl) (h:=?_);intro b2;refine go 7 ?_;intro ob1 cap1 ho1;have hlt:i<n:=by simp at hlt;omega
  refine gp (v':=.int .u64 ((N/256^(i+1):Nat):Int)) rfl rfl rfl rfl rfl (hv:=quoA _ _ hN) (h:=?_);refine go 6 ?_;refine ap rfl (ad (by omega) (by omega)) ?_;refine go 2 ?_;refine NQ.round (g:=(i,ob',c')) (i+1,ob1,cap1) ⟨hlt,by rw[Nat.add_comm] at ho1;exact ho1⟩ (by show n-(i+1)<n-i;omega) (.cons rfl (.cons rfl (.cons (by rw[Nat.add_comm i 1];rfl) (.cons rfl .nil)))) (fun w h=>?_);rw[bE (ob:=ob1) (n':=i+1) (xs':=bytes (beN (i+1) N)) (by omega) (by rw[beN_cons,←lowA];rfl)] at h;exact h.rea (fun _ h=>h) rE
 ·refine go 12 ?_;have hi8:i=n:=by simp at hlt;omega
  subst hi8;rw[bE (ob:=ob') (n':=(beN i N).length) (xs':=bytes (beN i N)) (aw _ _).symm rfl];exact RQ.post (az rfl rfl) (.keep .nil) ⟨ob',c',by rw[aw],rfl,rfl,by rw[aw];exact ho⟩
end Go.Proofs.YthlchaldjekokaaGreat
namespace Go.Proofs.YthlchaldjekokaaGreat
open Go.PK
theorem eE(a:Int):Spc Tryz.prog 222 #[.int .i64 a] [] [] (OwnN 8 (be8' a)):=OwnB.n (aQ a) (rsputfix_any a)
attribute [local irreducible] be8' be4 beN
set_option maxHeartbeats 20000000 in
theorem place_any(p0 p1 p2:Int):Spc Tryz.prog 224 #[.agg #[.int .i64 p0,.int .i64 p1,.int .i64 p2]] [] [] (OwnB ([p0,p1,p2].flatMap be8')):=by
 have h0:=aQ p0;have h1:=aQ p1;have h2:=aQ p2;refine Spc.enter Tryz.func224 (h:=?_);refine fun w0 hw0=>?_;refine go 7 ?_;intro b1;refine bv rfl ?_;simp only[List.cons_append,List.nil_append];refine ae (.cons 1 (.cons 2 (.cons 5 (.cons 6 (.cons 9 (.cons 10 (.fork [0,3] (fun k=>(bif Nat.beq k 0 then(Sq.of [3,4,7,8,11,12,13]) else(Sq.of [0,4,7,8,11,12,13])))))))))) [0,3,4,7,8,11,12] [4,8,12] [1,2,5,6,9,10,13] (h:=?_);refine al (j:=0) (ho:=rfl) (h:=?_);refine go 1 ?_;refine al (j:=1) (ho:=rfl) (h:=?_);refine go 1 ?_;refine al (j:=2) (ho:=rfl) (h:=?_);refine go 1 ?_;refine RL.fork ⟨?_,?_,trivial⟩
 ·refine ao [] (ho:=rfl) (h:=?_);intro b2;refine ax (eE p0) (hb:=.inl rfl) (h:=?_);rintro _ _ _ ⟨ob1,cap1,rfl,rfl,rfl,ho1⟩;refine go 1 ?_;intro ob2 cap2 ho2;refine ax (eE p1) (hb:=.inl rfl) (h:=?_);rintro _ _ _ ⟨ob3,cap3,rfl,rfl,rfl,ho3⟩;refine go 1 ?_;intro ob4 cap4 ho4;refine ax (eE p2) (hb:=.inl rfl) (h:=?_);rintro _ _ _ ⟨ob5,cap5,rfl,rfl,rfl,ho5⟩;refine go 5 ?_;intro ob6 cap6 ho6;exact db rfl rfl (by first|exact .keep (aa _)|exact .drop (.keep (aa _))) (by simp[aQ]) (by simp) (by assumption)
 ·refine ax (eE p0) (hb:=.inl rfl) (h:=?_);rintro _ _ _ ⟨ob1,cap1,rfl,rfl,rfl,ho1⟩;refine ao [] (ho:=rfl) (h:=?_);intro b2;refine go 1 ?_;intro ob2 cap2 ho2;refine ax (eE p1) (hb:=.inl rfl) (h:=?_);rintro _ _ _ ⟨ob3,cap3,rfl,rfl,rfl,ho3⟩;refine go 1 ?_;intro ob4 cap4 ho4;refine ax (eE p2) (hb:=.inl rfl) (h:=?_);rintro _ _ _ ⟨ob5,cap5,rfl,rfl,rfl,ho5⟩;refine go 5 ?_;intro ob6 cap6 ho6;exact db rfl rfl (by first|exact .keep (aa _)|exact .drop (.keep (aa _))) (by simp[aQ]) (by simp) (by assumption)
end Go.Proofs.YthlchaldjekokaaGreat
namespace Go.Proofs.YthlchaldjekokaaGreat
open Go.PK
theorem rput4(a:Int):Spc Tryz.prog 221 #[.int .i32 a] [] [] (OwnN 4 (be4 a)):=OwnB.n (aY a) (rsput_any a)
theorem rnum(a:Int)(n:Nat)(hn:n≤8):Spc Tryz.prog 223 #[.int .u64 (IntKind.u64.wrap a),.int .i64 (n:Int)] [] [] (OwnN n (beN n (w64 a))):=by rw[←w64_eq];exact OwnB.n (aw _ _) (num12 (w64 a) n (w64_lt a) hn)
theorem rnumT(a:Int)(ha:gi .u64 a)(n:Nat)(hn:n≤8):Spc Tryz.prog 223 #[.int .u64 a,.int .i64 (n:Int)] [] [] (OwnN n (beN n a.toNat)):=by have h:=wf_u64 ha;rw[congrArg (Value.int .u64) h.1];exact OwnB.n (aw _ _) (num12 a.toNat n h.2 hn)
theorem rplace(a b c:Int):Spc Tryz.prog 224 #[.agg #[.int .i64 a,.int .i64 b,.int .i64 c]] [] [] (OwnN 24 ([a,b,c].flatMap be8')):=OwnB.n (by simp[aQ]) (place_any a b c)
theorem key_in(r:Rdg):∀(j:Nat) (u:Value),(bytes (dA r.key))[j]?=some u→r.cells[0+16+j]?=some u:=by intro j u h;have hl:j<32:=(List.getElem?_eq_some_iff.1 h).1;unfold Rdg.cells;rw[List.getElem?_append_right (by simp),show 0+16+j-List.length _=j from by simp,List.getElem?_append_left (by exact hl)];exact h
attribute [local irreducible] be8' be4 beN
set_option maxHeartbeats 4000000 in
theorem rbody_2(r:Rdg)(hk:r.kind=2)(hr:r.Ok):Spc Tryz.prog 148 #[.agg r.cells.toArray] [] [] (OwnB (aX r)):=by refine Spc.enter Tryz.func148 (h:=?_);refine fun w0 hw0=>?_;refine go 7 ?_;intro b1;refine bv rfl ?_;simp only[List.cons_append,List.nil_append];refine go 1 ?_;refine ao [] (ho:=rfl) (h:=?_);intro b2;refine go 16 ?_;refine ag rfl ((by rw[hk];rfl)) ?_;refine go 6 ?_;refine aI rfl ((by rw[hk];rfl)) ?_;refine go 4 ?_;refine ax (eE r.height) (hb:=.inl rfl) (h:=?_);rintro _ _ _ ⟨ob1,cap1,rfl,rfl,rfl,ho1⟩;refine go 5 ?_;exact db (l:=aX r) rfl rfl (by first|exact .keep (aa _)|exact .drop (.keep (aa _))|exact .drop (.drop (.keep (aa _)))) (by unfold aX;simp[hk,aw,aY,aQ,dA]) (by unfold aX;simp[hk,dA]) (by first|assumption|(right;rfl))
set_option maxHeartbeats 4000000 in
theorem rbody_3(r:Rdg)(hk:r.kind=3)(hr:r.Ok):Spc Tryz.prog 148 #[.agg r.cells.toArray] [] [] (OwnB (aX r)):=by refine Spc.enter Tryz.func148 (h:=?_);refine fun w0 hw0=>?_;refine go 7 ?_;intro b1;refine bv rfl ?_;simp only[List.cons_append,List.nil_append];refine go 1 ?_;refine ao [] (ho:=rfl) (h:=?_);intro b2;refine go 16 ?_;refine ag rfl ((by rw[hk];rfl)) ?_;refine go 6 ?_;refine ag rfl ((by rw[hk];rfl)) ?_;refine go 6 ?_;refine aI rfl ((by rw[hk];rfl)) ?_;refine go 5 ?_;refine ax (rnum r.heading 4 (by decide)) (hb:=.inl rfl) (h:=?_);rintro _ _ _ ⟨ob1,cap1,rfl,rfl,rfl,ho1⟩;refine go 5 ?_;exact db (l:=aX r) rfl rfl (by first|exact .keep (aa _)|exact .drop (.keep (aa _))|exact .drop (.drop (.keep (aa _)))) (by unfold aX;simp[hk,aw,aY,aQ,dA]) (by unfold aX;simp[hk,dA]) (by first|assumption|(right;rfl))
set_option maxHeartbeats 4000000 in
theorem rbody_4(r:Rdg)(hk:r.kind=4)(hr:r.Ok):Spc Tryz.prog 148 #[.agg r.cells.toArray] [] [] (OwnB (aX r)):=by refine Spc.enter Tryz.func148 (h:=?_);refine fun w0 hw0=>?_;refine go 7 ?_;intro b1;refine bv rfl ?_;simp only[List.cons_append,List.nil_append];refine go 1 ?_;refine ao [] (ho:=rfl) (h:=?_);intro b2;refine go 16 ?_;refine ag rfl ((by rw[hk];rfl)) ?_;refine go 6 ?_;refine ag rfl ((by rw[hk];rfl)) ?_;refine go 6 ?_;refine ag rfl ((by rw[hk];rfl)) ?_;refine go 6 ?_;refine aI rfl ((by rw[hk];rfl)) ?_;refine go 1 ?_;refine ae (Sq.of [0,1,3,4,5,2,6,7,8]) [2,6,7] [7] [0,1,3,4,5,8] (h:=?_);refine go 5 ?_;refine ax (rput4 r.speed) (hb:=.inl rfl) (h:=?_);rintro _ _ _ ⟨ob1,cap1,rfl,rfl,rfl,ho1⟩;refine ax (rnum r.steps 4 (by decide)) (hb:=.inl rfl) (h:=?_);rintro _ _ _ ⟨ob2,cap2,rfl,rfl,rfl,ho2⟩;refine go 6 ?_;intro ob3 cap3 ho3;exact db (l:=aX r) rfl rfl (by first|exact .keep (aa _)|exact .drop (.keep (aa _))|exact .drop (.drop (.keep (aa _)))) (by unfold aX;simp[hk,aw,aY,aQ,dA]) (by unfold aX;simp[hk,dA]) (by first|assumption|(right;rfl))
set_option maxHeartbeats 4000000 in
theorem rbody_5(r:Rdg)(hk:r.kind=5)(hr:r.Ok):Spc Tryz.prog 148 #[.agg r.cells.toArray] [] [] (OwnB (aX r)):=by
 refine Spc.enter Tryz.func148 (h:=?_);refine fun w0 hw0=>?_;refine go 7 ?_;intro b1;refine bv rfl ?_;simp only[List.cons_append,List.nil_append];refine go 1 ?_;refine ao [] (ho:=rfl) (h:=?_);intro b2;refine go 16 ?_;refine ag rfl ((by rw[hk];rfl)) ?_;refine go 6 ?_;refine ag rfl ((by rw[hk];rfl)) ?_;refine go 6 ?_;refine ag rfl ((by rw[hk];rfl)) ?_;refine go 6 ?_;refine ag rfl ((by rw[hk];rfl)) ?_;refine go 6 ?_;refine aI rfl ((by rw[hk];rfl)) ?_;refine go 1 ?_;refine ae (.cons 0 (.cons 1 (.cons 2 (.cons 4 (.cons 5 (.cons 8 (.cons 9 (.fork [3,6] (fun k=>(bif Nat.beq k 3 then(Sq.of [6,7,10,11,12]) else(Sq.of [3,7,10,11,12]))))))))))) [3,6,7,10,11] [7,11] [0,1,2,4,5,8,9,12] (h:=?_);refine go 6 ?_;refine eB (vs:=[_,_,_]) KA27.h KS27.h rfl rfl rfl rfl (by first|(apply Rds.cel;(solve|(repeat (first|exact List.Mem.head _|apply List.Mem.tail)));exact am ⟨rfl,rfl,rfl,trivial⟩)|(apply Rds.celI;(solve|(repeat (first|exact List.Mem.head _|apply List.Mem.tail)));exact am ⟨rfl,rfl,rfl,trivial⟩)|assumption|(apply aU;assumption)) ?_;refine RL.fork ⟨?_,?_,trivial⟩
 ·refine ax (rnum r.interval 4 (by decide)) (hb:=.inl rfl) (h:=?_);rintro _ _ _ ⟨ob1,cap1,rfl,rfl,rfl,ho1⟩;refine ao [_] (ho:=rfl) (h:=?_);intro b3;refine go 1 ?_;intro ob2 cap2 ho2;refine ax (rplace r.p0 r.p1 r.p2) (hb:=.inl rfl) (h:=?_);rintro _ _ _ ⟨ob3,cap3,rfl,rfl,rfl,ho3⟩;refine go 6 ?_;intro ob4 cap4 ho4;exact db (l:=aX r) rfl rfl (by first|exact .keep (aa _)|exact .drop (.keep (aa _))|exact .drop (.drop (.keep (aa _)))) (by unfold aX;simp[hk,aw,aY,aQ,dA]) (by unfold aX;simp[hk,dA]) (by first|assumption|(right;rfl))
 ·refine ao [_] (ho:=rfl) (h:=?_);intro b3;refine ax (rnum r.interval 4 (by decide)) (hb:=.inl rfl) (h:=?_);rintro _ _ _ ⟨ob1,cap1,rfl,rfl,rfl,ho1⟩;refine go 1 ?_;intro ob2 cap2 ho2;refine ax (rplace r.p0 r.p1 r.p2) (hb:=.inl rfl) (h:=?_);rintro _ _ _ ⟨ob3,cap3,rfl,rfl,rfl,ho3⟩;refine go 6 ?_;intro ob4 cap4 ho4;exact db (l:=aX r) rfl rfl (by first|exact .keep (aa _)|exact .drop (.keep (aa _))|exact .drop (.drop (.keep (aa _)))) (by unfold aX;simp[hk,aw,aY,aQ,dA]) (by unfold aX;simp[hk,dA]) (by first|assumption|(right;rfl))
set_option maxHeartbeats 4000000 in
theorem rbody_6(r:Rdg)(hk:r.kind=6)(hr:r.Ok):Spc Tryz.prog 148 #[.agg r.cells.toArray] [] [] (OwnB (aX r)):=by refine Spc.enter Tryz.func148 (h:=?_);refine fun w0 hw0=>?_;refine go 7 ?_;intro b1;refine bv rfl ?_;simp only[List.cons_append,List.nil_append];refine go 1 ?_;refine ao [] (ho:=rfl) (h:=?_);intro b2;refine go 16 ?_;refine ag rfl ((by rw[hk];rfl)) ?_;refine go 6 ?_;refine ag rfl ((by rw[hk];rfl)) ?_;refine go 6 ?_;refine ag rfl ((by rw[hk];rfl)) ?_;refine go 6 ?_;refine ag rfl ((by rw[hk];rfl)) ?_;refine go 6 ?_;refine ag rfl ((by rw[hk];rfl)) ?_;refine go 6 ?_;refine aI rfl ((by rw[hk];rfl)) ?_;refine CW.also (sls (some ⟨b1,0+16,none⟩) 1 32 (bytes (dA r.key))) (fun w hw=>cel_sls (hw.i _ mQ) rfl (key_in r)) (fun c hc=>by simpa[sls,cel] using hc) ?_;refine go 1 ?_;refine ae (Sq.of [0,1,2,4,5,3,6,7]) [3,6] [6] [0,1,2,4,5,7] (h:=?_);refine go 5 ?_;refine ax (rnum r.interval 4 (by decide)) (hb:=.inl rfl) (h:=?_);rintro _ _ _ ⟨ob1,cap1,rfl,rfl,rfl,ho1⟩;refine go 6 ?_;intro ob2 cap2 ho2;exact db (l:=aX r) rfl rfl (by first|exact .keep (aa _)|exact .drop (.keep (aa _))|exact .drop (.drop (.keep (aa _)))) (by unfold aX;simp[hk,aw,aY,aQ,dA]) (by unfold aX;simp[hk,dA]) (by first|assumption|(right;rfl))
set_option maxHeartbeats 4000000 in
theorem rbody_7(r:Rdg)(hk:r.kind=7)(hr:r.Ok):Spc Tryz.prog 148 #[.agg r.cells.toArray] [] [] (OwnB (aX r)):=by refine Spc.enter Tryz.func148 (h:=?_);refine fun w0 hw0=>?_;refine go 7 ?_;intro b1;refine bv rfl ?_;simp only[List.cons_append,List.nil_append];refine go 1 ?_;refine ao [] (ho:=rfl) (h:=?_);intro b2;refine go 16 ?_;refine ag rfl ((by rw[hk];rfl)) ?_;refine go 6 ?_;refine ag rfl ((by rw[hk];rfl)) ?_;refine go 6 ?_;refine ag rfl ((by rw[hk];rfl)) ?_;refine go 6 ?_;refine ag rfl ((by rw[hk];rfl)) ?_;refine go 6 ?_;refine ag rfl ((by rw[hk];rfl)) ?_;refine go 6 ?_;refine ag rfl ((by rw[hk];rfl)) ?_;refine go 6 ?_;refine aI rfl ((by rw[hk];rfl)) ?_;refine go 4 ?_;refine ax (rnumT r.tick hr.tick 8 (by decide)) (hb:=.inl rfl) (h:=?_);rintro _ _ _ ⟨ob1,cap1,rfl,rfl,rfl,ho1⟩;refine go 5 ?_;exact db (l:=aX r) rfl rfl (by first|exact .keep (aa _)|exact .drop (.keep (aa _))|exact .drop (.drop (.keep (aa _)))) (by unfold aX;simp[hk,aw,aY,aQ,dA]) (by unfold aX;simp[hk,dA]) (by first|assumption|(right;rfl))
set_option maxHeartbeats 4000000 in
theorem rbody_8(r:Rdg)(hk:r.kind=8)(hr:r.Ok):Spc Tryz.prog 148 #[.agg r.cells.toArray] [] [] (OwnB (aX r)):=by refine Spc.enter Tryz.func148 (h:=?_);refine fun w0 hw0=>?_;refine go 7 ?_;intro b1;refine bv rfl ?_;simp only[List.cons_append,List.nil_append];refine go 1 ?_;refine ao [] (ho:=rfl) (h:=?_);intro b2;refine go 16 ?_;refine ag rfl ((by rw[hk];rfl)) ?_;refine go 6 ?_;refine ag rfl ((by rw[hk];rfl)) ?_;refine go 6 ?_;refine ag rfl ((by rw[hk];rfl)) ?_;refine go 6 ?_;refine ag rfl ((by rw[hk];rfl)) ?_;refine go 6 ?_;refine ag rfl ((by rw[hk];rfl)) ?_;refine go 6 ?_;refine ag rfl ((by rw[hk];rfl)) ?_;refine go 6 ?_;refine ag rfl ((by rw[hk];rfl)) ?_;refine go 6 ?_;refine aI rfl ((by rw[hk];rfl)) ?_;refine go 4 ?_;refine ao [_] (ho:=rfl) (h:=?_);intro b3;refine go 5 ?_;exact db (l:=aX r) rfl rfl (by first|exact .keep (aa _)|exact .drop (.keep (aa _))|exact .drop (.drop (.keep (aa _)))) (by unfold aX;simp[hk,aw,aY,aQ,dA]) (by unfold aX;simp[hk,dA]) (by first|assumption|(right;rfl))
set_option maxHeartbeats 4000000 in
theorem rbody_10(r:Rdg)(hk:r.kind=10)(hr:r.Ok):Spc Tryz.prog 148 #[.agg r.cells.toArray] [] [] (OwnB (aX r)):=by refine Spc.enter Tryz.func148 (h:=?_);refine fun w0 hw0=>?_;refine go 7 ?_;intro b1;refine bv rfl ?_;simp only[List.cons_append,List.nil_append];refine go 1 ?_;refine ao [] (ho:=rfl) (h:=?_);intro b2;refine go 16 ?_;refine ag rfl ((by rw[hk];rfl)) ?_;refine go 6 ?_;refine ag rfl ((by rw[hk];rfl)) ?_;refine go 6 ?_;refine ag rfl ((by rw[hk];rfl)) ?_;refine go 6 ?_;refine ag rfl ((by rw[hk];rfl)) ?_;refine go 6 ?_;refine ag rfl ((by rw[hk];rfl)) ?_;refine go 6 ?_;refine ag rfl ((by rw[hk];rfl)) ?_;refine go 6 ?_;refine ag rfl ((by rw[hk];rfl)) ?_;refine go 6 ?_;refine ag rfl ((by rw[hk];rfl)) ?_;refine go 6 ?_;refine aI rfl ((by rw[hk];rfl)) ?_;refine go 5 ?_;refine ax (rnum r.epoch 4 (by decide)) (hb:=.inl rfl) (h:=?_);rintro _ _ _ ⟨ob1,cap1,rfl,rfl,rfl,ho1⟩;refine go 5 ?_;exact db (l:=aX r) rfl rfl (by first|exact .keep (aa _)|exact .drop (.keep (aa _))|exact .drop (.drop (.keep (aa _)))) (by unfold aX;simp[hk,aw,aY,aQ,dA]) (by unfold aX;simp[hk,dA]) (by first|assumption|(right;rfl))
set_option maxHeartbeats 4000000 in
theorem rbody_12(r:Rdg)(hk:r.kind=12)(hr:r.Ok):Spc Tryz.prog 148 #[.agg r.cells.toArray] [] [] (OwnB (aX r)):=by refine Spc.enter Tryz.func148 (h:=?_);refine fun w0 hw0=>?_;refine go 7 ?_;intro b1;refine bv rfl ?_;simp only[List.cons_append,List.nil_append];refine go 1 ?_;refine ao [] (ho:=rfl) (h:=?_);intro b2;refine go 16 ?_;refine ag rfl ((by rw[hk];rfl)) ?_;refine go 6 ?_;refine ag rfl ((by rw[hk];rfl)) ?_;refine go 6 ?_;refine ag rfl ((by rw[hk];rfl)) ?_;refine go 6 ?_;refine ag rfl ((by rw[hk];rfl)) ?_;refine go 6 ?_;refine ag rfl ((by rw[hk];rfl)) ?_;refine go 6 ?_;refine ag rfl ((by rw[hk];rfl)) ?_;refine go 6 ?_;refine ag rfl ((by rw[hk];rfl)) ?_;refine go 6 ?_;refine ag rfl ((by rw[hk];rfl)) ?_;refine go 6 ?_;refine ag rfl ((by rw[hk];rfl)) ?_;refine go 6 ?_;refine aI rfl ((by rw[hk];rfl)) ?_;refine go 4 ?_;refine ao [_] (ho:=rfl) (h:=?_);intro b3;refine go 5 ?_;exact db (l:=aX r) rfl rfl (by first|exact .keep (aa _)|exact .drop (.keep (aa _))|exact .drop (.drop (.keep (aa _)))) (by unfold aX;simp[hk,aw,aY,aQ,dA]) (by unfold aX;simp[hk,dA]) (by first|assumption|(right;rfl))
set_option maxHeartbeats 4000000 in
theorem rbody_13(r:Rdg)(hk:r.kind=13)(hr:r.Ok):Spc Tryz.prog 148 #[.agg r.cells.toArray] [] [] (OwnB (aX r)):=by
 refine Spc.enter Tryz.func148 (h:=?_);refine fun w0 hw0=>?_;refine go 7 ?_;intro b1;refine bv rfl ?_;simp only[List.cons_append,List.nil_append];refine go 1 ?_;refine ao [] (ho:=rfl) (h:=?_);intro b2;refine go 16 ?_;refine ag rfl ((by rw[hk];rfl)) ?_;refine go 6 ?_;refine ag rfl ((by rw[hk];rfl)) ?_;refine go 6 ?_;refine ag rfl ((by rw[hk];rfl)) ?_;refine go 6 ?_;refine ag rfl ((by rw[hk];rfl)) ?_;refine go 6 ?_;refine ag rfl ((by rw[hk];rfl)) ?_;refine go 6 ?_;refine ag rfl ((by rw[hk];rfl)) ?_;refine go 6 ?_;refine ag rfl ((by rw[hk];rfl)) ?_;refine go 6 ?_;refine ag rfl ((by rw[hk];rfl)) ?_;refine go 6 ?_;refine ag rfl ((by rw[hk];rfl)) ?_;refine go 6 ?_;refine ag rfl ((by rw[hk];rfl)) ?_;refine go 6 ?_;refine aI rfl ((by rw[hk];rfl)) ?_;refine go 1 ?_;refine ae (.cons 0 (.cons 1 (.cons 3 (.cons 4 (.cons 7 (.cons 8 (.cons 11 (.cons 12 (.cons 13 (.fork [2,5] (fun k=>(bif Nat.beq k 2 then(Sq.of [5,6,9,10,14,15,16]) else(Sq.of [2,6,9,10,14,15,16]))))))))))))) [2,5,6,9,10,14,15] [6,10,15] [0,1,3,4,7,8,11,12,13,16] (h:=?_);refine go 3 ?_;refine eB (vs:=[_,_,_]) KA27.h KS27.h rfl rfl rfl rfl (by first|(apply Rds.cel;(solve|(repeat (first|exact List.Mem.head _|apply List.Mem.tail)));exact am ⟨rfl,rfl,rfl,trivial⟩)|(apply Rds.celI;(solve|(repeat (first|exact List.Mem.head _|apply List.Mem.tail)));exact am ⟨rfl,rfl,rfl,trivial⟩)|assumption|(apply aU;assumption)) ?_;refine go 5 ?_;refine RL.fork ⟨?_,?_,trivial⟩
 ·refine ao [_] (ho:=rfl) (h:=?_);intro b3;refine ax (rplace r.p0 r.p1 r.p2) (hb:=.inl rfl) (h:=?_);rintro _ _ _ ⟨ob1,cap1,rfl,rfl,rfl,ho1⟩;refine go 1 ?_;intro ob2 cap2 ho2;refine ax (eE r.bound) (hb:=.inl rfl) (h:=?_);rintro _ _ _ ⟨ob3,cap3,rfl,rfl,rfl,ho3⟩;refine go 1 ?_;intro ob4 cap4 ho4;refine ax (rnum r.flags 4 (by decide)) (hb:=.inl rfl) (h:=?_);rintro _ _ _ ⟨ob5,cap5,rfl,rfl,rfl,ho5⟩;refine go 6 ?_;intro ob6 cap6 ho6;exact db (l:=aX r) rfl rfl (by first|exact .keep (aa _)|exact .drop (.keep (aa _))|exact .drop (.drop (.keep (aa _)))) (by unfold aX;simp[hk,aw,aY,aQ,dA]) (by unfold aX;simp[hk,dA]) (by first|assumption|(right;rfl))
 ·refine ax (rplace r.p0 r.p1 r.p2) (hb:=.inl rfl) (h:=?_);rintro _ _ _ ⟨ob1,cap1,rfl,rfl,rfl,ho1⟩;refine ao [_] (ho:=rfl) (h:=?_);intro b3;refine go 1 ?_;intro ob2 cap2 ho2;refine ax (eE r.bound) (hb:=.inl rfl) (h:=?_);rintro _ _ _ ⟨ob3,cap3,rfl,rfl,rfl,ho3⟩;refine go 1 ?_;intro ob4 cap4 ho4;refine ax (rnum r.flags 4 (by decide)) (hb:=.inl rfl) (h:=?_);rintro _ _ _ ⟨ob5,cap5,rfl,rfl,rfl,ho5⟩;refine go 6 ?_;intro ob6 cap6 ho6;exact db (l:=aX r) rfl rfl (by first|exact .keep (aa _)|exact .drop (.keep (aa _))|exact .drop (.drop (.keep (aa _)))) (by unfold aX;simp[hk,aw,aY,aQ,dA]) (by unfold aX;simp[hk,dA]) (by first|assumption|(right;rfl))
set_option maxHeartbeats 4000000 in
theorem rbody_14(r:Rdg)(hk:r.kind=14)(hr:r.Ok):Spc Tryz.prog 148 #[.agg r.cells.toArray] [] [] (OwnB (aX r)):=by
 refine Spc.enter Tryz.func148 (h:=?_);refine fun w0 hw0=>?_;refine go 7 ?_;intro b1;refine bv rfl ?_;simp only[List.cons_append,List.nil_append];refine go 1 ?_;refine ao [] (ho:=rfl) (h:=?_);intro b2;refine go 16 ?_;refine ag rfl ((by rw[hk];rfl)) ?_;refine go 6 ?_;refine ag rfl ((by rw[hk];rfl)) ?_;refine go 6 ?_;refine ag rfl ((by rw[hk];rfl)) ?_;refine go 6 ?_;refine ag rfl ((by rw[hk];rfl)) ?_;refine go 6 ?_;refine ag rfl ((by rw[hk];rfl)) ?_;refine go 6 ?_;refine ag rfl ((by rw[hk];rfl)) ?_;refine go 6 ?_;refine ag rfl ((by rw[hk];rfl)) ?_;refine go 6 ?_;refine ag rfl ((by rw[hk];rfl)) ?_;refine go 6 ?_;refine ag rfl ((by rw[hk];rfl)) ?_;refine go 6 ?_;refine ag rfl ((by rw[hk];rfl)) ?_;refine go 6 ?_;refine ag rfl ((by rw[hk];rfl)) ?_;refine go 6 ?_;refine aI rfl ((by rw[hk];rfl)) ?_;refine go 1 ?_;refine ae (.cons 0 (.cons 1 (.cons 2 (.cons 3 (.cons 5 (.cons 6 (.cons 7 (.cons 10 (.cons 11 (.cons 14 (.cons 15 (.cons 16 (.fork [4,8] (fun k=>(bif Nat.beq k 4 then(Sq.of [8,9,12,13,17,18,19]) else(Sq.of [4,9,12,13,17,18,19])))))))))))))))) [4,8,9,12,13,17,18] [9,13,18] [0,1,2,3,5,6,7,10,11,14,15,16,19] (h:=?_);refine go 12 ?_;refine RL.fork ⟨?_,?_,trivial⟩
 ·refine ao [_,_] (ho:=rfl) (h:=?_);intro b3;refine ax (rnum r.fails 2 (by decide)) (hb:=.inl rfl) (h:=?_);rintro _ _ _ ⟨ob1,cap1,rfl,rfl,rfl,ho1⟩;refine go 1 ?_;intro ob2 cap2 ho2;refine ax (rnumT r.counter hr.counter 8 (by decide)) (hb:=.inl rfl) (h:=?_);rintro _ _ _ ⟨ob3,cap3,rfl,rfl,rfl,ho3⟩;refine go 1 ?_;intro ob4 cap4 ho4;refine ax (rnum r.epoch 4 (by decide)) (hb:=.inl rfl) (h:=?_);rintro _ _ _ ⟨ob5,cap5,rfl,rfl,rfl,ho5⟩;refine go 6 ?_;intro ob6 cap6 ho6;exact db (l:=aX r) rfl rfl (by first|exact .keep (aa _)|exact .drop (.keep (aa _))|exact .drop (.drop (.keep (aa _)))) (by unfold aX;simp[hk,aw,aY,aQ,dA]) (by unfold aX;simp[hk,dA]) (by first|assumption|(right;rfl))
 ·refine ax (rnum r.fails 2 (by decide)) (hb:=.inl rfl) (h:=?_);rintro _ _ _ ⟨ob1,cap1,rfl,rfl,rfl,ho1⟩;refine ao [_,_] (ho:=rfl) (h:=?_);intro b3;refine go 1 ?_;intro ob2 cap2 ho2;refine ax (rnumT r.counter hr.counter 8 (by decide)) (hb:=.inl rfl) (h:=?_);rintro _ _ _ ⟨ob3,cap3,rfl,rfl,rfl,ho3⟩;refine go 1 ?_;intro ob4 cap4 ho4;refine ax (rnum r.epoch 4 (by decide)) (hb:=.inl rfl) (h:=?_);rintro _ _ _ ⟨ob5,cap5,rfl,rfl,rfl,ho5⟩;refine go 6 ?_;intro ob6 cap6 ho6;exact db (l:=aX r) rfl rfl (by first|exact .keep (aa _)|exact .drop (.keep (aa _))|exact .drop (.drop (.keep (aa _)))) (by unfold aX;simp[hk,aw,aY,aQ,dA]) (by unfold aX;simp[hk,dA]) (by first|assumption|(right;rfl))
theorem rbody_none(r:Rdg)(hk:r.kind≠1∧r.kind≠2∧r.kind≠3∧r.kind≠4∧r.kind≠5∧r.kind≠6∧r.kind≠7∧r.kind≠8∧r.kind≠10∧r.kind≠12∧r.kind≠13∧r.kind≠14):Spc Tryz.prog 148 #[.agg r.cells.toArray] [] [] (OwnB (aX r)):=by refine Spc.enter Tryz.func148 (h:=?_);refine fun w0 hw0=>?_;refine go 8 ?_;intro b1;refine ao [] (ho:=rfl) (h:=?_);intro b2;refine go 16 ?_;refine ag rfl ((by simp[hk])) ?_;refine go 6 ?_;refine ag rfl ((by simp[hk])) ?_;refine go 6 ?_;refine ag rfl ((by simp[hk])) ?_;refine go 6 ?_;refine ag rfl ((by simp[hk])) ?_;refine go 6 ?_;refine ag rfl ((by simp[hk])) ?_;refine go 6 ?_;refine ag rfl ((by simp[hk])) ?_;refine go 6 ?_;refine ag rfl ((by simp[hk])) ?_;refine go 6 ?_;refine ag rfl ((by simp[hk])) ?_;refine go 6 ?_;refine ag rfl ((by simp[hk])) ?_;refine go 6 ?_;refine ag rfl ((by simp[hk])) ?_;refine go 6 ?_;refine ag rfl ((by simp[hk])) ?_;refine go 6 ?_;refine ag rfl ((by simp[hk])) ?_;refine go 8 ?_;exact db (l:=aX r) rfl rfl (.keep (aa _)) (by unfold aX;simp[hk]) (by unfold aX;simp[hk]) (by first|assumption|(left;rfl))
end Go.Proofs.YthlchaldjekokaaGreat
