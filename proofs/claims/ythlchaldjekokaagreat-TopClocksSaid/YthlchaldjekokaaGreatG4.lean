/- Part 4 of the proof. -/
import Derived.Test.YthlchaldjekokaaGreatG3
set_option linter.all false
namespace Go.Proofs.YthlchaldjekokaaGreat
open Go.PK
def goodE(v:Value):Prop:=∃n:Int,v=.int .i64 n
def goodQ(v:Value):Prop:=∃a b:Int,v=.agg #[.int .u32 a,.int .u8 b]
abbrev bufI(b r:Nat):It:=cel b [.map (some r)] 457
theorem qnew_any:Spc Tryz.prog 184 #[] [] [] (fun v I' H'=>∃b r,v=.pointer (some ⟨b,0,none⟩)∧I'=[]∧H'=[bufI b r,aN r goodQ []]):=by refine Spc.enter Tryz.func184 (h:=?_);refine fun w0 hw0=>?_;refine go 7 ?_;refine RL.makeMap (good:=goodQ) (h:=?_);refine fun r=>?_;refine go 6 ?_;intro b1;exact RQ.post (az rfl rfl) (.keep (.keep .nil)) ⟨b1,r,rfl,rfl,rfl⟩
structure RBk where
 b:Nat
 q:Nat
 r:Nat
 mt:Nat
 s:Sch
structure RSt where
 iv:Nat
 k:List B8
 bad:Nat
 rel:Nat
def rcC(B:RBk)(z:RSt):List Value:=.int .i64 B.s.st:: .int .i64 B.s.ln:: .int .i64 B.s.lg:: .int .i64 B.s.of:: .int .u32 (z.iv:Int)::(bytes z.k++[.pointer (some ⟨B.q,0,none⟩),.int .i64 (z.bad:Int),.int .i64 (z.rel:Int),.map (some B.mt)])
abbrev recI(B:RBk)(z:RSt):It:=cel B.b (rcC B z) 355
abbrev RTI(B:RBk)(z:RSt):List It:=[recI B z,aN B.mt goodE [],bufI B.q B.r,aN B.r goodQ []]
theorem tk_iv(B:RBk)(z:RSt):(rcC B z)[0+4]?=some (.int .u32 (z.iv:Int)):=rfl
theorem tk_tail(B:RBk){z:RSt}(h:z.k.length=32)(j:Nat):(rcC B z)[0+37+j]?=([.pointer (some ⟨B.q,0,none⟩),.int .i64 (z.bad:Int),.int .i64 (z.rel:Int),.map (some B.mt)]:List Value)[j]?:=by rw[rcC,show 0+37+j=(32+j)+1+1+1+1+1 by omega];simp only[List.getElem?_cons_succ];rw[List.getElem?_append_right (by simp[h]),List.length_map,h,Nat.add_sub_cancel_left]
theorem tk_k(B:RBk)(z:RSt):∀(j:Nat) (u:Value),(bytes z.k)[j]?=some u→(rcC B z)[0+5+j]?=some u:=fun j u hj=>by
 rw[rcC,show 0+5+j=j+1+1+1+1+1 by omega]
 simp only[List.getElem?_cons_succ]
 rw[List.getElem?_append_left (List.getElem?_eq_some_iff.1 hj).1];exact hj
abbrev ez(k:List B8):RSt:=⟨0,k,0,0⟩
theorem tk_q(B:RBk){z:RSt}(h:z.k.length=32):(rcC B z)[0+37]?=some (.pointer (some ⟨B.q,0,none⟩)):=tk_tail B h 0
theorem tis_yes(B:RBk)(z:RSt)(hk:z.k.length=32):Spc Tryz.prog 189 #[.pointer (some ⟨B.b,0,none⟩)] [recI B z] [] (Is (.bool true)):=by refine Spc.enter Tryz.func189 (h:=?_);refine fun w0 hw0=>?_;refine go 8 ?_;refine bj (hr:=dG KU116.h _) (h:=go 4 ?_);refine RL.load (ho:=rfl) (hr:=aD mQ (tk_q B hk)) (h:=?_);refine bj (hr:=dG KU352.h _) (h:=go 5 ?_);exact RQ.post (az rfl rfl) (aa _) ⟨rfl,rfl,rfl⟩
def rcZ:List Value:=[.int .i64 0,.int .i64 0,.int .i64 0,.int .i64 0,.int .u32 0]++(bytes (List.replicate 32 0#8)++[.pointer none,.int .i64 0,.int .i64 0,.map none])
theorem fill_tk(B:RBk){k:List B8}(hk:k.length=32){places:Array (Nat×Nat)}(hp:places= #[(0,4),(4,1),(5,32),(37,1),(38,1),(39,1),(40,1)]):bX (places[·]?) rcZ [(0,.agg #[.int .i64 B.s.st,.int .i64 B.s.ln,.int .i64 B.s.lg,.int .i64 B.s.of]),(2,.agg (bytes k).toArray),(3,.pointer (some ⟨B.q,0,none⟩)),(6,.map (some B.mt))]=some (rcC B (ez k)):=by
 subst hp;have h0:(bytes (List.replicate 32 0#8)).length=32:=rfl;have hb:(bytes k).length=32:=by rw[List.length_map,hk]
 refine aK (vs:=B.s.cells) [] [.int .i64 0,.int .i64 0,.int .i64 0,.int .i64 0] ([.int .u32 0]++(bytes (List.replicate 32 0#8)++[.pointer none,.int .i64 0,.int .i64 0,.map none])) rfl rfl rfl rfl rfl rfl ?_;refine aK (vs:=bytes k) (B.s.cells++[.int .u32 0]) (bytes (List.replicate 32 0#8)) [.pointer none,.int .i64 0,.int .i64 0,.map none] rfl (cq _) rfl rfl h0 hb ?_;refine aK (vs:=[.pointer (some ⟨B.q,0,none⟩)]) (B.s.cells++[.int .u32 0]++bytes k) [.pointer none] [.int .i64 0,.int .i64 0,.map none] rfl rfl (by simp) (by simp[Sch.cells,hk]) rfl rfl ?_;refine aK (vs:=[.map (some B.mt)]) (B.s.cells++[.int .u32 0]++bytes k++[.pointer (some ⟨B.q,0,none⟩),.int .i64 0,.int .i64 0]) [.map none] [] rfl rfl (by simp) (by simp[Sch.cells,hk]) rfl rfl ?_;simp[bX,rcC,Sch.cells]
def TkNewR(s:Sch)(k:List B8):Value→List It→List It→Prop:=fun v I' H'=>I'=[]∧((s.Ok∧∃B:RBk,B.s=s∧v=.tuple #[.pointer (some ⟨B.b,0,none⟩),.int .i64 0]∧H'=RTI B (ez k))∨(¬s.Ok∧v=.tuple #[.pointer none,.int .i64 2]∧H'=[]))
theorem tnew_any(s:Sch)(k:List B8)(hk:k.length=32):Spc Tryz.prog 114 #[.agg #[.int .i64 s.st,.int .i64 s.ln,.int .i64 s.lg,.int .i64 s.of],.agg (bytes k).toArray] [] [] (TkNewR s k):=by
 have hk32:(bytes k).length=32:=by rw[List.length_map,hk]
 refine Spc.enter Tryz.func114 (h:=?_);refine fun w0 hw0=>?_;refine go 12 ?_;intro b1 b2;refine ab (scheck s) (h:=?_);refine go 9 ?_;refine CW.cond rfl (fun h=>?_) (fun h=>?_)
 ·refine go 9 ?_;have hno: ¬s.Ok:=fun e=>by simp[Sch.e,e] at h
  refine RQ.post (bb rfl rfl rfl) (aa _) ⟨rfl,.inr ⟨hno,by rw[Sch.e,if_neg hno],rfl⟩⟩
 ·have hok:s.Ok:=Classical.byContradiction fun e=>by simp[Sch.e,e] at h
  refine aB (A:=[_,_]) (B:=[]) (.take (.take .nil)) rfl ?_;refine aW (fun J hJ=>?_);have mK:cel b2 (bytes k) 31∈J:=hJ _ (by simp);have mS:cel b1 [.int .i64 s.st,.int .i64 s.ln,.int .i64 s.lg,.int .i64 s.of] 29∈J:=hJ _ (by simp);have rK:RdsN J ⟨b2,0,none⟩ 32 (bytes k):=⟨fun _=>Rds.allI mK,hk32⟩;have rS:RdsN J ⟨b1,0,none⟩ 4 [.int .i64 s.st,.int .i64 s.ln,.int .i64 s.lg,.int .i64 s.of]:=⟨fun _=>Rds.allI mS,rfl⟩;clear hJ;refine go 3 ?_;refine ae (.cons 0 (.cons 1 (.fork [2,3] (fun k=>(bif Nat.beq k 2 then(Sq.of [3,4,5,6,7]) else(Sq.of [2,4,5,6,7])))))) [2,3,5] [2] [0,1,4,6,7] (h:=?_);refine go 2 ?_;refine RL.fork ⟨?_,?_,trivial⟩
  ·refine RL.call (qnew_any) (hl:=.nil) (hb:=.inr rfl) (h:=?_);rintro _ _ _ ⟨qb,qr,rfl,rfl,rfl⟩;refine RL.makeMap (good:=goodE) (h:=?_);refine fun mt=>?_;refine ay (rcC ⟨0,qb,qr,mt,s⟩ (ez k)) (ho:=rfl) (hf:=fill_tk ⟨0,qb,qr,mt,s⟩ hk rfl) (h:=go 6 ?_);intro b3;exact RQ.rea (fun _ h=>h) (H':=RTI ⟨b3,qb,qr,mt,s⟩ (ez k)) rE (RQ.post (bb rfl rfl rfl) (.keep (.keep (.keep (.keep .nil)))) ⟨rfl,.inl ⟨hok,⟨b3,qb,qr,mt,s⟩,rfl,rfl,rfl⟩⟩)
  ·refine RL.makeMap (good:=goodE) (h:=?_);refine fun mt=>?_;refine RL.call (qnew_any) (hl:=.nil) (hb:=.inr rfl) (h:=?_);rintro _ _ _ ⟨qb,qr,rfl,rfl,rfl⟩;refine ay (rcC ⟨0,qb,qr,mt,s⟩ (ez k)) (ho:=rfl) (hf:=fill_tk ⟨0,qb,qr,mt,s⟩ hk rfl) (h:=go 6 ?_);intro b3;exact RQ.rea (fun _ h=>h) (H':=RTI ⟨b3,qb,qr,mt,s⟩ (ez k)) rE (RQ.post (bb rfl rfl rfl) (.keep (.keep (.keep (.keep .nil)))) ⟨rfl,.inl ⟨hok,⟨b3,qb,qr,mt,s⟩,rfl,rfl,rfl⟩⟩)
theorem tknown_any(B:RBk)(z:RSt)(hk:z.k.length=32):Spc Tryz.prog 126 #[.pointer (some ⟨B.b,0,none⟩)] [recI B z] [] (Is (.tuple #[.int .u32 (z.iv:Int),.agg (bytes z.k).toArray])):=by
 have hk32:(bytes z.k).length=32:=by rw[List.length_map,hk]
 refine Spc.enter Tryz.func126 (h:=?_);refine fun w0 hw0=>?_;refine go 3 ?_;refine RL.alloc (cs:=List.replicate 32 (U8 0#8)) (ho:=rfl) (h:=?_);intro b1;refine go 6 ?_;refine ar (tis_yes B z hk) (hl:=Lend.inI mQ .nil) (h:=?_);refine go 7 ?_;refine ae (Sq.of [0,1,2,3,4,5,6,7,8,9]) [9] [9] [0,1,2,4,5,6,8] (h:=?_);refine go 3 ?_;refine RL.load (ho:=rfl) (hr:=aD mQ (tk_iv B z)) (h:=?_);refine go 3 ?_;refine RL.loadA KA31.h KS31.h rfl rfl rfl rfl (vs:=bytes z.k) (Rds.celI mQ (tk_k B z)) hk32 ?_;refine go 5 ?_;exact RQ.post (resTW rfl rfl rfl KA31.h KS31.h mQ hk32) (aa _) ⟨rfl,rfl,rfl⟩
def rcF(r:Rc)(i:Nat):Value:=r.cells.getD i (.bool false)
theorem map_getD:∀ {l:List Value} {n:Nat},l.length=n→(List.range n).map (fun i=>l.getD i (.bool false))=l:=fun {l n} h=>by
 subst h
 refine List.ext_getElem (by simp) (fun i h1 h2=>?_)
 simp[List.getElem?_eq_getElem h2]
abbrev fJ(r:Rc):List Value:=(List.range 50).map (rcF r)
theorem rcL_eq{r:Rc}(h:r.Ok):fJ r=r.cells:=map_getD (bT h)
structure UB where
 b:Nat
 st:Nat
 h:Nat
 nb:Nat
 jm:Nat
 rm:Nat
 tm:Nat
 c:Nat→Value
 G:GB
 R:RBk
structure US where
 now:Int
 md:Int
 lk:Bool
 nd:Bool
 la:Rc
 be:Rc
 ev:Value
def UB.pre(B:UB)(u:US):List Value:=(List.range 45).map B.c++[.pointer (some ⟨B.st,0,none⟩),.int .i64 u.now,.pointer (some ⟨B.h,0,none⟩),.pointer (some ⟨B.G.gb,0,none⟩),.pointer (some ⟨B.R.b,0,none⟩),.pointer (some ⟨B.nb,0,none⟩),.map (some B.jm),.map (some B.rm),.int .u8 u.md,.bool u.lk,.bool u.nd]
def UB.cells(B:UB)(u:US):List Value:=B.pre u++(fJ u.la++(fJ u.be++[u.ev,.map (some B.tm)]))
abbrev UB.it(B:UB)(u:US):It:=cel B.b (B.cells u) 127
theorem ea(B:UB)(u:US):(B.pre u).length=56:=rfl
theorem gO(B:UB)(u:US):(B.cells u).length=158:=by simp[UB.cells,ea]
theorem cQ(r:Rc):(fJ r).length=50:=by simp
theorem un_la(B:UB){u:US}(h:u.la.Ok):∀(j:Nat) (v:Value),u.la.cells[j]?=some v→(B.cells u)[0+56+j]?=some v:=fun j v hj=>by
 have hl:=(List.getElem?_eq_some_iff.1 hj).1
 rw[UB.cells,List.getElem?_append_right (by rw[ea];omega),ea,rcL_eq h,show 0+56+j-56=j by omega,List.getElem?_append_left hl,hj]
theorem un_be(B:UB){u:US}(h:u.be.Ok):∀(j:Nat) (v:Value),u.be.cells[j]?=some v→(B.cells u)[0+106+j]?=some v:=fun j v hj=>by
 have hl:=(List.getElem?_eq_some_iff.1 hj).1
 rw[UB.cells,List.getElem?_append_right (by rw[ea];omega),ea,List.getElem?_append_right (by rw[cQ];omega),cQ,rcL_eq h,show 0+106+j-56-50=j by omega,List.getElem?_append_left hl,hj]
theorem un_ev(B:UB)(u:US):(B.cells u)[0+156]?=some u.ev:=by rw[UB.cells,List.getElem?_append_right (by rw[ea];omega),ea,List.getElem?_append_right (by rw[cQ];omega),cQ,List.getElem?_append_right (by rw[cQ];omega),cQ];rfl
theorem un_tm(B:UB)(u:US):(B.cells u)[0+157]?=some (.map (some B.tm)):=by rw[UB.cells,List.getElem?_append_right (by rw[ea];omega),ea,List.getElem?_append_right (by rw[cQ];omega),cQ,List.getElem?_append_right (by rw[cQ];omega),cQ];rfl
theorem un_setev(B:UB)(u:US)(v:Value):bP (B.cells u) (0+156) [v]=B.cells { u with ev:=v }:=by have e:=bI (A:=B.pre u++(fJ u.la++fJ u.be)) (B:=[u.ev]) (B':=[v]) (C:=[.map (some B.tm)]) (o:=0+156) (by rw[List.length_append,List.length_append,ea,cQ,cQ]) rfl;rw[List.append_assoc,List.append_assoc,List.append_assoc,List.append_assoc] at e;exact e
theorem un_setla(B:UB)(u:US){r:Rc}(h:r.Ok):bP (B.cells u) (0+56) r.cells=B.cells { u with la:=r }:=by have e:=bI (A:=B.pre u) (B:=fJ u.la) (B':=fJ r) (C:=fJ u.be++[u.ev,.map (some B.tm)]) (o:=0+56) (ea B u) (by rw[cQ,cQ]);rw[←rcL_eq h];exact e
theorem un_setbe(B:UB)(u:US){r:Rc}(h:r.Ok):bP (B.cells u) (0+106) r.cells=B.cells { u with be:=r }:=by have e:=bI (A:=B.pre u++fJ u.la) (B:=fJ u.be) (B':=fJ r) (C:=[u.ev,.map (some B.tm)]) (o:=0+106) (by rw[List.length_append,ea,cQ]) (by rw[cQ,cQ]);rw[List.append_assoc,List.append_assoc] at e;rw[←rcL_eq h];exact e
theorem rc_mark{r:Rc}(h:r.Ok){i:Nat}{m:Nat×Nat}(hi:r.ms[i]?=some m):∀(j:Nat) (v:Value),[Value.int .u32 (m.1:Int),.int .u64 (m.2:Int)][j]?=some v→r.cells[1+i*2+j]?=some v:=fun j v hj=>by
 have hd:=mkC_drop r.ms i
 obtain⟨hl,rfl⟩:=List.getElem?_eq_some_iff.1 hi
 rw[List.drop_eq_getElem_cons hl] at hd
 have h1:(mkC r.ms)[i*2+j]?=some v:=by
  rw[←List.getElem?_drop,hd]
  match j,hj with
  | 0,hj=>exact hj
  | 1,hj=>exact hj
  | _+2,hj=>simp at hj
 rw[←rc_mk h _ _ h1]
 congr 1
 omega
theorem uis_any(B:UB)(u:US):Spc Tryz.prog 35 #[.pointer (some ⟨B.b,0,none⟩)] [B.it u] [] (Is (.bool true)):=by
 refine Spc.enter Tryz.func35 (h:=?_);refine fun w0 hw0=>?_;refine go 8 ?_;refine bj (hr:=dG KU59.h _) (h:=go 1 ?_);apply aL (d:=5) (dp:=11) (l':=(Sq.of [9])) rfl (sK [2] rfl)
 ·intro hb3 K3;refine go 4 ?_;refine bj (hr:=neq_map KU125.h _) (h:=go 1 ?_);exact K3 _ (.cons rfl (sK [2] rfl))
 ·intro hb3 K3;refine go 6 ?_;exact K3 _ (.cons rfl (sK [2] rfl))
 refine go 4 ?_;exact RQ.post (az rfl rfl) (aa _) ⟨rfl,rfl,rfl⟩
theorem gP(B:UB)(u:US):Spc Tryz.prog 13 #[.pointer (some ⟨B.b,0,none⟩)] [B.it u] [] (Is (.int .i64 u.now)):=by refine Spc.enter Tryz.func13 (h:=?_);refine fun w0 hw0=>?_;refine go 9 ?_;refine ab (uis_any B u) (h:=?_);refine go 16 ?_;exact RQ.post (az rfl rfl) (aa _) ⟨rfl,rfl,rfl⟩
def c3(f:Nat→Value)(z:Value)(k:Nat):List Value:=[if 0<k then f 0 else z,if 1<k then f 1 else z,if 2<k then f 2 else z]
theorem c3_step{f:Nat→Value}{z:Value}:∀ {k:Nat},k<3→bP (c3 f z k) (0+k*1) [f k]=c3 f z (k+1)
 | 0,_=>rfl
 | 1,_=>rfl
 | 2,_=>rfl
def f32(l:List B8)(k:Nat):Value:=.int .i32 (IntKind.i32.wrap (dE ((l.drop (4*k)).take 4)))
def f64(l:List B8)(k:Nat):Value:=.int .i64 (IntKind.i64.wrap (dE ((l.drop (8*k)).take 8)))
theorem rthree_any(d:Nat)(p:Option Addr)(c:Nat)(l:List B8)(h4:4*3≤l.length)(hc:l.length≤c):Spc Tryz.prog 245 #[.pointer (some ⟨d,0,none⟩)] [sls p 1 l.length (bytes l)] [rdr d p l.length c] (RdR d p l (4*3) (.agg (c3 (f32 l) (.int .i32 0) 3).toArray)):=by
 refine Spc.enter Tryz.func245 (h:=?_);refine fun w0 hw0=>?_;refine go 17 ?_;intro b1 b2;refine CW.loop (γ:=Nat×Option Addr×Nat) (fun g=>g.1≤3∧(l.drop (4*g.1)).length≤g.2.2∧Lies (sls p 1 l.length (bytes l)) (sls g.2.1 1 (l.drop (4*g.1)).length (bytes (l.drop (4*g.1))))) (fun g=>[(0,.pointer (some ⟨d,0,none⟩)),(2,.pointer (some ⟨b1,0,none⟩)),(3,.pointer (some ⟨b2,0,none⟩)),(5,.int .i64 (g.1:Int))]) (fun _=>[sls p 1 l.length (bytes l)]) (fun g=>[rdr d g.2.1 (l.drop (4*g.1)).length g.2.2,cel b2 (c3 (f32 l) (.int .i32 0) g.1) 50,cel b1 (c3 (f32 l) (.int .i32 0) 0) 50]) (fun g=>3-g.1) (0,p,c) ⟨by omega,hc,Lies.refl _⟩ (.cons rfl (.cons rfl (.cons rfl (.cons rfl .nil)))) wE ?_;rintro⟨k,p',c'⟩ ⟨hk,hc',hl⟩;dsimp only at hk hc' hl ⊢;refine go 6 ?_;refine CW.cond rfl (fun hlt=>?_) (fun hlt=>?_)
 ·have hlt:k<3:=by simp at hlt;omega
  have hlen:4≤(l.drop (4*k)).length:=by rw[List.length_drop];omega
  have hdr:(l.drop (4*k)).drop 4=l.drop (4*(k+1)):=by rw[List.drop_drop,Nat.mul_add,Nat.mul_one]
  refine CW.sub hl mQ ?_;refine go 13 ?_;refine RL.call (rshort_any d p' c' (l.drop (4*k)) hlen hc') (hl:=.inI (List.Mem.head _) .nil) (hb:=.inr rfl) (h:=?_);rintro _ _ _ ⟨rfl,rfl,p2,c2,rfl,hc2,hl2⟩;rw[hdr] at hc2 hl2 ⊢;refine al (j:=k) (ho:=rfl) (hlt:=hlt) (h:=?_);refine aj (cs':=c3 (f32 l) (.int .i32 0) (k+1)) (vs:=[_]) (c3_step hlt) (ho:=rfl) (hl:=by simp[c3];omega) (h:=?_);refine go 4 ?_;refine ap rfl (ad (by omega) (by omega)) ?_;refine go 2 ?_;exact NQ.round (g:=(k,p',c')) (k+1,p2,c2) ⟨hlt,hc2,hl.trans hl2⟩ (by show 3-(k+1)<3-k;omega) (.cons rfl (.cons rfl (.cons rfl (.cons rfl .nil)))) (fun w h=>h.les (fun x hx=>by simp at hx;simp[hx]) (Les.refl _))
 ·have hk3:k=3:=by simp at hlt;omega
  subst hk3;have e3:c3 (f32 l) (.int .i32 0) 3=[f32 l 0,f32 l 1,f32 l 2]:=rfl;have e0:c3 (f32 l) (.int .i32 0) 0=[.int .i32 0,.int .i32 0,.int .i32 0]:=rfl;rw[e3,e0];unfold f32;refine go 12 ?_;exact RQ.post (cU rfl rfl KA50.h KS50.h mQ rfl) (.keep (aa _)) ⟨rfl,rfl,p',c',rfl,hc',hl⟩
theorem rvec_any(d:Nat)(p:Option Addr)(c:Nat)(l:List B8)(h4:8*3≤l.length)(hc:l.length≤c):Spc Tryz.prog 249 #[.pointer (some ⟨d,0,none⟩)] [sls p 1 l.length (bytes l)] [rdr d p l.length c] (RdR d p l (8*3) (.agg (c3 (f64 l) (.int .i64 0) 3).toArray)):=by
 refine Spc.enter Tryz.func249 (h:=?_);refine fun w0 hw0=>?_;refine go 17 ?_;intro b1 b2;refine CW.loop (γ:=Nat×Option Addr×Nat) (fun g=>g.1≤3∧(l.drop (8*g.1)).length≤g.2.2∧Lies (sls p 1 l.length (bytes l)) (sls g.2.1 1 (l.drop (8*g.1)).length (bytes (l.drop (8*g.1))))) (fun g=>[(0,.pointer (some ⟨d,0,none⟩)),(2,.pointer (some ⟨b1,0,none⟩)),(3,.pointer (some ⟨b2,0,none⟩)),(5,.int .i64 (g.1:Int))]) (fun _=>[sls p 1 l.length (bytes l)]) (fun g=>[rdr d g.2.1 (l.drop (8*g.1)).length g.2.2,cel b2 (c3 (f64 l) (.int .i64 0) g.1) 27,cel b1 (c3 (f64 l) (.int .i64 0) 0) 27]) (fun g=>3-g.1) (0,p,c) ⟨by omega,hc,Lies.refl _⟩ (.cons rfl (.cons rfl (.cons rfl (.cons rfl .nil)))) wE ?_;rintro⟨k,p',c'⟩ ⟨hk,hc',hl⟩;dsimp only at hk hc' hl ⊢;refine go 6 ?_;refine CW.cond rfl (fun hlt=>?_) (fun hlt=>?_)
 ·have hlt:k<3:=by simp at hlt;omega
  have hlen:8≤(l.drop (8*k)).length:=by rw[List.length_drop];omega
  have hdr:(l.drop (8*k)).drop 8=l.drop (8*(k+1)):=by rw[List.drop_drop,Nat.mul_add,Nat.mul_one]
  refine CW.sub hl mQ ?_;refine go 13 ?_;refine RL.call (rfix_any d p' c' (l.drop (8*k)) hlen hc') (hl:=.inI (List.Mem.head _) .nil) (hb:=.inr rfl) (h:=?_);rintro _ _ _ ⟨rfl,rfl,p2,c2,rfl,hc2,hl2⟩;rw[hdr] at hc2 hl2 ⊢;refine al (j:=k) (ho:=rfl) (hlt:=hlt) (h:=?_);refine aj (cs':=c3 (f64 l) (.int .i64 0) (k+1)) (vs:=[_]) (c3_step hlt) (ho:=rfl) (hl:=by simp[c3];omega) (h:=?_);refine go 4 ?_;refine ap rfl (ad (by omega) (by omega)) ?_;refine go 2 ?_;exact NQ.round (g:=(k,p',c')) (k+1,p2,c2) ⟨hlt,hc2,hl.trans hl2⟩ (by show 3-(k+1)<3-k;omega) (.cons rfl (.cons rfl (.cons rfl (.cons rfl .nil)))) (fun w h=>h.les (fun x hx=>by simp at hx;simp[hx]) (Les.refl _))
 ·have hk3:k=3:=by simp at hlt;omega
  subst hk3;have e3:c3 (f64 l) (.int .i64 0) 3=[f64 l 0,f64 l 1,f64 l 2]:=rfl;have e0:c3 (f64 l) (.int .i64 0) 0=[.int .i64 0,.int .i64 0,.int .i64 0]:=rfl;rw[e3,e0];unfold f64;refine go 12 ?_;exact RQ.post (cU rfl rfl KA27.h KS27.h mQ rfl) (.keep (aa _)) ⟨rfl,rfl,p',c',rfl,hc',hl⟩
structure Rdg where
 kind:Int
 g0:Int
 g1:Int
 g2:Int
 a0:Int
 a1:Int
 a2:Int
 height:Int
 heading:Int
 speed:Int
 steps:Int
 interval:Int
 seq:B8
 p0:Int
 p1:Int
 p2:Int
 key:Nat→B8
 tick:Int
 mode:B8
 epoch:Int
 bound:Int
 flags:Int
 source:B8
 state:B8
 fails:Int
 counter:Int
def keyV(k:Nat→B8):List Value:=[U8 (k 0),U8 (k 1),U8 (k 2),U8 (k 3),U8 (k 4),U8 (k 5),U8 (k 6),U8 (k 7),U8 (k 8),U8 (k 9),U8 (k 10),U8 (k 11),U8 (k 12),U8 (k 13),U8 (k 14),U8 (k 15),U8 (k 16),U8 (k 17),U8 (k 18),U8 (k 19),U8 (k 20),U8 (k 21),U8 (k 22),U8 (k 23),U8 (k 24),U8 (k 25),U8 (k 26),U8 (k 27),U8 (k 28),U8 (k 29),U8 (k 30),U8 (k 31)]
def Rdg.cells(r:Rdg):List Value:=
 [.int .i64 r.kind,.int .i32 r.g0,.int .i32 r.g1,.int .i32 r.g2,.int .i32 r.a0,.int .i32 r.a1,.int .i32 r.a2,.int .i64 r.height,.int .u32 r.heading,.int .i32 r.speed,.int .u32 r.steps,.int .u32 r.interval,U8 r.seq,.int .i64 r.p0,.int .i64 r.p1,.int .i64 r.p2]++(keyV r.key++
 [.int .u64 r.tick,U8 r.mode,.int .u32 r.epoch,.int .i64 r.bound,.int .u32 r.flags,U8 r.source,U8 r.state,.int .u16 r.fails,.int .u64 r.counter])
def rz(k:Int):Rdg:=⟨k,0,0,0,0,0,0,0,0,0,0,0,0,0,0,0,fun _=>0,0,0,0,0,0,0,0,0,0⟩
def iH(l:List B8)(o n:Nat):Nat:=dE ((l.drop o).take n)
def fp(l:List B8)(o:Nat):Int:=IntKind.i32.wrap (iH l o 4)
def i64at(l:List B8)(o:Nat):Int:=IntKind.i64.wrap (iH l o 8)
def bat(l:List B8)(o:Nat):B8:=l.getD o 0
def bH(k:Int)(l:List B8):Rdg:=
 if k=1 then { rz 1 with g0:=fp l 0,g1:=fp l 4,g2:=fp l 8,a0:=fp l 12,a1:=fp l 16,a2:=fp l 20 }
 else if k=2 then { rz 2 with height:=i64at l 0 }
 else if k=3 then { rz 3 with heading:=iH l 0 4 }
 else if k=4 then { rz 4 with speed:=fp l 0,steps:=iH l 4 4 }
 else if k=5 then { rz 5 with interval:=iH l 0 4,seq:=bat l 4,p0:=i64at l 5,p1:=i64at l 13,p2:=i64at l 21 }
 else if k=6 then { rz 6 with interval:=iH l 0 4,key:=fun j=>bat l (4+j) }
 else if k=7 then { rz 7 with tick:=iH l 0 8 }
 else if k=8 then { rz 8 with mode:=bat l 0 }
 else if k=10 then { rz 10 with epoch:=iH l 0 4 }
 else if k=12 then { rz 12 with source:=bat l 0 }
 else if k=13 then { rz 13 with mode:=bat l 0,p0:=i64at l 1,p1:=i64at l 9,p2:=i64at l 17,bound:=i64at l 25,flags:=iH l 33 4 }
 else if k=14 then { rz 14 with source:=bat l 0,state:=bat l 1,fails:=iH l 2 2,counter:=iH l 4 8,epoch:=iH l 12 4 }
 else rz k
def bW(k:Int):Nat:=if k=1 then 24 else if k=2 then 8 else if k=3 then 4 else if k=4 then 8 else if k=5 then 29 else if k=6 then 36 else if k=7 then 8 else if k=8 then 1 else if k=9 then 0 else if k=10 then 4 else if k=11 then 0 else if k=12 then 1 else if k=13 then 37 else 16
theorem nat_lt(l:List B8)(o n:Nat):iH l o n<256^n:=by have h:=i4 ((l.drop o).take n);refine Nat.lt_of_lt_of_le h (Nat.pow_le_pow_right (by decide) ?_);rw[List.length_take];omega
theorem eD(l:List B8)(o:Nat):IntKind.u32.wrap (dE ((l.drop o).take 4):Int)=(iH l o 4:Int):=by have h:=nat_lt l o 4;unfold iH at h ⊢;simp[IntKind.wrap,IntKind.bits,IntKind.signed];omega
theorem dY(l:List B8):IntKind.u32.wrap (dE (l.take 4):Int)=(iH l 0 4:Int):=by rw[←eD,List.drop_zero]
theorem eO(l:List B8)(o:Nat):IntKind.u16.wrap (dE ((l.drop o).take 2):Int)=(iH l o 2:Int):=by have h:=nat_lt l o 2;unfold iH at h ⊢;simp[IntKind.wrap,IntKind.bits,IntKind.signed];omega
theorem bat_nat(l:List B8)(o:Nat)(h:o<l.length):dE ((l.drop o).take 1)=(bat l o).toNat:=by rw[List.drop_eq_getElem_cons h,List.take_succ_cons,List.take_zero];simp only[dE,List.foldl_cons,List.foldl_nil,Nat.mul_zero,Nat.zero_add];simp[bat,h]
theorem bat_nat0(l:List B8)(h:0<l.length):dE (l.take 1)=(bat l 0).toNat:=by rw[←bat_nat l 0 h,List.drop_zero]
theorem cJ(b:B8):BitVec.ofNat 8 b.toNat=b:=by simp
theorem bat_get{l:List B8}{o:Nat}(h:o<l.length):l[o]?=some (bat l o):=by simp[bat,h]
theorem key_bat{l:List B8}{o:Nat}(h:o+32≤l.length):bytes ((l.drop o).take 32)=keyV (fun j=>bat l (o+j)):=by
 apply List.ext_getElem?;intro j;by_cases hj:j<32
 ·have e:(bytes ((l.drop o).take 32))[j]?=some (U8 (bat l (o+j))):=by rw[List.getElem?_map,List.getElem?_take_of_lt hj,List.getElem?_drop,bat_get (by omega)];rfl
  rw[e];clear e;revert j;intro j hj
  match j,hj with
  | 0,_=>rfl
  | 1,_=>rfl
  | 2,_=>rfl
  | 3,_=>rfl
  | 4,_=>rfl
  | 5,_=>rfl
  | 6,_=>rfl
  | 7,_=>rfl
  | 8,_=>rfl
  | 9,_=>rfl
  | 10,_=>rfl
  | 11,_=>rfl
  | 12,_=>rfl
  | 13,_=>rfl
  | 14,_=>rfl
  | 15,_=>rfl
  | 16,_=>rfl
  | 17,_=>rfl
  | 18,_=>rfl
  | 19,_=>rfl
  | 20,_=>rfl
  | 21,_=>rfl
  | 22,_=>rfl
  | 23,_=>rfl
  | 24,_=>rfl
  | 25,_=>rfl
  | 26,_=>rfl
  | 27,_=>rfl
  | 28,_=>rfl
  | 29,_=>rfl
  | 30,_=>rfl
  | 31,_=>rfl
  | _+32,h=>omega
 ·rw[List.getElem?_eq_none (by rw[List.length_map,List.length_take];omega),List.getElem?_eq_none (by simp[keyV];omega)]
theorem pre32{l:List B8}{o:Nat}(h:o+32≤l.length):∀(j:Nat) (u:Value),(keyV (fun j=>bat l (o+j)))[j]?=some u→(bytes (l.drop o))[0*1+j]?=some u:=by
 intro j u hu;rw[←key_bat h,List.getElem?_map,List.getElem?_take] at hu;rw[Nat.zero_mul,Nat.zero_add,List.getElem?_map];split at hu
 ·exact hu
 ·simp at hu
theorem rget_1(d br:Nat)(p:Option Addr)(c:Nat)(l:List B8)(hl:l.length=24)(hc:l.length≤c):Spc Tryz.prog 169 #[.pointer (some ⟨d,0,none⟩),.pointer (some ⟨br,0,none⟩)] [sls p 1 l.length (bytes l)] [rdr d p l.length c,cel br (Rdg.cells (rz 1)) 54] (fun _ I' H'=>I'=[]∧∃x,H'=[x,cel br (Rdg.cells (bH 1 l)) 54]):=by have hl0:=Lies.refl (sls p 1 l.length (bytes l));refine Spc.enter Tryz.func169 (h:=?_);refine fun w0 hw0=>?_;refine go 52 ?_;refine RL.call (rthree_any d p c l (by omega) hc) (hl:=Lend.sub hl0 mQ .nil) (hb:=.inr rfl) (h:=?_);rintro _ _ _ ⟨rfl,rfl,q1,k1,rfl,hc1,hk1⟩;rw[show 4*3=12 from rfl] at hc1 hk1 ⊢;have hl1:=hl0.trans hk1;refine go 2 ?_;refine aj (cs':=bP _ (0+1) [f32 l 0,f32 l 1,f32 l 2]) (vs:=[f32 l 0,f32 l 1,f32 l 2]) (ho:=rfl) (hl:=Nat.le_of_ble_eq_true rfl) (h:=?_);refine go 5 ?_;refine RL.call (rthree_any d q1 k1 (l.drop 12) (by rw[List.length_drop];omega) hc1) (hl:=Lend.sub hl1 mQ .nil) (hb:=.inr rfl) (h:=?_);rintro _ _ _ ⟨rfl,rfl,q2,k2,rfl,hc2,hk2⟩;rw[List.drop_drop] at hc2 hk2 ⊢;rw[show 4*3=12 from rfl] at hc2 hk2 ⊢;rw[show 12+12=24 from rfl] at hc2 hk2 ⊢;have hl2:=hl1.trans hk2;refine go 2 ?_;refine aj (cs':=bP _ (0+4) [f32 (l.drop 12) 0,f32 (l.drop 12) 1,f32 (l.drop 12) 2]) (vs:=[f32 (l.drop 12) 0,f32 (l.drop 12) 1,f32 (l.drop 12) 2]) (ho:=rfl) (hl:=Nat.le_of_ble_eq_true rfl) (h:=?_);refine go 26 ?_;refine NQ.post (dn rfl) (.keep (.keep .nil)) ⟨rfl,_,congrArg (fun z=>[_,cel br z _]) ?_⟩;simp only[f32,f64,List.drop_drop,Nat.reduceMul,Nat.reduceAdd,eD,dY,eO,cI,cJ];rfl
theorem rget_2(d br:Nat)(p:Option Addr)(c:Nat)(l:List B8)(hl:l.length=8)(hc:l.length≤c):Spc Tryz.prog 169 #[.pointer (some ⟨d,0,none⟩),.pointer (some ⟨br,0,none⟩)] [sls p 1 l.length (bytes l)] [rdr d p l.length c,cel br (Rdg.cells (rz 2)) 54] (fun _ I' H'=>I'=[]∧∃x,H'=[x,cel br (Rdg.cells (bH 2 l)) 54]):=by have hl0:=Lies.refl (sls p 1 l.length (bytes l));refine Spc.enter Tryz.func169 (h:=?_);refine fun w0 hw0=>?_;refine go 63 ?_;refine RL.call (rfix_any d p c l (by omega) hc) (hl:=Lend.sub hl0 mQ .nil) (hb:=.inr rfl) (h:=?_);rintro _ _ _ ⟨rfl,rfl,q1,k1,rfl,hc1,hk1⟩;have hl1:=hl0.trans hk1;refine go 27 ?_;refine NQ.post (dn rfl) (.keep (.keep .nil)) ⟨rfl,_,congrArg (fun z=>[_,cel br z _]) ?_⟩;simp only[f32,f64,List.drop_drop,Nat.reduceMul,Nat.reduceAdd,eD,dY,eO,cI,cJ];rfl
theorem rget_3(d br:Nat)(p:Option Addr)(c:Nat)(l:List B8)(hl:l.length=4)(hc:l.length≤c):Spc Tryz.prog 169 #[.pointer (some ⟨d,0,none⟩),.pointer (some ⟨br,0,none⟩)] [sls p 1 l.length (bytes l)] [rdr d p l.length c,cel br (Rdg.cells (rz 3)) 54] (fun _ I' H'=>I'=[]∧∃x,H'=[x,cel br (Rdg.cells (bH 3 l)) 54]):=by have hl0:=Lies.refl (sls p 1 l.length (bytes l));refine Spc.enter Tryz.func169 (h:=?_);refine fun w0 hw0=>?_;refine go 75 ?_;refine RL.call (cO d p 4 c l (by omega) hc (by decide)) (hl:=Lend.sub hl0 mQ .nil) (hb:=.inr rfl) (h:=?_);rintro _ _ _ ⟨rfl,rfl,q1,k1,rfl,hc1,hk1⟩;have hl1:=hl0.trans hk1;refine go 26 ?_;refine NQ.post (dn rfl) (.keep (.keep .nil)) ⟨rfl,_,congrArg (fun z=>[_,cel br z _]) ?_⟩;simp only[f32,f64,List.drop_drop,Nat.reduceMul,Nat.reduceAdd,eD,dY,eO,cI,cJ];rfl
theorem rget_4(d br:Nat)(p:Option Addr)(c:Nat)(l:List B8)(hl:l.length=8)(hc:l.length≤c):Spc Tryz.prog 169 #[.pointer (some ⟨d,0,none⟩),.pointer (some ⟨br,0,none⟩)] [sls p 1 l.length (bytes l)] [rdr d p l.length c,cel br (Rdg.cells (rz 4)) 54] (fun _ I' H'=>I'=[]∧∃x,H'=[x,cel br (Rdg.cells (bH 4 l)) 54]):=by have hl0:=Lies.refl (sls p 1 l.length (bytes l));refine Spc.enter Tryz.func169 (h:=?_);refine fun w0 hw0=>?_;refine go 88 ?_;refine RL.call (rshort_any d p c l (by omega) hc) (hl:=Lend.sub hl0 mQ .nil) (hb:=.inr rfl) (h:=?_);rintro _ _ _ ⟨rfl,rfl,q1,k1,rfl,hc1,hk1⟩;have hl1:=hl0.trans hk1;refine go 8 ?_;refine RL.call (cO d q1 4 k1 (l.drop 4) (by rw[List.length_drop];omega) hc1 (by decide)) (hl:=Lend.sub hl1 mQ .nil) (hb:=.inr rfl) (h:=?_);rintro _ _ _ ⟨rfl,rfl,q2,k2,rfl,hc2,hk2⟩;rw[List.drop_drop] at hc2 hk2 ⊢;rw[show 4+4=8 from rfl] at hc2 hk2 ⊢;have hl2:=hl1.trans hk2;refine go 24 ?_;refine NQ.post (dn rfl) (.keep (.keep .nil)) ⟨rfl,_,congrArg (fun z=>[_,cel br z _]) ?_⟩;simp only[f32,f64,List.drop_drop,Nat.reduceMul,Nat.reduceAdd,eD,dY,eO,cI,cJ];rfl
theorem rget_5(d br:Nat)(p:Option Addr)(c:Nat)(l:List B8)(hl:l.length=29)(hc:l.length≤c):Spc Tryz.prog 169 #[.pointer (some ⟨d,0,none⟩),.pointer (some ⟨br,0,none⟩)] [sls p 1 l.length (bytes l)] [rdr d p l.length c,cel br (Rdg.cells (rz 5)) 54] (fun _ I' H'=>I'=[]∧∃x,H'=[x,cel br (Rdg.cells (bH 5 l)) 54]):=by have hl0:=Lies.refl (sls p 1 l.length (bytes l));refine Spc.enter Tryz.func169 (h:=?_);refine fun w0 hw0=>?_;refine go 100 ?_;refine RL.call (cO d p 4 c l (by omega) hc (by decide)) (hl:=Lend.sub hl0 mQ .nil) (hb:=.inr rfl) (h:=?_);rintro _ _ _ ⟨rfl,rfl,q1,k1,rfl,hc1,hk1⟩;have hl1:=hl0.trans hk1;refine go 10 ?_;refine RL.call (cO d q1 1 k1 (l.drop 4) (by rw[List.length_drop];omega) hc1 (by decide)) (hl:=Lend.sub hl1 mQ .nil) (hb:=.inr rfl) (h:=?_);rintro _ _ _ ⟨rfl,rfl,q2,k2,rfl,hc2,hk2⟩;rw[List.drop_drop] at hc2 hk2 ⊢;rw[show 4+1=5 from rfl] at hc2 hk2 ⊢;have hl2:=hl1.trans hk2;refine bQ (ho:=rfl) (h:=go 8 ?_);refine RL.call (rvec_any d q2 k2 (l.drop 5) (by rw[List.length_drop];omega) hc2) (hl:=Lend.sub hl2 mQ .nil) (hb:=.inr rfl) (h:=?_);rintro _ _ _ ⟨rfl,rfl,q3,k3,rfl,hc3,hk3⟩;rw[List.drop_drop] at hc3 hk3 ⊢;rw[show 8*3=24 from rfl] at hc3 hk3 ⊢;rw[show 5+24=29 from rfl] at hc3 hk3 ⊢;have hl3:=hl2.trans hk3;refine go 2 ?_;refine aj (cs':=bP _ (0+13) [f64 (l.drop 5) 0,f64 (l.drop 5) 1,f64 (l.drop 5) 2]) (vs:=[f64 (l.drop 5) 0,f64 (l.drop 5) 1,f64 (l.drop 5) 2]) (ho:=rfl) (hl:=Nat.le_of_ble_eq_true rfl) (h:=?_);refine go 18 ?_;refine NQ.post (dn rfl) (.keep (.keep .nil)) ⟨rfl,_,congrArg (fun z=>[_,cel br z _]) ?_⟩;simp only[f32,f64,List.drop_drop,Nat.reduceMul,Nat.reduceAdd,eD,dY,eO,bat_nat l 4 (by omega),cI,cJ];rfl
theorem rget_6(d br:Nat)(p:Option Addr)(c:Nat)(l:List B8)(hl:l.length=36)(hc:l.length≤c):Spc Tryz.prog 169 #[.pointer (some ⟨d,0,none⟩),.pointer (some ⟨br,0,none⟩)] [sls p 1 l.length (bytes l)] [rdr d p l.length c,cel br (Rdg.cells (rz 6)) 54] (fun _ I' H'=>I'=[]∧∃x,H'=[x,cel br (Rdg.cells (bH 6 l)) 54]):=by
 have hl0:=Lies.refl (sls p 1 l.length (bytes l));refine Spc.enter Tryz.func169 (h:=?_);refine fun w0 hw0=>?_;refine go 112 ?_;refine RL.call (cO d p 4 c l (by omega) hc (by decide)) (hl:=Lend.sub hl0 mQ .nil) (hb:=.inr rfl) (h:=?_);rintro _ _ _ ⟨rfl,rfl,q1,k1,rfl,hc1,hk1⟩;have hl1:=hl0.trans hk1;refine go 6 ?_;refine CW.sub hl1 mQ ?_;refine aR (p:=q1=none→(l.drop 4).length=0) (fun w hC e=>bf (hC.s.i _ (List.Mem.head _)) e) (fun hpp=>?_)
 obtain⟨q,rfl⟩:∃a,q1=some a:=by
  cases q1 with
  | none=>exact absurd (hpp rfl) (by rw[List.length_drop];omega)
  | some a=>exact⟨a,rfl⟩
 refine go 3 ?_;refine ax (take_any d (some q) 32 (l.drop 4).length k1 (by rw[List.length_drop];omega) hc1) (hb:=.inr rfl) (h:=?_);rintro _ _ _ ⟨rfl,rfl,rfl⟩;rw[if_neg (show¬k1=0 by rw[List.length_drop] at hc1;omega)];refine iC KU31.h rfl rfl rfl rfl (by first|decide|omega) ?_;refine ak (vs:=keyV (fun j=>bat l (4+j))) (ho:=rfl) (hr:=(Rds.sls mQ).part (pre32 (by omega))) (h:=?_);refine go 2 ?_;refine aj (cs':=bP _ (0+16) (keyV (fun j=>bat l (4+j)))) (vs:=keyV (fun j=>bat l (4+j))) (ho:=rfl) (hl:=Nat.le_of_ble_eq_true rfl) (h:=?_);refine go 16 ?_;refine NQ.post (dn rfl) (.keep (.keep .nil)) ⟨rfl,_,congrArg (fun z=>[_,cel br z _]) ?_⟩;simp only[f32,f64,List.drop_drop,Nat.reduceMul,Nat.reduceAdd,eD,dY,eO,cI,cJ];rfl
theorem rget_7(d br:Nat)(p:Option Addr)(c:Nat)(l:List B8)(hl:l.length=8)(hc:l.length≤c):Spc Tryz.prog 169 #[.pointer (some ⟨d,0,none⟩),.pointer (some ⟨br,0,none⟩)] [sls p 1 l.length (bytes l)] [rdr d p l.length c,cel br (Rdg.cells (rz 7)) 54] (fun _ I' H'=>I'=[]∧∃x,H'=[x,cel br (Rdg.cells (bH 7 l)) 54]):=by have hl0:=Lies.refl (sls p 1 l.length (bytes l));refine Spc.enter Tryz.func169 (h:=?_);refine fun w0 hw0=>?_;refine go 123 ?_;refine RL.call (cO d p 8 c l (by omega) hc (by decide)) (hl:=Lend.sub hl0 mQ .nil) (hb:=.inr rfl) (h:=?_);rintro _ _ _ ⟨rfl,rfl,q1,k1,rfl,hc1,hk1⟩;have hl1:=hl0.trans hk1;refine go 17 ?_;refine NQ.post (dn rfl) (.keep (.keep .nil)) ⟨rfl,_,congrArg (fun z=>[_,cel br z _]) ?_⟩;simp only[f32,f64,List.drop_drop,Nat.reduceMul,Nat.reduceAdd,eD,dY,eO,cI,cJ];rfl
theorem rget_8(d br:Nat)(p:Option Addr)(c:Nat)(l:List B8)(hl:l.length=1)(hc:l.length≤c):Spc Tryz.prog 169 #[.pointer (some ⟨d,0,none⟩),.pointer (some ⟨br,0,none⟩)] [sls p 1 l.length (bytes l)] [rdr d p l.length c,cel br (Rdg.cells (rz 8)) 54] (fun _ I' H'=>I'=[]∧∃x,H'=[x,cel br (Rdg.cells (bH 8 l)) 54]):=by have hl0:=Lies.refl (sls p 1 l.length (bytes l));refine Spc.enter Tryz.func169 (h:=?_);refine fun w0 hw0=>?_;refine go 135 ?_;refine RL.call (cO d p 1 c l (by omega) hc (by decide)) (hl:=Lend.sub hl0 mQ .nil) (hb:=.inr rfl) (h:=?_);rintro _ _ _ ⟨rfl,rfl,q1,k1,rfl,hc1,hk1⟩;have hl1:=hl0.trans hk1;refine bQ (ho:=rfl) (h:=go 15 ?_);refine NQ.post (dn rfl) (.keep (.keep .nil)) ⟨rfl,_,congrArg (fun z=>[_,cel br z _]) ?_⟩;simp only[f32,f64,List.drop_drop,Nat.reduceMul,Nat.reduceAdd,eD,dY,eO,bat_nat0 l (by omega),cI,cJ];rfl
theorem rget_9(d br:Nat)(p:Option Addr)(c:Nat)(l:List B8)(hl:l.length=0)(hc:l.length≤c):Spc Tryz.prog 169 #[.pointer (some ⟨d,0,none⟩),.pointer (some ⟨br,0,none⟩)] [sls p 1 l.length (bytes l)] [rdr d p l.length c,cel br (Rdg.cells (rz 9)) 54] (fun _ I' H'=>I'=[]∧∃x,H'=[x,cel br (Rdg.cells (bH 9 l)) 54]):=by refine Spc.enter Tryz.func169 (h:=?_);refine fun w0 hw0=>?_;refine go 179 ?_;exact NQ.post (dn rfl) (.keep (.keep .nil)) ⟨rfl,_,rfl⟩
theorem rget_10(d br:Nat)(p:Option Addr)(c:Nat)(l:List B8)(hl:l.length=4)(hc:l.length≤c):Spc Tryz.prog 169 #[.pointer (some ⟨d,0,none⟩),.pointer (some ⟨br,0,none⟩)] [sls p 1 l.length (bytes l)] [rdr d p l.length c,cel br (Rdg.cells (rz 10)) 54] (fun _ I' H'=>I'=[]∧∃x,H'=[x,cel br (Rdg.cells (bH 10 l)) 54]):=by have hl0:=Lies.refl (sls p 1 l.length (bytes l));refine Spc.enter Tryz.func169 (h:=?_);refine fun w0 hw0=>?_;refine go 181 ?_;refine RL.call (cO d p 4 c l (by omega) hc (by decide)) (hl:=Lend.sub hl0 mQ .nil) (hb:=.inr rfl) (h:=?_);rintro _ _ _ ⟨rfl,rfl,q1,k1,rfl,hc1,hk1⟩;have hl1:=hl0.trans hk1;refine go 8 ?_;refine NQ.post (dn rfl) (.keep (.keep .nil)) ⟨rfl,_,congrArg (fun z=>[_,cel br z _]) ?_⟩;simp only[f32,f64,List.drop_drop,Nat.reduceMul,Nat.reduceAdd,eD,dY,eO,cI,cJ];rfl
theorem rget_11(d br:Nat)(p:Option Addr)(c:Nat)(l:List B8)(hl:l.length=0)(hc:l.length≤c):Spc Tryz.prog 169 #[.pointer (some ⟨d,0,none⟩),.pointer (some ⟨br,0,none⟩)] [sls p 1 l.length (bytes l)] [rdr d p l.length c,cel br (Rdg.cells (rz 11)) 54] (fun _ I' H'=>I'=[]∧∃x,H'=[x,cel br (Rdg.cells (bH 11 l)) 54]):=by refine Spc.enter Tryz.func169 (h:=?_);refine fun w0 hw0=>?_;refine go 179 ?_;exact NQ.post (dn rfl) (.keep (.keep .nil)) ⟨rfl,_,rfl⟩
theorem rget_12(d br:Nat)(p:Option Addr)(c:Nat)(l:List B8)(hl:l.length=1)(hc:l.length≤c):Spc Tryz.prog 169 #[.pointer (some ⟨d,0,none⟩),.pointer (some ⟨br,0,none⟩)] [sls p 1 l.length (bytes l)] [rdr d p l.length c,cel br (Rdg.cells (rz 12)) 54] (fun _ I' H'=>I'=[]∧∃x,H'=[x,cel br (Rdg.cells (bH 12 l)) 54]):=by have hl0:=Lies.refl (sls p 1 l.length (bytes l));refine Spc.enter Tryz.func169 (h:=?_);refine fun w0 hw0=>?_;refine go 147 ?_;refine RL.call (cO d p 1 c l (by omega) hc (by decide)) (hl:=Lend.sub hl0 mQ .nil) (hb:=.inr rfl) (h:=?_);rintro _ _ _ ⟨rfl,rfl,q1,k1,rfl,hc1,hk1⟩;have hl1:=hl0.trans hk1;refine bQ (ho:=rfl) (h:=go 13 ?_);refine NQ.post (dn rfl) (.keep (.keep .nil)) ⟨rfl,_,congrArg (fun z=>[_,cel br z _]) ?_⟩;simp only[f32,f64,List.drop_drop,Nat.reduceMul,Nat.reduceAdd,eD,dY,eO,bat_nat0 l (by omega),cI,cJ];rfl
theorem rget_13(d br:Nat)(p:Option Addr)(c:Nat)(l:List B8)(hl:l.length=37)(hc:l.length≤c):Spc Tryz.prog 169 #[.pointer (some ⟨d,0,none⟩),.pointer (some ⟨br,0,none⟩)] [sls p 1 l.length (bytes l)] [rdr d p l.length c,cel br (Rdg.cells (rz 13)) 54] (fun _ I' H'=>I'=[]∧∃x,H'=[x,cel br (Rdg.cells (bH 13 l)) 54]):=by have hl0:=Lies.refl (sls p 1 l.length (bytes l));refine Spc.enter Tryz.func169 (h:=?_);refine fun w0 hw0=>?_;refine go 160 ?_;refine RL.call (cO d p 1 c l (by omega) hc (by decide)) (hl:=Lend.sub hl0 mQ .nil) (hb:=.inr rfl) (h:=?_);rintro _ _ _ ⟨rfl,rfl,q1,k1,rfl,hc1,hk1⟩;have hl1:=hl0.trans hk1;refine bQ (ho:=rfl) (h:=go 9 ?_);refine RL.call (rvec_any d q1 k1 (l.drop 1) (by rw[List.length_drop];omega) hc1) (hl:=Lend.sub hl1 mQ .nil) (hb:=.inr rfl) (h:=?_);rintro _ _ _ ⟨rfl,rfl,q2,k2,rfl,hc2,hk2⟩;rw[List.drop_drop] at hc2 hk2 ⊢;rw[show 8*3=24 from rfl] at hc2 hk2 ⊢;rw[show 1+24=25 from rfl] at hc2 hk2 ⊢;have hl2:=hl1.trans hk2;refine go 2 ?_;refine aj (cs':=bP _ (0+13) [f64 (l.drop 1) 0,f64 (l.drop 1) 1,f64 (l.drop 1) 2]) (vs:=[f64 (l.drop 1) 0,f64 (l.drop 1) 1,f64 (l.drop 1) 2]) (ho:=rfl) (hl:=Nat.le_of_ble_eq_true rfl) (h:=?_);refine go 6 ?_;refine RL.call (rfix_any d q2 k2 (l.drop 25) (by rw[List.length_drop];omega) hc2) (hl:=Lend.sub hl2 mQ .nil) (hb:=.inr rfl) (h:=?_);rintro _ _ _ ⟨rfl,rfl,q3,k3,rfl,hc3,hk3⟩;rw[List.drop_drop] at hc3 hk3 ⊢;rw[show 25+8=33 from rfl] at hc3 hk3 ⊢;have hl3:=hl2.trans hk3;refine go 8 ?_;refine RL.call (cO d q3 4 k3 (l.drop 33) (by rw[List.length_drop];omega) hc3 (by decide)) (hl:=Lend.sub hl3 mQ .nil) (hb:=.inr rfl) (h:=?_);rintro _ _ _ ⟨rfl,rfl,q4,k4,rfl,hc4,hk4⟩;rw[List.drop_drop] at hc4 hk4 ⊢;rw[show 33+4=37 from rfl] at hc4 hk4 ⊢;have hl4:=hl3.trans hk4;refine go 12 ?_;refine NQ.post (dn rfl) (.keep (.keep .nil)) ⟨rfl,_,congrArg (fun z=>[_,cel br z _]) ?_⟩;simp only[f32,f64,List.drop_drop,Nat.reduceMul,Nat.reduceAdd,eD,dY,eO,bat_nat0 l (by omega),cI,cJ];rfl
theorem rget_14(d br:Nat)(p:Option Addr)(c:Nat)(l:List B8)(hl:l.length=16)(hc:l.length≤c):Spc Tryz.prog 169 #[.pointer (some ⟨d,0,none⟩),.pointer (some ⟨br,0,none⟩)] [sls p 1 l.length (bytes l)] [rdr d p l.length c,cel br (Rdg.cells (rz 14)) 54] (fun _ I' H'=>I'=[]∧∃x,H'=[x,cel br (Rdg.cells (bH 14 l)) 54]):=by have hl0:=Lies.refl (sls p 1 l.length (bytes l));refine Spc.enter Tryz.func169 (h:=?_);refine fun w0 hw0=>?_;refine go 171 ?_;refine RL.call (cO d p 1 c l (by omega) hc (by decide)) (hl:=Lend.sub hl0 mQ .nil) (hb:=.inr rfl) (h:=?_);rintro _ _ _ ⟨rfl,rfl,q1,k1,rfl,hc1,hk1⟩;have hl1:=hl0.trans hk1;refine bQ (ho:=rfl) (h:=go 9 ?_);refine RL.call (cO d q1 1 k1 (l.drop 1) (by rw[List.length_drop];omega) hc1 (by decide)) (hl:=Lend.sub hl1 mQ .nil) (hb:=.inr rfl) (h:=?_);rintro _ _ _ ⟨rfl,rfl,q2,k2,rfl,hc2,hk2⟩;rw[List.drop_drop] at hc2 hk2 ⊢;rw[show 1+1=2 from rfl] at hc2 hk2 ⊢;have hl2:=hl1.trans hk2;refine bQ (ho:=rfl) (h:=go 9 ?_);refine RL.call (cO d q2 2 k2 (l.drop 2) (by rw[List.length_drop];omega) hc2 (by decide)) (hl:=Lend.sub hl2 mQ .nil) (hb:=.inr rfl) (h:=?_);rintro _ _ _ ⟨rfl,rfl,q3,k3,rfl,hc3,hk3⟩;rw[List.drop_drop] at hc3 hk3 ⊢;rw[show 2+2=4 from rfl] at hc3 hk3 ⊢;have hl3:=hl2.trans hk3;refine go 9 ?_;refine RL.call (cO d q3 8 k3 (l.drop 4) (by rw[List.length_drop];omega) hc3 (by decide)) (hl:=Lend.sub hl3 mQ .nil) (hb:=.inr rfl) (h:=?_);rintro _ _ _ ⟨rfl,rfl,q4,k4,rfl,hc4,hk4⟩;rw[List.drop_drop] at hc4 hk4 ⊢;rw[show 4+8=12 from rfl] at hc4 hk4 ⊢;have hl4:=hl3.trans hk4;refine go 10 ?_;refine RL.call (cO d q4 4 k4 (l.drop 12) (by rw[List.length_drop];omega) hc4 (by decide)) (hl:=Lend.sub hl4 mQ .nil) (hb:=.inr rfl) (h:=?_);rintro _ _ _ ⟨rfl,rfl,q5,k5,rfl,hc5,hk5⟩;rw[List.drop_drop] at hc5 hk5 ⊢;rw[show 12+4=16 from rfl] at hc5 hk5 ⊢;have hl5:=hl4.trans hk5;refine go 8 ?_;refine NQ.post (dn rfl) (.keep (.keep .nil)) ⟨rfl,_,congrArg (fun z=>[_,cel br z _]) ?_⟩;simp only[f32,f64,List.drop_drop,Nat.reduceMul,Nat.reduceAdd,eD,dY,eO,bat_nat0 l (by omega),bat_nat l 1 (by omega),cI,cJ];rfl
def cu(k:Int):Value:=if 1≤k∧k≤14 then .tuple #[.int .i64 (bW k:Int),.int .i64 0] else .tuple #[.int .i64 0,.int .i64 120]
theorem size_at{n:Nat}(h:1≤n∧n≤14){tab:List Value}{o:Nat}(ht:∀j,j<14→tab[o+j*1]?=some (.int .i64 (bW ((j:Int)+1)))):tab[o+(n-1)*1]?=some (.int .i64 (bW (n:Int))):=by have:=ht (n-1) (by omega);rwa[show((n-1:Nat):Int)+1=n by omega] at this
theorem tab14{p:Nat→Prop}(h0:p 0)(h1:p 1)(h2:p 2)(h3:p 3)(h4:p 4)(h5:p 5)(h6:p 6)(h7:p 7)(h8:p 8)(h9:p 9)(h10:p 10)(h11:p 11)(h12:p 12)(h13:p 13):∀j,j<14→p j
 | 0,_=>h0
 | 1,_=>h1
 | 2,_=>h2
 | 3,_=>h3
 | 4,_=>h4
 | 5,_=>h5
 | 6,_=>h6
 | 7,_=>h7
 | 8,_=>h8
 | 9,_=>h9
 | 10,_=>h10
 | 11,_=>h11
 | 12,_=>h12
 | 13,_=>h13
 | _+14,h=>by omega
theorem size_any(k:Int):Spc Tryz.prog 168 #[.int .i64 k] [] [] (Is (cu k)):=by
 refine Spc.enter Tryz.func168 (h:=?_);refine fun w0 hw0=>?_;refine go 8 ?_;refine bi [_,_,_,_,_,_,_,_,_,_,_,_,_,_,_] (ho:=rfl) (h:=go 10 ?_);intro b1;refine RL.part (d:=8) rfl (fun h1=>?_) (fun h1=>?_)
 ·refine go 5 ?_;refine aI (h:=go 8 ?_);have h1:k<1:=by simpa using h1
  exact RQ.post (bb rfl rfl rfl) (aa _) ⟨by rw[cu,if_neg (by omega)],rfl,rfl⟩
 ·refine go 5 ?_;have h1: ¬k<1:=by simpa using h1
  refine CW.cond rfl (fun h2=>?_) (fun h2=>?_)
  ·refine go 8 ?_;have h2:14<k:=by simpa using h2
   exact RQ.post (bb rfl rfl rfl) (aa _) ⟨by rw[cu,if_neg (by omega)],rfl,rfl⟩
  ·refine go 5 ?_;have h2: ¬14<k:=by simpa using h2
   obtain⟨m,rfl⟩:∃m:Nat,k=(m:Int):=⟨k.toNat,by omega⟩;have hm:1≤m∧m≤14:=by omega
   have hv:=size_at hm (o:=1) (tab:=(.int .i64 0)::[.int .i64 24,.int .i64 8,.int .i64 4,.int .i64 8,.int .i64 29,.int .i64 36,.int .i64 8,.int .i64 1,.int .i64 0,.int .i64 4,.int .i64 0,.int .i64 1,.int .i64 37,.int .i64 16]) (tab14 rfl rfl rfl rfl rfl rfl rfl rfl rfl rfl rfl rfl rfl rfl);rw[show 1+(m-1)*1=0+m*1 by omega] at hv;refine al (j:=m) (ho:=rfl) (hlt:=by omega) (h:=?_);refine go 6 ?_;exact RQ.post (bb rfl rfl rfl) (aa _) ⟨by rw[cu,if_pos (by omega)],rfl,rfl⟩
theorem bU(k:Int):Spc Tryz.prog 147 #[.int .i64 k] [] [] (Is (cu k)):=by
 refine Spc.enter Tryz.func147 (h:=?_);refine fun w0 hw0=>?_;refine go 8 ?_;refine RL.buildSlice [_,_,_,_,_,_,_,_,_,_,_,_,_,_] (ho:=rfl) (h:=?_);intro b1;refine go 9 ?_;refine RL.part (d:=8) rfl (fun h1=>?_) (fun h1=>?_)
 ·refine go 5 ?_;refine aI (h:=go 8 ?_);have h1:k<1:=by simpa using h1
  exact RQ.post (bb rfl rfl rfl) (aa _) ⟨by rw[cu,if_neg (by omega)],rfl,rfl⟩
 ·refine go 5 ?_;have h1: ¬k<1:=by simpa using h1
  refine CW.cond rfl (fun h2=>?_) (fun h2=>?_)
  ·refine go 8 ?_;have h2:14<k:=by simpa using h2
   exact RQ.post (bb rfl rfl rfl) (aa _) ⟨by rw[cu,if_neg (by omega)],rfl,rfl⟩
  ·have h2: ¬14<k:=by simpa using h2
   obtain⟨m,rfl⟩:∃m:Nat,k=(m:Int):=⟨k.toNat,by omega⟩;have hm:1≤m∧m≤14:=by omega
   have hv:=size_at hm (o:=0) (tab:=[.int .i64 24,.int .i64 8,.int .i64 4,.int .i64 8,.int .i64 29,.int .i64 36,.int .i64 8,.int .i64 1,.int .i64 0,.int .i64 4,.int .i64 0,.int .i64 1,.int .i64 37,.int .i64 16]) (tab14 rfl rfl rfl rfl rfl rfl rfl rfl rfl rfl rfl rfl rfl rfl);rw[show 0+(m-1)*1=(m-1)*1 by omega] at hv;refine go 6 ?_;refine ap rfl (ad (by omega) (by omega)) ?_;refine aS (j:=m-1) (ho:=rfl) (hj:=by omega) (h:=?_);refine RL.load (ho:=rfl) (hr:=(Rds.all mQ).rd hv) (h:=?_);refine go 5 ?_;exact RQ.post (bb rfl rfl rfl) (aa _) ⟨by rw[cu,if_pos (by omega)],rfl,rfl⟩
def bV(k:Int)(l:List B8):Option Rdg:=if 1≤k∧k≤14∧l.length=bW k∧(bH k l).mode.toNat≤2∧¬(k=10∧(bH k l).epoch=0) then some (bH k l) else none
def hP:Option Rdg→Value
 | some r=>.tuple #[.agg r.cells.toArray,.int .i64 0]
 | none=>.tuple #[.agg (rz 0).cells.toArray,.int .i64 120]
theorem rget_all(k:Nat)(hk:1≤k∧k≤14)(d br:Nat)(p:Option Addr)(c n:Nat)(l:List B8)(hn:l.length=n)(hl:n=bW k)(hc:n≤c):Spc Tryz.prog 169 #[.pointer (some ⟨d,0,none⟩),.pointer (some ⟨br,0,none⟩)] [sls p 1 n (bytes l)] [rdr d p n c,cel br (Rdg.cells (rz k)) 54] (fun _ I' H'=>I'=[]∧∃x,H'=[x,cel br (Rdg.cells (bH k l)) 54]):=by
 subst hn
 match k,hk,hl with
 | 1,_,hl=>exact rget_1 d br p c l hl hc
 | 2,_,hl=>exact rget_2 d br p c l hl hc
 | 3,_,hl=>exact rget_3 d br p c l hl hc
 | 4,_,hl=>exact rget_4 d br p c l hl hc
 | 5,_,hl=>exact rget_5 d br p c l hl hc
 | 6,_,hl=>exact rget_6 d br p c l hl hc
 | 7,_,hl=>exact rget_7 d br p c l hl hc
 | 8,_,hl=>exact rget_8 d br p c l hl hc
 | 9,_,hl=>exact rget_9 d br p c l hl hc
 | 10,_,hl=>exact rget_10 d br p c l hl hc
 | 11,_,hl=>exact rget_11 d br p c l hl hc
 | 12,_,hl=>exact rget_12 d br p c l hl hc
 | 13,_,hl=>exact rget_13 d br p c l hl hc
 | 14,_,hl=>exact rget_14 d br p c l hl hc
 | _+15,h,_=>omega
 | 0,h,_=>omega
theorem sizeR_le:∀m:Nat,1≤m∧m≤14→bW (m:Int)≤37
 | 1,_=>by decide
 | 2,_=>by decide
 | 3,_=>by decide
 | 4,_=>by decide
 | 5,_=>by decide
 | 6,_=>by decide
 | 7,_=>by decide
 | 8,_=>by decide
 | 9,_=>by decide
 | 10,_=>by decide
 | 11,_=>by decide
 | 12,_=>by decide
 | 13,_=>by decide
 | 14,_=>by decide
 | 0,h=>by omega
 | _+15,h=>by omega
theorem get_all(k:Int)(p:Option Addr)(n c:Nat)(l:List B8)(hn:l.length=n)(hc:n≤c):Spc Tryz.prog 93 #[.int .i64 k,.slice p n c] [sls p 1 n (bytes l)] [] (Is (hP (bV k l))):=by
 by_cases hk:1≤k∧k≤14
 ·have hs:cu k=.tuple #[.int .i64 (bW k:Int),.int .i64 0]:=by rw[cu,if_pos hk]
  refine Spc.enter Tryz.func93 (h:=?_);refine fun w0 hw0=>?_;refine go 9 ?_;intro b1;refine ab (size_any k) (h:=?_);refine go 1 ?_;rw[hs];refine go 12 ?_;refine av (d:=17) (v':=.bool false) rfl (rfl) ?_;refine go 7 ?_;refine CW.cond rfl (fun hne=>?_) (fun hne=>?_)
  ·refine go 9 ?_;have hne: ¬l.length=bW k:=by intro e;simp[←hn,e] at hne
   exact RQ.post (bG rfl rfl rfl KA54.h KS54.h mQ rfl) (aa _) ⟨by rw[bV,if_neg (by omega)];rfl,rfl,rfl⟩
  ·have hl:l.length=bW k:=by simp[←hn] at hne;omega
   obtain⟨m,rfl⟩:∃m:Nat,k=(m:Int):=⟨k.toNat,by omega⟩;refine go 5 ?_;refine ay (Rdg.cells (rz m)) (ho:=rfl) (h:=go 7 ?_);intro b2;refine ax (clone_any p n c l hn (by have:=sizeR_le m (by omega);omega)) (hb:=.inl rfl) (h:=?_);rintro _ _ _ ⟨ob,cb,rfl,rfl,rfl,ho⟩;refine go 6 ?_;intro b3;refine aR (p:=l.length≤cb) (fun w hC=>iY (hC.s.h (own ob cb 5 1 l.length (bytes l)) mQ)) (fun hcb=>?_);refine CW.tell (xs:=bytes l) pE (fun _=>?_);refine go 2 ?_;refine RL.call (rget_all m (by omega) b3 b2 (ob.map fun b=>⟨b,0,none⟩) cb l.length l rfl hl hcb) (hl:=.inI (List.Mem.head _) .nil) (hb:=.inr rfl) (h:=?_);rintro _ _ _ ⟨rfl,x,rfl⟩;refine go 9 ?_;refine RL.part (d:=35) rfl (fun h1=>?_) (fun h1=>?_)
   ·refine go 10 ?_;refine aI (h:=go 9 ?_);have h1:2<(bH m l).mode.toNat:=by simp at h1;omega
    exact RQ.post (bG rfl rfl rfl KA54.h KS54.h mQ rfl) (aa _) ⟨by rw[bV,if_neg (by omega)];rfl,rfl,rfl⟩
   ·refine go 3 ?_;have h1: ¬2<(bH m l).mode.toNat:=by simp at h1;omega
    refine RL.part (d:=38) rfl (fun h2=>?_) (fun h2=>?_)
    ·refine go 7 ?_;have h2:(m:Int)=10:=by simpa using h2
     refine CW.cond rfl (fun h3=>?_) (fun h3=>?_)
     ·refine go 9 ?_;have h3:(bH m l).epoch=0:=by simpa using h3
      exact RQ.post (bG rfl rfl rfl KA54.h KS54.h mQ rfl) (aa _) ⟨by rw[bV,if_neg (by omega)];rfl,rfl,rfl⟩
     ·refine go 10 ?_;have h3: ¬(bH m l).epoch=0:=by simpa using h3
      exact RQ.post (bG rfl rfl rfl KA54.h KS54.h mQ rfl) (aa _) ⟨by rw[bV,if_pos (by omega)];rfl,rfl,rfl⟩
    ·refine go 7 ?_;refine ag (h:=go 10 ?_);have h2: ¬(m:Int)=10:=by simpa using h2
     exact RQ.post (bG rfl rfl rfl KA54.h KS54.h mQ rfl) (aa _) ⟨by rw[bV,if_pos (by omega)];rfl,rfl,rfl⟩
 ·have hs:cu k=.tuple #[.int .i64 0,.int .i64 120]:=by rw[cu,if_neg hk]
  refine Spc.enter Tryz.func93 (h:=?_);refine fun w0 hw0=>?_;refine go 9 ?_;intro b1;refine ab (size_any k) (h:=?_);refine go 1 ?_;rw[hs];refine go 12 ?_;refine av (d:=17) (v':=.bool true) rfl (rfl) ?_;refine go 7 ?_;refine aI (h:=go 9 ?_);exact RQ.post (bG rfl rfl rfl KA54.h KS54.h mQ rfl) (aa _) ⟨by rw[bV,if_neg (by omega)];rfl,rfl,rfl⟩
def evC(f:Fr)(e:Int)(r:Rdg):List Value:=.int .i64 f.kd:: .int .i64 f.sr:: .int .u32 (f.ep:Int):: .int .u64 (f.ct:Int):: .int .i64 e::r.cells
theorem evC_len(f:Fr)(e:Int)(r:Rdg):(evC f e r).length=62:=rfl
theorem ev_ones(f:Fr)(e:Int)(r:Rdg):dO (evC f e r)=true:=rfl
def TellR(B:UB)(u:US)(f:Fr)(e:Int)(r:Rdg):Value→List It→List It→Prop:=fun v I' H'=>v=.tuple #[]∧I'=[]∧∃eo ec ct D,DRel ct D∧H'=[own eo ec 73 62 1 (evC f e r),B.it { u with ev:=aE eo 1 ec },aN B.tm aF ct]
theorem fill_ev(f:Fr)(e:Int)(r:Rdg){places:Array (Nat×Nat)}(hp:places= #[(0,1),(1,1),(2,1),(3,1),(4,1),(5,57)]):bX (places[·]?) (evC ⟨0,0,0,0,[],[]⟩ 0 (rz 0)) [(0,.int .i64 f.kd),(1,.int .i64 f.sr),(2,.int .u32 (f.ep:Int)),(3,.int .u64 (f.ct:Int)),(4,.int .i64 e),(5,.agg r.cells.toArray)]=some (evC f e r):=by subst hp;rfl
theorem tell_any(B:UB)(u:US)(f:Fr)(p:Option Addr)(c n:Nat)(e:Int)(r:Rdg)(ct:List (Value×Value))(D:Int→Int)(hD:DRel ct D)(hf:f.tag.length=16)(hev:u.ev=aE none 0 0):Spc Tryz.prog 96 #[.pointer (some ⟨B.b,0,none⟩),.agg (f.cells (.slice p n c)).toArray,.int .i64 e,.agg r.cells.toArray] [] [B.it u,aN B.tm aF ct] (TellR B u f e r):=by have h21:=dT hf (.slice p n c);have h57:r.cells.length=57:=rfl;refine Spc.enter Tryz.func96 (h:=?_);refine fun w0 hw0=>?_;refine go 7 ?_;intro b1 b2;refine aB (A:=[_,_]) (B:=[_,_]) (.take (.take (.leave (.leave .nil)))) rfl ?_;refine aW (fun J hJ=>?_);have m1:cel b1 (f.cells (.slice p n c)) 151∈J:=hJ _ (by simp);have m2:cel b2 r.cells 54∈J:=hJ _ (by simp);clear hJ;have f0:RdI J ⟨b1,0+0,none⟩ (.int .i64 f.kd):=⟨fun _=>Rd.celI m1 rfl⟩;have f1:RdI J ⟨b1,0+1,none⟩ (.int .i64 f.sr):=⟨fun _=>Rd.celI m1 rfl⟩;have f2:RdI J ⟨b1,0+2,none⟩ (.int .u32 (f.ep:Int)):=⟨fun _=>Rd.celI m1 rfl⟩;have f3:RdI J ⟨b1,0+3,none⟩ (.int .u64 (f.ct:Int)):=⟨fun _=>Rd.celI m1 rfl⟩;have fA:RdsN J ⟨b2,0,none⟩ 57 r.cells:=⟨fun _=>Rds.allI m2,h57⟩;refine cZ (e:=73) 62 (ae (Sq.of [0,1,2,3,4,5,6,7,8,9,10,11,12,13,14,15,16,17,18,19,20]) [16,17,20] [17,20] [0,1,2,3,5,6,7,8,9,10,11,12,13,14,15,18,19] (h:=?_));refine go 4 ?_;refine RL.load (ho:=rfl) (hr:=Rd.get mQ (un_ev B u)) (h:=?_);rw[hev];refine go 10 ?_;refine ay (evC f e r) (ho:=rfl) (hf:=fill_ev f e r rfl) (h:=?_);refine RL.buildSlice (evC f e r) (ho:=rfl) (h:=?_);intro b3;refine cd KE67.h rfl rfl rfl rfl rfl rfl rfl (by first|exact⟨(.take (ai _)),rfl⟩|exact⟨(.leave (.take (ai _))),rfl⟩|exact⟨(.leave (.leave (.take (ai _)))),rfl⟩|exact⟨(.leave (.leave (.leave (.take (ai _))))),rfl⟩|exact⟨(.leave (.leave (.leave (.leave (.take (ai _)))))),rfl⟩|exact⟨(.leave (.leave (.leave (.leave (.leave (.take (ai _))))))),rfl⟩|exact⟨(.leave (.leave (.leave (.leave (.leave (.leave (.take (ai _)))))))),rfl⟩|exact⟨(.leave (.leave (.leave (.leave (.leave (.leave (.leave (.take (ai _))))))))),rfl⟩|exact⟨(.leave (.leave (.leave (.leave (.leave (.leave (.leave (.leave (.take (ai _)))))))))),rfl⟩|exact⟨(.leave (.leave (.leave (.leave (.leave (.leave (.leave (.leave (.leave (.take (ai _))))))))))),rfl⟩) (Src.cel mQ (evC_len f e r)) (fun u hu=>dI (ev_ones f e r) u hu) (by first|omega|(simp only[maxLen];omega)) (by first|omega|(simp only[maxLen];omega)) ?_;intro ob1 cap1 ho1;refine go 2 ?_;refine aj (vs:=[_]) (un_setev B u _) (ho:=rfl) (hl:=by rw[gO];simp) (h:=?_);refine go 6 ?_;refine RL.load (ho:=rfl) (hr:=Rd.get mQ (un_tm B _)) (h:=?_);refine go 1 ?_;refine RL.lookup keyE' (ho:=rfl) (hk:=⟨e,rfl⟩) (hm:=MapAt.own mQ) (h:=?_);rw[hD e];refine go 1 ?_;refine RL.mapUpdate keyE' (ho:=rfl) (hk:=⟨e,rfl⟩) (hup:=uE) (h:=?_);refine go 1 ?_;exact NQ.post (dn rfl) (.keep (.drop (.keep (.keep .nil)))) ⟨rfl,rfl,ob1,cap1,_,_,hD.set e (IntKind.i64.wrap (D e+1)),rfl⟩
def RmOk(rl:List (Value×Value)):Prop:=∀p∈rl,∃m:Nat×Nat,p.2=mkV m
theorem rm_at{rl:List (Value×Value)}(h:RmOk rl)(s:Int):∃m:Nat×Nat,(aO (.int .i64 s) rl).getD (mkV (0,0))=mkV m:=by
 induction rl with
 | nil=>exact⟨_,rfl⟩
 | cons p rl ih=>
  obtain⟨k,v⟩:=p;rw[aO];split
  ·exact h (k,v) (List.mem_cons_self ..)
  ·exact ih fun q hq=>h q (List.mem_cons_of_mem _ hq)
theorem RmOk.set{rl:List (Value×Value)}(h:RmOk rl)(k:Value)(m:Nat×Nat):RmOk (cD k (mkV m) rl):=by
 intro q hq;rcases mem_setV hq with rfl|hq
 ·exact⟨m,rfl⟩
 ·exact h q hq
theorem u64_mk(a:Nat)(z:Int):∃q:Nat×Nat,q.1=a∧q.2<18446744073709551616∧(q.2:Int)=IntKind.u64.wrap z∧Value.agg #[.int .u32 (a:Int),.int .u64 (IntKind.u64.wrap z)]=mkV q:=by
 have h:0≤IntKind.u64.wrap z∧IntKind.u64.wrap z<18446744073709551616:=by simp[IntKind.wrap,IntKind.bits,IntKind.signed];omega
 refine⟨(a,(IntKind.u64.wrap z).toNat),rfl,by show(IntKind.u64.wrap z).toNat<_;omega,Int.toNat_of_nonneg h.1,?_⟩;rw[mkV];show _=Value.agg #[_,.int .u64 ((IntKind.u64.wrap z).toNat:Int)];rw[Int.toNat_of_nonneg h.1]
theorem ahead_any(m:Nat×Nat)(d:Nat)(h1:m.2<18446744073709551616)(hd:d<18446744073709551616):Spc Tryz.prog 129 #[mkV m,.int .u64 (d:Int)] [] [] (fun v I' H'=>I'=[]∧H'=[]∧∃q:Nat×Nat,q.1=m.1∧q.2<18446744073709551616∧(m.2=0→q.2=d)∧v=mkV q):=by refine Spc.enter Tryz.func129 (h:=?_);refine fun w0 hw0=>?_;refine go 14 ?_;intro b1 b2;refine RL.min (h:=go 12 ?_);obtain⟨q,q1,q2,q3,q4⟩:=u64_mk m.1 ((m.2:Int)+min (d:Int) (IntKind.u64.wrap (18446744073709551615-(m.2:Int))));exact RQ.post (cU rfl rfl KA121.h KS121.h mQ rfl) (aa _) ⟨rfl,rfl,q,q1,q2,fun h=>by rw[h] at q3;simp only[IntKind.wrap,IntKind.bits,IntKind.signed] at q3;simp at q3;omega,q4⟩
def shB(g:GSt)(m:Nat×Nat)(x s:Int):Bool:=((m.1:Int) !=(da g.T s:Int))||decide (IntKind.u64.wrap ((m.2:Int)-((iG g.M s).2:Int))≤IntKind.u64.wrap (x.tdiv 2))
theorem short_any(B:UB)(u:US)(g:GSt)(rl:List (Value×Value))(s x:Int)(m:Nat×Nat)(hg:GOk g)(hm:(aO (.int .i64 s) rl).getD (mkV (0,0))=mkV m)(hx:B.c 44=.int .u64 x):Spc Tryz.prog 95 #[.pointer (some ⟨B.b,0,none⟩),.int .i64 s] [B.it u,allI (GI B.G g),aN B.rm aF rl] [] (Is (.bool (shB g m x s))):=by
 refine Spc.enter Tryz.func95 (h:=?_);refine fun w0 hw0=>?_;refine go 12 ?_;refine RL.lookup keyI (ho:=rfl) (hk:=⟨s,rfl⟩) (hm:=eS mQ) (h:=?_);refine av (d:=13) (v':=mkV m) rfl hm ?_;refine go 11 ?_;intro b1;refine ar ((gmark_any B.G g s hg).toldB (J:=[])) (hl:=Lend.inI mQ .nil) (h:=?_);refine go 9 ?_;intro b2;refine ae (Sq.of [0,1,2,3,4,5,6,7,8,9,10,11,12,13,14,15,16,17,18,19,20,21,22,23]) [] [] [0,2,3,4,6,8,9,10,12,14,15,16,17,18,20,21,22,23] (h:=?_);refine go 7 ?_;refine ar ((gepoch_any B.G g s hg).toldB (J:=[])) (hl:=Lend.inI mQ .nil) (h:=?_);refine go 2 ?_;apply au (d:=32) (dp:=45) (l':=(Sq.of [23])) rfl .nil
 ·intro hb10 K10;refine go 9 ?_;refine RL.load (ho:=rfl) (hr:=aD mQ rfl) (h:=?_);refine av (d:=42) rfl hx ?_;refine RL.quo rfl rfl rfl rfl rfl (by decide) ?_;refine go 2 ?_;exact K10 _ (.cons rfl .nil)
 ·intro hb10 K10;refine go 13 ?_;exact K10 _ (.cons rfl .nil)
 refine go 4 ?_;exact RQ.post (az rfl rfl) (aa _) ⟨rfl,rfl,rfl⟩
def FinR(B:UB)(u:US)(g:GSt):Value→List It→List It→Prop:=fun v I' H'=>v=.tuple #[]∧I'=[]∧∃A' B' bg' rl',StOk A' B' bg'∧RmOk rl'∧(∀j:Nat,(j:Int)∈cW g.T→aO (.int .i64 (j:Int)) rl'=(u.be.ms[j]?).map mkV)∧H'=[B.it { u with la:=u.be,be:=rz0 },allI (StL B.st A' B' bg'),allI (GI B.G g),aN B.rm aF rl']
theorem src_bd{T:List One}(hT:TOk T){i:Nat}{s:Int}(h:(cn (cW T))[i]?=some s):∃j:Nat,j<8∧s=(j:Int):=by have h1:s∈cW T:=(List.mergeSort_perm (cW T) _).mem_iff.1 (List.mem_of_getElem? h);obtain⟨o,ho,rfl⟩:=List.mem_map.1 h1;exact⟨o.s,hT.s o ho,rfl⟩
theorem fin_step{T:List One}{ms:List (Nat×Nat)}{rm:List (Value×Value)}{i j:Nat}{m:Nat×Nat}(hs:(cn (cW T))[i]?=some (j:Int))(hm:ms[j]?=some m)(h:∀k<i,∀j:Nat,(cn (cW T))[k]?=some (j:Int)→aO (.int .i64 (j:Int)) rm=(ms[j]?).map mkV):
  ∀k<i+1,∀j':Nat,(cn (cW T))[k]?=some (j':Int)→aO (.int .i64 (j':Int)) (cD (.int .i64 (j:Int)) (mkV m) rm)=(ms[j']?).map mkV:=fun k hk j' hj'=>by
 rw[fd]
 by_cases e:j'=j
 ·subst e
  rw[if_pos rfl,hm];rfl
 ·rw[if_neg (by simp;omega)]
  refine h k ?_ j' hj'
  rcases Nat.lt_succ_iff_lt_or_eq.1 hk with h'|h'
  ·exact h'
  ·subst h'
   rw[hs] at hj'
   injection hj' with e'
   omega
theorem fin_all{T:List One}{ms:List (Nat×Nat)}{rm:List (Value×Value)}{i j:Nat}(hlen:(cn (cW T)).length=T.length)(hi:T.length≤i)(h:∀k<i,∀j:Nat,(cn (cW T))[k]?=some (j:Int)→aO (.int .i64 (j:Int)) rm=(ms[j]?).map mkV)(hj:(j:Int)∈cW T):aO (.int .i64 (j:Int)) rm=(ms[j]?).map mkV:=by have hm:(j:Int)∈cn (cW T):=(List.mergeSort_perm (cW T) _).mem_iff.2 hj;obtain⟨k,hk⟩:=List.getElem?_of_mem hm;have hlt:=(List.getElem?_eq_some_iff.1 hk).1;exact h k (by omega) j hk
theorem srcG_ne(B:GB)(g:GSt):∀v I',¬SrcG B g v I' []:=by rintro v I' ⟨ob,cp,_,_,h⟩;cases h
theorem finish_any(B:UB)(u:US)(A K:Bn)(bg:Int)(g:GSt)(rl:List (Value×Value))(hst:StOk A K bg)(hg:GOk g)(hT:g.T.length≤1000)(hb:u.be.Ok)(hrl:RmOk rl):Spc Tryz.prog 67 #[.pointer (some ⟨B.b,0,none⟩)] [] [B.it u,allI (StL B.st A K bg),allI (GI B.G g),aN B.rm aF rl] (FinR B u g):=by
 refine Spc.enter Tryz.func67 (h:=?_);refine fun w0 hw0=>?_;refine go 6 ?_;refine RL.call ((bfin_any B.st A K bg hst).bundle) (hl:=.nil) (hb:=.inr rfl) (h:=?_);rintro _ _ _ ⟨_,⟨rfl,e,rfl,A',K',bg',hst',rfl⟩,rfl⟩;refine go 9 ?_;refine RL.call ((gsources_any B.G g hT).bundleX (srcG_ne B.G g)) (hl:=.nil) (hb:=.inr rfl) (h:=?_);rintro _ _ _ ⟨_,_,⟨ob,cp,rfl,rfl,hH⟩,rfl⟩;obtain⟨rfl,rfl⟩:=List.cons.inj hH;refine go 5 ?_;have hlen:(cn (cW g.T)).length=g.T.length:=by rw[List.length_mergeSort,cW,List.length_map]
 refine CW.loop (γ:=Nat×List (Value×Value)) (fun x=>x.1≤g.T.length∧RmOk x.2∧(∀k<x.1,∀j:Nat,(cn (cW g.T))[k]?=some (j:Int)→aO (.int .i64 (j:Int)) x.2=(u.be.ms[j]?).map mkV)) (fun x=>[(0,.pointer (some ⟨B.b,0,none⟩)),(13,aE ob g.T.length cp),(14,.int .i64 (g.T.length:Int)),(15,.int .i64 (x.1:Int))]) (fun _=>[]) (fun x=>[own ob cp 3 1 g.T.length (bO (cn (cW g.T))),B.it u,allI (StL B.st A' K' bg'),allI (GI B.G g),aN B.rm aF x.2]) (fun x=>g.T.length-x.1) (0,rl) ⟨by omega,hrl,fun k hk=>by omega⟩ (.cons rfl (.cons rfl (.cons rfl (.cons rfl .nil)))) wE ?_;rintro⟨i,rm⟩ ⟨hi,hrm,hin⟩;dsimp only at hi hrm hin ⊢;refine go 6 ?_;refine CW.cond rfl (fun hlt=>?_) (fun hlt=>?_)
 ·have hlt:i<g.T.length:=by simp at hlt;omega
  obtain⟨s,hs⟩:∃s,(cn (cW g.T))[i]?=some s:=⟨_,List.getElem?_eq_getElem (by rw[hlen];exact hlt)⟩;obtain⟨j,hj,rfl⟩:=src_bd hg.t hs;obtain⟨m,hm⟩:∃m,u.be.ms[j]?=some m:=⟨_,List.getElem?_eq_getElem (by rw[hb.ms];exact hj)⟩;have hv:(bO (cn (cW g.T)))[i*1]?=some (.int .i64 (j:Int)):=by rw[Nat.mul_one,List.getElem?_map,hs];rfl
  have hmk:∀(q:Nat) (v:Value),[Value.int .u32 (m.1:Int),.int .u64 (m.2:Int)][q]?=some v→(B.cells u)[0+106+1+j*2+q]?=some v:=fun q v hq=>by have:=un_be B hb _ _ (rc_mark hb hm q v hq);rwa[show 0+106+(1+j*2+q)=0+106+1+j*2+q by omega] at this
  refine aR (p:=ob=none→False) (fun w hC e=>by subst e;have:=dW (hC.s.h (own none cp 3 1 g.T.length (bO (cn (cW g.T)))) mQ);omega) (fun hob=>?_)
  cases ob with
  | none=>exact(hob rfl).elim
  | some b=>
  refine go 6 ?_;refine aS (j:=i) (ho:=rfl) (hlt:=hlt) (h:=go 4 ?_);refine ae (Sq.of [0,1,2,3,4,5,6,7,8,9,10,11,12]) [12] [12] [0,1,2,4,5,6,7,8,9,10] (h:=?_);refine go 10 ?_;refine al (j:=j) (ho:=rfl) (hlt:=hj) (h:=?_);refine ak (vs:=[.int .u32 (m.1:Int),.int .u64 (m.2:Int)]) (ho:=rfl) (hr:=Rds.cel mQ hmk) (h:=?_);refine RL.mapUpdate keyI (ho:=rfl) (hk:=⟨(j:Int),rfl⟩) (hup:=uE) (h:=?_);refine go 4 ?_;refine ap rfl (ad (by omega) (by omega)) ?_;refine go 2 ?_;exact NQ.round (g:=(i,rm)) (i+1,cD (.int .i64 (j:Int)) (mkV m) rm) ⟨hlt,hrm.set _ m,fin_step hs hm hin⟩ (by show g.T.length-(i+1)<g.T.length-i;omega) (.cons rfl (.cons rfl (.cons rfl (.cons rfl .nil)))) (fun w h=>h)
 ·refine go 11 ?_;refine ak (vs:=u.be.cells) (hs:=by rw[bT hb];exact KS124.h) (ho:=rfl) (hr:=Rds.cel mQ (un_be B hb)) (h:=?_);refine go 3 ?_;refine aj (vs:=u.be.cells) (un_setla B u hb) (by rw[bT hb];exact KS124.h) rfl (h1:=d9 _) (hl:=by rw[bT hb,gO];simp) (h:=?_);refine go 2 ?_;refine aj (vs:=rz0.cells) (un_setbe B _ rz0_ok) (by rw[bT rz0_ok];exact KS124.h) rfl (h1:=d9 _) (hl:=by rw[bT rz0_ok,gO];simp) (h:=?_);refine go 1 ?_;exact NQ.post (dn rfl) (.drop (.keep (.keep (.keep (.keep .nil))))) ⟨rfl,rfl,A',K',bg',rm,hst',hrm,fun j hj=>fin_all hlen (by simp at hlt;omega) hin hj,rfl⟩
def MB(M:eG):Prop:=∀s,(iG M s).1<4294967296∧(iG M s).2<18446744073709551616
theorem epoch_bd{T:List One}(hT:TOk T)(s:Int):da T s<4294967296:=by
 unfold da;split
 ·split
  ·decide
  ·next o h=>exact hT.e2 o (atO_mem h).1
 ·decide
def BegR(B:UB)(u:US)(g:GSt)(d:Nat):Value→List It→List It→Prop:=fun v I' H'=>v=.tuple #[]∧I'=[]∧∃A' B' bg',∃r:Rc,StOk A' B' bg'∧r.Ok∧(g.M=g0.M→∀j:Nat,(j:Int)∈cW g.T→r.ms[j]?=some (da g.T j,d))∧H'=[allI (StL B.st A' B' bg'),B.it { u with be:=r,nd:=false },allI (GI B.G g)]
def rc1(n iv:Nat)(k:List B8):Rc:=⟨n,List.replicate 8 (0,0),iv,k⟩
theorem rc1_ok{n iv:Nat}{k:List B8}(h1:n<4294967296)(h2:iv<4294967296)(h3:k.length=32):(rc1 n iv k).Ok:=⟨h1,rfl,fun m hm=>by rw[List.eq_of_mem_replicate hm];decide,h2,h3⟩
theorem beg_step{g:GSt}{r:Rc}{i j d:Nat}{q:Nat×Nat}(hl:r.ms.length=8)(hj:j<8)(hs:(cn (cW g.T))[i]?=some (j:Int))(hq:g.M=g0.M→q=(da g.T (j:Int),d))(h:∀k<i,∀j:Nat,(cn (cW g.T))[k]?=some (j:Int)→g.M=g0.M→r.ms[j]?=some (da g.T (j:Int),d)):
  ∀k<i+1,∀j':Nat,(cn (cW g.T))[k]?=some (j':Int)→g.M=g0.M→({ r with ms:=r.ms.set j q }:Rc).ms[j']?=some (da g.T (j':Int),d):=fun k hk j' hj' hM=>by
 show(r.ms.set j q)[j']?=_
 by_cases e:j=j'
 ·subst e
  rw[List.getElem?_set_self (by omega),hq hM]
 ·rw[List.getElem?_set_ne e]
  refine h k ?_ j' hj' hM
  rcases Nat.lt_succ_iff_lt_or_eq.1 hk with h'|h'
  ·exact h'
  ·subst h'
   rw[hs] at hj'
   injection hj' with e'
   omega
theorem beg_all{g:GSt}{r:Rc}{i d j:Nat}(hlen:(cn (cW g.T)).length=g.T.length)(hi:g.T.length≤i)(h:∀k<i,∀j:Nat,(cn (cW g.T))[k]?=some (j:Int)→g.M=g0.M→r.ms[j]?=some (da g.T (j:Int),d))(hj:(j:Int)∈cW g.T)(hM:g.M=g0.M):r.ms[j]?=some (da g.T (j:Int),d):=by have hm:(j:Int)∈cn (cW g.T):=(List.mergeSort_perm (cW g.T) _).mem_iff.2 hj;obtain⟨k,hk⟩:=List.getElem?_of_mem hm;have hlt:=(List.getElem?_eq_some_iff.1 hk).1;exact h k (by omega) j hk hM
theorem fill_rcS(n:Nat){places:Array (Nat×Nat)}(hp:places= #[(0,1),(1,16),(17,1),(18,32)]):bX (places[·]?) rz0.cells [(0,.int .u32 (n:Int))]=some (rc1 n 0 (List.replicate 32 0#8)).cells:=by subst hp;rfl
theorem begin_any(B:UB)(u:US)(A K:Bn)(bg:Int)(g:GSt)(z:RSt)(d:Nat)(hst:StOk A K bg)(hg:GOk g)(hT:g.T.length≤1000)(hla:u.la.Ok)(hz:z.k.length=32)(hzi:z.iv<4294967296)(hM:MB g.M)(hcd:B.c 44=.int .u64 (d:Int))(hd:d<18446744073709551616):Spc Tryz.prog 68 #[.pointer (some ⟨B.b,0,none⟩)] [allI (RTI B.R z)] [B.it u,allI (StL B.st A K bg),allI (GI B.G g)] (BegR B u g d):=by
 refine Spc.enter Tryz.func68 (h:=?_);refine fun w0 hw0=>?_;refine go 5 ?_;refine ak (vs:=u.la.cells) (hs:=by rw[bT hla];exact KS124.h) (ho:=rfl) (hr:=Rds.cel mQ (un_la B hla)) (h:=?_);refine RL.call (bnext_any u.la hla) (hl:=.nil) (hb:=.inl rfl) (h:=?_);rintro _ _ _ ⟨rfl,rfl,n,hn0,hn,rfl⟩;have hr1:=rc1_ok hn (show 0<4294967296 by decide) (k:=List.replicate 32 0#8) rfl;have hr2:=rc1_ok hn hzi (k:=List.replicate 32 0#8) rfl;have hr3:=rc1_ok hn hzi hz;have hkb:(bytes z.k).length=32:=by rw[List.length_map,hz]
 refine ay (rc1 n 0 (List.replicate 32 0#8)).cells (ho:=rfl) (hf:=fill_rcS n rfl) (h:=go 1 ?_);intro b1;refine an (ho:=rfl) (h1:=d9 _) (hv:=bT hr1) (h:=?_);refine go 8 ?_;refine ar (tknown_any B.R z hz) (hl:=Lend.sub (dm (List.Mem.head _)) mQ .nil) (h:=?_);refine go 4 ?_;refine aj (vs:=[_]) (rc_setV hr1 z.iv) (ho:=rfl) (hl:=by rw[bT hr1];simp) (h:=?_);refine go 1 ?_;refine aj (vs:=bytes z.k) (rc_setK hr2 hz) (by rw[hkb];exact KS31.h) rfl (h1:=bC fh _) (hl:=by rw[hkb,bT hr2];simp) (h:=?_);refine go 9 ?_;refine RL.call ((gsources_any B.G g hT).bundleX (srcG_ne B.G g)) (hl:=.nil) (hb:=.inr rfl) (h:=?_);rintro _ _ _ ⟨_,_,⟨ob,cp,rfl,rfl,hH⟩,rfl⟩;obtain⟨rfl,rfl⟩:=List.cons.inj hH;refine go 5 ?_;have hlen:(cn (cW g.T)).length=g.T.length:=by rw[List.length_mergeSort,cW,List.length_map]
 refine CW.loop (γ:=Nat×Rc) (fun x=>x.1≤g.T.length∧x.2.Ok∧x.2.sq≠0∧(∀k<x.1,∀j:Nat,(cn (cW g.T))[k]?=some (j:Int)→g.M=g0.M→x.2.ms[j]?=some (da g.T (j:Int),d))) (fun x=>[(0,.pointer (some ⟨B.b,0,none⟩)),(2,.pointer (some ⟨b1,0,none⟩)),(28,aE ob g.T.length cp),(29,.int .i64 (g.T.length:Int)),(30,.int .i64 (x.1:Int))]) (fun _=>[allI (RTI B.R z)]) (fun x=>[own ob cp 3 1 g.T.length (bO (cn (cW g.T))),cel b1 x.2.cells 124,B.it u,allI (StL B.st A K bg),allI (GI B.G g)]) (fun x=>g.T.length-x.1) (0,rc1 n z.iv z.k) ⟨by omega,hr3,hn0,fun k hk=>by omega⟩ (.cons rfl (.cons rfl (.cons rfl (.cons rfl (.cons rfl .nil))))) wE ?_;rintro⟨i,r⟩ ⟨hi,hr,h0,hin⟩;dsimp only at hi hr h0 hin ⊢;refine go 6 ?_;refine CW.cond rfl (fun hlt=>?_) (fun hlt=>?_)
 ·have hlt:i<g.T.length:=by simp at hlt;omega
  obtain⟨s,hs⟩:∃s,(cn (cW g.T))[i]?=some s:=⟨_,List.getElem?_eq_getElem (by rw[hlen];exact hlt)⟩;obtain⟨j,hj,rfl⟩:=src_bd hg.t hs;have hv:(bO (cn (cW g.T)))[i*1]?=some (.int .i64 (j:Int)):=by rw[Nat.mul_one,List.getElem?_map,hs];rfl
  refine aR (p:=ob=none→False) (fun w hC e=>by subst e;have:=dW (hC.s.h (own none cp 3 1 g.T.length (bO (cn (cW g.T)))) mQ);omega) (fun hob=>?_)
  cases ob with
  | none=>exact(hob rfl).elim
  | some b=>
  have hmb:=hM (j:Int);have hep:=epoch_bd hg.t (j:Int);refine go 6 ?_;refine aS (j:=i) (ho:=rfl) (hlt:=hlt) (h:=go 11 ?_);refine ar ((gmark_any B.G g (j:Int) hg).toldB (H:=GI B.G g) (J:=[])) (hl:=Lend.inH (x:=allI (GI B.G g)) mQ .nil) (h:=?_);refine go 16 ?_;intro b2;refine ar ((gepoch_any B.G g (j:Int) hg).toldB (H:=GI B.G g) (J:=[])) (hl:=Lend.inH (x:=allI (GI B.G g)) mQ .nil) (h:=?_);refine go 11 ?_;refine CW.cond rfl (fun hne=>?_) (fun hne=>?_)
  ·refine go 6 ?_;refine ae (Sq.of [0,1,2,3,4,5,6,8,7,9,10]) [7,10] [10] [0,2,3,4,5,8,9] (h:=?_);refine go 1 ?_;refine ak (vs:=[.int .u32 ((da g.T (j:Int),0).1:Int),.int .u64 ((da g.T (j:Int),0).2:Int)]) (ho:=rfl) (hr:=Rds.cel mQ (am ⟨rfl,rfl,trivial⟩)) (h:=?_);refine go 4 ?_;refine RL.load (ho:=rfl) (hr:=Rd.get mQ rfl) (h:=?_);refine av (d:=61) rfl hcd ?_;refine go 1 ?_;refine RL.call (ahead_any (da g.T (j:Int),0) d (show(0:Nat)<18446744073709551616 by decide) hd) (hl:=.nil) (hb:=.inl rfl) (h:=?_);rintro _ _ _ ⟨rfl,rfl,q,hq1,hq2,hq3,rfl⟩;have hqe:g.M=g0.M→q=(da g.T (j:Int),d):=fun _=>Prod.ext hq1 (hq3 rfl);refine al (j:=j) (ho:=rfl) (hlt:=hj) (h:=?_);refine aj (vs:=[.int .u32 (q.1:Int),.int .u64 (q.2:Int)]) (rc_setB hr hj q) (ho:=rfl) (hl:=by rw[bT hr];show 0+1+j*2+2≤50;omega) (h:=?_);refine go 4 ?_;refine ap rfl (ad (by omega) (by omega)) ?_;refine go 2 ?_;exact NQ.round (g:=(i,r)) (i+1,{ r with ms:=r.ms.set j q }) ⟨hlt,hr.mset j (by rw[hq1];exact hep) hq2,h0,beg_step hr.ms hj hs hqe hin⟩ (by show g.T.length-(i+1)<g.T.length-i;omega) (.cons rfl (.cons rfl (.cons rfl (.cons rfl (.cons rfl .nil))))) wE
  ·refine go 2 ?_;refine ae (Sq.of [0,1,2,3,4,5,6,8,7,9,10]) [7,10] [10] [0,2,3,4,5,8,9] (h:=?_);refine go 1 ?_;refine ak (vs:=[.int .u32 ((iG g.M (j:Int)).1:Int),.int .u64 ((iG g.M (j:Int)).2:Int)]) (ho:=rfl) (hr:=Rds.cel mQ (am ⟨rfl,rfl,trivial⟩)) (h:=?_);refine go 4 ?_;refine RL.load (ho:=rfl) (hr:=Rd.get mQ rfl) (h:=?_);refine av (d:=61) rfl hcd ?_;refine go 1 ?_;refine RL.call (ahead_any (iG g.M (j:Int)) d hmb.2 hd) (hl:=.nil) (hb:=.inl rfl) (h:=?_);rintro _ _ _ ⟨rfl,rfl,q,hq1,hq2,hq3,rfl⟩;have hqe:g.M=g0.M→q=(da g.T (j:Int),d):=fun hM0=>Prod.ext (hq1.trans (by have:=hne;simp at this;omega)) (hq3 (by rw[hM0];rfl));refine al (j:=j) (ho:=rfl) (hlt:=hj) (h:=?_);refine aj (vs:=[.int .u32 (q.1:Int),.int .u64 (q.2:Int)]) (rc_setB hr hj q) (ho:=rfl) (hl:=by rw[bT hr];show 0+1+j*2+2≤50;omega) (h:=?_);refine go 4 ?_;refine ap rfl (ad (by omega) (by omega)) ?_;refine go 2 ?_;exact NQ.round (g:=(i,r)) (i+1,{ r with ms:=r.ms.set j q }) ⟨hlt,hr.mset j (by rw[hq1];exact hmb.1) hq2,h0,beg_step hr.ms hj hs hqe hin⟩ (by show g.T.length-(i+1)<g.T.length-i;omega) (.cons rfl (.cons rfl (.cons rfl (.cons rfl (.cons rfl .nil))))) wE
 ·refine go 6 ?_;refine ae (Sq.of [0,1,2,3,4,5]) [5] [5] [0,1,2] (h:=?_);refine go 4 ?_;refine aT (ho:=rfl) (hl:=bT hr) (h:=?_);refine RL.call ((bbegin_any B.st A K bg r hst hr h0).bundle) (hl:=.nil) (hb:=.inr rfl) (h:=?_);rintro _ _ _ ⟨_,⟨rfl,e,rfl,A',K',bg',hst',rfl⟩,rfl⟩;refine go 5 ?_;refine aT (ho:=rfl) (hl:=bT hr) (h:=?_);refine go 2 ?_;refine aj (vs:=r.cells) (un_setbe B u hr) (by rw[bT hr];exact KS124.h) rfl (h1:=d9 _) (hl:=by rw[bT hr,gO];simp) (h:=?_);refine go 2 ?_;refine aj (cs':=B.cells { u with be:=r,nd:=false }) (vs:=[_]) rfl KS4.h rfl rfl rfl rfl rfl rfl rfl rfl uE (by rw[gO];simp) ?_;refine go 1 ?_;exact NQ.post (dn rfl) (.keep (.drop (.drop (.keep (.keep .nil))))) ⟨rfl,rfl,A',K',bg',r,hst',hr,fun hM0 j hj=>beg_all hlen (by simp at hlt;omega) hin hj hM0,rfl⟩
structure Jd where
 id:Nat
 b:Nat
 kb:Nat
 g0:Int
 g1:Int
 g2:Int
 sp:Option Addr
 mp:Option Addr
 tm:Nat
 bd:Int
 ho:Int
 pr:Int
structure Jd.Ok(x:Jd):Prop where
 id:x.id<8
 ho:1≤x.ho
abbrev jdI(x:Jd):It:=allI [jI x.b x.kb x.g0 x.g1 x.g2 x.sp x.mp x.tm,qI x.kb x.bd x.ho x.pr]
def jdC(JL:List Jd):List (Value×Value):=JL.map fun x=>(.int .i64 (x.id:Int),.pointer (some ⟨x.b,0,none⟩))
theorem jd_perm{JL:List Jd}{x:Jd}(h:x∈JL):∃r,(JL.map jdI).Perm (jdI x::r):=by obtain⟨u,v,rfl⟩:=List.append_of_mem h;refine⟨(u++v).map jdI,?_⟩;have:=(List.perm_middle (a:=x) (l₁:=u) (l₂:=v)).map jdI;simpa using this
theorem jdC_mem{JL:List Jd}{p:Value×Value}(h:p∈jdC JL):∃x∈JL,p=(.int .i64 (x.id:Int),.pointer (some ⟨x.b,0,none⟩)):=by obtain⟨x,hx,rfl⟩:=List.mem_map.1 h;exact⟨x,hx,rfl⟩
structure UC where
 B:UB
 z:RSt
 nA:List Value
 mp:Nat
 TL:List Trk
 JL:List Jd
 d:Nat
structure UX where
 u:US
 A:Bn
 K:Bn
 bg:Int
 g:GSt
 rl:List (Value×Value)
 nw:Int
 ct:List (Value×Value)
 D:Int→Int
abbrev nvL(C:UC)(nw:Int):List It:=[gY C.B.nb C.nA C.mp nw,aN C.mp aF (fj C.TL),allI (C.TL.map iL)]
abbrev UL(C:UC)(x:UX):List It:=[C.B.it x.u,allI (StL C.B.st x.A x.K x.bg),allI (GI C.B.G x.g),aN C.B.rm aF x.rl,allI (RTI C.B.R C.z),allI (nvL C x.nw),aN C.B.jm aF (jdC C.JL),allI (C.JL.map jdI),aN C.B.tm aF x.ct]
structure UC.Ok(C:UC):Prop where
 zk:C.z.k.length=32
 zi:C.z.iv<4294967296
 nA:C.nA.length=20
 T:∀x∈C.TL,x.Ok
 J:∀x∈C.JL,x.Ok
 c:C.B.c 44=.int .u64 (C.d:Int)
 d:C.d<18446744073709551616
 mo:C.B.G.mo≠0
structure UX.Ok(x:UX):Prop where
 st:StOk x.A x.K x.bg
 g:GOk x.g
 T:x.g.T.length≤1000
 la:x.u.la.Ok
 be:x.u.be.Ok
 M:MB x.g.M
 rl:RmOk x.rl
 D:DRel x.ct x.D
 lk:x.u.lk=false
 n0:0≤x.u.now
def TickR(C:UC)(x:UX):Value→List It→List It→Prop:=fun v I' H'=>v=.int .i64 0∧I'=[]∧∃x':UX,x'.Ok∧x'.u.now=x.u.now+1∧x'.nw=x'.u.now∧H'=UL C x'
theorem be_sq(B:UB)(u:US):(B.cells u)[0+106+0]?=some (.int .u32 (u.be.sq:Int)):=by rw[UB.cells,List.getElem?_append_right (by rw[ea];omega),ea,List.getElem?_append_right (by rw[cQ];omega),cQ];rfl
theorem utick_any(C:UC)(x:UX)(hC:C.Ok)(hx:x.Ok)(hnw:x.nw=x.u.now)(hb:x.u.now≤1000000):Spc Tryz.prog 32 #[.pointer (some ⟨C.B.b,0,none⟩)] [] (UL C x) (TickR C x):=by
 have hn0:=hx.n0;have hlk:=hx.lk;refine Spc.enter Tryz.func32 (h:=?_);refine fun w0 hw0=>?_;refine go 10 ?_;refine ar (uis_any C.B x.u) (hl:=Lend.inH mQ .nil) (h:=?_);refine go 15 ?_;refine ag rfl ((by simp;omega)) ?_;refine go 9 ?_;refine ap rfl (ad (by omega) (by omega)) ?_;refine go 2 ?_;refine aj (cs':=C.B.cells { x.u with now:=x.u.now+1 }) (vs:=[_]) rfl KS3.h rfl rfl rfl rfl rfl rfl rfl rfl uE (by rw[gO];simp) ?_;refine go 3 ?_;refine fQ (γ:=UX) (fun y=>y.Ok∧y.u.now=x.u.now+1∧y.nw=x.nw) (fun _=>[(0,.pointer (some ⟨C.B.b,0,none⟩))]) (fun _=>[]) (fun y=>UL C y) ?_ ?_
 ·refine go 10 ?_;refine ag rfl (hlk) (go 6 ?_);refine RL.load (ho:=rfl) (hr:=Rd.get mQ (be_sq _ _)) (h:=?_);refine go 4 ?_;refine CW.cond rfl (fun hsq=>?_) (fun hsq=>?_)
  ·refine go 2 ?_;refine RL.call (finish_any C.B { x.u with now:=x.u.now+1 } x.A x.K x.bg x.g x.rl hx.st hx.g hx.T hx.be hx.rl) (hl:=.nil) (hb:=.inr rfl) (h:=?_);rintro _ _ _ ⟨rfl,rfl,A',K',bg',rl',hst',hrl',-,rfl⟩;refine go 2 ?_;exact aJ ⟨{ x.u with now:=x.u.now+1,la:=x.u.be,be:=rz0 },A',K',bg',x.g,rl',x.nw,x.ct,x.D⟩ ⟨⟨hst',hx.g,hx.T,hx.be,rz0_ok,hx.M,hrl',hx.D,hlk,by show 0≤x.u.now+1;omega⟩,rfl,rfl⟩ (.cons rfl .nil) wE
  ·refine go 9 ?_;refine CW.cond rfl (fun hnd=>?_) (fun hnd=>?_)
   ·refine go 2 ?_;refine RL.call (begin_any C.B { x.u with now:=x.u.now+1 } x.A x.K x.bg x.g C.z C.d hx.st hx.g hx.T hx.la hC.zk hC.zi hx.M hC.c hC.d) (hl:=Lend.inH (x:=allI (RTI C.B.R C.z)) mQ .nil) (hb:=.inr rfl) (h:=?_);rintro _ _ _ ⟨rfl,rfl,A',K',bg',r,hst',hr,-,rfl⟩;refine go 2 ?_;exact aJ ⟨{ x.u with now:=x.u.now+1,be:=r,nd:=false },A',K',bg',x.g,x.rl,x.nw,x.ct,x.D⟩ ⟨⟨hst',hx.g,hx.T,hx.la,hr,hx.M,hx.rl,hx.D,hlk,by show 0≤x.u.now+1;omega⟩,rfl,rfl⟩ (.cons rfl .nil) wE
   ·refine go 2 ?_;exact aJ ⟨{ x.u with now:=x.u.now+1 },x.A,x.K,x.bg,x.g,x.rl,x.nw,x.ct,x.D⟩ ⟨⟨hx.st,hx.g,hx.T,hx.la,hx.be,hx.M,hx.rl,hx.D,hlk,by show 0≤x.u.now+1;omega⟩,rfl,rfl⟩ (.cons rfl .nil) wE
 ·rintro y ⟨hy,hn,hw⟩;have ht:y.nw≤y.u.now∧y.u.now≤1099511627776:=by rw[hw,hn,hnw];omega
  have hy0:=hy.n0;refine go 1 ?_;refine ae (Sq.of [0,1,2,3,4,5,6,7,8]) [8] [8] [0,1,2,4,5,6] (h:=?_);refine go 8 ?_;refine RL.call ((ntick_any C.B.nb C.nA C.mp y.nw y.u.now C.TL hC.nA ht (by rw[hw,hnw];exact hn0) hC.T).bundle) (hl:=.nil) (hb:=.inr rfl) (h:=?_);rintro _ _ _ ⟨_,⟨rfl,rfl,rfl⟩,rfl⟩;refine go 9 ?_;refine RL.range KU118.h rfl rfl rfl rfl rfl rfl pE (fun it=>?_);refine go 3 ?_;refine CW.loop (γ:=List (Value×Value)) (fun left=>∀p∈left,p∈jdC C.JL) (fun _=>[(0,.pointer (some ⟨C.B.b,0,none⟩)),(56,.pointer (some ⟨it,0,none⟩))]) (fun _=>[]) (fun left=>[df C.B.jm it aF (jdC C.JL) left,C.B.it y.u,allI (C.JL.map jdI),allI (StL C.B.st y.A y.K y.bg),allI (GI C.B.G y.g),aN C.B.rm aF y.rl,allI (RTI C.B.R C.z),allI (nvL C y.u.now),aN C.B.tm aF y.ct]) (fun left=>left.length) (jdC C.JL) (fun _ h=>h) (.cons rfl (.cons rfl .nil)) wE ?_;rintro left hleft;refine go 2 ?_;refine RL.nextC rfl rfl rfl rfl rfl rfl (.take (ai _)) (fun hl=>?_) (fun q p hp=>?_)
  ·subst hl;refine go 4 ?_;refine ag rfl ((by simp)) ?_;refine go 6 ?_;refine CW.unrange (go 5 ?_);exact RQ.rea (fun _ h=>h) (H':=UL C { y with nw:=y.u.now }) rE (RQ.post (az rfl rfl) (.keep (.keep (.keep (.keep (.keep (.keep (.keep (.keep (.keep .nil))))))))) ⟨rfl,rfl,{ y with nw:=y.u.now },⟨hy.st,hy.g,hy.T,hy.la,hy.be,hy.M,hy.rl,hy.D,hy.lk,hy.n0⟩,hn,rfl,rfl⟩)
  ·obtain⟨j,hj,rfl⟩:=jdC_mem (hleft p (List.mem_of_getElem? hp));refine go 4 ?_;refine aI rfl ((by simp)) ?_;refine go 5 ?_;refine RL.entry rfl rfl rfl rfl (List.Mem.head _) ?_;have hok:=hC.J j hj;obtain⟨r,hr⟩:=jd_perm hj;refine go 6 ?_;refine CW.uncur (CW.rea (fun _ h=>h) (H':=[allI (C.JL.map jdI),df C.B.jm it aF (jdC C.JL) (left.eraseIdx q),C.B.it y.u,allI (StL C.B.st y.A y.K y.bg),allI (GI C.B.G y.g),aN C.B.rm aF y.rl,allI (RTI C.B.R C.z),allI (nvL C y.u.now),aN C.B.tm aF y.ct]) rE ?_);refine CW.openAll hr (go 7 ?_);refine ar ((jturn0 j.b j.kb j.g0 j.g1 j.g2 j.sp j.mp j.tm j.bd j.ho j.pr y.u.now j.id hok.ho hok.id (by omega)).toldB (H:=[jI j.b j.kb j.g0 j.g1 j.g2 j.sp j.mp j.tm,qI j.kb j.bd j.ho j.pr]) (J:=[])) (hl:=Lend.inH (x:=jdI j) mQ .nil) (h:=?_);refine go 2 ?_;refine NQ.round (g:=left) (left.eraseIdx q) (fun p hp'=>hleft p (List.mem_of_mem_eraseIdx hp')) (by show(left.eraseIdx q).length<left.length;rw[List.length_eraseIdx_of_lt (List.getElem?_eq_some_iff.1 hp).1];have:=(List.getElem?_eq_some_iff.1 hp).1;omega) (.cons rfl (.cons rfl .nil)) (fun w h=>(Cls.shutAll hr h).rea (fun _ h=>h) rE)
theorem qknew_yes(a b c:Int)(h:1≤a∧a≤100∧1≤b∧b≤65535∧1≤c∧c≤100):Spc Tryz.prog 268 #[.int .i64 a,.int .i64 b,.int .i64 c] [] [] (fun v I' H'=>∃q,v=.tuple #[.pointer (some ⟨q,0,none⟩),.int .i64 0]∧I'=[]∧H'=[qI q a b c]):=by
 refine Spc.enter Tryz.func268 (h:=?_);refine fun w0 hw0=>?_;refine go 10 ?_;refine ab (row_any a) (h:=?_);refine go 2 ?_;apply au (d:=11) (dp:=15) (l':=(Sq.of [8,9,10,11,12,13,14,15])) rfl (sK [0,1,2,6,7] rfl)
 ·intro hb4 K4;refine go 1 ?_;refine ab (row_any c) (h:=?_);refine go 2 ?_;exact K4 _ (.cons rfl (sK [0,1,2,6,7] rfl))
 ·intro hb4 K4;refine go 4 ?_;exact K4 _ (.cons rfl (sK [0,1,2,6,7] rfl))
 refine go 1 ?_;apply au (d:=16) (dp:=19) (l':=(Sq.of [12,13,14,15])) rfl (sK [0,1,2,6,7] rfl)
 ·intro hb9 K9;refine go 3 ?_;exact K9 _ (.cons rfl (sK [0,1,2,6,7] rfl))
 ·intro hb9 K9;refine go 3 ?_;exact K9 _ (.cons rfl (sK [0,1,2,6,7] rfl))
 refine go 1 ?_;apply au (d:=20) (dp:=23) (l':=(Sq.of [])) rfl (sK [0,1,2,6,7] rfl)
 ·intro hb13 K13;refine go 3 ?_;exact K13 _ (.cons rfl (sK [0,1,2,6,7] rfl))
 ·intro hb13 K13;refine go 3 ?_;exact K13 _ (.cons rfl (sK [0,1,2,6,7] rfl))
 refine go 2 ?_;refine ag rfl ((by simp;omega)) ?_;refine go 7 ?_;refine ay (qC a b c) (ho:=rfl) (h:=go 6 ?_);intro b1;exact RQ.post (bb rfl rfl rfl) (.keep .nil) ⟨_,rfl,rfl,rfl⟩
theorem wnew_yes(w:Wt)(hw:w.Ok):Spc Tryz.prog 188 #[.agg w.cells.toArray] [] [] (fun v I' H'=>∃j:Jd,j.ho=w.ho∧v=.tuple #[.pointer (some ⟨j.b,0,none⟩),.int .i64 0]∧I'=[]∧H'=[jI j.b j.kb j.g0 j.g1 j.g2 j.sp j.mp j.tm,qI j.kb j.bd j.ho j.pr]):=by
 have e1:=bh hw.1;have e2:=bh hw.2.1;have e3:=bh hw.2.2.1;refine Spc.enter Tryz.func188 (h:=?_);refine fun w0 hw0=>?_;refine go 9 ?_;intro b1;refine aB (A:=[_]) (B:=[]) (.take .nil) rfl ?_;refine aW (fun J hJ=>?_);have m:cel b1 w.cells 165∈J:=hJ _ (by simp[Wt.cells]);clear hJ
 have fG:RdsN J ⟨b1,0+0,none⟩ 3 [.int .i64 w.go,.int .i64 w.gg,.int .i64 w.gm]:=aV m (fun j u hj=>by
  match j,hj with
  | 0,hj=>exact hj
  | 1,hj=>exact hj
  | 2,hj=>exact hj
  | j+3,hj=>simp at hj) rfl
 have f3:RdI J ⟨b1,0+3,none⟩ (.int .i64 w.sl):=⟨fun _=>Rd.celI m rfl⟩;have f4:RdI J ⟨b1,0+4,none⟩ (.int .i64 w.mo):=⟨fun _=>Rd.celI m rfl⟩;have f5:RdI J ⟨b1,0+5,none⟩ (.int .i64 w.sa):=⟨fun _=>Rd.celI m rfl⟩;have f6:RdI J ⟨b1,0+6,none⟩ (.int .i64 w.ra):=⟨fun _=>Rd.celI m rfl⟩;have f7:RdI J ⟨b1,0+7,none⟩ (.int .i64 w.ba):=⟨fun _=>Rd.celI m rfl⟩;have f8:RdI J ⟨b1,0+8,none⟩ (.int .i64 w.ho):=⟨fun _=>Rd.celI m rfl⟩;have f9:RdI J ⟨b1,0+9,none⟩ (.int .i64 w.pr):=⟨fun _=>Rd.celI m rfl⟩;have fA:RdsN J ⟨b1,0,none⟩ 10 [.int .i64 w.go,.int .i64 w.gg,.int .i64 w.gm,.int .i64 w.sl,.int .i64 w.mo,.int .i64 w.sa,.int .i64 w.ra,.int .i64 w.ba,.int .i64 w.ho,.int .i64 w.pr]:=⟨fun _=>Rds.allI m,rfl⟩;refine go 3 ?_;refine ab (gate_any w.go w.gg w.gm) (h:=?_);refine go 9 ?_;refine ag rfl ((by rw[e1];rfl)) ?_;refine go 8 ?_;refine RL.call (cus_any w.sl w.mo) (hl:=.nil) (hb:=.inl rfl) (h:=?_);rintro _ _ _ ⟨u1,rfl,rfl,rfl⟩;refine go 14 ?_;refine ag rfl ((by rw[e2];rfl)) ?_;refine go 8 ?_;refine RL.call (stk_any w.sa w.ra) (hl:=.nil) (hb:=.inl rfl) (h:=?_);rintro _ _ _ ⟨u2,rfl,rfl,rfl⟩;refine go 14 ?_;refine ag rfl ((by rw[e3];rfl)) ?_;refine go 10 ?_;refine RL.call (qknew_yes w.ba w.ho w.pr hw.2.2.2) (hl:=.nil) (hb:=.inr rfl) (h:=?_);rintro _ _ _ ⟨q,rfl,rfl,rfl⟩;refine go 24 ?_;refine RL.makeMap (good:=fun _=>True) (h:=?_);refine fun mp=>?_;refine go 8 ?_;intro b2;exact RQ.rea (fun _ h=>h) (H':=[jI b2 q w.go w.gg w.gm u1 u2 mp,qI q w.ba w.ho w.pr]) rE (RQ.post (bb rfl rfl rfl) (.keep (.keep .nil)) ⟨⟨0,b2,q,w.go,w.gg,w.gm,u1,u2,mp,w.ba,w.ho,w.pr⟩,rfl,rfl,rfl,rfl⟩)
end Go.Proofs.YthlchaldjekokaaGreat
namespace Go.PK
def mapE(r:Nat)(good:Value→Prop)(c:List (Value×Value))(key:Value)(n:Nat):It where
 bs:=[r]
 A w:=∃es clock,w.heap[r]?=some (.map es clock)∧(iK es.toList=c∧(c.map (·.1)).Nodup∧(∀p∈c,good p.1)∧(es.toList.map (·.born)).Nodup∧∀e∈es.toList,e.born<clock)∧∃(j:Nat) (e:MapEntry),es.toList[j]?=some e∧e.key=key∧e.born=n
 fr w w' h hA:=by
  obtain⟨es,clock,h1,rest⟩:=hA
  exact⟨es,clock,by rw[h r (by simp)];exact h1,rest⟩
 lt w hA b hb:=by
  obtain⟨es,clock,h1,rest⟩:=hA
  have:b=r:=by simpa using hb
  subst this
  exact(Array.getElem?_eq_some_iff.1 h1).1
theorem mapE_I{r:Nat}{good:Value→Prop}{c:List (Value×Value)}{key:Value}{n:Nat}{w:World}(h:(mapE r good c key n).A w):(aN r good c).A w:=by obtain⟨es,clock,h1,h2,_⟩:=h;exact⟨es,clock,h1,h2⟩
section
variable {P:Program} {L:List Oper} {ef bk:List Nat} {tq:Tq} {Q:Exit→Act→World→Prop} {N:Fm} {E:Env} {w0:World} {S:List Nat} {I H:List It} {i:Nat} {l:Sq}
variable {d:Nat} {x y z:Operand} {ty t yt:TypeId} {pos:String} {af:Array Edge} {g:Option (Nat×Bool)} {v:Value}
theorem MapAt.entry{r:Nat}{good:Value→Prop}{c:List (Value×Value)}{key:Value}{n:Nat}(hm:mapE r good c key n∈H):MapAt I H r good c:=fun _ hw=>mapE_I (hw.h _ hm)
theorem je{es:Array MapEntry}{j:Nat}{e:MapEntry}{f:MapEntry→MapEntry}(h:es.toList[j]?=some e):(es.modify j f).toList=es.toList.set j (f e):=by
 apply List.ext_getElem?;intro q;simp only[Array.toList_modify,List.getElem?_modify,List.getElem?_set];by_cases hq:j=q
 ·subst hq;have hlt:j<es.size:=by simpa using(List.getElem?_eq_some_iff.1 h).1
  rw[h];simp[hlt]
 ·simp[hq]
theorem set_self'{α:Type}{l:List α}{j:Nat}{e:α}(h:l[j]?=some e):l.set j e=l:=by obtain⟨hj,rfl⟩:=List.getElem?_eq_some_iff.1 h;exact List.set_getElem_self hj
theorem run_mapEntry{kt et:TypeId}{good:Value→Prop}{r:Nat}{c:List (Value×Value)}{key zv:Value}{w:World}(K:KeyT P kt good)(hu:∀w,(underlying t).run P w=.ok (.map kt et) w)(hz:∀w,(zeroValue et).run P w=.ok zv w)(hk:good key)(hA:(aN r good c).A w):∃(n:Nat) (w':World),(Instr.mapEntry t (.map (some r)) key).run P w=.ok (.tuple #[(aO key c).getD zv,.int .i64 n]) w'∧Keeps [r] w w'∧(mapE r good (cD key ((aO key c).getD zv) c) key n).A w':=by
 obtain⟨es,clock,h1,h2,h3,h4,h5,h6⟩:=hA;have hf:=fV K hk es.toList w (fY h2 h4);have hl:=iP (k:=key) es.toList 0;rw[h2] at hl;have hgo:(getObj r).run P w=.ok (.map es clock) w:=by simp[getObj,Sem.run,h1]
 have hg':∀u,∀p∈cD key u c,good p.1:=fun u p hp=>by
  rcases mem_setV hp with rfl|hp
  ·exact hk
  ·exact h4 p hp
 cases hfl:eh key es.toList 0 with
 | none=>
  rw[hfl] at hl;rw[←hl];refine⟨clock,{ w with heap:=w.heap.setIfInBounds r (.map (es.push { key:=key,val:=zv,born:=clock }) (clock+1)) },?_,Keeps.setObj,⟨_,_,eW h1,⟨?_,gE h3,hg' _,?_,?_⟩,es.size,{ key:=key,val:=zv,born:=clock },by simp,rfl,rfl⟩⟩
  ·simp[Instr.mapEntry,hu,hz,hgo,K.chk key hk,hf,hfl,ei h1 (by simp),goInt]
  ·rw[Array.toList_push,setV_new es.toList (iS hfl),h2];rfl
  ·rw[Array.toList_push,List.map_append,List.nodup_append];exact⟨h5,by simp,fun a ha b hb=>by obtain⟨e,he,rfl⟩:=List.mem_map.1 ha;have:=h6 e he;simp at hb;omega⟩
  ·intro e he;rw[Array.toList_push] at he;rcases List.mem_append.1 he with he|he
   ·have:=h6 e he;omega
   ·simp at he;subst he;simp
 | some p=>
  obtain⟨j,v0⟩:=p;obtain⟨_,e,g1,g2,g3,g4⟩:=iR hfl;simp only[Nat.sub_zero] at g1 g4;rw[hfl] at hl;rw[←hl];have he:es[j]?=some e:=by simpa using g1
  have hst:(Instr.keyThatStays ((es[j]?.map (·.key)).getD key) key).run P w=.ok key w:=by
   have:(es[j]?.map (·.key)).getD key=key:=by simp[he,g2]
   rw[this];simp[Instr.keyThatStays,K.bits key hk]
  have hself:(es.modify j fun e=>{ e with key:=key }).toList=es.toList:=by rw[je g1,show({ e with key:=key }:MapEntry)=e by cases e;simp at g2;subst g2;rfl];exact set_self' g1
  refine⟨e.born,{ w with heap:=w.heap.setIfInBounds r (.map (es.modify j fun e=>{ e with key:=key }) clock) },?_,Keeps.setObj,⟨_,_,eW h1,⟨?_,gE h3,hg' _,?_,?_⟩,j,e,by rw[hself];exact g1,g2,rfl⟩⟩
  ·simp only[Instr.mapEntry,Sem.run_bind,hu,Result.andThen_ok,hgo,K.chk key hk,hf,hfl,hst,ei h1 (by simp)];simp[he,goInt]
  ·rw[hself,h2];have:=setV_at (v:=v0) es.toList j e g1 g2 g4;rw[h2,show({ e with key:=key,val:=v0 }:MapEntry)=e by cases e;simp at g2 g3;subst g2;subst g3;rfl,set_self' g1,h2] at this;exact this
  ·rw[hself];exact h5
  ·rw[hself];exact h6
theorem run_entryStore{good:Value→Prop}{r n:Nat}{c:List (Value×Value)}{key u:Value}{w:World}(hA:(mapE r good c key n).A w):∃w',(Instr.entryStore t (.map (some r)) (.int .i64 n) u).run P w=.ok () w'∧Keeps [r] w w'∧(aN r good (cD key u c)).A w':=by
 obtain⟨es,clock,h1,⟨h2,h3,h4,h5,h6⟩,j,e,g1,g2,g3⟩:=hA;have hgo:(getObj r).run P w=.ok (.map es clock) w:=by simp[getObj,Sem.run,h1]
 have hkey:good key:=by have:=h4 (e.key,e.val) (by rw[←h2];exact List.mem_map.2 ⟨e,List.mem_of_getElem? g1,rfl⟩);rw[g2] at this;exact this
 have hj:j<es.size:=by simpa using(List.getElem?_eq_some_iff.1 g1).1
 have hej:es[j]=e:=by have:=(List.getElem?_eq_some_iff.1 g1).2;simpa using this
 have hf:es.findIdx? (fun e=>(e.born:Int)==(n:Int))=some j:=by
  rw[Array.findIdx?_eq_some_iff_getElem];refine⟨hj,by rw[hej,g3];simp,fun q hq=>?_⟩;have hql:q<es.toList.length:=by simp;omega
  intro hb;have hb':((es[q].born:Nat):Int)=(n:Int):=by simpa using hb
  have hb:es[q].born=n:=by omega
  have e1:(es.toList.map (·.born))[q]?=some n:=by rw[List.getElem?_map,List.getElem?_eq_getElem hql];simpa using hb
  have e2:(es.toList.map (·.born))[j]?=some n:=by rw[List.getElem?_map,g1,←g3];rfl
  have:=(List.getElem?_inj (by simpa using hql) h5).1 (e1.trans e2.symm);omega
 have hfst:∀q<j,∀e',es.toList[q]?=some e'→e'.key≠key:=fun q hq e' he' hk=>by
  have e1:(c.map (·.1))[q]?=some key:=by rw[←h2];simp[iK,he',hk]
  have e2:(c.map (·.1))[j]?=some key:=by rw[←h2];simp[iK,g1,g2]
  have:=(List.getElem?_inj (List.getElem?_eq_some_iff.1 e1).1 h3).1 (e1.trans e2.symm);omega
 have hm:(es.modify j fun e=>{ e with val:=u }).toList=es.toList.set j { e with key:=key,val:=u }:=by rw[je g1,←g2]
 refine⟨{ w with heap:=w.heap.setIfInBounds r (.map (es.modify j fun e=>{ e with val:=u }) clock) },?_,Keeps.setObj,⟨_,_,eW h1,?_,gE h3,fun p hp=>?_,?_,?_⟩⟩
 ·simp[Instr.entryStore,hgo,asInt,asIntOf,hf,ei h1 (by simp)]
 ·rw[hm,setV_at es.toList j e g1 g2 hfst,h2]
 ·rcases mem_setV hp with rfl|hp
  ·exact hkey
  ·exact h4 p hp
 ·have:(es.modify j fun e=>{ e with val:=u }).toList.map (·.born)=es.toList.map (·.born):=by rw[je g1,List.map_set];exact set_self' (by rw[List.getElem?_map,g1];rfl)
  rw[this];exact h5
 ·intro e' he';rw[je g1] at he';rcases List.mem_or_eq_of_mem_set he' with he'|rfl
  ·exact h6 e' he'
  ·exact h6 e (List.mem_of_getElem? g1)
theorem RL.mapEntry{kt et:TypeId}{good:Value→Prop}{r:Nat}{c:List (Value×Value)}{key zv:Value}(K:KeyT P kt good)(hu:∀w,(underlying t).run P w=.ok (.map kt et) w)(hz:∀w,(zeroValue et).run P w=.ok zv w)(ho:b7 L i=some ⟨some d,.mapEntry t x y,ty,pos,af,g⟩)(hw:aG L E ⟨some d,.mapEntry t x y,ty,pos,af,g⟩=true)(hN:Nat.blt d N.n=true)(hi:ef.contains i=true)(hb:bk.contains i=true)(hx:E.ev x=some (.map (some r)))(hy:E.ev y=some key)(hk:good key)(hm:aN r good c∈H)(hup:∀n,∃H',Upd H (aN r good c) (mapE r good (cD key ((aO key c).getD zv) c) key n) H'∧RL P L ef bk tq Q l N ((d,.tuple #[(aO key c).getD zv,.int .i64 n])::E) w0 S I H'):RL P L ef bk tq Q (.cons i l) N E w0 S I H:=by
 refine eZ ho hw hi rfl hN (fun a w ha hC=>?_);obtain⟨n,w',h1,h2,h3⟩:=run_mapEntry K hu hz hk (hC.s.h _ hm);obtain⟨H',hU,hr⟩:=hup n;unfold dD;have:(execOp a.eval ⟨some d,.mapEntry t x y,ty,pos,af,g⟩).run P w=.ok (.value (.tuple #[(aO key c).getD zv,.int .i64 n])) w':=by show Sem.run P (do let v←Instr.mapEntry t (a.eval x) (a.eval y);pure (Next.value v)) w=_;rw[ha.ev hx,ha.ev hy];simp[h1]
 rw[this];exact⟨I,H',hC.upd hU h2 rfl h3,fun _ h=>h,fun h=>(by rw[hb] at h;cases h),hr⟩
theorem RL.entryStore{good:Value→Prop}{r n:Nat}{c:List (Value×Value)}{key u:Value}{H':List It}(ho:b7 L i=some ⟨none,.entryStore t x y z,ty,pos,af,g⟩:=by exact rfl)(hw:aG L E ⟨none,.entryStore t x y z,ty,pos,af,g⟩=true:=by exact rfl)(hi:ef.contains i=true:=by exact rfl)(hb:bk.contains i=true:=by exact rfl)
  (hx:E.ev x=some (.map (some r)):=by exact rfl) (hy:E.ev y=some (.int .i64 n):=by exact rfl) (hz:E.ev z=some u:=by exact rfl) (hup:Upd H (mapE r good c key n) (aN r good (cD key u c)) H':=by exact uE) (h:RL P L ef bk tq Q l N E w0 S I H'):RL P L ef bk tq Q (.cons i l) N E w0 S I H:=
 RL.turn0 ho hw hi hb rfl hup rfl (fun a w ha hC=>by
  obtain⟨w',h1,h2,h3⟩:=run_entryStore (t:=t) (P:=P) (hC.s.h _ hup.mem) (u:=u)
  refine⟨w',?_,h2,h3⟩
  show Sem.run P (do Instr.entryStore t (a.eval x) (a.eval y) (a.eval z);pure Next.skip) w=_
  rw[ha.ev hx,ha.ev hy,ha.ev hz]
  simp[h1]) h
end
end Go.PK
namespace Go.Proofs.YthlchaldjekokaaGreat
open Go.PK
theorem dK{I:List It}{b n sz i:Nat}{α:Type}{f:α→List Value}{R:List α}{x:α}(hm:sls (some ⟨b,0,none⟩) sz n (R.flatMap f)∈I)(hx:R[i]?=some x)(hf:∀y∈R,(f y).length=sz):RdsN I ⟨b,0+i*sz,none⟩ sz (f x):=
 ⟨fun H=>by
  have h:=Rds.part (H:=H) (j:=i*sz) (vs:=f x) (Rds.sls hm) (fun q u hu=>by
   have hlt:q<sz:=by have:=(List.getElem?_eq_some_iff.1 hu).1;rwa[hf x (List.mem_of_getElem? hx)] at this
   rw[eL (f:=f) (n:=sz) hf hx hlt];exact hu)
  rwa[bn] at h,hf x (List.mem_of_getElem? hx)⟩
theorem gQ{I:List It}{b n sz i j:Nat}{α:Type}{f:α→List Value}{R:List α}{x:α}{v:Value}(hm:sls (some ⟨b,0,none⟩) sz n (R.flatMap f)∈I)(hx:R[i]?=some x)(hf:∀y∈R,(f y).length=sz)(hv:(f x)[j]?=some v):RdI I ⟨b,0+i*sz+j,none⟩ v:=
 ⟨fun H=>by
  have h:=((dK hm hx hf).h H).rd hv
  rwa[bn] at h⟩
structure Ad where
 src:Int
 kd:Int
 w:Int
 g:Int
 st:Int
 lm:Int
 hz:Int
def Ad.cells(a:Ad):List Value:=[.int .i64 a.src,.int .i64 a.kd,.int .i64 a.w,.int .i64 a.g,.int .i64 a.st,.int .i64 a.lm,.int .i64 a.hz]
def Ad.ok(a:Ad):Bool:=decide ((0≤a.src∧a.src≤7)∧(2≤a.kd∧a.kd≤5)∧(0≤a.w∧a.w≤16)∧(0≤a.g∧a.g≤16∧0≤a.st∧0≤a.lm∧1≤a.hz∧a.hz≤65535))
def wasA(L:List Ad):Nat→Int
 | 0=> -1
 | i+1=>match L[i]? with
  | some a=>a.src
  | none=>0
def stepA(L:List Ad)(j:Nat):Bool:=match L[j]? with
 | some a=>a.ok&&decide (wasA L j<a.src)
 | none=>true
def adsB(L:List Ad):Bool:=(List.range L.length).all (stepA L)
theorem adsB_iff{L:List Ad}:adsB L=true↔∀j,stepA L j=true:=by
 rw[adsB,List.all_eq_true];constructor
 ·intro h j;by_cases hj:j<L.length
  ·exact h j (List.mem_range.2 hj)
  ·rw[stepA,List.getElem?_eq_none (by omega)]
 ·exact fun h j _=>h j
theorem stepA_at{L:List Ad}{j:Nat}{a:Ad}(h:L[j]?=some a):stepA L j=(a.ok&&decide (wasA L j<a.src)):=by rw[stepA,h]
theorem wasA_at{L:List Ad}{j:Nat}{a:Ad}(h:L[j]?=some a):wasA L (j+1)=a.src:=by rw[wasA,h]
theorem aright_any(a:Ad):Spc Tryz.prog 176 #[.agg #[.int .i64 a.src,.int .i64 a.kd,.int .i64 a.w,.int .i64 a.g,.int .i64 a.st,.int .i64 a.lm,.int .i64 a.hz]] [] [] (Is (.bool a.ok)):=by
 refine Spc.enter Tryz.func176 (h:=?_);refine fun w0 hw0=>?_;refine go 7 ?_;intro b1;refine aB (A:=[_]) (B:=[]) (.take .nil) rfl ?_;refine aW (fun J hJ=>?_);have m:cel b1 a.cells 287∈J:=hJ _ (by simp[Ad.cells]);clear hJ;have f0:RdI J ⟨b1,0+0,none⟩ (.int .i64 a.src):=⟨fun _=>Rd.celI m rfl⟩;have f1:RdI J ⟨b1,0+1,none⟩ (.int .i64 a.kd):=⟨fun _=>Rd.celI m rfl⟩;have f2:RdI J ⟨b1,0+2,none⟩ (.int .i64 a.w):=⟨fun _=>Rd.celI m rfl⟩
 have f3:RdsN J ⟨b1,0+3,none⟩ 4 [.int .i64 a.g,.int .i64 a.st,.int .i64 a.lm,.int .i64 a.hz]:=aV m (fun j u hj=>by
  match j,hj with
  | 0,hj=>exact hj
  | 1,hj=>exact hj
  | 2,hj=>exact hj
  | 3,hj=>exact hj
  | j+4,hj=>simp at hj) rfl
 refine go 5 ?_;apply aL (d:=6) (dp:=10) (l':=(Sq.of [8,9,10,11,12,13,14,15,16,17,18,19,20,21,22,23,24,25,26,27,28,29,30,31,32,33,34])) rfl (sK [1,2] rfl)
 ·intro hb4 K4;refine go 4 ?_;exact K4 _ (.cons rfl (sK [1,2] rfl))
 ·intro hb4 K4;refine go 4 ?_;exact K4 _ (.cons rfl (sK [1,2] rfl))
 refine go 1 ?_;apply aL (d:=11) (dp:=15) (l':=(Sq.of [13,14,15,16,17,18,19,20,21,22,23,24,25,26,27,28,29,30,31,32,33,34])) rfl (sK [1,2] rfl)
 ·intro hb9 K9;refine go 4 ?_;exact K9 _ (.cons rfl (sK [1,2] rfl))
 ·intro hb9 K9;refine go 4 ?_;exact K9 _ (.cons rfl (sK [1,2] rfl))
 refine go 1 ?_;apply aL (d:=16) (dp:=20) (l':=(Sq.of [18,19,20,21,22,23,24,25,26,27,28,29,30,31,32,33,34])) rfl (sK [1,2] rfl)
 ·intro hb14 K14;refine go 4 ?_;exact K14 _ (.cons rfl (sK [1,2] rfl))
 ·intro hb14 K14;refine go 4 ?_;exact K14 _ (.cons rfl (sK [1,2] rfl))
 refine go 1 ?_;apply aL (d:=21) (dp:=25) (l':=(Sq.of [23,24,25,26,27,28,29,30,31,32,33,34])) rfl (sK [1,2] rfl)
 ·intro hb19 K19;refine go 4 ?_;exact K19 _ (.cons rfl (sK [1,2] rfl))
 ·intro hb19 K19;refine go 4 ?_;exact K19 _ (.cons rfl (sK [1,2] rfl))
 refine go 1 ?_;apply aL (d:=26) (dp:=30) (l':=(Sq.of [28,29,30,31,32,33,34])) rfl (sK [1,2] rfl)
 ·intro hb24 K24;refine go 4 ?_;exact K24 _ (.cons rfl (sK [1,2] rfl))
 ·intro hb24 K24;refine go 4 ?_;exact K24 _ (.cons rfl (sK [1,2] rfl))
 refine go 1 ?_;apply aL (d:=31) (dp:=36) (l':=(Sq.of [34])) rfl (sK [2] rfl)
 ·intro hb29 K29;refine go 2 ?_;refine ab (rule_any a.g a.st a.lm a.hz) (h:=?_);refine go 2 ?_;exact K29 _ (.cons rfl (sK [2] rfl))
 ·intro hb29 K29;refine go 5 ?_;exact K29 _ (.cons rfl (sK [2] rfl))
 refine go 4 ?_;refine RQ.post (az rfl rfl) (aa _) ⟨?_,rfl,rfl⟩;congr 1;rw[Bool.eq_iff_iff];simp[Ad.ok,errI_0];omega
def gl(i:Nat):List Value:=(List.range 9).map fun j=>.int .i64 (if j%4=0∧j<4*i then 4294967296 else 0)
theorem same_any':Spc Tryz.prog 255 #[] [] [] (Is (.agg (gl 3).toArray)):=by
 refine Spc.enter Tryz.func255 (h:=?_);refine fun w0 hw0=>?_;refine go 17 ?_;intro b1 b2;refine CW.loop (γ:=Nat) (fun i=>i≤3) (fun i=>[(0,.pointer (some ⟨b1,0,none⟩)),(1,.pointer (some ⟨b2,0,none⟩)),(3,.int .i64 (i:Int))]) (fun _=>[]) (fun i=>[cel b1 (gl 0) 273,cel b2 (gl i) 273]) (fun i=>3-i) 0 (s:=.cons rfl (.cons rfl (.cons rfl .nil))) (round:=?_);intro i hi;refine go 6 ?_;refine CW.cond rfl (fun hlt=>?_) (fun hlt=>?_)
 ·have hlt:i<3:=by simp at hlt;omega
  have hfit:(0+i*3+i*1+[Value.int .i64 4294967296].length).ble (gl i).length=true:=by rw[Nat.ble_eq];show 0+i*3+i*1+1≤9;omega
  have hsm:bP (gl i) (0+i*3+i*1) [.int .i64 4294967296]=gl (i+1):=by
   rcases i with _|_|_|i
   ·rfl
   ·rfl
   ·rfl
   ·omega
  refine go 13 ?_;refine al (j:=i) (ho:=rfl) (hlt:=hlt) (h:=?_);refine al (j:=i) (ho:=rfl) (hlt:=hlt) (h:=?_);refine RL.store KS25.h rfl rfl rfl rfl rfl rfl rfl rfl hfit uE ?_;refine go 4 ?_;refine ap rfl (ad (by omega) (by omega)) ?_;refine go 2 ?_;refine NQ.round (g:=i) (i+1) hlt (by show 3-(i+1)<3-i;omega) (.cons rfl (.cons rfl (.cons rfl .nil))) (fun w h=>?_);rw[←hsm];exact h.rea (fun _ h=>h) rE
 ·have hin:i=3:=by simp at hlt;omega
  subst hin;refine go 12 ?_;exact RQ.post (cU rfl rfl KA273.h KS273.h mQ rfl) (aa _) ⟨rfl,rfl,rfl⟩
theorem att_any:Spc Tryz.prog 175 #[] [] [] (Is (.agg #[.int .i64 4294967296,.int .i64 0,.int .i64 0,.int .i64 0,.int .i64 4294967296,.int .i64 0,.int .i64 0,.int .i64 0,.int .i64 4294967296,.int .i64 0])):=by refine Spc.enter Tryz.func175 (h:=?_);refine fun w0 hw0=>?_;refine go 7 ?_;intro b1;refine ab (same_any') (h:=?_);refine go 5 ?_;exact RQ.post (cU rfl rfl KA275.h KS275.h mQ rfl) (aa _) ⟨rfl,rfl,rfl⟩
theorem nav_any(g0 g1 g2 dr:Int)(oa:Option Nat)(ca n:Nat)(L:List Ad)(hn:L.length=n)(hl:n≤1000000):Spc Tryz.prog 100 #[.agg #[.int .i64 g0,.int .i64 g1,.int .i64 g2,.int .i64 dr,aE oa n ca]] [sls (oa.map fun b=>⟨b,0,none⟩) 7 n (L.flatMap Ad.cells)] [] (ErP (iu (0≤dr∧L.length≤8∧adsB L=true))):=by
 subst hn;refine Spc.enter Tryz.func100 (h:=?_);refine fun w0 hw0=>?_;refine go 9 ?_;intro b1;refine bv rfl ?_;simp only[List.cons_append,List.nil_append];generalize hJ:([cel b1 [.int .i64 g0,.int .i64 g1,.int .i64 g2,.int .i64 dr,aE oa L.length ca] 237,sls (oa.map fun b=>⟨b,0,none⟩) 7 L.length (L.flatMap Ad.cells)]:List It)=J;have m1:cel b1 [.int .i64 g0,.int .i64 g1,.int .i64 g2,.int .i64 dr,aE oa L.length ca] 237∈J:=by rw[←hJ];exact mQ
 have m2:sls (oa.map fun b=>⟨b,0,none⟩) 7 L.length (L.flatMap Ad.cells)∈J:=by rw[←hJ];exact mQ
 clear hJ
 have fG:RdsN J ⟨b1,0+0,none⟩ 3 [.int .i64 g0,.int .i64 g1,.int .i64 g2]:=aV m1 (fun j u hj=>by
  match j,hj with
  | 0,hj=>exact hj
  | 1,hj=>exact hj
  | 2,hj=>exact hj
  | j+3,hj=>simp at hj) rfl
 have fD:RdI J ⟨b1,0+3,none⟩ (.int .i64 dr):=⟨fun _=>Rd.celI m1 rfl⟩;have fS:RdI J ⟨b1,0+4,none⟩ (aE oa L.length ca):=⟨fun _=>Rd.celI m1 rfl⟩;refine go 5 ?_;apply au (d:=11) (dp:=16) (l':=(Sq.of [])) rfl (sK [1,2,3] rfl)
 ·intro hb4 K4;refine go 5 ?_;exact K4 _ (.cons rfl (sK [1,2,3] rfl))
 ·intro hb4 K4;refine go 5 ?_;exact K4 _ (.cons rfl (sK [1,2,3] rfl))
 refine go 2 ?_;refine CW.cond rfl (fun h1=>?_) (fun h1=>?_)
 ·refine go 8 ?_;exact RQ.post (bb rfl rfl rfl) (aa _) ⟨_,by rw[b0 (by simp at h1;omega)],rfl,rfl⟩
 ·refine go 3 ?_;refine ae (Sq.of [0,1,2,3,4,5,6,7,8]) [5,7] [] [0,1,2,3,4,6,8] (h:=?_);refine go 4 ?_;refine cr (att_any) (h:=?_);refine RL.makeMap (good:=aF) (h:=?_);refine fun mp=>?_;refine go 20 ?_;intro b2;have h1:0≤dr∧L.length≤8:=by simp at h1;omega
  refine aB (A:=[_]) (B:=[aN mp aF []]) (h:=?_);refine aW (fun J2 hJ2=>?_);have hJ12:∀x∈J,x∈J2:=fun x hx=>hJ2 x (by simp[hx]);have mN:=hJ2 _ (List.Mem.head _);have m3:=hJ12 _ m2;clear hJ2;have fM:RdI J2 ⟨b2,0+20,none⟩ (.map (some mp)):=⟨fun _=>Rd.celI mN rfl⟩;clear fG fD fS m1 m2;refine CW.loop (γ:=Nat×List (Value×Value)) (fun g=>g.1≤L.length∧(∀j<g.1,stepA L j=true)) (fun g=>[(4,.pointer (some ⟨b2,0,none⟩)),(5,.int .i64 (wasA L g.1)),(26,aE oa L.length ca),(27,.int .i64 (L.length:Int)),(28,.int .i64 (g.1:Int))]) (fun _=>J2) (fun g=>[aN mp aF g.2]) (fun g=>L.length-g.1) (0,[]) ⟨Nat.zero_le _,fun j h=>by omega⟩ (.cons rfl (.cons rfl (.cons rfl (.cons rfl (.cons rfl .nil))))) wE ?_;rintro⟨i,c⟩ ⟨hi,hok⟩;dsimp only at hi hok ⊢;refine aR (p:=oa=none→L.length=0) (fun w hC e=>bf (hC.s.i _ m3) (by rw[e];rfl)) (fun hpa=>?_);refine go 6 ?_;refine CW.cond rfl (fun hlt=>?_) (fun hlt=>?_)
  ·have hlt:i<L.length:=by simp at hlt;omega
   cases oa with
   | none=>exact absurd (hpa rfl) (by omega)
   | some ba=>
   have hx:=List.getElem?_eq_getElem hlt;generalize L[i]=a at hx;have fA:RdsN J2 ⟨ba,0+i*7,none⟩ 7 [.int .i64 a.src,.int .i64 a.kd,.int .i64 a.w,.int .i64 a.g,.int .i64 a.st,.int .i64 a.lm,.int .i64 a.hz]:=dK (f:=Ad.cells) m3 hx (fun _ _=>rfl);refine go 6 ?_;refine aP (j:=i) (ho:=rfl) (hlt:=hlt) (h:=go 9 ?_);intro b3;refine ab (aright_any a) (h:=?_);refine go 2 ?_;apply au (d:=35) (dp:=40) (l':=(Sq.of [])) rfl (sK [4,5,7,26,27,28] rfl)
   ·intro hb4 K4;refine go 5 ?_;exact K4 _ (.cons rfl (sK [4,5,7,26,27,28] rfl))
   ·intro hb4 K4;refine go 5 ?_;exact K4 _ (.cons rfl (sK [4,5,7,26,27,28] rfl))
   refine go 2 ?_;refine CW.cond rfl (fun h2=>?_) (fun h2=>?_)
   ·refine go 13 ?_
    have hno: ¬(0≤dr∧L.length≤8∧adsB L=true):=by
     rintro⟨-,-,h3⟩;have h4:=adsB_iff.1 h3 i;rw[stepA_at hx] at h4;simp at h2 h4;rcases h2 with h2|h2
     ·rw[h4.1] at h2;cases h2
     ·omega
    exact RQ.post (bb rfl rfl rfl) (aa _) ⟨_,by rw[b0 hno],rfl,rfl⟩
   ·have h2:a.ok=true∧wasA L i<a.src:=by simpa using h2
    have hs:stepA L i=true:=by rw[stepA_at hx];simp[h2]
    have hw:=wasA_at hx;refine go 2 ?_;refine CW.cutN (γ:=Unit×List (Value×Value)) (fun _=>True) (fun g=>[(4,.pointer (some ⟨b2,0,none⟩)),(5,.int .i64 a.src),(26,aE (some ba) L.length ca),(27,.int .i64 (L.length:Int)),(28,.int .i64 (i:Int))]) (fun _=>J2) (fun g=>[aN mp aF g.2]) ?_ ?_
    ·refine ae (.cons 0 (.cons 1 (.cons 2 (.cons 3 (.cons 4 (.cons 5 (.cons 9 (.fork [6,10,11] (fun k=>(bif Nat.beq k 6 then(.cons 7 (.fork [8,10,11] (fun k=>(bif Nat.beq k 8 then(.fork [10,11] (fun k=>(bif Nat.beq k 10 then(Sq.of [11,12,13,14]) else(.cons 12 (.fork [10,13] (fun k=>(bif Nat.beq k 10 then(Sq.of [13,14]) else(Sq.of [10,14])))))))) else(bif Nat.beq k 10 then(.fork [8,11] (fun k=>(bif Nat.beq k 8 then(Sq.of [11,12,13,14]) else(Sq.of [12,8,13,14])))) else(.cons 12 (.fork [8,10] (fun k=>(bif Nat.beq k 8 then(.fork [10,13] (fun k=>(bif Nat.beq k 10 then(Sq.of [13,14]) else(Sq.of [10,14])))) else(Sq.of [8,13,14])))))))))) else(bif Nat.beq k 10 then(.fork [6,11] (fun k=>(bif Nat.beq k 6 then(.cons 7 (.fork [8,11] (fun k=>(bif Nat.beq k 8 then(Sq.of [11,12,13,14]) else(Sq.of [12,8,13,14]))))) else(Sq.of [6,7,12,8,13,14])))) else(.cons 6 (.cons 7 (.cons 12 (.fork [8,10] (fun k=>(bif Nat.beq k 8 then(.fork [10,13] (fun k=>(bif Nat.beq k 10 then(Sq.of [13,14]) else(Sq.of [10,14])))) else(Sq.of [8,13,14])))))))))))))))))) [8,11,13] [11,13] [0,1,2,3,4,7,9,12,14] (h:=?_);refine go 7 ?_;refine RL.fork ⟨?_,?_,?_,trivial⟩
     ·refine go 2 ?_;refine RL.fork ⟨?_,?_,?_,trivial⟩
      ·refine go 1 ?_;intro b4;refine RL.fork ⟨?_,?_,trivial⟩
       ·refine go 1 ?_;refine RL.mapEntry (key:=.int .i64 a.src) keyI KU276.h KZ279.h rfl rfl rfl rfl rfl rfl rfl ⟨a.src,rfl⟩ mQ (fun st=>⟨_,uE,?_⟩);refine go 1 ?_;refine RL.entryStore (h:=?_);refine go 2 ?_;exact aJ ((),_) trivial (.cons rfl (.cons rfl (.cons rfl (.cons rfl (.cons rfl .nil))))) wE
       ·refine RL.mapEntry (key:=.int .i64 a.src) keyI KU276.h KZ279.h rfl rfl rfl rfl rfl rfl rfl ⟨a.src,rfl⟩ mQ (fun st=>⟨_,uE,?_⟩);refine go 1 ?_;refine RL.fork ⟨?_,?_,trivial⟩
        ·refine go 1 ?_;refine RL.entryStore (h:=?_);refine go 2 ?_;exact aJ ((),_) trivial (.cons rfl (.cons rfl (.cons rfl (.cons rfl (.cons rfl .nil))))) wE
        ·refine RL.entryStore (h:=?_);refine go 3 ?_;exact aJ ((),_) trivial (.cons rfl (.cons rfl (.cons rfl (.cons rfl (.cons rfl .nil))))) wE
      ·refine go 1 ?_;refine RL.fork ⟨?_,?_,trivial⟩
       ·refine go 1 ?_;intro b4;refine RL.mapEntry (key:=.int .i64 a.src) keyI KU276.h KZ279.h rfl rfl rfl rfl rfl rfl rfl ⟨a.src,rfl⟩ mQ (fun st=>⟨_,uE,?_⟩);refine go 1 ?_;refine RL.entryStore (h:=?_);refine go 2 ?_;exact aJ ((),_) trivial (.cons rfl (.cons rfl (.cons rfl (.cons rfl (.cons rfl .nil))))) wE
       ·refine RL.mapEntry (key:=.int .i64 a.src) keyI KU276.h KZ279.h rfl rfl rfl rfl rfl rfl rfl ⟨a.src,rfl⟩ mQ (fun st=>⟨_,uE,?_⟩);refine go 2 ?_;intro b4;refine RL.entryStore (h:=?_);refine go 2 ?_;exact aJ ((),_) trivial (.cons rfl (.cons rfl (.cons rfl (.cons rfl (.cons rfl .nil))))) wE
      ·refine RL.mapEntry (key:=.int .i64 a.src) keyI KU276.h KZ279.h rfl rfl rfl rfl rfl rfl rfl ⟨a.src,rfl⟩ mQ (fun st=>⟨_,uE,?_⟩);refine go 1 ?_;refine RL.fork ⟨?_,?_,trivial⟩
       ·refine go 1 ?_;intro b4;refine RL.fork ⟨?_,?_,trivial⟩
        ·refine go 1 ?_;refine RL.entryStore (h:=?_);refine go 2 ?_;exact aJ ((),_) trivial (.cons rfl (.cons rfl (.cons rfl (.cons rfl (.cons rfl .nil))))) wE
        ·refine RL.entryStore (h:=?_);refine go 3 ?_;exact aJ ((),_) trivial (.cons rfl (.cons rfl (.cons rfl (.cons rfl (.cons rfl .nil))))) wE
       ·refine go 2 ?_;intro b4;refine RL.entryStore (h:=?_);refine go 2 ?_;exact aJ ((),_) trivial (.cons rfl (.cons rfl (.cons rfl (.cons rfl (.cons rfl .nil))))) wE
     ·refine go 1 ?_;refine RL.fork ⟨?_,?_,trivial⟩
      ·refine go 2 ?_;refine RL.fork ⟨?_,?_,trivial⟩
       ·refine go 1 ?_;intro b4;refine RL.mapEntry (key:=.int .i64 a.src) keyI KU276.h KZ279.h rfl rfl rfl rfl rfl rfl rfl ⟨a.src,rfl⟩ mQ (fun st=>⟨_,uE,?_⟩);refine go 1 ?_;refine RL.entryStore (h:=?_);refine go 2 ?_;exact aJ ((),_) trivial (.cons rfl (.cons rfl (.cons rfl (.cons rfl (.cons rfl .nil))))) wE
       ·refine RL.mapEntry (key:=.int .i64 a.src) keyI KU276.h KZ279.h rfl rfl rfl rfl rfl rfl rfl ⟨a.src,rfl⟩ mQ (fun st=>⟨_,uE,?_⟩);refine go 2 ?_;intro b4;refine RL.entryStore (h:=?_);refine go 2 ?_;exact aJ ((),_) trivial (.cons rfl (.cons rfl (.cons rfl (.cons rfl (.cons rfl .nil))))) wE
      ·refine RL.mapEntry (key:=.int .i64 a.src) keyI KU276.h KZ279.h rfl rfl rfl rfl rfl rfl rfl ⟨a.src,rfl⟩ mQ (fun st=>⟨_,uE,?_⟩);refine go 4 ?_;intro b4;refine RL.entryStore (h:=?_);refine go 2 ?_;exact aJ ((),_) trivial (.cons rfl (.cons rfl (.cons rfl (.cons rfl (.cons rfl .nil))))) wE
     ·refine RL.mapEntry (key:=.int .i64 a.src) keyI KU276.h KZ279.h rfl rfl rfl rfl rfl rfl rfl ⟨a.src,rfl⟩ mQ (fun st=>⟨_,uE,?_⟩);refine go 3 ?_;refine RL.fork ⟨?_,?_,trivial⟩
      ·refine go 1 ?_;intro b4;refine RL.fork ⟨?_,?_,trivial⟩
       ·refine go 1 ?_;refine RL.entryStore (h:=?_);refine go 2 ?_;exact aJ ((),_) trivial (.cons rfl (.cons rfl (.cons rfl (.cons rfl (.cons rfl .nil))))) wE
       ·refine RL.entryStore (h:=?_);refine go 3 ?_;exact aJ ((),_) trivial (.cons rfl (.cons rfl (.cons rfl (.cons rfl (.cons rfl .nil))))) wE
      ·refine go 2 ?_;intro b4;refine RL.entryStore (h:=?_);refine go 2 ?_;exact aJ ((),_) trivial (.cons rfl (.cons rfl (.cons rfl (.cons rfl (.cons rfl .nil))))) wE
    rintro⟨⟨⟩,c2⟩ -;dsimp only;refine go 3 ?_;refine ap rfl (ad (by omega) (by omega)) ?_;refine go 2 ?_;refine NQ.round (g:=(i,c)) (i+1,c2) ⟨hlt,fun j hj=>?_⟩ (by show L.length-(i+1)<L.length-i;omega) (.cons rfl (.cons (by rw[hw];rfl) (.cons rfl (.cons rfl (.cons rfl .nil))))) wE;rcases Nat.lt_succ_iff_lt_or_eq.1 hj with hj|rfl
    ·exact hok j hj
    ·exact hs
  ·have hin:i=L.length:=by simp at hlt;omega
   refine go 13 ?_
   have hyes:0≤dr∧L.length≤8∧adsB L=true:=by
    refine⟨h1.1,h1.2,adsB_iff.2 fun j=>?_⟩;by_cases hj:j<L.length
    ·exact hok j (by omega)
    ·rw[stepA,List.getElem?_eq_none (by omega)]
   exact RQ.post (bb rfl rfl rfl) (aa _) ⟨_,by rw[bh hyes],rfl,rfl⟩
theorem wasA_prev{L:List Ad}{i:Nat}{q:Ad}(h:L[i-1]?=some q)(hi:0<i):wasA L i=q.src:=by obtain⟨j,rfl⟩:∃j,i=j+1:=⟨i-1,by omega⟩;exact wasA_at h
theorem rnav_any(g0 g1 g2 dr:Int)(oa:Option Nat)(ca n:Nat)(L:List Ad)(hn:L.length=n)(hl:n≤1000000):Spc Tryz.prog 121 #[.agg #[.int .i64 g0,.int .i64 g1,.int .i64 g2,.int .i64 dr,aE oa n ca]] [sls (oa.map fun b=>⟨b,0,none⟩) 7 n (L.flatMap Ad.cells)] [] (Is (.int .i64 (iu (0≤dr∧L.length≤8∧adsB L=true)))):=by
 subst hn;refine Spc.enter Tryz.func121 (h:=?_);refine fun w0 hw0=>?_;refine go 8 ?_;intro b1;refine bv rfl ?_;simp only[List.cons_append,List.nil_append];generalize hJ:([cel b1 [.int .i64 g0,.int .i64 g1,.int .i64 g2,.int .i64 dr,aE oa L.length ca] 262,sls (oa.map fun b=>⟨b,0,none⟩) 7 L.length (L.flatMap Ad.cells)]:List It)=J;have m1:cel b1 [.int .i64 g0,.int .i64 g1,.int .i64 g2,.int .i64 dr,aE oa L.length ca] 262∈J:=by rw[←hJ];exact mQ
 have m2:sls (oa.map fun b=>⟨b,0,none⟩) 7 L.length (L.flatMap Ad.cells)∈J:=by rw[←hJ];exact mQ
 clear hJ
 have fG:RdsN J ⟨b1,0+0,none⟩ 3 [.int .i64 g0,.int .i64 g1,.int .i64 g2]:=aV m1 (fun j u hj=>by
  match j,hj with
  | 0,hj=>exact hj
  | 1,hj=>exact hj
  | 2,hj=>exact hj
  | j+3,hj=>simp at hj) rfl
 have fD:RdI J ⟨b1,0+3,none⟩ (.int .i64 dr):=⟨fun _=>Rd.celI m1 rfl⟩;have fS:RdI J ⟨b1,0+4,none⟩ (aE oa L.length ca):=⟨fun _=>Rd.celI m1 rfl⟩;refine go 5 ?_;apply au (d:=8) (dp:=13) (l':=(Sq.of [])) rfl (sK [1,2] rfl)
 ·intro hb4 K4;refine go 5 ?_;exact K4 _ (.cons rfl (sK [1,2] rfl))
 ·intro hb4 K4;refine go 5 ?_;exact K4 _ (.cons rfl (sK [1,2] rfl))
 refine go 2 ?_;refine CW.cond rfl (fun h1=>?_) (fun h1=>?_)
 ·refine go 7 ?_;exact RQ.post (az rfl rfl) (aa _) ⟨by rw[b0 (by simp at h1;omega)],rfl,rfl⟩
 ·refine go 9 ?_;have h1:0≤dr∧L.length≤8:=by simp at h1;omega
  refine CW.loop (γ:=Nat) (fun i=>i≤L.length∧(∀j<i,stepA L j=true)) (fun i=>[(1,.pointer (some ⟨b1,0,none⟩)),(3,.int .i64 (i:Int))]) (fun _=>J) (fun _=>[]) (fun i=>L.length-i) 0 ⟨Nat.zero_le _,fun j h=>by omega⟩ (.cons rfl (.cons rfl .nil)) wE ?_;rintro i ⟨hi,hok⟩;refine aR (p:=oa=none→L.length=0) (fun w hC e=>bf (hC.s.i _ m2) (by rw[e];rfl)) (fun hpa=>?_);refine go 10 ?_;refine CW.cond rfl (fun hlt=>?_) (fun hlt=>?_)
  ·have hlt:i<L.length:=by simp at hlt;omega
   cases oa with
   | none=>exact absurd (hpa rfl) (by omega)
   | some ba=>
   have hx:=List.getElem?_eq_getElem hlt;generalize L[i]=a at hx;have hlp:i-1<L.length:=by omega
   have hp:=List.getElem?_eq_getElem hlp;generalize L[i-1]=q at hp;have fA:RdsN J ⟨ba,0+i*7,none⟩ 7 [.int .i64 a.src,.int .i64 a.kd,.int .i64 a.w,.int .i64 a.g,.int .i64 a.st,.int .i64 a.lm,.int .i64 a.hz]:=dK (f:=Ad.cells) m2 hx (fun _ _=>rfl);have fP:RdI J ⟨ba,0+(i-1)*7+0,none⟩ (.int .i64 q.src):=gQ (f:=Ad.cells) m2 hp (fun _ _=>rfl) rfl;refine go 9 ?_;refine aP (j:=i) (ho:=rfl) (hlt:=hlt) (h:=go 6 ?_);intro b2;refine aB (A:=[_]) (B:=[]) (.take .nil) rfl ?_;refine aW (fun J2 hJ=>?_);have hJ2:∀x∈J,x∈J2:=fun x hx=>hJ x (by simp[hx]);have m3:=hJ2 _ m2;have mA:cel b2 a.cells 382∈J2:=hJ _ (List.Mem.head _);have fS2:RdI J2 ⟨b1,0+4,none⟩ (aE (some ba) L.length ca):=⟨fun _=>Rd.celI (hJ2 _ m1) rfl⟩;have fP2:RdI J2 ⟨ba,0+(i-1)*7+0,none⟩ (.int .i64 q.src):=gQ (f:=Ad.cells) m3 hp (fun _ _=>rfl) rfl;have f0:RdI J2 ⟨b2,0+0,none⟩ (.int .i64 a.src):=⟨fun _=>Rd.celI mA rfl⟩;have f1:RdI J2 ⟨b2,0+1,none⟩ (.int .i64 a.kd):=⟨fun _=>Rd.celI mA rfl⟩;have f2:RdI J2 ⟨b2,0+2,none⟩ (.int .i64 a.w):=⟨fun _=>Rd.celI mA rfl⟩
   have f3:RdsN J2 ⟨b2,0+3,none⟩ 4 [.int .i64 a.g,.int .i64 a.st,.int .i64 a.lm,.int .i64 a.hz]:=aV mA (fun j u hj=>by
    match j,hj with
    | 0,hj=>exact hj
    | 1,hj=>exact hj
    | 2,hj=>exact hj
    | 3,hj=>exact hj
    | j+4,hj=>simp at hj) rfl
   clear fA fP fS hJ;refine ae (Sq.of [0,1,2,3,4,5,6,7,8,9,10,11,12,13,14,15,16,17,18,19,20,21,22,23,24,25,26,27,28,29,30,31,32,33,34,35,36,37,38,39,40,41,42,43,44,45,46,47,48,49]) [] [] [0,1,2,3,4,5,6,7,8,9,10,11,12,13,14,15,16,17,18,19,20,21,22,23,24,25,26,27,28,29,30,31,32,33,34,35,36,37,38,39,40,41,42,43,44,45,46,47,48,49] (h:=?_);refine go 4 ?_;apply au (d:=29) (dp:=33) (l':=(Sq.of [8,9,10,11,12,13,14,15,16,17,18,19,20,21,22,23,24,25,26,27,28,29,30,31,32,33,34,35,36,37,38,39,40,41,42,43,44,45,46,47,48,49])) rfl (sK [1,3,4] rfl)
   ·intro hb4 K4;refine go 4 ?_;exact K4 _ (.cons rfl (sK [1,3,4] rfl))
   ·intro hb4 K4;refine go 4 ?_;exact K4 _ (.cons rfl (sK [1,3,4] rfl))
   refine go 1 ?_;apply au (d:=34) (dp:=49) (l':=(Sq.of [24,25,26,27,28,29,30,31,32,33,34,35,36,37,38,39,40,41,42,43,44,45,46,47,48,49])) rfl (sK [1,3,4] rfl)
   ·intro hb9 K9;refine go 3 ?_;apply aL (d:=37) (dp:=48) (l':=(Sq.of [23,24,25,26,27,28,29,30,31,32,33,34,35,36,37,38,39,40,41,42,43,44,45,46,47,48,49])) rfl (sK [1,3,4,34] rfl)
    ·intro hb12 K12;refine go 5 ?_;refine ap rfl (ad (by omega) (by omega)) ?_;refine av (d:=43) (v':=.int .i64 ((i-1:Nat):Int)) rfl (by have h0:=of_decide_eq_true ‹decide ((i:Int)>0)=true›;congr 1;omega) ?_;refine aP (j:=i-1) (ho:=rfl) (hlt:=hlp) (h:=go 4 ?_);exact K12 _ (.cons rfl (sK [1,3,4,34] rfl))
    ·intro hb12 K12;refine go 11 ?_;exact K12 _ (.cons rfl (sK [1,3,4,34] rfl))
    refine go 1 ?_;exact K9 _ (.cons rfl (sK [1,3,4] rfl))
   ·intro hb9 K9;refine go 15 ?_;exact K9 _ (.cons rfl (sK [1,3,4] rfl))
   refine go 1 ?_;apply au (d:=50) (dp:=54) (l':=(Sq.of [29,30,31,32,33,34,35,36,37,38,39,40,41,42,43,44,45,46,47,48,49])) rfl (sK [1,3,4] rfl)
   ·intro hb25 K25;refine go 4 ?_;exact K25 _ (.cons rfl (sK [1,3,4] rfl))
   ·intro hb25 K25;refine go 4 ?_;exact K25 _ (.cons rfl (sK [1,3,4] rfl))
   refine go 1 ?_;apply au (d:=55) (dp:=59) (l':=(Sq.of [34,35,36,37,38,39,40,41,42,43,44,45,46,47,48,49])) rfl (sK [1,3,4] rfl)
   ·intro hb30 K30;refine go 4 ?_;exact K30 _ (.cons rfl (sK [1,3,4] rfl))
   ·intro hb30 K30;refine go 4 ?_;exact K30 _ (.cons rfl (sK [1,3,4] rfl))
   refine go 1 ?_;apply au (d:=60) (dp:=64) (l':=(Sq.of [39,40,41,42,43,44,45,46,47,48,49])) rfl (sK [1,3,4] rfl)
   ·intro hb35 K35;refine go 4 ?_;exact K35 _ (.cons rfl (sK [1,3,4] rfl))
   ·intro hb35 K35;refine go 4 ?_;exact K35 _ (.cons rfl (sK [1,3,4] rfl))
   refine go 1 ?_;apply au (d:=65) (dp:=69) (l':=(Sq.of [44,45,46,47,48,49])) rfl (sK [1,3,4] rfl)
   ·intro hb40 K40;refine go 4 ?_;exact K40 _ (.cons rfl (sK [1,3,4] rfl))
   ·intro hb40 K40;refine go 4 ?_;exact K40 _ (.cons rfl (sK [1,3,4] rfl))
   refine go 1 ?_;apply au (d:=70) (dp:=75) (l':=(Sq.of [])) rfl (sK [1,3] rfl)
   ·intro hb45 K45;refine go 2 ?_;refine cr (rrule_any a.g a.st a.lm a.hz) (h:=?_);refine go 2 ?_;exact K45 _ (.cons rfl (sK [1,3] rfl))
   ·intro hb45 K45;refine go 5 ?_;exact K45 _ (.cons rfl (sK [1,3] rfl))
   refine go 2 ?_;refine CW.cond rfl (fun h2=>?_) (fun h2=>?_)
   ·refine go 11 ?_
    have hno: ¬(0≤dr∧L.length≤8∧adsB L=true):=by
     rintro⟨-,-,h3⟩;have h4:=adsB_iff.1 h3 i;rw[stepA_at hx] at h4;simp[Ad.ok] at h4;simp only[Bool.or_eq_true,Bool.and_eq_true,decide_eq_true_eq,bne_iff_ne,ne_eq,errI_0] at h2;by_cases hi0:0<i
     ·rw[wasA_prev hp hi0] at h4;omega
     ·omega
    exact RQ.post (az rfl rfl) (aa _) ⟨by rw[b0 hno],rfl,rfl⟩
   ·have hs:stepA L i=true:=by
     rw[stepA_at hx];simp only[Bool.or_eq_false_iff,Bool.and_eq_false_iff,decide_eq_false_iff_not,bne_eq_false_iff_eq,errI_0] at h2;simp[Ad.ok];refine⟨by omega,?_⟩;by_cases hi0:0<i
     ·rw[wasA_prev hp hi0];omega
     ·obtain rfl:i=0:=by omega
      rw[wasA];omega
    refine go 5 ?_;refine ap rfl (ad (by omega) (by omega)) ?_;refine go 2 ?_;refine NQ.round (g:=i) (i+1) ⟨hlt,fun j hj=>?_⟩ (by show L.length-(i+1)<L.length-i;omega) (.cons rfl (.cons rfl .nil)) (fun w h=>h.rea hJ2 rE);rcases Nat.lt_succ_iff_lt_or_eq.1 hj with hj|rfl
    ·exact hok j hj
    ·exact hs
  ·have hin:i=L.length:=by simp at hlt;omega
   refine go 11 ?_
   have hyes:0≤dr∧L.length≤8∧adsB L=true:=by
    refine⟨h1.1,h1.2,adsB_iff.2 fun j=>?_⟩;by_cases hj:j<L.length
    ·exact hok j (by omega)
    ·rw[stepA,List.getElem?_eq_none (by omega)]
   exact RQ.post (az rfl rfl) (aa _) ⟨by rw[bh hyes],rfl,rfl⟩
def adOf(s:Sr):Ad:=⟨s.id,s.kd,s.w,s.g,s.st,limS s,s.hz⟩
def b9(L:List Sr):List Ad:=(L.filter fun s=>aidB s.kd).map adOf
theorem adsOf_yes{L:List Sr}{i:Nat}{s:Sr}(h:L[i]?=some s)(hs:aidB s.kd=true):b9 (L.take (i+1))=b9 (L.take i)++[adOf s]:=by rw[b9,b9,List.take_add_one,h];simp[hs]
theorem adsOf_no{L:List Sr}{i:Nat}{s:Sr}(h:L[i]?=some s)(hs:aidB s.kd=false):b9 (L.take (i+1))=b9 (L.take i):=by rw[b9,b9,List.take_add_one,h];simp[hs]
theorem adsOf_len(L:List Sr):(b9 L).length≤L.length:=by rw[b9,List.length_map];exact List.length_filter_le _ _
structure Cf where
 g0:Int
 g1:Int
 g2:Int
 dr:Int
 sc:Sch
 cm:List B8
 mo:Int
 ti:Int
 gr:Int
 sd:Int
 L:List Sr
def Cf.tl(c:Cf):List Value:=[.int .i64 c.mo,.int .i64 c.ti,.int .i64 c.gr,.int .u64 c.sd]
def Cf.cells(c:Cf)(sl:Value):List Value:=sl:: .int .i64 c.g0:: .int .i64 c.g1:: .int .i64 c.g2:: .int .i64 c.dr:: .int .i64 c.sc.st:: .int .i64 c.sc.ln:: .int .i64 c.sc.lg:: .int .i64 c.sc.of::(bytes c.cm++c.tl)
theorem cj{c:Cf}(h:c.cm.length=32)(sl:Value):(c.cells sl).length=45:=by simp[Cf.cells,Cf.tl,h]
theorem cf_t{c:Cf}(h:c.cm.length=32)(sl:Value)(j:Nat):(c.cells sl)[0+41+j]?=c.tl[j]?:=by rw[Cf.cells,show 0+41+j=(32+j)+1+1+1+1+1+1+1+1+1 by omega];simp only[List.getElem?_cons_succ];rw[List.getElem?_append_right (by simp[h]),List.length_map,h,Nat.add_sub_cancel_left]
def NavR(U:TypeId)(c:Cf):Value→List It→List It→Prop:=fun v I' H'=>∃ob cap,v=.agg #[.int .i64 c.g0,.int .i64 c.g1,.int .i64 c.g2,.int .i64 c.dr,aE ob (b9 c.L).length cap]∧I'=[]∧H'=[own ob cap U 7 (b9 c.L).length ((b9 c.L).flatMap Ad.cells)]
theorem adf_snoc(l:List Ad)(a:Ad):(l++[a]).flatMap Ad.cells=l.flatMap Ad.cells++[.int .i64 a.src,.int .i64 a.kd,.int .i64 a.w,.int .i64 a.g,.int .i64 a.st,.int .i64 a.lm,.int .i64 a.hz]:=by simp[Ad.cells]
theorem ones_app:∀ {l m:List Value},dO l=true→dO m=true→dO (l++m)=true
 | [],_,_,h=>h
 | u::l,m,h,h2=>by
  simp only[dO,Bool.and_eq_true,List.cons_append] at h ⊢
  exact⟨h.1,ones_app h.2 h2⟩
theorem cw(s:Sr):dO s.cells=true:=by have h:dO (bytes s.rt++s.tl)=true:=ones_app (bC fh _) rfl;exact h
theorem snav_any(c:Cf)(oa:Option Nat)(ca n:Nat)(hn:c.L.length=n)(hc:c.cm.length=32)(hL:∀s∈c.L,s.Fit)(hl:n≤1000000):Spc Tryz.prog 101 #[.agg (c.cells (aE oa n ca)).toArray] [sls (oa.map fun b=>⟨b,0,none⟩) 48 n (c.L.flatMap Sr.cells)] [] (NavR 287 c):=by
 subst hn;have hLl:∀s∈c.L,s.cells.length=48:=fun s hs=>c7 (hL s hs).rt;refine Spc.enter Tryz.func101 (h:=?_);refine fun w0 hw0=>?_;refine go 7 ?_;intro b1 b2;refine aB (A:=[cel b1 (c.cells (aE oa c.L.length ca)) 34]) (B:=[cel b2 [.int .i64 0,.int .i64 0,.int .i64 0,.int .i64 0,.slice none 0 0] 237]) (h:=?_);simp only[List.cons_append,List.nil_append];generalize hJ:([cel b1 (c.cells (aE oa c.L.length ca)) 34,sls (oa.map fun b=>⟨b,0,none⟩) 48 c.L.length (c.L.flatMap Sr.cells)]:List It)=J;have m1:cel b1 (c.cells (aE oa c.L.length ca)) 34∈J:=by rw[←hJ];exact mQ
 have m2:sls (oa.map fun b=>⟨b,0,none⟩) 48 c.L.length (c.L.flatMap Sr.cells)∈J:=by rw[←hJ];exact mQ
 clear hJ;have fS:RdI J ⟨b1,0+0,none⟩ (aE oa c.L.length ca):=⟨fun _=>Rd.celI m1 rfl⟩
 have fG:RdsN J ⟨b1,0+1,none⟩ 3 [.int .i64 c.g0,.int .i64 c.g1,.int .i64 c.g2]:=aV m1 (fun j u hj=>by
  match j,hj with
  | 0,hj=>exact hj
  | 1,hj=>exact hj
  | 2,hj=>exact hj
  | j+3,hj=>simp at hj) rfl
 have fD:RdI J ⟨b1,0+4,none⟩ (.int .i64 c.dr):=⟨fun _=>Rd.celI m1 rfl⟩;refine go 20 ?_;intro b3;refine cZ (e:=287) 7 ?_;refine CW.loop (γ:=Nat×List Ad×Option Nat×Nat×Nat) (fun g=>g.1≤c.L.length∧g.2.1=b9 (c.L.take g.1)∧g.2.2.2.2=g.2.1.length) (fun g=>[(2,.pointer (some ⟨b2,0,none⟩)),(3,.pointer (some ⟨b3,0,none⟩)),(13,aE oa c.L.length ca),(14,.int .i64 (c.L.length:Int)),(15,.int .i64 (g.1:Int))]) (fun _=>J) (fun g=>[cel b2 [.int .i64 0,.int .i64 0,.int .i64 0,.int .i64 0,.slice none 0 0] 237,cel b3 [.int .i64 c.g0,.int .i64 c.g1,.int .i64 c.g2,.int .i64 c.dr,aE g.2.2.1 g.2.2.2.2 g.2.2.2.1] 237,own g.2.2.1 g.2.2.2.1 287 7 g.2.2.2.2 (g.2.1.flatMap Ad.cells)]) (fun g=>c.L.length-g.1) (0,[],none,0,0) ⟨Nat.zero_le _,rfl,rfl⟩ (.cons rfl (.cons rfl (.cons rfl (.cons rfl (.cons rfl .nil))))) wE ?_;rintro⟨i,acc,ob,cp,m⟩ ⟨hi,hac,hm⟩;dsimp only at hi hac hm ⊢;refine aR (p:=oa=none→c.L.length=0) (fun w hC e=>bf (hC.s.i _ m2) (by rw[e];rfl)) (fun hpa=>?_);have hmb:m≤1000000:=by rw[hm,hac];exact Nat.le_trans (adsOf_len _) (by rw[List.length_take];omega)
 refine go 6 ?_;refine CW.cond rfl (fun hlt=>?_) (fun hlt=>?_)
 ·have hlt:i<c.L.length:=by simp at hlt;omega
  cases oa with
  | none=>exact absurd (hpa rfl) (by omega)
  | some ba=>
  have hx:=List.getElem?_eq_getElem hlt;generalize c.L[i]=s at hx;have hs:=hL s (List.mem_of_getElem? hx);have hsl:=hLl s (List.mem_of_getElem? hx);have fA:RdsN J ⟨ba,0+i*48,none⟩ 48 s.cells:=dK (f:=Sr.cells) m2 hx hLl;refine go 6 ?_;refine aP (j:=i) (ho:=rfl) (hlt:=hlt) (h:=go 2 ?_);intro b4;refine an (ho:=rfl) (h1:=cw s) (hv:=hsl) (h:=?_);refine go 3 ?_;refine aB (A:=[cel b4 s.cells 167]) (B:=_) (h:=?_);refine aW (fun J2 hJ=>?_);have hJ2:∀x∈J,x∈J2:=fun x hx=>hJ x (by simp[hx]);have mA:cel b4 s.cells 167∈J2:=hJ _ (List.Mem.head _);clear hJ;have s0:RdI J2 ⟨b4,0+0,none⟩ (.int .i64 s.id):=⟨fun _=>Rd.celI mA rfl⟩;have s1:RdI J2 ⟨b4,0+1,none⟩ (.int .i64 s.kd):=⟨fun _=>Rd.celI mA rfl⟩;have s3:RdI J2 ⟨b4,0+34,none⟩ (.int .i64 s.w):=⟨fun _=>aD mA (iw hs.rt 0)⟩;have s4:RdI J2 ⟨b4,0+35,none⟩ (.int .i64 s.g):=⟨fun _=>aD mA (iw hs.rt 1)⟩;have s5:RdI J2 ⟨b4,0+36,none⟩ (.int .i64 s.st):=⟨fun _=>aD mA (iw hs.rt 2)⟩;have s6:RdI J2 ⟨b4,0+37,none⟩ (.int .i64 s.hz):=⟨fun _=>aD mA (iw hs.rt 3)⟩;have sA:RdsN J2 ⟨b4,0,none⟩ 48 s.cells:=⟨fun _=>Rds.allI mA,hsl⟩;refine go 2 ?_;refine ab (aid_any s) (h:=?_);refine go 2 ?_;refine CW.cond rfl (fun hk=>?_) (fun hk=>?_)
  ·refine go 1 ?_;refine ae (Sq.of [0,1,2,3,4,5,6,7,8,9,10]) [9,10] [10] [0,1,2,3,4,5,6,7,8] (h:=?_);refine go 5 ?_;refine cr (limit_any s hs) (h:=?_);refine go 18 ?_;intro b5;refine RL.buildSlice [_,_,_,_,_,_,_] (ho:=rfl) (h:=?_);intro b6;refine go 7 ?_;intro ob1 cap1 ho1;refine ap rfl (ad (by omega) (by omega)) ?_;refine go 2 ?_;refine NQ.round (g:=(i,acc,ob,cp,m)) (i+1,acc++[adOf s],ob1,cap1,m+1) ⟨hlt,by rw[hac];exact(adsOf_yes hx (by simpa using hk)).symm,by simp[hm]⟩ (by show c.L.length-(i+1)<c.L.length-i;omega) (.cons rfl (.cons rfl (.cons rfl (.cons rfl (.cons rfl .nil))))) (fun w h=>?_);refine h.rea (H':=[cel b2 [.int .i64 0,.int .i64 0,.int .i64 0,.int .i64 0,.slice none 0 0] 237,cel b3 [.int .i64 c.g0,.int .i64 c.g1,.int .i64 c.g2,.int .i64 c.dr,aE ob1 (m+1) cap1] 237,own ob1 cap1 287 7 (m+1) ((acc++[adOf s]).flatMap Ad.cells)]) hJ2 ?_;rw[adf_snoc];exact rE
  ·refine go 4 ?_;refine ap rfl (ad (by omega) (by omega)) ?_;refine go 2 ?_;refine NQ.round (g:=(i,acc,ob,cp,m)) (i+1,acc,ob,cp,m) ⟨hlt,by rw[hac];exact(adsOf_no hx (by simpa using hk)).symm,hm⟩ (by show c.L.length-(i+1)<c.L.length-i;omega) (.cons rfl (.cons rfl (.cons rfl (.cons rfl (.cons rfl .nil))))) (fun w h=>h.rea hJ2 rE)
 ·have hin:i=c.L.length:=by simp at hlt;omega
  subst hin;rw[List.take_length] at hac;subst hac;refine go 12 ?_;subst hm;refine RQ.rea (fun _ h=>h) (H':=[cel b2 [.int .i64 c.g0,.int .i64 c.g1,.int .i64 c.g2,.int .i64 c.dr,aE ob (b9 c.L).length cp] 237,own ob cp 287 7 (b9 c.L).length ((b9 c.L).flatMap Ad.cells)]) rE ?_;exact RQ.post (cU rfl rfl KA237.h KS237.h mQ rfl) (.drop (.keep .nil)) ⟨ob,cp,rfl,rfl,rfl⟩
theorem rsnav_any(c:Cf)(oa:Option Nat)(ca n:Nat)(hn:c.L.length=n)(hc:c.cm.length=32)(hL:∀s∈c.L,s.Fit)(hl:n≤1000000):Spc Tryz.prog 122 #[.agg (c.cells (aE oa n ca)).toArray] [sls (oa.map fun b=>⟨b,0,none⟩) 48 n (c.L.flatMap Sr.cells)] [] (NavR 382 c):=by
 subst hn;have hLl:∀s∈c.L,s.cells.length=48:=fun s hs=>c7 (hL s hs).rt;refine Spc.enter Tryz.func122 (h:=?_);refine fun w0 hw0=>?_;refine go 7 ?_;intro b1 b2;refine aB (A:=[cel b1 (c.cells (aE oa c.L.length ca)) 110]) (B:=[cel b2 [.int .i64 0,.int .i64 0,.int .i64 0,.int .i64 0,.slice none 0 0] 262]) (h:=?_);simp only[List.cons_append,List.nil_append];generalize hJ:([cel b1 (c.cells (aE oa c.L.length ca)) 110,sls (oa.map fun b=>⟨b,0,none⟩) 48 c.L.length (c.L.flatMap Sr.cells)]:List It)=J;have m1:cel b1 (c.cells (aE oa c.L.length ca)) 110∈J:=by rw[←hJ];exact mQ
 have m2:sls (oa.map fun b=>⟨b,0,none⟩) 48 c.L.length (c.L.flatMap Sr.cells)∈J:=by rw[←hJ];exact mQ
 clear hJ;have fS:RdI J ⟨b1,0+0,none⟩ (aE oa c.L.length ca):=⟨fun _=>Rd.celI m1 rfl⟩
 have fG:RdsN J ⟨b1,0+1,none⟩ 3 [.int .i64 c.g0,.int .i64 c.g1,.int .i64 c.g2]:=aV m1 (fun j u hj=>by
  match j,hj with
  | 0,hj=>exact hj
  | 1,hj=>exact hj
  | 2,hj=>exact hj
  | j+3,hj=>simp at hj) rfl
 have fD:RdI J ⟨b1,0+4,none⟩ (.int .i64 c.dr):=⟨fun _=>Rd.celI m1 rfl⟩;refine go 17 ?_;intro b3;refine cZ (e:=382) 7 ?_;refine CW.loop (γ:=Nat×List Ad×Option Nat×Nat×Nat) (fun g=>g.1≤c.L.length∧g.2.1=b9 (c.L.take g.1)∧g.2.2.2.2=g.2.1.length) (fun g=>[(2,.pointer (some ⟨b2,0,none⟩)),(3,.pointer (some ⟨b3,0,none⟩)),(1,.pointer (some ⟨b1,0,none⟩)),(4,.int .i64 (g.1:Int))]) (fun _=>J) (fun g=>[cel b2 [.int .i64 0,.int .i64 0,.int .i64 0,.int .i64 0,.slice none 0 0] 262,cel b3 [.int .i64 c.g0,.int .i64 c.g1,.int .i64 c.g2,.int .i64 c.dr,aE g.2.2.1 g.2.2.2.2 g.2.2.2.1] 262,own g.2.2.1 g.2.2.2.1 382 7 g.2.2.2.2 (g.2.1.flatMap Ad.cells)]) (fun g=>c.L.length-g.1) (0,[],none,0,0) ⟨Nat.zero_le _,rfl,rfl⟩ (.cons rfl (.cons rfl (.cons rfl (.cons rfl .nil)))) wE ?_;rintro⟨i,acc,ob,cp,m⟩ ⟨hi,hac,hm⟩;dsimp only at hi hac hm ⊢;refine aR (p:=oa=none→c.L.length=0) (fun w hC e=>bf (hC.s.i _ m2) (by rw[e];rfl)) (fun hpa=>?_);have hmb:m≤1000000:=by rw[hm,hac];exact Nat.le_trans (adsOf_len _) (by rw[List.length_take];omega)
 refine go 10 ?_;refine CW.cond rfl (fun hlt=>?_) (fun hlt=>?_)
 ·have hlt:i<c.L.length:=by simp at hlt;omega
  cases oa with
  | none=>exact absurd (hpa rfl) (by omega)
  | some ba=>
  have hx:=List.getElem?_eq_getElem hlt;generalize c.L[i]=s at hx;have hs:=hL s (List.mem_of_getElem? hx);have hsl:=hLl s (List.mem_of_getElem? hx);have fA:RdsN J ⟨ba,0+i*48,none⟩ 48 s.cells:=dK (f:=Sr.cells) m2 hx hLl;refine go 9 ?_;refine aP (j:=i) (ho:=rfl) (hlt:=hlt) (h:=go 2 ?_);intro b4;refine an (ho:=rfl) (h1:=cw s) (hv:=hsl) (h:=?_);refine go 3 ?_;refine aB (A:=[cel b4 s.cells 134]) (B:=_) (h:=?_);refine aW (fun J2 hJ=>?_);have hJ2:∀x∈J,x∈J2:=fun x hx=>hJ x (by simp[hx]);have mA:cel b4 s.cells 134∈J2:=hJ _ (List.Mem.head _);clear hJ;have s0:RdI J2 ⟨b4,0+0,none⟩ (.int .i64 s.id):=⟨fun _=>Rd.celI mA rfl⟩;have s1:RdI J2 ⟨b4,0+1,none⟩ (.int .i64 s.kd):=⟨fun _=>Rd.celI mA rfl⟩;have s3:RdI J2 ⟨b4,0+34,none⟩ (.int .i64 s.w):=⟨fun _=>aD mA (iw hs.rt 0)⟩;have s4:RdI J2 ⟨b4,0+35,none⟩ (.int .i64 s.g):=⟨fun _=>aD mA (iw hs.rt 1)⟩;have s5:RdI J2 ⟨b4,0+36,none⟩ (.int .i64 s.st):=⟨fun _=>aD mA (iw hs.rt 2)⟩;have s6:RdI J2 ⟨b4,0+37,none⟩ (.int .i64 s.hz):=⟨fun _=>aD mA (iw hs.rt 3)⟩;have sA:RdsN J2 ⟨b4,0,none⟩ 48 s.cells:=⟨fun _=>Rds.allI mA,hsl⟩;refine go 3 ?_;refine ab (raid_any s.kd) (h:=?_);refine go 2 ?_;refine CW.cond rfl (fun hk=>?_) (fun hk=>?_)
  ·refine ae (Sq.of [0,1,2,3,4,5,6,7,8,9,10,11,12,13,14,15,16,17,18,19,20,21]) [18,19,21] [19,21] [0,2,3,4,5,6,7,8,9,10,11,12,13,14,15,16,17,20] (h:=?_);refine go 13 ?_;refine cr (rlimit_any s hs) (h:=?_);refine go 4 ?_;refine RL.buildSlice [_,_,_,_,_,_,_] (ho:=rfl) (h:=?_);intro b5;refine go 8 ?_;intro ob1 cap1 ho1;refine ap rfl (ad (by omega) (by omega)) ?_;refine go 2 ?_;refine NQ.round (g:=(i,acc,ob,cp,m)) (i+1,acc++[adOf s],ob1,cap1,m+1) ⟨hlt,by rw[hac];exact(adsOf_yes hx (by simpa using hk)).symm,by simp[hm]⟩ (by show c.L.length-(i+1)<c.L.length-i;omega) (.cons rfl (.cons rfl (.cons rfl (.cons rfl .nil)))) (fun w h=>?_);refine h.rea (H':=[cel b2 [.int .i64 0,.int .i64 0,.int .i64 0,.int .i64 0,.slice none 0 0] 262,cel b3 [.int .i64 c.g0,.int .i64 c.g1,.int .i64 c.g2,.int .i64 c.dr,aE ob1 (m+1) cap1] 262,own ob1 cap1 382 7 (m+1) ((acc++[adOf s]).flatMap Ad.cells)]) hJ2 ?_;rw[adf_snoc];exact rE
  ·refine go 5 ?_;refine ap rfl (ad (by omega) (by omega)) ?_;refine go 2 ?_;refine NQ.round (g:=(i,acc,ob,cp,m)) (i+1,acc,ob,cp,m) ⟨hlt,by rw[hac];exact(adsOf_no hx (by simpa using hk)).symm,hm⟩ (by show c.L.length-(i+1)<c.L.length-i;omega) (.cons rfl (.cons rfl (.cons rfl (.cons rfl .nil)))) (fun w h=>h.rea hJ2 rE)
 ·have hin:i=c.L.length:=by simp at hlt;omega
  subst hin;rw[List.take_length] at hac;subst hac;refine go 12 ?_;subst hm;refine RQ.rea (fun _ h=>h) (H':=[cel b2 [.int .i64 c.g0,.int .i64 c.g1,.int .i64 c.g2,.int .i64 c.dr,aE ob (b9 c.L).length cp] 262,own ob cp 382 7 (b9 c.L).length ((b9 c.L).flatMap Ad.cells)]) rE ?_;exact RQ.post (cU rfl rfl KA262.h KS262.h mQ rfl) (.drop (.keep .nil)) ⟨ob,cp,rfl,rfl,rfl⟩
def cnt(k:Int)(L:List Sr):Int:=((L.countP fun s=>s.kd==k:Nat):Int)
theorem cnt_snoc{L:List Sr}{i:Nat}{s:Sr}(h:L[i]?=some s)(k:Int):cnt k (L.take (i+1))=cnt k (L.take i)+if s.kd=k then 1 else 0:=by rw[cnt,cnt,List.take_add_one,h,List.countP_append];by_cases hk:s.kd=k<;>simp[hk]
theorem cnt_bd(k:Int)(L:List Sr):0≤cnt k L∧cnt k L≤L.length:=by have:=List.countP_le_length (p:=fun s:Sr=>s.kd==k) (l:=L);unfold cnt;omega
def MpOk(c:List (Value×Value))(L:List Sr):Prop:=∀k:Int,(aO (.int .i64 k) c).getD (.int .i64 0)=.int .i64 (cnt k L)
theorem MpOk.nil(L:List Sr):MpOk [] (L.take 0):=fun k=>by simp[aO,cnt]
theorem MpOk.snoc{c:List (Value×Value)}{L:List Sr}{i:Nat}{s:Sr}(h:MpOk c (L.take i))(hx:L[i]?=some s):MpOk (cD (.int .i64 s.kd) (.int .i64 (cnt s.kd (L.take i)+1)) c) (L.take (i+1)):=fun k=>by
 rw[fd,cnt_snoc hx]
 by_cases hk:s.kd=k
 ·subst hk;simp
 ·rw[if_neg (by simpa using fun e=>hk e.symm),if_neg hk,Int.add_zero];exact h k
def wasS(L:List Sr):Nat→Int
 | 0=> -1
 | i+1=>match L[i]? with
  | some s=>s.id
  | none=>0
def stepS(L:List Sr)(j:Nat):Bool:=match L[j]? with
 | some s=>s.ok&&decide (wasS L j<s.id)
 | none=>true
def srsB(L:List Sr):Bool:=(List.range L.length).all (stepS L)
theorem srsB_iff{L:List Sr}:srsB L=true↔∀j,stepS L j=true:=by
 rw[srsB,List.all_eq_true];constructor
 ·intro h j;by_cases hj:j<L.length
  ·exact h j (List.mem_range.2 hj)
  ·rw[stepS,List.getElem?_eq_none (by omega)]
 ·exact fun h j _=>h j
theorem srsB_of{L:List Sr}(h:∀j<L.length,stepS L j=true):srsB L=true:=srsB_iff.2 fun j=>by
 by_cases hj:j<L.length
 ·exact h j hj
 ·rw[stepS,List.getElem?_eq_none (by omega)]
theorem gR{L:List Sr}{j:Nat}{s:Sr}(h:L[j]?=some s):stepS L j=(s.ok&&decide (wasS L j<s.id)):=by rw[stepS,h]
theorem wasS_prev{L:List Sr}{i:Nat}{q:Sr}(h:L[i-1]?=some q)(hi:0<i):wasS L i=q.id:=by obtain⟨j,rfl⟩:∃j,i=j+1:=⟨i-1,by omega⟩;rw[wasS,show L[j]?=some q from h]
theorem sok_id{s:Sr}(h:s.ok=true):0≤s.id∧s.id≤7:=by simp[Sr.ok] at h;exact h.1
def manyB(L:List Sr):Bool:=decide (cnt 1 L=1∧cnt 5 L≤1∧cnt 8 L≤1)
def srcB(L:List Sr):Bool:=srsB L&&decide (L.length≤8)&&manyB L
theorem srcs_any(oa:Option Nat)(ca n:Nat)(L:List Sr)(hn:L.length=n)(hL:∀s∈L,s.Fit)(hl:n≤1000000):Spc Tryz.prog 99 #[aE oa n ca] [sls (oa.map fun b=>⟨b,0,none⟩) 48 n (L.flatMap Sr.cells)] [] (Is (.bool (srcB L))):=by
 subst hn;have hLl:∀s∈L,s.cells.length=48:=fun s hs=>c7 (hL s hs).rt;refine Spc.enter Tryz.func99 (h:=?_);refine fun w0 hw0=>?_;refine go 7 ?_;refine RL.makeMap (good:=aF) (h:=?_);refine fun mp=>?_;refine go 12 ?_;refine aW (fun J hJ=>?_);have m2:sls (oa.map fun b=>⟨b,0,none⟩) 48 L.length (L.flatMap Sr.cells)∈J:=hJ _ (by simp);clear hJ;refine CW.loop (γ:=Nat×List (Value×Value)) (fun g=>g.1≤L.length∧(∀j<g.1,stepS L j=true)∧MpOk g.2 (L.take g.1)) (fun g=>[(0,aE oa L.length ca),(3,.map (some mp)),(7,aE oa L.length ca),(8,.int .i64 (L.length:Int)),(9,.int .i64 (g.1:Int))]) (fun _=>J) (fun g=>[aN mp aF g.2]) (fun g=>L.length-g.1) (0,[]) ⟨Nat.zero_le _,fun j h=>by omega,MpOk.nil L⟩ (.cons rfl (.cons rfl (.cons rfl (.cons rfl (.cons rfl .nil))))) wE ?_;rintro⟨i,c⟩ ⟨hi,hok,hmp⟩;dsimp only at hi hok hmp ⊢;refine aR (p:=oa=none→L.length=0) (fun w hC e=>bf (hC.s.i _ m2) (by rw[e];rfl)) (fun hpa=>?_);refine go 6 ?_;refine CW.cond rfl (fun hlt=>?_) (fun hlt=>?_)
 ·have hlt:i<L.length:=by simp at hlt;omega
  cases oa with
  | none=>exact absurd (hpa rfl) (by omega)
  | some ba=>
  have hx:=List.getElem?_eq_getElem hlt;generalize L[i]=s at hx;have hs:=hL s (List.mem_of_getElem? hx);have hsl:=hLl s (List.mem_of_getElem? hx);have hlp:i-1<L.length:=by omega
  have hp:=List.getElem?_eq_getElem hlp;generalize L[i-1]=q at hp;have fA:RdsN J ⟨ba,0+i*48,none⟩ 48 s.cells:=dK (f:=Sr.cells) m2 hx hLl;have hcb:=cnt_bd s.kd (L.take i);rw[List.length_take] at hcb;refine go 7 ?_;refine aP (j:=i) (ho:=rfl) (hlt:=hlt) (h:=go 3 ?_);intro b1;refine an (ho:=rfl) (h1:=cw s) (hv:=hsl) (h:=?_);refine go 4 ?_;refine aB (A:=[cel b1 s.cells 167]) (B:=[aN mp aF c]) (h:=?_);refine aW (fun J2 hJ=>?_);have hJ2:∀x∈J,x∈J2:=fun x hx=>hJ x (by simp[hx]);have mA:cel b1 s.cells 167∈J2:=hJ _ (List.Mem.head _);have s0:RdI J2 ⟨b1,0+0,none⟩ (.int .i64 s.id):=⟨fun _=>Rd.celI mA rfl⟩;have s1:RdI J2 ⟨b1,0+1,none⟩ (.int .i64 s.kd):=⟨fun _=>Rd.celI mA rfl⟩;have sA:RdsN J2 ⟨b1,0,none⟩ 48 s.cells:=⟨fun _=>Rds.allI mA,hsl⟩;have fP:RdI J2 ⟨ba,0+(i-1)*48+0,none⟩ (.int .i64 q.id):=gQ (f:=Sr.cells) (hJ2 _ m2) hp hLl rfl;clear fA hJ;refine ae (Sq.of [0,1,2,3,4,5,6,7,8,9,10,11,12,13,14,15,16,17]) [] [] [0,1,2,3,4,5,6,7,8,9,10,11,12,13,14,15,16,17] (h:=?_);refine go 1 ?_;refine cr (wright_any s hs) (h:=?_);refine go 2 ?_;apply au (d:=17) (dp:=31) (l':=(Sq.of [])) rfl (sK [0,3,5,7,8,9] rfl)
  ·intro hb4 K4;refine go 3 ?_;apply aL (d:=20) (dp:=30) (l':=(Sq.of [17])) rfl (sK [0,3,5,7,8,9,17] rfl)
   ·intro hb7 K7;refine go 4 ?_;refine ap rfl (ad (by omega) (by omega)) ?_;refine av (d:=25) (v':=.int .i64 ((i-1:Nat):Int)) rfl (by have h0:=of_decide_eq_true ‹decide ((i:Int)>0)=true›;congr 1;omega) ?_;refine aP (j:=i-1) (ho:=rfl) (hlt:=hlp) (h:=go 4 ?_);exact K7 _ (.cons rfl (sK [0,3,5,7,8,9,17] rfl))
   ·intro hb7 K7;refine go 10 ?_;exact K7 _ (.cons rfl (sK [0,3,5,7,8,9,17] rfl))
   refine go 1 ?_;exact K4 _ (.cons rfl (sK [0,3,5,7,8,9] rfl))
  ·intro hb4 K4;refine go 14 ?_;exact K4 _ (.cons rfl (sK [0,3,5,7,8,9] rfl))
  refine go 2 ?_;refine CW.cond rfl (fun h2=>?_) (fun h2=>?_)
  ·refine go 12 ?_
   have hno:srcB L=false:=by
    rw[Bool.eq_false_iff];intro h3;simp only[srcB,Bool.and_eq_true] at h3;have h4:=srsB_iff.1 h3.1.1 i;rw[gR hx] at h4;simp at h4 h2;rcases h2 with h2|h2
    ·rw[h4.1] at h2;cases h2
    ·by_cases hi0:0<i
     ·rw[wasS_prev hp hi0] at h4;omega
     ·omega
   exact RQ.post (az rfl rfl) (aa _) ⟨by rw[hno],rfl,rfl⟩
  ·have hst:stepS L i=true:=by
    rw[gR hx];simp at h2;simp[h2];have:=sok_id h2.1;by_cases hi0:0<i
    ·rw[wasS_prev hp hi0];omega
    ·obtain rfl:i=0:=by omega
     rw[wasS];omega
   have hlk:=hmp s.kd;refine go 6 ?_;refine RL.lookup (key:=.int .i64 s.kd) keyI (ho:=rfl) (hk:=⟨s.kd,rfl⟩) (hm:=MapAt.own mQ) (h:=?_);refine av (d:=35) rfl hlk ?_;refine ap rfl (ad (by omega) (by omega)) ?_;refine RL.mapUpdate keyI (ho:=rfl) (hk:=⟨s.kd,rfl⟩) (hup:=uE) (h:=?_);refine go 4 ?_;refine ap rfl (ad (by omega) (by omega)) ?_;refine go 2 ?_;refine NQ.round (g:=(i,c)) (i+1,_) ⟨hlt,fun j hj=>?_,hmp.snoc hx⟩ (by show L.length-(i+1)<L.length-i;omega) (.cons rfl (.cons rfl (.cons rfl (.cons rfl (.cons rfl .nil))))) (fun w h=>h.rea hJ2 rE);rcases Nat.lt_succ_iff_lt_or_eq.1 hj with hj|rfl
   ·exact hok j hj
   ·exact hst
 ·have hin:i=L.length:=by simp at hlt;omega
  subst hin;rw[List.take_length] at hmp;have h1:=hmp 1;have h5:=hmp 5;have h8:=hmp 8;refine go 11 ?_;apply aL (d:=41) (dp:=45) (l':=(Sq.of [8,9,10,11,12,13,14,15,16,17,18])) rfl (sK [3] rfl)
  ·intro hb4 K4;refine go 1 ?_;refine RL.lookup (key:=.int .i64 1) keyI (ho:=rfl) (hk:=⟨1,rfl⟩) (hm:=MapAt.own mQ) (h:=?_);refine av (d:=43) rfl h1 ?_;refine go 2 ?_;exact K4 _ (.cons rfl (sK [3] rfl))
  ·intro hb4 K4;refine go 4 ?_;exact K4 _ (.cons rfl (sK [3] rfl))
  refine go 1 ?_;apply aL (d:=46) (dp:=50) (l':=(Sq.of [13,14,15,16,17,18])) rfl (sK [3] rfl)
  ·intro hb9 K9;refine go 1 ?_;refine RL.lookup (key:=.int .i64 5) keyI (ho:=rfl) (hk:=⟨5,rfl⟩) (hm:=MapAt.own mQ) (h:=?_);refine av (d:=48) rfl h5 ?_;refine go 2 ?_;exact K9 _ (.cons rfl (sK [3] rfl))
  ·intro hb9 K9;refine go 4 ?_;exact K9 _ (.cons rfl (sK [3] rfl))
  refine go 1 ?_;apply aL (d:=51) (dp:=55) (l':=(Sq.of [18])) rfl .nil
  ·intro hb14 K14;refine go 1 ?_;refine RL.lookup (key:=.int .i64 8) keyI (ho:=rfl) (hk:=⟨8,rfl⟩) (hm:=MapAt.own mQ) (h:=?_);refine av (d:=53) rfl h8 ?_;refine go 2 ?_;exact K14 _ (.cons rfl .nil)
  ·intro hb14 K14;refine go 4 ?_;exact K14 _ (.cons rfl .nil)
  refine go 4 ?_;refine RQ.post (az rfl rfl) (aa _) ⟨?_,rfl,rfl⟩;congr 1;rw[srcB,srsB_of hok,manyB,Bool.eq_iff_iff];simp;omega
def Cf.ok(c:Cf):Bool:=decide (1≤c.mo∧c.mo≤1000∧1≤c.ti∧c.ti≤65535)&&decide (0≤c.gr∧c.gr≤65535)&&decide (c.sd≠0)&&decide (c.sc.Ok)&&srcB c.L&&decide (0≤c.dr∧(b9 c.L).length≤8∧adsB (b9 c.L)=true)
def Cf.err(c:Cf):Int:=if c.ok=true then 0 else 310
structure Cf.Fit(c:Cf):Prop where
 cm:c.cm.length=32
 L:∀s∈c.L,s.Fit
theorem sche_0{s:Sch}:s.e=0↔s.Ok:=by unfold Sch.e;split<;>simp_all
theorem ccheck_any(c:Cf)(oa:Option Nat)(ca n:Nat)(hn:c.L.length=n)(hc:c.Fit)(hl:n≤1000000):Spc Tryz.prog 51 #[.agg (c.cells (aE oa n ca)).toArray] [sls (oa.map fun b=>⟨b,0,none⟩) 48 n (c.L.flatMap Sr.cells)] [] (Is (.int .i64 c.err)):=by
 subst hn;have hal:=adsOf_len c.L;refine Spc.enter Tryz.func51 (h:=?_);refine fun w0 hw0=>?_;refine go 7 ?_;intro b1;refine aB (A:=[cel b1 (c.cells (aE oa c.L.length ca)) 34]) (B:=[]) (h:=?_);simp only[List.cons_append,List.nil_append];generalize hJ:([cel b1 (c.cells (aE oa c.L.length ca)) 34,sls (oa.map fun b=>⟨b,0,none⟩) 48 c.L.length (c.L.flatMap Sr.cells)]:List It)=J;have m1:cel b1 (c.cells (aE oa c.L.length ca)) 34∈J:=by rw[←hJ];exact mQ
 have m2:sls (oa.map fun b=>⟨b,0,none⟩) 48 c.L.length (c.L.flatMap Sr.cells)∈J:=by rw[←hJ];exact mQ
 clear hJ;have fS:RdI J ⟨b1,0+0,none⟩ (aE oa c.L.length ca):=⟨fun _=>Rd.celI m1 rfl⟩
 have fG:RdsN J ⟨b1,0+1,none⟩ 3 [.int .i64 c.g0,.int .i64 c.g1,.int .i64 c.g2]:=aV m1 (fun j u hj=>by
  match j,hj with
  | 0,hj=>exact hj
  | 1,hj=>exact hj
  | 2,hj=>exact hj
  | j+3,hj=>simp at hj) rfl
 have fD:RdI J ⟨b1,0+4,none⟩ (.int .i64 c.dr):=⟨fun _=>Rd.celI m1 rfl⟩;have fA:RdsN J ⟨b1,0,none⟩ 45 (c.cells (aE oa c.L.length ca)):=⟨fun _=>Rds.allI m1,cj hc.cm _⟩
 have fC:RdsN J ⟨b1,0+5,none⟩ 4 [.int .i64 c.sc.st,.int .i64 c.sc.ln,.int .i64 c.sc.lg,.int .i64 c.sc.of]:=aV m1 (fun j u hj=>by
  match j,hj with
  | 0,hj=>exact hj
  | 1,hj=>exact hj
  | 2,hj=>exact hj
  | 3,hj=>exact hj
  | j+4,hj=>simp at hj) rfl
 have f1:RdI J ⟨b1,0+41,none⟩ (.int .i64 c.mo):=⟨fun _=>aD m1 (cf_t hc.cm _ 0)⟩;have f2:RdI J ⟨b1,0+42,none⟩ (.int .i64 c.ti):=⟨fun _=>aD m1 (cf_t hc.cm _ 1)⟩;have f3:RdI J ⟨b1,0+43,none⟩ (.int .i64 c.gr):=⟨fun _=>aD m1 (cf_t hc.cm _ 2)⟩;have f4:RdI J ⟨b1,0+44,none⟩ (.int .u64 c.sd):=⟨fun _=>aD m1 (cf_t hc.cm _ 3)⟩;refine go 5 ?_;refine RL.call (lock_any c.mo c.ti) (hl:=.nil) (hb:=.inl rfl) (h:=?_);rintro _ _ _ ⟨p1,rfl,rfl,rfl⟩;refine go 13 ?_;apply au (d:=17) (dp:=21) (l':=(Sq.of [7,8,9,10,11,12,13,14,15,16,17,18,19,20,21,22,23,24,25,26,27,28])) rfl (sK [1] rfl)
 ·intro hb3 K3;refine go 4 ?_;exact K3 _ (.cons rfl (sK [1] rfl))
 ·intro hb3 K3;refine go 4 ?_;exact K3 _ (.cons rfl (sK [1] rfl))
 refine go 1 ?_;apply au (d:=22) (dp:=26) (l':=(Sq.of [12,13,14,15,16,17,18,19,20,21,22,23,24,25,26,27,28])) rfl (sK [1] rfl)
 ·intro hb8 K8;refine go 4 ?_;exact K8 _ (.cons rfl (sK [1] rfl))
 ·intro hb8 K8;refine go 4 ?_;exact K8 _ (.cons rfl (sK [1] rfl))
 refine go 1 ?_;apply au (d:=27) (dp:=31) (l':=(Sq.of [17,18,19,20,21,22,23,24,25,26,27,28])) rfl (sK [1] rfl)
 ·intro hb13 K13;refine go 4 ?_;exact K13 _ (.cons rfl (sK [1] rfl))
 ·intro hb13 K13;refine go 4 ?_;exact K13 _ (.cons rfl (sK [1] rfl))
 refine go 1 ?_;apply au (d:=32) (dp:=37) (l':=(Sq.of [23,24,25,26,27,28])) rfl (sK [1] rfl)
 ·intro hb18 K18;refine go 2 ?_;refine ab (scheck c.sc) (h:=?_);refine go 2 ?_;exact K18 _ (.cons rfl (sK [1] rfl))
 ·intro hb18 K18;refine go 5 ?_;exact K18 _ (.cons rfl (sK [1] rfl))
 refine go 1 ?_;apply au (d:=38) (dp:=43) (l':=(Sq.of [])) rfl (sK [1] rfl)
 ·intro hb24 K24;refine go 2 ?_;refine ar (srcs_any oa ca _ c.L rfl hc.L hl) (hl:=.inI m2 .nil) (h:=go 2 ?_);exact K24 _ (.cons rfl (sK [1] rfl))
 ·intro hb24 K24;refine go 5 ?_;exact K24 _ (.cons rfl (sK [1] rfl))
 refine go 2 ?_;refine CW.cond rfl (fun h1=>?_) (fun h1=>?_)
 ·refine go 7 ?_
  have hno:c.ok=false:=by
   simp only[Bool.or_eq_true,decide_eq_true_eq,bne_iff_ne,ne_eq,errI_0,sche_0,Bool.not_eq_true'] at h1;rw[Bool.eq_false_iff];intro h;simp only[Cf.ok,Bool.and_eq_true,decide_eq_true_eq] at h;obtain⟨⟨⟨⟨⟨a1,a2⟩,a3⟩,a4⟩,a5⟩,a6⟩:=h;rcases h1 with((((h1|h1)|h1)|h1)|h1)|h1
   ·exact h1 a1
   ·omega
   ·omega
   ·simp at h1;exact a3 h1
   ·exact h1 a4
   ·rw[a5] at h1;cases h1
  exact RQ.post (az rfl rfl) (aa _) ⟨by rw[Cf.err,hno];rfl,rfl,rfl⟩
 ·have h1':(1≤c.mo∧c.mo≤1000∧1≤c.ti∧c.ti≤65535)∧(0≤c.gr∧c.gr≤65535)∧c.sd≠0∧c.sc.Ok∧srcB c.L=true:=by simp only[Bool.or_eq_false_iff,decide_eq_false_iff_not,bne_eq_false_iff_eq,errI_0,sche_0,Bool.not_eq_false',beq_eq_false_iff_ne] at h1;obtain⟨⟨⟨⟨⟨a1,a2⟩,a3⟩,a4⟩,a5⟩,a6⟩:=h1;exact⟨a1,by omega,a4,a5,a6⟩
  have hok:c.ok=decide (0≤c.dr∧(b9 c.L).length≤8∧adsB (b9 c.L)=true):=by simp[Cf.ok,h1']
  refine go 6 ?_;refine RL.call (snav_any c oa ca _ rfl hc.cm hc.L hl) (hl:=.inI (by simpa using m2) .nil) (hb:=.inl rfl) (h:=?_);rintro _ _ _ ⟨oN,cN,rfl,rfl,rfl⟩;refine RL.call (nav_any c.g0 c.g1 c.g2 c.dr oN cN _ (b9 c.L) rfl (by omega)) Tryz.call100 rfl rfl rfl rfl rfl pE (.own mQ .nil) (.inl rfl) ?_;rintro _ _ _ ⟨p2,rfl,rfl,rfl⟩;refine go 13 ?_;refine CW.cond rfl (fun h2=>?_) (fun h2=>?_)
  ·refine go 7 ?_;have hno:c.ok=false:=by rw[hok,decide_eq_false_iff_not];intro e;rw[bh e] at h2;cases h2
   exact RQ.post (az rfl rfl) (aa _) ⟨by rw[Cf.err,hno];rfl,rfl,rfl⟩
  ·refine go 8 ?_;have hyes:c.ok=true:=by rw[hok,decide_eq_true_eq];exact errI_0.1 (by simpa using h2)
   exact RQ.post (az rfl rfl) (aa _) ⟨by rw[Cf.err,hyes];rfl,rfl,rfl⟩
def fq(L:List Sr):List Value:=(List.range 9).map fun k:Nat=>.int .i64 (cnt (k:Int) L)
theorem manyC_0(L:List Sr):fq (L.take 0)=[.int .i64 0,.int .i64 0,.int .i64 0,.int .i64 0,.int .i64 0,.int .i64 0,.int .i64 0,.int .i64 0,.int .i64 0]:=by simp[fq,cnt,List.range_succ]
theorem manyC_at{L:List Sr}{k:Nat}(h:k<9):(fq L)[k]?=some (.int .i64 (cnt (k:Int) L)):=by simp[fq,h]
theorem manyC_snoc{L:List Sr}{i:Nat}{s:Sr}{k:Nat}(hx:L[i]?=some s)(hk:s.kd=(k:Int))(h9:k<9):bP (fq (L.take i)) (0+k*1) [.int .i64 (cnt (k:Int) (L.take i)+1)]=fq (L.take (i+1)):=by
 have e:∀j:Int,cnt j (L.take (i+1))=cnt j (L.take i)+if (k:Int)=j then 1 else 0:=fun j=>by rw[cnt_snoc hx,hk]
 match k,h9,e with
 | 0,_,e=>simp[fq,List.range_succ,bP,e]
 | 1,_,e=>simp[fq,List.range_succ,bP,e]
 | 2,_,e=>simp[fq,List.range_succ,bP,e]
 | 3,_,e=>simp[fq,List.range_succ,bP,e]
 | 4,_,e=>simp[fq,List.range_succ,bP,e]
 | 5,_,e=>simp[fq,List.range_succ,bP,e]
 | 6,_,e=>simp[fq,List.range_succ,bP,e]
 | 7,_,e=>simp[fq,List.range_succ,bP,e]
 | 8,_,e=>simp[fq,List.range_succ,bP,e]
theorem rcheck_any(c:Cf)(oa:Option Nat)(ca n:Nat)(hn:c.L.length=n)(hc:c.Fit)(hl:n≤1000000):Spc Tryz.prog 64 #[.agg (c.cells (aE oa n ca)).toArray] [sls (oa.map fun b=>⟨b,0,none⟩) 48 n (c.L.flatMap Sr.cells)] [] (Is (.int .i64 c.err)):=by
 subst hn;have hal:=adsOf_len c.L;have hLl:∀s∈c.L,s.cells.length=48:=fun s hs=>c7 (hc.L s hs).rt;refine Spc.enter Tryz.func64 (h:=?_);refine fun w0 hw0=>?_;refine go 8 ?_;intro b1;refine aB (A:=[cel b1 (c.cells (aE oa c.L.length ca)) 110]) (B:=[]) (h:=?_);simp only[List.cons_append,List.nil_append];generalize hJ:([cel b1 (c.cells (aE oa c.L.length ca)) 110,sls (oa.map fun b=>⟨b,0,none⟩) 48 c.L.length (c.L.flatMap Sr.cells)]:List It)=J;have m1:cel b1 (c.cells (aE oa c.L.length ca)) 110∈J:=by rw[←hJ];exact mQ
 have m2:sls (oa.map fun b=>⟨b,0,none⟩) 48 c.L.length (c.L.flatMap Sr.cells)∈J:=by rw[←hJ];exact mQ
 clear hJ;have fS:RdI J ⟨b1,0+0,none⟩ (aE oa c.L.length ca):=⟨fun _=>Rd.celI m1 rfl⟩
 have fG:RdsN J ⟨b1,0+1,none⟩ 3 [.int .i64 c.g0,.int .i64 c.g1,.int .i64 c.g2]:=aV m1 (fun j u hj=>by
  match j,hj with
  | 0,hj=>exact hj
  | 1,hj=>exact hj
  | 2,hj=>exact hj
  | j+3,hj=>simp at hj) rfl
 have fD:RdI J ⟨b1,0+4,none⟩ (.int .i64 c.dr):=⟨fun _=>Rd.celI m1 rfl⟩;have fA:RdsN J ⟨b1,0,none⟩ 45 (c.cells (aE oa c.L.length ca)):=⟨fun _=>Rds.allI m1,cj hc.cm _⟩
 have fC:RdsN J ⟨b1,0+5,none⟩ 4 [.int .i64 c.sc.st,.int .i64 c.sc.ln,.int .i64 c.sc.lg,.int .i64 c.sc.of]:=aV m1 (fun j u hj=>by
  match j,hj with
  | 0,hj=>exact hj
  | 1,hj=>exact hj
  | 2,hj=>exact hj
  | 3,hj=>exact hj
  | j+4,hj=>simp at hj) rfl
 have f1:RdI J ⟨b1,0+41,none⟩ (.int .i64 c.mo):=⟨fun _=>aD m1 (cf_t hc.cm _ 0)⟩;have f2:RdI J ⟨b1,0+42,none⟩ (.int .i64 c.ti):=⟨fun _=>aD m1 (cf_t hc.cm _ 1)⟩;have f3:RdI J ⟨b1,0+43,none⟩ (.int .i64 c.gr):=⟨fun _=>aD m1 (cf_t hc.cm _ 2)⟩;have f4:RdI J ⟨b1,0+44,none⟩ (.int .u64 c.sd):=⟨fun _=>aD m1 (cf_t hc.cm _ 3)⟩;refine go 6 ?_;apply au (d:=14) (dp:=18) (l':=(Sq.of [9,10,11,12,13,14,15,16,17,18,19,20,21,22,23,24])) rfl (sK [1,2] rfl)
 ·intro hb5 K5;refine go 4 ?_;exact K5 _ (.cons rfl (sK [1,2] rfl))
 ·intro hb5 K5;refine go 4 ?_;exact K5 _ (.cons rfl (sK [1,2] rfl))
 refine go 1 ?_;apply au (d:=19) (dp:=23) (l':=(Sq.of [14,15,16,17,18,19,20,21,22,23,24])) rfl (sK [1,2] rfl)
 ·intro hb10 K10;refine go 4 ?_;exact K10 _ (.cons rfl (sK [1,2] rfl))
 ·intro hb10 K10;refine go 4 ?_;exact K10 _ (.cons rfl (sK [1,2] rfl))
 refine go 1 ?_;apply au (d:=24) (dp:=28) (l':=(Sq.of [19,20,21,22,23,24])) rfl (sK [1,2] rfl)
 ·intro hb15 K15;refine go 4 ?_;exact K15 _ (.cons rfl (sK [1,2] rfl))
 ·intro hb15 K15;refine go 4 ?_;exact K15 _ (.cons rfl (sK [1,2] rfl))
 refine go 1 ?_;apply au (d:=29) (dp:=34) (l':=(Sq.of [])) rfl (sK [1,2] rfl)
 ·intro hb20 K20;refine go 2 ?_;refine ab (rscheck c.sc) (h:=?_);refine go 2 ?_;exact K20 _ (.cons rfl (sK [1,2] rfl))
 ·intro hb20 K20;refine go 5 ?_;exact K20 _ (.cons rfl (sK [1,2] rfl))
 refine go 2 ?_;refine CW.cond rfl (fun h1=>?_) (fun h1=>?_)
 ·refine go 7 ?_
  have hno:c.ok=false:=by
   simp only[Bool.or_eq_true,decide_eq_true_eq,bne_iff_ne,ne_eq,sche_0] at h1;rw[Bool.eq_false_iff];intro h;simp only[Cf.ok,srcB,Bool.and_eq_true,decide_eq_true_eq] at h;obtain⟨⟨⟨⟨⟨a1,a2⟩,a3⟩,a4⟩,a5⟩,a6⟩:=h;rcases h1 with(((h1|h1)|h1)|h1)|h1
   ·omega
   ·omega
   ·omega
   ·simp at h1;exact a3 h1
   ·exact h1 a4
  exact RQ.post (az rfl rfl) (aa _) ⟨by rw[Cf.err,hno];rfl,rfl,rfl⟩
 ·refine go 9 ?_;refine RL.call (rlock_any c.mo c.ti) (hl:=.nil) (hb:=.inl rfl) (h:=?_);have h1':c.L.length≤8∧(0≤c.gr∧c.gr≤65535)∧c.sd≠0∧c.sc.Ok:=by simp only[Bool.or_eq_false_iff,decide_eq_false_iff_not,bne_eq_false_iff_eq,sche_0,beq_eq_false_iff_ne] at h1;obtain⟨⟨⟨⟨a1,a2⟩,a3⟩,a4⟩,a5⟩:=h1;exact⟨by omega,by omega,a4,a5⟩
  rintro _ _ _ ⟨p1,rfl,rfl,rfl⟩;refine go 13 ?_;refine CW.cond rfl (fun h2=>?_) (fun h2=>?_)
  ·refine go 7 ?_;have hno:c.ok=false:=by rw[Bool.eq_false_iff];intro h;simp only[Cf.ok,srcB,Bool.and_eq_true,decide_eq_true_eq] at h;obtain⟨⟨⟨⟨⟨a1,a2⟩,a3⟩,a4⟩,a5⟩,a6⟩:=h;rw[bh a1] at h2;cases h2
   exact RQ.post (az rfl rfl) (aa _) ⟨by rw[Cf.err,hno];rfl,rfl,rfl⟩
  ·refine go 4 ?_;refine bi _ (ho:=rfl) (h:=go 11 ?_);intro b2;have h2':=errI_0.1 (by simpa using h2);refine CW.loop (γ:=Nat) (fun i=>i≤c.L.length∧(∀j<i,stepS c.L j=true)) (fun i=>[(1,.pointer (some ⟨b1,0,none⟩)),(5,.pointer (some ⟨b2,0,none⟩)),(6,.int .i64 (i:Int))]) (fun _=>J) (fun i=>[cel b2 (fq (c.L.take i)) 255]) (fun i=>c.L.length-i) 0 ⟨Nat.zero_le _,fun j h=>by omega⟩ (.cons rfl (.cons rfl (.cons rfl .nil))) (fun w h=>by rw[manyC_0];exact h.rea (fun _ h=>by simpa using h) rE) ?_;rintro i ⟨hi,hok⟩;refine aR (p:=oa=none→c.L.length=0) (fun w hC e=>bf (hC.s.i _ m2) (by rw[e];rfl)) (fun hpa=>?_);refine go 10 ?_;refine CW.cond rfl (fun hlt=>?_) (fun hlt=>?_)
   ·have hlt:i<c.L.length:=by simp at hlt;omega
    cases oa with
    | none=>exact absurd (hpa rfl) (by omega)
    | some ba=>
    have hx:=List.getElem?_eq_getElem hlt;generalize c.L[i]=s at hx;have hs:=hc.L s (List.mem_of_getElem? hx);have hsl:=hLl s (List.mem_of_getElem? hx);have hlp:i-1<c.L.length:=by omega
    have hp:=List.getElem?_eq_getElem hlp;generalize c.L[i-1]=q at hp;have fE:RdsN J ⟨ba,0+i*48,none⟩ 48 s.cells:=dK (f:=Sr.cells) m2 hx hLl;refine go 9 ?_;refine aP (j:=i) (ho:=rfl) (hlt:=hlt) (h:=go 2 ?_);intro b3;refine an (ho:=rfl) (h1:=cw s) (hv:=hsl) (h:=?_);refine go 4 ?_;refine aB (A:=[cel b3 s.cells 134]) (B:=[cel b2 (fq (c.L.take i)) 255]) (h:=?_);refine aW (fun J2 hJ=>?_);have hJ2:∀x∈J,x∈J2:=fun x hx=>hJ x (by simp[hx]);have mA:cel b3 s.cells 134∈J2:=hJ _ (List.Mem.head _);have s0:RdI J2 ⟨b3,0+0,none⟩ (.int .i64 s.id):=⟨fun _=>Rd.celI mA rfl⟩;have s1:RdI J2 ⟨b3,0+1,none⟩ (.int .i64 s.kd):=⟨fun _=>Rd.celI mA rfl⟩;have sW:RdsN J2 ⟨b3,0+38,none⟩ 10 s.wt.cells:=aV mA (fun j u hj=>by rw[sr_w hs.rt];exact hj) rfl;have fP:RdI J2 ⟨ba,0+(i-1)*48+0,none⟩ (.int .i64 q.id):=gQ (f:=Sr.cells) (hJ2 _ m2) hp hLl rfl;have fS2:RdI J2 ⟨b1,0+0,none⟩ (aE (some ba) c.L.length ca):=⟨fun _=>Rd.celI (hJ2 _ m1) rfl⟩;clear fE hJ fS fG fD fA fC f1 f2 f3 f4;refine ae (Sq.of [0,1,2,3,4,5,6,7,8,9,10,11,12,13,14,15,16,17,18,19,20,21,22,23,24,25,26,27,28,29,30,31,32,33,34,35,36,37,38,39,40,41,42,43]) [] [] [0,1,2,3,4,5,6,7,8,9,10,11,12,13,14,15,16,17,18,19,20,21,22,23,24,25,26,27,28,29,30,31,32,33,34,35,36,37,38,39,40,41,42,43] (h:=?_);refine go 4 ?_;apply au (d:=61) (dp:=65) (l':=(Sq.of [8,9,10,11,12,13,14,15,16,17,18,19,20,21,22,23,24,25,26,27,28,29,30,31,32,33,34,35,36,37,38,39,40,41,42,43])) rfl (sK [1,5,6,7] rfl)
    ·intro hb4 K4;refine go 4 ?_;exact K4 _ (.cons rfl (sK [1,5,6,7] rfl))
    ·intro hb4 K4;refine go 4 ?_;exact K4 _ (.cons rfl (sK [1,5,6,7] rfl))
    refine go 1 ?_;apply au (d:=66) (dp:=81) (l':=(Sq.of [24,25,26,27,28,29,30,31,32,33,34,35,36,37,38,39,40,41,42,43])) rfl (sK [1,5,6,7] rfl)
    ·intro hb9 K9;refine go 3 ?_;apply aL (d:=69) (dp:=80) (l':=(Sq.of [23,24,25,26,27,28,29,30,31,32,33,34,35,36,37,38,39,40,41,42,43])) rfl (sK [1,5,6,7,66] rfl)
     ·intro hb12 K12;refine go 5 ?_;refine ap rfl (ad (by omega) (by omega)) ?_;refine av (d:=75) (v':=.int .i64 ((i-1:Nat):Int)) rfl (by have h0:=of_decide_eq_true ‹decide ((i:Int)>0)=true›;congr 1;omega) ?_;refine aP (j:=i-1) (ho:=rfl) (hlt:=hlp) (h:=go 4 ?_);exact K12 _ (.cons rfl (sK [1,5,6,7,66] rfl))
     ·intro hb12 K12;refine go 11 ?_;exact K12 _ (.cons rfl (sK [1,5,6,7,66] rfl))
     refine go 1 ?_;exact K9 _ (.cons rfl (sK [1,5,6,7] rfl))
    ·intro hb9 K9;refine go 15 ?_;exact K9 _ (.cons rfl (sK [1,5,6,7] rfl))
    refine go 1 ?_;apply au (d:=82) (dp:=86) (l':=(Sq.of [29,30,31,32,33,34,35,36,37,38,39,40,41,42,43])) rfl (sK [1,5,6,7] rfl)
    ·intro hb25 K25;refine go 4 ?_;exact K25 _ (.cons rfl (sK [1,5,6,7] rfl))
    ·intro hb25 K25;refine go 4 ?_;exact K25 _ (.cons rfl (sK [1,5,6,7] rfl))
    refine go 1 ?_;apply au (d:=87) (dp:=91) (l':=(Sq.of [34,35,36,37,38,39,40,41,42,43])) rfl (sK [1,5,6,7] rfl)
    ·intro hb30 K30;refine go 4 ?_;exact K30 _ (.cons rfl (sK [1,5,6,7] rfl))
    ·intro hb30 K30;refine go 4 ?_;exact K30 _ (.cons rfl (sK [1,5,6,7] rfl))
    refine go 1 ?_;apply au (d:=92) (dp:=96) (l':=(Sq.of [39,40,41,42,43])) rfl (sK [1,5,6,7] rfl)
    ·intro hb35 K35;refine go 4 ?_;exact K35 _ (.cons rfl (sK [1,5,6,7] rfl))
    ·intro hb35 K35;refine go 4 ?_;exact K35 _ (.cons rfl (sK [1,5,6,7] rfl))
    refine go 1 ?_;apply au (d:=97) (dp:=101) (l':=(Sq.of [])) rfl (sK [1,5,6,7] rfl)
    ·intro hb40 K40;refine go 4 ?_;exact K40 _ (.cons rfl (sK [1,5,6,7] rfl))
    ·intro hb40 K40;refine go 4 ?_;exact K40 _ (.cons rfl (sK [1,5,6,7] rfl))
    refine go 2 ?_;refine CW.cond rfl (fun h3=>?_) (fun h3=>?_)
    ·refine go 12 ?_
     have hno:c.ok=false:=by
      rw[Bool.eq_false_iff];intro h;simp only[Cf.ok,srcB,Bool.and_eq_true,decide_eq_true_eq] at h;have h4:=srsB_iff.1 h.1.2.1.1 i;rw[gR hx] at h4;simp[Sr.ok] at h4;simp only[Bool.or_eq_true,Bool.and_eq_true,decide_eq_true_eq,beq_iff_eq] at h3;have h5:1≤s.kd∧s.kd≤8∧s.kd≠6∧s.kd≠7:=by have:=h4.1.2;split at this<;>omega
      by_cases hi0:0<i
      ·rw[wasS_prev hp hi0] at h4;omega
      ·omega
     exact RQ.post (az rfl rfl) (aa _) ⟨by rw[Cf.err,hno];rfl,rfl,rfl⟩
    ·have h3':(0≤s.id∧s.id≤7)∧wasS c.L i<s.id∧1≤s.kd∧s.kd≤8∧s.kd≠6∧s.kd≠7:=by
      simp only[Bool.or_eq_false_iff,Bool.and_eq_false_iff,decide_eq_false_iff_not,beq_eq_false_iff_ne] at h3;by_cases hi0:0<i
      ·rw[wasS_prev hp hi0];omega
      ·obtain rfl:i=0:=by omega
       rw[wasS];omega
     obtain⟨k,hk,hk9⟩:∃k:Nat,s.kd=(k:Int)∧k<9:=⟨s.kd.toNat,by omega,by omega⟩;have s1k:RdI J2 ⟨b3,0+1,none⟩ (.int .i64 (k:Int)):=by rw[←hk];exact s1
     clear s1;have hcb:=cnt_bd (k:Int) (c.L.take i);rw[List.length_take] at hcb;have hsn:=manyC_snoc hx hk hk9;have hfit:(0+k*1+[Value.int .i64 (cnt (k:Int) (c.L.take i)+1)].length).ble (fq (c.L.take i)).length=true:=by rw[Nat.ble_eq];show 0+k*1+1≤9;omega
     refine go 6 ?_;refine al (j:=k) (ho:=rfl) (hlt:=hk9) (h:=?_);refine RL.load (ho:=rfl) (hr:=Rd.get mQ (by rw[show 0+k*1=k by omega];exact manyC_at hk9)) (h:=?_);refine ap rfl (ad (by omega) (by omega)) ?_;refine al (j:=k) (ho:=rfl) (hlt:=hk9) (h:=?_);refine RL.store KS3.h rfl rfl rfl rfl rfl rfl rfl rfl hfit uE ?_;refine go 6 ?_;refine RL.call (rwatch_any s.wt) (hl:=.nil) (hb:=.inl rfl) (h:=?_);rintro _ _ _ ⟨pw,rfl,rfl,rfl⟩;refine go 11 ?_;refine ab (raid_any (k:Int)) (h:=?_);refine go 1 ?_;apply aL (d:=117) (dp:=120) (l':=(Sq.of [])) rfl (sK [1,5,6] rfl)
     ·intro hb4 K4;refine go 3 ?_;exact K4 _ (.cons rfl (sK [1,5,6] rfl))
     ·intro hb4 K4;refine go 3 ?_;exact K4 _ (.cons rfl (sK [1,5,6] rfl))
     refine go 2 ?_;refine CW.cond rfl (fun h4=>?_) (fun h4=>?_)
     ·refine go 11 ?_;have hno:c.ok=false:=by rw[Bool.eq_false_iff];intro h;simp only[Cf.ok,srcB,Bool.and_eq_true,decide_eq_true_eq] at h;have h5:=srsB_iff.1 h.1.2.1.1 i;rw[gR hx] at h5;simp[Sr.ok] at h5;simp only[aidB,Bool.and_eq_true,decide_eq_true_eq,bne_iff_ne,ne_eq,errI_0] at h4;rw[←hk] at h4;rw[if_pos h4.1] at h5;exact h4.2 h5.1.2
      exact RQ.post (az rfl rfl) (aa _) ⟨by rw[Cf.err,hno];rfl,rfl,rfl⟩
     ·have hst:stepS c.L i=true:=by
       rw[gR hx];simp[Sr.ok];simp only[aidB,Bool.and_eq_false_iff,decide_eq_false_iff_not,bne_eq_false_iff_eq,errI_0] at h4;rw[←hk] at h4;refine⟨⟨h3'.1,?_⟩,h3'.2.1⟩;by_cases h6:2≤s.kd∧s.kd≤5
       ·rw[if_pos h6];exact h4.resolve_left (fun h=>h h6)
       ·rw[if_neg h6];omega
      refine go 5 ?_;refine ap rfl (ad (by omega) (by omega)) ?_;refine go 2 ?_;refine NQ.round (g:=i) (i+1) ⟨hlt,fun j hj=>?_⟩ (by show c.L.length-(i+1)<c.L.length-i;omega) (.cons rfl (.cons rfl (.cons rfl .nil))) (fun w h=>by rw[←hsn];exact h.rea (fun _ h=>by simpa using hJ2 _ h) rE);rcases Nat.lt_succ_iff_lt_or_eq.1 hj with hj|rfl
      ·exact hok j hj
      ·exact hst
   ·have hin:i=c.L.length:=by simp at hlt;omega
    subst hin;rw[List.take_length];refine go 8 ?_;refine al (j:=1) (ho:=rfl) (h:=?_);refine RL.load (ho:=rfl) (hr:=Rd.get mQ (manyC_at (k:=1) (by decide))) (h:=?_);refine go 2 ?_;apply au (d:=124) (dp:=128) (l':=(Sq.of [8,9,10,11,12,13,14,15,16,17,18])) rfl (sK [1,5] rfl)
    ·intro hb4 K4;refine al (j:=5) (ho:=rfl) (h:=?_);refine RL.load (ho:=rfl) (hr:=Rd.get mQ (manyC_at (k:=5) (by decide))) (h:=?_);refine go 2 ?_;exact K4 _ (.cons rfl (sK [1,5] rfl))
    ·intro hb4 K4;refine go 4 ?_;exact K4 _ (.cons rfl (sK [1,5] rfl))
    refine go 1 ?_;apply au (d:=129) (dp:=133) (l':=(Sq.of [13,14,15,16,17,18])) rfl (sK [1] rfl)
    ·intro hb9 K9;refine al (j:=8) (ho:=rfl) (h:=?_);refine RL.load (ho:=rfl) (hr:=Rd.get mQ (manyC_at (k:=8) (by decide))) (h:=?_);refine go 2 ?_;exact K9 _ (.cons rfl (sK [1] rfl))
    ·intro hb9 K9;refine go 4 ?_;exact K9 _ (.cons rfl (sK [1] rfl))
    refine go 1 ?_;refine RL.part (d:=134) rfl (fun h3=>?_) (fun h3=>?_)
    ·refine go 7 ?_;refine aI (h:=go 7 ?_);have hno:c.ok=false:=by rw[Bool.eq_false_iff];intro h;simp only[Cf.ok,srcB,manyB,Bool.and_eq_true,decide_eq_true_eq] at h;simp at h3;omega
     exact RQ.post (az rfl rfl) (aa _) ⟨by rw[Cf.err,hno];rfl,rfl,rfl⟩
    ·refine go 1 ?_;refine RL.call (rsnav_any c oa ca _ rfl hc.cm hc.L hl) (hl:=.inI m2 .nil) (hb:=.inl rfl) (h:=?_);have h3':manyB c.L=true:=by simp at h3;simp[manyB];omega
     have hok':c.ok=decide (0≤c.dr∧(b9 c.L).length≤8∧adsB (b9 c.L)=true):=by simp[Cf.ok,srcB,h1',h2',h3',srsB_of hok]
     rintro _ _ _ ⟨oN,cN,rfl,rfl,rfl⟩;refine RL.call (rnav_any c.g0 c.g1 c.g2 c.dr oN cN _ (b9 c.L) rfl (by omega)) Tryz.call121 rfl rfl rfl rfl rfl pE (.own mQ .nil) (.inl rfl) ?_;rintro _ _ _ ⟨rfl,rfl,rfl⟩;refine go 4 ?_;refine CW.cond rfl (fun h4=>?_) (fun h4=>?_)
     ·refine go 7 ?_;have hno:c.ok=false:=by rw[hok',decide_eq_false_iff_not];intro e;rw[bh e] at h4;cases h4
      exact RQ.post (az rfl rfl) (aa _) ⟨by rw[Cf.err,hno];rfl,rfl,rfl⟩
     ·refine go 8 ?_;have hyes:c.ok=true:=by rw[hok',decide_eq_true_eq];exact errI_0.1 (by simpa using h4)
      exact RQ.post (az rfl rfl) (aa _) ⟨by rw[Cf.err,hyes];rfl,rfl,rfl⟩
def zeroS:Sr:=⟨0,0,List.replicate 32 0,0,0,0,0,⟨0,0,0,0,0,0,0,0,0,0⟩⟩
def idxS(p:Sr→Bool)(L:List Sr):Int:=match L.findIdx? p with
 | some i=>(i:Int)
 | none=> -1
def ik(p:Sr→Bool)(L:List Sr):Sr×Bool:=match L.find? p with
 | some s=>(s,true)
 | none=>(zeroS,false)
theorem zeroS_fit:zeroS.Fit:=⟨rfl,by simp[zeroS,i64],by simp[zeroS,i64],by simp[zeroS,i64]⟩
theorem pickS_fit{p:Sr→Bool}{L:List Sr}(h:∀s∈L,s.Fit):(ik p L).1.Fit:=by
 unfold ik
 cases hx:L.find? p with
 | none=>exact zeroS_fit
 | some s=>exact h s (List.mem_of_find?_eq_some hx)
theorem none_all{p:Sr→Bool}{L:List Sr}(h:∀j<L.length,∀s,L[j]?=some s→p s=false):∀s∈L,¬p s=true:=fun s hs=>by
 obtain⟨j,hj,rfl⟩:=List.mem_iff_getElem.1 hs
 rw[h j hj _ (List.getElem?_eq_getElem hj)];decide
theorem pickS_no{p:Sr→Bool}{L:List Sr}(h:∀j<L.length,∀s,L[j]?=some s→p s=false):ik p L=(zeroS,false):=by rw[ik,List.find?_eq_none.2 (none_all h)]
theorem pickS_yes{p:Sr→Bool}{L:List Sr}{i:Nat}{s:Sr}(hx:L[i]?=some s)(hp:p s=true)(h:∀j<i,∀s,L[j]?=some s→p s=false):ik p L=(s,true):=by obtain⟨hlt,rfl⟩:=List.getElem?_eq_some_iff.1 hx;rw[ik,List.find?_eq_some_iff_getElem.2 ⟨hp,i,hlt,rfl,fun j hj=>by have:=h j hj _ (List.getElem?_eq_getElem (by omega));rw[this];decide⟩]
def FndV(r:Sr×Bool):Value:=.tuple #[.agg r.1.cells.toArray,.bool r.2]
theorem rcfind_any(c:Cf)(oa:Option Nat)(ca m:Nat)(n:Int)(hm:c.L.length=m)(hc:c.Fit)(hl:m≤1000000):Spc Tryz.prog 76 #[.agg (c.cells (aE oa m ca)).toArray,.int .i64 n] [sls (oa.map fun b=>⟨b,0,none⟩) 48 m (c.L.flatMap Sr.cells)] [] (Is (FndV (ik (fun s=>(fun s:Sr=>s.id==n) s) c.L))):=by
 subst hm;have hLl:∀s∈c.L,s.cells.length=48:=fun s hs=>c7 (hc.L s hs).rt;refine Spc.enter Tryz.func76 (h:=?_);refine fun w0 hw0=>?_;refine go 9 ?_;intro b1 b2;refine aB (A:=[cel b1 (c.cells (aE oa c.L.length ca)) 110]) (B:=[cel b2 [.int .i64 0,.int .i64 0,.int .u8 0,.int .u8 0,.int .u8 0,.int .u8 0,.int .u8 0,.int .u8 0,.int .u8 0,.int .u8 0,.int .u8 0,.int .u8 0,.int .u8 0,.int .u8 0,.int .u8 0,.int .u8 0,.int .u8 0,.int .u8 0,.int .u8 0,.int .u8 0,.int .u8 0,.int .u8 0,.int .u8 0,.int .u8 0,.int .u8 0,.int .u8 0,.int .u8 0,.int .u8 0,.int .u8 0,.int .u8 0,.int .u8 0,.int .u8 0,.int .u8 0,.int .u8 0,.int .i64 0,.int .i64 0,.int .i64 0,.int .i64 0,.int .i64 0,.int .i64 0,.int .i64 0,.int .i64 0,.int .i64 0,.int .i64 0,.int .i64 0,.int .i64 0,.int .i64 0,.int .i64 0] 134]) (h:=?_);refine aW (fun J hJ=>?_);have m1:cel b1 (c.cells (aE oa c.L.length ca)) 110∈J:=hJ _ (List.Mem.head _);have m2:sls (oa.map fun b=>⟨b,0,none⟩) 48 c.L.length (c.L.flatMap Sr.cells)∈J:=hJ _ (List.Mem.tail _ (List.Mem.head _));clear hJ;have fS:RdI J ⟨b1,0+0,none⟩ (aE oa c.L.length ca):=⟨fun _=>Rd.celI m1 rfl⟩;refine go 5 ?_;refine CW.loop (γ:=Nat) (fun i=>i≤c.L.length∧(∀j<i,∀s,c.L[j]?=some s→((fun s:Sr=>s.id==n) s)=false)) (fun i=>[(1,.int .i64 n),(2,.pointer (some ⟨b1,0,none⟩)),(4,.pointer (some ⟨b2,0,none⟩)),(6,.int .i64 (i:Int))]) (fun _=>J) (fun _=>[cel b2 [.int .i64 0,.int .i64 0,.int .u8 0,.int .u8 0,.int .u8 0,.int .u8 0,.int .u8 0,.int .u8 0,.int .u8 0,.int .u8 0,.int .u8 0,.int .u8 0,.int .u8 0,.int .u8 0,.int .u8 0,.int .u8 0,.int .u8 0,.int .u8 0,.int .u8 0,.int .u8 0,.int .u8 0,.int .u8 0,.int .u8 0,.int .u8 0,.int .u8 0,.int .u8 0,.int .u8 0,.int .u8 0,.int .u8 0,.int .u8 0,.int .u8 0,.int .u8 0,.int .u8 0,.int .u8 0,.int .i64 0,.int .i64 0,.int .i64 0,.int .i64 0,.int .i64 0,.int .i64 0,.int .i64 0,.int .i64 0,.int .i64 0,.int .i64 0,.int .i64 0,.int .i64 0,.int .i64 0,.int .i64 0] 134]) (fun i=>c.L.length-i) 0 ⟨Nat.zero_le _,fun j h=>by omega⟩ (.cons rfl (.cons rfl (.cons rfl (.cons rfl .nil)))) wE ?_;rintro i ⟨hi,hok⟩;refine aR (p:=oa=none→c.L.length=0) (fun w hC e=>bf (hC.s.i _ m2) (by rw[e];rfl)) (fun hpa=>?_);refine go 10 ?_;refine CW.cond rfl (fun hlt=>?_) (fun hlt=>?_)
 ·have hlt:i<c.L.length:=by simp at hlt;omega
  cases oa with
  | none=>exact absurd (hpa rfl) (by omega)
  | some ba=>
  have hx:=List.getElem?_eq_getElem hlt;generalize c.L[i]=s at hx;have hsl:=hLl s (List.mem_of_getElem? hx);have fA:RdsN J ⟨ba,0+i*48,none⟩ 48 s.cells:=dK (f:=Sr.cells) m2 hx hLl;have fI:RdI J ⟨ba,0+i*48+0,none⟩ (.int .i64 s.id):=gQ (f:=Sr.cells) m2 hx hLl rfl;refine go 9 ?_;refine aP (j:=i) (ho:=rfl) (hlt:=hlt) (h:=go 6 ?_);refine CW.cond rfl (fun hp=>?_) (fun hp=>?_)
  ·refine go 5 ?_;refine aP (j:=i) (ho:=rfl) (hlt:=hlt) (h:=go 1 ?_);refine an (ho:=rfl) (h1:=cw s) (hv:=hsl) (h:=?_);refine go 9 ?_;exact RQ.post (bG rfl rfl rfl KA134.h KS134.h mQ hsl) (aa _) ⟨by rw[pickS_yes hx hp hok];rfl,rfl,rfl⟩
  ·refine go 5 ?_;refine ap rfl (ad (by omega) (by omega)) ?_;refine go 2 ?_;refine NQ.round (g:=i) (i+1) ⟨hlt,fun j hj s' hs'=>?_⟩ (by show c.L.length-(i+1)<c.L.length-i;omega) (.cons rfl (.cons rfl (.cons rfl (.cons rfl .nil)))) wE;rcases Nat.lt_succ_iff_lt_or_eq.1 hj with hj|rfl
   ·exact hok j hj s' hs'
   ·rw[hx] at hs';cases hs';exact hp
 ·have hin:i=c.L.length:=by simp at hlt;omega
  subst hin;refine go 13 ?_;exact RQ.post (bG rfl rfl rfl KA134.h KS134.h mQ rfl) (aa _) ⟨by rw[pickS_no hok];rfl,rfl,rfl⟩
theorem part_a{P:Program}{t:TypeId}{cs vs:List Value}{off n:Nat}(hag:∀w,(isAgg t).run P w=.ok true w)(hs:∀w,(sizeOf t).run P w=.ok n w)(h:(cs.drop off).take n=vs)(w:World):(Go.part t cs.toArray off).run P w=.ok (.agg vs.toArray) w:=by subst h;simp[Go.part,hag,hs]
theorem sr_key{s:Sr}(h:s.rt.length=32):(s.cells.drop 2).take 32=bytes s.rt:=by show(bytes s.rt++s.tl).take 32=bytes s.rt;rw[List.take_append_of_le_length (by simp[h]),List.take_of_length_le (by simp[h])]
theorem sr_watch{s:Sr}(h:s.rt.length=32):(s.cells.drop 38).take 10=s.wt.cells:=by
 show((bytes s.rt++s.tl).drop 36).take 10=s.wt.cells;have e:bytes s.rt++s.tl=(bytes s.rt++[.int .i64 s.w,.int .i64 s.g,.int .i64 s.st,.int .i64 s.hz])++s.wt.cells:=by simp[Sr.tl]
 rw[e,List.drop_left' (by simp[h])];rfl
abbrev zI:Value:=.int .i64 0
def ZK:List Value:=bytes (List.replicate 32 (0#8))
theorem fill_src{rt:List B8}{a b c d e f:Int}{x:Wt}(h:rt.length=32){places:Array (Nat×Nat)}(hp:places= #[(0,1),(1,1),(2,32),(34,1),(35,1),(36,1),(37,1),(38,10)]):bX (places[·]?) zeroS.cells [(0,.int .i64 a),(1,.int .i64 b),(2,.agg (bytes rt).toArray),(3,.int .i64 c),(4,.int .i64 d),(5,.int .i64 e),(6,.int .i64 f),(7,.agg x.cells.toArray)]=some (Sr.cells ⟨a,b,rt,c,d,e,f,x⟩):=by
 subst hp;have hb:(bytes rt).length=32:=by rw[List.length_map,h]
 refine aK (vs:=[.int .i64 a]) [] [zI] ([zI]++(ZK++zeroS.tl)) rfl rfl rfl rfl rfl rfl ?_;refine aK (vs:=[.int .i64 b]) [.int .i64 a] [zI] (ZK++zeroS.tl) rfl rfl rfl rfl rfl rfl ?_;refine aK [.int .i64 a,.int .i64 b] ZK zeroS.tl rfl (cq _) rfl rfl rfl hb ?_;refine aK (vs:=[.int .i64 c]) (.int .i64 a:: .int .i64 b::bytes rt) [zI] (zI::zI::zI::zeroS.wt.cells) rfl rfl rfl (by simp[h]) rfl rfl ?_;refine aK (vs:=[.int .i64 d]) (.int .i64 a:: .int .i64 b::(bytes rt++[.int .i64 c])) [zI] (zI::zI::zeroS.wt.cells) rfl rfl (by simp) (by simp[h]) rfl rfl ?_;refine aK (vs:=[.int .i64 e]) (.int .i64 a:: .int .i64 b::(bytes rt++[.int .i64 c,.int .i64 d])) [zI] (zI::zeroS.wt.cells) rfl rfl (by simp) (by simp[h]) rfl rfl ?_;refine aK (vs:=[.int .i64 f]) (.int .i64 a:: .int .i64 b::(bytes rt++[.int .i64 c,.int .i64 d,.int .i64 e])) [zI] zeroS.wt.cells rfl rfl (by simp) (by simp[h]) rfl rfl ?_;refine aK (.int .i64 a:: .int .i64 b::(bytes rt++[.int .i64 c,.int .i64 d,.int .i64 e,.int .i64 f])) zeroS.wt.cells [] rfl (cq _) (by simp) (by simp[h]) rfl rfl ?_;simp[Sr.cells,Sr.tl,bX]
def zeroC:Cf:=⟨0,0,0,0,⟨0,0,0,0⟩,List.replicate 32 0,0,0,0,0,[]⟩
theorem fill_cf{cm:List B8}{a b c d e f g i m t r q:Int}(h:cm.length=32){places:Array (Nat×Nat)}(hp:places= #[(0,1),(1,3),(4,1),(5,4),(9,32),(41,1),(42,1),(43,1),(44,1)]):bX (places[·]?) (zeroC.cells (.slice none 0 0)) [(1,.agg #[.int .i64 a,.int .i64 b,.int .i64 c]),(2,.int .i64 d),(3,.agg #[.int .i64 e,.int .i64 f,.int .i64 g,.int .i64 i]),(4,.agg (bytes cm).toArray),(5,.int .i64 m),(6,.int .i64 t),(7,.int .i64 r),(8,.int .u64 q)]=some (Cf.cells ⟨a,b,c,d,⟨e,f,g,i⟩,cm,m,t,r,q,[]⟩ (.slice none 0 0)):=by
 subst hp;have hb:(bytes cm).length=32:=by rw[List.length_map,h]
 refine aK (vs:=[.int .i64 a,.int .i64 b,.int .i64 c]) [.slice none 0 0] [zI,zI,zI] ([zI]++([zI,zI,zI,zI]++(ZK++zeroC.tl))) rfl rfl rfl rfl rfl rfl ?_;refine aK (vs:=[.int .i64 d]) [.slice none 0 0,.int .i64 a,.int .i64 b,.int .i64 c] [zI] ([zI,zI,zI,zI]++(ZK++zeroC.tl)) rfl rfl rfl rfl rfl rfl ?_;refine aK (vs:=[.int .i64 e,.int .i64 f,.int .i64 g,.int .i64 i]) [.slice none 0 0,.int .i64 a,.int .i64 b,.int .i64 c,.int .i64 d] [zI,zI,zI,zI] (ZK++zeroC.tl) rfl rfl rfl rfl rfl rfl ?_;refine aK [.slice none 0 0,.int .i64 a,.int .i64 b,.int .i64 c,.int .i64 d,.int .i64 e,.int .i64 f,.int .i64 g,.int .i64 i] ZK zeroC.tl rfl (cq _) rfl rfl rfl hb ?_;refine aK (vs:=[.int .i64 m]) (.slice none 0 0:: .int .i64 a:: .int .i64 b:: .int .i64 c:: .int .i64 d:: .int .i64 e:: .int .i64 f:: .int .i64 g:: .int .i64 i::bytes cm) [zI] [zI,zI,.int .u64 0] rfl rfl rfl (by simp[h]) rfl rfl ?_;refine aK (vs:=[.int .i64 t]) (.slice none 0 0:: .int .i64 a:: .int .i64 b:: .int .i64 c:: .int .i64 d:: .int .i64 e:: .int .i64 f:: .int .i64 g:: .int .i64 i::(bytes cm++[.int .i64 m])) [zI] [zI,.int .u64 0] rfl rfl (by simp) (by simp[h]) rfl rfl ?_;refine aK (vs:=[.int .i64 r]) (.slice none 0 0:: .int .i64 a:: .int .i64 b:: .int .i64 c:: .int .i64 d:: .int .i64 e:: .int .i64 f:: .int .i64 g:: .int .i64 i::(bytes cm++[.int .i64 m,.int .i64 t])) [zI] [.int .u64 0] rfl rfl (by simp) (by simp[h]) rfl rfl ?_;refine aK (vs:=[.int .u64 q]) (.slice none 0 0:: .int .i64 a:: .int .i64 b:: .int .i64 c:: .int .i64 d:: .int .i64 e:: .int .i64 f:: .int .i64 g:: .int .i64 i::(bytes cm++[.int .i64 m,.int .i64 t,.int .i64 r])) [.int .u64 0] [] rfl rfl (by simp) (by simp[h]) rfl rfl ?_;simp[Cf.cells,Cf.tl,bX]
theorem ed(c:Cf){sl:Value}(hs:sl.oneCell'=true):dO (c.cells sl)=true:=by have h:dO (bytes c.cm++c.tl)=true:=ones_app (bC fh _) rfl;show(sl.oneCell'&&_)=true;rw[hs];exact h
theorem cf_set{c:Cf}{sl sl':Value}:bP (c.cells sl) (0+0) [sl']=c.cells sl':=by have e:∀s,c.cells s=[]++([s]++(c.cells sl).tail):=fun s=>rfl;rw[e sl,e sl'];exact bI rfl rfl
theorem lsource(s:Sr)(h:s.rt.length=32):Spc Tryz.prog 66 #[.agg s.cells.toArray] [] [] (Is (.agg s.cells.toArray)):=by
 have hsl:=c7 h;have hb:(bytes s.rt).length=32:=by rw[List.length_map,h]
 refine Spc.enter Tryz.func66 (h:=?_);refine fun w0 hw0=>?_;refine go 7 ?_;intro b1 b2;refine aB (A:=[cel b1 s.cells 167]) (B:=[cel b2 zeroS.cells 134]) (h:=?_);refine aW (fun J hJ=>?_);have mA:cel b1 s.cells 167∈J:=hJ _ (List.Mem.head _);clear hJ;have sW:RdsN J ⟨b1,0+38,none⟩ 10 s.wt.cells:=aV mA (fun j u hj=>by rw[sr_w h];exact hj) rfl;have s0:RdI J ⟨b1,0+0,none⟩ (.int .i64 s.id):=⟨fun _=>Rd.celI mA rfl⟩;have s1:RdI J ⟨b1,0+1,none⟩ (.int .i64 s.kd):=⟨fun _=>Rd.celI mA rfl⟩;have sK:RdsN J ⟨b1,0+2,none⟩ 32 (bytes s.rt):=aV mA (fun j u hj=>by show s.cells[0+2+j]?=some u;rw[show 0+2+j=j+1+1 by omega,Sr.cells];simp only[List.getElem?_cons_succ];rw[List.getElem?_append_left (List.getElem?_eq_some_iff.1 hj).1];exact hj) hb
 have s3:RdI J ⟨b1,0+34,none⟩ (.int .i64 s.w):=⟨fun _=>aD mA (iw h 0)⟩;have s4:RdI J ⟨b1,0+35,none⟩ (.int .i64 s.g):=⟨fun _=>aD mA (iw h 1)⟩;have s5:RdI J ⟨b1,0+36,none⟩ (.int .i64 s.st):=⟨fun _=>aD mA (iw h 2)⟩;have s6:RdI J ⟨b1,0+37,none⟩ (.int .i64 s.hz):=⟨fun _=>aD mA (iw h 3)⟩;refine go 8 ?_;intro b3;refine aB (A:=[cel b3 s.wt.cells 165]) (B:=[cel b2 zeroS.cells 134]) (h:=?_);refine aW (fun J2 hJ=>?_);have hJ2:∀x∈J,x∈J2:=fun x hx=>hJ x (by simp[hx]);have mB:=hJ2 _ mA;have mW:cel b3 s.wt.cells 165∈J2:=hJ _ (List.Mem.head _);clear hJ sW s0 s1 sK s3 s4 s5 s6;have s0:RdI J2 ⟨b1,0+0,none⟩ (.int .i64 s.id):=⟨fun _=>Rd.celI mB rfl⟩;have s1:RdI J2 ⟨b1,0+1,none⟩ (.int .i64 s.kd):=⟨fun _=>Rd.celI mB rfl⟩;have sK:RdsN J2 ⟨b1,0+2,none⟩ 32 (bytes s.rt):=aV mB (fun j u hj=>by show s.cells[0+2+j]?=some u;rw[show 0+2+j=j+1+1 by omega,Sr.cells];simp only[List.getElem?_cons_succ];rw[List.getElem?_append_left (List.getElem?_eq_some_iff.1 hj).1];exact hj) hb
 have s3:RdI J2 ⟨b1,0+34,none⟩ (.int .i64 s.w):=⟨fun _=>aD mB (iw h 0)⟩;have s4:RdI J2 ⟨b1,0+35,none⟩ (.int .i64 s.g):=⟨fun _=>aD mB (iw h 1)⟩;have s5:RdI J2 ⟨b1,0+36,none⟩ (.int .i64 s.st):=⟨fun _=>aD mB (iw h 2)⟩;have s6:RdI J2 ⟨b1,0+37,none⟩ (.int .i64 s.hz):=⟨fun _=>aD mB (iw h 3)⟩;have w0':RdI J2 ⟨b3,0+0+0,none⟩ (.int .i64 s.wt.go):=⟨fun _=>Rd.celI mW rfl⟩;have w1:RdI J2 ⟨b3,0+0+1,none⟩ (.int .i64 s.wt.gg):=⟨fun _=>Rd.celI mW rfl⟩;have w2:RdI J2 ⟨b3,0+0+2,none⟩ (.int .i64 s.wt.gm):=⟨fun _=>Rd.celI mW rfl⟩;have w3:RdI J2 ⟨b3,0+3,none⟩ (.int .i64 s.wt.sl):=⟨fun _=>Rd.celI mW rfl⟩;have w4:RdI J2 ⟨b3,0+4,none⟩ (.int .i64 s.wt.mo):=⟨fun _=>Rd.celI mW rfl⟩;have w5:RdI J2 ⟨b3,0+5,none⟩ (.int .i64 s.wt.sa):=⟨fun _=>Rd.celI mW rfl⟩;have w6:RdI J2 ⟨b3,0+6,none⟩ (.int .i64 s.wt.ra):=⟨fun _=>Rd.celI mW rfl⟩;have w7:RdI J2 ⟨b3,0+7,none⟩ (.int .i64 s.wt.ba):=⟨fun _=>Rd.celI mW rfl⟩;have w8:RdI J2 ⟨b3,0+8,none⟩ (.int .i64 s.wt.ho):=⟨fun _=>Rd.celI mW rfl⟩;have w9:RdI J2 ⟨b3,0+9,none⟩ (.int .i64 s.wt.pr):=⟨fun _=>Rd.celI mW rfl⟩;refine go 40 ?_;refine ay s.cells (ho:=rfl) (hf:=fill_src (x:=s.wt) h rfl) (h:=?_);refine an (ho:=rfl) (h1:=cw s) (hv:=hsl) (h:=?_);refine go 3 ?_;exact RQ.post (cU rfl rfl KA134.h KS134.h mQ hsl) (aa _) ⟨rfl,rfl,rfl⟩
theorem srs_ones(L:List Sr):∀u∈L.flatMap Sr.cells,u.oneCell'=true:=fun u hu=>by
 obtain⟨s,-,hs⟩:=List.mem_flatMap.1 hu
 exact dI (cw s) u hs
theorem fill_one48{cs zs:List Value}(h:cs.length=48)(hz:zs.length=48):bX (fun j=>some (j*48,48)) (cT zs 1) [(0,.agg cs.toArray)]=some cs:=by refine aK [] zs [] rfl (cq _) (by simp[cT]) rfl hz h ?_;simp[bX]
def CfR(U:TypeId)(c:Cf):Value→List It→List It→Prop:=fun v I' H'=>∃ob cap,v=.agg (c.cells (aE ob c.L.length cap)).toArray∧I'=[]∧H'=[own ob cap U 48 c.L.length (c.L.flatMap Sr.cells)]
theorem lplain_any(c:Cf)(oa:Option Nat)(ca n:Nat)(hn:c.L.length=n)(hc:c.cm.length=32)(hL:∀s∈c.L,s.rt.length=32)(hl:n≤12):Spc Tryz.prog 30 #[.agg (c.cells (aE oa n ca)).toArray] [sls (oa.map fun b=>⟨b,0,none⟩) 48 n (c.L.flatMap Sr.cells)] [] (CfR 134 c):=by
 subst hn;have hLl:∀s∈c.L,s.cells.length=48:=fun s hs=>c7 (hL s hs);have hl45:=fun sl=>cj hc sl;refine Spc.enter Tryz.func30 (h:=?_);refine fun w0 hw0=>?_;refine go 7 ?_;intro b1 b2;refine aB (A:=[cel b1 (c.cells (aE oa c.L.length ca)) 34]) (B:=[cel b2 (zeroC.cells (.slice none 0 0)) 110]) (h:=?_);simp only[List.cons_append,List.nil_append];generalize hJ:([cel b1 (c.cells (aE oa c.L.length ca)) 34,sls (oa.map fun b=>⟨b,0,none⟩) 48 c.L.length (c.L.flatMap Sr.cells)]:List It)=J;have m1:cel b1 (c.cells (aE oa c.L.length ca)) 34∈J:=by rw[←hJ];exact mQ
 have m2:sls (oa.map fun b=>⟨b,0,none⟩) 48 c.L.length (c.L.flatMap Sr.cells)∈J:=by rw[←hJ];exact mQ
 clear hJ;have fS:RdI J ⟨b1,0+0,none⟩ (aE oa c.L.length ca):=⟨fun _=>Rd.celI m1 rfl⟩
 have fG:RdsN J ⟨b1,0+1,none⟩ 3 [.int .i64 c.g0,.int .i64 c.g1,.int .i64 c.g2]:=aV m1 (fun j u hj=>by
  match j,hj with
  | 0,hj=>exact hj
  | 1,hj=>exact hj
  | 2,hj=>exact hj
  | j+3,hj=>simp at hj) rfl
 have fD:RdI J ⟨b1,0+4,none⟩ (.int .i64 c.dr):=⟨fun _=>Rd.celI m1 rfl⟩;have q0:RdI J ⟨b1,0+5+0,none⟩ (.int .i64 c.sc.st):=⟨fun _=>Rd.celI m1 rfl⟩;have q1:RdI J ⟨b1,0+5+1,none⟩ (.int .i64 c.sc.ln):=⟨fun _=>Rd.celI m1 rfl⟩;have q2:RdI J ⟨b1,0+5+2,none⟩ (.int .i64 c.sc.lg):=⟨fun _=>Rd.celI m1 rfl⟩;have q3:RdI J ⟨b1,0+5+3,none⟩ (.int .i64 c.sc.of):=⟨fun _=>Rd.celI m1 rfl⟩;have hb:(bytes c.cm).length=32:=by rw[List.length_map,hc]
 have qC:RdsN J ⟨b1,0+9,none⟩ 32 (bytes c.cm):=aV m1 (fun j u hj=>by rw[show 0+9+j=j+1+1+1+1+1+1+1+1+1 by omega,Cf.cells];simp only[List.getElem?_cons_succ];rw[List.getElem?_append_left (List.getElem?_eq_some_iff.1 hj).1];exact hj) hb
 have f1:RdI J ⟨b1,0+41,none⟩ (.int .i64 c.mo):=⟨fun _=>aD m1 (cf_t hc _ 0)⟩;have f2:RdI J ⟨b1,0+42,none⟩ (.int .i64 c.ti):=⟨fun _=>aD m1 (cf_t hc _ 1)⟩;have f3:RdI J ⟨b1,0+43,none⟩ (.int .i64 c.gr):=⟨fun _=>aD m1 (cf_t hc _ 2)⟩;have f4:RdI J ⟨b1,0+44,none⟩ (.int .u64 c.sd):=⟨fun _=>aD m1 (cf_t hc _ 3)⟩;refine go 28 ?_;refine ay (c.cells (.slice none 0 0)) (ho:=rfl) (hf:=fill_cf hc rfl) (h:=go 1 ?_);intro b3;refine an (ho:=rfl) (h1:=ed _ rfl) (hv:=hl45 _) (h:=?_);refine go 9 ?_;refine cZ (e:=134) 48 ?_;refine CW.loop (γ:=Nat×Option Nat×Nat) (fun g=>g.1≤c.L.length) (fun g=>[(1,.pointer (some ⟨b1,0,none⟩)),(2,.pointer (some ⟨b2,0,none⟩)),(3,.pointer (some ⟨b3,0,none⟩)),(4,.int .i64 (g.1:Int))]) (fun _=>J) (fun g=>[cel b3 (c.cells (aE g.2.1 g.1 g.2.2)) 110,own g.2.1 g.2.2 134 48 g.1 ((c.L.take g.1).flatMap Sr.cells),cel b2 (zeroC.cells (.slice none 0 0)) 110]) (fun g=>c.L.length-g.1) (0,none,0) (Nat.zero_le _) (.cons rfl (.cons rfl (.cons rfl (.cons rfl .nil)))) wE ?_;rintro⟨i,ob,cp⟩ hi;dsimp only at hi ⊢;refine aR (p:=oa=none→c.L.length=0) (fun w hC e=>bf (hC.s.i _ m2) (by rw[e];rfl)) (fun hpa=>?_);refine go 9 ?_;apply aL (d:=38) (dp:=41) (l':=(Sq.of [])) rfl (sK [1,2,3,4] rfl)
 ·intro hb6 K6;refine go 3 ?_;exact K6 _ (.cons rfl (sK [1,2,3,4] rfl))
 ·intro hb6 K6;refine go 3 ?_;exact K6 _ (.cons rfl (sK [1,2,3,4] rfl))
 refine go 2 ?_;refine CW.cond rfl (fun hlt=>?_) (fun hlt=>?_)
 ·have hlt:i<c.L.length:=by simp at hlt;omega
  cases oa with
  | none=>exact absurd (hpa rfl) (by omega)
  | some ba=>
  have hx:=List.getElem?_eq_getElem hlt;have htk:c.L.take (i+1)=c.L.take i++[c.L[i]]:=by rw[List.take_add_one,hx];rfl
  generalize c.L[i]=s at hx htk;have hs:=hL s (List.mem_of_getElem? hx);have hsl:=hLl s (List.mem_of_getElem? hx);have fE:RdsN J ⟨ba,0+i*48,none⟩ 48 s.cells:=dK (f:=Sr.cells) m2 hx hLl;refine go 4 ?_;refine ae (Sq.of [0,1,2,3,4,5,6,7,8,9,10,11]) [8,9,11] [9,11] [0,2,3,4,5,6,7,10] (h:=?_);refine go 1 ?_;refine RL.load (ho:=rfl) (hr:=Rd.cel mQ rfl) (h:=?_);refine go 3 ?_;refine aP (j:=i) (ho:=rfl) (hlt:=hlt) (h:=go 1 ?_);refine cr (lsource s hs) (h:=?_);refine RL.buildSlice s.cells (ho:=rfl) (hf:=fill_one48 hsl rfl) (h:=?_);intro b4;refine cd KE107.h rfl rfl rfl rfl rfl rfl rfl (by first|exact⟨(.take (ai _)),rfl⟩|exact⟨(.leave (.take (ai _))),rfl⟩|exact⟨(.leave (.leave (.take (ai _)))),rfl⟩|exact⟨(.leave (.leave (.leave (.take (ai _))))),rfl⟩|exact⟨(.leave (.leave (.leave (.leave (.take (ai _)))))),rfl⟩|exact⟨(.leave (.leave (.leave (.leave (.leave (.take (ai _))))))),rfl⟩|exact⟨(.leave (.leave (.leave (.leave (.leave (.leave (.take (ai _)))))))),rfl⟩|exact⟨(.leave (.leave (.leave (.leave (.leave (.leave (.leave (.take (ai _))))))))),rfl⟩|exact⟨(.leave (.leave (.leave (.leave (.leave (.leave (.leave (.leave (.take (ai _)))))))))),rfl⟩|exact⟨(.leave (.leave (.leave (.leave (.leave (.leave (.leave (.leave (.leave (.take (ai _))))))))))),rfl⟩) (Src.cel (cs:=s.cells) mQ hsl) (dI (cw s)) (by first|omega|(simp only[maxLen];omega)) (by first|omega|(simp only[maxLen];omega)) ?_;intro ob1 cap1 ho1;refine go 1 ?_;refine aj (vs:=[_]) cf_set (ho:=rfl) (hl:=by rw[hl45];show 0+0+1≤45;decide) (h:=?_);refine go 5 ?_;refine ap rfl (ad (by omega) (by omega)) ?_;refine go 2 ?_;refine NQ.round (g:=(i,ob,cp)) (i+1,ob1,cap1) hlt (by show c.L.length-(i+1)<c.L.length-i;omega) (.cons rfl (.cons rfl (.cons rfl (.cons rfl .nil)))) (fun w h=>h.rea (H':=[cel b3 (c.cells (aE ob1 (i+1) cap1)) 110,own ob1 cap1 134 48 (i+1) ((c.L.take (i+1)).flatMap Sr.cells),cel b2 (zeroC.cells (.slice none 0 0)) 110]) (fun _ h=>h) (by rw[htk,List.flatMap_append,List.flatMap_cons,List.flatMap_nil,List.append_nil];exact rE))
 ·have hin:i=c.L.length:=by simp at hlt;omega
  subst hin;rw[List.take_length];refine go 7 ?_;refine aT (ho:=rfl) (hl:=hl45 _) (h:=?_);refine an (ho:=rfl) (h1:=ed _ rfl) (hv:=hl45 _) (h:=?_);refine go 3 ?_;refine RQ.rea (fun _ h=>h) (H':=[own ob cp 134 48 c.L.length (c.L.flatMap Sr.cells),cel b2 (c.cells (aE ob c.L.length cp)) 110]) rE ?_;exact RQ.post (cU rfl rfl KA110.h KS110.h mQ (hl45 _)) (.keep (aa _)) ⟨ob,cp,rfl,rfl,rfl⟩
def aH(n:Int):List Int:=if 1≤n∧n≤4 then [n,10] else if n=8 then [7,8,9,10,11,12] else []
def KnR(n:Int):Value→List It→List It→Prop:=fun v I' H'=>∃ob cap,v=aE ob (aH n).length cap∧I'=[]∧H'=[own ob cap 3 1 (aH n).length (bO (aH n))]
theorem kinds_a{n:Int}(h:1≤n∧n≤4):aH n=[n,10]:=by rw[aH,if_pos h]
theorem kinds_no{n:Int}(h: ¬(1≤n∧n≤4))(h8:n≠8):aH n=[]:=by rw[aH,if_neg h,if_neg h8]
theorem kinds_any(n:Int):Spc Tryz.prog 54 #[.int .i64 n] [] [] (KnR n):=by
 refine Spc.enter Tryz.func54 (h:=?_);refine fun w0 hw0=>?_;refine go 19 ?_;refine fQ (γ:=Unit) (fun _=>True) (fun _=>[(0,.int .i64 n),(3,.int .i64 n),(4,.bool (decide (1≤n∧n≤4)))]) (fun _=>[]) (fun _=>[]) ?_ ?_
 ·refine CW.cond rfl (fun h1=>?_) (fun h1=>?_)
  ·refine go 1 ?_;exact aJ () trivial (.cons rfl (.cons rfl (.cons ((congrArg (fun b=>some (Value.bool b)) h1).trans (by rw[decide_eq_true (by simp at h1;omega)])) .nil))) (fun w h=>h)
  ·refine go 6 ?_;refine CW.cond rfl (fun h2=>?_) (fun h2=>?_)
   ·refine go 1 ?_;exact aJ () trivial (.cons rfl (.cons rfl (.cons ((congrArg (fun b=>some (Value.bool b)) h2).trans (by rw[decide_eq_true (by simp at h2;omega)])) .nil))) (fun w h=>h)
   ·refine go 6 ?_;refine CW.cond rfl (fun h3=>?_) (fun h3=>?_)
    ·refine go 1 ?_;exact aJ () trivial (.cons rfl (.cons rfl (.cons ((congrArg (fun b=>some (Value.bool b)) h3).trans (by rw[decide_eq_true (by simp at h3;omega)])) .nil))) (fun w h=>h)
    ·refine go 4 ?_;refine aJ () trivial (.cons rfl (.cons rfl (.cons (congrArg (fun b=>some (Value.bool b)) ?_) .nil))) (fun w h=>h);rw[Bool.eq_iff_iff];simp at h1 h2 h3 ⊢;omega
 rintro⟨⟩ -;refine CW.cond rfl (fun h=>?_) (fun h=>?_)
 ·refine go 3 ?_;refine ao [.int .i64 n,.int .i64 10] (ho:=rfl) (h:=?_);intro bq;refine go 6 ?_;have h:1≤n∧n≤4:=by simpa using h
  refine RQ.post (az rfl rfl) (.keep (aa _)) ?_;exact⟨some bq,2,by rw[kinds_a h];rfl,rfl,by rw[kinds_a h];rfl⟩
 ·refine go 6 ?_;have h: ¬(1≤n∧n≤4):=by simpa using h
  refine CW.cond rfl (fun h8=>?_) (fun h8=>?_)
  ·refine go 2 ?_;refine ao [.int .i64 7,.int .i64 8,.int .i64 9,.int .i64 10,.int .i64 11,.int .i64 12] (ho:=rfl) (h:=?_);intro bq;refine go 6 ?_;have h8:n=8:=by simpa using h8
   subst h8;exact RQ.post (az rfl rfl) (.keep (aa _)) ⟨some bq,6,rfl,rfl,rfl⟩
  ·refine go 9 ?_;have h8:n≠8:=by simpa using h8
   refine dx (e:=3) 1 ?_;exact RQ.post (az rfl rfl) (.keep (aa _)) ⟨none,0,by rw[kinds_no h h8];rfl,rfl,by rw[kinds_no h h8];rfl⟩
theorem rkinds_any(n:Int):Spc Tryz.prog 65 #[.int .i64 n] [] [] (KnR n):=by
 refine Spc.enter Tryz.func65 (h:=?_);refine fun w0 hw0=>?_;refine go 18 ?_;refine fQ (γ:=Unit) (fun _=>True) (fun _=>[(0,.int .i64 n),(3,.int .i64 n),(4,.bool (decide (1≤n∧n≤4)))]) (fun _=>[]) (fun _=>[]) ?_ ?_
 ·refine CW.cond rfl (fun h1=>?_) (fun h1=>?_)
  ·refine go 1 ?_;exact aJ () trivial (.cons rfl (.cons rfl (.cons ((congrArg (fun b=>some (Value.bool b)) h1).trans (by rw[decide_eq_true (by simp at h1;omega)])) .nil))) (fun w h=>h)
  ·refine go 6 ?_;refine CW.cond rfl (fun h2=>?_) (fun h2=>?_)
   ·refine go 1 ?_;exact aJ () trivial (.cons rfl (.cons rfl (.cons ((congrArg (fun b=>some (Value.bool b)) h2).trans (by rw[decide_eq_true (by simp at h2;omega)])) .nil))) (fun w h=>h)
   ·refine go 6 ?_;refine CW.cond rfl (fun h3=>?_) (fun h3=>?_)
    ·refine go 1 ?_;exact aJ () trivial (.cons rfl (.cons rfl (.cons ((congrArg (fun b=>some (Value.bool b)) h3).trans (by rw[decide_eq_true (by simp at h3;omega)])) .nil))) (fun w h=>h)
    ·refine go 4 ?_;refine aJ () trivial (.cons rfl (.cons rfl (.cons (congrArg (fun b=>some (Value.bool b)) ?_) .nil))) (fun w h=>h);rw[Bool.eq_iff_iff];simp at h1 h2 h3 ⊢;omega
 rintro⟨⟩ -;refine CW.cond rfl (fun h=>?_) (fun h=>?_)
 ·refine go 3 ?_;refine ao [.int .i64 n,.int .i64 10] (ho:=rfl) (h:=?_);intro bq;refine go 5 ?_;have h:1≤n∧n≤4:=by simpa using h
  refine RQ.post (az rfl rfl) (.keep (aa _)) ?_;exact⟨some bq,2,by rw[kinds_a h];rfl,rfl,by rw[kinds_a h];rfl⟩
 ·refine go 6 ?_;have h: ¬(1≤n∧n≤4):=by simpa using h
  refine CW.cond rfl (fun h8=>?_) (fun h8=>?_)
  ·refine go 2 ?_;refine ao [.int .i64 7,.int .i64 8,.int .i64 9,.int .i64 10,.int .i64 11,.int .i64 12] (ho:=rfl) (h:=?_);intro bq;refine go 5 ?_;have h8:n=8:=by simpa using h8
   subst h8;exact RQ.post (az rfl rfl) (.keep (aa _)) ⟨some bq,6,rfl,rfl,rfl⟩
  ·refine go 7 ?_;have h8:n≠8:=by simpa using h8
   refine dx (e:=3) 1 ?_;exact RQ.post (az rfl rfl) (.keep (aa _)) ⟨none,0,by rw[kinds_no h h8];rfl,rfl,by rw[kinds_no h h8];rfl⟩
theorem got7{l:List B8}{r:Rdg}(h:bV 7 l=some r):r.kind=7:=by
 unfold bV at h;split at h
 ·cases h;rfl
 ·cases h
theorem mb_upd{M:eG}(h:MB M)(s:Int){p:Nat×Nat}(h1:p.1<4294967296)(h2:p.2<18446744073709551616):MB (updM M s p):=fun s'=>by
 unfold iG updM
 by_cases e:s'=s
 ·rw[if_pos e];exact⟨h1,h2⟩
 ·rw[if_neg e];exact h s'
theorem mb_take{M:eG}(h:MB M)(s:Int){p:Nat×Nat}(h1:p.1<4294967296)(h2:p.2<18446744073709551616):MB (gL M s p):=by
 unfold gL;split
 ·exact mb_upd h s h1 h2
 ·exact h
theorem mb_look{g:GSt}(h:MB g.M){f:Fr}(hf:f.Ok)(t:Int):MB (ew g f t):=by
 unfold ew;split
 ·split
  ·exact mb_take h _ hf.ep hf.ct
  ·exact h
 ·exact h
theorem act7_any(b:Nat)(s:Int)(r:Rdg)(hk:r.kind=7):Spc Tryz.prog 94 #[.pointer (some ⟨b,0,none⟩),.int .i64 s,.agg r.cells.toArray] [] [] (Is (.tuple #[.int .i64 0,.agg r.cells.toArray])):=by
 have h57:r.cells.length=57:=rfl;have h1:(r.kind==1)=false:=by rw[hk];rfl
 have h2:(r.kind==2)=false:=by rw[hk];rfl
 have h3:(r.kind==3)=false:=by rw[hk];rfl
 have h4:(r.kind==4)=false:=by rw[hk];rfl
 have h8:(r.kind==8)=false:=by rw[hk];rfl
 have h9:(r.kind==9)=false:=by rw[hk];rfl
 have h10:(r.kind==10)=false:=by rw[hk];rfl
 have h7:(r.kind==7)=true:=by rw[hk];rfl
 refine Spc.enter Tryz.func94 (h:=?_);refine fun w0 hw0=>?_;refine go 26 ?_;intro b1 b2 b3;refine ag rfl (h1) (go 7 ?_);refine ag rfl (h2) (go 6 ?_);refine ag rfl (h3) (go 5 ?_);refine ag rfl (h4) (go 6 ?_);refine ag rfl (h8) (go 6 ?_);refine ag rfl (h9) (go 6 ?_);refine ag rfl (h10) (go 6 ?_);refine aI rfl (h7) (go 7 ?_);refine ae (Sq.of [0,1,2]) [2] [2] [1] (h:=?_);refine go 6 ?_;exact RQ.post (resTW rfl rfl rfl KA54.h KS54.h mQ h57) (aa _) ⟨rfl,rfl,rfl⟩
def FrmR(C:UC)(x:UX)(f:Fr):Value→List It→List It→Prop:=fun v I' H'=>v=.tuple #[]∧I'=[]∧∃(e:Int) (r:Rdg) (y:UX) (eo:Option Nat) (ec:Nat),(e=0→bV 7 f.b=some r)∧y.Ok∧y.u.now=x.u.now∧y.nw=x.nw∧y.u.ev=aE eo 1 ec∧H'=own eo ec 73 62 1 (evC f e r)::UL C y
theorem uframe_any(C:UC)(x:UX)(f:Fr)(p:Option Addr)(c n:Nat)(hC:C.Ok)(hx:x.Ok)(hb:x.u.now≤1000000)(hf:f.Ok)(hkd:f.kd=7)(hn:f.b.length=n)(hnb:n≤900000)(hnc:n≤c)(hev:x.u.ev=aE none 0 0):Spc Tryz.prog 50 #[.pointer (some ⟨C.B.b,0,none⟩),.agg (f.cells (.slice p n c)).toArray] [sls p 1 n (bytes f.b)] (UL C x) (FrmR C x f):=by
 have h21:=dT hf.tag (.slice p n c);have h57:∀r:Rdg,r.cells.length=57:=fun r=>rfl;have hlk:=hx.lk;have hn0:=hx.n0;obtain⟨m,hm⟩:=rm_at hx.rl f.sr;refine Spc.enter Tryz.func50 (h:=?_);refine fun w0 hw0=>?_;refine go 5 ?_;intro b1;refine CW.scope (γ:=Int×Rdg×UX×Nat) 0 (fun g=>(g.1=0→bV 7 f.b=some g.2.1)∧g.2.2.1.Ok∧g.2.2.1.u.now=x.u.now∧g.2.2.1.nw=x.nw∧g.2.2.1.u.ev=aE none 0 0) (fun g=>[(0,.pointer (some ⟨C.B.b,0,none⟩)),(3,.pointer (some ⟨b1,0,none⟩)),(5,.pointer (some ⟨g.2.2.2,0,none⟩)),(8,.int .i64 g.1)]) (fun _=>[sls p 1 n (bytes f.b)]) (fun g=>cel g.2.2.2 g.2.1.cells 54::cel b1 (f.cells (.slice p n c)) 151::UL C g.2.2.1) rfl ?_ ?_
 ·refine go 30 ?_;intro b2 b3 b4;refine ag rfl (hlk) (go 9 ?_);apply au (d:=16) (dp:=20) (l':=(Sq.of [])) rfl (sK [0,3,4,5,6,8] rfl)
  ·intro hb4 K4;refine go 4 ?_;exact K4 _ (.cons rfl (sK [0,3,4,5,6,8] rfl))
  ·intro hb4 K4;refine go 4 ?_;exact K4 _ (.cons rfl (sK [0,3,4,5,6,8] rfl))
  refine go 2 ?_;refine ag rfl ((by rw[hkd];rfl)) ?_;refine go 3 ?_;refine ae (Sq.of [0,1,2,3,4,5,6,7,8,9,10,11]) [10] [10] [0,1,2,4,7,8,9,11] (h:=?_);refine go 6 ?_;refine ga keyI KU119.h KZ121.h rfl rfl rfl rfl rfl ⟨f.sr,rfl⟩ (MapAt.own mQ) ?_;refine av (d:=31) (v':=.tuple #[mkV m,.bool (aO (.int .i64 f.sr) x.rl).isSome]) rfl (by show Value.tuple #[(aO (.int .i64 f.sr) x.rl).getD (mkV (0,0)),_]=_;rw[hm]) ?_;refine go 17 ?_;apply aL (d:=35) (dp:=43) (l':=(Sq.of [])) rfl (sK [0,3,4,5,8] rfl)
  ·intro hb2 K2;refine go 6 ?_;refine ab (ij (f.ep,f.ct) m) (h:=?_);refine go 1 ?_;exact K2 _ (.cons rfl (sK [0,3,4,5,8] rfl))
  ·intro hb2 K2;refine go 8 ?_;exact K2 _ (.cons rfl (sK [0,3,4,5,8] rfl))
  refine go 2 ?_;refine CW.cond rfl (fun hgr=>?_) (fun hgr=>?_)
  ·refine CW.goto ?_;refine GQ.seq ?_;exact GQ.at (γ:=Int×Rdg×UX×Nat) (4,rz 0,x,b3) ⟨(fun h=>by cases h),hx,rfl,rfl,hev⟩ (.cons rfl (.cons rfl (.cons rfl (.cons rfl .nil)))) wE
  ·refine go 3 ?_;refine ae (Sq.of [0,1,2,3,4,5,6,7,8,9,10]) [9] [9] [0,1,2,4,5,6,10] (h:=?_);refine go 9 ?_;refine RL.call ((gcheck_any C.B.G x.g f p c n x.u.now hC.mo hx.g hf hn hnb).bundle) (hl:=.inI mQ .nil) (hb:=.inr rfl) (h:=?_);rintro _ _ _ ⟨_,⟨rfl,rfl,cm,ct',hcm,hct,rfl⟩,rfl⟩;have hg':GOk { x.g with l:=eH C.B.G x.g f x.u.now,M:=ew x.g f x.u.now,cm:=cm,D:=chkD x.g.D (di x.g f x.u.now),ct:=ct' }:=⟨hx.g.t,hx.g.k,by rw[lookL_len];exact hx.g.l,hcm,hx.g.y,hct⟩;have hM':MB (ew x.g f x.u.now):=mb_look hx.M hf _;have hx1:UX.Ok { x with g:= { x.g with l:=eH C.B.G x.g f x.u.now,M:=ew x.g f x.u.now,cm:=cm,D:=chkD x.g.D (di x.g f x.u.now),ct:=ct' } }:=⟨hx.st,hg',hx.T,hx.la,hx.be,hM',hx.rl,hx.D,hx.lk,hx.n0⟩;generalize hge:({ x.g with l:=eH C.B.G x.g f x.u.now,M:=ew x.g f x.u.now,cm:=cm,D:=chkD x.g.D (di x.g f x.u.now),ct:=ct' }:GSt)=g1 at hg' hx1 ⊢;refine go 10 ?_;refine CW.cond rfl (fun he=>?_) (fun he=>?_)
   ·refine CW.goto ?_;refine GQ.seq ?_;exact GQ.at (γ:=Int×Rdg×UX×Nat) ((di x.g f x.u.now),rz 0,{ x with g:=g1 },b3) ⟨(fun h=>by have h:di x.g f x.u.now=0:=h;rw[h] at he;cases he),hx1,rfl,rfl,hev⟩ (.cons rfl (.cons rfl (.cons rfl (.cons rfl .nil)))) wE
   ·cases hgo:bV 7 f.b with
    | none=>
     have hget:=get_all f.kd p n c f.b hn hnc;rw[show bV f.kd f.b=none by rw[hkd];exact hgo] at hget;unfold hP at hget;refine go 8 ?_;refine ar (hget) (hl:=.inI mQ .nil) (h:=?_);refine go 25 ?_;apply au (d:=79) (dp:=84) (l':=(Sq.of [11,12,13])) rfl (sK [0,3,5,8,74] rfl)
     ·intro hb6 K6;refine go 3 ?_;refine ar (short_any C.B x.u g1 x.rl f.sr (C.d:Int) m hg' hm hC.c) (hl:=Lend.inH mQ (Lend.inH (x:=allI (GI C.B.G g1)) mQ (Lend.inH mQ .nil))) (h:=?_);refine go 1 ?_;exact K6 _ (.cons rfl (sK [0,3,5,8,74] rfl))
     ·intro hb6 K6;refine go 5 ?_;exact K6 _ (.cons rfl (sK [0,3,5,8,74] rfl))
     refine go 2 ?_;refine aj (cs':=C.B.cells { x.u with nd:=Bool.or x.u.nd (shB g1 m (C.d:Int) f.sr) }) (vs:=[_]) rfl KS4.h rfl rfl rfl rfl rfl rfl rfl rfl uE (by rw[gO];simp) ?_;refine go 3 ?_;refine CW.label (go 6 ?_);refine RL.call (tell_any C.B { x.u with nd:=Bool.or x.u.nd (shB g1 m (C.d:Int) f.sr) } f p c n 120 (rz 0) x.ct x.D hx.D hf.tag hev) (hl:=.nil) (hb:=.inr rfl) (h:=?_);rintro _ _ _ ⟨rfl,rfl,eo,ec,ct2,D2,hD2,rfl⟩;refine go 1 ?_;refine NQ.jump ?_;exact NQ.rea (fun _ h=>h) (H':=own eo ec 73 62 1 (evC f (120) (rz 0))::UL C ⟨{ x.u with nd:=Bool.or x.u.nd (shB g1 m (C.d:Int) f.sr),ev:=aE eo 1 ec },x.A,x.K,x.bg,g1,x.rl,x.nw,ct2,D2⟩) rE (NQ.post (dn rfl) (.keep (.keep (.keep (.keep (.keep (.keep (.keep (.keep (.keep (.keep .nil)))))))))) ⟨rfl,rfl,120,rz 0,⟨{ x.u with nd:=Bool.or x.u.nd (shB g1 m (C.d:Int) f.sr),ev:=aE eo 1 ec },x.A,x.K,x.bg,g1,x.rl,x.nw,ct2,D2⟩,eo,ec,(fun h=>by cases h),⟨hx1.st,hx1.g,hx1.T,hx1.la,hx1.be,hx1.M,hx1.rl,hD2,hx1.lk,hx1.n0⟩,rfl,rfl,rfl,rfl⟩)
    | some r=>
     have hget:=get_all f.kd p n c f.b hn hnc;rw[show bV f.kd f.b=some r by rw[hkd];exact hgo] at hget;unfold hP at hget;refine go 8 ?_;refine ar (hget) (hl:=.inI mQ .nil) (h:=?_);refine go 20 ?_;refine ar (act7_any C.B.b f.sr r (got7 hgo)) (hl:=.nil) (h:=go 15 ?_);apply au (d:=79) (dp:=84) (l':=(Sq.of [11,12,13])) rfl (sK [0,3,5,8,74] rfl)
     ·intro hb6 K6;refine go 3 ?_;refine ar (short_any C.B x.u g1 x.rl f.sr (C.d:Int) m hg' hm hC.c) (hl:=Lend.inH mQ (Lend.inH (x:=allI (GI C.B.G g1)) mQ (Lend.inH mQ .nil))) (h:=?_);refine go 1 ?_;exact K6 _ (.cons rfl (sK [0,3,5,8,74] rfl))
     ·intro hb6 K6;refine go 5 ?_;exact K6 _ (.cons rfl (sK [0,3,5,8,74] rfl))
     refine go 2 ?_;refine aj (cs':=C.B.cells { x.u with nd:=Bool.or x.u.nd (shB g1 m (C.d:Int) f.sr) }) (vs:=[_]) rfl KS4.h rfl rfl rfl rfl rfl rfl rfl rfl uE (by rw[gO];simp) ?_;refine go 3 ?_;refine CW.label (go 6 ?_);refine RL.call (tell_any C.B { x.u with nd:=Bool.or x.u.nd (shB g1 m (C.d:Int) f.sr) } f p c n 0 r x.ct x.D hx.D hf.tag hev) (hl:=.nil) (hb:=.inr rfl) (h:=?_);rintro _ _ _ ⟨rfl,rfl,eo,ec,ct2,D2,hD2,rfl⟩;refine go 1 ?_;refine NQ.jump ?_;exact NQ.rea (fun _ h=>h) (H':=own eo ec 73 62 1 (evC f (0) (r))::UL C ⟨{ x.u with nd:=Bool.or x.u.nd (shB g1 m (C.d:Int) f.sr),ev:=aE eo 1 ec },x.A,x.K,x.bg,g1,x.rl,x.nw,ct2,D2⟩) rE (NQ.post (dn rfl) (.keep (.keep (.keep (.keep (.keep (.keep (.keep (.keep (.keep (.keep .nil)))))))))) ⟨rfl,rfl,0,r,⟨{ x.u with nd:=Bool.or x.u.nd (shB g1 m (C.d:Int) f.sr),ev:=aE eo 1 ec },x.A,x.K,x.bg,g1,x.rl,x.nw,ct2,D2⟩,eo,ec,(fun _=>hgo),⟨hx1.st,hx1.g,hx1.T,hx1.la,hx1.be,hx1.M,hx1.rl,hD2,hx1.lk,hx1.n0⟩,rfl,rfl,rfl,rfl⟩)
 ·rintro⟨e,r,y,ba⟩ ⟨he,hy,hyn,hyw,hyv⟩;refine go 8 ?_;refine RL.call (tell_any C.B y.u f p c n e r y.ct y.D hy.D hf.tag hyv) (hl:=.nil) (hb:=.inr rfl) (h:=?_);rintro _ _ _ ⟨rfl,rfl,eo,ec,ct2,D2,hD2,rfl⟩;refine go 1 ?_;refine NQ.jump ?_;exact NQ.rea (fun _ h=>h) (H':=own eo ec 73 62 1 (evC f (e) (r))::UL C ⟨{ y.u with ev:=aE eo 1 ec },y.A,y.K,y.bg,y.g,y.rl,y.nw,ct2,D2⟩) rE (NQ.post (dn rfl) (.keep (.keep (.keep (.keep (.keep (.keep (.keep (.keep (.keep (.keep .nil)))))))))) ⟨rfl,rfl,e,r,⟨{ y.u with ev:=aE eo 1 ec },y.A,y.K,y.bg,y.g,y.rl,y.nw,ct2,D2⟩,eo,ec,he,⟨hy.st,hy.g,hy.T,hy.la,hy.be,hy.M,hy.rl,hD2,hy.lk,hy.n0⟩,hyn,hyw,rfl,rfl⟩)
theorem atO_none{T:List One}{s:Int}(h:atO T s=none):∀o∈T,(o.s:Int)≠s:=fun o ho e=>by
 have:=List.find?_eq_none.1 h o ho
 simp[e] at this
theorem tok_put{T:List One}(h:TOk T)(s:Int){k:List B8}(hk:k.length=32)(b:Nat):TOk (putT T s k b)∧(putT T s k b).length≤T.length+1:=by
 unfold putT;split
 ·next hm=>
  have hm:0≤s∧s<8:=by simpa[cE] using hm
  split
  ·next hn=>
   have hno:=atO_none hn;refine⟨⟨?_,?_,?_,?_,?_,?_⟩,by simp⟩
   ·intro o ho;rcases List.mem_append.1 ho with ho|ho
    ·exact h.k o ho
    ·rw[List.mem_singleton.1 ho];exact hk
   ·intro o ho;rcases List.mem_append.1 ho with ho|ho
    ·exact h.e1 o ho
    ·rw[List.mem_singleton.1 ho];exact Nat.le_refl _
   ·intro o ho;rcases List.mem_append.1 ho with ho|ho
    ·exact h.e2 o ho
    ·rw[List.mem_singleton.1 ho];show 1<4294967296;decide
   ·intro o ho;rcases List.mem_append.1 ho with ho|ho
    ·exact h.s o ho
    ·rw[List.mem_singleton.1 ho];show s.toNat<8;omega
   ·intro o ho;rcases List.mem_append.1 ho with ho|ho
    ·exact h.g o ho
    ·rw[List.mem_singleton.1 ho];exact Int.le_refl _
   ·rw[List.map_append,List.nodup_append];refine⟨h.nd,by simp,fun x hx y hy e=>?_⟩;obtain⟨o,ho,rfl⟩:=List.mem_map.1 hx;have hy:y=s.toNat:=by simpa using hy
    exact hno o ho (by omega)
  ·exact⟨h,by omega⟩
 ·exact⟨h,by omega⟩
theorem tok_src{g:GSt}(h:TOk g.T)(s:Int){k:List B8}(hk:k.length=32)(ks:List Int)(b:Nat):TOk (srcT g s k ks b)∧(srcT g s k ks b).length≤g.T.length+1:=by
 unfold srcT;split
 ·exact⟨h,by omega⟩
 ·exact tok_put h s hk b
theorem raise0(T:List One)(s:Int):eI T s 0=T:=by
 unfold eI;split
 ·split
  ·rfl
  ·rw[if_neg (by omega)]
 ·rfl
theorem mb_gra{g:GSt}(h:MB g.M)(s:Int):MB (graM g s (0,0)):=by
 unfold graM;split
 ·exact mb_take h s (by decide) (by decide)
 ·exact h
theorem sr_rootU(s:Sr):∀(j:Nat) (u:Value),(bytes s.rt)[j]?=some u→s.cells[0+2+j]?=some u:=fun j u hj=>by
 rw[Sr.cells,show 0+2+j=j+1+1 by omega]
 simp only[List.getElem?_cons_succ]
 rw[List.getElem?_append_left (List.getElem?_eq_some_iff.1 hj).1];exact hj
theorem jd_look{JL:List Jd}{s:Int}(h:∀j∈JL,(j.id:Int)≠s):aO (.int .i64 s) (jdC JL)=none:=by
 induction JL with
 | nil=>rfl
 | cons j JL ih=>show aO (.int .i64 s) ((.int .i64 (j.id:Int),_)::jdC JL)=none;rw[aO,if_neg (fun e=>h j (List.mem_cons_self ..) (by injection e with _ e;exact e.symm)),ih fun x hx=>h x (List.mem_cons_of_mem _ hx)]
theorem jd_in{w0 w:World}{S:List Nat}{I:List It}{JL:List Jd}{j:Jd}{X Y:It}(h:Cls w0 S I [jI j.b j.kb j.g0 j.g1 j.g2 j.sp j.mp j.tm,qI j.kb j.bd j.ho j.pr,X,Y,allI (JL.map jdI)] w):Cls w0 S I [X,Y,allI ((JL++[j]).map jdI)] w:=by
 have h1:Cls w0 S I (jdI j::[X,Y,allI (JL.map jdI)]) w:=Cls.pack (l:=[jI j.b j.kb j.g0 j.g1 j.g2 j.sp j.mp j.tm,qI j.kb j.bd j.ho j.pr]) h;have h2:Cls w0 S I (allI (JL.map jdI)::[jdI j,X,Y]) w:=h1.rea (fun _ h=>h) rE;have h3:=h2.unpack;have h4:Cls w0 S I (((JL++[j]).map jdI)++[X,Y]) w:=by rw[List.map_append,List.append_assoc];exact h3
 exact h4.pack.rea (fun _ h=>h) rE
structure SrF(g:GSt)(s:Sr)(g':GSt):Prop where
 l:g'.l=g.l
 M:g'.M=g.M
 T:∀i o,atO g.T i=some o→atO g'.T i=some o
 Y:∀a b,g.Y a b=true→g'.Y a b=true
 n:(aH s.kd).length>0→atO g.T s.id=none→(∃b,atO g'.T s.id=some ⟨s.id.toNat,s.rt,1,-1,b⟩)∧∀k∈aH s.kd,g'.Y s.id k=true
theorem kinds_odd(n:Int):(aH n).any oddG=false:=by
 unfold aH;split
 ·next h=>
  have:n=1∨n=2∨n=3∨n=4:=by omega
  rcases this with rfl|rfl|rfl|rfl<;>rfl
 ·split<;>rfl
theorem srF_no{g:GSt}{s:Sr}(h:(aH s.kd).length=0):SrF g s g:=⟨rfl,rfl,fun _ _ h=>h,fun _ _ h=>h,fun h'=>by omega⟩
theorem srF_put{g:GSt}{s:Sr}(h:(aH s.kd).length>0)(hid:0≤s.id∧s.id≤7)(b:Nat)(c' cy:List (Value×Value)):SrF g s { g with T:=srcT g s.id s.rt (aH s.kd) b,c:=c',Y:=srcY g s.id (aH s.kd),cy:=cy }:=by
 have hne: ¬(aH s.kd=[]∨(aH s.kd).any oddG=true):=by
  rw[kinds_odd];rintro(h'|h')
  ·rw[h'] at h;simp at h
  ·cases h'
 have hm:cE s.id=true:=by simp[cE];omega
 refine⟨rfl,rfl,fun i o ho=>?_,fun a q hq=>?_,fun _ hn=>⟨⟨b,?_⟩,fun k hk=>?_⟩⟩
 ·show atO (srcT g s.id s.rt (aH s.kd) b) i=some o;rw[srcT,if_neg hne,putT,if_pos hm]
  cases hx:atO g.T s.id with
  | none=>show(g.T++[_]).find? _=some o;rw[List.find?_append];have:g.T.find? (fun o=>(o.s:Int)==i)=some o:=ho;rw[this];rfl
  | some _=>exact ho
 ·show srcY g s.id (aH s.kd) a q=true;unfold srcY;split
  ·unfold addY;rw[hq,Bool.or_true]
  ·exact hq
 ·show atO (srcT g s.id s.rt (aH s.kd) b) s.id=_;rw[srcT,if_neg hne,putT,if_pos hm,hn];show(g.T++[_]).find? _=_;rw[List.find?_append];have:g.T.find? (fun o=>(o.s:Int)==s.id)=none:=hn;rw[this];simp;omega
 ·show srcY g s.id (aH s.kd) s.id k=true;have he:srcE g s.id (aH s.kd)=0:=by rw[srcE,if_neg hne,kputE,if_pos hm,hn]
  rw[srcY,if_pos he,addY];simp[hk]
theorem SrF.raise{g g1:GSt}{s:Sr}(h:SrF g s g1)(ht:TOk g1.T)(c2 cm2:List (Value×Value)):SrF g s { g1 with T:=g1.T,c:=c2,M:=graM g1 s.id (0,0),cm:=cm2 }:=by
 refine⟨h.l,?_,h.T,h.Y,h.n⟩;show graM g1 s.id (0,0)=g.M
 have hr:fF g1.T s.id 0≠0:=by
  unfold fF;split
  ·cases hx:atO g1.T s.id with
   | none=>decide
   | some o=>have:=ht.e1 o (List.mem_of_find?_eq_some hx);dsimp only;rw[if_pos (by omega)];decide
  ·decide
 rw[graM,if_neg hr,h.M]
def SrcW(B:UB)(u:US)(g:GSt)(JL:List Jd)(s:Sr):Value→List It→List It→Prop:=fun v I' H'=>v=.tuple #[]∧I'=[]∧∃(g':GSt) (JL':List Jd),GOk g'∧g'.T.length≤g.T.length+1∧MB g'.M∧(∀j∈JL',j.Ok)∧(∀j∈JL',j∈JL∨(j.id:Int)=s.id)∧SrF g s g'∧H'=[allI (GI B.G g'),aN B.jm aF (jdC JL'),allI (JL'.map jdI)]
theorem uguarded_any(n:Int):Spc Tryz.prog 185 #[.int .i64 n] [] [] (Is (.bool (decide (((aH n).length:Int)>0)))):=by
 have hkl:(aH n).length≤6:=by
  unfold aH;split
  ·simp
  ·split<;>simp
 refine Spc.enter Tryz.func185 (h:=?_);refine fun w0 hw0=>?_;refine go 8 ?_;refine RL.call (kinds_any n) (hl:=.nil) (hb:=.inl rfl) (h:=?_);rintro _ _ _ ⟨ob,cap,rfl,rfl,rfl⟩;refine go 6 ?_;exact RQ.post (az rfl rfl) (.drop .nil) ⟨rfl,rfl,rfl⟩
theorem usource_any(B:UB)(u:US)(g:GSt)(JL:List Jd)(s:Sr)(hs:s.Fit)(hg:GOk g)(hM:MB g.M)(hid:0≤s.id∧s.id≤7)(hw:2≤s.kd∧s.kd≤5→s.wt.Ok)(hJ:∀j∈JL,j.Ok)(hnj:∀j∈JL,(j.id:Int)≠s.id)(hla:u.la=rz0):Spc Tryz.prog 115 #[.pointer (some ⟨B.b,0,none⟩),.agg s.cells.toArray] [B.it u] [allI (GI B.G g),aN B.jm aF (jdC JL),allI (JL.map jdI)] (SrcW B u g JL s):=by
 have hl:=c7 hs.rt;have hrt:=hs.rt;refine Spc.enter Tryz.func115 (h:=?_);refine fun w0 hw0=>?_;refine go 6 ?_;intro b1;refine aB (A:=[_]) (B:=[_,_,_]) (.take (.leave (.leave (.leave .nil)))) rfl ?_;refine aW (fun J hJ'=>?_);have m:cel b1 s.cells 167∈J:=hJ' _ (by simp);have mU:B.it u∈J:=hJ' _ (by simp);clear hJ';obtain⟨iq,hiq,hidq⟩:∃i:Nat,i<8∧s.id=(i:Int):=⟨s.id.toNat,by omega,by omega⟩;have hms:rz0.ms[iq]?=some (0,0):=by show(List.replicate 8 (0,0))[iq]?=_;rw[List.getElem?_replicate,if_pos hiq]
 have g48:RdI J ⟨B.b,0+48,none⟩ (.pointer (some ⟨B.G.gb,0,none⟩)):=⟨fun _=>Rd.celI mU rfl⟩;have g51:RdI J ⟨B.b,0+51,none⟩ (.map (some B.jm)):=⟨fun _=>Rd.celI mU rfl⟩;have gM:RdsN J ⟨B.b,0+56+1+iq*2,none⟩ 2 [.int .u32 (0:Int),.int .u64 (0:Int)]:=aV mU (fun j v hj=>by have h1:=un_la B (u:=u) (by rw[hla];exact rz0_ok) (1+iq*2+j) v (by rw[hla];exact rc_mark rz0_ok hms j v hj);rwa[show 0+56+(1+iq*2+j)=0+56+1+iq*2+j by omega] at h1) rfl
 have f0:RdI J ⟨b1,0+0,none⟩ (.int .i64 s.id):=⟨fun _=>Rd.celI m rfl⟩;have f1:RdI J ⟨b1,0+1,none⟩ (.int .i64 s.kd):=⟨fun _=>Rd.celI m rfl⟩;have fW:RdsN J ⟨b1,0+38,none⟩ 10 s.wt.cells:=aV m (fun j u hj=>by rw[sr_w hs.rt];exact hj) rfl;have fR:RdsN J ⟨b1,0+2,none⟩ 32 (bytes s.rt):=aV m (sr_rootU s) (by rw[List.length_map,hrt]);refine fQ (γ:=GSt) (fun g'=>GOk g'∧g'.T.length≤g.T.length+1∧MB g'.M∧SrF g s g') (fun _=>[(0,.pointer (some ⟨B.b,0,none⟩)),(3,.pointer (some ⟨b1,0,none⟩))]) (fun _=>J) (fun g'=>[allI (GI B.G g'),aN B.jm aF (jdC JL),allI (JL.map jdI)]) ?_ ?_
 ·have hkl:(aH s.kd).length≤6:=by
   unfold aH;split
   ·simp
   ·split<;>simp
  refine go 4 ?_;refine ar (uguarded_any s.kd) (hl:=.nil) (h:=go 2 ?_);refine CW.cond rfl (fun hgd=>?_) (fun hgd=>?_)
  ·refine go 1 ?_;refine ae (Sq.of [0,1,2,3,4,5,6,7,8,9,10,11]) [10,11] [11] [0,1,2,3,4,5,6,7,8,9] (h:=?_);refine go 10 ?_;refine RL.call (kinds_any s.kd) (hl:=.nil) (hb:=.inl rfl) (h:=?_);rintro _ _ _ ⟨ob,cap,rfl,rfl,rfl⟩;refine RL.call ((gsource_any B.G g s.id s.rt (ob.map fun b=>⟨b,0,none⟩) cap (aH s.kd).length (aH s.kd) hg hrt rfl (by omega)).bundle) (hl:=Lend.own mQ .nil) (hb:=.inr rfl) (h:=?_);rintro _ _ _ ⟨_,⟨rfl,rfl,bq,c',cy,hk',hy',rfl⟩,rfl⟩;have htk:=tok_src hg.t s.id hrt (aH s.kd) bq;have hg1:GOk { g with T:=srcT g s.id s.rt (aH s.kd) bq,c:=c',Y:=srcY g s.id (aH s.kd),cy:=cy }:=⟨htk.1,hk',hg.l,hg.m,hy',hg.d⟩;have hM1:MB ({ g with T:=srcT g s.id s.rt (aH s.kd) bq,c:=c',Y:=srcY g s.id (aH s.kd),cy:=cy }:GSt).M:=hM;have hT1:({ g with T:=srcT g s.id s.rt (aH s.kd) bq,c:=c',Y:=srcY g s.id (aH s.kd),cy:=cy }:GSt).T.length≤g.T.length+1:=htk.2;have hF1:=srF_put (g:=g) (s:=s) (by simpa using hgd) hid bq c' cy;generalize ({ g with T:=srcT g s.id s.rt (aH s.kd) bq,c:=c',Y:=srcY g s.id (aH s.kd),cy:=cy }:GSt)=g1 at hg1 hM1 hT1 hF1 ⊢;refine go 2 ?_;refine ae (Sq.of [0,1,2,3,4,5,6,7,8,9,10,11,12,13,14]) [14] [14] [0,1,2,3,4,5,6,7,8,9,10,11,12,13] (h:=?_);refine go 12 ?_;refine al (j:=iq) (ho:=rfl) (hj:=hidq) (hlt:=hiq) (h:=go 1 ?_);refine RL.call ((graise_any B.G g1 s.id (0,0) hg1 (by decide)).bundle) (hl:=.nil) (hb:=.inr rfl) (h:=?_);rintro _ _ _ ⟨_,⟨rfl,rfl,c2,cm2,hk2,hm2,rfl⟩,rfl⟩;rw[raise0] at hk2 ⊢;refine go 1 ?_;exact aJ { g1 with T:=g1.T,c:=c2,M:=graM g1 s.id (0,0),cm:=cm2 } ⟨⟨hg1.t,hk2,hg1.l,hm2,hg1.y,hg1.d⟩,hT1,mb_gra hM1 s.id,hF1.raise hg1.t c2 cm2⟩ (.cons rfl (.cons rfl .nil)) wE
  ·refine go 1 ?_;exact aJ g ⟨hg,by omega,hM,srF_no (by simpa using hgd)⟩ (.cons rfl (.cons rfl .nil)) wE
 ·rintro g' ⟨hg',hT',hM',hF'⟩;refine go 6 ?_;apply aL (d:=37) (dp:=41) (l':=(Sq.of [])) rfl (sK [0,3] rfl)
  ·intro hb4 K4;refine go 4 ?_;exact K4 _ (.cons rfl (sK [0,3] rfl))
  ·intro hb4 K4;refine go 4 ?_;exact K4 _ (.cons rfl (sK [0,3] rfl))
  refine go 2 ?_;refine CW.cond rfl (fun hkd=>?_) (fun hkd=>?_)
  ·have hkd:2≤s.kd∧s.kd≤5:=by simp at hkd;omega
   refine ae (Sq.of [0,1,2,3,4,5,6,7,8,9,10,11,12]) [8,12] [12] [0,1,2,3,4,5,6,7,9,10,11] (h:=?_);refine go 8 ?_;refine RL.call (wnew_yes s.wt (hw hkd)) (hl:=.nil) (hb:=.inl rfl) (h:=?_);rintro _ _ _ ⟨j,hjh,rfl,rfl,rfl⟩;refine go 3 ?_;refine RL.mapUpdate keyI (ho:=rfl) (hk:=⟨s.id,rfl⟩) (hup:=uE) (h:=?_);refine go 1 ?_;have hset:cD (.int .i64 s.id) (.pointer (some ⟨j.b,0,none⟩)) (jdC JL)=jdC (JL++[{ j with id:=iq }]):=by rw[gd (jd_look hnj),jdC,jdC,List.map_append,hidq];rfl
   have hq:NQ (FnPost Tryz.prog Tryz.f115 (SrcW B u g JL s) w0 (bss [allI (GI B.G g),aN B.jm aF (jdC JL),allI (JL.map jdI)])) ⟨Tryz.f115.ntmps,[],none⟩ [] w0 (bss [allI (GI B.G g),aN B.jm aF (jdC JL),allI (JL.map jdI)]) ([]++J) [allI (GI B.G g'),aN B.jm aF (jdC (JL++[{ j with id:=iq }])),allI ((JL++[{ j with id:=iq }]).map jdI)]:=by
    refine NQ.post (dn rfl) (.keep (.keep (.keep .nil))) ⟨rfl,rfl,g',JL++[{ j with id:=iq }],hg',hT',hM',?_,?_,hF',rfl⟩
    ·intro x hx;rcases List.mem_append.1 hx with hx|hx
     ·exact hJ x hx
     ·rw[List.mem_singleton.1 hx];exact⟨hiq,by show 1≤j.ho;rw[hjh];exact(hw hkd).2.2.2.2.2.1⟩
    ·intro x hx;rcases List.mem_append.1 hx with hx|hx
     ·exact .inl hx
     ·rw[List.mem_singleton.1 hx];exact .inr hidq.symm
   intro a w ha hw';refine hq a w (ha.sub .nil) ?_;rw[←hset];exact jd_in (j:= { j with id:=iq }) hw'
  ·refine go 1 ?_;exact NQ.post (dn rfl) (.keep (.keep (.keep .nil))) ⟨rfl,rfl,g',JL,hg',hT',hM',hJ,fun j h=>.inl h,hF',rfl⟩
abbrev FrG:=Int×Rdg×UX×Option Nat×Nat
def lpI:Option FrG→Int
 | none=>0
 | some _=>1
def lpP(C:UC)(x:UX)(f:Fr):Option FrG→Prop
 | none=>True
 | some (e,r,y,eo,ec)=>(e=0→bV 7 f.b=some r)∧y.Ok∧y.u.now=x.u.now∧y.nw=x.nw∧y.u.ev=aE eo 1 ec
def lpH(C:UC)(x:UX)(f:Fr)(J:List It):Option FrG→List It
 | none=>J++UL C x
 | some (e,r,y,eo,ec)=>own eo ec 73 62 1 (evC f e r)::(J++UL C y)
def UByR(C:UC)(x:UX)(f:Fr)(nz sm:Int):Value→List It→List It→Prop:=fun v I' H'=>∃(e:Int) (r:Rdg) (y:UX) (eo:Option Nat) (ec:Nat) (p':Option Addr) (c':Nat),v=.tuple #[aE eo 1 ec,.int .i64 0]∧I'=[]∧(e=0→bV 7 f.b=some r)∧y.Ok∧y.u.now=x.u.now∧y.nw=x.nw∧H'=own eo ec 73 62 1 (evC f e r)::hnI C.B.h p' c' nz sm::UL C y
theorem ubytes_any(C:UC)(x:UX)(f:Fr)(h0:Option Addr)(c0:Nat)(nz sm:Int)(q:Option Addr)(c n:Nat)(hC:C.Ok)(hx:x.Ok)(hb:x.u.now≤1000000)(hf:f.Fit)(hkd:f.kd=7)(hn:(eA f).length=n):Spc Tryz.prog 19 #[.pointer (some ⟨C.B.b,0,none⟩),.slice q n c] [sls q 1 n (bytes (eA f))] (hnI C.B.h h0 c0 nz sm::UL C x) (UByR C x f nz sm):=by
 have hbl:=hf.b;have hx1:UX.Ok { x with u:= { x.u with ev:=aE none 0 0 } }:=⟨hx.st,hx.g,hx.T,hx.la,hx.be,hx.M,hx.rl,hx.D,hx.lk,hx.n0⟩;refine Spc.enter Tryz.func19 (h:=?_);refine fun w0 hw0=>?_;refine go 10 ?_;refine ar (uis_any C.B x.u) (hl:=Lend.inH mQ .nil) (h:=?_);refine go 11 ?_;refine aj (vs:=[_]) (un_setev C.B x.u (aE none 0 0)) (ho:=rfl) (hl:=by rw[gO];simp) (h:=?_);refine go 9 ?_;refine RL.call (feed_any C.B.h h0 c0 nz sm q c n f hf hn) (hl:=.inI mQ .nil) (hb:=.inr rfl) (h:=?_);rintro _ _ _ ⟨p',c',ol,cl,ob,cap,rfl,rfl,rfl⟩;refine go 16 ?_;have h21:=dT hf.ok.tag (aE ob f.b.length cap)
 refine CW.loop (γ := Option FrG) (lpP C x f) (fun g => [(0, .pointer (some ⟨C.B.b, 0, none⟩)), (7, .int .i64 0), (25, aE ol 1 cl), (26, .int .i64 1), (27, .int .i64 (lpI g))]) (fun _ => [])
   (lpH C { x with u := { x.u with ev := aE none 0 0 } } f [hnI C.B.h p' c' nz sm, own ol cl 151 21 1 (f.cells (aE ob f.b.length cap)), own ob cap 5 1 f.b.length (bytes f.b)]) (fun g => if g.isSome = true then 0 else 1) none trivial
   (.cons rfl (.cons rfl (.cons rfl (.cons rfl (.cons rfl .nil))))) (fun w h => h.rea (fun _ h => by cases h) rE) ?_
 rintro g hg
 cases g with
 | none=>
  dsimp only[lpI,lpH];refine go 7 ?_;refine aR (p:=(ol=none→False)∧f.b.length≤cap) (fun w hC=>⟨fun e=>by subst e;have:=dW (hC.s.h (own none cl 151 21 1 (f.cells (aE ob f.b.length cap))) mQ);omega,iY (hC.s.h (own ob cap 5 1 f.b.length (bytes f.b)) mQ)⟩) (fun hob=>?_)
  cases ol with
  | none=>exact(hob.1 rfl).elim
  | some b=>
  refine go 6 ?_;refine aS (j:=0) (ho:=rfl) (hlt:=by decide) (h:=?_);refine ak (vs:=f.cells (aE ob f.b.length cap)) (hs:=by rw[h21];exact KS151.h) (ho:=rfl) (hr:=(Rds.own mQ).part (j:=0*21) (fun q u h=>by simpa using h)) (h:=?_);refine go 1 ?_;intro b1;refine an (ho:=rfl) (h1:=ig _ rfl) (hv:=h21) (h:=?_);refine go 4 ?_;refine aT (ho:=rfl) (hl:=h21) (h:=?_);refine RL.call (uframe_any C { x with u:= { x.u with ev:=aE none 0 0 } } f (ob.map fun b=>⟨b,0,none⟩) cap f.b.length hC hx1 hb hf.ok hkd rfl (by omega) hob.2 rfl) (hl:=Lend.own mQ .nil) (hb:=.inr rfl) (h:=?_);rintro _ _ _ ⟨rfl,rfl,e,r,y,eo,ec,he,hy,hyn,hyw,hyv,rfl⟩;refine go 4 ?_;refine ap rfl (ad (by omega) (by omega)) ?_;refine go 2 ?_;exact NQ.round (g:=none) (some (e,r,y,eo,ec)) ⟨he,hy,hyn,hyw,hyv⟩ (show 0<1 by decide) (.cons rfl (.cons rfl (.cons rfl (.cons rfl (.cons rfl .nil))))) wE
 | some g=>obtain⟨e,r,y,eo,ec⟩:=g;obtain⟨he,hy,hyn,hyw,hyv⟩:=hg;dsimp only[lpI,lpH];refine go 17 ?_;refine RL.load (ho:=rfl) (hr:=Rd.get mQ (un_ev C.B y.u)) (h:=?_);rw[hyv];refine go 6 ?_;exact RQ.rea (fun _ h=>h) (H':=own eo ec 73 62 1 (evC f e r)::hnI C.B.h p' c' nz sm::UL C y) rE (RQ.post (bb rfl rfl rfl) (.keep (.keep (.keep (.keep (.keep (.keep (.keep (.keep (.keep (.keep (.keep .nil))))))))))) ⟨e,r,y,eo,ec,p',c',rfl,rfl,he,hy,hyn,hyw,rfl⟩)
def OutR(C:UC)(nw:Int):Value→List It→List It→Prop:=fun v I' H'=>I'=[]∧(∃a0 a1 a2 a3 a4 a5 a6 a7:Int,v=.agg #[.int .i64 a0,.int .i64 a1,.int .i64 a2,.int .i64 a3,.int .i64 a4,.int .i64 a5,.int .u32 a6,.int .i64 a7])∧H'=nvL C nw
def UC.out(C:UC):Prop:=∀nw:Int,0≤nw→Spc Tryz.prog 135 #[.pointer (some ⟨C.B.nb,0,none⟩)] [] (nvL C nw) (OutR C nw)
def stS(md a b c fl:Int):List Value:=[.int .i64 13,.int .i32 0,.int .i32 0,.int .i32 0,.int .i32 0,.int .i32 0,.int .i32 0,.int .i64 0,.int .u32 0,.int .i32 0,.int .u32 0,.int .u32 0,.int .u8 0,.int .i64 a,.int .i64 b,.int .i64 c]++(List.replicate 32 (.int .u8 0)++[.int .u64 0,.int .u8 md,.int .u32 0,.int .i64 0,.int .u32 fl,.int .u8 0,.int .u8 0,.int .u16 0,.int .u64 0])
theorem jf(md a b c fl:Int):(stS md a b c fl).length=57:=rfl
theorem stS_ones(md a b c fl:Int):dO (stS md a b c fl)=true:=rfl
theorem fill_stS(md a b c fl:Int){places:Array (Nat×Nat)}(hp:places= #[(0,1),(1,3),(4,3),(7,1),(8,1),(9,1),(10,1),(11,1),(12,1),(13,3),(16,32),(48,1),(49,1),(50,1),(51,1),(52,1),(53,1),(54,1),(55,1),(56,1)]):bX (places[·]?) (rz 0).cells [(0,.int .i64 13),(12,.int .u8 md),(9,.agg #[.int .i64 a,.int .i64 b,.int .i64 c]),(14,.int .i64 0),(15,.int .u32 fl)]=some (stS md a b c fl):=by subst hp;rfl
def flN(p q:Bool):Nat→Int
 | 0=>0
 | 1=>0
 | 2=>0
 | 3=>if p=true then 16 else 0
 | _=>if p=true then(if q=true then 48 else 16) else(if q=true then 32 else 0)
theorem st_fl{md a b c x y z:Int}(h:IntKind.u32.wrap ((BitVec.ofInt IntKind.u32.bits x ||| BitVec.ofInt IntKind.u32.bits y).toNat:Int)=z):bP (stS md a b c x) (0+52) [.int .u32 (IntKind.u32.wrap ((BitVec.ofInt IntKind.u32.bits x ||| BitVec.ofInt IntKind.u32.bits y).toNat:Int))]=stS md a b c z:=by rw[h];rfl
def StaR(C:UC)(x:UX):Value→List It→List It→Prop:=fun v I' H'=>I'=[]∧H'=UL C x∧∃md a b c:Int,∃p q:Bool,v=.agg (stS md a b c (flN p q 4)).toArray
theorem ustatus_any(C:UC)(x:UX)(hC:C.Ok)(ho:C.out)(hx:x.Ok)(h0:0≤x.nw):Spc Tryz.prog 71 #[.pointer (some ⟨C.B.b,0,none⟩)] [] (UL C x) (StaR C x):=by
 have hlk:=hx.lk;refine Spc.enter Tryz.func71 (h:=?_);refine fun w0 hw0=>?_;refine go 9 ?_;intro b1;refine ar (uis_any C.B x.u) (hl:=Lend.inH mQ .nil) (h:=?_);refine go 12 ?_;refine RL.call ((ho x.nw h0).bundle) (hl:=.nil) (hb:=.inr rfl) (h:=?_);rintro _ _ _ ⟨_,⟨rfl,⟨a0,a1,a2,a3,a4,a5,a6,a7,rfl⟩,rfl⟩,rfl⟩;refine go 5 ?_;intro b2;refine ae (Sq.of [0,1,2,3,4,5,6,7,8,9,10,11,12,13,14,15,16,17,18,19,20,21,22,23,24,25,26,27]) [26,27] [27] [0,1,2,4,6,7,8,10,11,12,15,16,17,19,20,21,24,25] (h:=?_);refine go 5 ?_;refine ak (vs:=[.int .i64 a0,.int .i64 a1,.int .i64 a2]) (ho:=rfl) (hr:=Rds.cel mQ (am ⟨rfl,rfl,rfl,trivial⟩)) (h:=?_);refine go 8 ?_;refine ar (nbound_any C.B.nb C.nA C.mp x.nw x.u.now hC.nA) (hl:=iE (x:=allI (nvL C x.nw)) (dm (List.Mem.head _)) mQ .nil) (h:=?_);refine go 8 ?_;refine ar (nmode_any C.B.nb C.nA C.mp x.nw x.u.now hC.nA) (hl:=iE (x:=allI (nvL C x.nw)) (dm (List.Mem.head _)) mQ .nil) (h:=?_);refine go 1 ?_;refine ay (stS x.u.md a0 a1 a2 0) (ho:=rfl) (hf:=fill_stS _ _ _ _ _ rfl) (h:=go 6 ?_);intro b3;refine ae (Sq.of [0,1,2,3,4,5,6,7,8,9,10,11,12,13,14,15,16,17,18,19,20,21,22,25,23,24]) [23] [] [0,1,2,5,6,7,8,10,11,12,13,15,16,17,18,19,21,22,24,25] (h:=?_);refine go 4 ?_;refine ar (ncut_any C.B.nb C.nA C.mp x.nw hC.nA) (hl:=iE (x:=allI (nvL C x.nw)) (dm (List.Mem.head _)) mQ .nil) (h:=?_);refine go 19 ?_;refine RL.buildSlice [_,_,_,_,_,_,_,_] (ho:=rfl) (h:=?_);intro b4;refine go 4 ?_;rw[hlk];generalize x.u.nd=p;generalize decide ((x.u.be.sq:Int)>0)=q;refine CW.loop (γ:=Nat) (fun i=>i≤4) (fun i=>[(2,.pointer (some ⟨b1,0,none⟩)),(4,.pointer (some ⟨b3,0,none⟩)),(65,.slice (some ⟨b4,0,none⟩) 4 4),(66,.int .i64 4),(67,.int .i64 (i:Int))]) (fun _=>[]) (fun i=>cel b4 [.bool false,.int .u32 4,.bool false,.int .u32 8,.bool p,.int .u32 16,.bool q,.int .u32 32] 302::cel b3 (stS x.u.md a0 a1 a2 (flN p q i)) 54::cel b1 (rz 0).cells 54::UL C x) (fun i=>4-i) 0 (by omega) (.cons rfl (.cons rfl (.cons rfl (.cons rfl (.cons rfl .nil))))) wE ?_;intro i hi
 match i,hi with
 | 0,_=>refine go 13 ?_;refine aS (j:=0) (ho:=rfl) (hlt:=by decide) (h:=?_);refine ak (vs:=[.bool false,.int .u32 4]) (ho:=rfl) (hr:=Rds.cel mQ (am ⟨rfl,rfl,trivial⟩)) (h:=?_);refine go 15 ?_;intro b5;refine ap rfl (ad (by omega) (by omega)) ?_;refine go 2 ?_;exact NQ.round (g:=0) (0+1) (by decide) (by decide) (.cons rfl (.cons rfl (.cons rfl (.cons rfl (.cons rfl .nil))))) wE
 | 1,_=>refine go 13 ?_;refine aS (j:=1) (ho:=rfl) (hlt:=by decide) (h:=?_);refine ak (vs:=[.bool false,.int .u32 8]) (ho:=rfl) (hr:=Rds.cel mQ (am ⟨rfl,rfl,trivial⟩)) (h:=?_);refine go 15 ?_;intro b5;refine ap rfl (ad (by omega) (by omega)) ?_;refine go 2 ?_;exact NQ.round (g:=1) (1+1) (by decide) (by decide) (.cons rfl (.cons rfl (.cons rfl (.cons rfl (.cons rfl .nil))))) wE
 | 2,_=>
  cases p
  ·refine go 13 ?_;refine aS (j:=2) (ho:=rfl) (hlt:=by decide) (h:=?_);refine ak (vs:=[.bool false,.int .u32 16]) (ho:=rfl) (hr:=Rds.cel mQ (am ⟨rfl,rfl,trivial⟩)) (h:=?_);refine go 15 ?_;intro b5;refine ap rfl (ad (by omega) (by omega)) ?_;refine go 2 ?_;exact NQ.round (g:=2) (2+1) (by decide) (by decide) (.cons rfl (.cons rfl (.cons rfl (.cons rfl (.cons rfl .nil))))) wE
  ·refine go 13 ?_;refine aS (j:=2) (ho:=rfl) (hlt:=by decide) (h:=?_);refine ak (vs:=[.bool true,.int .u32 16]) (ho:=rfl) (hr:=Rds.cel mQ (am ⟨rfl,rfl,trivial⟩)) (h:=?_);refine go 18 ?_;intro b5;refine aj (cs':=stS x.u.md a0 a1 a2 (flN true q 3)) (vs:=[_]) (st_fl (x:=0) (y:=16) (z:=16) (by decide+kernel)) (ho:=rfl) (hl:=by rw[jf];simp) (h:=?_);refine go 4 ?_;refine ap rfl (ad (by omega) (by omega)) ?_;refine go 2 ?_;exact NQ.round (g:=2) (2+1) (by decide) (by decide) (.cons rfl (.cons rfl (.cons rfl (.cons rfl (.cons rfl .nil))))) wE
 | 3,_=>
  cases q
  ·refine go 13 ?_;refine aS (j:=3) (ho:=rfl) (hlt:=by decide) (h:=?_);refine ak (vs:=[.bool false,.int .u32 32]) (ho:=rfl) (hr:=Rds.cel mQ (am ⟨rfl,rfl,trivial⟩)) (h:=?_);refine go 15 ?_;intro b5;refine ap rfl (ad (by omega) (by omega)) ?_;refine go 2 ?_;cases p
   ·exact NQ.round (g:=3) 4 (by decide) (by decide) (.cons rfl (.cons rfl (.cons rfl (.cons rfl (.cons rfl .nil))))) wE
   ·exact NQ.round (g:=3) 4 (by decide) (by decide) (.cons rfl (.cons rfl (.cons rfl (.cons rfl (.cons rfl .nil))))) wE
  ·cases p
   ·refine go 13 ?_;refine aS (j:=3) (ho:=rfl) (hlt:=by decide) (h:=?_);refine ak (vs:=[.bool true,.int .u32 32]) (ho:=rfl) (hr:=Rds.cel mQ (am ⟨rfl,rfl,trivial⟩)) (h:=?_);refine go 18 ?_;intro b5;refine aj (cs':=stS x.u.md a0 a1 a2 (flN false true 4)) (vs:=[_]) (st_fl (x:=0) (y:=32) (z:=32) (by decide+kernel)) (ho:=rfl) (hl:=by rw[jf];simp) (h:=?_);refine go 4 ?_;refine ap rfl (ad (by omega) (by omega)) ?_;refine go 2 ?_;exact NQ.round (g:=3) (3+1) (by decide) (by decide) (.cons rfl (.cons rfl (.cons rfl (.cons rfl (.cons rfl .nil))))) wE
   ·refine go 13 ?_;refine aS (j:=3) (ho:=rfl) (hlt:=by decide) (h:=?_);refine ak (vs:=[.bool true,.int .u32 32]) (ho:=rfl) (hr:=Rds.cel mQ (am ⟨rfl,rfl,trivial⟩)) (h:=?_);refine go 18 ?_;intro b5;refine aj (cs':=stS x.u.md a0 a1 a2 (flN true true 4)) (vs:=[_]) (st_fl (x:=16) (y:=32) (z:=48) (by decide+kernel)) (ho:=rfl) (hl:=by rw[jf];simp) (h:=?_);refine go 4 ?_;refine ap rfl (ad (by omega) (by omega)) ?_;refine go 2 ?_;exact NQ.round (g:=3) (3+1) (by decide) (by decide) (.cons rfl (.cons rfl (.cons rfl (.cons rfl (.cons rfl .nil))))) wE
 | 4,_=>refine go 14 ?_;refine aT (ho:=rfl) (hl:=jf _ _ _ _ _) (h:=?_);refine an (ho:=rfl) (h1:=stS_ones _ _ _ _ _) (hv:=jf _ _ _ _ _) (h:=?_);refine go 3 ?_;exact RQ.post (cU rfl rfl KA54.h KS54.h mQ (jf _ _ _ _ _)) (.drop (.drop (.drop (.keep (.keep (.keep (.keep (.keep (.keep (.keep (.keep (.keep .nil)))))))))))) ⟨rfl,rfl,x.u.md,a0,a1,a2,p,q,rfl⟩
 | _+5,h=>exact absurd h (by omega)
def unC(c:Nat→Value)(st h g r n j m:Value)(md:Int)(lk nd:Bool)(la be:List Value)(tm:Nat):List Value:=
 ((List.range 45).map c++[st,.int .i64 0,h,g,r,n,j,m,.int .u8 md,.bool lk,.bool nd])++(la++(be++[.slice none 0 0,.map (some tm)]))
theorem fU(c:Nat→Value)(st h g r n j m:Value)(md:Int)(lk nd:Bool){la be:List Value}(tm:Nat)(h1:la.length=50)(h2:be.length=50):(unC c st h g r n j m md lk nd la be tm).length=158:=by simp[unC,h1,h2]
theorem dL:(fJ rz0).length=50:=by simp
theorem unC_la{c:Nat→Value}{st h g r n j m:Value}{md:Int}{lk nd:Bool}{tm:Nat}:bP (unC c st h g r n j m md lk nd (fJ rz0) (fJ rz0) tm) (0+56) rz0.cells=unC c st h g r n j m md lk nd (fJ rz0) (fJ rz0) tm:=by have e:=bI (A:=(List.range 45).map c++[st,.int .i64 0,h,g,r,n,j,m,.int .u8 md,.bool lk,.bool nd]) (B:=fJ rz0) (B':=fJ rz0) (C:=fJ rz0++[.slice none 0 0,.map (some tm)]) (o:=0+56) (by simp) rfl;rw[←rcL_eq rz0_ok];exact e
theorem unC_be{c:Nat→Value}{st h g r n j m:Value}{md:Int}{lk nd:Bool}{tm:Nat}:bP (unC c st h g r n j m md lk nd (fJ rz0) (fJ rz0) tm) (0+106) rz0.cells=unC c st h g r n j m md lk nd (fJ rz0) (fJ rz0) tm:=by have e:=bI (A:=((List.range 45).map c++[st,.int .i64 0,h,g,r,n,j,m,.int .u8 md,.bool lk,.bool nd])++fJ rz0) (B:=fJ rz0) (B':=fJ rz0) (C:=[.slice none 0 0,.map (some tm)]) (o:=0+106) (by simp) rfl;rw[List.append_assoc] at e;rw[←rcL_eq rz0_ok];exact e
def cfF(c:Cf)(sl:Value)(i:Nat):Value:=(c.cells sl).getD i (.bool false)
theorem cfF_eq{c:Cf}(h:c.cm.length=32)(sl:Value):(List.range 45).map (cfF c sl)=c.cells sl:=map_getD (cj h sl)
theorem unC_cf{c:Cf}(hc:c.cm.length=32){sl st h g r n j m:Value}{md:Int}{lk nd:Bool}{la be:List Value}{tm:Nat}:∀(q:Nat) (u:Value),(c.cells sl)[q]?=some u→(unC (cfF c sl) st h g r n j m md lk nd la be tm)[0+0+q]?=some u:=fun q u hq=>by
 have hl:=(List.getElem?_eq_some_iff.1 hq).1
 rw[unC,cfF_eq hc,List.append_assoc,List.getElem?_append_left (by omega),show 0+0+q=q by omega,hq]
theorem cf_sch(c:Cf)(sl:Value):∀(j:Nat) (u:Value),[Value.int .i64 c.sc.st,.int .i64 c.sc.ln,.int .i64 c.sc.lg,.int .i64 c.sc.of][j]?=some u→(c.cells sl)[5+j]?=some u:=fun j u hj=>by
 match j,hj with
 | 0,hj=>exact hj
 | 1,hj=>exact hj
 | 2,hj=>exact hj
 | 3,hj=>exact hj
 | j+4,hj=>simp at hj
theorem cf_cmU(c:Cf)(sl:Value):∀(j:Nat) (u:Value),(bytes c.cm)[j]?=some u→(c.cells sl)[9+j]?=some u:=fun j u hj=>by
 rw[Cf.cells,show 9+j=j+1+1+1+1+1+1+1+1+1 by omega]
 simp only[List.getElem?_cons_succ]
 rw[List.getElem?_append_left (List.getElem?_eq_some_iff.1 hj).1];exact hj
theorem unC_at{c:Cf}(hc:c.cm.length=32){sl st h g r n j m:Value}{md:Int}{lk nd:Bool}{la be:List Value}{tm k:Nat}{vs:List Value}(hv:∀(q:Nat) (u:Value),vs[q]?=some u→(c.cells sl)[k+q]?=some u):∀(q:Nat) (u:Value),vs[q]?=some u→(unC (cfF c sl) st h g r n j m md lk nd la be tm)[0+0+k+q]?=some u:=fun q u hq=>by
 have:=unC_cf hc (st:=st) (h:=h) (g:=g) (r:=r) (n:=n) (j:=j) (m:=m) (md:=md) (lk:=lk) (nd:=nd) (la:=la) (be:=be) (tm:=tm) (k+q) u (hv q u hq)
 rwa[show 0+0+(k+q)=0+0+k+q by omega] at this
def NvG(nb:Nat)(nA:List Value)(mp:Nat)(TL:List Trk):Prop:=nA.length=20∧(∀x∈TL,x.Ok)∧∀nw:Int,0≤nw→Spc Tryz.prog 135 #[.pointer (some ⟨nb,0,none⟩)] [] [gY nb nA mp nw,aN mp aF (fj TL),allI (TL.map iL)] (fun v I' H'=>I'=[]∧(∃a0 a1 a2 a3 a4 a5 a6 a7:Int,v=.agg #[.int .i64 a0,.int .i64 a1,.int .i64 a2,.int .i64 a3,.int .i64 a4,.int .i64 a5,.int .u32 a6,.int .i64 a7])∧H'=[gY nb nA mp nw,aN mp aF (fj TL),allI (TL.map iL)])
def NavC(c:Cf):Prop:=∀(oa:Option Nat) (cap:Nat),Spc Tryz.prog 100 #[.agg #[.int .i64 c.g0,.int .i64 c.g1,.int .i64 c.g2,.int .i64 c.dr,aE oa (b9 c.L).length cap]] [sls (oa.map fun b=>⟨b,0,none⟩) 7 (b9 c.L).length ((b9 c.L).flatMap Ad.cells)] [] (fun v I' H'=>I'=[]∧∃nb nA mp TL,NvG nb nA mp TL∧v=.tuple #[.pointer (some ⟨nb,0,none⟩),.int .i64 0]∧H'=[gY nb nA mp 0,aN mp aF (fj TL),allI (TL.map iL)])
theorem mb0:MB g0.M:=fun _=>⟨(by decide:(0:Nat)<4294967296),(by decide:(0:Nat)<18446744073709551616)⟩
structure BtOk(c:Cf):Prop where
 fit:c.Fit
 mo:1≤c.mo∧c.mo≤1000
 ti:1≤c.ti∧c.ti≤65535
 sc:c.sc.Ok
 id:∀s∈c.L,0≤s.id∧s.id≤7
 wt:∀s∈c.L,2≤s.kd∧s.kd≤5→s.wt.Ok
 nd:∀i s,c.L[i]?=some s→∀t∈c.L.take i,t.id≠s.id
 sd:0≤c.sd∧c.sd<18446744073709551616
 l:c.L.length≤8
 l0:0<c.L.length
 nav:NavC c
def Fst(c:Cf)(g:GSt):Prop:=∀s0,c.L[0]?=some s0→(aH s0.kd).length>0→(∃b,atO g.T s0.id=some ⟨s0.id.toNat,s0.rt,1,-1,b⟩)∧∀k∈aH s0.kd,g.Y s0.id k=true
structure GF(c:Cf)(i:Nat)(g:GSt):Prop where
 l:g.l=g0.l
 M:g.M=g0.M
 z:i=0→g=g0
 f:0<i→Fst c g
theorem GF.step{c:Cf}{i:Nat}{g g':GSt}{s:Sr}(h:GF c i g)(hs:c.L[i]?=some s)(hF:SrF g s g'):GF c (i+1) g':=by
 refine⟨hF.l.trans h.l,hF.M.trans h.M,fun e=>by omega,fun _ s0 h0 hk=>?_⟩;by_cases hi:i=0
 ·subst hi;rw[hs] at h0;cases h0;have hg:=h.z rfl;exact hF.n hk (by rw[hg];rfl)
 ·obtain⟨⟨b,hb⟩,hy⟩:=h.f (by omega) s0 h0 hk;exact⟨⟨b,hF.T _ _ hb⟩,fun k hk=>hF.Y _ _ (hy k hk)⟩
def RsF(c:Cf)(rl:List (Value×Value)):Prop:=∀s0,c.L[0]?=some s0→(aH s0.kd).length>0→0≤s0.id∧s0.id≤7→aO (.int .i64 s0.id) rl=some (mkV (1,c.sd.toNat))
theorem rsF_of{c:Cf}{g:GSt}{r:Rc}{rl:List (Value×Value)}(h0:0<c.L.length)(h:GF c c.L.length g)(hr:g.M=g0.M→∀j:Nat,(j:Int)∈cW g.T→r.ms[j]?=some (da g.T j,c.sd.toNat))(hl:∀j:Nat,(j:Int)∈cW g.T→aO (.int .i64 (j:Int)) rl=(r.ms[j]?).map mkV):RsF c rl:=fun s0 hs hk hid=>by
 obtain⟨⟨b,hb⟩,-⟩:=h.f h0 s0 hs hk
 obtain⟨j,hj⟩:∃j:Nat,s0.id=(j:Int):=⟨s0.id.toNat,by omega⟩
 have hm:(j:Int)∈cW g.T:=List.mem_map.2 ⟨_,List.mem_of_find?_eq_some hb,by show((s0.id.toNat:Nat):Int)=_;omega⟩
 have he:da g.T (j:Int)=1:=by
  rw[←hj,da,if_pos (by simp[cE];omega),hb]
 rw[hj,hl j hm,hr h.M j hm,he];rfl
def BootR(c:Cf)(sl:Value)(b st h tm:Nat):Value→List It→List It→Prop:=fun v I' H'=>v=.tuple #[]∧I'=[]∧∃(C:UC) (x:UX),C.Ok∧C.out∧x.Ok∧x.u.now=0∧x.nw=0∧C.B.c=cfF c sl∧C.B.b=b∧C.B.h=h∧C.B.st=st∧C.B.tm=tm∧x.ct=[]∧GF c c.L.length x.g∧RsF c x.rl∧H'=[C.B.it x.u,allI (StL C.B.st x.A x.K x.bg),allI (GI C.B.G x.g),aN C.B.rm aF x.rl,allI (RTI C.B.R C.z),allI (nvL C x.nw),aN C.B.jm aF (jdC C.JL),allI (C.JL.map jdI)]
theorem uboot_any(c:Cf)(so:Option Nat)(sc b st h tm:Nat)(hc:BtOk c):Spc Tryz.prog 62 #[.pointer (some ⟨b,0,none⟩)] [sls (so.map fun q=>⟨q,0,none⟩) 48 c.L.length (c.L.flatMap Sr.cells)] [cel b (unC (cfF c (aE so c.L.length sc)) (.pointer (some ⟨st,0,none⟩)) (.pointer (some ⟨h,0,none⟩)) (.pointer none) (.pointer none) (.pointer none) (.map none) (.map none) 0 false false (fJ rz0) (fJ rz0) tm) 127,stI st bn0.v bn0.v (-1)] (BootR c (aE so c.L.length sc) b st h tm):=by
 have hcm:=hc.fit.cm;have hcl:=cj hcm (aE so c.L.length sc);have hkc:(bytes c.cm).length=32:=by rw[List.length_map,hcm]
 refine Spc.enter Tryz.func62 (h:=?_);refine fun w0 hw0=>?_;refine go 6 ?_;refine RL.call (blose_any st bn0.v bn0.v (-1)) (hl:=.nil) (hb:=.inr rfl) (h:=?_);rintro _ _ _ ⟨rfl,rfl,rfl⟩;refine go 10 ?_;refine aj (vs:=rz0.cells) unC_la (by rw[bT rz0_ok];exact KS124.h) rfl rfl rfl rfl rfl rfl rfl (d9 _) uE (by rw[bT rz0_ok,fU _ _ _ _ _ _ _ _ _ _ _ _ dL dL];simp) ?_;refine go 2 ?_;refine aj (vs:=rz0.cells) unC_be (by rw[bT rz0_ok];exact KS124.h) rfl rfl rfl rfl rfl rfl rfl (d9 _) uE (by rw[bT rz0_ok,fU _ _ _ _ _ _ _ _ _ _ _ _ dL dL];simp) ?_;refine go 9 ?_;refine aj (cs':=unC (cfF c (aE so c.L.length sc)) (.pointer (some ⟨st,0,none⟩)) (.pointer (some ⟨h,0,none⟩)) (.pointer none) (.pointer none) (.pointer none) (.map none) (.map none) 0 false false (fJ rz0) (fJ rz0) tm) (vs:=[_]) rfl KS5.h rfl rfl rfl rfl rfl rfl rfl rfl uE (by rw[fU _ _ _ _ _ _ _ _ _ _ _ _ dL dL];simp) ?_;refine go 2 ?_;refine aj (cs':=unC (cfF c (aE so c.L.length sc)) (.pointer (some ⟨st,0,none⟩)) (.pointer (some ⟨h,0,none⟩)) (.pointer none) (.pointer none) (.pointer none) (.map none) (.map none) 0 false false (fJ rz0) (fJ rz0) tm) (vs:=[_]) rfl KS4.h rfl rfl rfl rfl rfl rfl rfl rfl uE (by rw[fU _ _ _ _ _ _ _ _ _ _ _ _ dL dL];simp) ?_;refine go 2 ?_;refine aj (cs':=unC (cfF c (aE so c.L.length sc)) (.pointer (some ⟨st,0,none⟩)) (.pointer (some ⟨h,0,none⟩)) (.pointer none) (.pointer none) (.pointer none) (.map none) (.map none) 0 false false (fJ rz0) (fJ rz0) tm) (vs:=[_]) rfl KS4.h rfl rfl rfl rfl rfl rfl rfl rfl uE (by rw[fU _ _ _ _ _ _ _ _ _ _ _ _ dL dL];simp) ?_;refine go 9 ?_;refine ar (bempty_new st (-1)) (hl:=Lend.inH mQ .nil) (h:=?_);refine go 7 ?_;refine ae (Sq.of [0,1,2,3,4,5,6,7,8,9,10,11,12,13,14,15,16,17]) [11,17] [11,17] [0,1,2,3,4,6,7,8,9,12,13,14,15,16] (h:=?_);refine go 5 ?_;refine RL.load (ho:=rfl) (hr:=Rd.get mQ (unC_cf hcm _ _ (cf_t hcm _ 0))) (h:=?_);refine go 4 ?_;refine RL.load (ho:=rfl) (hr:=Rd.get mQ (unC_cf hcm _ _ (cf_t hcm _ 1))) (h:=?_);refine RL.call (gnew_yes c.mo c.ti hc.mo.1 hc.mo.2 hc.ti.1 hc.ti.2) (hl:=.nil) (hb:=.inr rfl) (h:=?_);rintro _ _ _ ⟨GB0,hmo,hti,rfl,rfl,rfl⟩;refine go 5 ?_;refine aj (cs':=unC (cfF c (aE so c.L.length sc)) (.pointer (some ⟨st,0,none⟩)) (.pointer (some ⟨h,0,none⟩)) (.pointer (some ⟨GB0.gb,0,none⟩)) (.pointer none) (.pointer none) (.map none) (.map none) 0 false false (fJ rz0) (fJ rz0) tm) (vs:=[_]) rfl KS115.h rfl rfl rfl rfl rfl rfl rfl rfl uE (by rw[fU _ _ _ _ _ _ _ _ _ _ _ _ dL dL];simp) ?_;refine go 3 ?_;refine ae (Sq.of [0,1,2,3,4,5,6,7,8,9,10,11,12,13,14,15,16,17]) [11,17] [11,17] [0,1,2,3,4,6,7,8,9,12,13,14,15,16] (h:=?_);refine go 5 ?_;refine ak (vs:=[.int .i64 c.sc.st,.int .i64 c.sc.ln,.int .i64 c.sc.lg,.int .i64 c.sc.of]) (ho:=rfl) (hr:=Rds.cel mQ (unC_at hcm (cf_sch c _))) (h:=?_);refine go 4 ?_;refine ak (vs:=bytes c.cm) (hs:=by rw[hkc];exact KS31.h) (ho:=rfl) (hr:=Rds.cel mQ (unC_at hcm (cf_cmU c _))) (h:=?_);refine RL.call (tnew_any c.sc c.cm hcm) (hl:=.nil) (hb:=.inr rfl) (h:=?_);rintro v I' H' ⟨rfl,hnew⟩
 obtain⟨RB0,hRs,rfl,rfl⟩:∃RB:RBk,RB.s=c.sc∧v=.tuple #[.pointer (some ⟨RB.b,0,none⟩),.int .i64 0]∧H'=RTI RB (ez c.cm):=by
  rcases hnew with⟨-,B,h1,h2,h3⟩|⟨h,-⟩
  ·exact⟨B,h1,h2,h3⟩
  ·exact(h hc.sc).elim
 refine go 5 ?_;refine aj (cs':=unC (cfF c (aE so c.L.length sc)) (.pointer (some ⟨st,0,none⟩)) (.pointer (some ⟨h,0,none⟩)) (.pointer (some ⟨GB0.gb,0,none⟩)) (.pointer (some ⟨RB0.b,0,none⟩)) (.pointer none) (.map none) (.map none) 0 false false (fJ rz0) (fJ rz0) tm) (vs:=[_]) rfl KS116.h rfl rfl rfl rfl rfl rfl rfl rfl uE (by rw[fU _ _ _ _ _ _ _ _ _ _ _ _ dL dL];simp) ?_;refine go 8 ?_;refine ak (vs:=c.cells (aE so c.L.length sc)) (hs:=by rw[hcl];exact KS34.h) (ho:=rfl) (hr:=Rds.cel mQ (unC_cf hcm)) (h:=?_);refine RL.call (snav_any c so sc c.L.length rfl hcm hc.fit.L (by have:=hc.l;omega)) (hl:=Lend.inI mQ .nil) (hb:=.inl rfl) (h:=?_);rintro _ _ _ ⟨oa,ca,rfl,rfl,rfl⟩;refine RL.call (hc.nav oa ca) (hl:=Lend.own mQ .nil) (hb:=.inr rfl) (h:=?_);rintro _ _ _ ⟨rfl,nb,nA,mp,TL,hNv,rfl,rfl⟩;refine go 5 ?_;refine aj (cs':=unC (cfF c (aE so c.L.length sc)) (.pointer (some ⟨st,0,none⟩)) (.pointer (some ⟨h,0,none⟩)) (.pointer (some ⟨GB0.gb,0,none⟩)) (.pointer (some ⟨RB0.b,0,none⟩)) (.pointer (some ⟨nb,0,none⟩)) (.map none) (.map none) 0 false false (fJ rz0) (fJ rz0) tm) (vs:=[_]) rfl KS117.h rfl rfl rfl rfl rfl rfl rfl rfl uE (by rw[fU _ _ _ _ _ _ _ _ _ _ _ _ dL dL];simp) ?_;refine go 6 ?_;refine RL.makeMap (good:=aF) (h:=?_);refine fun jm=>?_;refine RL.makeMap (good:=aF) (h:=?_);refine fun rm=>?_;refine go 2 ?_;refine aj (cs':=unC (cfF c (aE so c.L.length sc)) (.pointer (some ⟨st,0,none⟩)) (.pointer (some ⟨h,0,none⟩)) (.pointer (some ⟨GB0.gb,0,none⟩)) (.pointer (some ⟨RB0.b,0,none⟩)) (.pointer (some ⟨nb,0,none⟩)) (.map (some jm)) (.map none) 0 false false (fJ rz0) (fJ rz0) tm) (vs:=[_]) rfl KS118.h rfl rfl rfl rfl rfl rfl rfl rfl uE (by rw[fU _ _ _ _ _ _ _ _ _ _ _ _ dL dL];simp) ?_;refine go 2 ?_;refine aj (cs':=unC (cfF c (aE so c.L.length sc)) (.pointer (some ⟨st,0,none⟩)) (.pointer (some ⟨h,0,none⟩)) (.pointer (some ⟨GB0.gb,0,none⟩)) (.pointer (some ⟨RB0.b,0,none⟩)) (.pointer (some ⟨nb,0,none⟩)) (.map (some jm)) (.map (some rm)) 0 false false (fJ rz0) (fJ rz0) tm) (vs:=[_]) rfl KS119.h rfl rfl rfl rfl rfl rfl rfl rfl uE (by rw[fU _ _ _ _ _ _ _ _ _ _ _ _ dL dL];simp) ?_;refine go 15 ?_;refine CW.rea (fun _ h=>h) (H':=GI GB0 g0++[aN rm aF [],aN jm aF [],gY nb nA mp 0,aN mp aF (fj TL),allI (TL.map iL),recI RB0 (ez c.cm),aN RB0.mt goodE [],bufI RB0.q RB0.r,aN RB0.r goodQ [],stI st bn0.v bn0.v (-1),UB.it ⟨b,st,h,nb,jm,rm,tm,cfF c (aE so c.L.length sc),GB0,RB0⟩ ⟨0,0,false,false,rz0,rz0,aE none 0 0⟩]) rE ?_;refine CW.pack (CW.rea (fun _ h=>h) (H':=RTI RB0 (ez c.cm)++[allI (GI GB0 g0),aN rm aF [],aN jm aF [],gY nb nA mp 0,aN mp aF (fj TL),allI (TL.map iL),stI st bn0.v bn0.v (-1),UB.it ⟨b,st,h,nb,jm,rm,tm,cfF c (aE so c.L.length sc),GB0,RB0⟩ ⟨0,0,false,false,rz0,rz0,aE none 0 0⟩]) rE ?_);refine CW.pack (CW.rea (fun _ h=>h) (H':=[gY nb nA mp 0,aN mp aF (fj TL),allI (TL.map iL)]++[allI (RTI RB0 (ez c.cm)),allI (GI GB0 g0),aN rm aF [],aN jm aF [],stI st bn0.v bn0.v (-1),UB.it ⟨b,st,h,nb,jm,rm,tm,cfF c (aE so c.L.length sc),GB0,RB0⟩ ⟨0,0,false,false,rz0,rz0,aE none 0 0⟩]) rE ?_);refine CW.pack (CW.pack (l:=[]) ?_);generalize hBB:(⟨b,st,h,nb,jm,rm,tm,cfF c (aE so c.L.length sc),GB0,RB0⟩:UB)=BB;have hB1:BB.b=b∧BB.jm=jm∧BB.G=GB0∧BB.h=h∧BB.st=st∧BB.rm=rm∧BB.R=RB0∧BB.nb=nb∧BB.tm=tm∧BB.c=cfF c (aE so c.L.length sc):=by subst hBB;exact⟨rfl,rfl,rfl,rfl,rfl,rfl,rfl,rfl,rfl,rfl⟩
 refine CW.loop (γ:=Nat×GSt×List Jd) (fun x=>x.1≤c.L.length∧GOk x.2.1∧x.2.1.T.length≤x.1∧MB x.2.1.M∧(∀j∈x.2.2,j.Ok)∧(∀j∈x.2.2,∃t∈c.L.take x.1,(j.id:Int)=t.id)∧GF c x.1 x.2.1) (fun x=>[(0,.pointer (some ⟨b,0,none⟩)),(109,aE so c.L.length sc),(110,.int .i64 (c.L.length:Int)),(111,.int .i64 (x.1:Int))]) (fun _=>[sls (so.map fun q=>⟨q,0,none⟩) 48 c.L.length (c.L.flatMap Sr.cells)]) (fun x=>[allI (GI GB0 x.2.1),aN jm aF (jdC x.2.2),allI (x.2.2.map jdI),BB.it ⟨0,0,false,false,rz0,rz0,aE none 0 0⟩,stI st bn0.v bn0.v (-1),allI [gY nb nA mp 0,aN mp aF (fj TL),allI (TL.map iL)],allI (RTI RB0 (ez c.cm)),aN rm aF []]) (fun x=>c.L.length-x.1) (0,g0,[]) ⟨by omega,g0_ok,Nat.le_refl _,mb0,fun _ h=>(by cases h),fun _ h=>(by cases h),rfl,rfl,fun _=>rfl,fun h=>absurd h (by decide)⟩ (.cons rfl (.cons rfl (.cons rfl (.cons rfl .nil)))) (fun w h=>h.rea (fun x hx=>by simpa using hx) rE) ?_;rintro⟨i,g,JL⟩ ⟨hi,hg,hT,hM,hJ,hJi,hGF⟩;dsimp only at hi hg hT hM hJ hJi hGF ⊢;refine aR (p:=so=none→c.L.length=0) (fun w hC e=>bf (hC.s.i _ (List.Mem.head _)) (by rw[e];rfl)) (fun hpa=>?_);refine go 6 ?_;refine CW.cond rfl (fun hlt=>?_) (fun hlt=>?_)
 ·have hlt:i<c.L.length:=by simp at hlt;omega
  cases so with
  | none=>exact absurd (hpa rfl) (by omega)
  | some ba=>
  have hx:=List.getElem?_eq_getElem hlt;generalize c.L[i]=s at hx;have hsm:=List.mem_of_getElem? hx;have hsf:=hc.fit.L s hsm;have hsl:=c7 hsf.rt;have hrd:∀H,Rds [sls ((some ba).map fun q=>(⟨q,0,none⟩:Addr)) 48 c.L.length (c.L.flatMap Sr.cells)] H ((⟨ba,0,none⟩:Addr).add (i*48)) s.cells:=fun H=>by rw[bn];exact(dK (I:=[sls (some ⟨ba,0,none⟩) 48 c.L.length (c.L.flatMap Sr.cells)]) (b:=ba) (n:=c.L.length) (sz:=48) (f:=Sr.cells) (List.Mem.head _) hx (fun y hy=>c7 (hc.fit.L y hy).rt)).h H
  have hl8:=hc.l;have hnj:∀j∈JL,(j.id:Int)≠s.id:=fun j hj=>by obtain⟨t,ht,e⟩:=hJi j hj;rw[e];exact hc.nd i s hx t ht
  have husr:=usource_any BB ⟨0,0,false,false,rz0,rz0,aE none 0 0⟩ g JL s hsf hg hM (hc.id s hsm) (hc.wt s hsm) hJ hnj rfl;unfold SrcW at husr;rw[hB1.1,hB1.2.1,hB1.2.2.1] at husr;refine go 6 ?_;refine aS (j:=i) (ho:=rfl) (hlt:=hlt) (h:=?_);refine ak (vs:=s.cells) (hs:=by rw[hsl];exact KS167.h) (ho:=rfl) (hr:=hrd _) (h:=?_);refine go 1 ?_;intro b1;refine an (ho:=rfl) (h1:=cw s) (hv:=hsl) (h:=?_);refine go 4 ?_;refine aT (ho:=rfl) (hl:=hsl) (h:=?_);refine RL.call (husr) (hl:=Lend.inH (x:=BB.it ⟨0,0,false,false,rz0,rz0,aE none 0 0⟩) mQ .nil) (hb:=.inr rfl) (h:=?_);rintro _ _ _ ⟨rfl,rfl,g',JL',hg',hT',hM',hJ',hJi',hSF,rfl⟩;refine go 4 ?_;refine ap rfl (ad (by omega) (by omega)) ?_;refine go 2 ?_;refine NQ.round (g:=(i,g,JL)) (i+1,g',JL') ⟨hlt,hg',by show g'.T.length≤i+1;omega,hM',hJ',fun j hj=>?_,hGF.step hx hSF⟩ (by show c.L.length-(i+1)<c.L.length-i;omega) (.cons rfl (.cons rfl (.cons rfl (.cons rfl .nil)))) (fun w h=>h.rea (fun x hx=>by simpa using hx) rE);rw[List.take_add_one,hx];rcases hJi' j hj with h|h
  ·obtain⟨t,ht,e⟩:=hJi j h;exact⟨t,List.mem_append_left _ ht,e⟩
  ·exact⟨s,List.mem_append_right _ (by simp),h⟩
 ·have hin:i=c.L.length:=by simp at hlt;omega
  subst hBB;have hst0:StOk bn0 bn0 (-1):=⟨bn0_ok,bn0_ok,.inl rfl⟩;have hsd:cfF c (aE so c.L.length sc) 44=.int .u64 ((c.sd.toNat:Nat):Int):=by rw[Int.toNat_of_nonneg hc.sd.1,cfF,List.getD_eq_getElem?_getD];have:=cf_t hcm (aE so c.L.length sc) 3;rw[show 44=0+41+3 from rfl,this];rfl
  have hsb:c.sd.toNat<18446744073709551616:=by have:=hc.sd;omega
  have hT8:g.T.length≤1000:=by have:=hc.l;omega
  refine go 12 ?_;refine RL.load (ho:=rfl) (hr:=Rd.get mQ (un_la _ (u:=⟨0,0,false,false,rz0,rz0,aE none 0 0⟩) rz0_ok _ _ (rc_iv rz0_ok))) (h:=?_);refine go 16 ?_;refine cZ (e:=5) 1 (cZ (e:=5) 1 (CW.rea (fun _ h=>h) (H':=StL st bn0 bn0 (-1)++[UB.it ⟨b,st,h,nb,jm,rm,tm,cfF c (aE so c.L.length sc),GB0,RB0⟩ ⟨0,0,false,false,rz0,rz0,aE none 0 0⟩,allI (GI GB0 g),aN rm aF [],allI (RTI RB0 (ez c.cm)),allI [gY nb nA mp 0,aN mp aF (fj TL),allI (TL.map iL)],aN jm aF (jdC JL),allI (JL.map jdI)]) rE ?_));refine CW.pack (CW.rea (fun _ h=>h) (H':=[UB.it ⟨b,st,h,nb,jm,rm,tm,cfF c (aE so c.L.length sc),GB0,RB0⟩ ⟨0,0,false,false,rz0,rz0,aE none 0 0⟩,allI (StL st bn0 bn0 (-1)),allI (GI GB0 g),aN rm aF [],allI (RTI RB0 (ez c.cm)),allI [gY nb nA mp 0,aN mp aF (fj TL),allI (TL.map iL)],aN jm aF (jdC JL),allI (JL.map jdI)]) rE ?_);refine go 3 ?_;refine RL.call (begin_any ⟨b,st,h,nb,jm,rm,tm,cfF c (aE so c.L.length sc),GB0,RB0⟩ ⟨0,0,false,false,rz0,rz0,aE none 0 0⟩ bn0 bn0 (-1) g (ez c.cm) c.sd.toNat hst0 hg hT8 rz0_ok hcm (show 0<4294967296 by decide) hM hsd hsb) (hl:=Lend.inH (x:=allI (RTI RB0 (ez c.cm))) mQ .nil) (hb:=.inr rfl) (h:=?_);rintro _ _ _ ⟨rfl,rfl,A',K',bg',r,hst',hr,hrm,rfl⟩;refine go 2 ?_;refine CW.rea (fun _ h=>h) (H':=[UB.it ⟨b,st,h,nb,jm,rm,tm,cfF c (aE so c.L.length sc),GB0,RB0⟩ ⟨0,0,false,false,rz0,r,aE none 0 0⟩,allI (StL st A' K' bg'),allI (GI GB0 g),aN rm aF [],allI (RTI RB0 (ez c.cm)),allI [gY nb nA mp 0,aN mp aF (fj TL),allI (TL.map iL)],aN jm aF (jdC JL),allI (JL.map jdI)]) rE ?_;refine go 2 ?_;refine RL.call (finish_any ⟨b,st,h,nb,jm,rm,tm,cfF c (aE so c.L.length sc),GB0,RB0⟩ ⟨0,0,false,false,rz0,r,aE none 0 0⟩ A' K' bg' g [] hst' hg hT8 hr (fun _ h=>by cases h)) Tryz.call67 rfl rfl rfl rfl rfl pE .nil (.inr rfl) ?_;rintro _ _ _ ⟨rfl,rfl,A2,K2,bg2,rl2,hst2,hrl2,hlk2,rfl⟩;refine go 1 ?_;exact NQ.post (dn rfl) (.keep (.keep (.keep (.keep (.keep (.keep (.keep (.keep .nil)))))))) ⟨rfl,rfl,⟨⟨b,st,h,nb,jm,rm,tm,cfF c (aE so c.L.length sc),GB0,RB0⟩,ez c.cm,nA,mp,TL,JL,c.sd.toNat⟩,⟨⟨0,0,false,false,r,rz0,aE none 0 0⟩,A2,K2,bg2,g,rl2,0,[],fun _=>0⟩,⟨hcm,(show 0<4294967296 by decide),hNv.1,hNv.2.1,hJ,hsd,hsb,by show GB0.mo≠0;have:=hc.mo;omega⟩,hNv.2.2,⟨hst2,hg,hT8,hr,rz0_ok,hM,hrl2,fun _=>rfl,rfl,Int.le_refl _⟩,rfl,rfl,rfl,rfl,rfl,rfl,rfl,rfl,hin▸hGF,rsF_of hc.l0 (hin▸hGF) hrm hlk2,rfl⟩
def UNewR(c:Cf)(st:Nat):Value→List It→List It→Prop:=fun v I' H'=>I'=[]∧∃(C:UC) (x:UX) (sl:Value),C.Ok∧C.out∧x.Ok∧x.u.now=0∧x.nw=0∧C.B.c=cfF c sl∧C.B.st=st∧GF c c.L.length x.g∧RsF c x.rl∧v=.tuple #[.pointer (some ⟨C.B.b,0,none⟩),.int .i64 0]∧H'=hnI C.B.h none 0 0 0::UL C x
def zcf:Cf:=⟨0,0,0,0,⟨0,0,0,0⟩,List.replicate 32 0#8,0,0,0,0,[]⟩
def unT:List Value:=[.pointer none,.pointer none,.pointer none,.map none,.map none,.int .u8 0,.bool false,.bool false]++(fJ rz0++(fJ rz0++[.slice none 0 0]))
def unZ:List Value:=zcf.cells (.slice none 0 0)++([.pointer none]++([.int .i64 0]++([.pointer none]++(unT++[.map none]))))
theorem unT_len:unT.length=109:=by simp[unT]
theorem fill_un{c:Cf}(hc:c.cm.length=32)(sl st h:Value)(hst:st.cells.toList=[st])(hh:h.cells.toList=[h])(tm:Nat){places:Array (Nat×Nat)}(hp:places= #[(0,45),(45,1),(46,1),(47,1),(48,1),(49,1),(50,1),(51,1),(52,1),(53,1),(54,1),(55,1),(56,50),(106,50),(156,1),(157,1)]):bX (places[·]?) unZ [(0,.agg (c.cells sl).toArray),(1,st),(3,h),(15,.map (some tm))]=some (unC (cfF c sl) st h (.pointer none) (.pointer none) (.pointer none) (.map none) (.map none) 0 false false (fJ rz0) (fJ rz0) tm):=by subst hp;have h45:=cj hc sl;refine aK (vs:=c.cells sl) [] (zcf.cells (.slice none 0 0)) ([.pointer none]++([.int .i64 0]++([.pointer none]++(unT++[.map none])))) rfl (cq _) rfl rfl rfl h45 ?_;refine aK (vs:=[st]) (c.cells sl) [.pointer none] ([.int .i64 0]++([.pointer none]++(unT++[.map none]))) rfl hst rfl h45 rfl rfl ?_;refine aK (vs:=[h]) (c.cells sl++[st,.int .i64 0]) [.pointer none] (unT++[.map none]) rfl hh (by simp) (by simp[h45]) rfl rfl ?_;refine aK (vs:=[.map (some tm)]) (c.cells sl++([st,.int .i64 0,h]++unT)) [.map none] [] rfl rfl (by simp) (by simp[h45,unT_len]) rfl rfl ?_;rw[unC,cfF_eq hc,bX];simp[unT]
theorem unew_any(c:Cf)(oa:Option Nat)(ca st:Nat)(hc:BtOk c)(hok:c.ok=true):Spc Tryz.prog 25 #[.agg (c.cells (aE oa c.L.length ca)).toArray,.pointer (some ⟨st,0,none⟩)] [sls (oa.map fun q=>⟨q,0,none⟩) 48 c.L.length (c.L.flatMap Sr.cells)] [stI st bn0.v bn0.v (-1)] (UNewR c st):=by
 have hcm:=hc.fit.cm;have hcl:=cj hcm (aE oa c.L.length ca);have hl8:=hc.l;have hl0:=hc.l0;refine Spc.enter Tryz.func25 (h:=?_);refine fun w0 hw0=>?_;refine go 10 ?_;intro b1;refine aT (ho:=rfl) (hl:=hcl) (h:=?_);refine ar (ccheck_any c oa ca c.L.length rfl hc.fit (by omega)) (hl:=Lend.inI mQ .nil) (h:=?_);refine go 9 ?_;refine ag rfl ((by rw[Cf.err,if_pos hok];rfl)) ?_;refine go 6 ?_;refine RL.call (brec_any st ⟨none,0,[]⟩ ⟨none,0,[]⟩ (-1) ⟨by decide,by decide⟩ ⟨by decide,by decide⟩) (hl:=Lend.inH mQ (Lend.nilA none (Lend.nilA none .nil))) (hb:=.inl rfl) (h:=?_);rintro _ _ _ ⟨rfl,rfl,r,hr,e,he,rfl⟩;have hrl:=bT hr;refine go 4 ?_;intro b2;refine an (ho:=rfl) (h1:=d9 r) (hv:=hrl) (h:=?_);refine go 9 ?_;refine ag rfl ((by simpa using he)) ?_;refine go 4 ?_;refine RL.buildSlice [] (ho:=rfl) (h:=?_);intro b3;refine go 2 ?_;refine RL.appendNew KE24.h rfl rfl rfl rfl rfl rfl (Src.cel (cs:=[]) (mm:=0) mQ rfl) (Src.sls (List.Mem.head _)) (by omega) (by first|omega|(simp only[maxLen];omega)) (by first|omega|(simp only[maxLen];omega)) ?_;intro bs cs;refine go 1 ?_;refine aj (vs:=[_]) cf_set (ho:=rfl) (hl:=by rw[hcl];simp) (h:=?_);refine go 3 ?_;rw[show 0+c.L.length=c.L.length from Nat.zero_add _,show([]:List Value)++c.L.flatMap Sr.cells=c.L.flatMap Sr.cells from rfl];have hcl2:=cj hcm (aE (some bs) c.L.length cs);refine CW.rea (fun _ h=>h) (H':=[cel b1 (c.cells (aE (some bs) c.L.length cs)) 34,own (some bs) cs 167 48 c.L.length (c.L.flatMap Sr.cells),stI st bn0.v bn0.v (-1)]) rE ?_;refine aB (A:=[_]) (B:=[_,_]) (.take (.leave (.leave .nil))) rfl ?_;refine aW (fun J hJ=>?_);have fC:RdsN J ⟨b1,0,none⟩ 45 (c.cells (aE (some bs) c.L.length cs)):=⟨fun _=>Rds.allI (hJ _ (List.Mem.head _)),hcl2⟩;clear hJ;refine fQ (γ:=Nat×Nat×Nat) (fun _=>True) (fun g=>[(9,.pointer (some ⟨g.2.2,0,none⟩))]) (fun _=>J) (fun g=>[cel g.2.2 (unC (cfF c (aE (some bs) c.L.length cs)) (.pointer (some ⟨st,0,none⟩)) (.pointer (some ⟨g.1,0,none⟩)) (.pointer none) (.pointer none) (.pointer none) (.map none) (.map none) 0 false false (fJ rz0) (fJ rz0) g.2.1) 127,stI st bn0.v bn0.v (-1),hnI g.1 none 0 0 0,aN g.2.1 aF [],own (some bs) cs 167 48 c.L.length (c.L.flatMap Sr.cells)]) ?_ ?_
 ·refine ae (.cons 0 (.cons 1 (.fork [2,3] (fun k=>(bif Nat.beq k 2 then(Sq.of [3,4,5,6]) else(Sq.of [2,4,5,6])))))) [2,3,5] [2] [0,1,4,6] (h:=?_);refine go 2 ?_;refine RL.fork ⟨?_,?_,trivial⟩
  ·refine RL.call (hnew_any) (hl:=.nil) (hb:=.inr rfl) (h:=?_);rintro _ _ _ ⟨h,rfl,rfl,rfl⟩;refine RL.makeMap (good:=aF) (h:=?_);refine fun tm=>?_;refine ay (unC (cfF c (aE (some bs) c.L.length cs)) (.pointer (some ⟨st,0,none⟩)) (.pointer (some ⟨h,0,none⟩)) (.pointer none) (.pointer none) (.pointer none) (.map none) (.map none) 0 false false (fJ rz0) (fJ rz0) tm) (ho:=rfl) (hf:=fill_un hcm _ _ _ rfl rfl tm rfl) (h:=go 3 ?_);intro b4;exact aJ (h,tm,b4) trivial (.cons rfl .nil) (fun w h'=>h'.rea (fun _ h=>h) rE)
  ·refine RL.makeMap (good:=aF) (h:=?_);refine fun tm=>?_;refine RL.call (hnew_any) (hl:=.nil) (hb:=.inr rfl) (h:=?_);rintro _ _ _ ⟨h,rfl,rfl,rfl⟩;refine ay (unC (cfF c (aE (some bs) c.L.length cs)) (.pointer (some ⟨st,0,none⟩)) (.pointer (some ⟨h,0,none⟩)) (.pointer none) (.pointer none) (.pointer none) (.map none) (.map none) 0 false false (fJ rz0) (fJ rz0) tm) (ho:=rfl) (hf:=fill_un hcm _ _ _ rfl rfl tm rfl) (h:=go 3 ?_);intro b4;exact aJ (h,tm,b4) trivial (.cons rfl .nil) (fun w h'=>h'.rea (fun _ h=>h) rE)
 ·rintro⟨h,tm,ub⟩ -;refine go 3 ?_;refine RL.call (uboot_any c (some bs) cs ub st h tm hc) (hl:=Lend.own mQ .nil) (hb:=.inr rfl) (h:=?_);rintro _ _ _ ⟨rfl,rfl,C,x,hC,ho,hx,hn,hw,hcc,hb,hh,hs,ht,hct,hgf,hrs,rfl⟩;subst hb hh ht;refine go 10 ?_;have e1:aN C.B.tm aF []=aN C.B.tm aF x.ct:=by rw[hct]
  rw[e1];exact RQ.rea (fun _ h=>h) (H':=hnI C.B.h none 0 0 0::UL C x) rE (RQ.post (bb rfl rfl rfl) (.keep (.keep (.keep (.keep (.keep (.keep (.keep (.keep (.keep (.keep .nil)))))))))) ⟨rfl,C,x,_,hC,ho,hx,hn,hw,hcc,hs,hgf,hrs,rfl,rfl⟩)
structure Rdg.Ok(r:Rdg):Prop where
 kind:gi .i64 r.kind
 g0:gi .i32 r.g0
 g1:gi .i32 r.g1
 g2:gi .i32 r.g2
 a0:gi .i32 r.a0
 a1:gi .i32 r.a1
 a2:gi .i32 r.a2
 height:gi .i64 r.height
 heading:gi .u32 r.heading
 speed:gi .i32 r.speed
 steps:gi .u32 r.steps
 interval:gi .u32 r.interval
 p0:gi .i64 r.p0
 p1:gi .i64 r.p1
 p2:gi .i64 r.p2
 tick:gi .u64 r.tick
 epoch:gi .u32 r.epoch
 bound:gi .i64 r.bound
 flags:gi .u32 r.flags
 fails:gi .u16 r.fails
 counter:gi .u64 r.counter
theorem wf_u64{n:Int}(h:gi .u64 n):n=(n.toNat:Int)∧n.toNat<18446744073709551616:=by have:=wfk_bounds h;simp[IntKind.min,IntKind.max,IntKind.signed,IntKind.bits] at this;omega
def dA(k:Nat→B8):List B8:=[k 0,k 1,k 2,k 3,k 4,k 5,k 6,k 7,k 8,k 9,k 10,k 11,k 12,k 13,k 14,k 15,k 16,k 17,k 18,k 19,k 20,k 21,k 22,k 23,k 24,k 25,k 26,k 27,k 28,k 29,k 30,k 31]
def w64(n:Int):Nat:=(IntKind.u64.wrap n).toNat
theorem w64_lt(n:Int):w64 n<18446744073709551616:=wrap_u64_lt n
theorem w64_eq(n:Int):(w64 n:Int)=IntKind.u64.wrap n:=wrap_u64_nat n
def aX(r:Rdg):List B8:=
 if r.kind=1 then [r.g0,r.g1,r.g2].flatMap be4++[r.a0,r.a1,r.a2].flatMap be4
 else if r.kind=2 then be8' r.height
 else if r.kind=3 then beN 4 (w64 r.heading)
 else if r.kind=4 then be4 r.speed++beN 4 (w64 r.steps)
 else if r.kind=5 then beN 4 (w64 r.interval)++[r.seq]++[r.p0,r.p1,r.p2].flatMap be8'
 else if r.kind=6 then beN 4 (w64 r.interval)++dA r.key
 else if r.kind=7 then beN 8 r.tick.toNat
 else if r.kind=8 then [r.mode]
 else if r.kind=10 then beN 4 (w64 r.epoch)
 else if r.kind=12 then [r.source]
 else if r.kind=13 then [r.mode]++[r.p0,r.p1,r.p2].flatMap be8'++be8' r.bound++beN 4 (w64 r.flags)
 else if r.kind=14 then [r.source]++[r.state]++beN 2 (w64 r.fails)++beN 8 r.counter.toNat++beN 4 (w64 r.epoch)
 else []
def nvS(A:List Value)(mp:Nat)(nw t:Int):List Value:=A++[.map (some mp),.int .i64 t,.int .i64 t,.int .i64 nw,.bool false]
def nvM(A:List Value)(mp:Nat)(nw t:Int):List Value:=A++[.map (some mp),.int .i64 t,.int .i64 0,.int .i64 nw,.bool false]
theorem nv_set21{A:List Value}(h:A.length=20)(mp:Nat)(nw t:Int):bP (nvC A mp nw) (0+21) [.int .i64 t]=nvM A mp nw t:=by have e:=bI (A:=A++[.map (some mp)]) (B:=[.int .i64 (-1)]) (B':=[.int .i64 t]) (C:=[.int .i64 0,.int .i64 nw,.bool false]) (o:=0+21) (by simp[h]) rfl;simpa[nvC,nvM] using e
theorem nv_set22{A:List Value}(h:A.length=20)(mp:Nat)(nw t:Int):bP (nvM A mp nw t) (0+22) [.int .i64 t]=nvS A mp nw t:=by have e:=bI (A:=A++[.map (some mp),.int .i64 t]) (B:=[.int .i64 0]) (B':=[.int .i64 t]) (C:=[.int .i64 nw,.bool false]) (o:=0+22) (by simp[h]) rfl;simpa[nvM,nvS] using e
theorem nimu_first(nb:Nat)(A:List Value)(mp:Nat)(nw t:Int)(r:Rdg)(hA:A.length=20)(ht:nw≤t∧t≤1099511627776)(hr:r.kind=1):Spc Tryz.prog 170 #[.pointer (some ⟨nb,0,none⟩),.int .i64 t,.agg r.cells.toArray] [] [gY nb A mp nw] (fun v I' H'=>v=.int .i64 0∧I'=[]∧H'=[cel nb (nvS A mp t t) 278]):=by
 have h57:r.cells.length=57:=rfl;have hlM:(nvM A mp t t).length=25:=by simp[nvM,hA]
 refine Spc.enter Tryz.func170 (h:=?_);refine fun w0 hw0=>?_;refine go 10 ?_;intro b1;refine ar (nis_any nb A mp nw hA) (hl:=Lend.inH (x:=gY nb A mp nw) mQ .nil) (h:=?_);refine go 1 ?_;apply aL (d:=10) (dp:=14) (l':=(Sq.of [])) rfl (sK [0,1,5,6] rfl)
 ·intro hb3 K3;refine go 1 ?_;refine RL.load (ho:=rfl) (hr:=Rd.cel (cs:=r.cells) mQ rfl) (h:=?_);refine go 2 ?_;exact K3 _ (.cons rfl (sK [0,1,5,6] rfl))
 ·intro hb3 K3;refine go 4 ?_;exact K3 _ (.cons rfl (sK [0,1,5,6] rfl))
 refine go 2 ?_;refine ag rfl ((by rw[hr];rfl)) ?_;refine go 6 ?_;refine RL.call (nat_any nb A mp nw t hA ht) (hl:=.nil) (hb:=.inr rfl) (h:=?_);rintro _ _ _ ⟨rfl,rfl,rfl⟩;refine go 18 ?_;refine RL.load (ho:=rfl) (hr:=Rd.get mQ (nv_at hA mp t 1)) (h:=?_);refine go 10 ?_;refine aj (cs':=nvM A mp t t) (vs:=[_]) (nv_set21 hA mp t t) (ho:=rfl) (hl:=by rw[nv_len hA];simp) (h:=?_);refine go 9 ?_;refine aj (cs':=nvS A mp t t) (vs:=[_]) (nv_set22 hA mp t t) (ho:=rfl) (hl:=by rw[hlM];simp) (h:=?_);refine go 9 ?_;exact RQ.rea (fun _ h=>h) (H':=[cel nb (nvS A mp t t) 278]) rE (RQ.post (az rfl rfl) (.keep .nil) ⟨rfl,rfl,rfl⟩)
theorem act1_any(B:UB)(u:US)(A:List Value)(mp:Nat)(nw:Int)(s:Int)(r:Rdg)(hA:A.length=20)(ht:nw≤u.now∧u.now≤1099511627776)(hk:r.kind=1)(X Y:It):Spc Tryz.prog 94 #[.pointer (some ⟨B.b,0,none⟩),.int .i64 s,.agg r.cells.toArray] [B.it u] [gY B.nb A mp nw,X,Y] (fun v I' H'=>v=.tuple #[.int .i64 0,.agg (rz 0).cells.toArray]∧I'=[]∧H'=[]):=by
 have h57:r.cells.length=57:=rfl;have h1:(r.kind==1)=true:=by rw[hk];rfl
 refine Spc.enter Tryz.func94 (h:=?_);refine fun w0 hw0=>?_;refine go 26 ?_;intro b1 b2 b3;refine aI rfl (h1) (aB (A:=[cel b3 (rz 0).cells 54,cel b1 r.cells 54]) (B:=[cel b2 (rz 0).cells 54,gY B.nb A mp nw,X,Y]) (.take (.leave (.take (.leave (.leave (.leave .nil)))))) rfl ?_);refine aW (fun J hJ=>?_);have m3:cel b3 (rz 0).cells 54∈J:=hJ _ (List.Mem.head _);have m1:cel b1 r.cells 54∈J:=hJ _ (List.Mem.tail _ (List.Mem.head _));have mU:B.it u∈J:=hJ _ (List.Mem.tail _ (List.Mem.tail _ (List.Mem.head _)));clear hJ;have fR:RdsN J ⟨b1,0,none⟩ 57 r.cells:=⟨fun _=>Rds.allI m1,h57⟩;have fZ:RdsN J ⟨b3,0,none⟩ 57 (rz 0).cells:=⟨fun _=>Rds.allI m3,rfl⟩;have fN:RdI J ⟨B.b,0+50,none⟩ (.pointer (some ⟨B.nb,0,none⟩)):=⟨fun _=>Rd.celI mU rfl⟩;have fW:RdI J ⟨B.b,0+46,none⟩ (.int .i64 u.now):=⟨fun _=>Rd.celI mU rfl⟩;refine go 1 ?_;refine ae (Sq.of [0,1,2,3,4,5,6,7,8,10,9,11,12]) [9,12] [9,12] [0,1,2,3,4,5,6,7,8,10,11] (h:=?_);refine go 8 ?_;refine RL.loadWT KA54.h KS54.h rfl rfl rfl rfl m1 h57 (RL.loadWT KA54.h KS54.h rfl rfl rfl rfl m3 rfl (RL.call (nimu_first B.nb A mp nw u.now r hA ht hk) (hl:=.nil) (hb:=.inr rfl) (h:=?_)));rintro _ _ _ ⟨rfl,rfl,rfl⟩;refine go 1 ?_;refine an (vs:=(rz 0).cells) (ho:=rfl) (h:=?_);refine go 5 ?_;exact RQ.rea (fun _ h=>h) (H':=[cel b2 (rz 0).cells 54]) rE (RQ.post (resTW (vs:=(rz 0).cells) rfl rfl rfl KA54.h KS54.h mQ rfl) (aa _) ⟨rfl,rfl,rfl⟩)
def Frm1R(C:UC)(x:UX)(f:Fr):Value→List It→List It→Prop:=fun v I' H'=>v=.tuple #[]∧I'=[]∧∃(u:US) (eo:Option Nat) (ec:Nat),u.ev=aE eo 1 ec∧H'=[own eo ec 73 62 1 (evC f 0 (rz 0)),C.B.it u]
theorem uframe1(C:UC)(x:UX)(f:Fr)(r:Rdg)(m:Nat×Nat)(p:Option Addr)(c n:Nat)(hC:C.Ok)(hx:x.Ok)(hnw:x.nw≤x.u.now)(hb:x.u.now≤1000000)(hf:f.Ok)(hkd:f.kd=1)(hn:f.b.length=n)(hnb:n≤900000)(hnc:n≤c)(hev:x.u.ev=aE none 0 0)(hres:aO (.int .i64 f.sr) x.rl=some (mkV m))(hgt:gtB (f.ep,f.ct) m=false)(hlook:di x.g f x.u.now=0)(hgo:bV 1 f.b=some r)(hrk:r.kind=1):Spc Tryz.prog 50 #[.pointer (some ⟨C.B.b,0,none⟩),.agg (f.cells (.slice p n c)).toArray] [sls p 1 n (bytes f.b)] (UL C x) (Frm1R C x f):=by
 have h21:=dT hf.tag (.slice p n c);have h57:∀r:Rdg,r.cells.length=57:=fun r=>rfl;have hlk:=hx.lk;have hn0:=hx.n0;refine Spc.enter Tryz.func50 (h:=?_);refine fun w0 hw0=>?_;refine go 5 ?_;intro b1;refine CW.scope (γ:=Unit) 0 (fun _=>False) (fun _=>[]) (fun _=>[]) (fun _=>[]) rfl ?_ (fun _ he=>he.elim);refine go 30 ?_;intro b2 b3 b4;refine ag rfl (hlk) (go 9 ?_);apply au (d:=16) (dp:=20) (l':=(Sq.of [])) rfl (sK [0,3,4,5,6,8] rfl)
 ·intro hb4 K4;refine go 4 ?_;exact K4 _ (.cons rfl (sK [0,3,4,5,6,8] rfl))
 ·intro hb4 K4;refine go 4 ?_;exact K4 _ (.cons rfl (sK [0,3,4,5,6,8] rfl))
 refine go 2 ?_;refine ag rfl ((by rw[hkd];rfl)) ?_;refine go 3 ?_;refine ae (Sq.of [0,1,2,3,4,5,6,7,8,9,10,11]) [10] [10] [0,1,2,4,7,8,9,11] (h:=?_);refine go 6 ?_;refine ga keyI KU119.h KZ121.h rfl rfl rfl rfl rfl ⟨f.sr,rfl⟩ (MapAt.own mQ) ?_;refine av (d:=31) (v':=.tuple #[mkV m,.bool true]) rfl (by show Value.tuple #[(aO (.int .i64 f.sr) x.rl).getD (mkV (0,0)),.bool (aO (.int .i64 f.sr) x.rl).isSome]=_;rw[hres];rfl) ?_;refine go 17 ?_;apply aL (d:=35) (dp:=43) (l':=(Sq.of [])) rfl (sK [0,3,4,5,8] rfl)
 ·intro hb2 K2;refine go 6 ?_;refine ab (ij (f.ep,f.ct) m) (h:=?_);refine go 1 ?_;exact K2 _ (.cons rfl (sK [0,3,4,5,8] rfl))
 ·intro hb2 K2;refine go 8 ?_;exact K2 _ (.cons rfl (sK [0,3,4,5,8] rfl))
 refine go 2 ?_;refine ag rfl ((by rw[hgt];rfl)) ?_;refine go 3 ?_;refine ae (Sq.of [0,1,2,3,4,5,6,7,8,9,10]) [9] [9] [0,1,2,4,5,6,10] (h:=?_);refine go 9 ?_;refine RL.call ((gcheck_any C.B.G x.g f p c n x.u.now hC.mo hx.g hf hn hnb).bundle) (hl:=.inI mQ .nil) (hb:=.inr rfl) (h:=?_);rintro _ _ _ ⟨_,⟨rfl,rfl,cm,ct',hcm,hct,rfl⟩,rfl⟩;have hg':GOk { x.g with l:=eH C.B.G x.g f x.u.now,M:=ew x.g f x.u.now,cm:=cm,D:=chkD x.g.D (di x.g f x.u.now),ct:=ct' }:=⟨hx.g.t,hx.g.k,by rw[lookL_len];exact hx.g.l,hcm,hx.g.y,hct⟩;generalize ({ x.g with l:=eH C.B.G x.g f x.u.now,M:=ew x.g f x.u.now,cm:=cm,D:=chkD x.g.D (di x.g f x.u.now),ct:=ct' }:GSt)=g1 at hg' ⊢;have hget:=get_all f.kd p n c f.b hn hnc;rw[show bV f.kd f.b=some r by rw[hkd];exact hgo] at hget;unfold hP at hget;obtain⟨m2,hm2⟩:=rm_at hx.rl f.sr;refine go 10 ?_;refine ag rfl ((by rw[hlook];rfl)) ?_;refine go 8 ?_;refine ar (hget) (hl:=.inI mQ .nil) (h:=?_);refine go 20 ?_;refine RL.call ((act1_any C.B x.u C.nA C.mp x.nw f.sr r hC.nA ⟨hnw,by omega⟩ hrk _ _).bundle) Tryz.call94 rfl rfl rfl rfl rfl pE (Lend.inH mQ .nil) (.inr rfl) ?_;rintro _ _ _ ⟨_,⟨rfl,rfl,rfl⟩,rfl⟩;refine go 15 ?_;apply au (d:=79) (dp:=84) (l':=(Sq.of [11,12,13])) rfl (sK [0,3,5,8,74] rfl)
 ·intro hb6 K6;refine go 3 ?_;refine ar (short_any C.B x.u g1 x.rl f.sr (C.d:Int) m2 hg' hm2 hC.c) (hl:=Lend.inH mQ (Lend.inH (x:=allI (GI C.B.G g1)) mQ (Lend.inH mQ .nil))) (h:=?_);refine go 1 ?_;exact K6 _ (.cons rfl (sK [0,3,5,8,74] rfl))
 ·intro hb6 K6;refine go 5 ?_;exact K6 _ (.cons rfl (sK [0,3,5,8,74] rfl))
 refine go 2 ?_;refine aj (cs':=C.B.cells { x.u with nd:=Bool.or x.u.nd (shB g1 m2 (C.d:Int) f.sr) }) (vs:=[_]) rfl KS4.h rfl rfl rfl rfl rfl rfl rfl rfl uE (by rw[gO];simp) ?_;refine go 3 ?_;refine CW.label (go 6 ?_);refine RL.call (tell_any C.B { x.u with nd:=Bool.or x.u.nd (shB g1 m2 (C.d:Int) f.sr) } f p c n 0 (rz 0) x.ct x.D hx.D hf.tag hev) (hl:=.nil) (hb:=.inr rfl) (h:=?_);rintro _ _ _ ⟨rfl,rfl,eo,ec,ct2,D2,hD2,rfl⟩;refine go 1 ?_;refine NQ.jump ?_;exact NQ.rea (fun _ h=>h) (H':=[own eo ec 73 62 1 (evC f 0 (rz 0)),C.B.it { x.u with nd:=Bool.or x.u.nd (shB g1 m2 (C.d:Int) f.sr),ev:=aE eo 1 ec }]) rE (NQ.post (dn rfl) (.keep (.keep .nil)) ⟨rfl,rfl,{ x.u with nd:=Bool.or x.u.nd (shB g1 m2 (C.d:Int) f.sr),ev:=aE eo 1 ec },eo,ec,rfl,rfl⟩)
abbrev FrG1:=US×Option Nat×Nat
def lp1I:Option FrG1→Int
 | none=>0
 | some _=>1
def lp1P:Option FrG1→Prop
 | none=>True
 | some (u,eo,ec)=>u.ev=aE eo 1 ec
def lp1H(C:UC)(x:UX)(f:Fr)(J:List It):Option FrG1→List It
 | none=>J++UL C x
 | some (u,eo,ec)=>[own eo ec 73 62 1 (evC f 0 (rz 0)),C.B.it u]
def UBy1R(f:Fr):Value→List It→List It→Prop:=fun v I' H'=>∃(eo:Option Nat) (ec:Nat),v=.tuple #[aE eo 1 ec,.int .i64 0]∧I'=[]∧H'=[own eo ec 73 62 1 (evC f 0 (rz 0))]
theorem ubytes1(C:UC)(x:UX)(f:Fr)(r:Rdg)(m:Nat×Nat)(h0:Option Addr)(c0:Nat)(nz sm:Int)(q:Option Addr)(c n:Nat)(hC:C.Ok)(hx:x.Ok)(hnw:x.nw≤x.u.now)(hb:x.u.now≤1000000)(hf:f.Fit)(hkd:f.kd=1)(hn:(eA f).length=n)(hres:aO (.int .i64 f.sr) x.rl=some (mkV m))(hgt:gtB (f.ep,f.ct) m=false)(hlook:di x.g f x.u.now=0)(hgo:bV 1 f.b=some r)(hrk:r.kind=1):Spc Tryz.prog 19 #[.pointer (some ⟨C.B.b,0,none⟩),.slice q n c] [sls q 1 n (bytes (eA f))] (hnI C.B.h h0 c0 nz sm::UL C x) (UBy1R f):=by
 have hbl:=hf.b;have hx1:UX.Ok { x with u:= { x.u with ev:=aE none 0 0 } }:=⟨hx.st,hx.g,hx.T,hx.la,hx.be,hx.M,hx.rl,hx.D,hx.lk,hx.n0⟩;refine Spc.enter Tryz.func19 (h:=?_);refine fun w0 hw0=>?_;refine go 10 ?_;refine ar (uis_any C.B x.u) (hl:=Lend.inH mQ .nil) (h:=?_);refine go 11 ?_;refine aj (vs:=[_]) (un_setev C.B x.u (aE none 0 0)) (ho:=rfl) (hl:=by rw[gO];simp) (h:=?_);refine go 9 ?_;refine RL.call (feed_any C.B.h h0 c0 nz sm q c n f hf hn) (hl:=.inI mQ .nil) (hb:=.inr rfl) (h:=?_);rintro _ _ _ ⟨p',c',ol,cl,ob,cap,rfl,rfl,rfl⟩;refine go 16 ?_;have h21:=dT hf.ok.tag (aE ob f.b.length cap)
 refine CW.loop (γ := Option FrG1) lp1P (fun g => [(0, .pointer (some ⟨C.B.b, 0, none⟩)), (7, .int .i64 0), (25, aE ol 1 cl), (26, .int .i64 1), (27, .int .i64 (lp1I g))]) (fun _ => [])
   (lp1H C { x with u := { x.u with ev := aE none 0 0 } } f [hnI C.B.h p' c' nz sm, own ol cl 151 21 1 (f.cells (aE ob f.b.length cap)), own ob cap 5 1 f.b.length (bytes f.b)]) (fun g => if g.isSome = true then 0 else 1) none trivial
   (.cons rfl (.cons rfl (.cons rfl (.cons rfl (.cons rfl .nil))))) (fun w h => h.rea (fun _ h => by cases h) rE) ?_
 rintro g hg
 cases g with
 | none=>
  dsimp only[lp1I,lp1H];refine go 7 ?_;refine aR (p:=(ol=none→False)∧f.b.length≤cap) (fun w hC=>⟨fun e=>by subst e;have:=dW (hC.s.h (own none cl 151 21 1 (f.cells (aE ob f.b.length cap))) mQ);omega,iY (hC.s.h (own ob cap 5 1 f.b.length (bytes f.b)) mQ)⟩) (fun hob=>?_)
  cases ol with
  | none=>exact(hob.1 rfl).elim
  | some b=>
  refine go 6 ?_;refine aS (j:=0) (ho:=rfl) (hlt:=by decide) (h:=?_);refine ak (vs:=f.cells (aE ob f.b.length cap)) (hs:=by rw[h21];exact KS151.h) (ho:=rfl) (hr:=(Rds.own mQ).part (j:=0*21) (fun q u h=>by simpa using h)) (h:=?_);refine go 1 ?_;intro b1;refine an (ho:=rfl) (h1:=ig _ rfl) (hv:=h21) (h:=?_);refine go 4 ?_;refine aT (ho:=rfl) (hl:=h21) (h:=?_);refine RL.call (uframe1 C { x with u:= { x.u with ev:=aE none 0 0 } } f r m (ob.map fun b=>⟨b,0,none⟩) cap f.b.length hC hx1 hnw hb hf.ok hkd rfl (by omega) hob.2 rfl hres hgt hlook hgo hrk) (hl:=Lend.own mQ .nil) (hb:=.inr rfl) (h:=?_);rintro _ _ _ ⟨rfl,rfl,u,eo,ec,huv,rfl⟩;refine go 4 ?_;refine ap rfl (ad (by omega) (by omega)) ?_;refine go 2 ?_;exact NQ.round (g:=none) (some (u,eo,ec)) huv (show 0<1 by decide) (.cons rfl (.cons rfl (.cons rfl (.cons rfl (.cons rfl .nil))))) wE
 | some g=>obtain⟨u,eo,ec⟩:=g;have hyv:u.ev=aE eo 1 ec:=hg;dsimp only[lp1I,lp1H];refine go 17 ?_;refine RL.load (ho:=rfl) (hr:=Rd.get mQ (un_ev C.B u)) (h:=?_);rw[hyv];refine go 6 ?_;exact RQ.rea (fun _ h=>h) (H':=[own eo ec 73 62 1 (evC f 0 (rz 0))]) rE (RQ.post (bb rfl rfl rfl) (.keep .nil) ⟨eo,ec,rfl,rfl,rfl⟩)
end Go.Proofs.YthlchaldjekokaaGreat
namespace Go.PK
def YSpc(P:Program)(l:Nat)(args:List Value)(H:List It)(R:Value→List It→Prop):Prop:=
 ∀w,Sat [] H w→∃fn tmps asg body,(Instr.yield l args.toArray).run P w=.ok (.round l fn tmps asg body) w∧
  RoundIn Fence.wide 0 P l fn tmps asg body w (fun e w'=>∃v H',e=.returned v∧R v H'∧Keeps (bss H) w w'∧Sat [] H' w'∧(∀b∈bss H',b∈bss H∨w.heap.size≤b))
def Iter(P:Program)(gf:FuncId)(first cap:List Value)(C:List It)(xs:List (List Value)):Prop:=
 ∀(l:Nat) (X Z:Nat→List It) (p:Nat→Bool),(∀k a,xs[k]?=some a→YSpc P l a (X k) (fun v H'=>v=.bool (p k)∧H'=if p k=true then X (k+1) else Z k))→
  Spc P gf (first++[Value.func (.yield l) #[] #[]]++cap).toArray C (X 0) (fun v I' H'=>v=.tuple #[]∧I'=[]∧((H'=X xs.length∧∀k,k<xs.length→p k=true)∨∃k,k<xs.length∧p k=false∧H'=Z k))
section
variable {P:Program} {L:List Oper} {ef bk:List Nat} {tq:Tq} {Q:Exit→Act→World→Prop} {N:Fm} {E:Env} {w0:World} {S:List Nat} {I H:List It} {i:Nat} {l:Sq}
variable {d:Nat} {y:Operand} {ty:TypeId} {pos:String} {af:Array Edge} {g:Option (Nat×Bool)}
theorem exec_callY{ρ:Operand→Value}{dst:Option Tmp}{lp:Nat}{xs:Array Operand}{ats:Array TypeId}(hy:ρ y=.func (.yield lp) #[] #[]):execOp ρ ⟨dst,.call ⟨.value y,xs,ats⟩,ty,pos,af,g⟩=Instr.yield lp (#[]++xs.map ρ):=by simp only[execOp,resolve,hy];rfl
theorem RL.callY{lp:Nat}{args:List Value}{A B:List It}{R:Value→List It→Prop}{xs:Array Operand}{ats:Array TypeId}(hfn:YSpc P lp args A R)(ho:b7 L i=some ⟨some d,.call ⟨.value y,xs,ats⟩,ty,pos,af,g⟩)(hw:aG L E ⟨some d,.call ⟨.value y,xs,ats⟩,ty,pos,af,g⟩=true)(hN:Nat.blt d N.n=true)(hi:ef.contains i=true)(hb:bk.contains i=true)(hy:E.ev y=some (.func (.yield lp) #[] #[]))(hx:evs E xs.toList=some args)(hp:Pick H A B)(h:∀v H',R v H'→RL P L ef bk tq Q l N ((d,v)::E) w0 S I (H'++B)):RL P L ef bk tq Q (.cons i l) N E w0 S I H:=by
 refine eZ ho hw hi rfl hN (fun a w ha hC=>?_);unfold dD;rw[exec_callY (ha.ev hy)];have hargs:(#[]++xs.map a.eval)=args.toArray:=by have:=ha.evs hx;apply Array.toList_inj.1;simpa using this
 rw[hargs];obtain⟨fn,tmps,asg,body,e1,hr⟩:=hfn w (hC.s.part hp Lend.nil).1;rw[e1];refine RoundIn.mono hr ?_;rintro e w' ⟨v,H',he,hR,hk,hs,hn⟩;exact⟨v,he,I,H'++B,hC.call hp Lend.nil hk hs hn (by simp),fun x hx=>hx,fun hbk w2 hw2=>by(rw[hb] at hbk;cases hbk),h v H' hR⟩
end
def recI(l:Nat)(r:Loop)(st:LoopState)(pd:Option Code):It:=blk l (.loop { r with state:=st,pending:=pd })
section
variable {P:Program} {Q:Exit→Act→World→Prop} {N:Fm} {E:Env} {w0:World} {S:List Nat} {I H:List It}
theorem Keeps.put(w:World)(b:Nat)(o:Obj):Keeps [b] w (w.putObj b o):=
 ⟨rfl,rfl,rfl,by simp,fun c _ hc=>World.putObj_heap_other (by simpa using hc),Nat.le_refl _⟩
theorem Cls.put{w:World}{b:Nat}{o o':Obj}(h:Cls w0 S I (blk b o::H) w):Cls w0 S I (blk b o'::H) (w.putObj b o'):=by have hA:w.heap[b]?=some o:=h.s.h (blk b o) (List.Mem.head _);exact h.upd (x:=blk b o) (x':=blk b o') .here (Keeps.put w b o') rfl (World.putObj_heap_same (Array.getElem?_eq_some_iff.1 hA).1)
theorem Lend.wide{I F J:List It}{x:It}(h:Lend I F J):Lend I (x::F) J:=by
 induction h with
 | nil=>exact .nil
 | inI hx _ ih=>exact .inI hx ih
 | inH hx _ ih=>exact .inH (List.mem_cons_of_mem _ hx) ih
 | of hx hb _ ih=>exact .of (fun w hw=>hx w (hw.les (fun _ h=>h) (.drop (Les.refl _)))) (fun b h=>(hb b h).imp id (fun h=>by rw[bM];exact List.mem_append_right _ h)) ih
theorem Pick.all:∀H:List It,Pick H H []
 | []=>.nil
 | _::H=>.take (Pick.all H)
def RdPost(w0:World)(S:List Nat)(R:Value→List It→Prop):Ending→World→Prop:=fun e w'=>∃v H',e=.returned v∧R v H'∧Keeps S w0 w'∧Sat [] H' w'∧(∀b∈bss H',b∈S∨w0.heap.size≤b)
def RdBegin(P:Program)(l:Nat)(body:Code)(Q:Exit→Act→World→Prop):Exit→Act→World→Prop:=
 Exit.then (fun a₁ w₁=>∃w₂,(Instr.beginRound l).run P w₁=.ok () w₂∧body.wpIn (FnR (some l)) 0 P Q a₁ w₂) (fun _ _ _=>False)
theorem NQ.rdBegin{n l:Nat}{ds:List Deferred}{body:Code}{r:Loop}{pd:Option Code}{H':List It}(h:CW P body Q ⟨n,ds,some l⟩ E w0 S I H')(hu:Upd H (recI l r .ready pd) (recI l r .busy pd) H':=by repeat (first|exact Upd.here|apply Upd.there)):NQ (RdBegin P l body Q) ⟨n,ds,some l⟩ E w0 S I H:=fun a w ha hw=>
 have hA:w.heap[l]?=_:=hw.s.h _ hu.mem
 ⟨_,run_beginRound (r:= { r with state:=.ready,pending:=pd }) hA rfl,h a _ ha (hw.upd hu (Keeps.put w l _) rfl (World.putObj_heap_same (Array.getElem?_eq_some_iff.1 hA).1))⟩
theorem RdPost.of{R:Value→List It→Prop}{v:Value}{w:World}(h:Cls w0 S [] H w){H':List It}(hl:Les H H')(hR:R v H'):RdPost w0 S R (.returned v) w:=
 have h':=h.les (fun _ h=>h) hl
 ⟨v,H',rfl,hR,h'.k,h'.s,fun b hb=>by
  rcases Nat.lt_or_ge b w0.heap.size with hlt|hge
  ·exact .inl (h'.own b hb hlt)
  ·exact .inr hge⟩
theorem NQ.rdEnd{l:Nat}{r:Loop}{pd:Option Code}{R:Value→List It→Prop}{H':List It}(hr:Rea H (recI l r .busy pd::H'))(hR:R (.bool true) (recI l r .ready none::H')):NQ (roundPost P l (RdPost w0 S R)) N E w0 S [] H:=fun _ w _ hw=>
 have hw:=hw.rea (fun _ h=>h) hr
 ⟨_,_,run_endRound (r:= { r with state:=.busy,pending:=pd }) none (hw.s.h (recI l r .busy pd) (List.Mem.head _)),RdPost.of (hw.put (o':=.loop { r with state:=.ready,pending:=none })) (Les.refl _) hR⟩
theorem RQ.rdRet{l:Nat}{r:Loop}{pd:Option Code}{R:Value→List It→Prop}{H':List It}(hr:Rea H (recI l r .busy pd::H'))(hR:R (.bool false) (recI l r .done (some .ret)::H')):RQ (roundPost P l (RdPost w0 S R)) N E w0 S [] H:=fun _ w _ hw=>
 have hw:=hw.rea (fun _ h=>h) hr
 ⟨_,_,run_endRound (r:= { r with state:=.busy,pending:=pd }) (some .ret) (hw.s.h (recI l r .busy pd) (List.Mem.head _)),RdPost.of (hw.put (o':=.loop { r with state:=.done,pending:=some .ret })) (Les.refl _) hR⟩
def zipE:List Nat→List Value→Env→Env
 | p::ps,v::vs,E=>zipE ps vs ((p,v)::E)
 | _,_,E=>E
theorem zipE_ag{N:Fm}:∀(ps:List Nat) (vs:List Value) (E:Env) (a:Act),(∀p∈ps,p<N.n)→Ag N a E→Ag N { a with tmps:=(ps.zip vs).foldl (fun t (x:Nat×Value)=>t.setIfInBounds x.1 x.2) a.tmps } (zipE ps vs E)
 | [],_,_,_,_,h=>h
 | _::_,[],_,_,_,h=>h
 | p::ps,v::vs,E,a,hp,h=>by
  have h1:Ag N (a.put (some p) v) ((p,v)::E):=h.put (by simpa using hp p (by simp)) v
  exact zipE_ag ps vs _ (a.put (some p) v) (fun q hq=>hp q (by simp[hq])) h1
theorem CW.rangeFunc{n:Nat}{g:Operand}{ps:Array Tmp}{asg body:Code}{gf:FuncId}{first cap:List Value}{B C:List It}{xs:List (List Value)}{X Z:Nat→List It}{p:Nat→Bool}(hit:Iter P gf first cap C xs)(hg:E.ev g=some (.func (.func gf) first.toArray cap.toArray))(hrun:∀args w,(callFunc gf args).run P w=.ok (.enter gf args) w)(hps:∀a∈xs,a.length=ps.size)(hpn:∀q∈ps.toList,q<n)(hp:Pick H (X 0) B)(hl:Lend I B C)(hround:∀l r k a w1,xs[k]?=some a→CW P asg (RdBegin P l body (roundPost P l (RdPost w1 (bss (recI l r .ready none::X k)) (fun v H'=>v=.bool (p k)∧H'=if p k=true then recI l r .ready none::X (k+1) else recI l r .done (some .ret)::Z k)))) ⟨n,[],some l⟩ (zipE ps.toList a E) w1 (bss (recI l r .ready none::X k)) [] (recI l r .ready none::X k))(hdone:(∀k,k<xs.length→p k=true)→∀D,NQ Q ⟨n,[⟨.collected D,#[]⟩],none⟩ E w0 S I (blk D (.deferred (some []))::(X xs.length++B)))(hstop:∀k,k<xs.length→p k=false→∀D,RQ Q ⟨n,[⟨.collected D,#[]⟩],none⟩ E w0 S I (blk D (.deferred (some []))::(Z k++B))):CW P (.rangeFunc g ps asg body) Q ⟨n,[],none⟩ E w0 S I H:=by
 intro a w ha hw;refine wpIn_rangeFunc (F:=FnR none) ?_;intro fn _;obtain⟨r,hr⟩:∃r:Loop,r= { state:=.ready,pending:=none,fn,tmps:=a.tmps,params:=ps,assign:=asg,body,defers:=w.heap.size }:=⟨_,rfl⟩;have hrr: { r with state:=.ready,pending:=none }=r:=by rw[hr]
 let w1:=(w.alloc (.deferred (some []))).alloc (.loop r);have hdef:∀d∈a.defers,False:=by rw[ha.d];simp
 refine⟨w.heap.size+1,[⟨.collected w.heap.size,#[]⟩],w1,⟨.fn (.func gf) cap.toArray,first.toArray++ #[Value.func (.yield (w.heap.size+1)) #[] #[]]⟩,w1,gf,(first++[Value.func (.yield (w.heap.size+1)) #[] #[]]++cap).toArray,w1,?_,?_,fun _ _=>trivial,?_,fun h=>(by cases h),?_⟩
 ·rw[show(FnR none).round=none from rfl,run_enterLoop_outer,←hr]
 ·have he:=ha.ev hg;simp only[resolve,he];simp[Deferred.ofValue,Act.eval]
 ·simp only[invoke];rw[hrun];simp
 ·have c1 : Cls w0 S I (blk w.heap.size (.deferred (some [])) :: H) (w.alloc (.deferred (some []))) :=
    hw.more (Keeps.alloc [] w _) (World.alloc_heap_new w _) (by simp [blk]) (by simp [blk])
  have c2 : Cls w0 S I (recI (w.heap.size + 1) r .ready none :: blk w.heap.size (.deferred (some [])) :: H) w1 :=
    c1.more (Keeps.alloc [] _ _) (by
      have := World.alloc_heap_new (w.alloc (.deferred (some []))) (.loop r)
      rw [World.size_alloc] at this
      show w1.heap[w.heap.size + 1]? = _
      rw [hrr]; exact this) (by simp [blk, recI]) (by simp [blk, recI])
  have hsp:=hit (w.heap.size+1) (fun k=>recI (w.heap.size+1) r .ready none::X k) (fun k=>recI (w.heap.size+1) r .done (some .ret)::Z k) p (fun k x hx=>by
   intro W hW;have hrec:W.heap[w.heap.size+1]?=some (.loop r):=by have:=hW.h (recI (w.heap.size+1) r .ready none) (List.Mem.head _);rw[←hrr];exact this
   have hlen:=hps x (List.mem_of_getElem? hx);refine⟨_,_,_,_,run_yield (args:=x.toArray) hrec (by rw[hr];simpa using hlen),?_⟩;have hag:Ag ⟨n,[],some (w.heap.size+1)⟩ a E:=⟨ha.d,ha.n,ha.t⟩;have hz:=zipE_ag ps.toList x E a hpn hag;refine roundIn_of_wpIn (F:=Fence.wide) trivial ?_;have:=hround (w.heap.size+1) r k x W hx _ W hz ⟨Keeps.refl _ _,hW,fun b hb _=>hb⟩;have e1:(r.params.zip x.toArray).foldl (fun tmps (t,a)=>tmps.setIfInBounds t a) r.tmps=(ps.toList.zip x).foldl (fun t (x:Nat×Value)=>t.setIfInBounds x.1 x.2) a.tmps:=by rw[hr,←Array.foldl_toList,Array.toList_zip]
   rw[e1,hr];have e2:a.defers=[]:=ha.d;rw[hr] at this;rw[e2] at this;exact this)
  have hpk:Pick (recI (w.heap.size+1) r .ready none::blk w.heap.size (.deferred (some []))::H) (recI (w.heap.size+1) r .ready none::X 0) (blk w.heap.size (.deferred (some []))::B):=.take (.leave hp);have hlk:Lend I (blk w.heap.size (.deferred (some []))::B) C:=hl.wide;refine(callsIn_wide (n:=0)).2 ((hsp w1 (c2.s.part hpk hlk).1).mono ?_);rintro e w2 ⟨v,I',H',rfl,⟨rfl,rfl,hH⟩,hk,hs,hn,hni⟩;have c3:=c2.call hpk hlk hk hs hn hni;have hmk:∀K:List It,[⟨.collected w.heap.size,#[]⟩]++a.defers=[⟨Target.collected w.heap.size,#[]⟩]:=fun _=>by rw[ha.d];rfl
  rcases hH with⟨rfl,hall⟩|⟨k,hk1,hk2,rfl⟩
  ·have c4:Cls w0 S I (recI (w.heap.size+1) r .ready none::(X xs.length++blk w.heap.size (.deferred (some []))::B)) w2:=c3;refine⟨none,_,run_endLoop (r:= { r with state:=.ready,pending:=none }) (c4.s.h (recI (w.heap.size+1) r .ready none) (List.Mem.head _)) (by simp),?_⟩;exact hdone hall w.heap.size _ _ ⟨by rw[hmk []],ha.n,ha.t⟩ ((Cls.perm List.perm_middle (c4.put (o':=.loop { r with state:=.exhausted,pending:=none })).less))
  ·have c4:Cls w0 S I (recI (w.heap.size+1) r .done (some .ret)::(Z k++blk w.heap.size (.deferred (some []))::B)) w2:=c3;refine⟨some .ret,_,run_endLoop (r:= { r with state:=.done,pending:=some .ret }) (c4.s.h (recI (w.heap.size+1) r .done (some .ret)) (List.Mem.head _)) (by simp),?_⟩;exact wpIn_ret (hstop k hk1 hk2 w.heap.size _ _ ⟨by rw[hmk []],ha.n,ha.t⟩ ((Cls.perm List.perm_middle (c4.put (o':=.loop { r with state:=.exhausted,pending:=some .ret })).less)))
theorem resV{fn:Func}{tt:Tmp}{T C:TypeId}{b:Nat}{v:Value}(hf:fn.results= #[.cell tt T])(ht:E.get tt=some (.pointer (some ⟨b,0,none⟩)))(hag:∀w,(isAgg T).run P w=.ok false w)(hm:PK.cel b [v] C∈H):
  ∀a w,Ag N a E→Cls w0 S I H w→(results fn a.tmps).run P w=.ok v w:=fun a w ha hC=>by
 have:=run_isAggF hag ((show Rd I H ⟨b,0,none⟩ v from Rd.get (I:=I) hm rfl) w hC.s)
 simp[results,hf,ha.t tt _ ht,asAddr,this]
theorem RQ.marks{n D:Nat}{fn:Func}{R:Value→List It→List It→Prop}{H':List It}(h:RQ (FnPost P fn R w0 S) ⟨n,[],none⟩ E w0 S I H')(hu:Upd H (blk D (.deferred (some []))) (blk D (.deferred none)) H':=by repeat (first|exact Upd.here|apply Upd.there)):RQ (FnPost P fn R w0 S) ⟨n,[⟨.collected D,#[]⟩],none⟩ E w0 S I H:=by intro a w ha hw;have hd:a.defers=[⟨.collected D,#[]⟩]:=ha.d;have hA:w.heap[D]?=some (.deferred (some [])):=hw.s.h _ hu.mem;show LeavesInM _ _ _ _ _ _ a.defers _ _;rw[hd];exact⟨by simp,.inl ⟨D,w.putObj D (.deferred none),rfl,run_takeDeferred hA,h { a with defers:=[] } _ ⟨rfl,ha.n,ha.t⟩ (hw.upd hu (Keeps.put w D _) rfl (World.putObj_heap_same (Array.getElem?_eq_some_iff.1 hA).1))⟩⟩
end
end Go.PK
