import Derived.Test.YtkineolcmdecjaaGreatTA
import Derived.Test.YtkineolcmdecjaaGreatRC
import Derived.Test.YtkineolcmdecjaaGreatSameInts
namespace Go.Proofs.YtkineolcmdecjaaGreat
open Go.PK
open Tryz
def wc (p:Int×Int):List Value:= [.int .i64 p.1, .int .i64 p.2]
abbrev wcs (W:List (Int×Int)):List Value:=W.flatMap wc
theorem wcs_len (W:List (Int×Int)):(wcs W).length=W.length*2:=length_flat (fun _ _=> rfl)
theorem wcs_get {W:List (Int×Int)} {i j:Nat} {p:Int×Int} (hi:W[i]? =some p) (hj:j < 2):(wcs W)[i*2+j]? =(wc p)[j]? :=get_flat (f:=wc) (n:=2) (fun _ _=> rfl) hi hj
structure RB where
 yb:Nat
 y:Nat
 rt:Nat
 rk:Nat
 mo:Int
 ti:Int
structure RS where
 R:List One
 ob:Option Nat
 cp:Nat
 l:List Lk
 M:Marks
 W:List (Int×Int)
 ow:Option Nat
 cw:Nat
 D:List (Int×Int)
 od:Option Nat
 cd:Nat
abbrev rgCel (B:RB) (g:RS):It:=cel B.yb [.pointer (some ⟨B.y,0,none⟩), .pointer (some ⟨B.rt,0,none⟩), .pointer (some ⟨B.rk,0,none⟩),slO g.ow g.W.length g.cw,slO g.od g.D.length g.cd] 86
abbrev RGI (B:RB) (g:RS):List It:= [rgCel B g,cel B.y [slO g.ob g.R.length g.cp] 132,own g.ob g.cp 150 35 g.R.length (rcs g.R),rtI B.rt g.M,rkI B.rk B.mo B.ti g.l,own g.ow g.cw 141 2 g.W.length (wcs g.W),own g.od g.cd 146 2 g.D.length (wcs g.D)]
structure RSOk (g:RS):Prop where
 r:ROk g.R
 e1:∀o∈g.R,1≤o.e
 e2:∀o∈g.R,o.e < 4294967296
 n:g.R.length≤8
 l:g.l.length=8
 w:g.W.length≤100000
 d:g.D.length≤100000
def rs0:RS:=⟨[],none,0,List.replicate 8 ⟨0,0,0⟩,fun _=> none, [],none,0, [],none,0⟩
theorem rlnew_yes (mo ti:Int) (h1:1≤mo) (h2:mo≤1000) (h3:1≤ti) (h4:ti≤65535):Spc prog 41 #[.int .i64 mo, .int .i64 ti] [] [] (fun v I' H'=> ∃kb,v= .tuple #[.pointer (some ⟨kb,0,none⟩), .int .i64 0]∧I'= []∧H'= [rkI kb mo ti (List.replicate 8 ⟨0,0,0⟩)]):=by
 refine Spc.en func41 rfl rfl (fun w0 hw0=> ?_)
 refine CW.s1 rfl (CW.ss (CW.sr (RL.q rfl (RL.p rfl ?_))))
 apply RL.orB (d:=8) (dp:=11) (l':=(Sq.of (rg 6 13))) rfl (sK [0,1,4,5] rfl)
 ·
  intro hb3 K3
  refine RL.q rfl (RL.p rfl ?_)
  exact K3 _ (.cons rfl (sK [0,1,4,5] rfl))
 ·
  intro hb3 K3
  refine RL.q rfl (RL.p rfl ?_)
  exact K3 _ (.cons rfl (sK [0,1,4,5] rfl))
 refine RL.p rfl ?_
 apply RL.orB (d:=12) (dp:=15) (l':=(Sq.of [10,11,12,13])) rfl (sK [0,1,4,5] rfl)
 ·
  intro hb7 K7
  refine RL.q rfl (RL.p rfl ?_)
  exact K7 _ (.cons rfl (sK [0,1,4,5] rfl))
 ·
  intro hb7 K7
  refine RL.q rfl (RL.p rfl ?_)
  exact K7 _ (.cons rfl (sK [0,1,4,5] rfl))
 refine RL.p rfl ?_
 apply RL.orB (d:=16) (dp:=19) (l':=(Sq.of [])) rfl (sK [0,1,4,5] rfl)
 ·
  intro hb11 K11
  refine RL.q rfl (RL.p rfl ?_)
  exact K11 _ (.cons rfl (sK [0,1,4,5] rfl))
 ·
  intro hb11 K11
  refine RL.q rfl (RL.p rfl ?_)
  exact K11 _ (.cons rfl (sK [0,1,4,5] rfl))
 refine RL.ns (CW.cF rfl (zp) ?_)
 refine CW.sn (CW.sg [3] [] (RL.q rfl (RL.bS (kCells mo ti (List.replicate 8 ⟨0,0,0⟩)) zeroValue196 pl_196 rfl ?_)))
 refine RL.box (cs:=kCells mo ti (List.replicate 8 ⟨0,0,0⟩)) rfl (fun kb=> ?_)
 refine RL.qn rfl (CW.ok [4,5] rfl (CW.rr ?_))
 exact RQ.pp (res2 rfl rfl rfl) (.keep .nil) ⟨kb,rfl,rfl,rfl⟩
theorem rgnew_yes (mo ti:Int) (h1:1≤mo) (h2:mo≤1000) (h3:1≤ti) (h4:ti≤65535):Spc prog 12 #[.int .i64 mo, .int .i64 ti] [] [] (fun v I' H'=> ∃B:RB,B.mo=mo∧B.ti=ti∧v= .tuple #[.pointer (some ⟨B.yb,0,none⟩), .int .i64 0]∧I'= []∧H'=RGI B rs0):=by
 refine Spc.en func12 rfl rfl (fun w0 hw0=> ?_)
 refine CW.s1 rfl (CW.sg [2] [] (RL.q rfl (RL.cq (rlnew_yes mo ti h1 h2 h3 h4) call41 rfl (.inl rfl) ?_)))
 rintro _ _ _ ⟨kb,rfl,rfl,rfl⟩
 refine RL.q rfl (RL.p rfl (RL.qn rfl (CW.ok [6,7] rfl (CW.ss (CW.sr (RL.q rfl (RL.ee ?_)))))))
 refine NQ.ss (CW.cF rfl (zm) ?_)
 refine CW.sn (CW.sg [1,3,6] [] (RL.bS _ zeroValue132 pl_132 rfl (RL.box rfl ?_)))
 intro b1
 refine RL.bS _ zeroValue138 pl_138 rfl (RL.box rfl ?_)
 intro b2
 refine RL.p rfl (RL.bS [_,_,_,_,_] zeroValue86 pl_86 rfl (RL.box rfl ?_))
 intro b3
 refine RL.qn rfl (CW.ok [4,5] rfl (CW.rr (RQ.ownNone (e:=150) 35 (RQ.ownNone (e:=141) 2 (RQ.ownNone (e:=146) 2 (RQ.rea (fun _ h=> h) (H':=RGI ⟨b3,b1,b2,kb,mo,ti⟩ rs0) rE ?_))))))
 exact RQ.pp (res2 rfl rfl rfl) (.keep (.keep (.keep (.keep (.keep (.keep (.keep .nil))))))) ⟨⟨b3,b1,b2,kb,mo,ti⟩,rfl,rfl,rfl,rfl,rfl⟩
def fmark (f:Fr):Nat×Nat:=(f.ep,f.ct)
def lkT (K:List B8×Int) (f:Fr):Int:=if K.2=0 then (if (f.tag==macTag K.1 f.signed)=true then 0 else 190) else K.2
def lkE (K:List B8×Int) (Y:Bool) (l:List Lk) (M:Marks) (f:Fr) (t:Int):Int:=if tickB t=true then (if Y=true then (if kmay l f.sr t=0 then (if lkT K f=0 then mmay M f.sr (fmark f) else lkT K f) else kmay l f.sr t) else 191) else 2
def lkB (Y:Bool) (l:List Lk) (f:Fr) (t:Int):Bool:=tickB t && Y && decide (kmay l f.sr t=0)
def lkL (mo ti:Int) (K:List B8×Int) (Y:Bool) (l:List Lk) (M:Marks) (f:Fr) (t:Int):List Lk:=if lkB Y l f t=true then (if lkT K f=0 then (if mmay M f.sr (fmark f)=0 then goodL l f.sr else l) else (if K.2=0 then failL mo ti l f.sr t else l)) else l
def lkM (K:List B8×Int) (Y:Bool) (l:List Lk) (M:Marks) (f:Fr) (t:Int):Marks:=if lkB Y l f t=true then (if lkT K f=0 then takeM M f.sr (fmark f) else M) else M
theorem Rds.ownN {I H:List It} {b cap sz n j:Nat} {e:TypeId} {xs vs:List Value} (hm:own (some b) cap e sz n xs∈H) (h:∀q u,vs[q]? =some u→xs[j+q]? =some u):Rds I H ⟨b,0+j,none⟩ vs:=by
 have h2:=Rds.part (I:=I) (j:=j) (Rds.own hm) h
 rwa [add_none] at h2
theorem right_eq (x0 x1 y0 y1:Int) (x y:Operand) (w:World):(do eqGuard .eql 141 x y (.agg #[.int .i64 x0, .int .i64 x1]) (.agg #[.int .i64 y0, .int .i64 y1]);binOp .eql 141 (.agg #[.int .i64 x0, .int .i64 x1]) (.agg #[.int .i64 y0, .int .i64 y1]):Sem Value).run prog w= .ok (.bool (x0==y0 && x1==y1)) w:=by
 simp [run_eqGuard_agg,run_eql_struct,run_equalIn_struct,Program.fieldsOf,Op.eqFields,Go.part,go_sem]
 by_cases h1:x0=y0 <;> by_cases h2:x1=y1 <;> simp [h1,h2]
theorem tag_ne (l1 l2:List B8) (h1:l1.length=16) (h2:l2.length=16) (x y:Operand) (w:World):(do eqGuard .neq 76 x y (.agg (bytes l1).toArray) (.agg (bytes l2).toArray);binOp .neq 76 (.agg (bytes l1).toArray) (.agg (bytes l2).toArray):Sem Value).run prog w= .ok (.bool (!(l1==l2))) w:=
 neq_arr8 (e:=5) zi (ii:=Tryz.t5) zi zi isAgg5 runUnderlying5 zi l1 l2 h1 h2 w
def hasW (W:List (Int×Int)) (a b:Int):Bool:=W.any fun p=> p.1==a && p.2==b
theorem hasW_snoc {W:List (Int×Int)} {i:Nat} {p:Int×Int} (h:W[i]? =some p) (a b:Int):hasW (W.take (i+1)) a b=(hasW (W.take i) a b || (p.1==a && p.2==b)):=by
 obtain ⟨hlt,rfl⟩:=List.getElem?_eq_some_iff.1 h
 rw [hasW,List.take_succ_eq_append_getElem hlt,List.any_append]
 simp [hasW]
def RGR (B:RB) (g:RS) (x:Int):Value→List It→List It→Prop:=fun v I' H'=> v= .int .i64 x∧I'= []∧H'=RGI B g
abbrev rK (g:RS) (f:Fr) (t:Int):List B8×Int:=rkeyM g.R f.sr f.ep t
abbrev rY (g:RS) (f:Fr):Bool:=hasW g.W f.sr f.kd
theorem rglook_any (B:RB) (g:RS) (f:Fr) (p:Option Addr) (c n:Nat) (t:Int) (hg:RSOk g) (hf:f.Ok) (hn:f.b.length=n) (hb:n≤900000):
  Spc prog 52 #[.pointer (some ⟨B.yb,0,none⟩), .int .i64 t, .agg (f.cells (.slice p n c)).toArray] [sls p 1 n (bytes f.b)] (RGI B g) (RGR B { g with l:=lkL B.mo B.ti (rK g f t) (rY g f) g.l g.M f t,M:=lkM (rK g f t) (rY g f) g.l g.M f t } (lkE (rK g f t) (rY g f) g.l g.M f t)):=by
 obtain ⟨R,ob,cp,l,M,W,ow,cw,D,od,cd⟩:=g
 obtain ⟨hr,he1,he2,hnR,hll,hwl,hdl⟩:=hg
 dsimp only at hr he1 he2 hnR hll hwl hdl ⊢
 have hl:=fr_len hf.tag (.slice p n c)
 have hk:=rkeyM_len R f.sr f.ep t
 have hsl:=signed_len f
 have hmt:=macTag_len (rkeyM R f.sr f.ep t).1 f.signed
 have hft:=hf.tag
 refine Spc.en func52 rfl rfl (fun w0 hw0=> ?_)
 refine CW.sg [0] [] (RL.box rfl ?_)
 intro b1
 refine RL.pn rfl (CW.s2 (CW.fP (A:= [_]) (B:= [_,_,_,_,_,_,_]) (.take (.leave (.leave (.leave (.leave (.leave (.leave (.leave .nil)))))))) rfl (CW.rg (RL.q rfl (RL.p rfl ?_)))))
 apply RL.orB (d:=15) (dp:=18) (l':=(Sq.of [])) rfl (sK [0,1,5,6] rfl)
 ·
  intro hb3 K3
  refine RL.q rfl (RL.p rfl ?_)
  exact K3 _ (.cons rfl (sK [0,1,5,6] rfl))
 ·
  intro hb3 K3
  refine RL.q rfl (RL.p rfl ?_)
  exact K3 _ (.cons rfl (sK [0,1,5,6] rfl))
 refine RL.ns ?_
 refine CW.cd rfl (fun ht=> ?_) (fun ht=> ?_)
 ·
  refine CW.sr (RL.pn rfl (CW.rr (RQ.ss ?_)))
  have ht: ¬tickB t=true:=by simp at ht;simp [tickB];omega
  have hB: ¬lkB (hasW W f.sr f.kd) l f t=true:=by simp [lkB,ht]
  rw [lkM,if_neg hB,lkL,if_neg hB,lkE,if_neg ht]
  refine RQ.rea (fun _ h=> h) (H':=RGI B (⟨R,ob,cp,l,M,W,ow,cw,D,od,cd⟩)) rE ?_
  exact RQ.pp (res1 rfl rfl) (.keep (.keep (.keep (.keep (.keep (.keep (.keep .nil))))))) ⟨rfl,rfl,rfl⟩
 ·
  refine CW.sn (CW.sr (RL.pn rfl (CW.ss (CW.sr (RL.pn rfl (CW.bb ?_))))))
  have ht:tickB t=true:=by simp at ht;simp [tickB];omega
  refine CW.ff (p:=ow=none→W.length=0) (fun w hC e=> by
   have:=own_sls (hC.s.h (own ow cw 141 2 W.length (wcs W)) mQ)
   exact sls_nil this (by rw [e];rfl)) (fun hpa=> ?_)
  refine CW.loop (γ:=Nat) (fun i=> i≤W.length) (fun i=> [(0, .pointer (some ⟨B.yb,0,none⟩)),(1, .int .i64 t),(5, .pointer (some ⟨b1,0,none⟩)),(7, .bool (hasW (W.take i) f.sr f.kd)),(8, .int .i64 (i:Int))]) (fun _=> [cel b1 (f.cells (.slice p n c)) 78,sls p 1 n (bytes f.b)]) (fun _=> RGI B ⟨R,ob,cp,l,M,W,ow,cw,D,od,cd⟩) (fun i=> W.length - i) 0 zb sE (fun _ h=> h) ?_
  rintro i hi
  refine CW.ss (CW.sr (RL.q rfl (RL.p rfl (RL.fa fa_86_3 rfl (RL.lq isAgg83 rfl ?_)))))
  refine RL.lenS runUnderlying83 rfl (RL.pn rfl (CW.ok [0,1,5,7,8,25] rfl ?_))
  refine CW.cd rfl (fun hlt=> ?_) (fun hlt=> ?_)
  ·
   have hi2:i < W.length:=by simp at hlt;omega
   clear hlt
   cases ow with
   | none=> exact absurd (hpa rfl) zb
   | some ba=>
   have hx:=List.getElem?_eq_getElem hi2
   generalize W[i]=q at hx
   refine CW.sn (CW.ss (CW.bb (CW.rD (Sq.of (rg 0 16)) [] [] [0,1,2,3,4,6,7,9,11,13,14,15,16] mixed zi ?_)))
   refine RL.q rfl ?_
   apply RL.orB (d:=29) (dp:=43) (l':=(Sq.of [16])) rfl (sK [0,1,5,7,8] rfl)
   ·
    intro hb2 K2
    refine RL.q rfl (RL.fa fa_86_3 rfl (RL.lq isAgg83 rfl ?_))
    refine RL.p rfl (RL.ix (j:=i) runUnderlying83 sizeOf141 rfl (hi2) ?_)
    refine RL.ld (vs:= [.int .i64 q.1, .int .i64 q.2]) isAgg141 sizeOf141 rfl (Rds.ownN mQ (fun j u hj=> by rw [wcs_get hx (List.getElem?_eq_some_iff.1 hj).1];exact hj)) ?_
    refine RL.fa fa_78_1 rfl (RL.lq isAgg3 rfl ?_)
    refine RL.fa fa_78_0 rfl (RL.lq isAgg3 rfl ?_)
    refine RL.bS [_,_] zeroValue141 pl_141 rfl (RL.cmp rfl (right_eq _ _ _ _ _ _) (RL.p rfl ?_))
    exact K2 _ (.cons rfl (sK [0,1,5,7,8] rfl))
   ·
    intro hb2 K2
    refine RL.q rfl (RL.q rfl (RL.q rfl (RL.q rfl (RL.q rfl (RL.q rfl (RL.q rfl ?_))))))
    exact K2 _ (.cons rfl (sK [0,1,5,7,8] rfl))
   refine RL.p rfl (RL.ee (NQ.bb (NQ.ss (CW.rg (RL.p rfl (RL.bx rfl (wrapV_i64 zb zb) ?_))))))
   refine RL.p rfl (RL.ee ?_)
   rw [←hasW_snoc hx]
   refine NQ.rr (g:=i) (i+1) hi2 (by show W.length - (i+1) < W.length - i;omega) sE (fun w h=> h)
  ·
   refine CW.xx (XQ.ss (XQ.ss (XQ.hh (NQ.ss (CW.ss (CW.s1 rfl ?_))))))
   have hin:i=W.length:=by simp at hlt;omega
   subst hin
   rw [List.take_length]
   refine CW.cd rfl (fun hY=> ?_) (fun hY=> ?_)
   ·
    refine CW.sr (RL.pn rfl (CW.rr (RQ.ss ?_)))
    have hY: ¬hasW W f.sr f.kd=true:=by simpa using hY
    have hB: ¬lkB (hasW W f.sr f.kd) l f t=true:=by simp [lkB,hY]
    rw [lkM,if_neg hB,lkL,if_neg hB,lkE,if_pos ht,if_neg hY]
    refine RQ.rea (fun _ h=> h) (H':=RGI B (⟨R,ob,cp,l,M,W,ow,cw,D,od,cd⟩)) rE ?_
    exact RQ.pp (res1 rfl rfl) (.keep (.keep (.keep (.keep (.keep (.keep (.keep .nil))))))) ⟨rfl,rfl,rfl⟩
   ·
    refine CW.sn (CW.s2 (CW.rD (Sq.of (rg 0 8)) [] [] [0,1,2,4,6,8] mixed zi ?_))
    refine RL.q rfl (RL.fa fa_86_2 rfl (RL.lq isAgg82 rfl ?_))
    refine RL.fa fa_78_1 rfl (RL.lq isAgg3 rfl ?_)
    refine RL.p rfl (RL.vq (rlmay_any B.rk B.mo B.ti l f.sr t hll) call94 rfl ?_)
    refine RL.pn rfl (CW.ok [0,1,5,9] rfl (CW.s1 rfl ?_))
    have hY:hasW W f.sr f.kd=true:=by simpa using hY
    refine CW.cd rfl (fun hkm=> ?_) (fun hkm=> ?_)
    ·
     refine CW.s1 rfl (CW.rr (RQ.ss ?_))
     have hkm: ¬kmay l f.sr t=0:=by simpa using hkm
     have hB: ¬lkB (hasW W f.sr f.kd) l f t=true:=by simp [lkB,hkm]
     rw [lkM,if_neg hB,lkL,if_neg hB,lkE,if_pos ht,if_pos hY,if_neg hkm]
     refine RQ.rea (fun _ h=> h) (H':=RGI B (⟨R,ob,cp,l,M,W,ow,cw,D,od,cd⟩)) rE ?_
     exact RQ.pp (res1 rfl rfl) (.keep (.keep (.keep (.keep (.keep (.keep (.keep .nil))))))) ⟨rfl,rfl,rfl⟩
    ·
     refine CW.sn (CW.ss (CW.rD (Sq.of (rg 0 15)) [13,14] [14] [0,1,2,4,6,8,10,11,12,15] mixed zi ?_))
     refine RL.q rfl (RL.fa fa_86_0 rfl (RL.lq isAgg80 rfl ?_))
     refine RL.fa fa_78_1 rfl (RL.lq isAgg3 rfl ?_)
     refine RL.fa fa_78_2 rfl (RL.lq isAgg61 rfl ?_)
     refine RL.p rfl (RL.vq (rkey_any B.y R ob cp f.sr f.ep t hr he1 he2 hf.ep zb) call95 rfl ?_)
     refine RL.q rfl (RL.p rfl (RL.al (cs:=List.replicate 32 (U8 0#8)) zeroValue31 rfl ?_))
     intro b2
     refine RL.sq sizeOf31 rfl ?_
     refine RL.pn rfl (CW.ok [0,1,5,10,11] rfl (CW.ss (CW.s1 rfl ?_)))
     have hkm:kmay l f.sr t=0:=by simpa using hkm
     have hB:lkB (hasW W f.sr f.kd) l f t=true:=by simp [lkB,ht,hY,hkm]
     rw [lkM,if_pos hB,lkL,if_pos hB,lkE,if_pos ht,if_pos hY,if_pos hkm]
     refine CW.cd rfl (fun he=> ?_) (fun he=> ?_)
     ·
      refine CW.s1 rfl (CW.rr (RQ.ss ?_))
      have he: ¬(rkeyM R f.sr f.ep t).2=0:=by simpa using he
      have hT: ¬lkT (rkeyM R f.sr f.ep t) f=0:=by rw [lkT,if_neg he];exact he
      rw [if_neg hT,if_neg hT,if_neg hT,if_neg he]
      refine RQ.rea (fun _ h=> h) (H':=RGI B (⟨R,ob,cp,l,M,W,ow,cw,D,od,cd⟩)) rE ?_
      exact RQ.pp (res1 rfl rfl) (.keep (.keep (.keep (.keep (.keep (.keep (.keep .nil))))))) ⟨by rw [lkT,if_neg he];rfl,rfl,rfl⟩
     ·
      have he:(rkeyM R f.sr f.ep t).2=0:=by simpa using he
      refine CW.fP (A:= [_]) (B:= [_,_,_,_,_,_,_]) (.take (.leave (.leave (.leave (.leave (.leave (.leave (.leave .nil)))))))) rfl ?_
      have f1:RdsN [cel b2 (bytes (rkeyM R f.sr f.ep t).1) 31,cel b1 (f.cells (.slice p n c)) 78,sls p 1 n (bytes f.b)] ⟨b1,0+5,none⟩ 16 (bytes f.tag):=RdsN.told (List.Mem.tail _ (List.Mem.head _)) (fr_tag f _) (by rw [List.length_map,hft])
      have f2:RdsN [cel b2 (bytes (rkeyM R f.sr f.ep t).1) 31,cel b1 (f.cells (.slice p n c)) 78,sls p 1 n (bytes f.b)] ⟨b1,0,none⟩ 21 (f.cells (.slice p n c)):=RdsN.told (List.Mem.tail _ (List.Mem.head _)) (fun j u h=> by rw [Nat.zero_add];exact h) hl
      have f3:RdsN [cel b2 (bytes (rkeyM R f.sr f.ep t).1) 31,cel b1 (f.cells (.slice p n c)) 78,sls p 1 n (bytes f.b)] ⟨b2,0,none⟩ 32 (bytes (rkeyM R f.sr f.ep t).1):=RdsN.told (List.Mem.head _) (fun j u h=> by rw [Nat.zero_add];exact h) (by rw [List.length_map,hk])
      refine CW.sn (CW.s2 (CW.rD (Sq.of [0,1,4,5,2,3,6]) [2] [] [0,1,4,5,6] mixed zi ?_))
      refine RL.loadSTq isAgg31 sizeOf31 rfl ?_
      refine RL.loadSTq isAgg78 sizeOf78 rfl ?_
      refine RL.fa fa_78_5 rfl (RL.loadSTq isAgg76 sizeOf76 rfl ?_)
      refine RL.cq (rsigned_any f p c n hf hn hb) call97 rfl (.inl rfl) ?_
      rintro _ _ _ ⟨ob1,cap1,rfl,rfl,rfl,ho1⟩
      refine RL.vv (rtag_any (rkeyM R f.sr f.ep t).1 hk (ob1.map fun b=> ⟨b,0,none⟩) (14+n) cap1 f.signed zb zb) call96 rfl (Lend.own mQ .nil) ?_
      refine RL.cmp rfl (tag_ne _ _ (by first | rfl | assumption | (simp only [List.length_map];assumption) | (simp only [List.length_map,List.length_replicate,hl,hk,hmt,hft];done) | (simp;done)) (by first | rfl | assumption | (simp only [List.length_map];assumption) | (simp only [List.length_map,List.length_replicate,hl,hk,hmt,hft];done) | (simp;done)) _ _) ?_
      refine RL.ns (CW.ok [0,1,5,79] rfl ?_)
      refine CW.cd rfl (fun hr=> ?_) (fun hr=> ?_)
      ·
       refine CW.ss (CW.rD (Sq.of (rg 0 7)) [7] [7] [0,1,2,4,6] mixed zi ?_)
       refine RL.q rfl (RL.fa fa_86_2 rfl (RL.lq isAgg82 rfl ?_))
       refine RL.fa fa_78_1 rfl (RL.lq isAgg3 rfl ?_)
       refine RL.p rfl (RL.cq (rlfail_any B.rk B.mo B.ti l f.sr t hll) call98 rfl (.inr rfl) ?_)
       have hr: ¬(f.tag==macTag (rkeyM R f.sr f.ep t).1 f.signed)=true:=by simp at hr ⊢;exact fun e=> hr e.symm
       rintro _ _ _ ⟨rfl,rfl,rfl⟩
       refine RL.ns (CW.ok [0,5] rfl (CW.sr (RL.pn rfl (CW.rr (RQ.ss ?_)))))
       have hT:lkT (rkeyM R f.sr f.ep t) f=190:=by rw [lkT,if_pos he,if_neg hr]
       rw [hT,if_pos he]
       refine RQ.rea (fun _ h=> h) (H':=RGI B (⟨R,ob,cp,failL B.mo B.ti l f.sr t,M,W,ow,cw,D,od,cd⟩)) rE ?_
       exact RQ.pp (res1 rfl rfl) (.keep (.keep (.keep (.keep (.keep (.keep (.keep .nil))))))) ⟨rfl,rfl,rfl⟩
      ·
       refine CW.sn (CW.s2 (CW.rD (Sq.of (rg 0 12)) [11] [11] [0,1,2,4,6,8,10,12] mixed zi ?_))
       refine RL.q rfl (RL.fa fa_86_1 rfl (RL.lq isAgg81 rfl ?_))
       refine RL.fa fa_78_1 rfl (RL.lq isAgg3 rfl ?_)
       refine RL.fa fa_78_2 rfl (RL.lq isAgg61 rfl ?_)
       refine RL.fa fa_78_3 rfl (RL.lq isAgg32 rfl ?_)
       refine RL.bS [_,_] zeroValue134 pl_134 rfl (RL.cq (rtake_any B.rt M f.sr (fmark f)) call99 rfl (.inr rfl) ?_)
       have hr:(f.tag==macTag (rkeyM R f.sr f.ep t).1 f.signed)=true:=by simp at hr ⊢;exact hr.symm
       have hT:lkT (rkeyM R f.sr f.ep t) f=0:=by rw [lkT,if_pos he,if_pos hr]
       rw [if_pos hT,if_pos hT,if_pos hT]
       rintro _ _ _ ⟨rfl,rfl,rfl⟩
       refine RL.pn rfl (CW.ok [0,5,12] rfl (CW.s1 rfl ?_))
       refine CW.cd rfl (fun hx=> ?_) (fun hx=> ?_)
       ·
        refine CW.s1 rfl (CW.rr (RQ.ss ?_))
        have hx: ¬mmay M f.sr (fmark f)=0:=by simpa using hx
        rw [if_neg hx]
        refine RQ.rea (fun _ h=> h) (H':=RGI B (⟨R,ob,cp,l,takeM M f.sr (fmark f),W,ow,cw,D,od,cd⟩)) rE ?_
        exact RQ.pp (res1 rfl rfl) (.keep (.keep (.keep (.keep (.keep (.keep (.keep .nil))))))) ⟨rfl,rfl,rfl⟩
       ·
        refine CW.sn (CW.ss (CW.rD (Sq.of [0,1,2,3,4,5,6]) [6] [6] [0,1,2,4] mixed zi ?_))
        refine RL.q rfl (RL.fa fa_86_2 rfl (RL.lq isAgg82 rfl ?_))
        refine RL.fa fa_78_1 rfl (RL.lq isAgg3 rfl ?_)
        refine RL.cq (rlgood_any B.rk B.mo B.ti l f.sr hll) call100 rfl (.inr rfl) ?_
        have hx:mmay M f.sr (fmark f)=0:=by simpa using hx
        rw [if_pos hx]
        rintro _ _ _ ⟨rfl,rfl,rfl⟩
        refine RL.ns (CW.ok [] rfl (CW.sr (RL.pn rfl (CW.rr (RQ.rea (fun _ h=> h) (H':=RGI B (⟨R,ob,cp,goodL l f.sr,takeM M f.sr (fmark f),W,ow,cw,D,od,cd⟩)) rE ?_)))))
        exact RQ.pp (res1 rfl rfl) (.keep (.keep (.keep (.keep (.keep (.keep (.keep .nil))))))) ⟨by rw [hx],rfl,rfl⟩
def bump (e:Int):List (Int×Int)→List (Int×Int)
 | []=> [(e,1)]
 | q::r=> if q.1=e then (q.1,IntKind.i64.wrap (q.2+1))::r else q::bump e r
theorem bump_at {e:Int}:∀ {D:List (Int×Int)} {i:Nat} {q:Int×Int},(∀(j:Nat) (o:Int×Int),j < i→D[j]? =some o→o.1≠e)→D[i]? =some q→q.1=e→bump e D=D.set i (q.1,IntKind.i64.wrap (q.2+1))
 | [],i,q,_,h,_=> by simp at h
 | x::D,0,q,_,h,he=> by
  simp at h;subst h;simp [bump,he]
 | x::D,i+1,q,hn,h,he=> by
  have h0:x.1≠e:=hn 0 x zb rfl
  rw [bump,if_neg h0,bump_at (i:=i) (fun j o hj ho=> hn (j+1) o zb (by simpa using ho)) (by simpa using h) he]
  rfl
theorem bump_none {e:Int}:∀ {D:List (Int×Int)},(∀(j:Nat) (o:Int×Int),D[j]? =some o→o.1≠e)→bump e D=D++ [(e,1)]
 | [],_=> rfl
 | x::D,hn=> by
  have h0:x.1≠e:=hn 0 x rfl
  rw [bump,if_neg h0,bump_none (fun j o ho=> hn (j+1) o (by simpa using ho))]
  rfl
theorem bump_len (e:Int):∀D:List (Int×Int),(bump e D).length≤D.length+1
 | []=> by simp [bump]
 | q::r=> by
  have:=bump_len e r
  unfold bump
  split <;> simp <;> omega
theorem wc_rdH {I H:List It} {W:List (Int×Int)} {ba cw i j:Nat} {q:Int×Int} {e:TypeId} {u:Value} (hm:own (some ba) cw e 2 W.length (wcs W)∈H) (hi:W[i]? =some q) (hj:(wc q)[j]? =some u):Rd I H ⟨ba,0+i*2+j,none⟩ u:=fun w hw=> by
 have h2:j < 2:=(List.getElem?_eq_some_iff.1 hj).1
 have:=(own_sls (hw.h _ hm)).2.2 (i*2+j) u (by rw [wcs_get hi h2];exact hj)
 rw [Nat.add_assoc,←add_none];exact this
theorem wcs_set {W:List (Int×Int)} {i:Nat} {q:Int×Int} (hi:W[i]? =some q) (x:Int):spl (wcs W) (i*2+1) [.int .i64 x]=wcs (W.set i (q.1,x)):=by
 obtain ⟨hlt,hq⟩:=List.getElem?_eq_some_iff.1 hi
 obtain ⟨A,B,e,hA⟩:∃A B,W=A++q::B∧A.length=i:=⟨W.take i,W.drop (i+1),by rw [←hq,←List.drop_eq_getElem_cons hlt,List.take_append_drop],by rw [List.length_take];omega⟩
 subst e
 have e1:wcs (A++q::B)=wcs A++(wc q++wcs B):=by simp [wcs]
 have e2:wcs ((A++q::B).set i (q.1,x))=wcs A++(wc (q.1,x)++wcs B):=by subst hA;simp [wcs]
 rw [e1,e2,show i*2+1=(wcs A).length+1 by rw [wcs_len,hA],spl_app]
 congr 1
 simp only [wc,List.cons_append,spl]
 congr 2
 show spl (wcs B) 0 []=wcs B
 cases wcs B <;> rfl
def RCheckR (B:RB) (g:RS) (e:Int):Value→List It→List It→Prop:=fun v I' H'=> v= .int .i64 e∧I'= []∧∃od cd,H'=RGI B { g with D:=bump e g.D,od:=od,cd:=cd }
theorem rgcheck_e (B:RB) (g:RS) (f:Fr) (p:Option Addr) (c n:Nat) (t:Int) (hg:RSOk g) (hf:f.Ok) (hn:f.b.length=n) (hb:n≤900000) (e:Int) (l2:List Lk) (M2:Marks)
  (q1:lkE (rK g f t) (rY g f) g.l g.M f t=e) (q2:lkL B.mo B.ti (rK g f t) (rY g f) g.l g.M f t=l2) (q3:lkM (rK g f t) (rY g f) g.l g.M f t=M2):
  Spc prog 17 #[.pointer (some ⟨B.yb,0,none⟩), .int .i64 t, .agg (f.cells (.slice p n c)).toArray] [sls p 1 n (bytes f.b)] (RGI B g) (RCheckR B { g with l:=l2,M:=M2 } e):=by
 have hlook:Spc prog 52 #[.pointer (some ⟨B.yb,0,none⟩), .int .i64 t, .agg (f.cells (.slice p n c)).toArray] [sls p 1 n (bytes f.b)] (RGI B g) (RGR B { g with l:=l2,M:=M2 } e):=by
  have:=rglook_any B g f p c n t hg hf hn hb
  rw [q1,q2,q3] at this;exact this
 clear q1 q2 q3
 obtain ⟨R,ob,cp,l,M,W,ow,cw,D,od,cd⟩:=g
 obtain ⟨hr,he1,he2,hnR,hll,hwl,hdl⟩:=hg
 dsimp only at hr he1 he2 hnR hll hwl hdl hlook ⊢
 have hl:=fr_len hf.tag (.slice p n c)
 refine Spc.en func17 rfl rfl (fun w0 hw0=> ?_)
 refine CW.sg [0] [] (RL.box rfl ?_)
 intro b1
 refine RL.pn rfl (CW.sg [3] [3] (RL.q rfl (RL.lS isAgg78 sizeOf78 rfl ?_)))
 refine RL.cq (hlook) call52 rfl (.inr rfl) ?_
 rintro _ _ _ ⟨rfl,rfl,rfl⟩
 refine RL.pn rfl (CW.ok [0,7] rfl (CW.ss (CW.sr (RL.pn rfl (CW.bb ?_)))))
 refine CW.ff (p:=od=none→D.length=0) (fun w hC e=> by
  have:=own_sls (hC.s.h (own od cd 146 2 D.length (wcs D)) mQ)
  exact sls_nil this (by rw [e];rfl)) (fun hpa=> ?_)
 refine CW.loop (γ:=Nat) (fun i=> i≤D.length∧∀(j:Nat) (o:Int×Int),j < i→D[j]? =some o→o.1≠e) (fun i=> [(0, .pointer (some ⟨B.yb,0,none⟩)),(7, .int .i64 e),(8, .int .i64 (i:Int))]) (fun _=> []) (fun _=> RGI B ⟨R,ob,cp,l2,M2,W,ow,cw,D,od,cd⟩) (fun i=> D.length - i) 0 ⟨zb,zb⟩ sE (fun w h=> h.rea (fun _ h=> by simp at h) rE) ?_
 rintro i ⟨hi,hno⟩
 refine CW.ss (CW.sr (RL.q rfl (RL.p rfl (RL.fa fa_86_4 rfl (RL.lq isAgg84 rfl ?_)))))
 refine RL.lenS runUnderlying84 rfl (RL.pn rfl (CW.ok [0,7,8,19] rfl ?_))
 refine CW.cd rfl (fun hlt=> ?_) (fun hlt=> ?_)
 ·
  have hi2:i < D.length:=by simp at hlt;omega
  clear hlt
  cases od with
  | none=> exact absurd (hpa rfl) zb
  | some ba=>
  have hx:=List.getElem?_eq_getElem hi2
  generalize D[i]=q at hx
  have g0:Rd [] (RGI B ⟨R,ob,cp,l2,M2,W,ow,cw,D,some ba,cd⟩) ⟨ba,0+i*2+0,none⟩ (.int .i64 q.1):=wc_rdH (show own (some ba) cd 146 2 D.length (wcs D)∈RGI B ⟨R,ob,cp,l2,M2,W,ow,cw,D,some ba,cd⟩ from mQ) hx rfl
  have g1:Rd [] (RGI B ⟨R,ob,cp,l2,M2,W,ow,cw,D,some ba,cd⟩) ⟨ba,0+i*2+1,none⟩ (.int .i64 q.2):=wc_rdH (show own (some ba) cd 146 2 D.length (wcs D)∈RGI B ⟨R,ob,cp,l2,M2,W,ow,cw,D,some ba,cd⟩ from mQ) hx rfl
  refine CW.sn (CW.ss (CW.bb (CW.sr (RL.q rfl (RL.fa fa_86_4 rfl (RL.lq isAgg84 rfl ?_))))))
  refine RL.p rfl (RL.ix (j:=i) runUnderlying84 sizeOf146 rfl (hi2) (RL.fa fa_146_0 rfl (RL.lq isAgg37 rfl ?_)))
  refine RL.qn rfl (CW.ok [0,7,8,31] rfl ?_)
  refine CW.cd rfl (fun he=> ?_) (fun he=> ?_)
  ·
   refine CW.sg [11] [11] (RL.q rfl (RL.fa fa_86_4 rfl (RL.lq isAgg84 rfl ?_)))
   refine RL.p rfl (RL.ix (j:=i) runUnderlying84 sizeOf146 rfl (hi2) (RL.fa fa_146_1 rfl (RL.lq isAgg3 rfl ?_)))
   refine RL.p rfl (RL.ix (j:=i) runUnderlying84 sizeOf146 rfl (hi2) (RL.fa fa_146_1 rfl (RL.storeO (off:=i*2+1) (vs:= [_]) (wcs_set hx _) sizeOf3 rfl (by rw [add_none,Nat.add_assoc]) rfl rfl rfl (by rw [wcs_len];simp;omega) uE ?_)))
   refine RL.ns (CW.ok [0,7,8] rfl (CW.s1 rfl (CW.rr (RQ.bb (RQ.ss (RQ.ss (RQ.bb ?_)))))))
   refine RQ.ss ?_
   have he:q.1=e:=by simpa using he
   have hb:=bump_at hno hx he
   exact RQ.pp (res1 rfl rfl) (.keep (.keep (.keep (.keep (.keep (.keep (.keep .nil))))))) ⟨rfl,rfl,some ba,cd,by rw [RGI,hb];simp [rgCel]⟩
  ·
   have he: ¬q.1=e:=by simpa using he
   refine CW.kk (NQ.bb (NQ.ss (CW.rg (RL.p rfl (RL.bx rfl (wrapV_i64 zb zb) ?_)))))
   refine RL.p rfl (RL.ee ?_)
   refine NQ.rr (g:=i) (i+1) ⟨hi2,fun j o hj ho=> ?_⟩ (by show D.length - (i+1) < D.length - i;omega) sE (fun w h=> h)
   by_cases hji:j=i
   ·subst hji;rw [hx] at ho;cases ho;exact he
   ·exact hno j o zb ho
 ·
  refine CW.xx (XQ.ss (XQ.ss (XQ.hh (NQ.ss (CW.sg [7,8,11] [8,11] (RL.q rfl (RL.p rfl (RL.fa fa_86_4 rfl (RL.lq isAgg84 rfl ?_)))))))))
  refine RL.p rfl (RL.bS [_,_] zeroValue146 pl_146 rfl (RL.buildSlice [_,_] runUnderlying84 sizeOf146 zeroValue146 rfl rfl zc zc rfl rfl ?_))
  intro b2
  refine RL.appendq el_84 rfl ?_
  intro ob1 cap1 ho1
  refine RL.p rfl (RL.fa fa_86_4 rfl (RL.store (vs:= [_]) sizeOf84 rfl rfl uE ?_))
  refine RL.ns (CW.ok [7] rfl (CW.s1 rfl (CW.rr ?_)))
  have hin:i=D.length:=by simp at hlt;omega
  subst hin
  have hb:bump e D=D++ [(e,1)]:=bump_none (fun j o ho=> hno j o (List.getElem?_eq_some_iff.1 ho).1 ho)
  refine RQ.rea (fun _ h=> h) (H':= [cel B.yb [.pointer (some ⟨B.y,0,none⟩), .pointer (some ⟨B.rt,0,none⟩), .pointer (some ⟨B.rk,0,none⟩),slO ow W.length cw,slO ob1 (D.length+1) cap1] 86,cel B.y [slO ob R.length cp] 132,own ob cp 150 35 R.length (rcs R),rtI B.rt M2,rkI B.rk B.mo B.ti l2,own ow cw 141 2 W.length (wcs W),own ob1 cap1 146 2 (D.length+1) (wcs D++ [.int .i64 e, .int .i64 1])]) rE ?_
  exact RQ.pp (res1 rfl rfl) (.keep (.keep (.keep (.keep (.keep (.keep (.keep .nil))))))) ⟨rfl,rfl,ob1,cap1,by rw [RGI,hb];simp [rgCel,wcs,wc]⟩
def oddG (n:Int):Bool:=Bool.or (decide (n < 1)) (decide (n > 14))
theorem rput_a (y:Nat) (R:List One) (ob:Option Nat) (cp:Nat) (s:Int) (k:List B8) (hk:k.length=32) (hR:ROk R) (hl:R.length≤1000):
  Spc prog 42 #[.pointer (some ⟨y,0,none⟩), .int .i64 s, .agg (bytes k).toArray] [] (RefK y R ob cp) (RefR y (rputA R s k) (rputE R s)):=kput_any y R ob cp s k hk hR hl
def rsrcE (R:List One) (s:Int) (ks:List Int):Int:=if ks= []∨ks.any oddG=true then 2 else rputE R s
def rsrcR (R:List One) (s:Int) (k:List B8) (ks:List Int):List One:=if ks= []∨ks.any oddG=true then R else rputA R s k
def rts (s:Int) (ks:List Int):List (Int×Int):=ks.map fun k=> (s,k)
def rsrcW (R:List One) (W:List (Int×Int)) (s:Int) (ks:List Int):List (Int×Int):=if rsrcE R s ks=0 then W++rts s ks else W
theorem rput_no {R:List One} {s:Int} {k:List B8} (h: ¬mayB s=true):rputE R s=2∧rputA R s k=R:=⟨by rw [rputE,if_neg h],by rw [rputA,if_neg h]⟩
theorem rsrc_no {R : List One} {s : Int} {k : List B8} {ks : List Int} (h : ¬ mayB s = true ∨ ks = [] ∨ ks.any oddG = true) (W : List (Int × Int)) : rsrcE R s ks = 2 ∧ rsrcR R s k ks = R ∧ rsrcW R W s ks = W := by
  have hE : rsrcE R s ks = 2 := by
    rw [rsrcE]; split
    · rfl
    · next h2 => rcases h with h | h
                 · exact (rput_no (k := []) h).1
                 · exact absurd h h2
  refine ⟨hE, ?_, by rw [rsrcW, hE]; rfl⟩
  rw [rsrcR]; split
  · rfl
  · next h2 => rcases h with h | h
               · exact (rput_no h).2
               · exact absurd h h2
theorem rts_snoc {s:Int} {ks:List Int} {i:Nat} {x:Int} (hx:ks[i]? =some x):rts s (ks.take (i+1))=rts s (ks.take i)++ [(s,x)]:=by
 obtain ⟨hlt,rfl⟩:=List.getElem?_eq_some_iff.1 hx
 rw [rts,List.take_succ_eq_append_getElem hlt,List.map_append];rfl
def RSrcGR (B:RB) (g:RS) (x:Int):Value→List It→List It→Prop:=fun v I' H'=> v= .int .i64 x∧I'= []∧∃ob cp ow cw,H'=RGI B { g with ob:=ob,cp:=cp,ow:=ow,cw:=cw }
theorem rgsource_any (B:RB) (g:RS) (s:Int) (k:List B8) (kp:Option Addr) (c n:Nat) (ks:List Int) (hg:RSOk g) (hk:k.length=32) (hn:ks.length=n) (hb:n≤1000):
  Spc prog 14 #[.pointer (some ⟨B.yb,0,none⟩), .int .i64 s, .agg (bytes k).toArray, .slice kp n c] [sls kp 1 n (ints ks)] (RGI B g) (RSrcGR B { g with R:=rsrcR g.R s k ks,W:=rsrcW g.R g.W s ks } (rsrcE g.R s ks)):=by
 subst hn
 obtain ⟨R,ob,cp,l,M,W,ow,cw,D,od,cd⟩:=g
 obtain ⟨hr,he1,he2,hnR,hll,hwl,hdl⟩:=hg
 dsimp only at hr he1 he2 hnR hll hwl hdl ⊢
 refine Spc.en func14 rfl rfl (fun w0 hw0=> ?_)
 refine CW.sg [0] [] (RL.box rfl ?_)
 intro b1
 refine RL.pn rfl (CW.s2 (CW.fP (A:= [_]) (B:= [_,_,_,_,_,_,_]) (.take (.leave (.leave (.leave (.leave (.leave (.leave (.leave .nil)))))))) rfl (CW.rg (RL.q rfl (RL.p rfl ?_)))))
 apply RL.orB (d:=14) (dp:=17) (l':=(Sq.of [6,7,8,9,10])) rfl (sK [0,1,3,6,8] rfl)
 ·
  intro hb3 K3
  refine RL.q rfl (RL.p rfl ?_)
  exact K3 _ (.cons rfl (sK [0,1,3,6,8] rfl))
 ·
  intro hb3 K3
  refine RL.q rfl (RL.p rfl ?_)
  exact K3 _ (.cons rfl (sK [0,1,3,6,8] rfl))
 refine RL.p rfl ?_
 apply RL.orB (d:=18) (dp:=22) (l':=(Sq.of [])) rfl (sK [0,1,3,6,8] rfl)
 ·
  intro hb7 K7
  refine RL.p rfl (RL.lenS runUnderlying52 rfl (RL.q rfl ?_))
  exact K7 _ (.cons rfl (sK [0,1,3,6,8] rfl))
 ·
  intro hb7 K7
  refine RL.q rfl (RL.q rfl ?_)
  exact K7 _ (.cons rfl (sK [0,1,3,6,8] rfl))
 refine RL.ns ?_
 refine CW.cd rfl (fun h=> ?_) (fun h=> ?_)
 ·
  refine CW.sr (RL.pn rfl (CW.rr (RQ.ss ?_)))
  have h: ¬mayB s=true∨ks= []∨ks.any oddG=true:=by
   simp at h;simp [mayB]
   rcases h with (h | h) | h
   ·left;intro;omega
   ·left;intro;omega
   ·right;left;exact h
  obtain ⟨q1,q2,q3⟩:=rsrc_no (R:=R) (k:=k) h W
  rw [q1,q2,q3]
  refine RQ.rea (fun _ h=> h) (H':=RGI B (⟨R,ob,cp,l,M,W,ow,cw,D,od,cd⟩)) rE ?_
  exact RQ.pp (res1 rfl rfl) (.keep (.keep (.keep (.keep (.keep (.keep (.keep .nil))))))) ⟨rfl,rfl,_,_,_,_,rfl⟩
 ·
  refine CW.sn (CW.ss (CW.sr (RL.pn rfl (CW.bb ?_))))
  have hm:mayB s=true:=by simp at h;simp [mayB];omega
  have hne: ¬ks= []:=by simp at h;exact h.2
  refine CW.ff (p:=kp=none→ks.length=0) (fun w hC e=> sls_nil (hC.s.i _ (List.Mem.tail _ (List.Mem.head _))) e) (fun hpp=> ?_)
  refine CW.loop (γ:=Nat) (fun i=> i≤ks.length∧(ks.take i).any oddG=false) (fun i=> [(0, .pointer (some ⟨B.yb,0,none⟩)),(1, .int .i64 s),(3, .slice kp ks.length c),(6, .pointer (some ⟨b1,0,none⟩)),(9, .int .i64 (i:Int))]) (fun _=> [cel b1 (bytes k) 31,sls kp 1 ks.length (ints ks)]) (fun _=> RGI B ⟨R,ob,cp,l,M,W,ow,cw,D,od,cd⟩) (fun i=> ks.length - i) 0 ⟨zb,rfl⟩ sE (fun _ h=> h) ?_
  rintro i ⟨hi,hno⟩
  refine CW.ss (CW.sr (RL.q rfl (RL.lenS runUnderlying52 rfl (RL.pn rfl ?_))))
  refine CW.cd rfl (fun hlt=> ?_) (fun hlt=> ?_)
  ·
   have hi2:i < ks.length:=by simp at hlt;omega
   clear hlt
   cases kp with
   | none=> exact absurd (hpp rfl) zb
   | some a=>
   have hx:=List.getElem?_eq_getElem hi2
   have f1:=RdI.sls (I:= [cel b1 (bytes k) 31,sls (some a) 1 ks.length (ints ks)]) (List.Mem.tail _ (List.Mem.head _)) hx
   have htk:=List.take_succ_eq_append_getElem hi2
   generalize ks[i]=x at hx f1 htk
   refine CW.sn (CW.ss (CW.bb (CW.sr (RL.q rfl ?_))))
   first | refine RL.ix (j:=i) runUnderlying52 sizeOf3 rfl (hi2) ?_ | refine RL.idx (j:=i) runUnderlying52 sizeOf3 rfl rfl (hi2) ?_
   refine RL.lq isAgg3 rfl ?_
   refine RL.q rfl ?_
   apply RL.orB (d:=34) (dp:=40) (l':=(Sq.of [])) rfl (sK [0,1,3,6,9] rfl)
   ·
    intro hb6 K6
    refine RL.q rfl ?_
    first | refine RL.ix (j:=i) runUnderlying52 sizeOf3 rfl (hi2) ?_ | refine RL.idx (j:=i) runUnderlying52 sizeOf3 rfl rfl (hi2) ?_
    refine RL.lq isAgg3 rfl ?_
    refine RL.q rfl ?_
    exact K6 _ (.cons rfl (sK [0,1,3,6,9] rfl))
   ·
    intro hb6 K6
    refine RL.q rfl (RL.q rfl (RL.q rfl ?_))
    exact K6 _ (.cons rfl (sK [0,1,3,6,9] rfl))
   refine RL.ns ?_
   refine CW.cd rfl (fun ho=> ?_) (fun ho=> ?_)
   ·
    refine CW.sr (RL.pn rfl (CW.rr (RQ.bb (RQ.ss (RQ.ss (RQ.bb (RQ.ss ?_)))))))
    have ho:oddG x=true:=by simpa [oddG] using ho
    have h: ¬mayB s=true∨ks= []∨ks.any oddG=true:= .inr (.inr (List.any_eq_true.2 ⟨x,List.mem_of_getElem? hx,ho⟩))
    obtain ⟨q1,q2,q3⟩:=rsrc_no (R:=R) (k:=k) h W
    rw [q1,q2,q3]
    refine RQ.rea (fun _ h=> h) (H':=RGI B (⟨R,ob,cp,l,M,W,ow,cw,D,od,cd⟩)) rE ?_
    exact RQ.pp (res1 rfl rfl) (.keep (.keep (.keep (.keep (.keep (.keep (.keep .nil))))))) ⟨rfl,rfl,_,_,_,_,rfl⟩
   ·
    refine CW.kk (NQ.bb (NQ.ss (CW.rg (RL.p rfl (RL.bx rfl (wrapV_i64 zb zb) ?_)))))
    refine RL.p rfl (RL.ee ?_)
    have ho:oddG x=false:=by simpa [oddG] using ho
    refine NQ.rr (g:=i) (i+1) ⟨hi2,by rw [htk,List.any_append,hno];simp [ho]⟩ (by show ks.length - (i+1) < ks.length - i;omega) sE (fun w h=> h)
  ·have fk:RdsN [cel b1 (bytes k) 31,sls kp 1 ks.length (ints ks)] ⟨b1,0,none⟩ 32 (bytes k):=RdsN.told (List.Mem.head _) (fun j u h=> by rw [Nat.zero_add];exact h) (by rw [List.length_map,hk])
   refine CW.xx (XQ.ss (XQ.ss (XQ.hh (NQ.ss (CW.s2 (CW.rD (Sq.of (rg 0 7)) [6] [6] [0,1,2,4,5,7] mixed zi ?_))))))
   refine RL.q rfl ?_
   first | refine RL.fa fa_86_0 rfl ?_ | refine RL.fG fa_86_0 rfl rfl ?_
   refine RL.lq isAgg80 rfl ?_
   refine RL.p rfl (RL.loadSTq isAgg31 sizeOf31 rfl ?_)
   refine RL.cq (rput_a B.y R ob cp s k hk hr zb) call42 rfl (.inr rfl) ?_
   have hin:i=ks.length:=by simp at hlt;omega
   subst hin
   rw [List.take_length] at hno
   have hO: ¬(ks= []∨ks.any oddG=true):=by rintro (h | h);exact hne h;rw [hno] at h;cases h
   have hE:rsrcE R s ks=rputE R s:=by rw [rsrcE,if_neg hO]
   have hR:rsrcR R s k ks=rputA R s k:=by rw [rsrcR,if_neg hO]
   rw [hR]
   rintro _ _ _ ⟨rfl,rfl,ob',cp',rfl⟩
   refine RL.pn rfl (CW.ok [0,1,3,10] rfl (CW.s1 rfl ?_))
   refine CW.cd rfl (fun he=> ?_) (fun he=> ?_)
   ·
    refine CW.s1 rfl (CW.rr (RQ.ss ?_))
    have he: ¬rputE R s=0:=by simpa using he
    have hW:rsrcW R W s ks=W:=by rw [rsrcW,hE,if_neg he]
    rw [hE,hW]
    refine RQ.rea (fun _ h=> h) (H':=RGI B (⟨rputA R s k,ob',cp',l,M,W,ow,cw,D,od,cd⟩)) rE ?_
    exact RQ.pp (res1 rfl rfl) (.keep (.keep (.keep (.keep (.keep (.keep (.keep .nil))))))) ⟨rfl,rfl,_,_,_,_,rfl⟩
   ·
    refine CW.sn (CW.ss (CW.sr (RL.pn rfl (CW.bb ?_))))
    have he:rputE R s=0:=by simpa using he
    have hW:rsrcW R W s ks=W++rts s ks:=by rw [rsrcW,hE,if_pos he]
    rw [hE,hW,he]
    refine CW.loop (γ:=Nat×Option Nat×Nat) (fun z=> z.1≤ks.length) (fun z=> [(0, .pointer (some ⟨B.yb,0,none⟩)),(1, .int .i64 s),(3, .slice kp ks.length c),(11, .int .i64 (z.1:Int))]) (fun _=> [cel b1 (bytes k) 31,sls kp 1 ks.length (ints ks)]) (fun z=> RGI B ⟨rputA R s k,ob',cp',l,M,W++rts s (ks.take z.1),z.2.1,z.2.2,D,od,cd⟩) (fun z=> ks.length - z.1) (0,ow,cw) (by show 0≤ks.length;omega) sE (fun w h=> by
     rw [show RGI B ⟨rputA R s k,ob',cp',l,M,W++rts s (ks.take 0),ow,cw,D,od,cd⟩=RGI B ⟨rputA R s k,ob',cp',l,M,W,ow,cw,D,od,cd⟩ by simp [rts]]
     exact h.rea (fun _ h=> h) rE) ?_
    rintro ⟨i,ow,cw⟩ hi
    have hi:i≤ks.length:=hi
    have hVl:(W++rts s (ks.take i)).length≤200000:=by simp [rts];omega
    have hVe:∀x,ks[i]? =some x→W++rts s (ks.take (i+1))=W++rts s (ks.take i)++ [(s,x)]:=fun x hx=> by rw [rts_snoc hx,List.append_assoc]
    have hVf:i=ks.length→W++rts s (ks.take i)=W++rts s ks:=fun h=> by subst h;rw [List.take_length]
    dsimp only
    generalize W++rts s (ks.take i)=V at hVl hVe hVf ⊢
    refine CW.ss (CW.sr (RL.q rfl (RL.lenS runUnderlying52 rfl (RL.pn rfl ?_))))
    refine CW.cd rfl (fun hlt=> ?_) (fun hlt=> ?_)
    ·
     have hi2:i < ks.length:=by simp at hlt;omega
     clear hlt
     cases kp with
     | none=> exact absurd (hpp rfl) zb
     | some a=>
     have hx:=List.getElem?_eq_getElem hi2
     have f1:=RdI.sls (I:= [cel b1 (bytes k) 31,sls (some a) 1 ks.length (ints ks)]) (List.Mem.tail _ (List.Mem.head _)) hx
     generalize ks[i]=x at hx f1
     have hV1:=hVe x hx
     have e:∀o1 c1,RGI B ⟨rputA R s k,ob',cp',l,M,W++rts s (ks.take (i+1)),o1,c1,D,od,cd⟩= [cel B.yb [.pointer (some ⟨B.y,0,none⟩), .pointer (some ⟨B.rt,0,none⟩), .pointer (some ⟨B.rk,0,none⟩),slO o1 (V.length+1) c1,slO od D.length cd] 86,cel B.y [slO ob' (rputA R s k).length cp'] 132,own ob' cp' 150 35 (rputA R s k).length (rcs (rputA R s k)),rtI B.rt M,rkI B.rk B.mo B.ti l,own o1 c1 141 2 (V.length+1) (wcs V++ [.int .i64 s, .int .i64 x]),own od cd 146 2 D.length (wcs D)]:=fun o1 c1=> by rw [RGI,hV1];simp [rgCel,wcs,wc]
     refine CW.sn (CW.ss (CW.bb (CW.rD (Sq.of (rg 0 15)) [11,12,15] [12,15] [0,1,2,3,5,6,7,8,9,10,13,14] mixed zi ?_)))
     refine RL.q rfl (RL.p rfl ?_)
     first | refine RL.fa fa_86_3 rfl ?_ | refine RL.fG fa_86_3 rfl rfl ?_
     refine RL.lq isAgg83 rfl ?_
     refine RL.q rfl (RL.p rfl ?_)
     first | refine RL.ix (j:=i) runUnderlying52 sizeOf3 rfl (hi2) ?_ | refine RL.idx (j:=i) runUnderlying52 sizeOf3 rfl rfl (hi2) ?_
     refine RL.lT isAgg3 rfl ?_
     refine RL.bS [_,_] zeroValue141 pl_141 rfl (RL.buildSlice [_,_] runUnderlying83 sizeOf141 zeroValue141 rfl rfl zc zc rfl rfl ?_)
     intro b2
     refine RL.appendq el_83 rfl ?_
     intro ob1 cap1 ho1
     refine RL.p rfl ?_
     first | refine RL.fa fa_86_3 rfl ?_ | refine RL.fG fa_86_3 rfl rfl ?_
     refine RL.store (vs:= [_]) sizeOf83 rfl rfl uE ?_
     refine RL.ee (NQ.bb (NQ.ss (CW.ok [0,1,3,11] rfl (CW.rg (RL.p rfl (RL.bx rfl (wrapV_i64 zb zb) ?_))))))
     refine RL.p rfl (RL.ee ?_)
     refine NQ.rr (g:=(i,ow,cw)) (i+1,ob1,cap1) hi2 (by show ks.length - (i+1) < ks.length - i;omega) sE (fun w h=> by dsimp only;rw [e];exact h.rea (fun _ h=> h) rE)
    ·
     refine CW.xx (XQ.ss (XQ.ss (XQ.hh (NQ.ss (CW.ok [] rfl (CW.sr (RL.pn rfl (CW.rr ?_))))))))
     have hin:i=ks.length:=by simp at hlt;omega
     rw [hVf hin]
     refine RQ.rea (fun _ h=> h) (H':=RGI B (⟨rputA R s k,ob',cp',l,M,W++rts s ks,ow,cw,D,od,cd⟩)) rE ?_
     exact RQ.pp (res1 rfl rfl) (.keep (.keep (.keep (.keep (.keep (.keep (.keep .nil))))))) ⟨rfl,rfl,_,_,_,_,rfl⟩
end Go.Proofs.YtkineolcmdecjaaGreat
