import Derived.Test.YtkineolcmdecjaaGreatBase
import Derived.Test.YtkineolcmdecjaaGreatPE
import Derived.Test.YtkineolcmdecjaaGreatCB
import Derived.Test.YtkineolcmdecjaaGreatBA
import Derived.Test.YtkineolcmdecjaaGreatSameInts
import Derived.Test.YtkineolcmdecjaaGreatS0
namespace Go.Proofs.YtkineolcmdecjaaGreat
open Go.PK
open Tryz
structure One where
 s:Nat
 k:List B8
 e:Nat
 g:Int
 b:Nat
def mayB (s:Int):Bool:=decide (0≤s) && decide (s < 8)
def atO (T:List One) (s:Int):Option One:=T.find? fun o=> (o.s:Int)==s
theorem rmay_any (s:Int):Spc prog 53 #[.int .i64 s] [] [] (Is (.bool (mayB s))):=by
 refine Spc.en func53 rfl rfl (fun w0 hw0=> ?_)
 refine CW.sr (RL.pn rfl (CW.sr (RL.q rfl (RL.p rfl ?_))))
 apply RL.andB (d:=5) (dp:=8) (l':=(Sq.of [6])) rfl (sK [2] rfl)
 ·
  intro hb3 K3
  refine RL.q rfl (RL.p rfl ?_)
  exact K3 _ (.cons rfl (sK [2] rfl))
 ·
  intro hb3 K3
  refine RL.q rfl (RL.p rfl ?_)
  exact K3 _ (.cons rfl (sK [2] rfl))
 refine RL.pn rfl (CW.rr ?_)
 exact RQ.pp (res1 rfl rfl) (Split.nn _) ⟨by simp [mayB],rfl,rfl⟩
theorem rktick_any (s:Int):Spc prog 54 #[.int .i64 s] [] [] (Is (.bool (tickB s))):=by
 refine Spc.en func54 rfl rfl (fun w0 hw0=> ?_)
 refine CW.sr (RL.pn rfl (CW.sr (RL.q rfl (RL.p rfl ?_))))
 apply RL.andB (d:=5) (dp:=8) (l':=(Sq.of [6])) rfl (sK [2] rfl)
 ·
  intro hb3 K3
  refine RL.q rfl (RL.p rfl ?_)
  exact K3 _ (.cons rfl (sK [2] rfl))
 ·
  intro hb3 K3
  refine RL.q rfl (RL.p rfl ?_)
  exact K3 _ (.cons rfl (sK [2] rfl))
 refine RL.pn rfl (CW.rr ?_)
 exact RQ.pp (res1 rfl rfl) (Split.nn _) ⟨by simp [tickB],rfl,rfl⟩
theorem atO_mem {T:List One} {s:Int} {o:One} (h:atO T s=some o):o∈T∧(o.s:Int)=s:=⟨List.mem_of_find?_eq_some h,by simpa using List.find?_some h⟩
def rightR (t g:Int):Bool:=tickB t && decide (g≥0) && decide (g≤65535)
def One.rc (o:One):List Value:= .int .i64 (o.s:Int)::(bytes o.k++ [.int .u32 (o.e:Int), .int .i64 o.g])
theorem rc_len {o:One} (h:o.k.length=32):o.rc.length=35:=by simp [One.rc,h]
abbrev rcs (R:List One):List Value:=R.flatMap One.rc
abbrev RefK (y:Nat) (R:List One) (ob:Option Nat) (cp:Nat):List It:= [cel y [slO ob R.length cp] 132,own ob cp 150 35 R.length (rcs R)]
def ROk (R:List One):Prop:=∀o∈R,o.k.length=32
theorem rc_row {R:List One} (h:ROk R):∀o∈R,(One.rc o).length=35:=fun o ho=> rc_len (h o ho)
theorem rc_at {R:List One} (h:ROk R) {i:Nat} {o:One} (hi:R[i]? =some o):∀(j:Nat) (u:Value),o.rc[j]? =some u→(rcs R)[0+i*35+j]? =some u:=fun j u hj=> by
 have hm:=List.mem_of_getElem? hi
 have hlt:j < 35:=by rw [←rc_len (h o hm)];exact (List.getElem?_eq_some_iff.1 hj).1
 rw [Nat.zero_add,get_flat (rc_row h) hi hlt];exact hj
theorem rc_s (o:One):o.rc[0]? =some (.int .i64 (o.s:Int)):=rfl
theorem rc_e {o:One} (h:o.k.length=32):o.rc[33]? =some (.int .u32 (o.e:Int)):=by simp [One.rc,List.getElem?_append,h]
theorem rc_g {o:One} (h:o.k.length=32):o.rc[34]? =some (.int .i64 o.g):=by simp [One.rc,List.getElem?_append,h]
theorem rc_rd {I:List It} {R:List One} {ba cp i j:Nat} {o:One} {e:TypeId} {u:Value} (h:ROk R) (hm:own (some ba) cp e 35 R.length (rcs R)∈I) (hi:R[i]? =some o) (hj:o.rc[j]? =some u):RdI I ⟨ba,0+i*35+j,none⟩ u:=
 ⟨fun _ w hw=> by
  have:=(own_sls (hw.i _ hm)).2.2 (i*35+j) u (by have:=rc_at h hi j u hj;rwa [Nat.zero_add] at this)
  rw [Nat.add_assoc,←add_none];exact this⟩
def atN (R:List One) (s:Int):Option Nat:=R.findIdx? fun o=> (o.s:Int)==s
def atI (R:List One) (s:Int):Int:=match atN R s with
 | none=> -1
 | some i=> (i:Int)
theorem rat_any (y:Nat) (R:List One) (ob:Option Nat) (cp:Nat) (s:Int) (hR:ROk R) (hl:R.length≤1000000):Spc prog 55 #[.pointer (some ⟨y,0,none⟩), .int .i64 s] (RefK y R ob cp) [] (Is (.int .i64 (atI R s))):=by
 refine Spc.en func55 rfl rfl (fun w0 hw0=> ?_)
 refine CW.sr (RL.pn rfl (CW.ss (CW.sr (RL.pn rfl (CW.bb (CW.loop (γ:=Nat) (fun i=> i≤R.length∧∀(j:Nat) (o:One),j < i→R[j]? =some o→(o.s:Int)≠s) (fun i=> [(0, .pointer (some ⟨y,0,none⟩)),(1, .int .i64 s),(5, .int .i64 (i:Int))]) (fun _=> RefK y R ob cp) (fun _=> []) (fun i=> R.length - i) 0 ⟨zb,zb⟩ sE (fun _ h=> h) ?_))))))
 rintro i ⟨hi,hn⟩
 refine CW.ff (p:=ob=none→R.length=0) (fun w hC e=> by
  have:=own_sls (hC.s.i (own ob cp 150 35 R.length (rcs R)) mQ)
  exact sls_nil this (by rw [e];rfl)) (fun hpa=> ?_)
 refine CW.ss (CW.sr (RL.q rfl (RL.p rfl (RL.fa fa_132_0 rfl (RL.lq isAgg130 rfl ?_)))))
 refine RL.lenS runUnderlying130 rfl (RL.pn rfl (CW.ok [0,1,5,12] rfl ?_))
 refine CW.cd rfl (fun hlt=> ?_) (fun hlt=> ?_)
 ·
  have hlt:i < R.length:=by simp at hlt;omega
  cases ob with
  | none=> exact absurd (hpa rfl) zb
  | some ba=>
  have hx:=List.getElem?_eq_getElem hlt
  generalize R[i]=o at hx
  have hk:=hR o (List.mem_of_getElem? hx)
  have q:RdI (RefK y R (some ba) cp) ⟨ba,0+i*35+0,none⟩ (.int .i64 (o.s:Int)):=rc_rd hR (show own (some ba) cp 150 35 R.length (rcs R)∈RefK y R (some ba) cp from mQ) hx (rc_s o)
  refine CW.sn (CW.ss (CW.bb (CW.sr (RL.q rfl (RL.fa fa_132_0 rfl (RL.lq isAgg130 rfl ?_))))))
  refine RL.p rfl (RL.ix (j:=i) runUnderlying130 sizeOf150 rfl (hlt) (RL.fa fa_150_0 rfl (RL.lq isAgg3 rfl ?_)))
  refine RL.qn rfl (CW.ok [0,1,5,24] rfl ?_)
  refine CW.cd rfl (fun he=> ?_) (fun he=> ?_)
  ·
   refine CW.s1 rfl (CW.rr (RQ.bb (RQ.ss (RQ.ss (RQ.bb (RQ.ss ?_))))))
   have he:(o.s:Int)=s:=by simpa using he
   have hat:atN R s=some i:=by
    rw [atN,List.findIdx?_eq_some_iff_getElem]
    obtain ⟨h1,h2⟩:=List.getElem?_eq_some_iff.1 hx
    exact ⟨h1,by rw [h2];simpa using he,fun j hj=> by have:=hn j _ hj (List.getElem?_eq_getElem zb);simpa using this⟩
   exact RQ.pp (res1 rfl rfl) (Split.nn _) ⟨by rw [atI,hat],rfl,rfl⟩
  ·
   refine CW.kk (NQ.bb (NQ.ss (CW.rg (RL.p rfl (RL.bx rfl (wrapV_i64 zb zb) ?_)))))
   refine RL.p rfl (RL.ee ?_)
   have he:(o.s:Int)≠s:=by simpa using he
   refine NQ.rr (g:=i) (i+1) ⟨hlt,fun j x hj hjx=> ?_⟩ zb sE (fun _ h=> h)
   by_cases hji:j=i
   ·subst hji;rw [hx] at hjx;cases hjx;exact he
   ·exact hn j x zb hjx
 ·
  have hin:i=R.length:=by simp at hlt;omega
  subst hin
  refine CW.xx (XQ.ss (XQ.ss (XQ.hh (NQ.ss (CW.sr (RL.pn rfl (CW.rr ?_)))))))
  have hat:atN R s=none:=by
   rw [atN,List.findIdx?_eq_none_iff]
   intro x hx
   obtain ⟨j,hj,rfl⟩:=List.getElem_of_mem hx
   have:=hn j _ hj (List.getElem?_eq_getElem hj)
   simpa using this
  exact RQ.pp (res1 rfl rfl) (Split.nn _) ⟨by rw [atI,hat],rfl,rfl⟩
theorem atN_spec:∀(R:List One) (s:Int),(atN R s=none∧atO R s=none)∨∃i o,atN R s=some i∧R[i]? =some o∧atO R s=some o
 | [],_=> .inl ⟨rfl,rfl⟩
 | a::R,s=> by
  by_cases h:(a.s:Int)=s
  ·exact .inr ⟨0,a,by simp [atN,List.findIdx?_cons,h],rfl,by simp [atO,h]⟩
  ·rcases atN_spec R s with ⟨h1,h2⟩ | ⟨i,o,h1,h2,h3⟩
   ·rw [atN] at h1;rw [atO] at h2
    exact .inl ⟨by simp [atN,List.findIdx?_cons,h,h1],by simp [atO,h,h2]⟩
   ·rw [atN] at h1;rw [atO] at h3
    exact .inr ⟨i+1,o,by simp [atN,List.findIdx?_cons,h,h1],by simpa using h2,by simp [atO,h,h3]⟩
theorem rcs_app (A B:List One):rcs (A++B)=rcs A++rcs B:=List.flatMap_append
theorem rcs_split {R:List One} (hR:ROk R) {i:Nat} {o:One} (hi:R[i]? =some o):∃A B,R=A++o::B∧A.length=i∧(rcs A).length=i*35:=by
 obtain ⟨hlt,rfl⟩:=List.getElem?_eq_some_iff.1 hi
 refine ⟨R.take i,R.drop (i+1), ?_,by simp;omega, ?_⟩
 ·rw [←List.drop_eq_getElem_cons hlt,List.take_append_drop]
 ·rw [length_flat (n:=35) (fun o ho=> rc_len (hR o (List.mem_of_mem_take ho))),List.length_take,Nat.min_eq_left zb]
theorem rcs_setE {R:List One} (hR:ROk R) {i:Nat} {o:One} (hi:R[i]? =some o) (e':Nat):spl (rcs R) (i*35+33) [.int .u32 (e':Int)]=rcs (R.set i { o with e:=e' }):=by
 obtain ⟨A,B,rfl,hA,hl⟩:=rcs_split hR hi
 have hk:=hR o zm
 have h1:rcs (A++o::B)=(rcs A++(.int .i64 (o.s:Int)::bytes o.k))++([.int .u32 (o.e:Int)]++(.int .i64 o.g::rcs B)):=by
  rw [rcs_app];simp [rcs,One.rc]
 have h2:(A++o::B).set i { o with e:=e' }=A++ { o with e:=e' }::B:=by rw [←hA];simp
 rw [h1,h2,seg_spl (B:= [.int .u32 (o.e:Int)]) (B':= [.int .u32 (e':Int)]) (by simp [hl,hk]) rfl,rcs_app]
 simp [rcs,One.rc]
theorem rcs_setG {R:List One} (hR:ROk R) {i:Nat} {o:One} (hi:R[i]? =some o) (g':Int):spl (rcs R) (i*35+34) [.int .i64 g']=rcs (R.set i { o with g:=g' }):=by
 obtain ⟨A,B,rfl,hA,hl⟩:=rcs_split hR hi
 have hk:=hR o zm
 have h1:rcs (A++o::B)=(rcs A++(.int .i64 (o.s:Int)::(bytes o.k++ [.int .u32 (o.e:Int)])))++([.int .i64 o.g]++rcs B):=by
  rw [rcs_app];simp [rcs,One.rc]
 have h2:(A++o::B).set i { o with g:=g' }=A++ { o with g:=g' }::B:=by rw [←hA];simp
 rw [h1,h2,seg_spl (B:= [.int .i64 o.g]) (B':= [.int .i64 g']) (by simp [hl,hk]) rfl,rcs_app]
 simp [rcs,One.rc]
theorem rc_rdH {I H:List It} {R:List One} {ba cp i j:Nat} {o:One} {e:TypeId} {u:Value} (h:ROk R) (hm:own (some ba) cp e 35 R.length (rcs R)∈H) (hi:R[i]? =some o) (hj:o.rc[j]? =some u):Rd I H ⟨ba,0+i*35+j,none⟩ u:=fun w hw=> by
  have:=(own_sls (hw.h _ hm)).2.2 (i*35+j) u (by have:=rc_at h hi j u hj;rwa [Nat.zero_add] at this)
  rw [Nat.add_assoc,←add_none];exact this
def setR (R:List One) (s:Int) (e':Nat) (g':Int):List One:=match atN R s,atO R s with
 | some i,some o=> R.set i { o with e:=e',g:=g' }
 | _,_=> R
def RefR (y:Nat) (R:List One) (x:Int):Value→List It→List It→Prop:=fun v I' H'=> v= .int .i64 x∧I'= []∧∃ob cp,H'=RefK y R ob cp
def rrollE (R:List One) (s:Int) (e':Nat) (t g:Int):Int:=if rightR t g=true∧mayB s=true then match atO R s with
 | none=> 5
 | some o=> if o.e=4294967295∨e'≠o.e+1 then 160 else 0 else 2
def rrollR (R:List One) (s:Int) (e':Nat) (t g:Int):List One:=if rightR t g=true∧mayB s=true then match atO R s with
 | none=> R
 | some o=> if o.e=4294967295∨e'≠o.e+1 then R else setR R s e' (t+g) else R
theorem rroll_any (y:Nat) (R:List One) (ob:Option Nat) (cp:Nat) (s:Int) (e':Nat) (t g:Int) (hR:ROk R) (hE:∀o∈R,o.e < 4294967296) (hl:R.length≤1000000):
  Spc prog 18 #[.pointer (some ⟨y,0,none⟩), .int .i64 s, .int .u32 (e':Int), .int .i64 t, .int .i64 g] [] (RefK y R ob cp) (RefR y (rrollR R s e' t g) (rrollE R s e' t g)):=by
 refine Spc.en func18 rfl rfl (fun w0 hw0=> ?_)
 refine CW.sr (RL.pn rfl (CW.ss (CW.sr (RL.p rfl (RL.vq (rmay_any s) call53 rfl ?_)))))
 refine RL.q rfl ?_
 apply RL.orB (d:=15) (dp:=19) (l':=(Sq.of (rg 8 15))) rfl (sK [0,1,2,3,4,10] rfl)
 ·
  intro hb4 K4
  refine RL.p rfl (RL.vq (rktick_any t) call54 rfl ?_)
  refine RL.q rfl ?_
  exact K4 _ (.cons rfl (sK [0,1,2,3,4,10] rfl))
 ·
  intro hb4 K4
  refine RL.q rfl (RL.q rfl ?_)
  exact K4 _ (.cons rfl (sK [0,1,2,3,4,10] rfl))
 refine RL.p rfl ?_
 apply RL.orB (d:=20) (dp:=23) (l':=(Sq.of [12,13,14,15])) rfl (sK [0,1,2,3,4,10] rfl)
 ·
  intro hb9 K9
  refine RL.q rfl (RL.p rfl ?_)
  exact K9 _ (.cons rfl (sK [0,1,2,3,4,10] rfl))
 ·
  intro hb9 K9
  refine RL.q rfl (RL.p rfl ?_)
  exact K9 _ (.cons rfl (sK [0,1,2,3,4,10] rfl))
 refine RL.p rfl ?_
 apply RL.orB (d:=24) (dp:=27) (l':=(Sq.of [])) rfl (sK [0,1,2,3,4,10] rfl)
 ·
  intro hb13 K13
  refine RL.q rfl (RL.p rfl ?_)
  exact K13 _ (.cons rfl (sK [0,1,2,3,4,10] rfl))
 ·
  intro hb13 K13
  refine RL.q rfl (RL.p rfl ?_)
  exact K13 _ (.cons rfl (sK [0,1,2,3,4,10] rfl))
 refine RL.ns ?_
 refine CW.cd rfl (fun hm=> ?_) (fun hm=> ?_)
 ·
  refine CW.sr (RL.pn rfl (CW.rr (RQ.ss ?_)))
  have hm: ¬(rightR t g=true∧mayB s=true):=by
   rintro ⟨e1,e2⟩;simp [rightR] at e1;simp [e1,e2] at hm;omega
  exact RQ.pp (res1 rfl rfl) (.keep (.keep .nil)) ⟨by rw [rrollE,if_neg hm],rfl,ob,cp,by rw [rrollR,if_neg hm]⟩
 ·
  have hm:rightR t g=true∧mayB s=true:=by
   simp at hm;simp [rightR,hm]
  rcases atN_spec R s with ⟨h1,h2⟩ | ⟨i,o,h1,h2,h3⟩
  ·have hat:atI R s= -1:=by rw [atI,h1]
   refine CW.sn (CW.sr (RL.q rfl (RL.vq (rat_any y R ob cp s hR hl) call55 rfl ?_)))
   refine RL.pn rfl (CW.ok [0,2,3,4,11] rfl (CW.s2 ?_))
   rw [hat]
   refine CW.rg (RL.qn rfl (CW.cT rfl (zm) ?_))
   refine CW.sr (RL.pn rfl (CW.rr (RQ.ss ?_)))
   exact RQ.pp (res1 rfl rfl) (.keep (.keep .nil)) ⟨by rw [rrollE,if_pos hm,h2],rfl,ob,cp,by rw [rrollR,if_pos hm,h2]⟩
  ·
   have hat:atI R s=(i:Int):=by rw [atI,h1]
   have hlt:i < R.length:=(List.getElem?_eq_some_iff.1 h2).1
   refine CW.ff (p:=ob=none→R.length=0) (fun w hC e=> by
    have:=own_sls (hC.s.h (own ob cp 150 35 R.length (rcs R)) mQ)
    exact sls_nil this (by rw [e];rfl)) (fun hpa=> ?_)
   refine CW.sn (CW.sr (RL.q rfl (RL.vq (rat_any y R ob cp s hR hl) call55 rfl ?_)))
   refine RL.pn rfl (CW.ok [0,2,3,4,11] rfl (CW.s2 ?_))
   rw [hat]
   cases ob with
   | none=> exact absurd (hpa rfl) zb
   | some ba=>
   have hk:=hR o (List.mem_of_getElem? h2)
   have h0:=hE o (List.mem_of_getElem? h2)
   have hgt:0≤t∧t≤1099511627776∧0≤g∧g≤65535:=by have:=hm.1;simp [rightR,tickB] at this;omega
   have q:Rd [] (RefK y R (some ba) cp) ⟨ba,0+i*35+33,none⟩ (.int .u32 (o.e:Int)):=rc_rdH hR (show own (some ba) cp 150 35 R.length (rcs R)∈RefK y R (some ba) cp from mQ) h2 (rc_e hk)
   have hw:o.e≠4294967295→IntKind.u32.wrap ((o.e:Int)+1)=(o.e:Int)+1:=fun h=> by simp [IntKind.wrap,IntKind.bits,IntKind.signed];omega
   refine CW.rg (RL.qn rfl (CW.cF rfl (zm) ?_))
   refine CW.sn (CW.ss (CW.sr (RL.q rfl (RL.fa fa_132_0 rfl (RL.lq isAgg130 rfl ?_)))))
   refine RL.p rfl (RL.ix (j:=i) runUnderlying130 sizeOf150 rfl (hlt) (RL.fa fa_150_2 rfl (RL.lq isAgg61 rfl ?_)))
   refine RL.q rfl ?_
   refine RL.part (d:=42) rfl (fun ha=> ?_) (fun ha=> ?_)
   ·
    refine RL.q rfl (RL.q rfl (RL.q rfl (RL.q rfl (RL.q rfl (RL.qn rfl ?_)))))
    refine CW.ok [0,2,3,4,11,54] rfl (CW.cT rfl rfl (CW.sr (RL.pn rfl (CW.rr (RQ.ss ?_)))))
    have ha:o.e=4294967295:=by simp at ha;omega
    exact RQ.pp (res1 rfl rfl) (.keep (.keep .nil)) ⟨by rw [rrollE,if_pos hm,h3];dsimp only;rw [if_pos (.inl ha)],rfl,some ba,cp,by rw [rrollR,if_pos hm,h3];dsimp only;rw [if_pos (.inl ha)]⟩
   ·
    refine RL.q rfl (RL.p rfl (RL.fa fa_132_0 rfl (RL.lq isAgg130 rfl ?_)))
    refine RL.p rfl (RL.ix (j:=i) runUnderlying130 sizeOf150 rfl (hlt) (RL.fa fa_150_2 rfl (RL.lq isAgg61 rfl ?_)))
    refine RL.p rfl (RL.qn rfl (CW.ok [0,2,3,4,11,54] rfl ?_))
    have ha:o.e≠4294967295:=by simp at ha;omega
    rw [hw ha]
    refine CW.cd rfl (fun hb=> ?_) (fun hb=> ?_)
    ·
     refine CW.sr (RL.pn rfl (CW.rr (RQ.ss ?_)))
     have hb:o.e=4294967295∨e'≠o.e+1:=by simp at hb;omega
     exact RQ.pp (res1 rfl rfl) (.keep (.keep .nil)) ⟨by rw [rrollE,if_pos hm,h3];dsimp only;rw [if_pos hb],rfl,some ba,cp,by rw [rrollR,if_pos hm,h3];dsimp only;rw [if_pos hb]⟩
    ·
     have hb: ¬(o.e=4294967295∨e'≠o.e+1):=by simp at hb;omega
     have hi1:(R.set i { o with e:=e' })[i]? =some { o with e:=e' }:=by simp [hlt]
     have hR1:ROk (R.set i { o with e:=e' }):=fun x hx=> by
      rcases List.mem_or_eq_of_mem_set hx with h | h
      ·exact hR x h
      ·rw [h];exact hk
     have hlen:∀Q:List One,ROk Q→(rcs Q).length=Q.length*35:=fun Q hQ=> length_flat (rc_row hQ)
     refine CW.sn (CW.ss (CW.rD (Sq.of (rg 0 19)) [16,19] [16,19] ([0,1,2,4,5,6,7]++rg 9 15++[17,18]) mixed zi ?_))
     refine RL.q rfl (RL.fa fa_132_0 rfl (RL.lq isAgg130 rfl ?_))
     refine RL.q rfl (RL.p rfl (RL.fa fa_132_0 rfl (RL.lq isAgg130 rfl ?_)))
     refine RL.q rfl (RL.q rfl (RL.bx rfl (wrapV_i64 zb zb) ?_))
     refine RL.ix (j:=i) runUnderlying130 sizeOf150 rfl (hlt) (RL.fa fa_150_2 rfl (RL.storeO (off:=i*35+33) (vs:= [_]) (rcs_setE hR h2 e') sizeOf61 rfl (by rw [add_none,Nat.add_assoc]) rfl rfl rfl (by rw [hlen R hR];simp;omega) uE ?_))
     refine RL.ix (j:=i) runUnderlying130 sizeOf150 rfl (hlt) (RL.fa fa_150_3 rfl (RL.storeO (off:=i*35+34) (vs:= [_]) (rcs_setG hR1 hi1 (t+g)) sizeOf3 rfl (by rw [add_none,Nat.add_assoc]) rfl rfl rfl (by rw [hlen _ hR1];simp;omega) uE ?_))
     refine RL.ns (CW.ok [] rfl (CW.sr (RL.pn rfl (CW.rr ?_))))
     have hset:setR R s e' (t+g)=(R.set i { o with e:=e' }).set i { o with e:=e',g:=t+g }:=by rw [setR,h1,h3,List.set_set]
     exact RQ.pp (res1 rfl rfl) (.keep (.keep .nil)) ⟨by rw [rrollE,if_pos hm,h3];dsimp only;rw [if_neg hb],rfl,some ba,cp,by rw [rrollR,if_pos hm,h3];dsimp only;rw [if_neg hb,hset];simp [RefK]⟩
structure Lk where
 f:Int
 t:Int
 u:Int
def Lk.cells (x:Lk):List Value:= [.int .i64 x.f, .int .i64 x.t, .int .i64 x.u]
def kCells (mo ti:Int) (l:List Lk):List Value:= .int .i64 mo:: .int .i64 ti::l.flatMap Lk.cells
theorem k_get {mo ti:Int} {l:List Lk} {s j:Nat} {x:Lk} (hx:l[s]? =some x) {v:Value} (hj:x.cells[j]? =some v) (h3:j < 3):(kCells mo ti l)[0+2+s*3+j]? =some v:=by
 rw [show 0+2+s*3+j=(s*3+j)+1+1 by omega,kCells,List.getElem?_cons_succ,List.getElem?_cons_succ,get_flat (n:=3) (fun _ _=> rfl) hx h3];exact hj
theorem k_len (mo ti:Int) (l:List Lk):(kCells mo ti l).length=l.length*3+2:=by simp [kCells,length_flat (f:=Lk.cells) (n:=3) (fun _ _=> rfl)]
theorem k_split {l:List Lk} {s:Nat} {x:Lk} (hx:l[s]? =some x):∃A B,l=A++x::B∧A.length=s:=by
 obtain ⟨hlt,rfl⟩:=List.getElem?_eq_some_iff.1 hx
 exact ⟨l.take s,l.drop (s+1),by rw [←List.drop_eq_getElem_cons hlt,List.take_append_drop],by simp;omega⟩
theorem k_set {mo ti:Int} {l:List Lk} {s j:Nat} {x y:Lk} {v:Value} (hx:l[s]? =some x) (h3:j < 3) (hy:spl x.cells j [v]=y.cells):spl (kCells mo ti l) (0+2+s*3+j) [v]=kCells mo ti (l.set s y):=by
 obtain ⟨A,B,rfl,rfl⟩:=k_split hx
 have e:kCells mo ti (A++x::B)=(.int .i64 mo:: .int .i64 ti::A.flatMap Lk.cells)++(x.cells++B.flatMap Lk.cells):=by simp [kCells]
 have e':kCells mo ti ((A++x::B).set A.length y)=(.int .i64 mo:: .int .i64 ti::A.flatMap Lk.cells)++(y.cells++B.flatMap Lk.cells):=by simp [kCells]
 have hA:(.int .i64 mo:: .int .i64 ti::A.flatMap Lk.cells:List Value).length=0+2+A.length*3:=by simp [length_flat (f:=Lk.cells) (n:=3) (fun _ _=> rfl)];omega
 rw [e,e',←hA,spl_app,←hy]
 congr 1
 have hb:j < x.cells.length:=h3
 rw [spl_set (by rw [List.length_append];omega),spl_set hb,List.set_append_left _ _ hb]
def kmay (l:List Lk) (s t:Int):Int:=if mayB s=true∧tickB t=true then (match l[s.toNat]? with
 | some x=> if t < x.u then 180 else 0
 | none=> 0) else 2
def lkFail (mo ti t:Int) (x:Lk):Lk:=if IntKind.i64.wrap (x.f+1)=mo then ⟨0,IntKind.i64.wrap (x.t+1),IntKind.i64.wrap (t+ti)⟩ else ⟨IntKind.i64.wrap (x.f+1),IntKind.i64.wrap (x.t+1),x.u⟩
def failL (mo ti:Int) (l:List Lk) (s t:Int):List Lk:=if kmay l s t=0 then (match l[s.toNat]? with
 | some x=> l.set s.toNat (lkFail mo ti t x)
 | none=> l) else l
def goodL (l:List Lk) (s:Int):List Lk:=if mayB s=true then (match l[s.toNat]? with
 | some x=> l.set s.toNat { x with f:=0 }
 | none=> l) else l
theorem kmay_zero {l:List Lk} {s t:Int} (h:kmay l s t=0):mayB s=true∧tickB t=true:=by
 by_cases hc:mayB s=true∧tickB t=true
 ·exact hc
 ·rw [kmay,if_neg hc] at h;cases h
abbrev rkI (kb:Nat) (mo ti:Int) (l:List Lk):It:=cel kb (kCells mo ti l) 196
def RKR (kb:Nat) (mo ti:Int) (l:List Lk) (x:Int):Value→List It→List It→Prop:=fun v I' H'=> v= .int .i64 x∧I'= []∧H'= [rkI kb mo ti l]
theorem kmay_at {l:List Lk} {n:Nat} {t:Int} {x:Lk} (hm:mayB (n:Int)=true) (ht:tickB t=true) (hx:l[n]? =some x):kmay l (n:Int) t=if t < x.u then 180 else 0:=by
 rw [kmay,if_pos ⟨hm,ht⟩,Int.toNat_natCast,hx]
theorem rlmay_any (kb:Nat) (mo ti:Int) (l:List Lk) (s t:Int) (hl:l.length=8):Spc prog 94 #[.pointer (some ⟨kb,0,none⟩), .int .i64 s, .int .i64 t] [rkI kb mo ti l] [] (Is (.int .i64 (kmay l s t))):=by
 refine Spc.en func94 rfl rfl (fun w0 hw0=> ?_)
 refine CW.sr (RL.pn rfl (CW.ss (CW.sr (RL.q rfl (RL.p rfl ?_)))))
 apply RL.orB (d:=9) (dp:=12) (l':=(Sq.of (rg 6 13))) rfl (sK [0,1,2,6] rfl)
 ·
  intro hb3 K3
  refine RL.q rfl (RL.p rfl ?_)
  exact K3 _ (.cons rfl (sK [0,1,2,6] rfl))
 ·
  intro hb3 K3
  refine RL.q rfl (RL.p rfl ?_)
  exact K3 _ (.cons rfl (sK [0,1,2,6] rfl))
 refine RL.p rfl ?_
 apply RL.orB (d:=13) (dp:=16) (l':=(Sq.of [10,11,12,13])) rfl (sK [0,1,2,6] rfl)
 ·
  intro hb7 K7
  refine RL.q rfl (RL.p rfl ?_)
  exact K7 _ (.cons rfl (sK [0,1,2,6] rfl))
 ·
  intro hb7 K7
  refine RL.q rfl (RL.p rfl ?_)
  exact K7 _ (.cons rfl (sK [0,1,2,6] rfl))
 refine RL.p rfl ?_
 apply RL.orB (d:=17) (dp:=20) (l':=(Sq.of [])) rfl (sK [0,1,2,6] rfl)
 ·
  intro hb11 K11
  refine RL.q rfl (RL.p rfl ?_)
  exact K11 _ (.cons rfl (sK [0,1,2,6] rfl))
 ·
  intro hb11 K11
  refine RL.q rfl (RL.p rfl ?_)
  exact K11 _ (.cons rfl (sK [0,1,2,6] rfl))
 refine RL.ns ?_
 refine CW.cd rfl (fun h=> ?_) (fun h=> ?_)
 ·
  refine CW.sr (RL.pn rfl (CW.rr (RQ.ss ?_)))
  have hk:kmay l s t=2:=by rw [kmay,if_neg];simp [mayB,tickB];simp at h;intros;omega
  exact RQ.pp (res1 rfl rfl) (Split.nn _) ⟨by rw [hk],rfl,rfl⟩
 ·
  refine CW.sn (CW.ss (CW.sr (RL.q rfl (RL.q rfl (RL.fa fa_196_2 rfl ?_)))))
  have hm:mayB s=true:=by simp [mayB];simp at h;omega
  have ht:tickB t=true:=by simp [tickB];simp at h;omega
  obtain ⟨n,rfl⟩:∃n:Nat,s=(n:Int):=⟨s.toNat,by simp [mayB] at hm;omega⟩
  have h8:n < 8:=by simp [mayB] at hm;omega
  have hx:=List.getElem?_eq_getElem (show n < l.length by omega)
  generalize l[n]=x at hx
  have hk:=kmay_at hm ht hx
  have g1:(kCells mo ti l)[0+2+n*3+2]? =some (.int .i64 x.u):=k_get hx rfl zb
  refine RL.iA (j:=n) runUnderlying194 sizeOf193 rfl h8 (RL.fa fa_193_2 rfl (RL.lq isAgg3 rfl ?_))
  refine RL.pn rfl (CW.ok [6,29] rfl ?_)
  refine CW.cd rfl (fun hu=> ?_) (fun hu=> ?_)
  ·
   refine CW.sr (RL.pn rfl (CW.rr (RQ.ss ?_)))
   exact RQ.pp (res1 rfl rfl) (Split.nn _) ⟨by rw [hk,if_pos (by simpa using hu)],rfl,rfl⟩
  ·
   refine CW.sn (CW.sr (RL.pn rfl (CW.rr ?_)))
   exact RQ.pp (res1 rfl rfl) (Split.nn _) ⟨by rw [hk,if_neg (by simpa using hu)],rfl,rfl⟩
theorem lk_rds {kb:Nat} {mo ti:Int} {l:List Lk} {n:Nat} {x:Lk} {I H:List It} {T:TypeId} (hx:l[n]? =some x) (hm:cel kb (kCells mo ti l) T∈H):Rds I H ⟨kb,0+2+n*3,none⟩ [.int .i64 x.f, .int .i64 x.t, .int .i64 x.u]:=
 Rds.cel hm (fun j u hj=> by
  have hlt:j < 3:=(List.getElem?_eq_some_iff.1 hj).1
  exact k_get hx hj hlt)
theorem k_setAll {mo ti:Int} {l:List Lk} {n:Nat} {x:Lk} (hx:l[n]? =some x) (f t u:Int):spl (kCells mo ti l) (0+2+n*3) [.int .i64 f, .int .i64 t, .int .i64 u]=kCells mo ti (l.set n ⟨f,t,u⟩):=by
 obtain ⟨A,B,rfl,rfl⟩:=k_split hx
 have e:kCells mo ti (A++x::B)=(.int .i64 mo:: .int .i64 ti::A.flatMap Lk.cells)++(x.cells++B.flatMap Lk.cells):=by simp [kCells]
 have e':kCells mo ti ((A++x::B).set A.length ⟨f,t,u⟩)=(.int .i64 mo:: .int .i64 ti::A.flatMap Lk.cells)++(Lk.cells ⟨f,t,u⟩++B.flatMap Lk.cells):=by simp [kCells]
 have hA:(.int .i64 mo:: .int .i64 ti::A.flatMap Lk.cells:List Value).length=0+2+A.length*3:=by simp [length_flat (f:=Lk.cells) (n:=3) (fun _ _=> rfl)];omega
 rw [e,e']
 exact seg_spl (B:=x.cells) (B':=Lk.cells ⟨f,t,u⟩) hA rfl
theorem rlfail_any (kb:Nat) (mo ti:Int) (l:List Lk) (s t:Int) (hl:l.length=8):Spc prog 98 #[.pointer (some ⟨kb,0,none⟩), .int .i64 s, .int .i64 t] [] [rkI kb mo ti l] (RKR kb mo ti (failL mo ti l s t) (kmay l s t)):=by
 refine Spc.en func98 rfl rfl (fun w0 hw0=> ?_)
 refine CW.sr (RL.pn rfl (CW.ss (CW.sr (RL.q rfl (RL.p rfl (RL.vq (rlmay_any kb mo ti l s t hl) call94 rfl ?_))))))
 refine RL.pn rfl (CW.s1 rfl ?_)
 refine CW.cd rfl (fun hk=> ?_) (fun hk=> ?_)
 ·
  refine CW.s1 rfl (CW.ok [0,1,2,6] rfl (CW.rr (RQ.ss ?_)))
  have hk: ¬kmay l s t=0:=by simpa using hk
  exact RQ.pp (res1 rfl rfl) (.keep .nil) ⟨rfl,rfl,by rw [failL,if_neg hk]⟩
 ·
  have hk:kmay l s t=0:=by simpa using hk
  obtain ⟨hm,ht⟩:=kmay_zero hk
  obtain ⟨n,rfl⟩:∃n:Nat,s=(n:Int):=⟨s.toNat,by simp [mayB] at hm;omega⟩
  have h8:n < 8:=by simp [mayB] at hm;omega
  have hx:=List.getElem?_eq_getElem (show n < l.length by omega)
  generalize l[n]=x at hx
  have hlt:n < l.length:=by omega
  refine CW.sn (CW.ok [0,1,2] rfl (CW.sg [6,7] [7] (RL.q rfl (RL.p rfl (RL.fa fa_196_2 rfl (RL.iA (j:=n) runUnderlying194 sizeOf193 rfl h8 (RL.ld (vs:= [_,_,_]) isAgg193 sizeOf193 rfl (lk_rds hx mQ) ?_)))))))
  refine RL.al zeroValue193 rfl ?_
  intro b1
  refine RL.store (vs:= [_,_,_]) sizeOf193 rfl rfl uE ?_
  refine RL.ns (CW.ok [0,1,2,8] rfl (CW.sg [7,9] [7,9] (RL.fa fa_193_0 rfl (RL.lq isAgg3 rfl ?_))))
  refine RL.p rfl (RL.fa fa_193_1 rfl (RL.lq isAgg3 rfl ?_))
  refine RL.p rfl (RL.fa fa_193_0 rfl (RL.store (vs:= [_]) sizeOf3 rfl rfl uE ?_))
  refine RL.fa fa_193_1 rfl (RL.store (vs:= [_]) sizeOf3 rfl rfl uE ?_)
  refine RL.ns (CW.ok [0,1,2,8] rfl (CW.s2 (CW.rD (Sq.of [0,1,2,3,4,5,6]) [] [] [0,2,3,4,6] mixed zi ?_)))
  refine RL.fa fa_193_0 rfl (RL.lq isAgg3 rfl ?_)
  refine RL.q rfl (RL.fa fa_196_0 rfl (RL.lq isAgg3 rfl ?_))
  refine RL.pn rfl (CW.ok [0,1,2,8,36] rfl ?_)
  refine CW.cd rfl (fun he=> ?_) (fun he=> ?_)
  ·
   have he:IntKind.i64.wrap (x.f+1)=mo:=by simpa using he
   have hy:lkFail mo ti t x=⟨0,IntKind.i64.wrap (x.t+1),IntKind.i64.wrap (t+ti)⟩:=by rw [lkFail,if_pos he]
   rw [hk]
   have hF:failL mo ti l (n:Int) t=l.set n (lkFail mo ti t x):=by rw [failL,if_pos hk,Int.toNat_natCast,hx]
   rw [hF,hy]
   refine CW.rD (.cons 0 (.cons 1 (.cons 2 (.cons 3 (.cons 6 (.fork [4,7] (fun k=> (bif Nat.beq k 4 then (Sq.of [5,7,8,9]) else (Sq.of [4,5,8,9]))))))))) [7,9] [7,9] [0,1,2,3,5,6,8] mixed zi ?_
   refine RL.q rfl (RL.p rfl (RL.fa fa_196_1 rfl (RL.fa fa_193_0 rfl ?_)))
   refine RL.fork ⟨?_, ?_,trivial⟩
   ·
    refine RL.lq isAgg3 rfl ?_
    refine RL.p rfl (RL.store (vs:= [_]) sizeOf3 rfl rfl uE ?_)
    refine RL.fa fa_193_2 rfl (RL.store (vs:= [_]) sizeOf3 rfl rfl uE ?_)
    refine RL.ns (CW.ok [0,1,8] rfl (CW.ss (CW.rD (Sq.of [0,1,2,3,4,5,6]) [6] [6] [0,1,3,4,5] mixed zi ?_)))
    refine RL.q rfl (RL.ld (vs:= [_,_,_]) isAgg193 sizeOf193 rfl zl ?_)
    refine RL.p rfl (RL.fa fa_196_2 rfl (RL.iA (j:=n) runUnderlying194 sizeOf193 rfl h8 (RL.sX (vs:= [_,_,_]) (k_setAll hx _ _ _) sizeOf193 rfl rfl uE (by rw [k_len];simp;omega) ?_)))
    refine RL.ns (CW.ok [] rfl (CW.sr (RL.pn rfl (CW.rr ?_))))
    exact RQ.pp (res1 rfl rfl) (.drop (.keep .nil)) ⟨rfl,rfl,rfl⟩
   ·
    refine RL.store (vs:= [_]) sizeOf3 rfl rfl uE ?_
    refine RL.lq isAgg3 rfl ?_
    refine RL.p rfl (RL.fa fa_193_2 rfl (RL.store (vs:= [_]) sizeOf3 rfl rfl uE ?_))
    refine RL.ns (CW.ok [0,1,8] rfl (CW.ss (CW.rD (Sq.of [0,1,2,3,4,5,6]) [6] [6] [0,1,3,4,5] mixed zi ?_)))
    refine RL.q rfl (RL.ld (vs:= [_,_,_]) isAgg193 sizeOf193 rfl zl ?_)
    refine RL.p rfl (RL.fa fa_196_2 rfl (RL.iA (j:=n) runUnderlying194 sizeOf193 rfl h8 (RL.sX (vs:= [_,_,_]) (k_setAll hx _ _ _) sizeOf193 rfl rfl uE (by rw [k_len];simp;omega) ?_)))
    refine RL.ns (CW.ok [] rfl (CW.sr (RL.pn rfl (CW.rr ?_))))
    exact RQ.pp (res1 rfl rfl) (.drop (.keep .nil)) ⟨rfl,rfl,rfl⟩
  ·
   have he: ¬IntKind.i64.wrap (x.f+1)=mo:=by simpa using he
   have hy:lkFail mo ti t x=⟨IntKind.i64.wrap (x.f+1),IntKind.i64.wrap (x.t+1),x.u⟩:=by rw [lkFail,if_neg he]
   rw [hk]
   have hF:failL mo ti l (n:Int) t=l.set n (lkFail mo ti t x):=by rw [failL,if_pos hk,Int.toNat_natCast,hx]
   rw [hF,hy]
   refine CW.sn (CW.ss (CW.rD (Sq.of [0,1,2,3,4,5,6]) [6] [6] [0,1,3,4,5] mixed zi ?_))
   refine RL.q rfl (RL.ld (vs:= [_,_,_]) isAgg193 sizeOf193 rfl zl ?_)
   refine RL.p rfl (RL.fa fa_196_2 rfl (RL.iA (j:=n) runUnderlying194 sizeOf193 rfl h8 (RL.sX (vs:= [_,_,_]) (k_setAll hx _ _ _) sizeOf193 rfl rfl uE (by rw [k_len];simp;omega) ?_)))
   refine RL.ns (CW.ok [] rfl (CW.sr (RL.pn rfl (CW.rr ?_))))
   exact RQ.pp (res1 rfl rfl) (.drop (.keep .nil)) ⟨rfl,rfl,rfl⟩
theorem rlgood_any (kb:Nat) (mo ti:Int) (l:List Lk) (s:Int) (hl:l.length=8):Spc prog 100 #[.pointer (some ⟨kb,0,none⟩), .int .i64 s] [] [rkI kb mo ti l] (RKR kb mo ti (goodL l s) (if mayB s=true then 0 else 2)):=by
 refine Spc.en func100 rfl rfl (fun w0 hw0=> ?_)
 refine CW.sr (RL.pn rfl (CW.ss (CW.sr (RL.q rfl (RL.p rfl ?_)))))
 apply RL.orB (d:=7) (dp:=10) (l':=(Sq.of [])) rfl (sK [0,1,4] rfl)
 ·
  intro hb3 K3
  refine RL.q rfl (RL.p rfl ?_)
  exact K3 _ (.cons rfl (sK [0,1,4] rfl))
 ·
  intro hb3 K3
  refine RL.q rfl (RL.p rfl ?_)
  exact K3 _ (.cons rfl (sK [0,1,4] rfl))
 refine RL.ns ?_
 refine CW.cd rfl (fun h=> ?_) (fun h=> ?_)
 ·
  refine CW.sr (RL.pn rfl (CW.rr (RQ.ss ?_)))
  have hm: ¬mayB s=true:=by simp [mayB];simp at h;omega
  exact RQ.pp (res1 rfl rfl) (.keep .nil) ⟨by rw [if_neg hm],rfl,by rw [goodL,if_neg hm]⟩
 ·
  have hm:mayB s=true:=by simp [mayB];simp at h;omega
  obtain ⟨n,rfl⟩:∃n:Nat,s=(n:Int):=⟨s.toNat,by simp [mayB] at hm;omega⟩
  have h8:n < 8:=by simp [mayB] at hm;omega
  have hx:=List.getElem?_eq_getElem (show n < l.length by omega)
  have hlt:n < l.length:=by omega
  generalize l[n]=x at hx
  refine CW.sn (CW.sg [6] [6] (RL.q rfl (RL.p rfl (RL.fa fa_196_2 rfl (RL.iA (j:=n) runUnderlying194 sizeOf193 rfl h8 (RL.fa fa_193_0 rfl (RL.sX (vs:= [_]) (k_set hx (j:=0) zc (y:= { x with f:=0 }) rfl) sizeOf3 rfl rfl uE (by rw [k_len];simp;omega) ?_)))))))
  refine RL.ns (CW.ok [] rfl (CW.sr (RL.pn rfl (CW.rr ?_))))
  exact RQ.pp (res1 rfl rfl) (.keep .nil) ⟨by rw [if_pos hm],rfl,by rw [goodL,if_pos hm,Int.toNat_natCast,hx]⟩
def insP (R:List One) (s:Int):Nat:=(R.takeWhile fun o=> decide ((o.s:Int) < s)).length
theorem insP_le (R:List One) (s:Int):insP R s≤R.length:=by
 have:=(List.takeWhile_prefix (p:=fun o:One=> decide ((o.s:Int) < s)) (l:=R)).length_le
 exact this
def rputR (R:List One) (s:Int) (k:List B8):List One:=R.take (insP R s)++(⟨s.toNat,k,1, -1,0⟩::R.drop (insP R s))
theorem insP_is {s:Int}:∀ {R:List One} {i:Nat},i≤R.length→(∀(j:Nat) (o:One),j < i→R[j]? =some o→(o.s:Int) < s)→(∀o,R[i]? =some o→ ¬(o.s:Int) < s)→insP R s=i
 | [],i,hi,_,_=> by simp at hi;subst hi;rfl
 | a::R,0,_,_,h2=> by
  have:=h2 a rfl
  simp [insP,this]
 | a::R,i+1,hi,h1,h2=> by
  have ha:=h1 0 a zb rfl
  have ih:=insP_is (R:=R) (i:=i) (by simpa using hi) (fun j o hj hjo=> h1 (j+1) o zb (by simpa using hjo)) (fun o ho=> h2 o (by simpa using ho))
  rw [insP] at ih
  simp [insP,ha,ih]
theorem rcs_len {R:List One} (h:ROk R):(rcs R).length=R.length*35:=length_flat (rc_row h)
theorem ROk.take {R:List One} (h:ROk R) (i:Nat):ROk (R.take i):=fun o ho=> h o (List.mem_of_mem_take ho)
theorem rcs_cut {R:List One} (h:ROk R) {i:Nat} (hi:i≤R.length):(rcs R).take (i*35)=rcs (R.take i)∧(rcs R).drop (i*35)=rcs (R.drop i):=by
 have hl:(rcs (R.take i)).length=i*35:=by rw [rcs_len (h.take i),List.length_take,Nat.min_eq_left hi]
 have he:rcs R=rcs (R.take i)++rcs (R.drop i):=by rw [←rcs_app,List.take_append_drop]
 rw [he]
 exact ⟨List.take_left' hl,List.drop_left' hl⟩
theorem rc_src1 {I H:List It} {R:List One} {ob:Option Nat} {cp i:Nat} {e:TypeId} (h:ROk R) (hi:i≤R.length) (hc:R.length≤cp) (hm:own ob cp e 35 R.length (rcs R)∈H):
  Src I H (if cp=0 then ob.map (fun b=> ⟨b,0,none⟩) else (ob.map (fun b=> (⟨b,0,none⟩:Addr))).map (·.add (0*35))) (i - 0) 35 (rcs (R.take i)):=by
 have:=Src.sub (lo:=0) (hi:=i) (cap:=cp) (Src.own (I:=I) hm) zb hi zb
 rw [Nat.zero_mul,List.drop_zero,Nat.sub_zero,(rcs_cut h hi).1] at this
 simpa using this
theorem rc_src2 {I H:List It} {R:List One} {ob:Option Nat} {cp i:Nat} {e:TypeId} (h:ROk R) (hi:i≤R.length) (hc:R.length≤cp) (hm:own ob cp e 35 R.length (rcs R)∈H):
  Src I H (if cp=i then ob.map (fun b=> ⟨b,0,none⟩) else (ob.map (fun b=> (⟨b,0,none⟩:Addr))).map (·.add (i*35))) (R.length - i) 35 (rcs (R.drop i)):=by
 have:=Src.sub (lo:=i) (hi:=R.length) (cap:=cp) (Src.own (I:=I) hm) hi (Nat.le_refl _) zb
 rw [(rcs_cut h hi).2,List.take_of_length_le (by rw [rcs_len (fun o ho=> h o (List.mem_of_mem_drop ho)),List.length_drop];exact Nat.le_refl _)] at this
 exact this
theorem ones_rcs (R:List One):∀u∈rcs R,u.oneCell'=true:=fun u hu=> by
 obtain ⟨o, -,ho⟩:=List.mem_flatMap.1 hu
 simp only [One.rc,List.mem_cons,List.mem_append,List.mem_map,List.not_mem_nil,or_false] at ho
 rcases ho with rfl | ⟨b, -,rfl⟩ | rfl | rfl <;> rfl
theorem ones_rc (o:One):∀u∈o.rc,u.oneCell'=true:=fun u hu=> ones_rcs [o] u (by simpa [rcs] using hu)
theorem fill_rc {k:List B8} {n:Nat} (h:k.length=32) {places:Array (Nat×Nat)} (hp:places= #[(0,1),(1,32),(33,1),(34,1)]):
  fillL (places[·]?) (.int .i64 0::(bytes zeros++ [.int .u32 0, .int .i64 0])) [(0, .int .i64 (n:Int)),(1, .agg (bytes k).toArray),(2, .int .u32 1),(3, .int .i64 (-1))]=some (One.rc ⟨n,k,1, -1,0⟩):=by
 subst hp
 refine fill_seg [] [_] (bytes zeros++ [.int .u32 0, .int .i64 0]) rfl rfl rfl rfl rfl rfl ?_
 refine fill_seg [_] (bytes zeros) [.int .u32 0, .int .i64 0] rfl (agg_cells _) rfl rfl rfl (by simp [h]) ?_
 refine fill_seg (vs:= [.int .u32 1]) (.int .i64 (n:Int)::bytes k) [.int .u32 0] [.int .i64 0] rfl rfl zm (by simp [h]) rfl rfl ?_
 refine fill_seg (vs:= [.int .i64 (-1)]) (.int .i64 (n:Int)::(bytes k++ [.int .u32 1])) [.int .i64 0] [] rfl rfl zm (by simp [h]) rfl rfl ?_
 simp [One.rc,fillL]
theorem fill_one35 {cs zs:List Value} (h:cs.length=35) (hz:zs.length=35):fillL (fun j=> some (j*35,35)) (reps zs 1) [(0, .agg cs.toArray)]=some cs:=by
 refine fill_seg [] zs [] rfl (agg_cells _) (by simp [reps]) rfl hz h ?_
 simp [fillL]
theorem rput_fin {R:List One} {n i:Nat} {k:List B8} (hi:i≤R.length) (hins:insP R (n:Int)=i) (y:Nat) (ob:Option Nat) (cp:Nat):
  [cel y [slO ob (0+(i - 0)+1+(R.length - i)) cp] 132,own ob cp 150 35 (0+(i - 0)+1+(R.length - i)) ([]++rcs (R.take i)++One.rc ⟨n,k,1, -1,0⟩++rcs (R.drop i))]=RefK y (rputR R (n:Int) k) ob cp:=by
 have h1:(rputR R (n:Int) k).length=0+(i - 0)+1+(R.length - i):=by rw [rputR,hins];simp;omega
 have h2:rcs (rputR R (n:Int) k)= []++rcs (R.take i)++One.rc ⟨n,k,1, -1,0⟩++rcs (R.drop i):=by
  rw [rputR,hins,rcs_app,Int.toNat_natCast];simp [rcs]
 rw [RefK,h1,h2]
theorem kput_any (y:Nat) (R:List One) (ob:Option Nat) (cp:Nat) (s:Int) (k:List B8) (hk:k.length=32) (hR:ROk R) (hl:R.length≤1000):
  Spc prog 42 #[.pointer (some ⟨y,0,none⟩), .int .i64 s, .agg (bytes k).toArray] [] (RefK y R ob cp) (RefR y (if mayB s=true then (match atO R s with | none=> rputR R s k | some _=> R) else R) (if mayB s=true then (match atO R s with | none=> 0 | some _=> 6) else 2)):=by
 refine Spc.en func42 rfl rfl (fun w0 hw0=> ?_)
 refine CW.sg [0] [] (RL.box rfl ?_)
 intro b1
 refine RL.pn rfl (CW.ss (CW.sr (RL.p rfl (RL.vq (rmay_any s) call53 rfl ?_))))
 refine RL.pn rfl ?_
 refine CW.cd rfl (fun hm=> ?_) (fun hm=> ?_)
 ·
  refine CW.sr (RL.pn rfl (CW.rr (RQ.ss ?_)))
  have hm: ¬mayB s=true:=by simpa using hm
  exact RQ.pp (res1 rfl rfl) (.drop (.keep (.keep .nil))) ⟨by rw [if_neg hm],rfl,ob,cp,by rw [if_neg hm]⟩
 ·
  have hm:mayB s=true:=by simpa using hm
  rcases atN_spec R s with ⟨h1,h2⟩ | ⟨i,o,h1,h2,h3⟩
  ·have hat:atI R s= -1:=by rw [atI,h1]
   rw [if_pos hm,if_pos hm,h2]
   dsimp only
   obtain ⟨n,rfl⟩:∃n:Nat,s=(n:Int):=⟨s.toNat,by simp [mayB] at hm;omega⟩
   refine CW.sn (CW.ss (CW.sr (RL.q rfl (RL.vq (rat_any y R ob cp (n:Int) hR zb) call55 rfl ?_))))
   refine RL.pn rfl (CW.ok [0,1,5,6,14] rfl (CW.cF rfl ((by rw [hat];rfl)) ?_))
   refine CW.sn (CW.sr (RL.pn rfl (CW.ss ?_)))
   refine CW.ff (p:=ob=none→R.length=0) (fun w hC e=> by
    have:=own_sls (hC.s.h (own ob cp 150 35 R.length (rcs R)) mQ)
    exact sls_nil this (by rw [e];rfl)) (fun hpa=> ?_)
   refine CW.ff (p:=R.length≤cp) (fun w hC=> own_cap (ob:=ob) (cap:=cp) (hC.s.h (own ob cp 150 35 R.length (rcs R)) (List.Mem.tail _ (List.Mem.tail _ (List.Mem.head _))))) (fun hcl=> ?_)
   refine CW.cut [(0, .pointer (some ⟨y,0,none⟩)),(1, .int .i64 (n:Int)),(5, .pointer (some ⟨b1,0,none⟩)),(7, .int .i64 (insP R (n:Int):Int))] [] (cel b1 (bytes k) 31::RefK y R ob cp) ?_ ?_
   ·
    refine CW.bb (CW.loop (γ:=Nat) (fun i=> i≤R.length∧∀(j:Nat) (o:One),j < i→R[j]? =some o→(o.s:Int) < (n:Int)) (fun i=> [(0, .pointer (some ⟨y,0,none⟩)),(1, .int .i64 (n:Int)),(5, .pointer (some ⟨b1,0,none⟩)),(7, .int .i64 (i:Int))]) (fun _=> []) (fun _=> cel b1 (bytes k) 31::RefK y R ob cp) (fun i=> R.length - i) 0 ⟨zb,zb⟩ sE (fun _ h=> h) ?_)
    rintro i ⟨hi,hn⟩
    refine CW.ss (CW.sr (RL.q rfl (RL.p rfl (RL.fa fa_132_0 rfl (RL.lq isAgg130 rfl ?_)))))
    refine RL.lenS runUnderlying130 rfl (RL.q rfl ?_)
    refine RL.part (d:=22) rfl (fun hlt=> ?_) (fun hlt=> ?_)
    ·
     have hlt:i < R.length:=by simp at hlt;omega
     cases ob with
     | none=> exact absurd (hpa rfl) zb
     | some ba=>
     have hx:=List.getElem?_eq_getElem hlt
     generalize R[i]=o at hx
     have q:Rd [] (cel b1 (bytes k) 31::RefK y R (some ba) cp) ⟨ba,0+i*35+0,none⟩ (.int .i64 (o.s:Int)):=rc_rdH hR (show own (some ba) cp 150 35 R.length (rcs R)∈cel b1 (bytes k) 31::RefK y R (some ba) cp from mQ) hx (rc_s o)
     refine RL.q rfl (RL.fa fa_132_0 rfl (RL.lq isAgg130 rfl ?_))
     refine RL.p rfl (RL.ix (j:=i) runUnderlying130 sizeOf150 rfl (hlt) (RL.fa fa_150_0 rfl (RL.lq isAgg3 rfl ?_)))
     refine RL.p rfl (RL.qn rfl (CW.ok [0,1,5,7,33] rfl ?_))
     refine CW.cd rfl (fun hb=> ?_) (fun hb=> ?_)
     ·
      refine CW.sn (CW.bb (CW.rg (RL.p rfl (RL.bx rfl (wrapV_i64 zb zb) ?_))))
      refine RL.p rfl (RL.ee (NQ.bb ?_))
      have hb:(o.s:Int) < (n:Int):=by simpa using hb
      refine NQ.rr (g:=i) (i+1) ⟨hlt,fun j x hj hjx=> ?_⟩ zb sE (fun _ h=> h)
      by_cases hji:j=i
      ·subst hji;rw [hx] at hjx;cases hjx;exact hb
      ·exact hn j x zb hjx
     ·
      refine CW.xx (XQ.ss (XQ.ss (XQ.hh ?_)))
      have hins:insP R (n:Int)=i:=insP_is hi hn (fun x hx'=> by rw [hx] at hx';cases hx';simpa using hb)
      rw [hins]
      exact NQ.mid sE (fun _ h=> h)
    ·
     have hin:i=R.length:=by simp at hlt;omega
     have hins:insP R (n:Int)=i:=insP_is hi hn (fun x hx'=> by rw [List.getElem?_eq_none zb] at hx';cases hx')
     refine RL.q rfl (RL.q rfl (RL.q rfl (RL.q rfl (RL.p rfl (RL.qn rfl (CW.ok [0,1,5,7,33] rfl ?_))))))
     refine CW.cF rfl rfl (CW.xx (XQ.ss (XQ.ss (XQ.hh ?_))))
     rw [hins]
     exact NQ.mid sE (fun _ h=> h)
   ·
    have hi:=insP_le R (n:Int)
    generalize hins:insP R (n:Int)=i at hi
    have hs1:∀ {I' H':List It},own ob cp 150 35 R.length (rcs R)∈H'→Src I' H' _ (i - 0) 35 (rcs (R.take i)):=fun hm=> rc_src1 hR hi hcl hm
    have hs2:∀ {I' H':List It},own ob cp 150 35 R.length (rcs R)∈H'→Src I' H' _ (R.length - i) 35 (rcs (R.drop i)):=fun hm=> rc_src2 hR hi hcl hm
    refine CW.fP (A:= [_]) (B:= [_,_]) (.take (.leave (.leave .nil))) rfl (CW.ss (CW.rD (.cons 0 (.cons 2 (.cons 3 (.cons 4 (.cons 5 (.cons 6 (.cons 7 (.cons 9 (.cons 10 (.cons 11 (.cons 14 (.cons 15 (.cons 16 (.cons 18 (.fork [1,12,17] (fun k=> (bif Nat.beq k 1 then (.fork [8,12,17] (fun k=> (bif Nat.beq k 8 then (.fork [12,17] (fun k=> (bif Nat.beq k 12 then (.fork [13,17] (fun k=> (bif Nat.beq k 13 then (Sq.of [17,19,20,21,22,23]) else (Sq.of [19,13,20,21,22,23])))) else (Sq.of [19,12,13,20,21,22,23])))) else (bif Nat.beq k 12 then (.fork [8,17] (fun k=> (bif Nat.beq k 8 then (.fork [13,17] (fun k=> (bif Nat.beq k 13 then (Sq.of [17,19,20,21,22,23]) else (Sq.of [19,13,20,21,22,23])))) else (Sq.of [19,8,13,20,21,22,23])))) else (.cons 19 (.fork [8,12] (fun k=> (bif Nat.beq k 8 then (Sq.of [12,13,20,21,22,23]) else (Sq.of [8,13,20,21,22,23]))))))))) else (bif Nat.beq k 12 then (.fork [1,17] (fun k=> (bif Nat.beq k 1 then (.fork [8,17] (fun k=> (bif Nat.beq k 8 then (.fork [13,17] (fun k=> (bif Nat.beq k 13 then (Sq.of [17,19,20,21,22,23]) else (Sq.of [19,13,20,21,22,23])))) else (Sq.of [19,8,13,20,21,22,23])))) else (Sq.of [19,1,8,13,20,21,22,23])))) else (.cons 19 (.fork [1,12] (fun k=> (bif Nat.beq k 1 then (.fork [8,12] (fun k=> (bif Nat.beq k 8 then (Sq.of [12,13,20,21,22,23]) else (Sq.of [8,13,20,21,22,23])))) else (Sq.of [1,8,13,20,21,22,23]))))))))))))))))))))))) [1,8,12,13,20,23] [8,13,20,23] [0,2,3,4,6,7,9,10,11,14,15,16,18,19,21,22] mixed zi ?_))
    refine RL.q rfl (RL.p rfl (RL.fa fa_132_0 rfl (RL.lq isAgg130 rfl ?_)))
    refine RL.p rfl (RL.slice (lo:=0) (hi:=i) runUnderlying130 sizeOf150 rfl rfl rfl zb zb ?_)
    refine RL.p rfl (RL.loadWT isAgg31 sizeOf31 rfl rfl mQ (by first | rfl | assumption | (simp only [List.length_map];assumption) | (simp only [List.length_map,List.length_replicate,hk];done) | (simp;done)) ?_)
    refine RL.bS (One.rc ⟨n,k,1, -1,0⟩) zeroValue150 pl_150 (qP rfl (qP rfl (fill_rc hk rfl))) (RL.q rfl (RL.fa fa_132_0 rfl (RL.p rfl ?_)))
    refine RL.fork ⟨?_, ?_, ?_,trivial⟩
    ·
     refine RL.buildOwn [] runUnderlying130 sizeOf150 zeroValue150 rfl rfl zc zc rfl zc rfl ?_
     intro b2
     refine RL.fork ⟨?_, ?_, ?_,trivial⟩
     ·
      refine RL.appendA el_130 rfl za (hs1 mQ) (ones_rcs _) zd zd ?_
      intro ob1 cap1 ho1
      refine RL.fork ⟨?_, ?_,trivial⟩
      ·
       refine RL.buildSlice (One.rc ⟨n,k,1, -1,0⟩) runUnderlying130 sizeOf150 zeroValue150 rfl rfl zc zc rfl (fill_one35 (rc_len hk) rfl) ?_
       intro b3
       refine RL.fork ⟨?_, ?_,trivial⟩
       ·
        refine RL.appendA el_130 rfl za (Src.cel mQ (rc_len hk)) (ones_rc _) zd zd ?_
        intro ob2 cap2 ho2
        refine RL.lq isAgg130 rfl ?_
        refine RL.slice (lo:=i) (hi:=R.length) runUnderlying130 sizeOf150 rfl rfl rfl zb zb ?_
        refine RL.appendA el_130 rfl za (hs2 mQ) (ones_rcs _) zd zd ?_
        intro ob3 cap3 ho3
        refine RL.p rfl (RL.fa fa_132_0 rfl (RL.store (vs:= [_]) sizeOf130 rfl rfl uE ?_))
        refine RL.ns (CW.ok [] rfl (CW.sr (RL.pn rfl (CW.rr ?_))))
        refine RQ.rea (fun _ h=> h) (H':= [cel y [slO ob3 (0+(i - 0)+1+(R.length - i)) cap3] 132,own ob3 cap3 150 35 (0+(i - 0)+1+(R.length - i)) ([]++rcs (R.take i)++One.rc ⟨n,k,1, -1,0⟩++rcs (R.drop i))]) rE (RQ.pp (res1 rfl rfl) (.keep (.keep .nil)) ⟨rfl,rfl,ob3,cap3,rput_fin hi hins y ob3 cap3⟩)
       ·
        refine RL.lq isAgg130 rfl ?_
        refine RL.slice (lo:=i) (hi:=R.length) runUnderlying130 sizeOf150 rfl rfl rfl zb zb ?_
        refine RL.appendA el_130 rfl za (Src.cel mQ (rc_len hk)) (ones_rc _) zd zd ?_
        intro ob2 cap2 ho2
        refine RL.appendA el_130 rfl za (hs2 mQ) (ones_rcs _) zd zd ?_
        intro ob3 cap3 ho3
        refine RL.p rfl (RL.fa fa_132_0 rfl (RL.store (vs:= [_]) sizeOf130 rfl rfl uE ?_))
        refine RL.ns (CW.ok [] rfl (CW.sr (RL.pn rfl (CW.rr ?_))))
        refine RQ.rea (fun _ h=> h) (H':= [cel y [slO ob3 (0+(i - 0)+1+(R.length - i)) cap3] 132,own ob3 cap3 150 35 (0+(i - 0)+1+(R.length - i)) ([]++rcs (R.take i)++One.rc ⟨n,k,1, -1,0⟩++rcs (R.drop i))]) rE (RQ.pp (res1 rfl rfl) (.keep (.keep .nil)) ⟨rfl,rfl,ob3,cap3,rput_fin hi hins y ob3 cap3⟩)
      ·
       refine RL.lq isAgg130 rfl ?_
       refine RL.slice (lo:=i) (hi:=R.length) runUnderlying130 sizeOf150 rfl rfl rfl zb zb ?_
       refine RL.buildSlice (One.rc ⟨n,k,1, -1,0⟩) runUnderlying130 sizeOf150 zeroValue150 rfl rfl zc zc rfl (fill_one35 (rc_len hk) rfl) ?_
       intro b3
       refine RL.appendA el_130 rfl za (Src.cel mQ (rc_len hk)) (ones_rc _) zd zd ?_
       intro ob2 cap2 ho2
       refine RL.appendA el_130 rfl za (hs2 mQ) (ones_rcs _) zd zd ?_
       intro ob3 cap3 ho3
       refine RL.p rfl (RL.fa fa_132_0 rfl (RL.store (vs:= [_]) sizeOf130 rfl rfl uE ?_))
       refine RL.ns (CW.ok [] rfl (CW.sr (RL.pn rfl (CW.rr ?_))))
       refine RQ.rea (fun _ h=> h) (H':= [cel y [slO ob3 (0+(i - 0)+1+(R.length - i)) cap3] 132,own ob3 cap3 150 35 (0+(i - 0)+1+(R.length - i)) ([]++rcs (R.take i)++One.rc ⟨n,k,1, -1,0⟩++rcs (R.drop i))]) rE (RQ.pp (res1 rfl rfl) (.keep (.keep .nil)) ⟨rfl,rfl,ob3,cap3,rput_fin hi hins y ob3 cap3⟩)
     ·
      refine RL.buildSlice (One.rc ⟨n,k,1, -1,0⟩) runUnderlying130 sizeOf150 zeroValue150 rfl rfl zc zc rfl (fill_one35 (rc_len hk) rfl) ?_
      intro b3
      refine RL.fork ⟨?_, ?_,trivial⟩
      ·
       refine RL.appendA el_130 rfl za (hs1 mQ) (ones_rcs _) zd zd ?_
       intro ob1 cap1 ho1
       refine RL.fork ⟨?_, ?_,trivial⟩
       ·
        refine RL.appendA el_130 rfl za (Src.cel mQ (rc_len hk)) (ones_rc _) zd zd ?_
        intro ob2 cap2 ho2
        refine RL.lq isAgg130 rfl ?_
        refine RL.slice (lo:=i) (hi:=R.length) runUnderlying130 sizeOf150 rfl rfl rfl zb zb ?_
        refine RL.appendA el_130 rfl za (hs2 mQ) (ones_rcs _) zd zd ?_
        intro ob3 cap3 ho3
        refine RL.p rfl (RL.fa fa_132_0 rfl (RL.store (vs:= [_]) sizeOf130 rfl rfl uE ?_))
        refine RL.ns (CW.ok [] rfl (CW.sr (RL.pn rfl (CW.rr ?_))))
        refine RQ.rea (fun _ h=> h) (H':= [cel y [slO ob3 (0+(i - 0)+1+(R.length - i)) cap3] 132,own ob3 cap3 150 35 (0+(i - 0)+1+(R.length - i)) ([]++rcs (R.take i)++One.rc ⟨n,k,1, -1,0⟩++rcs (R.drop i))]) rE (RQ.pp (res1 rfl rfl) (.keep (.keep .nil)) ⟨rfl,rfl,ob3,cap3,rput_fin hi hins y ob3 cap3⟩)
       ·
        refine RL.lq isAgg130 rfl ?_
        refine RL.slice (lo:=i) (hi:=R.length) runUnderlying130 sizeOf150 rfl rfl rfl zb zb ?_
        refine RL.appendA el_130 rfl za (Src.cel mQ (rc_len hk)) (ones_rc _) zd zd ?_
        intro ob2 cap2 ho2
        refine RL.appendA el_130 rfl za (hs2 mQ) (ones_rcs _) zd zd ?_
        intro ob3 cap3 ho3
        refine RL.p rfl (RL.fa fa_132_0 rfl (RL.store (vs:= [_]) sizeOf130 rfl rfl uE ?_))
        refine RL.ns (CW.ok [] rfl (CW.sr (RL.pn rfl (CW.rr ?_))))
        refine RQ.rea (fun _ h=> h) (H':= [cel y [slO ob3 (0+(i - 0)+1+(R.length - i)) cap3] 132,own ob3 cap3 150 35 (0+(i - 0)+1+(R.length - i)) ([]++rcs (R.take i)++One.rc ⟨n,k,1, -1,0⟩++rcs (R.drop i))]) rE (RQ.pp (res1 rfl rfl) (.keep (.keep .nil)) ⟨rfl,rfl,ob3,cap3,rput_fin hi hins y ob3 cap3⟩)
      ·
       refine RL.lq isAgg130 rfl ?_
       refine RL.slice (lo:=i) (hi:=R.length) runUnderlying130 sizeOf150 rfl rfl rfl zb zb ?_
       refine RL.appendA el_130 rfl za (hs1 mQ) (ones_rcs _) zd zd ?_
       intro ob1 cap1 ho1
       refine RL.appendA el_130 rfl za (Src.cel mQ (rc_len hk)) (ones_rc _) zd zd ?_
       intro ob2 cap2 ho2
       refine RL.appendA el_130 rfl za (hs2 mQ) (ones_rcs _) zd zd ?_
       intro ob3 cap3 ho3
       refine RL.p rfl (RL.fa fa_132_0 rfl (RL.store (vs:= [_]) sizeOf130 rfl rfl uE ?_))
       refine RL.ns (CW.ok [] rfl (CW.sr (RL.pn rfl (CW.rr ?_))))
       refine RQ.rea (fun _ h=> h) (H':= [cel y [slO ob3 (0+(i - 0)+1+(R.length - i)) cap3] 132,own ob3 cap3 150 35 (0+(i - 0)+1+(R.length - i)) ([]++rcs (R.take i)++One.rc ⟨n,k,1, -1,0⟩++rcs (R.drop i))]) rE (RQ.pp (res1 rfl rfl) (.keep (.keep .nil)) ⟨rfl,rfl,ob3,cap3,rput_fin hi hins y ob3 cap3⟩)
     ·
      refine RL.lq isAgg130 rfl ?_
      refine RL.slice (lo:=i) (hi:=R.length) runUnderlying130 sizeOf150 rfl rfl rfl zb zb ?_
      refine RL.fork ⟨?_, ?_,trivial⟩
      ·
       refine RL.appendA el_130 rfl za (hs1 mQ) (ones_rcs _) zd zd ?_
       intro ob1 cap1 ho1
       refine RL.buildSlice (One.rc ⟨n,k,1, -1,0⟩) runUnderlying130 sizeOf150 zeroValue150 rfl rfl zc zc rfl (fill_one35 (rc_len hk) rfl) ?_
       intro b3
       refine RL.appendA el_130 rfl za (Src.cel mQ (rc_len hk)) (ones_rc _) zd zd ?_
       intro ob2 cap2 ho2
       refine RL.appendA el_130 rfl za (hs2 mQ) (ones_rcs _) zd zd ?_
       intro ob3 cap3 ho3
       refine RL.p rfl (RL.fa fa_132_0 rfl (RL.store (vs:= [_]) sizeOf130 rfl rfl uE ?_))
       refine RL.ns (CW.ok [] rfl (CW.sr (RL.pn rfl (CW.rr ?_))))
       refine RQ.rea (fun _ h=> h) (H':= [cel y [slO ob3 (0+(i - 0)+1+(R.length - i)) cap3] 132,own ob3 cap3 150 35 (0+(i - 0)+1+(R.length - i)) ([]++rcs (R.take i)++One.rc ⟨n,k,1, -1,0⟩++rcs (R.drop i))]) rE (RQ.pp (res1 rfl rfl) (.keep (.keep .nil)) ⟨rfl,rfl,ob3,cap3,rput_fin hi hins y ob3 cap3⟩)
      ·
       refine RL.buildSlice (One.rc ⟨n,k,1, -1,0⟩) runUnderlying130 sizeOf150 zeroValue150 rfl rfl zc zc rfl (fill_one35 (rc_len hk) rfl) ?_
       intro b3
       refine RL.appendA el_130 rfl za (hs1 mQ) (ones_rcs _) zd zd ?_
       intro ob1 cap1 ho1
       refine RL.appendA el_130 rfl za (Src.cel mQ (rc_len hk)) (ones_rc _) zd zd ?_
       intro ob2 cap2 ho2
       refine RL.appendA el_130 rfl za (hs2 mQ) (ones_rcs _) zd zd ?_
       intro ob3 cap3 ho3
       refine RL.p rfl (RL.fa fa_132_0 rfl (RL.store (vs:= [_]) sizeOf130 rfl rfl uE ?_))
       refine RL.ns (CW.ok [] rfl (CW.sr (RL.pn rfl (CW.rr ?_))))
       refine RQ.rea (fun _ h=> h) (H':= [cel y [slO ob3 (0+(i - 0)+1+(R.length - i)) cap3] 132,own ob3 cap3 150 35 (0+(i - 0)+1+(R.length - i)) ([]++rcs (R.take i)++One.rc ⟨n,k,1, -1,0⟩++rcs (R.drop i))]) rE (RQ.pp (res1 rfl rfl) (.keep (.keep .nil)) ⟨rfl,rfl,ob3,cap3,rput_fin hi hins y ob3 cap3⟩)
    ·
     refine RL.buildSlice (One.rc ⟨n,k,1, -1,0⟩) runUnderlying130 sizeOf150 zeroValue150 rfl rfl zc zc rfl (fill_one35 (rc_len hk) rfl) ?_
     intro b3
     refine RL.fork ⟨?_, ?_,trivial⟩
     ·
      refine RL.buildOwn [] runUnderlying130 sizeOf150 zeroValue150 rfl rfl zc zc rfl zc rfl ?_
      intro b2
      refine RL.fork ⟨?_, ?_,trivial⟩
      ·
       refine RL.appendA el_130 rfl za (hs1 mQ) (ones_rcs _) zd zd ?_
       intro ob1 cap1 ho1
       refine RL.fork ⟨?_, ?_,trivial⟩
       ·
        refine RL.appendA el_130 rfl za (Src.cel mQ (rc_len hk)) (ones_rc _) zd zd ?_
        intro ob2 cap2 ho2
        refine RL.lq isAgg130 rfl ?_
        refine RL.slice (lo:=i) (hi:=R.length) runUnderlying130 sizeOf150 rfl rfl rfl zb zb ?_
        refine RL.appendA el_130 rfl za (hs2 mQ) (ones_rcs _) zd zd ?_
        intro ob3 cap3 ho3
        refine RL.p rfl (RL.fa fa_132_0 rfl (RL.store (vs:= [_]) sizeOf130 rfl rfl uE ?_))
        refine RL.ns (CW.ok [] rfl (CW.sr (RL.pn rfl (CW.rr ?_))))
        refine RQ.rea (fun _ h=> h) (H':= [cel y [slO ob3 (0+(i - 0)+1+(R.length - i)) cap3] 132,own ob3 cap3 150 35 (0+(i - 0)+1+(R.length - i)) ([]++rcs (R.take i)++One.rc ⟨n,k,1, -1,0⟩++rcs (R.drop i))]) rE (RQ.pp (res1 rfl rfl) (.keep (.keep .nil)) ⟨rfl,rfl,ob3,cap3,rput_fin hi hins y ob3 cap3⟩)
       ·
        refine RL.lq isAgg130 rfl ?_
        refine RL.slice (lo:=i) (hi:=R.length) runUnderlying130 sizeOf150 rfl rfl rfl zb zb ?_
        refine RL.appendA el_130 rfl za (Src.cel mQ (rc_len hk)) (ones_rc _) zd zd ?_
        intro ob2 cap2 ho2
        refine RL.appendA el_130 rfl za (hs2 mQ) (ones_rcs _) zd zd ?_
        intro ob3 cap3 ho3
        refine RL.p rfl (RL.fa fa_132_0 rfl (RL.store (vs:= [_]) sizeOf130 rfl rfl uE ?_))
        refine RL.ns (CW.ok [] rfl (CW.sr (RL.pn rfl (CW.rr ?_))))
        refine RQ.rea (fun _ h=> h) (H':= [cel y [slO ob3 (0+(i - 0)+1+(R.length - i)) cap3] 132,own ob3 cap3 150 35 (0+(i - 0)+1+(R.length - i)) ([]++rcs (R.take i)++One.rc ⟨n,k,1, -1,0⟩++rcs (R.drop i))]) rE (RQ.pp (res1 rfl rfl) (.keep (.keep .nil)) ⟨rfl,rfl,ob3,cap3,rput_fin hi hins y ob3 cap3⟩)
      ·
       refine RL.lq isAgg130 rfl ?_
       refine RL.slice (lo:=i) (hi:=R.length) runUnderlying130 sizeOf150 rfl rfl rfl zb zb ?_
       refine RL.appendA el_130 rfl za (hs1 mQ) (ones_rcs _) zd zd ?_
       intro ob1 cap1 ho1
       refine RL.appendA el_130 rfl za (Src.cel mQ (rc_len hk)) (ones_rc _) zd zd ?_
       intro ob2 cap2 ho2
       refine RL.appendA el_130 rfl za (hs2 mQ) (ones_rcs _) zd zd ?_
       intro ob3 cap3 ho3
       refine RL.p rfl (RL.fa fa_132_0 rfl (RL.store (vs:= [_]) sizeOf130 rfl rfl uE ?_))
       refine RL.ns (CW.ok [] rfl (CW.sr (RL.pn rfl (CW.rr ?_))))
       refine RQ.rea (fun _ h=> h) (H':= [cel y [slO ob3 (0+(i - 0)+1+(R.length - i)) cap3] 132,own ob3 cap3 150 35 (0+(i - 0)+1+(R.length - i)) ([]++rcs (R.take i)++One.rc ⟨n,k,1, -1,0⟩++rcs (R.drop i))]) rE (RQ.pp (res1 rfl rfl) (.keep (.keep .nil)) ⟨rfl,rfl,ob3,cap3,rput_fin hi hins y ob3 cap3⟩)
     ·
      refine RL.lq isAgg130 rfl ?_
      refine RL.slice (lo:=i) (hi:=R.length) runUnderlying130 sizeOf150 rfl rfl rfl zb zb ?_
      refine RL.buildOwn [] runUnderlying130 sizeOf150 zeroValue150 rfl rfl zc zc rfl zc rfl ?_
      intro b2
      refine RL.appendA el_130 rfl za (hs1 mQ) (ones_rcs _) zd zd ?_
      intro ob1 cap1 ho1
      refine RL.appendA el_130 rfl za (Src.cel mQ (rc_len hk)) (ones_rc _) zd zd ?_
      intro ob2 cap2 ho2
      refine RL.appendA el_130 rfl za (hs2 mQ) (ones_rcs _) zd zd ?_
      intro ob3 cap3 ho3
      refine RL.p rfl (RL.fa fa_132_0 rfl (RL.store (vs:= [_]) sizeOf130 rfl rfl uE ?_))
      refine RL.ns (CW.ok [] rfl (CW.sr (RL.pn rfl (CW.rr ?_))))
      refine RQ.rea (fun _ h=> h) (H':= [cel y [slO ob3 (0+(i - 0)+1+(R.length - i)) cap3] 132,own ob3 cap3 150 35 (0+(i - 0)+1+(R.length - i)) ([]++rcs (R.take i)++One.rc ⟨n,k,1, -1,0⟩++rcs (R.drop i))]) rE (RQ.pp (res1 rfl rfl) (.keep (.keep .nil)) ⟨rfl,rfl,ob3,cap3,rput_fin hi hins y ob3 cap3⟩)
    ·
     refine RL.lq isAgg130 rfl ?_
     refine RL.slice (lo:=i) (hi:=R.length) runUnderlying130 sizeOf150 rfl rfl rfl zb zb ?_
     refine RL.fork ⟨?_, ?_,trivial⟩
     ·
      refine RL.buildOwn [] runUnderlying130 sizeOf150 zeroValue150 rfl rfl zc zc rfl zc rfl ?_
      intro b2
      refine RL.fork ⟨?_, ?_,trivial⟩
      ·
       refine RL.appendA el_130 rfl za (hs1 mQ) (ones_rcs _) zd zd ?_
       intro ob1 cap1 ho1
       refine RL.buildSlice (One.rc ⟨n,k,1, -1,0⟩) runUnderlying130 sizeOf150 zeroValue150 rfl rfl zc zc rfl (fill_one35 (rc_len hk) rfl) ?_
       intro b3
       refine RL.appendA el_130 rfl za (Src.cel mQ (rc_len hk)) (ones_rc _) zd zd ?_
       intro ob2 cap2 ho2
       refine RL.appendA el_130 rfl za (hs2 mQ) (ones_rcs _) zd zd ?_
       intro ob3 cap3 ho3
       refine RL.p rfl (RL.fa fa_132_0 rfl (RL.store (vs:= [_]) sizeOf130 rfl rfl uE ?_))
       refine RL.ns (CW.ok [] rfl (CW.sr (RL.pn rfl (CW.rr ?_))))
       refine RQ.rea (fun _ h=> h) (H':= [cel y [slO ob3 (0+(i - 0)+1+(R.length - i)) cap3] 132,own ob3 cap3 150 35 (0+(i - 0)+1+(R.length - i)) ([]++rcs (R.take i)++One.rc ⟨n,k,1, -1,0⟩++rcs (R.drop i))]) rE (RQ.pp (res1 rfl rfl) (.keep (.keep .nil)) ⟨rfl,rfl,ob3,cap3,rput_fin hi hins y ob3 cap3⟩)
      ·
       refine RL.buildSlice (One.rc ⟨n,k,1, -1,0⟩) runUnderlying130 sizeOf150 zeroValue150 rfl rfl zc zc rfl (fill_one35 (rc_len hk) rfl) ?_
       intro b3
       refine RL.appendA el_130 rfl za (hs1 mQ) (ones_rcs _) zd zd ?_
       intro ob1 cap1 ho1
       refine RL.appendA el_130 rfl za (Src.cel mQ (rc_len hk)) (ones_rc _) zd zd ?_
       intro ob2 cap2 ho2
       refine RL.appendA el_130 rfl za (hs2 mQ) (ones_rcs _) zd zd ?_
       intro ob3 cap3 ho3
       refine RL.p rfl (RL.fa fa_132_0 rfl (RL.store (vs:= [_]) sizeOf130 rfl rfl uE ?_))
       refine RL.ns (CW.ok [] rfl (CW.sr (RL.pn rfl (CW.rr ?_))))
       refine RQ.rea (fun _ h=> h) (H':= [cel y [slO ob3 (0+(i - 0)+1+(R.length - i)) cap3] 132,own ob3 cap3 150 35 (0+(i - 0)+1+(R.length - i)) ([]++rcs (R.take i)++One.rc ⟨n,k,1, -1,0⟩++rcs (R.drop i))]) rE (RQ.pp (res1 rfl rfl) (.keep (.keep .nil)) ⟨rfl,rfl,ob3,cap3,rput_fin hi hins y ob3 cap3⟩)
     ·
      refine RL.buildSlice (One.rc ⟨n,k,1, -1,0⟩) runUnderlying130 sizeOf150 zeroValue150 rfl rfl zc zc rfl (fill_one35 (rc_len hk) rfl) ?_
      intro b3
      refine RL.buildOwn [] runUnderlying130 sizeOf150 zeroValue150 rfl rfl zc zc rfl zc rfl ?_
      intro b2
      refine RL.appendA el_130 rfl za (hs1 mQ) (ones_rcs _) zd zd ?_
      intro ob1 cap1 ho1
      refine RL.appendA el_130 rfl za (Src.cel mQ (rc_len hk)) (ones_rc _) zd zd ?_
      intro ob2 cap2 ho2
      refine RL.appendA el_130 rfl za (hs2 mQ) (ones_rcs _) zd zd ?_
      intro ob3 cap3 ho3
      refine RL.p rfl (RL.fa fa_132_0 rfl (RL.store (vs:= [_]) sizeOf130 rfl rfl uE ?_))
      refine RL.ns (CW.ok [] rfl (CW.sr (RL.pn rfl (CW.rr ?_))))
      refine RQ.rea (fun _ h=> h) (H':= [cel y [slO ob3 (0+(i - 0)+1+(R.length - i)) cap3] 132,own ob3 cap3 150 35 (0+(i - 0)+1+(R.length - i)) ([]++rcs (R.take i)++One.rc ⟨n,k,1, -1,0⟩++rcs (R.drop i))]) rE (RQ.pp (res1 rfl rfl) (.keep (.keep .nil)) ⟨rfl,rfl,ob3,cap3,rput_fin hi hins y ob3 cap3⟩)
  ·
   have hat:atI R s=(i:Int):=by rw [atI,h1]
   rw [if_pos hm,if_pos hm,h3]
   dsimp only
   refine CW.sn (CW.ss (CW.sr (RL.q rfl (RL.vq (rat_any y R ob cp s hR zb) call55 rfl ?_))))
   refine RL.pn rfl (CW.ok [0,1,5,6,14] rfl (CW.cT rfl ((by rw [hat];simp)) ?_))
   refine CW.sr (RL.pn rfl (CW.rr (RQ.ss ?_)))
   exact RQ.pp (res1 rfl rfl) (.drop (.keep (.keep .nil))) ⟨rfl,rfl,ob,cp,rfl⟩
theorem u32_back {n k:Nat} (h:n < 4294967296) (hk:k≤n):IntKind.u32.wrap ((n:Int) - (k:Int))=((n - k:Nat):Int):=by
 simp [IntKind.wrap,IntKind.bits,IntKind.signed];omega
def rputA (R:List One) (s:Int) (k:List B8):List One:=if mayB s=true then (match atO R s with
 | none=> rputR R s k
 | some _=> R) else R
def rputE (R:List One) (s:Int):Int:=if mayB s=true then (match atO R s with
 | none=> 0
 | some _=> 6) else 2
def rgoesB (o:One) (e:Nat) (t:Int):Bool:=e==o.e || (e+1==o.e && decide (0 < e) && decide (t≤o.g))
def rkeyM (R:List One) (s:Int) (e:Nat) (t:Int):List B8×Int:=if tickB t=true∧mayB s=true then match atO R s with
 | none=> (zeros,5)
 | some o=> if rgoesB o e t=true then (deriveK o.k epochL e,0) else (zeros,160) else (zeros,2)
theorem rkeyM_len (R:List One) (s:Int) (e:Nat) (t:Int):(rkeyM R s e t).1.length=32:=by
 unfold rkeyM
 split
 ·split
  ·rfl
  ·split
   ·exact derive_len _ _ _
   ·rfl
 ·rfl
theorem ones_of:∀ {l:List Value},(∀u∈l,u.oneCell'=true)→ones l=true
 | [],_=> rfl
 | a::l,h=> by
  have h1:=h a zm
  have h2:=ones_of (l:=l) (fun u hu=> h u (by simp [hu]))
  simp [ones,h1,h2]
theorem rc_k (o:One):∀(j:Nat) (u:Value),(bytes o.k)[j]? =some u→o.rc[0+1+j]? =some u:=fun j u hj=> by
 have hlt:=(List.getElem?_eq_some_iff.1 hj).1
 rw [show 0+1+j=j+1 by omega,One.rc,List.getElem?_cons_succ,List.getElem?_append_left hlt];exact hj
theorem rc_rdsN {I:List It} {R:List One} {ba cp i:Nat} {o:One} {e:TypeId} (h:ROk R) (hm:own (some ba) cp e 35 R.length (rcs R)∈I) (hi:R[i]? =some o):RdsN I ⟨ba,0+i*35,none⟩ 35 o.rc:=
 ⟨fun _ w hw j u hj=> by
  have hlt:j < 35:=by have:=(List.getElem?_eq_some_iff.1 hj).1;rwa [rc_len (h o (List.mem_of_getElem? hi))] at this
  have this:w.cell? ((⟨ba,0,none⟩:Addr).add (i*35+j))=some u:=(own_sls (hw.i _ hm)).2.2 (i*35+j) u (by have:=rc_at h hi j u hj;rwa [Nat.zero_add] at this)
  rw [add_none] at this ⊢
  rw [Nat.add_assoc];exact this,rc_len (h o (List.mem_of_getElem? hi))⟩
theorem rkey_any (y:Nat) (R:List One) (ob:Option Nat) (cp:Nat) (s:Int) (e:Nat) (t:Int) (hR:ROk R) (he1:∀o∈R,1≤o.e) (he2:∀o∈R,o.e < 4294967296) (he:e < 4294967296) (hl:R.length≤1000000):
  Spc prog 95 #[.pointer (some ⟨y,0,none⟩), .int .i64 s, .int .u32 (e:Int), .int .i64 t] (RefK y R ob cp) [] (Is (.tuple #[.agg (bytes (rkeyM R s e t).1).toArray, .int .i64 (rkeyM R s e t).2])):=by
 refine Spc.en func95 rfl rfl (fun w0 hw0=> ?_)
 refine CW.sg [0] [] (RL.al (cs:=List.replicate 32 (U8 0#8)) zeroValue31 rfl ?_)
 intro b1
 refine RL.pn rfl (CW.ss (CW.sr (RL.p rfl (RL.vq (rmay_any s) call53 rfl ?_))))
 refine RL.q rfl ?_
 apply RL.orB (d:=15) (dp:=19) (l':=(Sq.of [])) rfl (sK [0,1,2,3,8,9] rfl)
 ·
  intro hb4 K4
  refine RL.p rfl (RL.vq (rktick_any t) call54 rfl ?_)
  refine RL.q rfl ?_
  exact K4 _ (.cons rfl (sK [0,1,2,3,8,9] rfl))
 ·
  intro hb4 K4
  refine RL.q rfl (RL.q rfl ?_)
  exact K4 _ (.cons rfl (sK [0,1,2,3,8,9] rfl))
 refine RL.ns ?_
 refine CW.cd rfl (fun hm=> ?_) (fun hm=> ?_)
 ·
  refine CW.sg [1] [1] (RL.buildA (List.replicate 32 (U8 0#8)) zeroValue31 runUnderlying31 sizeOf5 rfl (RL.sq sizeOf31 rfl ?_))
  refine RL.pn rfl (CW.rr (RQ.ss ?_))
  have hm: ¬(tickB t=true∧mayB s=true):=by
   rintro ⟨e1,e2⟩;simp [e1,e2] at hm
  exact RQ.pp (resWT rfl rfl rfl isAgg31 sizeOf31 mQ rfl) (Split.nn _) ⟨by rw [rkeyM,if_neg hm];rfl,rfl,rfl⟩
 ·
  have hm:tickB t=true∧mayB s=true:=by simp at hm;simp [hm]
  rcases atN_spec R s with ⟨h1,h2⟩ | ⟨i,o,h1,h2,h3⟩
  ·have hat:atI R s= -1:=by rw [atI,h1]
   refine CW.sn (CW.sr (RL.q rfl (RL.vq (rat_any y R ob cp s hR hl) call55 rfl ?_)))
   refine RL.pn rfl (CW.ok [0,2,3,8,10] rfl (CW.s2 ?_))
   rw [hat]
   refine CW.rg (RL.qn rfl (CW.cT rfl (zm) ?_))
   refine CW.sg [1] [1] (RL.buildA (List.replicate 32 (U8 0#8)) zeroValue31 runUnderlying31 sizeOf5 rfl (RL.sq sizeOf31 rfl ?_))
   refine RL.pn rfl (CW.rr (RQ.ss ?_))
   exact RQ.pp (resWT rfl rfl rfl isAgg31 sizeOf31 mQ rfl) (Split.nn _) ⟨by rw [rkeyM,if_pos hm,h2];rfl,rfl,rfl⟩
  ·
   have hat:atI R s=(i:Int):=by rw [atI,h1]
   have hlt:i < R.length:=(List.getElem?_eq_some_iff.1 h2).1
   have hmo:=List.mem_of_getElem? h2
   have hk:=hR o hmo
   have hrl:=rc_len hk
   have hdl:=derive_len o.k epochL e
   refine CW.ff (p:=ob=none→R.length=0) (fun w hC e=> by
    have:=own_sls (hC.s.i (own ob cp 150 35 R.length (rcs R)) mQ)
    exact sls_nil this (by rw [e];rfl)) (fun hpa=> ?_)
   refine CW.sn (CW.sr (RL.q rfl (RL.vq (rat_any y R ob cp s hR hl) call55 rfl ?_)))
   refine RL.pn rfl (CW.ok [0,2,3,8,10] rfl (CW.s2 ?_))
   rw [hat]
   cases ob with
   | none=> exact absurd (hpa rfl) zb
   | some ba=>
   have q:RdsN (RefK y R (some ba) cp) ⟨ba,0+i*35,none⟩ 35 o.rc:=rc_rdsN hR (show own (some ba) cp 150 35 R.length (rcs R)∈RefK y R (some ba) cp from mQ) h2
   have hw:IntKind.u32.wrap ((o.e:Int) - 1)=((o.e - 1:Nat):Int):=u32_back (k:=1) (he2 o hmo) (he1 o hmo)
   have h1e:=he1 o hmo
   have g1:o.rc[0+33]? =some (.int .u32 (o.e:Int)):=rc_e hk
   have g2:o.rc[0+34]? =some (.int .i64 o.g):=rc_g hk
   refine CW.rg (RL.qn rfl (CW.cF rfl (zm) ?_))
   refine CW.sn (CW.sg [7,8] [8] (RL.q rfl (RL.fa fa_132_0 rfl (RL.lq isAgg130 rfl ?_))))
   refine RL.p rfl (RL.ix (j:=i) runUnderlying130 sizeOf150 rfl (hlt) (RL.lS isAgg150 sizeOf150 rfl ?_))
   refine RL.al zeroValue150 rfl ?_
   intro b2
   refine RL.sW sizeOf150 rfl (ones_of (ones_rc o)) uE hrl rfl ?_
   refine RL.ns (CW.ok [2,3,8,11] rfl (CW.ss (CW.sr (RL.p rfl (RL.fa fa_150_2 rfl (RL.lq isAgg61 rfl ?_))))))
   refine RL.q rfl ?_
   apply RL.orB (d:=38) (dp:=54) (l':=(Sq.of [])) rfl (sK [2,8,11] rfl)
   ·
    intro hb5 K5
    refine RL.p rfl (RL.fa fa_150_2 rfl (RL.lq isAgg61 rfl ?_))
    refine RL.q rfl (RL.p rfl ?_)
    apply RL.andB (d:=44) (dp:=47) (l':=(Sq.of [14,15,16,17,18,19,20])) rfl (sK [2,3,8,11,38] rfl)
    ·
     intro hb11 K11
     refine RL.q rfl (RL.p rfl ?_)
     exact K11 _ (.cons rfl (sK [2,3,8,11,38] rfl))
    ·
     intro hb11 K11
     refine RL.q rfl (RL.p rfl ?_)
     exact K11 _ (.cons rfl (sK [2,3,8,11,38] rfl))
    refine RL.p rfl ?_
    apply RL.andB (d:=48) (dp:=53) (l':=(Sq.of [20])) rfl (sK [2,8,11,38] rfl)
    ·
     intro hb15 K15
     refine RL.p rfl (RL.fa fa_150_3 rfl (RL.lq isAgg3 rfl ?_))
     refine RL.q rfl ?_
     exact K15 _ (.cons rfl (sK [2,8,11,38] rfl))
    ·
     intro hb15 K15
     refine RL.q rfl (RL.q rfl (RL.p rfl ?_))
     exact K15 _ (.cons rfl (sK [2,8,11,38] rfl))
    refine RL.p rfl ?_
    exact K5 _ (.cons rfl (sK [2,8,11] rfl))
   ·
    intro hb5 K5
    refine RL.q rfl (RL.q rfl (RL.q rfl (RL.q rfl (RL.q rfl (RL.q rfl (RL.q rfl ?_))))))
    refine RL.q rfl ?_
    exact K5 _ (.cons rfl (sK [2,8,11] rfl))
   refine RL.ns ?_
   rw [hw]
   refine CW.cd rfl (fun hg=> ?_) (fun hg=> ?_)
   ·
    refine CW.sg [5] [5] (RL.fa fa_150_1 rfl ?_)
    have hg:rgoesB o e t=true:=by simp [rgoesB] at hg ⊢;omega
    refine RL.loadA isAgg31 sizeOf31 rfl rfl (vs:=bytes o.k) (Rds.cel mQ (rc_k o)) (by rw [List.length_map,hk]) ?_
    refine RL.p rfl (RL.conv runUnderlying61 runUnderlying32 rfl (RL.vq (rderive_w o.k hk epochL zc e he) call136 rfl ?_))
    refine RL.sq sizeOf31 rfl ?_
    refine RL.pn rfl (CW.ok [8,9] rfl (CW.rr (RQ.ss ?_)))
    exact RQ.pp (resWT rfl rfl rfl isAgg31 sizeOf31 mQ (by first | rfl | assumption | (simp only [List.length_map];assumption) | (simp only [List.length_map,List.length_replicate,hrl,hdl];done) | (simp;done))) (Split.nn _) ⟨by rw [rkeyM,if_pos hm,h3];dsimp only;rw [if_pos hg],rfl,rfl⟩
   ·
    refine CW.sn (CW.sg [1] [1] (RL.buildA (List.replicate 32 (U8 0#8)) zeroValue31 runUnderlying31 sizeOf5 rfl (RL.sq sizeOf31 rfl ?_)))
    refine RL.pn rfl (CW.rr ?_)
    have hg: ¬rgoesB o e t=true:=by simp [rgoesB] at hg ⊢;omega
    exact RQ.pp (resWT rfl rfl rfl isAgg31 sizeOf31 mQ rfl) (Split.nn _) ⟨by rw [rkeyM,if_pos hm,h3];dsimp only;rw [if_neg hg];rfl,rfl,rfl⟩
def mkV (p:Nat×Nat):Value:= .agg #[.int .u32 (p.1:Int), .int .u64 (p.2:Int)]
abbrev Marks:=Int→Option (Nat×Nat)
def gtB (p q:Nat×Nat):Bool:=if p.1≠q.1 then decide (p.1 > q.1) else decide (p.2 > q.2)
def mmay (M:Marks) (s:Int) (p:Nat×Nat):Int:=if mayB s=true then (match M s with
 | some q=> if gtB p q=true then 0 else 170
 | none=> 0) else 2
def updM (M:Marks) (s:Int) (p:Nat×Nat):Marks:=fun s'=> if s'=s then some p else M s'
def takeM (M:Marks) (s:Int) (p:Nat×Nat):Marks:=if mmay M s p=0 then updM M s p else M
def mc (p:Nat×Nat):List Value:= [.int .u32 (p.1:Int), .int .u64 (p.2:Int)]
def tC (ms:List (Nat×Nat)) (hs:List Bool):List Value:=ms.flatMap mc++hs.map .bool
def msOf (M:Marks):List (Nat×Nat):=(List.range 8).map fun i:Nat=> (M (i:Int)).getD (0,0)
def hsOf (M:Marks):List Bool:=(List.range 8).map fun i:Nat=> (M (i:Int)).isSome
abbrev rtI (tb:Nat) (M:Marks):It:=cel tb (tC (msOf M) (hsOf M)) 138
theorem msOf_len (M:Marks):(msOf M).length=8:=by simp [msOf]
theorem hsOf_len (M:Marks):(hsOf M).length=8:=by simp [hsOf]
theorem msOf_get {M:Marks} {n:Nat} (h:n < 8):(msOf M)[n]? =some ((M (n:Int)).getD (0,0)):=by simp [msOf,h]
theorem hsOf_get {M:Marks} {n:Nat} (h:n < 8):(hsOf M)[n]? =some (M (n:Int)).isSome:=by simp [hsOf,h]
theorem msOf_set (M:Marks) {n:Nat} (p:Nat×Nat):(msOf M).set n p=msOf (updM M (n:Int) p):=by
 unfold msOf
 exact set_range (f':=fun i=> (updM M (n:Int) p (i:Int)).getD (0,0)) (fun q hq=> by rw [updM,if_neg zb]) (by rw [updM,if_pos rfl];rfl)
theorem hsOf_set (M:Marks) {n:Nat} (p:Nat×Nat):(hsOf M).set n true=hsOf (updM M (n:Int) p):=by
 unfold hsOf
 exact set_range (f':=fun i=> (updM M (n:Int) p (i:Int)).isSome) (fun q hq=> by rw [updM,if_neg zb]) (by rw [updM,if_pos rfl];rfl)
theorem mc_len (ms:List (Nat×Nat)):(ms.flatMap mc).length=ms.length*2:=length_flat (fun _ _=> rfl)
theorem tC_len (ms:List (Nat×Nat)) (hs:List Bool):(tC ms hs).length=ms.length*2+hs.length:=by rw [tC,List.length_append,mc_len,List.length_map]
theorem tC_has {ms:List (Nat×Nat)} {hs:List Bool} (h8:ms.length=8) {n:Nat} {b:Bool} (hb:hs[n]? =some b):(tC ms hs)[0+16+n*1]? =some (.bool b):=by
 rw [show 0+16+n*1=16+n by omega,tC,List.getElem?_append_right (by rw [mc_len];omega),mc_len,h8,show 16+n - 8*2=n by omega,List.getElem?_map,hb];rfl
theorem tC_mkI {I:List It} {H:List It} {tb:Nat} {T:TypeId} {ms:List (Nat×Nat)} {hs:List Bool} {n:Nat} {p:Nat×Nat} (hp:ms[n]? =some p) (hm:cel tb (tC ms hs) T∈I):Rds I H ⟨tb,0+0+n*2,none⟩ [.int .u32 (p.1:Int), .int .u64 (p.2:Int)]:=
 Rds.celI hm (fun j u hj=> by
  have hlt:j < 2:=(List.getElem?_eq_some_iff.1 hj).1
  have h1:=get_flat (f:=mc) (n:=2) (fun _ _=> rfl) hp hlt
  have h2:n*2+j < (ms.flatMap mc).length:=by rw [mc_len];have:=(List.getElem?_eq_some_iff.1 hp).1;omega
  rw [show 0+0+n*2+j=n*2+j by omega,tC,List.getElem?_append_left h2,h1];exact hj)
theorem tC_setM {ms:List (Nat×Nat)} {hs:List Bool} {n:Nat} (hn:n < ms.length) (a b:Nat):spl (tC ms hs) (0+0+n*2) [.int .u32 (a:Int), .int .u64 (b:Int)]=tC (ms.set n (a,b)) hs:=by
 obtain ⟨A,B,x,e,hA⟩:∃A B x,ms=A++x::B∧A.length=n:=⟨ms.take n,ms.drop (n+1),ms[n],by rw [←List.drop_eq_getElem_cons hn,List.take_append_drop],by rw [List.length_take];omega⟩
 subst e
 have e1:tC (A++x::B) hs=A.flatMap mc++(mc x++(B.flatMap mc++hs.map .bool)):=by simp [tC]
 have e2:tC ((A++x::B).set n (a,b)) hs=A.flatMap mc++(mc (a,b)++(B.flatMap mc++hs.map .bool)):=by subst hA;simp [tC]
 rw [e1,e2]
 exact seg_spl (B:=mc x) (B':=mc (a,b)) (by rw [mc_len,hA];omega) rfl
theorem tC_setH {ms:List (Nat×Nat)} {hs:List Bool} (h8:ms.length=8) {n:Nat} (hn:n < hs.length) (b:Bool):spl (tC ms hs) (0+16+n*1) [.bool b]=tC ms (hs.set n b):=by
 have hl:(ms.flatMap mc).length=16:=by rw [mc_len,h8]
 rw [tC,tC,show 0+16+n*1=(ms.flatMap mc).length+n by rw [hl];omega,spl_app,spl_set (by rw [List.length_map];exact hn),List.map_set]
theorem r17may_any (s:Int):Spc prog 166 #[.int .i64 s] [] [] (Is (.bool (mayB s))):=by
 refine Spc.en func166 rfl rfl (fun w0 hw0=> ?_)
 refine CW.sr (RL.pn rfl (CW.sr (RL.q rfl (RL.p rfl ?_))))
 apply RL.andB (d:=5) (dp:=8) (l':=(Sq.of [6])) rfl (sK [2] rfl)
 ·
  intro hb3 K3
  refine RL.q rfl (RL.p rfl ?_)
  exact K3 _ (.cons rfl (sK [2] rfl))
 ·
  intro hb3 K3
  refine RL.q rfl (RL.p rfl ?_)
  exact K3 _ (.cons rfl (sK [2] rfl))
 refine RL.pn rfl (CW.rr ?_)
 exact RQ.pp (res1 rfl rfl) (Split.nn _) ⟨rfl,rfl,rfl⟩
theorem rgreater_any (p q:Nat×Nat):Spc prog 167 #[mkV p,mkV q] [] [] (Is (.bool (gtB p q))):=by
 obtain ⟨a,b⟩:=p
 obtain ⟨c,d⟩:=q
 refine Spc.en func167 rfl rfl (fun w0 hw0=> ?_)
 refine CW.sg [0,1] [] (RL.box rfl ?_)
 intro b1
 refine RL.box rfl ?_
 intro b2
 refine RL.pn rfl (CW.sr (RL.fa fa_134_0 rfl (RL.lq isAgg61 rfl ?_)))
 refine RL.fa fa_134_0 rfl (RL.lq isAgg61 rfl ?_)
 refine RL.q rfl ?_
 apply RL.orB (d:=10) (dp:=23) (l':=(Sq.of [19])) rfl (sK [4] rfl)
 ·
  intro hb6 K6
  refine RL.fa fa_134_0 rfl (RL.lq isAgg61 rfl ?_)
  refine RL.fa fa_134_0 rfl (RL.lq isAgg61 rfl ?_)
  refine RL.q rfl ?_
  apply RL.andB (d:=16) (dp:=22) (l':=(Sq.of [18,19])) rfl (sK [4,10] rfl)
  ·
   intro hb12 K12
   refine RL.fa fa_134_1 rfl (RL.lq isAgg32 rfl ?_)
   refine RL.fa fa_134_1 rfl (RL.lq isAgg32 rfl ?_)
   refine RL.q rfl ?_
   exact K12 _ (.cons rfl (sK [4,10] rfl))
  ·
   intro hb12 K12
   refine RL.q rfl (RL.q rfl (RL.q rfl ?_))
   exact K12 _ (.cons rfl (sK [4,10] rfl))
  refine RL.p rfl ?_
  exact K6 _ (.cons rfl (sK [4] rfl))
 ·
  intro hb6 K6
  refine RL.q rfl (RL.q rfl (RL.q rfl (RL.q rfl (RL.q rfl (RL.q rfl (RL.p rfl ?_))))))
  exact K6 _ (.cons rfl (sK [4] rfl))
 refine RL.pn rfl (CW.rr ?_)
 exact RQ.pp (res1 rfl rfl) (Split.nn _) ⟨by
  congr 1
  rw [Bool.eq_iff_iff]
  by_cases h:a=c
  ·subst h;simp [gtB]
  ·have h': ¬(a:Int)=(c:Int):=by omega
   simp [gtB,h,h'],rfl,rfl⟩
theorem rtMay_any (tb:Nat) (M:Marks) (s:Int) (p:Nat×Nat):Spc prog 139 #[.pointer (some ⟨tb,0,none⟩), .int .i64 s,mkV p] [rtI tb M] [] (Is (.int .i64 (mmay M s p))):=by
 obtain ⟨a,b⟩:=p
 by_cases hm:mayB s=true
 ·obtain ⟨n,rfl⟩:∃n:Nat,s=(n:Int):=⟨s.toNat,by simp [mayB] at hm;omega⟩
  have h8:n < 8:=by simp [mayB] at hm;omega
  have g1:=tC_has (msOf_len M) (hsOf_get (M:=M) h8)
  refine Spc.en func139 rfl rfl (fun w0 hw0=> ?_)
  refine CW.sg [0] [] (RL.box rfl ?_)
  intro b1
  refine RL.pn rfl (CW.ss (CW.sr (RL.p rfl (RL.vq (r17may_any (n:Int)) call166 rfl ?_))))
  refine RL.pn rfl (CW.cF rfl ((by rw [hm];rfl)) ?_)
  refine CW.sn (CW.s2 (CW.rD (Sq.of (rg 0 16)) [] [] [0,1,2,3,4,6,8,9,10,11,12,15,16] mixed zi ?_))
  refine RL.q rfl (RL.p rfl (RL.fa fa_138_1 rfl (RL.iA (j:=n) runUnderlying136 sizeOf4 rfl h8 (RL.lq isAgg4 rfl ?_))))
  refine RL.p rfl ?_
  apply RL.andB (d:=16) (dp:=26) (l':=(Sq.of [])) rfl (sK [6] rfl)
  ·
   intro hb7 K7
   refine RL.ld (vs:= [_,_]) isAgg134 sizeOf134 rfl ze ?_
   refine RL.q rfl (RL.p rfl (RL.fa fa_138_0 rfl (RL.iA (j:=n) runUnderlying135 sizeOf134 rfl h8 (RL.ld (vs:= [_,_]) isAgg134 sizeOf134 rfl (tC_mkI (msOf_get h8) mQ) ?_))))
   refine RL.vq (rgreater_any (a,b) ((M (n:Int)).getD (0,0))) call167 rfl ?_
   refine RL.q rfl ?_
   exact K7 _ (.cons rfl (sK [6] rfl))
  ·
   intro hb7 K7
   refine RL.q rfl (RL.q rfl (RL.q rfl (RL.q rfl (RL.q rfl ?_))))
   exact K7 _ (.cons rfl (sK [6] rfl))
  refine RL.ns ?_
  refine CW.cd rfl (fun h=> ?_) (fun h=> ?_)
  ·
   refine CW.sr (RL.pn rfl (CW.rr (RQ.ss ?_)))
   have h:(M (n:Int)).isSome=true∧¬gtB (a,b) ((M (n:Int)).getD (0,0))=true:=by simpa using h
   obtain ⟨q,hq⟩:=Option.isSome_iff_exists.1 h.1
   have h2:=h.2
   rw [hq] at h2
   have h2: ¬gtB (a,b) q=true:=h2
   exact RQ.pp (res1 rfl rfl) (Split.nn _) ⟨by rw [mmay,if_pos hm,hq];dsimp only;rw [if_neg h2],rfl,rfl⟩
  ·
   refine CW.sn (CW.sr (RL.pn rfl (CW.rr ?_)))
   have hk:mmay M (n:Int) (a,b)=0:=by
    rw [mmay,if_pos hm]
    cases hq:M (n:Int) with
    | none=> rfl
    | some q=>
     rw [hq] at h
     have h:gtB (a,b) q=true:=by simpa using h
     dsimp only;rw [if_pos h]
   exact RQ.pp (res1 rfl rfl) (Split.nn _) ⟨by rw [hk],rfl,rfl⟩
 ·have hm':mayB s=false:=by simpa using hm
  refine Spc.en func139 rfl rfl (fun w0 hw0=> ?_)
  refine CW.sg [0] [] (RL.box rfl ?_)
  intro b1
  refine RL.pn rfl (CW.ss (CW.sr (RL.p rfl (RL.vq (r17may_any s) call166 rfl ?_))))
  refine RL.pn rfl (CW.cT rfl ((by rw [hm'];rfl)) ?_)
  refine CW.sr (RL.pn rfl (CW.rr (RQ.ss ?_)))
  exact RQ.pp (res1 rfl rfl) (Split.nn _) ⟨by rw [mmay,if_neg hm],rfl,rfl⟩
def RTakeR (tb:Nat) (M:Marks) (x:Int):Value→List It→List It→Prop:=fun v I' H'=> v= .int .i64 x∧I'= []∧H'= [rtI tb M]
theorem mmay_may {M:Marks} {s:Int} {p:Nat×Nat} (h:mmay M s p=0):mayB s=true:=by
 by_cases hm:mayB s=true
 ·exact hm
 ·rw [mmay,if_neg hm] at h;cases h
theorem rtake_any (tb:Nat) (M:Marks) (s:Int) (p:Nat×Nat):Spc prog 99 #[.pointer (some ⟨tb,0,none⟩), .int .i64 s,mkV p] [] [rtI tb M] (RTakeR tb (takeM M s p) (mmay M s p)):=by
 refine Spc.en func99 rfl rfl (fun w0 hw0=> ?_)
 refine CW.sg [0] [] (RL.box rfl ?_)
 intro b1
 refine RL.pn rfl (CW.sr (RL.q rfl (RL.ld (vs:= [_,_]) isAgg134 sizeOf134 rfl ze ?_)))
 refine RL.vq (rtMay_any tb M s p) call139 rfl ?_
 refine RL.pn rfl (CW.ok [0,1,5,7] rfl (CW.ss (CW.s1 rfl ?_)))
 refine CW.cd rfl (fun h=> ?_) (fun h=> ?_)
 ·
  have h:mmay M s p=0:=by simpa using h
  have hm:=mmay_may h
  obtain ⟨n,rfl⟩:∃n:Nat,s=(n:Int):=⟨s.toNat,by simp [mayB] at hm;omega⟩
  have h8:n < 8:=by simp [mayB] at hm;omega
  obtain ⟨a,b⟩:=p
  have l1:=msOf_len M
  have l2:=hsOf_len M
  have e:takeM M (n:Int) (a,b)=updM M (n:Int) (a,b):=by rw [takeM,if_pos h]
  have e2:rtI tb (updM M (n:Int) (a,b))=cel tb (tC ((msOf M).set n (a,b)) ((hsOf M).set n true)) 138:=by rw [rtI,←msOf_set,←hsOf_set M (a,b)]
  rw [e]
  refine CW.rD (Sq.of (rg 0 7++[9,10,8,11,12])) [8,12] [8,12] [0,1,2,3,5,6,7,9,10,11] mixed zi ?_
  refine RL.q rfl (RL.q rfl (RL.ld (vs:= [_,_]) isAgg134 sizeOf134 rfl ze ?_))
  refine RL.p rfl (RL.fa fa_138_0 rfl (RL.iA (j:=n) runUnderlying135 sizeOf134 rfl h8 (RL.p rfl (RL.fa fa_138_1 rfl ?_))))
  first | (refine RL.sX (vs:= [_,_]) (tC_setM (ms:=msOf M) (hs:=hsOf M) (n:=n) zb a b) sizeOf134 rfl rfl uE (by rw [tC_len];simp [l1,l2];omega) ?_) | (refine RL.sX (vs:= [_,_]) (tC_setM (ms:=msOf M) (hs:=(hsOf M).set n true) (n:=n) zb a b) sizeOf134 rfl rfl uE (by rw [tC_len];simp [l1,l2];omega) ?_)
  refine RL.iA (j:=n) runUnderlying136 sizeOf4 rfl h8 ?_
  first | (refine RL.sX (vs:= [_]) (tC_setH (ms:=(msOf M).set n (a,b)) (hs:=hsOf M) (n:=n) (by simp [l1]) zb true) sizeOf4 rfl rfl uE (by rw [tC_len];simp [l1,l2];omega) ?_) | (refine RL.sX (vs:= [_]) (tC_setH (ms:=msOf M) (hs:=hsOf M) (n:=n) (by simp [l1]) zb true) sizeOf4 rfl rfl uE (by rw [tC_len];simp [l1,l2];omega) ?_)
  refine RL.ns (CW.ok [7] rfl (CW.s1 rfl (CW.rr ?_)))
  exact RQ.pp (res1 rfl rfl) (.drop (.keep .nil)) ⟨rfl,rfl,by rw [e2]⟩
 ·
  refine CW.sn (CW.s1 rfl (CW.ok [6] rfl (CW.rr ?_)))
  have h: ¬mmay M s p=0:=by simpa using h
  exact RQ.pp (res1 rfl rfl) (.drop (.keep .nil)) ⟨rfl,rfl,by rw [takeM,if_neg h]⟩
end Go.Proofs.YtkineolcmdecjaaGreat
