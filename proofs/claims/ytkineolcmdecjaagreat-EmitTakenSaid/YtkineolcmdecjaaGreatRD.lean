import Derived.Test.YtkineolcmdecjaaGreatRA
import Derived.Test.YtkineolcmdecjaaGreatEE
import Derived.Test.YtkineolcmdecjaaGreatEF
import Derived.Test.YtkineolcmdecjaaGreatRB
import Derived.Test.YtkineolcmdecjaaGreatED
import Derived.Test.YtkineolcmdecjaaGreatE28
import Derived.Test.YtkineolcmdecjaaGreatBase
import Derived.Test.YtkineolcmdecjaaGreatPE
namespace Go.Proofs.YtkineolcmdecjaaGreat
open Go.PK
open Tryz
def epI (L:List Sr):Nat→Nat:=fun j=> if (sendsL L).any (fun s=> s.id==(j:Int))=true then 1 else 0
theorem epI_yes {L:List Sr} {i q:Nat} {s:Sr} (h:L[i]? =some s) (hq:s.id=(q:Int)) (hk:(kindsL s.kd).isEmpty=false):upN (epI (L.take i)) q 1=epI (L.take (i+1)):=by
 funext j
 unfold upN epI
 rw [sends_yes h hk,List.any_append]
 by_cases hj:j=q
 ·subst hj
  rw [if_pos rfl,if_pos]
  simp [hq]
 ·rw [if_neg hj]
  have:([s].any fun s=> s.id==(j:Int))=false:=by simp [hq];omega
  rw [this,Bool.or_false]
theorem epI_no {L:List Sr} {i:Nat} {s:Sr} (h:L[i]? =some s) (hk:(kindsL s.kd).isEmpty=true):epI (L.take i)=epI (L.take (i+1)):=by
 unfold epI;rw [sends_no h hk]
def zR (b:Nat) (c:Cf) (oa:Option Nat) (ca ko kc:Nat) (K:List (List B8)) (ep:Nat→Nat):RCr:=⟨b,c,oa,ca,ko,kc,K,ep,fun _=> 0,none,0, []⟩
structure RNewZ (c:Cf) (oa:Option Nat) (ca:Nat) (k:List B8) (n:Nat) (z:RCr):Prop where
 ok:z.Ok
 cf:z.c=c
 oa:z.oa=oa
 ca:z.ca=ca
 K:z.K=(chainL k (n+1)).reverse
 ep:z.ep=epI c.L
 ct:z.ct=fun _=> 0
 l:z.l= []
def RNewC (c:Cf) (oa:Option Nat) (ca:Nat) (k:List B8) (n:Int):Value→List It→List It→Prop:=fun v I' H'=> I'= []∧((newE c k n≠0∧v= .tuple #[.pointer none, .int .i64 (newE c k n)]∧H'= [])∨(newE c k n=0∧∃z,v= .tuple #[.pointer (some ⟨z.b,0,none⟩), .int .i64 0]∧H'= [rcrI z]∧RNewZ c oa ca k n.toNat z))
theorem rnewZ_ok {b:Nat} {c:Cf} {oa:Option Nat} {ca ko kc:Nat} {k:List B8} {n:Nat} (hc:c.Fit) (hok:c.ok=true) (hk:k.length=32) (hn:1≤n∧n≤512):RNewZ c oa ca k n (zR b c oa ca ko kc (chainL k (n+1)).reverse (epI c.L)):=by
 obtain ⟨h1,h2⟩:=ok_srs hok
 refine ⟨⟨hc.cm,fun s hs=> ⟨hc.L s hs,srs_ok h1 s hs⟩,Nat.le_trans h2 zc,chainR_all hk _,by show 1≤(chainL k (n+1)).reverse.length∧(chainL k (n+1)).reverse.length≤513;rw [List.length_reverse,chainL_len];omega,fun i=> ?_,fun i=> by show 0 < _;decide,by simp [zR],by simp [zR]⟩,rfl,rfl,rfl,rfl,rfl,rfl,rfl⟩
 show epI c.L i < 4294967296
 unfold epI
 split <;> decide
theorem fill_rcr {c:Cf} {sl ks:Value} (h:c.cm.length=32) (hk:ks.oneCell'=true) {places:Array (Nat×Nat)} (hp:places= #[(0,45),(45,1),(46,8),(54,8),(62,1)]):
  fillL (places[·]?) (zeroC.cells (.slice none 0 0)++(.slice none 0 0::(e8 (fun _=> 0)++(c8 (fun _=> 0)++ [.slice none 0 0])))) [(0, .agg (c.cells sl).toArray),(1,ks)]=some ((c.cells sl++ [ks])++(e8 (fun _=> 0)++(c8 (fun _=> 0)++ [.slice none 0 0]))):=by
 subst hp
 have h45:=cf_len h sl
 refine fill_seg (vs:=c.cells sl) [] (zeroC.cells (.slice none 0 0)) (.slice none 0 0::(e8 (fun _=> 0)++(c8 (fun _=> 0)++ [.slice none 0 0]))) rfl (agg_cells _) rfl rfl rfl h45 ?_
 refine fill_seg (vs:= [ks]) (c.cells sl) [.slice none 0 0] (e8 (fun _=> 0)++(c8 (fun _=> 0)++ [.slice none 0 0])) rfl (by rw [cells_one hk]) rfl h45 rfl rfl ?_
 simp [fillL]
theorem zR_cells {b:Nat} {c:Cf} {oa:Option Nat} {ca ko kc n:Nat} {K:List (List B8)} {ep:Nat→Nat} (h:K.length=n):(zR b c oa ca ko kc K ep).cells=(c.cells (slO oa c.L.length ca)++ [slO (some ko) n kc])++(e8 ep++(c8 (fun _=> 0)++ [.slice none 0 0])):=by subst h;rfl
theorem epI_nil (L:List Sr):epI (L.take 0)=fun _=> 0:=by funext j;simp [epI,sendsL]
theorem rNew_any (c:Cf) (oa:Option Nat) (ca m:Nat) (k:List B8) (n:Int) (hc:c.Fit) (hm:c.L.length=m) (hmb:m≤1000000) (hk:k.length=32):
  Spc prog 10 #[.agg (c.cells (slO oa m ca)).toArray, .agg (bytes k).toArray, .int .i64 n] [sls (oa.map fun b=> ⟨b,0,none⟩) 48 m (c.L.flatMap Sr.cells)] [] (RNewC c oa ca k n):=by
 subst hm
 have h45:=cf_len hc.cm (slO oa c.L.length ca)
 have hE:newE c k n=newE c k n:=rfl
 conv at hE=> rhs;rw [newE]
 refine Spc.en func10 rfl rfl (fun w0 hw0=> ?_)
 refine CW.sg [0,1] [] (RL.box rfl ?_)
 intro b1
 refine RL.box rfl ?_
 intro b2
 refine RL.qn rfl (CW.s2 (CW.fP (A:= [cel b1 (c.cells (slO oa c.L.length ca)) 47]) (B:= [cel b2 (bytes k) 31]) pE rfl ?_))
 refine CW.gI (fun J hJ=> ?_)
 have m1:cel b1 (c.cells (slO oa c.L.length ca)) 47∈J:=hJ _ (List.Mem.head _)
 have mS:sls (oa.map fun b=> ⟨b,0,none⟩) 48 c.L.length (c.L.flatMap Sr.cells)∈J:=hJ _ (List.Mem.tail _ (List.Mem.head _))
 clear hJ
 have fC:RdsN J ⟨b1,0,none⟩ 45 (c.cells (slO oa c.L.length ca)):=⟨fun _=> Rds.allI m1,h45⟩
 have fM:RdsN J ⟨b1,0+9,none⟩ 32 (bytes c.cm):=RdsN.told m1 (cf_cm c _) (by rw [List.length_map,hc.cm])
 have fL:RdI J ⟨b1,0+0,none⟩ (slO oa c.L.length ca):=⟨fun _=> Rd.celI m1 rfl⟩
 refine CW.rg (RL.lS isAgg47 sizeOf47 rfl ?_)
 refine RL.vv (rcheck_any c oa ca _ rfl hc zb) call38 rfl (.inI mS .nil) ?_
 refine RL.pn rfl (CW.s1 rfl ?_)
 refine CW.cd rfl (fun h1=> ?_) (fun h1=> ?_)
 ·
  refine CW.sr (RL.p rfl (RL.qn rfl (CW.ok [2,3,4,6,7] rfl (CW.rr (RQ.ss ?_)))))
  have h1:c.err≠0:=by simpa using h1
  rw [if_pos h1] at hE
  exact RQ.pp (res2 rfl rfl rfl) (Split.nn _) ⟨rfl, .inl ⟨by rw [hE];exact h1,congrArg (fun e=> Value.tuple #[.pointer none, .int .i64 e]) hE.symm,rfl⟩⟩
 ·
  have h1:c.err=0:=by simpa using h1
  rw [if_neg zb] at hE
  have hok:=err_zero h1
  obtain ⟨hsr,hl8⟩:=ok_srs hok
  by_cases hn:okN n
  ·have hn':=hn
   unfold okN at hn'
   obtain ⟨j,rfl⟩:∃j:Nat,n=(j:Int):=⟨n.toNat,zb⟩
   rw [if_pos hn',Int.toNat_natCast] at hE
   have hkl:=nextN_len hk j
   refine CW.sn (CW.ok [2,3,4] rfl (CW.sg [2] [] (RL.lW isAgg31 sizeOf31 rfl mQ (by rw [List.length_map,hk]) ?_)))
   refine RL.p rfl (RL.cq (rkeys_ok k hk j hn) call39 rfl (.inl rfl) ?_)
   rintro _ _ _ ⟨ko,kc,rfl,rfl,rfl⟩
   have hx:=chainR_get k j
   have hL:=chainR_all hk (j+1)
   refine RL.q rfl (RL.p rfl (RL.qn rfl (CW.ok [3,9,10] rfl (CW.ss (CW.sr (RL.q rfl (RL.ee ?_)))))))
   refine NQ.ss (CW.cF rfl (rfl) (CW.sn (CW.s2 (CW.rD (Sq.of [0,1,2,3,4,5]) [] [] [0,1,3,4,5] mixed zi ?_))))
   refine RL.p rfl (RL.ix (j:=0) runUnderlying89 sizeOf31 rfl zb ?_)
   refine RL.ld (vs:=bytes (nextN k j)) isAgg31 (by rw [List.length_map,hkl];exact sizeOf31) rfl (own_rds (f:=bytes) mQ hx (fun z hz=> by rw [List.length_map];exact hL z hz)) ?_
   refine RL.fa fa_47_4 rfl (RL.loadSTq isAgg31 sizeOf31 rfl ?_)
   refine RL.cmp rfl (key_ne _ _ hkl hc.cm _ _) (RL.ns (CW.ok [3,9,32] rfl ?_))
   refine CW.cd rfl (fun h2=> ?_) (fun h2=> ?_)
   ·
    refine CW.s1 rfl (CW.rr (RQ.ss ?_))
    have h2:nextN k j≠c.cm:=by simpa using h2
    rw [if_neg h2] at hE
    exact RQ.pp (res2 rfl rfl rfl) (Split.nn _) ⟨rfl, .inl ⟨by rw [hE];exact zc,congrArg (fun e=> Value.tuple #[.pointer none, .int .i64 e]) hE.symm,rfl⟩⟩
   ·
    have h2:nextN k j=c.cm:=by simpa using h2
    rw [if_pos h2] at hE
    have hKl:(chainL k (j+1)).reverse.length=j+1:=by rw [List.length_reverse,chainL_len]
    have hdone:=fun (b:Nat)=> rnewZ_ok (b:=b) (oa:=oa) (ca:=ca) (ko:=ko) (kc:=kc) (n:=j) hc hok hk zb
    generalize (chainL k (j+1)).reverse=R at hx hL hKl hdone
    refine CW.sn (CW.sg [3] [] (RL.lS isAgg47 sizeOf47 rfl ?_))
    refine RL.p rfl (RL.bS (zR 0 c oa ca ko kc R fun _=> 0).cells zeroValue108 pl_108 (qP rfl (qP rfl (by rw [zR_cells hKl];exact fill_rcr hc.cm rfl rfl))) ?_)
    refine RL.box (cs:=(zR 0 c oa ca ko kc R fun _=> 0).cells) rfl (fun bz=> ?_)
    refine RL.pn rfl (CW.ok [3,11] rfl (CW.ss (CW.sr (RL.pn rfl (CW.bb ?_)))))
    refine CW.loop (γ:=Nat) (fun i=> i≤c.L.length) (fun i=> [(3, .pointer (some ⟨b1,0,none⟩)),(11, .pointer (some ⟨bz,0,none⟩)),(12, .int .i64 (i:Int))]) (fun _=> J)
     (fun i=> [cel bz (zR bz c oa ca ko kc R (epI (c.L.take i))).cells 108,own (some ko) kc 31 32 (j+1) (flatK R)]) (fun i=> c.L.length - i) 0 (Nat.zero_le _) sE (fun w h=> by rw [epI_nil];exact h.rea (fun _ h=> h) rE) ?_
    intro i hi
    refine CW.ff (p:=oa=none→c.L.length=0) (fun w hC e=> sls_nil (hC.s.i _ mS) (by rw [e];rfl)) (fun hpa=> ?_)
    refine CW.ss (CW.sr (RL.p rfl (RL.fa fa_47_0 rfl (RL.lq isAgg44 rfl ?_))))
    refine RL.lenS runUnderlying44 rfl (RL.pn rfl ?_)
    refine CW.cd rfl (fun hlt=> ?_) (fun hlt=> ?_)
    ·
     have hlt:i < c.L.length:=by simp at hlt;omega
     have hx:=List.getElem?_eq_getElem hlt
     have hsy:=fun q h=> epI_yes (q:=q) hx h
     have hsn:=fun h=> epI_no hx h
     have hid0:=srs_ok hsr _ (List.getElem_mem hlt)
     generalize c.L[i]=s at hx hsy hsn hid0
     obtain ⟨q,hq⟩:∃q:Nat,s.id=(q:Int):=⟨s.id.toNat,zb⟩
     have hq8:q < 8:=by omega
     have hsf:=hc.L s (List.mem_of_getElem? hx)
     have hLl:∀s∈c.L,s.cells.length=48:=fun s hs=> sr_len (hc.L s hs).rt
     obtain ⟨sb,rfl⟩:∃sb,oa=some sb:=by
      cases h:oa with
      | none=> exact absurd (hpa h) zb
      | some sb=> exact ⟨sb,rfl⟩
     have fI:RdI J ⟨sb,0+i*48+0,none⟩ (.int .i64 s.id):=flat_rdI (f:=Sr.cells) mS hx hLl rfl
     have fK:RdI J ⟨sb,0+i*48+1,none⟩ (.int .i64 s.kd):=flat_rdI (f:=Sr.cells) mS hx hLl rfl
     have hst:=rset_e (z:=zR bz c (some sb) ca ko kc R (epI (c.L.take i))) hc.cm hq8 1
     have hln:=rcr_len (z:=zR bz c (some sb) ca ko kc R (epI (c.L.take i))) hc.cm
     refine CW.sn (CW.ss (CW.bb (CW.sg [6] [] (RL.fa fa_47_0 rfl (RL.lq isAgg44 rfl ?_)))))
     refine RL.p rfl (RL.ix (j:=i) runUnderlying44 sizeOf59 rfl (hlt) (RL.fa fa_59_1 rfl (RL.lq isAgg3 rfl ?_)))
     refine RL.cc (rkinds_any s.kd) call13 rfl pE .nil (.inl rfl) ?_
     rintro _ _ _ ⟨qo,qc,rfl,rfl,rfl⟩
     have hkl:=kindsL_len s.kd
     refine RL.lenS runUnderlying52 rfl (RL.pn rfl (CW.ok [3,11,12,52] rfl ?_))
     refine CW.cd rfl (fun hk=> ?_) (fun hk=> ?_)
     ·
      have hk:(kindsL s.kd).isEmpty=false:=by
       cases h:kindsL s.kd with
       | nil=> rw [h] at hk;simp at hk
       | cons a l=> rfl
      refine CW.rD (Sq.of (rg 0 10)) [10] [10] (rg 0 9) mixed zi ?_
      refine RL.p rfl (RL.fa fa_47_0 rfl (RL.lT isAgg44 rfl ?_))
      refine RL.p rfl (RL.ix (j:=i) runUnderlying44 sizeOf59 rfl (hlt) (RL.fa fa_59_0 rfl (RL.lT isAgg3 rfl ?_)))
      refine RL.p rfl (RL.fa fa_108_2 rfl (RL.tt (d:=59) (v':= .int .i64 (q:Int)) rfl (by rw [hq]) ?_))
      refine RL.iA (j:=q) runUnderlying62 sizeOf61 rfl hq8 (RL.sX (vs:= [.int .u32 ((1:Nat):Int)]) hst sizeOf61 rfl rfl uE (by rw [hln];show 0+46+q*1+1≤63;omega) ?_)
      refine RL.ee (NQ.bb (NQ.ss (CW.ok [3,11,12] rfl (CW.rg (RL.p rfl (RL.bx rfl (wrapV_i64 zb zb) ?_))))))
      refine RL.p rfl (RL.ee ?_)
      refine NQ.rr (g:=i) (i+1) hlt (by show c.L.length - (i+1) < c.L.length - i;omega) sE (fun w h=> ?_)
      rw [←hsy q hq hk]
      exact h.rea (fun _ h=> h) rE
     ·
      refine CW.kk (NQ.bb (NQ.ss (CW.rg (RL.p rfl (RL.bx rfl (wrapV_i64 zb zb) ?_)))))
      refine RL.p rfl (RL.ee ?_)
      have hk:(kindsL s.kd).isEmpty=true:=by
       cases h:kindsL s.kd with
       | nil=> rfl
       | cons a l=> rw [h] at hk;simp at hk
      refine NQ.rr (g:=i) (i+1) hlt (by show c.L.length - (i+1) < c.L.length - i;omega) sE (fun w h=> ?_)
      rw [←hsn hk]
      exact h.rea (fun _ h=> h) rE
    ·
     have hin:i=c.L.length:=by simp at hlt;omega
     subst hin
     rw [List.take_length]
     refine CW.xx (XQ.ss (XQ.ss (XQ.hh (NQ.ss (CW.ok [11] rfl (CW.sr (RL.p rfl (RL.qn rfl (CW.rr ?_)))))))))
     rw [own_is (ob:=some ko) (n':=R.length) hKl.symm rfl]
     refine RQ.ownNone (e:=78) 21 (RQ.pack (l:= []) (RQ.rcr (z:=zR bz c oa ca ko kc R (epI c.L)) (C:= []) rE ?_))
     exact RQ.pp (res2 rfl rfl rfl) (.keep .nil) ⟨rfl, .inr ⟨hE,zR bz c oa ca ko kc R (epI c.L),rfl,rfl,hdone bz⟩⟩
  ·have hb:=rkeys_bad k hk n hn
   rw [if_neg (show¬(1≤n∧n≤512) from hn)] at hE
   refine CW.sn (CW.ok [2,3,4] rfl (CW.sr (RL.lS isAgg31 sizeOf31 rfl ?_)))
   refine RL.p rfl (RL.vq (hb) call39 rfl ?_)
   refine RL.q rfl (RL.p rfl (RL.qn rfl (CW.ok [3,9,10] rfl (CW.ss (CW.sr (RL.q rfl (RL.ee ?_)))))))
   refine NQ.ss (CW.cT rfl (rfl) (CW.sr (RL.p rfl (RL.qn rfl (CW.rr (RQ.ss ?_))))))
   exact RQ.pp (res2 rfl rfl rfl) (Split.nn _) ⟨rfl, .inl ⟨by rw [hE];exact zc,congrArg (fun e=> Value.tuple #[.pointer none, .int .i64 e]) hE.symm,rfl⟩⟩
structure EAl (z:Crw) (y:RCr):Prop where
 zo:z.Ok
 yo:y.Ok
 c:z.c=y.c
 K:z.K=y.K
 l:z.l.map FrO.f=y.l.map FrO.f
 g:∀n,(atT z.T n).map (·.s)=grd y.c n
 m:∀i < 8,markV z.T ((i:Nat):Int)=(y.ep i,y.ct i)
theorem EAl.len {z:Crw} {y:RCr} (h:EAl z y):z.l.length=y.l.length:=by
 have:=congrArg List.length h.l
 simpa using this
theorem EAl.none {z:Crw} {y:RCr} (h:EAl z y) {n:Int}:atT z.T n=none↔grd y.c n=none:=by
 rw [←h.g n];cases atT z.T n <;> simp
theorem EAl.some {z:Crw} {y:RCr} (h:EAl z y) {n:Int} {x:Snd} {s:Sr} (hx:atT z.T n=some x) (hs:grd y.c n=some s):x.s=s∧x.ep=y.ep s.id.toNat∧x.ct=y.ct s.id.toNat:=by
 have h1:=h.g n
 rw [hx,hs] at h1
 have h2:x.s=s:=by simpa using h1
 have hsn:=(grd_some hs).2.2
 have hid:=(h.yo.L s (grd_some hs).2.1).2
 have h3:=h.m s.id.toNat zb
 rw [show ((s.id.toNat:Nat):Int)=n by omega,markV,hx] at h3
 exact ⟨h2,(Prod.mk.inj h3).1,(Prod.mk.inj h3).2⟩
theorem snd_alike {z:Crw} {y:RCr} (h:EAl z y) {n:Int} {x:Snd} {s:Sr} (hx:atT z.T n=some x) (hs:grd y.c n=some s) (r:Rdg):sendE (y.snd s) r=sendE x r∧frS (y.snd s) r=frS x r:=by
 obtain ⟨h1,h2,h3⟩:=h.some hx hs
 obtain ⟨a,b,c,d⟩:=x
 dsimp only at h1 h2 h3
 subst h1;subst h2;subst h3
 exact ⟨rfl,rfl⟩
theorem atT_off {A B:List Snd} {x:Snd} {ep ct:Nat} {n:Int} (hn:n≠x.s.id):atT (A++x.set ep ct::B) n=atT (A++x::B) n:=by
 have hd:decide (n=x.s.id)=false:=by simpa using hn
 simp [atT,List.find?_append,Snd.set,hn]
theorem atT_ids {A B:List Snd} {x:Snd} {ep ct:Nat} (n:Int):(atT (A++x.set ep ct::B) n).map (·.s)=(atT (A++x::B) n).map (·.s):=by
 rw [atT_map,atT_map];simp [Snd.set]
theorem EAl.set {z:Crw} {y:RCr} (h:EAl z y) {A B:List Snd} {x:Snd} (hT:z.T=A++x::B) {ep ct:Nat} (he:ep < 4294967296) (hc:ct < 18446744073709551616) {i:Nat} (hi:x.s.id=(i:Int)) (hi8:i < 8):EAl (z.setT (A++x.set ep ct::B)) ((y.setE i ep).setC i ct):=by
 have hz:=h.zo
 refine ⟨⟨hz.cm,hz.L,hz.n,hz.K,hz.K1,set_in hT hz.T he hc,by show ((A++x.set ep ct::B).map fun x=> x.s.id).Nodup;rw [set_ids hT];exact hz.Tn,hz.l,hz.ll,hz.E⟩,
  ⟨h.yo.cm,h.yo.L,h.yo.n,h.yo.K,h.yo.K1,fun j=> ?_,fun j=> ?_,h.yo.l,h.yo.ll⟩,h.c,h.K,h.l,fun n=> ?_,fun j hj=> ?_⟩
 ·show upN y.ep i ep j < _
  unfold upN;split
  ·exact he
  ·exact h.yo.ep j
 ·show upN y.ct i ct j < _
  unfold upN;split
  ·exact hc
  ·exact h.yo.ct j
 ·show (atT (A++x.set ep ct::B) n).map (·.s)=_
  rw [atT_ids,←hT];exact h.g n
 ·show markV (A++x.set ep ct::B) (j:Int)=(upN y.ep i ep j,upN y.ct i ct j)
  unfold upN
  by_cases hji:j=i
  ·subst hji
   rw [if_pos rfl,if_pos rfl,markV,atT_put hT hz.Tn hi.symm];rfl
  ·rw [if_neg hji,if_neg hji,markV,atT_off zb,←hT]
   exact h.m j hj
theorem upN_same (f:Nat→Nat) (i:Nat):upN f i (f i)=f:=by
 funext j;unfold upN;split
 ·next h=> rw [h]
 ·rfl
theorem upN_twice (f:Nat→Nat) (i a b:Nat):upN (upN f i a) i b=upN f i b:=by
 funext j;unfold upN;split <;> rfl
theorem EAl.put {z:Crw} {y:RCr} (h:EAl z y) {f:Fr} {bo bo':Option Nat} {bc bc':Nat} {so so':Option Nat} {soc soc':Nat} {E:List SE} (hf:f.Fit) (hl:z.l.length < 1000) (hE:SOk E (z.l++ [⟨f,bo,bc⟩])):EAl (z.put ⟨f,bo,bc⟩ so soc E) (y.put ⟨f,bo',bc'⟩ so' soc'):=by
 have hz:=h.zo.sent (T:=z.T) (so:=so) (soc:=soc) h.zo.T h.zo.Tn hf hl hE
 have hlen:=h.len
 refine ⟨hz,⟨h.yo.cm,h.yo.L,h.yo.n,h.yo.K,h.yo.K1,h.yo.ep,h.yo.ct,fun x hx=> ?_,by show (y.l++ [_]).length≤1000;rw [List.length_append];simp;omega⟩,h.c,h.K, ?_,h.g,h.m⟩
 ·rcases List.mem_append.1 (show x∈y.l++ [⟨f,bo',bc'⟩] from hx) with hx | hx
  ·exact h.yo.l x hx
  ·rw [List.mem_singleton.1 hx];exact hf
 ·show (z.l++ [_]).map FrO.f=(y.l++ [_]).map FrO.f
  rw [List.map_append,List.map_append,h.l];rfl
def RSentY (y:RCr) (f:Fr):Value→List It→List It→Prop:=fun v I' H'=> ∃rb rc bo bc so soc,v= .tuple #[slO rb (frB f).length rc, .int .i64 0]∧I'= []∧H'= [rcrI (y.put ⟨f,bo,bc⟩ so soc),own rb rc 5 1 (frB f).length (bytes (frB f))]
inductive Emt (c:Cf) (ep ct ep' ct':Nat→Nat) (f:Fr):Prop
 | send (s:Sr) (x:Snd) (r:Rdg) (hs:grd c s.id=some s) (hx:x.s=s) (h1:x.ep=ep s.id.toNat) (h2:x.ct=ct s.id.toNat) (hk:(kindsL s.kd).contains r.kind=true) (hc:ct s.id.toNat+1 < 18446744073709551616) (hf:f=frS x r) (h10:r.kind≠10) (hep:ep'=ep) (hct:ct'=upN ct s.id.toNat (ct s.id.toNat+1))
 | roll (s:Sr) (x:Snd) (r:Rdg) (hs:grd c s.id=some s) (hx:x.s=s) (h1:x.ep=ep s.id.toNat) (h2:x.ct=ct s.id.toNat) (hk:(kindsL s.kd).contains r.kind=true) (hc:ct s.id.toNat+1 < 18446744073709551616) (hf:f=frS x r) (h10:r.kind=10) (he:ep s.id.toNat+1 < 4294967296) (hep:ep'=upN ep s.id.toNat (ep s.id.toNat+1)) (hct:ct'=upN ct s.id.toNat 0)
 | far (h:f.kd=5∨f.kd=6) (hep:ep'=ep) (hct:ct'=ct)
theorem sendE_zero {x:Snd} {r:Rdg} (h:sendE x r=0):(kindsL x.s.kd).contains r.kind=true∧x.ct≠18446744073709551615:=by
 unfold sendE at h
 split at h
 ·next hh=>
  split at h
  ·cases h
  ·next h3=> exact ⟨hh.2,h3⟩
 ·cases h
def BothQ (z:Crw) (y:RCr) (v:Value) (I' H':List It) (v2:Value) (I2 H2:List It):Prop:=
 (∃e,ErrQ z e v I' H'∧RErrQ y e v2 I2 H2)∨∃T y1 f,SentQ z T f v I' H'∧RSentY y1 f v2 I2 H2∧f.Fit∧EAl (z.setT T) y1∧y1.b=y.b∧y1.c=y.c∧y1.oa=y.oa∧y1.ca=y.ca∧Emt y.c y.ep y.ct y1.ep y1.ct f
theorem send_both {z:Crw} {y:RCr} (h:EAl z y) {n:Int} {r:Rdg} {v v2:Value} {I' H' I2 H2:List It} (h1:SendQ z n r v I' H') (h2:RSendQ y n r v2 I2 H2):BothQ z y v I' H' v2 I2 H2:=by
 rcases h1 with ⟨hx,h1⟩ | ⟨A,B,x,hT,hx,h1⟩
 ·rcases h2 with ⟨_,h2⟩ | ⟨s,hs,_⟩
  ·exact .inl ⟨5,h1,h2⟩
  ·rw [h.none.1 hx] at hs;cases hs
 rcases h2 with ⟨hs,_⟩ | ⟨s,hs,h2⟩
 ·rw [h.none.2 hs] at hx;cases hx
 rcases h1 with ⟨hk,h1⟩ | ⟨hk,h1⟩
 ·rcases h2 with ⟨_,h2⟩ | ⟨hk',_⟩
  ·exact .inl ⟨120,h1,h2⟩
  ·exact absurd hk hk'
 rcases h2 with ⟨hk',_⟩ | ⟨_,h2⟩
 ·exact absurd hk' hk
 obtain ⟨hsE,hsF⟩:=snd_alike h hx hs r
 obtain ⟨hxs,hxe,hxc⟩:=h.some hx hs
 obtain ⟨i1,h1⟩:=h1
 obtain ⟨i2,h2⟩:=h2
 rw [hsE] at h2
 rcases h1 with ⟨h0,h1,h3⟩ | ⟨h0,rb,rc,bo,bc,so,soc,E',h1,h3,h4⟩
 ·rcases h2 with ⟨_,h2,h5⟩ | ⟨h0',_⟩
  ·exact .inl ⟨sendE x r,⟨h1,i1,h3⟩,⟨h2,i2,h5⟩⟩
  ·exact absurd h0' h0
 rcases h2 with ⟨h0',_⟩ | ⟨_,rb',rc',bo',bc',so',soc',h2,h5⟩
 ·exact absurd h0 h0'
 rw [hsF] at h2 h5
 have hid:=(h.yo.L s (grd_some hs).2.1).2
 have hxm:x∈z.T:=by rw [hT];simp
 have hxo:=h.zo.T x hxm
 have hct:x.ct≠18446744073709551615:=fun e=> by
  by_cases hh:putE r=0∧(kindsL x.s.kd).contains r.kind=true
  ·rw [sendE_yes hh,if_pos e] at h0;cases h0
  ·rw [sendE_no hh] at h0;cases h0
 have hset:=h.set hT (ep:=x.ep) (ct:=x.ct+1) hxo.2.1 zb (i:=s.id.toNat) (by rw [hxs];omega) zb
 have hy1:(y.setE s.id.toNat x.ep).setC s.id.toNat (x.ct+1)=y.setC s.id.toNat (y.ct s.id.toNat+1):=by
  rw [hxe,hxc,RCr.setE,RCr.setC,RCr.setC,upN_same]
 rw [hy1] at hset
 have hz:=sendE_zero h0
 exact .inr ⟨_,_,frS x r,⟨rb,rc,bo,bc,so,soc,E',h1,i1,h3,h4⟩,⟨rb',rc',bo',bc',so',soc',h2,i2,h5⟩,frS_fit (h.zo.L x.s hxo.1).2 hxo.2.1 hxo.2.2 h0,hset,rfl,rfl,rfl,rfl,
  .send s x r (by rw [(grd_some hs).2.2];exact hs) hxs hxe hxc (by rw [←hxs];exact hz.1) (by rw [←hxc];have:=hxo.2.2;omega) rfl hk rfl rfl⟩
theorem roll_both {z:Crw} {y:RCr} (h:EAl z y) {n:Int} {v v2:Value} {I' H' I2 H2:List It} (h1:RollQ z n v I' H') (h2:RRollQ y n v2 I2 H2):BothQ z y v I' H' v2 I2 H2:=by
 rcases h1 with ⟨hx,h1⟩ | ⟨A,B,x,hT,hx,h1⟩
 ·rcases h2 with ⟨_,h2⟩ | ⟨s,hs,_⟩
  ·exact .inl ⟨5,h1,h2⟩
  ·rw [h.none.1 hx] at hs;cases hs
 rcases h2 with ⟨hs,_⟩ | ⟨s,hs,h2⟩
 ·rw [h.none.2 hs] at hx;cases hx
 obtain ⟨hxs,hxe,hxc⟩:=h.some hx hs
 rcases h1 with ⟨hk,h1⟩ | ⟨hk,h1⟩
 ·rcases h2 with ⟨_,h2⟩ | ⟨hk',_⟩
  ·exact .inl ⟨3,h1,h2⟩
  ·exact absurd (hxe▸hk) hk'
 rcases h2 with ⟨hk',_⟩ | ⟨_,h2⟩
 ·exact absurd (hxe.trans hk') hk
 obtain ⟨hsE,hsF⟩:=snd_alike h hx hs (rollR x.ep)
 obtain ⟨i1,h1⟩:=h1
 obtain ⟨i2,h2⟩:=h2
 rw [←hxe,hsE] at h2
 rcases h1 with ⟨h0,h1,h3⟩ | ⟨h0,rb,rc,bo,bc,so,soc,E',h1,h3,h4⟩
 ·rcases h2 with ⟨_,h2,h5⟩ | ⟨h0',_⟩
  ·exact .inl ⟨_,⟨h1,i1,h3⟩,⟨h2,i2,h5⟩⟩
  ·exact absurd h0' h0
 rcases h2 with ⟨h0',_⟩ | ⟨_,rb',rc',bo',bc',so',soc',h2,h5⟩
 ·exact absurd h0 h0'
 rw [hsF] at h2 h5
 have hid:=(h.yo.L s (grd_some hs).2.1).2
 have hxm:x∈z.T:=by rw [hT];simp
 have hxo:=h.zo.T x hxm
 have hset:=h.set hT (ep:=x.ep+1) (ct:=0) zb zc (i:=s.id.toNat) (by rw [hxs];omega) zb
 have hz:=sendE_zero h0
 refine .inr ⟨_,_,frS x (rollR x.ep),⟨rb,rc,bo,bc,so,soc,E',h1,i1,h3,h4⟩,⟨rb',rc',bo',bc',so',soc',h2,i2, ?_⟩,frS_fit (h.zo.L x.s hxo.1).2 hxo.2.1 hxo.2.2 h0,hset,rfl,rfl,rfl,rfl,
  .roll s x (rollR x.ep) (by rw [(grd_some hs).2.2];exact hs) hxs hxe hxc (by rw [←hxs];exact hz.1) (by rw [←hxc];have:=hxo.2.2;have:=hz.2;omega) rfl rfl (by rw [←hxe];have:=hxo.2.1;omega) (by rw [←hxe];rfl) rfl⟩
 rw [h5]
 have:(((y.setC s.id.toNat (y.ct s.id.toNat+1)).put ⟨frS x (rollR x.ep),bo',bc'⟩ so' soc').setE s.id.toNat (x.ep+1)).setC s.id.toNat 0=((y.setE s.id.toNat (x.ep+1)).setC s.id.toNat 0).put ⟨frS x (rollR x.ep),bo',bc'⟩ so' soc':=by
  simp only [RCr.setC,RCr.put,RCr.setE,upN_twice]
 rw [this]
theorem far_both {z:Crw} {y:RCr} (h:EAl z y) {t:Int} {q:B8} {p0 p1 p2:Int} {v v2:Value} {I' H' I2 H2:List It} (h1:FarQ z t q p0 p1 p2 v I' H') (h2:RFarQ y t q p0 p1 p2 v2 I2 H2):BothQ z y v I' H' v2 I2 H2:=by
 have hE:rfarE y t=farE z t:=by rw [farE,rfarE,h.c,h.K]
 rcases h1 with ⟨h0,h1⟩ | ⟨h0,h1⟩
 ·rcases h2 with ⟨_,h2⟩ | ⟨h0',_⟩
  ·rw [hE] at h2;exact .inl ⟨_,h1,h2⟩
  ·exact absurd (hE▸h0') h0
 rcases h2 with ⟨h0',_⟩ | ⟨_,h2⟩
 ·exact absurd (hE.trans h0) h0'
 rw [←h.c,←h.K] at h2
 exact .inr ⟨z.T,y,_,h1,h2,far_fit h.zo (aN_lt _ _),h,rfl,rfl,rfl,rfl, .far (.inl rfl) rfl rfl⟩
theorem key_both {z:Crw} {y:RCr} (h:EAl z y) {t:Int} {v v2:Value} {I' H' I2 H2:List It} (h1:KeyQ z t v I' H') (h2:RKeyQ y t v2 I2 H2):BothQ z y v I' H' v2 I2 H2:=by
 have hN:rdueN y t=dueN z t:=by rw [dueN,rdueN,h.c,h.K]
 have hE:rdueE y t=dueE z t:=by rw [dueE,rdueE,hN,h.c]
 rcases h1 with ⟨h0,h1⟩ | ⟨h0,h1⟩
 ·rcases h2 with ⟨_,h2⟩ | ⟨h0',_⟩
  ·rw [hE] at h2;exact .inl ⟨_,h1,h2⟩
  ·exact absurd (hE▸h0') h0
 rcases h2 with ⟨h0',_⟩ | ⟨_,h2⟩
 ·exact absurd (hE.trans h0) h0'
 rw [←h.c,←h.K,hN] at h2
 have hK:=h.zo.K1
 exact .inr ⟨z.T,y,_,h1,h2,key_fit h.zo (by unfold dueN;omega),h,rfl,rfl,rfl,rfl, .far (.inr rfl) rfl rfl⟩
theorem skip_both {z:Crw} {y:RCr} (h:EAl z y) {n:Int} {m:Nat} {v v2:Value} {I' H' I2 H2:List It} (h1:SkipQ z n m v I' H') (h2:RSkipQ y n m v2 I2 H2):∃e z' y',v= .int .i64 e∧v2= .int .i64 e∧I'= []∧I2= []∧H'= [crwI z']∧H2= [rcrI y']∧EAl z' y'∧z'.b=z.b∧z'.l=z.l∧y'.b=y.b∧y'.c=y.c∧y'.oa=y.oa∧y'.ca=y.ca∧y'.l=y.l∧y'.ep=y.ep∧∀i,y.ct i≤y'.ct i:=by
 rcases h1 with ⟨hx,h1,i1,h3⟩ | ⟨A,B,x,hT,hx,h1,i1,h3⟩
 ·rcases h2 with ⟨_,h2,i2,h4⟩ | ⟨s,hs,_⟩
  ·exact ⟨5,z,y,h1,h2,i1,i2,h3,h4,h,rfl,rfl,rfl,rfl,rfl,rfl,rfl,rfl,fun _=> Nat.le_refl _⟩
  ·rw [h.none.1 hx] at hs;cases hs
 rcases h2 with ⟨hs,_⟩ | ⟨s,hs,h2,i2,h4⟩
 ·rw [h.none.2 hs] at hx;cases hx
 obtain ⟨hxs,hxe,hxc⟩:=h.some hx hs
 have hid:=(h.yo.L s (grd_some hs).2.1).2
 have hxm:x∈z.T:=by rw [hT];simp
 have hxo:=h.zo.T x hxm
 have hset:=h.set hT (ep:=x.ep) (ct:=skipC x.ct m) hxo.2.1 (by unfold skipC;omega) (i:=s.id.toNat) (by rw [hxs];omega) zb
 have hy1:(y.setE s.id.toNat x.ep).setC s.id.toNat (skipC x.ct m)=y.setC s.id.toNat (skipC (y.ct s.id.toNat) m):=by
  rw [hxe,hxc,RCr.setE,RCr.setC,RCr.setC,upN_same]
 rw [hy1] at hset
 refine ⟨0,_,_,h1,h2,i1,i2,h3,h4,hset,rfl,rfl,rfl,rfl,rfl,rfl,rfl,rfl,fun i=> ?_⟩
 show y.ct i≤upN y.ct s.id.toNat (skipC (y.ct s.id.toNat) m) i
 unfold upN;split
 ·next e=> have:=h.yo.ct s.id.toNat;subst e;unfold skipC;omega
 ·exact Nat.le_refl _
theorem new_alike {c:Cf} {oa:Option Nat} {ca:Nat} {k:List B8} {n:Nat} {z:Crw} {y:RCr} (hc:c.ok=true) (h1:NewZ c k n z) (h2:RNewZ c oa ca k n y):EAl z y:=by
 obtain ⟨hs, -⟩:=ok_srs hc
 have hgr:∀n,(atT z.T n).map (·.s)=grd c n:=fun n=> by
  rw [atT_map,h1.T,grd]
  have key:∀L:List Sr,(∀s∈L,∀t∈L,s.id=t.id→s=t)→(sendsL L).find? (fun s=> decide (n=s.id))=match L.find? (fun s=> s.id==n) with
    | some s=> if (kindsL s.kd).isEmpty=true then none else some s
    | none=> none:=by
   intro L
   induction L with
   | nil=> intro _;rfl
   | cons a L ih=>
    intro hu
    have ih:=ih (fun s hs t ht=> hu s (by simp [hs]) t (by simp [ht]))
    by_cases ha:a.id=n
    ·rw [List.find?_cons_of_pos (by simpa using ha)]
     dsimp only
     cases hk:(kindsL a.kd).isEmpty with
     | false=>
      rw [if_neg zm,sendsL,List.filter_cons_of_pos (by simp [hk]),List.find?_cons_of_pos (by simp [ha])]
     | true=>
      rw [if_pos rfl,sendsL,List.filter_cons_of_neg (by simp [hk]),List.find?_eq_none]
      intro t ht hn
      have ht':=(List.mem_filter.1 ht)
      have:a=t:=hu a zm t (by simp [ht'.1]) (by have:=of_decide_eq_true hn;omega)
      subst this
      rw [hk] at ht'
      cases ht'.2
    ·rw [List.find?_cons_of_neg (by simpa using ha),←ih]
     cases hk:(kindsL a.kd).isEmpty with
     | false=> rw [sendsL,List.filter_cons_of_pos (by simp [hk]),List.find?_cons_of_neg zp];rfl
     | true=> rw [sendsL,List.filter_cons_of_neg (by simp [hk])];rfl
  refine key c.L (fun s hs' t ht he=> ?_)
  obtain ⟨i,hi⟩:=List.mem_iff_getElem?.1 hs'
  obtain ⟨j,hj⟩:=List.mem_iff_getElem?.1 ht
  rcases Nat.lt_trichotomy i j with hij | hij | hij
  ·have:=sr_asc hs hij hi hj;omega
  ·subst hij;rw [hi] at hj;exact Option.some.inj hj
  ·have:=sr_asc hs hij hj hi;omega
 refine ⟨h1.ok,h2.ok,by rw [h1.cf,h2.cf],by rw [h1.K,h2.K],by rw [h1.l,h2.l],fun n=> by rw [h2.cf];exact hgr n,fun i hi=> ?_⟩
 rw [h2.ep,h2.ct,markV]
 cases hx:atT z.T (i:Int) with
 | none=>
  dsimp only
  have:epI c.L i=0:=by
   unfold epI
   rw [if_neg]
   rw [List.any_eq_true]
   rintro ⟨s,hs1,hs2⟩
   rw [←h1.T] at hs1
   obtain ⟨x,hxm,rfl⟩:=List.mem_map.1 hs1
   have:=List.find?_eq_none.1 hx x hxm
   simp at hs2 this
   omega
  rw [this]
 | some x=>
  dsimp only
  have hxm:=List.mem_of_find?_eq_some hx
  have hxi:(i:Int)=x.s.id:=by simpa using List.find?_some hx
  have:epI c.L i=1:=by
   unfold epI
   rw [if_pos]
   rw [List.any_eq_true]
   exact ⟨x.s,by rw [←h1.T];exact List.mem_map.2 ⟨x,hxm,rfl⟩,by simp;omega⟩
  rw [this,(h1.n x hxm).1,(h1.n x hxm).2]
def FormZ (v:Value) (I' H':List It):Prop:=(∃z' e,v= .tuple #[.slice none 0 0, .int .i64 e]∧I'= []∧H'= [crwI z'])∨∃(z':Crw) (rb:Option Nat) (rc:Nat) (l:List B8),v= .tuple #[slO rb l.length rc, .int .i64 0]∧I'= []∧H'= [crwI z',own rb rc 5 1 l.length (bytes l)]
def FormR (v:Value) (I' H':List It):Prop:=(∃z' e,v= .tuple #[.slice none 0 0, .int .i64 e]∧I'= []∧H'= [rcrI z'])∨∃(z':RCr) (rb:Option Nat) (rc:Nat) (l:List B8),v= .tuple #[slO rb l.length rc, .int .i64 0]∧I'= []∧H'= [rcrI z',own rb rc 5 1 l.length (bytes l)]
theorem ErrQ.form {z:Crw} {e:Int} {v:Value} {I' H':List It} (h:ErrQ z e v I' H'):FormZ v I' H':= .inl ⟨z,e,h⟩
theorem SentQ.form {z:Crw} {T:List Snd} {f:Fr} {v:Value} {I' H':List It} (h:SentQ z T f v I' H'):FormZ v I' H':=by
 obtain ⟨rb,rc,bo,bc,so,soc,E',h1,h2,h3, -⟩:=h
 exact .inr ⟨_,rb,rc,_,h1,h2,h3⟩
theorem RErrQ.form {z:RCr} {e:Int} {v:Value} {I' H':List It} (h:RErrQ z e v I' H'):FormR v I' H':= .inl ⟨z,e,h⟩
theorem RSentY.form {z:RCr} {f:Fr} {v:Value} {I' H':List It} (h:RSentY z f v I' H'):FormR v I' H':=by
 obtain ⟨rb,rc,bo,bc,so,soc,h1,h2,h3⟩:=h
 exact .inr ⟨_,rb,rc,_,h1,h2,h3⟩
theorem SendQ.form {z:Crw} {n:Int} {r:Rdg} {v:Value} {I' H':List It} (h:SendQ z n r v I' H'):FormZ v I' H':=by
 rcases h with ⟨_,h⟩ | ⟨A,B,x,_,_,⟨_,h⟩ | ⟨_,i,⟨_,h1,h2⟩ | ⟨_,rb,rc,bo,bc,so,soc,E',h1,h2,_⟩⟩⟩
 ·exact h.form
 ·exact h.form
 ·exact .inl ⟨_,_,h1,i,h2⟩
 ·exact .inr ⟨_,rb,rc,_,h1,i,h2⟩
theorem RollQ.form {z:Crw} {n:Int} {v:Value} {I' H':List It} (h:RollQ z n v I' H'):FormZ v I' H':=by
 rcases h with ⟨_,h⟩ | ⟨A,B,x,_,_,⟨_,h⟩ | ⟨_,i,⟨_,h1,h2⟩ | ⟨_,rb,rc,bo,bc,so,soc,E',h1,h2,_⟩⟩⟩
 ·exact h.form
 ·exact h.form
 ·exact .inl ⟨_,_,h1,i,h2⟩
 ·exact .inr ⟨_,rb,rc,_,h1,i,h2⟩
theorem RSendQ.form {z:RCr} {n:Int} {r:Rdg} {v:Value} {I' H':List It} (h:RSendQ z n r v I' H'):FormR v I' H':=by
 rcases h with ⟨_,h⟩ | ⟨s,_,⟨_,h⟩ | ⟨_,i,⟨_,h1,h2⟩ | ⟨_,rb,rc,bo,bc,so,soc,h1,h2⟩⟩⟩
 ·exact h.form
 ·exact h.form
 ·exact .inl ⟨_,_,h1,i,h2⟩
 ·exact .inr ⟨_,rb,rc,_,h1,i,h2⟩
theorem RRollQ.form {z:RCr} {n:Int} {v:Value} {I' H':List It} (h:RRollQ z n v I' H'):FormR v I' H':=by
 rcases h with ⟨_,h⟩ | ⟨s,_,⟨_,h⟩ | ⟨_,i,⟨_,h1,h2⟩ | ⟨_,rb,rc,bo,bc,so,soc,h1,h2⟩⟩⟩
 ·exact h.form
 ·exact h.form
 ·exact .inl ⟨_,_,h1,i,h2⟩
 ·exact .inr ⟨_,rb,rc,_,h1,i,h2⟩
theorem FarQ.form {z:Crw} {t:Int} {q:B8} {p0 p1 p2:Int} {v:Value} {I' H':List It} (h:FarQ z t q p0 p1 p2 v I' H'):FormZ v I' H':=by
 rcases h with ⟨_,h⟩ | ⟨_,h⟩ <;> exact h.form
theorem RFarQ.form {z:RCr} {t:Int} {q:B8} {p0 p1 p2:Int} {v:Value} {I' H':List It} (h:RFarQ z t q p0 p1 p2 v I' H'):FormR v I' H':=by
 rcases h with ⟨_,h⟩ | ⟨_,h⟩
 ·exact h.form
 ·exact RSentY.form h
theorem KeyQ.form {z:Crw} {t:Int} {v:Value} {I' H':List It} (h:KeyQ z t v I' H'):FormZ v I' H':=by
 rcases h with ⟨_,h⟩ | ⟨_,h⟩ <;> exact h.form
theorem RKeyQ.form {z:RCr} {t:Int} {v:Value} {I' H':List It} (h:RKeyQ z t v I' H'):FormR v I' H':=by
 rcases h with ⟨_,h⟩ | ⟨_,h⟩
 ·exact h.form
 ·exact RSentY.form h
inductive St (y y':RCr):List Fr→Prop
 | non (ep:y'.ep=y.ep) (ct:∀i,y.ct i≤y'.ct i):St y y' []
 | emt (f:Fr) (h:Emt y.c y.ep y.ct y'.ep y'.ct f):St y y' [f]
structure Nx (z:Crw) (y:RCr) (z':Crw) (y':RCr):Prop where
 al:EAl z' y'
 zb:z'.b=z.b
 yb:y'.b=y.b
 yc:y'.c=y.c
 oa:y'.oa=y.oa
 ca:y'.ca=y.ca
 l:z'.l.length≤z.l.length+1
 st:∃fs,z'.l.map FrO.f=z.l.map FrO.f++fs∧St y y' fs
def DoneP (z:Crw) (y:RCr) (b c e f:Value) (H:List It):Prop:=∃z' y' e0,Nx z y z' y'∧e= .int .i64 e0∧f= .int .i64 e0∧
 ((b= .slice none 0 0∧c= .slice none 0 0∧H= [crwI z',rcrI y'])∨∃rb rc rb' rc' l,l.length≤1000∧b=slO rb l.length rc∧c=slO rb' l.length rc'∧H= [crwI z',own rb rc 5 1 l.length (bytes l),rcrI y',own rb' rc' 5 1 l.length (bytes l)])
theorem both_done {z:Crw} {y:RCr} (hal:EAl z y) (hl:z.l.length < 1000) {b c e f:Value} {I' H' I2 H2:List It} (h:BothQ z y (.tuple #[b,e]) I' H' (.tuple #[c,f]) I2 H2):DoneP z y b c e f (H'++H2):=by
 rcases h with ⟨e0,⟨h1, -,h2⟩,⟨h3, -,h4⟩⟩ | ⟨T,y1,g,⟨rb,rc,bo,bc,so,soc,E',h1, -,h2,h5⟩,⟨rb',rc',bo',bc',so',soc',h3, -,h4⟩,hf,hA,hb,hc,ho,ha,hemt⟩
 ·simp at h1 h3
  exact ⟨z,y,e0,⟨hal,rfl,rfl,rfl,rfl,rfl,zb, [],zm, .non rfl fun _=> Nat.le_refl _⟩,h1.2,h3.2, .inl ⟨h1.1,h3.1,by rw [h2,h4];rfl⟩⟩
 ·simp at h1 h3
  have hp:=hA.put (so:=so) (soc:=soc) (so':=so') (soc':=soc') (bo':=bo') (bc':=bc') hf hl h5
  have hbl:=hf.b
  refine ⟨_,_,0,⟨hp,rfl,hb,hc,ho,ha,by show (z.l++ [_]).length≤_;simp, [g],by show (z.l++ [_]).map FrO.f=_;rw [List.map_append];rfl, .emt g hemt⟩,h1.2,h3.2, .inr ⟨rb,rc,rb',rc',frB g,by rw [frB_len hf.ok.tag];omega,h1.1,h3.1,by rw [h2,h4];rfl⟩⟩
def DoR (z:Crw) (y:RCr):Value→List It→List It→Prop:=fun v I' H'=> v= .bool true∧I'= []∧∃z' y',H'= [crwI z',rcrI y']∧Nx z y z' y'
theorem act33_s (a:Act33):a.cells[0+3+12]? =some (U8 a.r.seq):=rfl
def DG:Type:=Value×Value×Value×Value×List It
theorem do33_any (z:Crw) (y:RCr) (a:Act33) (ha:a.Ok) (hal:EAl z y) (hl:z.l.length < 1000):Spc prog 15 #[.pointer (some ⟨z.b,0,none⟩), .pointer (some ⟨y.b,0,none⟩), .agg a.cells.toArray] [rcrS y] [crwI z,rcrI y] (DoR z y):=by
 have h61:=act33_len a
 have hly:y.l.length < 1000:=by rw [←hal.len];exact hl
 have hn:=ha.n
 obtain ⟨m,hm⟩:∃m:Nat,a.n=(m:Int):=⟨a.n.toNat,zb⟩
 have hps:wfk .i64 a.r.p0∧wfk .i64 a.r.p1∧wfk .i64 a.r.p2:=⟨ha.r.p0,ha.r.p1,ha.r.p2⟩
 refine Spc.en func15 rfl rfl (fun w0 hw0=> ?_)
 refine CW.sg [0] [] (RL.box rfl ?_)
 intro b1
 refine RL.pn rfl (CW.ss (CW.fP (A:= [cel b1 a.cells 71]) (B:= [crwI z,rcrI y]) pE rfl ?_))
 refine CW.gI (fun J hJ=> ?_)
 have mA:cel b1 a.cells 71∈J:=hJ _ zm
 have mS:rcrS y∈J:=hJ _ zm
 clear hJ
 have rD:RdI J ⟨b1,0+0,none⟩ (.int .i64 a.d):=⟨fun _=> Rd.celI mA rfl⟩
 have rS:RdI J ⟨b1,0+1,none⟩ (.int .i64 a.s):=⟨fun _=> Rd.celI mA rfl⟩
 have rT:RdI J ⟨b1,0+2,none⟩ (.int .i64 a.t):=⟨fun _=> Rd.celI mA rfl⟩
 have rN:RdI J ⟨b1,0+60,none⟩ (.int .u64 (m:Int)):=⟨fun _=> Rd.celI mA (by rw [←hm];rfl)⟩
 have rR:RdsN J ⟨b1,0+3,none⟩ 57 a.r.cells:=RdsN.told mA (act33_r a) rfl
 have rQ:RdI J ⟨b1,0+3+12,none⟩ (U8 a.r.seq):=⟨fun _=> Rd.getI mA (act33_s a)⟩
 have rP:RdsN J ⟨b1,0+3+13,none⟩ 3 [.int .i64 a.r.p0, .int .i64 a.r.p1, .int .i64 a.r.p2]:=RdsN.told mA (fun j u hj=> by
  rcases j with _ | _ | _ | j <;> first | exact hj | (exfalso;simp at hj)) rfl
 refine CW.rg (RL.qn rfl (CW.s1 rfl (CW.ss (CW.sr ?_))))
 refine RL.fa fa_71_0 rfl (RL.lq isAgg3 rfl ?_)
 refine RL.vq (among_any a.d 11 zc zc) call43 rfl ?_
 refine RL.pn rfl (CW.ok [0,1,5,6,7,8,11] rfl ?_)
 refine CW.cutG (γ:=DG) (fun g=> DoneP z y g.1 g.2.1 g.2.2.1 g.2.2.2.1 g.2.2.2.2) (fun g=> [(7,g.1),(8,g.2.1),(9,g.2.2.1),(10,g.2.2.2.1)]) (fun _=> J) (fun g=> g.2.2.2.2) ?_ ?_
 ·
  refine CW.bb (CW.sr (RL.p rfl (RL.qn rfl ?_)))
  refine CW.cd rfl (fun h1=> ?_) (fun h1=> ?_)
  ·
   refine CW.sg [5] [5] (RL.p rfl (RL.fa fa_71_1 rfl (RL.lq isAgg3 rfl ?_)))
   refine RL.fa fa_71_3 rfl (RL.lS isAgg69 sizeOf69 rfl ?_)
   refine RL.cq (eSend_any z a.s a.r ha.r hal.zo hl) call19 rfl (.inr rfl) ?_
   rintro v I' H' hv
   rcases hv.form with ⟨z',e0,rfl,rfl,rfl⟩ | ⟨z',rb,rc,l,rfl,rfl,rfl⟩
   ·
    refine RL.q rfl (RL.p rfl (RL.qn rfl (CW.ok [0,1,5,6,7,8,9,11] rfl (CW.rn (ef:= [5]) (bk:= [5]) (RL.p rfl (RL.fa fa_71_1 rfl (RL.lq isAgg3 rfl ?_)))))))
    refine RL.fa fa_71_3 rfl (RL.lS isAgg69 sizeOf69 rfl ?_)
    refine RL.cc (rSend_any y a.s a.r ha.r hal.yo hly) call44 rfl pE (.inI mS .nil) (.inr rfl) ?_
    rintro v2 I2 H2 hv2
    rcases hv2.form with ⟨y',e1,rfl,rfl,rfl⟩ | ⟨y',rb',rc',l',rfl,rfl,rfl⟩
    ·
     refine RL.q rfl (RL.q rfl (RL.p rfl (RL.ee (NQ.bb ?_))))
     exact NQ.gg (γ:=DG) (.slice none 0 0, .slice none 0 0, .int .i64 e0, .int .i64 e1, [crwI z']++ [rcrI y']) (both_done hal hl (send_both hal hv hv2)) sE wE
    ·
     refine RL.q rfl (RL.q rfl (RL.p rfl (RL.ee (NQ.bb ?_))))
     exact NQ.gg (γ:=DG) (.slice none 0 0,slO rb' l'.length rc', .int .i64 e0, .int .i64 0, [crwI z']++ [rcrI y',own rb' rc' 5 1 l'.length (bytes l')]) (both_done hal hl (send_both hal hv hv2)) sE wE
   ·
    refine RL.q rfl (RL.p rfl (RL.qn rfl (CW.ok [0,1,5,6,7,8,9,11] rfl (CW.rn (ef:= [5]) (bk:= [5]) (RL.p rfl (RL.fa fa_71_1 rfl (RL.lq isAgg3 rfl ?_)))))))
    refine RL.fa fa_71_3 rfl (RL.lS isAgg69 sizeOf69 rfl ?_)
    refine RL.cc (rSend_any y a.s a.r ha.r hal.yo hly) call44 rfl pE (.inI mS .nil) (.inr rfl) ?_
    rintro v2 I2 H2 hv2
    rcases hv2.form with ⟨y',e1,rfl,rfl,rfl⟩ | ⟨y',rb',rc',l',rfl,rfl,rfl⟩
    ·
     refine RL.q rfl (RL.q rfl (RL.p rfl (RL.ee (NQ.bb ?_))))
     exact NQ.gg (γ:=DG) (slO rb l.length rc, .slice none 0 0, .int .i64 0, .int .i64 e1, [crwI z',own rb rc 5 1 l.length (bytes l)]++ [rcrI y']) (both_done hal hl (send_both hal hv hv2)) sE wE
    ·
     refine RL.q rfl (RL.q rfl (RL.p rfl (RL.ee (NQ.bb ?_))))
     exact NQ.gg (γ:=DG) (slO rb l.length rc,slO rb' l'.length rc', .int .i64 0, .int .i64 0, [crwI z',own rb rc 5 1 l.length (bytes l)]++ [rcrI y',own rb' rc' 5 1 l'.length (bytes l')]) (both_done hal hl (send_both hal hv hv2)) sE wE
  ·
   refine CW.sr (RL.p rfl (RL.qn rfl ?_))
   refine CW.cd rfl (fun h2=> ?_) (fun h2=> ?_)
   ·
    refine CW.sg [3] [3] (RL.p rfl (RL.fa fa_71_1 rfl (RL.lq isAgg3 rfl ?_)))
    refine RL.cq (eRoll_any z a.s hal.zo hl) call20 rfl (.inr rfl) ?_
    rintro v I' H' hv
    rcases hv.form with ⟨z',e0,rfl,rfl,rfl⟩ | ⟨z',rb,rc,l,rfl,rfl,rfl⟩
    ·
     refine RL.q rfl (RL.p rfl (RL.qn rfl (CW.ok [0,1,5,6,7,8,9,11] rfl (CW.rn (ef:= [3]) (bk:= [3]) (RL.p rfl (RL.fa fa_71_1 rfl (RL.lq isAgg3 rfl ?_)))))))
     refine RL.cc (rRoll_any y a.s hal.yo hly) call45 rfl pE (.inI mS .nil) (.inr rfl) ?_
     rintro v2 I2 H2 hv2
     rcases hv2.form with ⟨y',e1,rfl,rfl,rfl⟩ | ⟨y',rb',rc',l',rfl,rfl,rfl⟩
     ·
      refine RL.q rfl (RL.q rfl (RL.p rfl (RL.ee (NQ.bb ?_))))
      exact NQ.gg (γ:=DG) (.slice none 0 0, .slice none 0 0, .int .i64 e0, .int .i64 e1, [crwI z']++ [rcrI y']) (both_done hal hl (roll_both hal hv hv2)) sE wE
     ·
      refine RL.q rfl (RL.q rfl (RL.p rfl (RL.ee (NQ.bb ?_))))
      exact NQ.gg (γ:=DG) (.slice none 0 0,slO rb' l'.length rc', .int .i64 e0, .int .i64 0, [crwI z']++ [rcrI y',own rb' rc' 5 1 l'.length (bytes l')]) (both_done hal hl (roll_both hal hv hv2)) sE wE
    ·
     refine RL.q rfl (RL.p rfl (RL.qn rfl (CW.ok [0,1,5,6,7,8,9,11] rfl (CW.rn (ef:= [3]) (bk:= [3]) (RL.p rfl (RL.fa fa_71_1 rfl (RL.lq isAgg3 rfl ?_)))))))
     refine RL.cc (rRoll_any y a.s hal.yo hly) call45 rfl pE (.inI mS .nil) (.inr rfl) ?_
     rintro v2 I2 H2 hv2
     rcases hv2.form with ⟨y',e1,rfl,rfl,rfl⟩ | ⟨y',rb',rc',l',rfl,rfl,rfl⟩
     ·
      refine RL.q rfl (RL.q rfl (RL.p rfl (RL.ee (NQ.bb ?_))))
      exact NQ.gg (γ:=DG) (slO rb l.length rc, .slice none 0 0, .int .i64 0, .int .i64 e1, [crwI z',own rb rc 5 1 l.length (bytes l)]++ [rcrI y']) (both_done hal hl (roll_both hal hv hv2)) sE wE
     ·
      refine RL.q rfl (RL.q rfl (RL.p rfl (RL.ee (NQ.bb ?_))))
      exact NQ.gg (γ:=DG) (slO rb l.length rc,slO rb' l'.length rc', .int .i64 0, .int .i64 0, [crwI z',own rb rc 5 1 l.length (bytes l)]++ [rcrI y',own rb' rc' 5 1 l'.length (bytes l')]) (both_done hal hl (roll_both hal hv hv2)) sE wE
   ·
    refine CW.sr (RL.p rfl (RL.qn rfl (CW.ok [0,1,5,6,7,8,11,67] rfl ?_)))
    refine CW.cd rfl (fun h3=> ?_) (fun h3=> ?_)
    ·
     refine CW.rD (Sq.of [0,1,2,3,4,6,7,8,9,10,5,11,12,13]) [5,11] [5,11] [0,1,2,3,4,6,7,8,9,10,12,13] mixed zi ?_
     refine RL.p rfl (RL.fa fa_71_1 rfl (RL.lT isAgg3 rfl ?_))
     refine RL.fa fa_71_4 rfl (RL.lT isAgg32 rfl ?_)
     refine RL.p rfl (RL.fa fa_71_1 rfl (RL.lT isAgg3 rfl ?_))
     refine RL.fa fa_71_4 rfl (RL.lT isAgg32 rfl ?_)
     refine RL.cq (eSkip_any z a.s m hal.zo zb) call24 rfl (.inr rfl) ?_
     rintro v I' H' hv
     have hI:I'= []∧∃z',H'= [crwI z']:=by
      rcases hv with ⟨_,_,i,h⟩ | ⟨_,_,_,_,_,_,i,h⟩
      ·exact ⟨i,_,h⟩
      ·exact ⟨i,_,h⟩
     obtain ⟨rfl,z1,rfl⟩:=hI
     refine RL.cc (rSkip_any y a.s m hal.yo zb) call46 rfl pE (.inI mS .nil) (.inr rfl) ?_
     rintro v2 I2 H2 hv2
     obtain ⟨e0,z',y',rfl,rfl, -,rfl,hH,rfl,hA,hzb,hzl,hyb,hyc,hyo,hya,hyl,hye,hyt⟩:=skip_both hal hv hv2
     refine RL.q rfl (RL.ee (NQ.bb ?_))
     exact NQ.gg (γ:=DG) (.slice none 0 0, .slice none 0 0, .int .i64 e0, .int .i64 e0, [crwI z',rcrI y']) ⟨z',y',e0,⟨hA,hzb,hyb,hyc,hyo,hya,by rw [hzl];omega, [],by rw [hzl];simp, .non hye hyt⟩,rfl,rfl, .inl ⟨rfl,rfl,rfl⟩⟩ sE (fun w h=> by rw [(List.cons.inj hH).1] at h;exact h.rea (fun _ h=> h) rE)
    ·
     refine CW.sr (RL.p rfl (RL.qn rfl ?_))
     refine CW.cd rfl (fun h4=> ?_) (fun h4=> ?_)
     ·
      refine CW.sg [9] [9] (RL.p rfl (RL.fa fa_71_2 rfl (RL.lq isAgg3 rfl ?_)))
      refine RL.fa fa_71_3 rfl (RL.fa fa_69_8 rfl (RL.lq isAgg5 rfl ?_))
      refine RL.fa fa_71_3 rfl (RL.fa fa_69_9 rfl (RL.lS isAgg27 sizeOf27 rfl ?_))
      refine RL.cq (eFar_any z a.t a.r.seq a.r.p0 a.r.p1 a.r.p2 hps hal.zo hl) call21 rfl (.inr rfl) ?_
      rintro v I' H' hv
      rcases hv.form with ⟨z',e0,rfl,rfl,rfl⟩ | ⟨z',rb,rc,l,rfl,rfl,rfl⟩
      ·
       refine RL.q rfl (RL.p rfl (RL.qn rfl (CW.ok [0,1,5,6,7,8,9,11] rfl (CW.rn (ef:= [9]) (bk:= [9]) (RL.p rfl (RL.fa fa_71_2 rfl (RL.lq isAgg3 rfl ?_)))))))
       refine RL.fa fa_71_3 rfl (RL.fa fa_69_8 rfl (RL.lq isAgg5 rfl ?_))
       refine RL.fa fa_71_3 rfl (RL.fa fa_69_9 rfl (RL.lS isAgg27 sizeOf27 rfl ?_))
       refine RL.cc (rFar_any y a.t a.r.seq a.r.p0 a.r.p1 a.r.p2 hps hal.yo hly) call47 rfl pE (.inI mS .nil) (.inr rfl) ?_
       rintro v2 I2 H2 hv2
       rcases hv2.form with ⟨y',e1,rfl,rfl,rfl⟩ | ⟨y',rb',rc',l',rfl,rfl,rfl⟩
       ·
        refine RL.q rfl (RL.q rfl (RL.p rfl (RL.ee (NQ.bb ?_))))
        exact NQ.gg (γ:=DG) (.slice none 0 0, .slice none 0 0, .int .i64 e0, .int .i64 e1, [crwI z']++ [rcrI y']) (both_done hal hl (far_both hal hv hv2)) sE wE
       ·
        refine RL.q rfl (RL.q rfl (RL.p rfl (RL.ee (NQ.bb ?_))))
        exact NQ.gg (γ:=DG) (.slice none 0 0,slO rb' l'.length rc', .int .i64 e0, .int .i64 0, [crwI z']++ [rcrI y',own rb' rc' 5 1 l'.length (bytes l')]) (both_done hal hl (far_both hal hv hv2)) sE wE
      ·
       refine RL.q rfl (RL.p rfl (RL.qn rfl (CW.ok [0,1,5,6,7,8,9,11] rfl (CW.rn (ef:= [9]) (bk:= [9]) (RL.p rfl (RL.fa fa_71_2 rfl (RL.lq isAgg3 rfl ?_)))))))
       refine RL.fa fa_71_3 rfl (RL.fa fa_69_8 rfl (RL.lq isAgg5 rfl ?_))
       refine RL.fa fa_71_3 rfl (RL.fa fa_69_9 rfl (RL.lS isAgg27 sizeOf27 rfl ?_))
       refine RL.cc (rFar_any y a.t a.r.seq a.r.p0 a.r.p1 a.r.p2 hps hal.yo hly) call47 rfl pE (.inI mS .nil) (.inr rfl) ?_
       rintro v2 I2 H2 hv2
       rcases hv2.form with ⟨y',e1,rfl,rfl,rfl⟩ | ⟨y',rb',rc',l',rfl,rfl,rfl⟩
       ·
        refine RL.q rfl (RL.q rfl (RL.p rfl (RL.ee (NQ.bb ?_))))
        exact NQ.gg (γ:=DG) (slO rb l.length rc, .slice none 0 0, .int .i64 0, .int .i64 e1, [crwI z',own rb rc 5 1 l.length (bytes l)]++ [rcrI y']) (both_done hal hl (far_both hal hv hv2)) sE wE
       ·
        refine RL.q rfl (RL.q rfl (RL.p rfl (RL.ee (NQ.bb ?_))))
        exact NQ.gg (γ:=DG) (slO rb l.length rc,slO rb' l'.length rc', .int .i64 0, .int .i64 0, [crwI z',own rb rc 5 1 l.length (bytes l)]++ [rcrI y',own rb' rc' 5 1 l'.length (bytes l')]) (both_done hal hl (far_both hal hv hv2)) sE wE
     ·
      refine CW.sg [3] [3] (RL.p rfl (RL.fa fa_71_2 rfl (RL.lq isAgg3 rfl ?_)))
      refine RL.cq (eKey_any z a.t hal.zo hl) call22 rfl (.inr rfl) ?_
      rintro v I' H' hv
      rcases hv.form with ⟨z',e0,rfl,rfl,rfl⟩ | ⟨z',rb,rc,l,rfl,rfl,rfl⟩
      ·
       refine RL.q rfl (RL.p rfl (RL.qn rfl (CW.ok [0,1,5,6,7,8,9,11] rfl (CW.rn (ef:= [3]) (bk:= [3]) (RL.p rfl (RL.fa fa_71_2 rfl (RL.lq isAgg3 rfl ?_)))))))
       refine RL.cc (rKey_any y a.t hal.yo hly) call48 rfl pE (.inI mS .nil) (.inr rfl) ?_
       rintro v2 I2 H2 hv2
       rcases hv2.form with ⟨y',e1,rfl,rfl,rfl⟩ | ⟨y',rb',rc',l',rfl,rfl,rfl⟩
       ·
        refine RL.q rfl (RL.q rfl (RL.p rfl (RL.ee (NQ.bb ?_))))
        exact NQ.gg (γ:=DG) (.slice none 0 0, .slice none 0 0, .int .i64 e0, .int .i64 e1, [crwI z']++ [rcrI y']) (both_done hal hl (key_both hal hv hv2)) sE wE
       ·
        refine RL.q rfl (RL.q rfl (RL.p rfl (RL.ee (NQ.bb ?_))))
        exact NQ.gg (γ:=DG) (.slice none 0 0,slO rb' l'.length rc', .int .i64 e0, .int .i64 0, [crwI z']++ [rcrI y',own rb' rc' 5 1 l'.length (bytes l')]) (both_done hal hl (key_both hal hv hv2)) sE wE
      ·
       refine RL.q rfl (RL.p rfl (RL.qn rfl (CW.ok [0,1,5,6,7,8,9,11] rfl (CW.rn (ef:= [3]) (bk:= [3]) (RL.p rfl (RL.fa fa_71_2 rfl (RL.lq isAgg3 rfl ?_)))))))
       refine RL.cc (rKey_any y a.t hal.yo hly) call48 rfl pE (.inI mS .nil) (.inr rfl) ?_
       rintro v2 I2 H2 hv2
       rcases hv2.form with ⟨y',e1,rfl,rfl,rfl⟩ | ⟨y',rb',rc',l',rfl,rfl,rfl⟩
       ·
        refine RL.q rfl (RL.q rfl (RL.p rfl (RL.ee (NQ.bb ?_))))
        exact NQ.gg (γ:=DG) (slO rb l.length rc, .slice none 0 0, .int .i64 0, .int .i64 e1, [crwI z',own rb rc 5 1 l.length (bytes l)]++ [rcrI y']) (both_done hal hl (key_both hal hv hv2)) sE wE
       ·
        refine RL.q rfl (RL.q rfl (RL.p rfl (RL.ee (NQ.bb ?_))))
        exact NQ.gg (γ:=DG) (slO rb l.length rc,slO rb' l'.length rc', .int .i64 0, .int .i64 0, [crwI z',own rb rc 5 1 l.length (bytes l)]++ [rcrI y',own rb' rc' 5 1 l'.length (bytes l')]) (both_done hal hl (key_both hal hv hv2)) sE wE
 rintro ⟨b,c,e,f,H⟩ hd
 dsimp only at hd ⊢
 obtain ⟨z',y',e0,hx,rfl,rfl,hd⟩:=hd
 refine CW.sg [2] [] (RL.q rfl ?_)
 rcases hd with ⟨rfl,rfl,rfl⟩ | ⟨rb,rc,rb',rc',l,hll,rfl,rfl,rfl⟩
 ·
  refine RL.vv (same_any none none 0 0 0 0 [] []) call49 rfl (.of (fun w _=> sls_none w) (by simp [PK.sls]) (.of (fun w _=> sls_none w) (by simp [PK.sls]) .nil)) ?_
  refine RL.p rfl (RL.tt (d:=114) (v':= .bool true) rfl (zm) ?_)
  refine RL.q rfl (RL.p rfl (RL.qn rfl (CW.ok [6] rfl (CW.rr ?_))))
  exact RQ.pp (res1 rfl rfl) (.keep (.keep .nil)) ⟨zm,rfl,z',y',rfl,hx⟩
 ·
  refine RL.vv (same_any (rb.map fun b=> ⟨b,0,none⟩) (rb'.map fun b=> ⟨b,0,none⟩) _ _ rc rc' l l) call49 rfl (Lend.own mQ (Lend.own mQ .nil)) ?_
  refine RL.p rfl (RL.tt (d:=114) (v':= .bool true) rfl (zm) ?_)
  refine RL.q rfl (RL.p rfl (RL.qn rfl (CW.ok [6] rfl (CW.rr (RQ.rea (fun _ h=> h) (H':= [crwI z',rcrI y']) rE ?_)))))
  exact RQ.pp (res1 rfl rfl) (.keep (.keep .nil)) ⟨zm,rfl,z',y',rfl,hx⟩
end Go.Proofs.YtkineolcmdecjaaGreat
