import Derived.Test.YtkineolcmdecjaaGreatRA
namespace Go.Proofs.YtkineolcmdecjaaGreat
open Go.PK
open Tryz
def rfarE (z:RCr) (t:Int):Int:=if (aft (gnssS z.c).2 (z.c.sc.aN t) (z.c.sc.aE t)).2≠0 then (aft (gnssS z.c).2 (z.c.sc.aN t) (z.c.sc.aE t)).2 else if (aft (gnssS z.c).2 (z.c.sc.aN t) (z.c.sc.aE t)).1=0∨z.K.length≤(aft (gnssS z.c).2 (z.c.sc.aN t) (z.c.sc.aE t)).1 then 5 else 0
def RSentQ (z:RCr) (f:Fr):Value→List It→List It→Prop:=fun v I' H'=> ∃rb rc bo bc so soc,v= .tuple #[slO rb (frB f).length rc, .int .i64 0]∧I'= []∧H'= [rcrI (z.put ⟨f,bo,bc⟩ so soc),own rb rc 5 1 (frB f).length (bytes (frB f))]
def RFarQ (z:RCr) (t:Int) (q:B8) (p0 p1 p2:Int):Value→List It→List It→Prop:=fun v I' H'=> (rfarE z t≠0∧RErrQ z (rfarE z t) v I' H')∨(rfarE z t=0∧RSentQ z (farF z.c z.K (z.c.sc.aN t) q p0 p1 p2) v I' H')
theorem rcr_sc {z:RCr} (h:z.c.cm.length=32):∀(j:Nat) (u:Value), [Value.int .i64 z.c.sc.st, .int .i64 z.c.sc.ln, .int .i64 z.c.sc.lg, .int .i64 z.c.sc.of][j]? =some u→z.cells[0+0+5+j]? =some u:=fun j u hj=> by
 have:=rcr_c h (0+0+5+j) u (sch_seg z.c _ j u hj)
 rwa [Nat.zero_add] at this
theorem rgnss_id {z:RCr} (hz:z.Ok):0≤(gnssS z.c).1.id∧(gnssS z.c).1.id≤7:=by
 unfold gnssS pickS
 cases h:z.c.L.find? fun s=> s.kd==5 with
 | none=> exact ⟨zc,zc⟩
 | some s=> exact (hz.L s (List.mem_of_find?_eq_some h)).2
theorem rfar_fit {z:RCr} (hz:z.Ok) {i:Nat} {q:B8} {p0 p1 p2:Int} (hi:i < 4294967296):(farF z.c z.K i q p0 p1 p2).Fit:=
 ⟨⟨by show 0 < 4294967296;decide,by show i < 18446744073709551616;omega,macTag_len _ _⟩,⟨by show (0:Int)≤5;decide,by show (5:Int)≤255;decide⟩,⟨(rgnss_id hz).1,by have:=(rgnss_id hz).2;show (gnssS z.c).1.id≤255;omega⟩,putB_len48 _⟩
theorem rkey_fit {z:RCr} (hz:z.Ok) {i:Nat} (hi:i < 4294967296):(keyF z.c z.K i).Fit:=
 ⟨⟨by show 0 < 4294967296;decide,by show i < 18446744073709551616;omega,rfl⟩,⟨by show (0:Int)≤6;decide,by show (6:Int)≤255;decide⟩,⟨(rgnss_id hz).1,by have:=(rgnss_id hz).2;show (gnssS z.c).1.id≤255;omega⟩,putB_len48 _⟩
theorem rFar_any (z:RCr) (t:Int) (q:B8) (p0 p1 p2:Int) (hp:wfk .i64 p0∧wfk .i64 p1∧wfk .i64 p2) (hz:z.Ok) (hm:z.l.length < 1000):Spc prog 47 #[.pointer (some ⟨z.b,0,none⟩), .int .i64 t,U8 q, .agg #[.int .i64 p0, .int .i64 p1, .int .i64 p2]] [rcrS z] [rcrI z] (RFarQ z t q p0 p1 p2):=by
 have hsat:=rsat_any z.c.sc t
 rw [atV_eq] at hsat
 have hof:=rcof_any z.c z.oa z.ca _ 5 rfl hz.fit (by have:=hz.n;omega)
 have hlt:=aN_lt z.c.sc t
 have hid:=rgnss_id hz
 have hK1:=hz.K1
 have hrt:(gnssS z.c).1.rt.length=32:=(pickS_fit hz.fit.L).rt
 have h48:=sr_len hrt
 have h45:=cf_len hz.cm (slO z.oa z.c.L.length z.ca)
 have hE:rfarE z t=rfarE z t:=rfl
 conv at hE=> rhs;rw [rfarE]
 have hQ:∀v I' H',rfarE z t=0→RSentQ z (farF z.c z.K (z.c.sc.aN t) q p0 p1 p2) v I' H'→RFarQ z t q p0 p1 p2 v I' H':=fun v I' H' h1 h2=> .inr ⟨h1,h2⟩
 have hgs:∃s,(gnssS z.c).1=s:=⟨_,rfl⟩
 generalize hN:z.c.sc.aN t=n at hsat hlt hE hQ
 generalize z.c.sc.aE t=e at hsat hE
 change Spc _ _ _ _ _ (Is (FndV (gnssS z.c))) at hof
 have hfar:=fun i=> rfar_fit hz (i:=i) (q:=q) (p0:=p0) (p1:=p1) (p2:=p2)
 have hFe:∀k,z.K[n]? =some k→farF z.c z.K n q p0 p1 p2=(⟨5,(gnssS z.c).1.id,0,n,putB (farR n q p0 p1 p2),List.replicate 16 0#8⟩:Fr).tsign k n:=fun k hk=> by rw [farF,List.getD_eq_getElem?_getD,hk];rfl
 generalize hg:gnssS z.c=g at hof hid hrt h48 hE hFe
 obtain ⟨s,ok⟩:=g
 dsimp only at hid hrt h48 hE hFe
 refine Spc.en func47 rfl rfl (fun w0 hw0=> ?_)
 refine CW.sg [0] [] (RL.box rfl ?_)
 intro b1
 refine RL.qn rfl (CW.sg [8,9] [9] (RL.q rfl (RL.fa fa_108_0 rfl (RL.ld (vs:=z.c.cells (slO z.oa z.c.L.length z.ca)) isAgg47 (by rw [h45];exact sizeOf47) rfl (Rds.lie mQ (lie_rc z) (rcr_c hz.cm)) ?_))))
 refine RL.vv (hof) call87 rfl (.inI mQ .nil) ?_
 refine RL.q rfl (RL.p rfl (RL.al zeroValue59 rfl ?_))
 intro b2
 refine RL.sW sizeOf59 rfl (sr_ones s) uE h48 rfl ?_
 refine RL.pn rfl (CW.ok [0,1,2,7,10,11] rfl (CW.ss (CW.s1 rfl ?_)))
 cases ok with
 | false=>
  rw [show aft false n e=(0,5) from rfl,if_pos zc] at hE
  refine CW.cT rfl (rfl) (CW.s1 rfl (CW.rr (RQ.ss (RQ.rea (fun _ h=> h) (H':= [rcrI z]) rE ?_))))
  exact RQ.pp (res2 rfl rfl rfl) (.keep .nil) (.inl ⟨by rw [hE];exact zc,congrArg (fun e=> Value.tuple #[.slice none 0 0, .int .i64 e]) hE.symm,rfl,rfl⟩)
 | true=>
  rw [show aft true n e=(n,e) from rfl] at hE
  dsimp only at hE
  refine CW.cF rfl (rfl) (CW.sn (CW.sr (RL.q rfl (RL.fa fa_108_0 rfl (RL.fa fa_47_3 rfl (RL.ld (vs:= [.int .i64 z.c.sc.st, .int .i64 z.c.sc.ln, .int .i64 z.c.sc.lg, .int .i64 z.c.sc.of]) isAgg45 sizeOf45 rfl (Rds.lie mQ (lie_rc z) (rcr_sc hz.cm)) ?_))))))
  refine RL.p rfl (RL.vq (hsat) call88 rfl ?_)
  refine RL.q rfl (RL.p rfl (RL.qn rfl (CW.ok [0,2,7,10,12,13] rfl (CW.ss (CW.sr (RL.q rfl (RL.ee ?_)))))))
  refine NQ.ss ?_
  refine CW.cd rfl (fun h1=> ?_) (fun h1=> ?_)
  ·
   refine CW.sr (RL.p rfl (RL.qn rfl (CW.rr (RQ.ss ?_))))
   have h1:e≠0:=by simpa using h1
   rw [if_pos h1] at hE
   refine RQ.rea (fun _ h=> h) (H':= [rcrI z]) rE ?_
   exact RQ.pp (res2 rfl rfl rfl) (.keep .nil) (.inl ⟨by rw [hE];exact h1,congrArg (fun e=> Value.tuple #[.slice none 0 0, .int .i64 e]) hE.symm,rfl,rfl⟩)
  ·
   refine CW.sn (CW.ss (CW.sr (RL.q rfl (RL.p rfl ?_))))
   apply RL.orB (d:=42) (dp:=51) (l':=(Sq.of [])) rfl (sK [0,2,7,10,12] rfl)
   ·
    intro hb3 K3
    refine RL.p rfl (RL.conv runUnderlying61 runUnderlying3 rfl (RL.tt (d:=44) rfl (wrapV_i64 (n:=(n:Int)) zb zb) ?_))
    refine RL.q rfl (RL.fa fa_108_1 rfl (RL.load isAgg89 rfl (Rd.lie mQ (lie_rc z) (rcr_k hz.cm)) ?_))
    refine RL.lenS runUnderlying89 rfl (RL.q rfl ?_)
    exact K3 _ (.cons rfl (sK [0,2,7,10,12] rfl))
   ·
    intro hb3 K3
    refine RL.q rfl (RL.q rfl (RL.q rfl (RL.q rfl (RL.p rfl ?_))))
    exact K3 _ (.cons rfl (sK [0,2,7,10,12] rfl))
   refine RL.ns ?_
   have h1:e=0:=by simpa using h1
   rw [if_neg (by rw [h1];decide)] at hE
   refine CW.cd rfl (fun h2=> ?_) (fun h2=> ?_)
   ·
    refine CW.s1 rfl (CW.rr (RQ.ss ?_))
    rw [if_pos (by simp at h2;omega)] at hE
    refine RQ.rea (fun _ h=> h) (H':= [rcrI z]) rE ?_
    exact RQ.pp (res2 rfl rfl rfl) (.keep .nil) (.inl ⟨by rw [hE];exact zc,congrArg (fun e=> Value.tuple #[.slice none 0 0, .int .i64 e]) hE.symm,rfl,rfl⟩)
   ·
    have h2:n≠0∧n < z.K.length:=by simp at h2;omega
    rw [if_neg zb] at hE
    have hx:=List.getElem?_eq_getElem h2.2
    have hF:=hFe _ hx
    have hfit:=hfar n hlt
    rw [hF] at hfit
    have hq:=fun v I' H'=> hQ v I' H' hE
    rw [hF] at hq
    generalize z.K[n]=k at hx hF hfit hq
    have hkl:=hz.K k (List.mem_of_getElem? hx)
    have hbl:=putB_len48 (farR n q p0 p1 p2)
    refine CW.sn (CW.sg [4] [] (RL.q rfl (RL.lS isAgg27 sizeOf27 rfl ?_)))
    refine RL.bS (farR n q p0 p1 p2).cells zeroValue69 pl_69 rfl (RL.cc (rput_any (farR n q p0 p1 p2) (farR_ok hlt hp)) call89 rfl pE .nil (.inl rfl) ?_)
    rintro _ _ _ ⟨bo,bc,rfl,rfl,rfl⟩
    have hsg:=rtsign_any k n ⟨5,s.id,0,n,putB (farR n q p0 p1 p2),List.replicate 16 0#8⟩ (bo.map fun b=> ⟨b,0,none⟩) bc _ hkl hlt ⟨by show 0 < 4294967296;decide,by show n < 18446744073709551616;omega,rfl⟩ rfl (by show (putB (farR n q p0 p1 p2)).length≤900000;omega)
    have h21:=fr_len (f:=⟨5,s.id,0,n,putB (farR n q p0 p1 p2),List.replicate 16 0#8⟩) rfl (slO bo (putB (farR n q p0 p1 p2)).length bc)
    have hput:=rcput_any z ⟨(⟨5,s.id,0,n,putB (farR n q p0 p1 p2),List.replicate 16 0#8⟩:Fr).tsign k n,bo,bc⟩ hz.cm (Nat.le_of_lt hm) hfit
    rw [show bodyO ⟨(⟨5,s.id,0,n,putB (farR n q p0 p1 p2),List.replicate 16 0#8⟩:Fr).tsign k n,bo,bc⟩=own bo bc 5 1 (putB (farR n q p0 p1 p2)).length (bytes (putB (farR n q p0 p1 p2))) from rfl] at hput
    refine RL.q rfl (RL.p rfl (RL.qn rfl (CW.ok [0,10,12,14] rfl (CW.sg [6,7] [7] (RL.fa fa_59_0 rfl (RL.load isAgg3 rfl (Rd.get (v:= .int .i64 s.id) mQ rfl) ?_))))))
    refine RL.p rfl (RL.conv runUnderlying61 runUnderlying32 rfl (RL.tt (d:=63) (v':= .int .u64 (n:Int)) rfl (wrapV_u64 (n:=(n:Int)) zb zb) ?_))
    refine RL.p rfl (RL.bS ((⟨5,s.id,0,n,putB (farR n q p0 p1 p2),List.replicate 16 0#8⟩:Fr).cells (slO bo (putB (farR n q p0 p1 p2)).length bc)) zeroValue78 pl_78 (qP rfl (qP rfl (fill_fr0 rfl rfl))) (RL.al zeroValue78 rfl ?_))
    intro b3
    refine RL.sW sizeOf78 rfl (ones_fr _ rfl) uE h21 rfl ?_
    refine RL.ns (CW.ok [0,12,16] rfl (CW.ss (CW.rea (fun _ h=> h) (H':= [rcrI z,own bo bc 5 1 (putB (farR n q p0 p1 p2)).length (bytes (putB (farR n q p0 p1 p2))),cel b3 ((⟨5,s.id,0,n,putB (farR n q p0 p1 p2),List.replicate 16 0#8⟩:Fr).cells (slO bo (putB (farR n q p0 p1 p2)).length bc)) 78]) rE ?_)))
    refine CW.rD (Sq.of (rg 0 14)) [12] [12] [0,1,2,3,5,6,7,9,13,14] mixed zi ?_
    refine RL.q rfl (RL.p rfl (RL.fa fa_108_1 rfl (RL.load isAgg89 rfl (Rd.lie mQ (lie_rc z) (rcr_k hz.cm)) ?_)))
    refine RL.p rfl (RL.conv runUnderlying61 runUnderlying3 rfl (RL.tt (d:=72) rfl (wrapV_i64 (n:=(n:Int)) zb zb) ?_))
    refine RL.ix (j:=n) runUnderlying89 sizeOf31 rfl h2.2 (RL.ld (vs:=bytes k) isAgg31 (by rw [List.length_map,hkl];exact sizeOf31) rfl (Rds.lieK mQ (lie_rk z) hz.K hx) ?_)
    refine RL.p rfl (RL.lW isAgg78 sizeOf78 rfl mQ h21 ?_)
    refine RL.vv (hsg) call91 rfl (Lend.own (xs:=bytes (putB (farR n q p0 p1 p2))) mQ .nil) ?_
    refine RL.cq (hput) call90 rfl (.inr rfl) ?_
    rintro _ _ _ ⟨rb,rc,so,soc,rfl,rfl,rfl⟩
    refine RL.qn rfl (CW.ok [8,9] rfl (CW.rr ?_))
    exact RQ.pp (res2 rfl rfl rfl) (.keep (.keep (Split.nn _))) (hq _ _ _ ⟨rb,rc,bo,bc,so,soc,rfl,rfl,rfl⟩)
def rdueN (z:RCr) (t:Int):Nat:=min (aft (gnssS z.c).2 (z.c.sc.dN t) (z.c.sc.aE t)).1 (z.K.length - 1)
def rdueE (z:RCr) (t:Int):Int:=if (aft (gnssS z.c).2 (z.c.sc.dN t) (z.c.sc.aE t)).2≠0 then (aft (gnssS z.c).2 (z.c.sc.dN t) (z.c.sc.aE t)).2 else if rdueN z t=0 then 5 else 0
def RKeyQ (z:RCr) (t:Int):Value→List It→List It→Prop:=fun v I' H'=> (rdueE z t≠0∧RErrQ z (rdueE z t) v I' H')∨(rdueE z t=0∧RSentQ z (keyF z.c z.K (rdueN z t)) v I' H')
theorem rKey_any (z:RCr) (t:Int) (hz:z.Ok) (hm:z.l.length < 1000):Spc prog 48 #[.pointer (some ⟨z.b,0,none⟩), .int .i64 t] [rcrS z] [rcrI z] (RKeyQ z t):=by
 have hsat:=rsdue_any z.c.sc t
 rw [dueV_eq] at hsat
 have hof:=rcof_any z.c z.oa z.ca _ 5 rfl hz.fit (by have:=hz.n;omega)
 have hlt:=dN_lt z.c.sc t
 have hid:=rgnss_id hz
 have hK1:=hz.K1
 have hrt:(gnssS z.c).1.rt.length=32:=(pickS_fit hz.fit.L).rt
 have h48:=sr_len hrt
 have h45:=cf_len hz.cm (slO z.oa z.c.L.length z.ca)
 have hE:rdueE z t=rdueE z t:=rfl
 conv at hE=> rhs;rw [rdueE]
 have hD:rdueN z t=rdueN z t:=rfl
 conv at hD=> rhs;rw [rdueN]
 have hQ:∀v I' H',rdueE z t=0→RSentQ z (keyF z.c z.K (rdueN z t)) v I' H'→RKeyQ z t v I' H':=fun v I' H' h1 h2=> .inr ⟨h1,h2⟩
 generalize hN:z.c.sc.dN t=m at hsat hlt hE hD
 generalize z.c.sc.aE t=e at hsat hE hD
 change Spc _ _ _ _ _ (Is (FndV (gnssS z.c))) at hof
 have hfar:=fun i=> rkey_fit hz (i:=i)
 have hFe:∀n k,z.K[n]? =some k→keyF z.c z.K n=⟨6,(gnssS z.c).1.id,0,n,putB (keyR n k),List.replicate 16 0#8⟩:=fun n k hk=> by rw [keyF,List.getD_eq_getElem?_getD,hk];rfl
 generalize hg:gnssS z.c=g at hof hid hrt h48 hE hD hFe
 obtain ⟨s,ok⟩:=g
 dsimp only at hid hrt h48 hE hD hFe
 refine Spc.en func48 rfl rfl (fun w0 hw0=> ?_)
 refine CW.s1 rfl (CW.sg [8,9] [9] (RL.q rfl (RL.fa fa_108_0 rfl (RL.ld (vs:=z.c.cells (slO z.oa z.c.L.length z.ca)) isAgg47 (by rw [h45];exact sizeOf47) rfl (Rds.lie mQ (lie_rc z) (rcr_c hz.cm)) ?_))))
 refine RL.vv (hof) call87 rfl (.inI mQ .nil) ?_
 refine RL.q rfl (RL.p rfl (RL.al zeroValue59 rfl ?_))
 intro b1
 refine RL.sW sizeOf59 rfl (sr_ones s) uE h48 rfl ?_
 refine RL.pn rfl (CW.ok [0,1,6,7] rfl (CW.ss (CW.s1 rfl ?_)))
 cases ok with
 | false=>
  rw [show aft false m e=(0,5) from rfl,if_pos zc] at hE
  refine CW.cT rfl (rfl) (CW.s1 rfl (CW.rr (RQ.ss (RQ.rea (fun _ h=> h) (H':= [rcrI z]) rE ?_))))
  exact RQ.pp (res2 rfl rfl rfl) (.keep .nil) (.inl ⟨by rw [hE];exact zc,congrArg (fun e=> Value.tuple #[.slice none 0 0, .int .i64 e]) hE.symm,rfl,rfl⟩)
 | true=>
  rw [show aft true m e=(m,e) from rfl] at hE hD
  dsimp only at hE hD
  refine CW.cF rfl (rfl) (CW.sn (CW.sr (RL.q rfl (RL.fa fa_108_0 rfl (RL.fa fa_47_3 rfl (RL.ld (vs:= [.int .i64 z.c.sc.st, .int .i64 z.c.sc.ln, .int .i64 z.c.sc.lg, .int .i64 z.c.sc.of]) isAgg45 sizeOf45 rfl (Rds.lie mQ (lie_rc z) (rcr_sc hz.cm)) ?_))))))
  refine RL.p rfl (RL.vq (hsat) call92 rfl ?_)
  refine RL.q rfl (RL.p rfl (RL.qn rfl (CW.ok [0,6,8,9] rfl (CW.ss (CW.sr (RL.q rfl (RL.ee ?_)))))))
  refine NQ.ss ?_
  refine CW.cd rfl (fun h1=> ?_) (fun h1=> ?_)
  ·
   refine CW.sr (RL.p rfl (RL.qn rfl (CW.rr (RQ.ss ?_))))
   have h1:e≠0:=by simpa using h1
   rw [if_pos h1] at hE
   refine RQ.rea (fun _ h=> h) (H':= [rcrI z]) rE ?_
   exact RQ.pp (res2 rfl rfl rfl) (.keep .nil) (.inl ⟨by rw [hE];exact h1,congrArg (fun e=> Value.tuple #[.slice none 0 0, .int .i64 e]) hE.symm,rfl,rfl⟩)
  ·
   refine CW.sn (CW.sr (RL.p rfl (RL.conv runUnderlying61 runUnderlying3 rfl (RL.tt (d:=37) rfl (wrapV_i64 (n:=(m:Int)) zb zb) ?_))))
   refine RL.q rfl (RL.fa fa_108_1 rfl (RL.load isAgg89 rfl (Rd.lie mQ (lie_rc z) (rcr_k hz.cm)) ?_))
   refine RL.lenS runUnderlying89 rfl (RL.bx rfl (wrapV_i64 zb zb) ?_)
   refine RL.min rfl (RL.tt (d:=44) (v':= .int .i64 (rdueN z t:Int)) rfl (by congr 1;omega) ?_)
   refine RL.pn rfl (CW.ok [0,6,10] rfl (CW.ss (CW.s1 rfl ?_)))
   have h1:e=0:=by simpa using h1
   rw [if_neg (by rw [h1];decide)] at hE
   refine CW.cd rfl (fun h2=> ?_) (fun h2=> ?_)
   ·
    refine CW.s1 rfl (CW.rr (RQ.ss ?_))
    rw [if_pos (by simp at h2;omega)] at hE
    refine RQ.rea (fun _ h=> h) (H':= [rcrI z]) rE ?_
    exact RQ.pp (res2 rfl rfl rfl) (.keep .nil) (.inl ⟨by rw [hE];exact zc,congrArg (fun e=> Value.tuple #[.slice none 0 0, .int .i64 e]) hE.symm,rfl,rfl⟩)
   ·
    have h2:rdueN z t≠0:=by simp at h2;omega
    rw [if_neg h2] at hE
    have hn1:rdueN z t < z.K.length:=by omega
    have hn2:rdueN z t < 4294967296:=by omega
    clear hD
    have hq:=fun v I' H'=> hQ v I' H' hE
    generalize rdueN z t=n at hn1 hn2 h2 hq
    have hx:=List.getElem?_eq_getElem hn1
    have hF:=hFe n _ hx
    have hfit:=hfar n hn2
    rw [hF] at hfit hq
    generalize z.K[n]=k at hx hF hfit hq
    have hkl:=hz.K k (List.mem_of_getElem? hx)
    have hbl:=putB_len48 (keyR n k)
    refine CW.sn (CW.sg [10] [] (RL.p rfl (RL.conv runUnderlying3 runUnderlying61 rfl (RL.tt (d:=49) (v':= .int .u32 (n:Int)) rfl (wrapV_u32 (n:=(n:Int)) zb zb) ?_))))
    refine RL.q rfl (RL.fa fa_108_1 rfl (RL.load isAgg89 rfl (Rd.lie mQ (lie_rc z) (rcr_k hz.cm)) ?_))
    refine RL.p rfl (RL.ix (j:=n) runUnderlying89 sizeOf31 rfl hn1 (RL.ld (vs:=bytes k) isAgg31 (by rw [List.length_map,hkl];exact sizeOf31) rfl (Rds.lieK mQ (lie_rk z) hz.K hx) ?_))
    refine RL.bS (keyR n k).cells zeroValue69 pl_69 (qP rfl (qP rfl (fill_key hkl rfl))) (RL.cc (rput_any (keyR n k) (keyR_ok hn2)) call89 rfl pE .nil (.inl rfl) ?_)
    rintro _ _ _ ⟨bo,bc,rfl,rfl,rfl⟩
    have hput:=rcput_any z ⟨⟨6,s.id,0,n,putB (keyR n k),List.replicate 16 0#8⟩,bo,bc⟩ hz.cm (Nat.le_of_lt hm) hfit
    rw [show bodyO ⟨⟨6,s.id,0,n,putB (keyR n k),List.replicate 16 0#8⟩,bo,bc⟩=own bo bc 5 1 (putB (keyR n k)).length (bytes (putB (keyR n k))) from rfl] at hput
    refine RL.q rfl (RL.p rfl (RL.qn rfl (CW.ok [0,6,10,11] rfl (CW.ss (CW.rea (fun _ h=> h) (H':= [rcrI z,own bo bc 5 1 (putB (keyR n k)).length (bytes (putB (keyR n k))),cel b1 s.cells 59]) rE ?_)))))
    refine CW.rn (ef:= [7]) (bk:= [7]) (RL.p rfl (RL.fa fa_59_0 rfl (RL.load isAgg3 rfl (Rd.get (v:= .int .i64 s.id) mQ rfl) ?_)))
    refine RL.p rfl (RL.conv runUnderlying3 runUnderlying32 rfl (RL.tt (d:=65) (v':= .int .u64 (n:Int)) rfl (wrapV_u64 (n:=(n:Int)) zb zb) ?_))
    refine RL.p rfl (RL.bS ((⟨6,s.id,0,n,putB (keyR n k),List.replicate 16 0#8⟩:Fr).cells (slO bo (putB (keyR n k)).length bc)) zeroValue78 pl_78 (qP rfl (qP rfl (fill_fr0 rfl rfl))) (RL.cq (hput) call90 rfl (.inr rfl) ?_))
    rintro _ _ _ ⟨rb,rc,so,soc,rfl,rfl,rfl⟩
    refine RL.qn rfl (CW.ok [4,5] rfl (CW.rr ?_))
    exact RQ.pp (res2 rfl rfl rfl) (.keep (.keep (Split.nn _))) (hq _ _ _ ⟨rb,rc,bo,bc,so,soc,rfl,rfl,rfl⟩)
end Go.Proofs.YtkineolcmdecjaaGreat
