import Derived.Test.YtkineolcmdecjaaGreatLA
namespace Go.Proofs.YtkineolcmdecjaaGreat
open Go.PK
open Tryz
theorem etaken (seed:B8) (pA:Option Addr) (cA nA:Nat) (L:List Act33) (hnA:L.length=nA) (hnb:nA≤maxLen) (hL:∀a∈L,a.Ok):
  Spc prog 3 #[U8 seed, .slice pA nA cA] [sls pA 61 nA (L.flatMap Act33.cells)] [] (Is (.bool true)):=by
 subst hnA
 have hC1:=cfgC_fit seed
 have hC6:(cfgC seed).L.length≤8:=by rw [cfgC_len];decide
 have hE0:=cfg_new seed
 have hok:=cfg_ok seed
 have hcn:=config_nil seed
 have hlk:=lastK_len seed
 have hid:∀s∈(cfgC seed).L,0≤s.id∧s.id≤7:=by
  intro s hs
  obtain ⟨j,hj,rfl⟩:=List.mem_map.1 (show s∈plainL seed [] 6 from hs)
  have h6:=List.mem_range.1 (List.mem_filter.1 hj).1
  have:(plainS seed (j:Int) (kindN j)).id=(j:Int):=by
   unfold plainS;split
   ·split <;> rfl
   ·rfl
  omega
 generalize cfgC seed=C at hC1 hC6 hE0 hok hcn hid
 have h45C:=fun sl=> cf_len hC1.cm sl
 refine Spc.en func3 rfl rfl (fun w0 hw0=> ?_)
 refine CW.sr (RL.pn rfl (CW.ss (CW.sr (RL.vq (works33) call6 rfl ?_))))
 refine RL.pn rfl (CW.cF rfl (rfl) (CW.sn (CW.sg [1,2,3] [3] (RL.p rfl (RL.cq (hcn) call7 rfl (.inl rfl) ?_)))))
 rintro _ _ _ ⟨so,sc,rfl,rfl,rfl⟩
 refine RL.al zeroValue34 rfl ?_
 intro b1
 refine RL.sW sizeOf34 rfl (cf_ones _ rfl) uE (h45C _) rfl ?_
 refine RL.ns (CW.ss (CW.rD (Sq.of (rg 0 8)) [3] [] [1,4,5,6,7,8] mixed zi ?_))
 refine RL.lW isAgg34 sizeOf34 rfl mQ (h45C _) ?_
 refine RL.p rfl (RL.vq (last_any seed) call9 rfl ?_)
 refine RL.cc (eNew_any C so sc _ (lastK seed) 24 hC1 rfl zb hlk) call8 rfl pE (Lend.own mQ .nil) (.inl rfl) ?_
 rintro _ _ _ ⟨rfl,⟨h, -⟩ | ⟨-,z,rfl,rfl,hz⟩⟩
 ·exact absurd hE0 h
 refine RL.q rfl (RL.p rfl (RL.qn rfl (CW.ok [0,1,5,6] rfl (CW.sg [1,4] [] (RL.lW isAgg34 sizeOf34 rfl mQ (h45C _) ?_)))))
 refine RL.cc (lplain_any C so sc _ rfl hC1.cm (fun s hs=> (hC1.L s hs).rt) zb) call11 rfl pE (Lend.own mQ .nil) (.inl rfl) ?_
 rintro _ _ _ ⟨oa,ca,rfl,rfl,rfl⟩
 refine RL.p rfl (RL.vq (last_any seed) call9 rfl ?_)
 refine RL.cc (rNew_any C oa ca _ (lastK seed) 24 hC1 rfl zb hlk) call10 rfl pE (Lend.own mQ .nil) (.inl rfl) ?_
 rintro _ _ _ ⟨rfl,⟨h, -⟩ | ⟨-,y,rfl,rfl,hy⟩⟩
 ·exact absurd hE0 h
 refine RL.q rfl (RL.p rfl (RL.qn rfl (CW.ok [1,5,6,8] rfl (CW.sg [0] [] (RL.cq (rgnew_yes 5 5 zc zc zc zc) call12 rfl (.inl rfl) ?_)))))
 rintro _ _ _ ⟨B,hmo,hti,rfl,rfl,rfl⟩
 refine RL.q rfl (RL.p rfl (RL.qn rfl (CW.sg [1,2,3] [3] (RL.lW isAgg34 sizeOf34 rfl mQ (h45C _) ?_))))
 refine RL.cc (lplain_any C so sc _ rfl hC1.cm (fun s hs=> (hC1.L s hs).rt) zb) call11 rfl pE (Lend.own mQ .nil) (.inl rfl) ?_
 rintro _ _ _ ⟨od,cd,rfl,rfl,rfl⟩
 refine RL.al zeroValue47 rfl ?_
 intro b2
 refine RL.sW sizeOf47 rfl (cf_ones _ rfl) uE (h45C _) rfl ?_
 refine RL.ns (CW.ok [1,6,8,10,12] rfl (CW.ss (CW.sr (RL.pn rfl (CW.bb ?_)))))
 have hal0:=new_alike hok hz hy
 have hl0:z.l.length=0:=by rw [hz.l];rfl
 have hyc0:=hy.cf
 have hyo0:=hy.oa
 have hya0:=hy.ca
 have hep0:=hy.ep
 clear hz hy hE0 hcn
 refine CW.rea (fun _ h=> h) (H':= [own oa ca 59 48 C.L.length (C.L.flatMap Sr.cells),own od cd 59 48 C.L.length (C.L.flatMap Sr.cells),cel b2 (C.cells (slO od C.L.length cd)) 47,crwI z,rcrI y]++RGI B rs0) rE ?_
 refine CW.fP (A:= [own oa ca 59 48 C.L.length (C.L.flatMap Sr.cells),own od cd 59 48 C.L.length (C.L.flatMap Sr.cells),cel b2 (C.cells (slO od C.L.length cd)) 47]) (B:= [crwI z,rcrI y]++RGI B rs0) pE rfl ?_
 refine CW.sub (Lies.ownS (ob:=oa) (cap:=ca) (e:=59)) (List.Mem.head _) (CW.sub (Lies.ownS (ob:=od) (cap:=cd) (e:=59)) (List.Mem.tail _ (List.Mem.tail _ (List.Mem.head _))) ?_)
 refine CW.gI (fun J hJ=> ?_)
 have mD:sls (od.map fun b=> ⟨b,0,none⟩) 48 C.L.length (C.L.flatMap Sr.cells)∈J:=hJ _ (List.Mem.head _)
 have mS0:sls (oa.map fun b=> ⟨b,0,none⟩) 48 C.L.length (C.L.flatMap Sr.cells)∈J:=hJ _ (List.Mem.tail _ (List.Mem.head _))
 have m2:cel b2 (C.cells (slO od C.L.length cd)) 47∈J:=hJ _ zm
 have mA:sls pA 61 L.length (L.flatMap Act33.cells)∈J:=hJ _ zm
 clear hJ
 have fD:RdI J ⟨b2,0+0,none⟩ (slO od C.L.length cd):=⟨fun _=> Rd.celI m2 rfl⟩
 have hasc:=(ok_srs hok).1
 refine CW.loop (γ:=Nat×RS) (fun g=> g.1≤C.L.length∧SJ (C.L.take g.1) g.2) (fun g=> [(1, .slice pA L.length cA),(6, .pointer (some ⟨z.b,0,none⟩)),(8, .pointer (some ⟨y.b,0,none⟩)),(10, .pointer (some ⟨B.yb,0,none⟩)),(12, .pointer (some ⟨b2,0,none⟩)),(13, .int .i64 (g.1:Int))]) (fun _=> J) (fun g=> crwI z::rcrI y::RGI B g.2) (fun g=> C.L.length - g.1) (0,rs0) ⟨Nat.zero_le _,sj_nil⟩ sE (fun w h=> h) ?_
 rintro ⟨i,g⟩ ⟨hi,hg⟩
 dsimp only at hi hg ⊢
 refine CW.ff (p:=od=none→C.L.length=0) (fun w hC e=> sls_nil (hC.s.i _ mD) (by rw [e];rfl)) (fun hpd=> ?_)
 refine CW.ss (CW.sr (RL.p rfl (RL.fa fa_47_0 rfl (RL.lq isAgg44 rfl ?_))))
 refine RL.lenS runUnderlying44 rfl (RL.pn rfl ?_)
 refine CW.cd rfl (fun hlt=> ?_) (fun hlt=> ?_)
 ·
  have hlt:i < C.L.length:=by simp at hlt;omega
  obtain ⟨bd,rfl⟩:∃bd,od=some bd:=by
   cases od with
   | none=> exact absurd (hpd rfl) zb
   | some bd=> exact ⟨bd,rfl⟩
  have hx:=List.getElem?_eq_getElem hlt
  have hxm:=List.getElem_mem hlt
  have htk:=List.take_succ_eq_append_getElem hlt
  have hnew:∀t∈C.L.take i,t.id≠(C.L[i]).id:=fun t ht=> by
   obtain ⟨j,hj⟩:=List.mem_iff_getElem?.1 ht
   rw [List.getElem?_take] at hj
   split at hj
   ·next hji=> have:=sr_asc hasc hji hj hx;omega
   ·cases hj
  generalize C.L[i]=s at hx hxm htk hnew
  have hsf:=(hC1.L s hxm).rt
  have hsi:=hid s hxm
  have hLl:∀s∈C.L,s.cells.length=48:=fun s hs=> sr_len (hC1.L s hs).rt
  have fs:∀H,Rds J H ⟨bd,0+i*48,none⟩ s.cells:=fun H w hw=> by
   have:=(Rds.sls (I:=J) (H:=H) (p:=⟨bd,0,none⟩) mD).part (j:=i*48) (vs:=s.cells) (fun q u hu=> by
    have hlt:q < 48:=by have:=(List.getElem?_eq_some_iff.1 hu).1;rwa [sr_len hsf] at this
    rw [get_flat hLl hx hlt];exact hu) w hw
   simpa only [add_none] using this
  have fk:RdI J ⟨bd,0+i*48+1,none⟩ (.int .i64 s.kd):=⟨fun H w hw=> by have:=fs H w hw 1 _ rfl;rwa [add_none] at this⟩
  have fi:RdI J ⟨bd,0+i*48+0,none⟩ (.int .i64 s.id):=⟨fun H w hw=> by have:=fs H w hw 0 _ rfl;rwa [add_none] at this⟩
  have fr:RdsN J ⟨bd,0+i*48+2,none⟩ 32 (bytes s.rt):=⟨fun H w hw=> by
   have:=(fs H).part (j:=2) (vs:=bytes s.rt) (fun q u hu=> by
    rw [show s.cells= .int .i64 s.id:: .int .i64 s.kd::(bytes s.rt++s.cells.drop 34) by rw [Sr.cells];simp [hsf],Nat.add_comm]
    show (bytes s.rt++_)[q]? =_
    rw [List.getElem?_append_left (List.getElem?_eq_some_iff.1 hu).1];exact hu) w hw
   simpa only [add_none] using this,by rw [List.length_map,hsf]⟩
  have hkl:=kindsL_len s.kd
  refine CW.sn (CW.ss (CW.bb (CW.sg [6] [] (RL.fa fa_47_0 rfl (RL.lq isAgg44 rfl ?_)))))
  refine RL.p rfl (RL.ix (j:=i) runUnderlying44 sizeOf59 rfl (hlt) (RL.fa fa_59_1 rfl (RL.lq isAgg3 rfl ?_)))
  refine RL.cq (rkinds_any s.kd) call13 rfl (.inl rfl) ?_
  rintro _ _ _ ⟨ko,kc,rfl,rfl,rfl⟩
  refine RL.pn rfl (CW.ok [1,6,8,10,12,13,14] rfl (CW.sr (RL.p rfl (RL.lenS runUnderlying52 rfl (RL.pn rfl ?_)))))
  refine CW.cd rfl (fun hk=> ?_) (fun hk=> ?_)
  ·
   have hk:kindsL s.kd≠ []:=by intro e;rw [e] at hk;simp at hk
   refine CW.rD (Sq.of (rg 0 14)) [14] [14] (rg 0 13) mixed zi ?_
   refine RL.p rfl (RL.fa fa_47_0 rfl (RL.lT isAgg44 rfl ?_))
   refine RL.p rfl (RL.ix (j:=i) runUnderlying44 sizeOf59 rfl (hlt) (RL.fa fa_59_0 rfl (RL.lT isAgg3 rfl ?_)))
   refine RL.fa fa_47_0 rfl (RL.lT isAgg44 rfl ?_)
   refine RL.p rfl (RL.ix (j:=i) runUnderlying44 sizeOf59 rfl (hlt) (RL.fa fa_59_2 rfl (RL.loadSTq isAgg31 sizeOf31 rfl ?_)))
   refine RL.p rfl (RL.cc (rgsource_any B g s.id s.rt (ko.map fun b=> ⟨b,0,none⟩) kc _ (kindsL s.kd) (hg.ok (by rw [List.length_take];omega)) hsf rfl zb) call14 rfl pE (Lend.own mQ .nil) (.inr rfl) ?_)
   rintro _ _ _ ⟨rfl,rfl,ob',cp',ow',cw',rfl⟩
   refine RL.ee (NQ.bb (NQ.ss (CW.ok [1,6,8,10,12,13] rfl (CW.rg (RL.p rfl (RL.bx rfl (wrapV_i64 zb zb) ?_))))))
   refine RL.p rfl (RL.ee ?_)
   refine NQ.rr (g:=(i,g)) (i+1, { g with R:=rsrcR g.R s.id s.rt (kindsL s.kd),W:=rsrcW g.R g.W s.id (kindsL s.kd),ob:=ob',cp:=cp',ow:=ow',cw:=cw' }) ⟨hlt,by rw [htk];exact hg.yes hk hsi hsf hnew rfl rfl rfl rfl rfl⟩ (by show C.L.length - (i+1) < C.L.length - i;omega) sE wE
  ·
   have hk:kindsL s.kd= []:=by simpa using hk
   refine CW.kk (NQ.bb (NQ.ss (CW.rg (RL.p rfl (RL.bx rfl (wrapV_i64 zb zb) ?_)))))
   refine RL.p rfl (RL.ee ?_)
   refine NQ.rr (g:=(i,g)) (i+1,g) ⟨hlt,by rw [htk];exact hg.no hk⟩ (by show C.L.length - (i+1) < C.L.length - i;omega) sE wE
 ·
  have hin:i=C.L.length:=by simp at hlt;omega
  subst hin
  rw [List.take_length] at hg
  have hj:=hg.gj hC6 hep0 hid (ct:=y.ct)
  refine CW.xx (XQ.ss (XQ.ss (XQ.hh (NQ.ss (CW.ok [1,6,8,10] rfl (CW.sr (RL.pn rfl (CW.sg [2,3,4,5] [4,5] (RL.buildA _ zeroValue62 runUnderlying62 sizeOf61 rfl ?_)))))))))
  refine RL.buildA _ zeroValue63 runUnderlying63 sizeOf32 rfl (RL.al zeroValue62 rfl ?_)
  intro b3
  refine RL.al zeroValue63 rfl ?_
  intro b4
  refine RL.store (vs:= [_,_,_,_,_,_,_,_]) sizeOf62 rfl rfl uE ?_
  refine RL.store (vs:= [_,_,_,_,_,_,_,_]) sizeOf63 rfl rfl uE ?_
  refine RL.ns (CW.ss (CW.sr (RL.pn rfl (CW.bb ?_))))
  have hgD:g.D.length=0:=by rw [hg.d];rfl
  have ha0:ArL y.ep y.ct (fun _=> 0) (fun _=> 0):=fun i=> by
   show 0 < y.ep i∨(0=y.ep i∧0≤y.ct i);omega
  have hzb0:z.b=z.b:=rfl
  have hyb0:y.b=y.b:=rfl
  generalize hzz:z.b=zb at hzb0 ⊢
  generalize hyy:y.b=yb at hyb0 ⊢
  refine CW.loop (γ:=TS) (fun t=> t.1≤30∧EAl t.2.1 t.2.2.1∧t.2.1.b=zb∧t.2.2.1.b=yb∧t.2.2.1.c=C∧t.2.2.1.oa=oa∧t.2.2.1.ca=ca∧t.2.1.l.length≤t.1∧t.2.2.2.1.D.length≤t.2.1.l.length∧GJ C t.2.2.1.ep t.2.2.1.ct t.2.2.2.1∧ArL t.2.2.1.ep t.2.2.1.ct t.2.2.2.2.1 t.2.2.2.2.2) (fun t=> [(1, .slice pA L.length cA),(6, .pointer (some ⟨zb,0,none⟩)),(8, .pointer (some ⟨yb,0,none⟩)),(10, .pointer (some ⟨B.yb,0,none⟩)),(15, .int .i64 (t.2.1.l.length:Int)),(16, .pointer (some ⟨b3,0,none⟩)),(17, .pointer (some ⟨b4,0,none⟩)),(18, .int .i64 (t.1:Int))]) (fun _=> J) (fun t=> crwI t.2.1::rcrI t.2.2.1::cel b3 (e8 t.2.2.2.2.1) 62::cel b4 (c8 t.2.2.2.2.2) 63::RGI B t.2.2.2.1) (fun t=> 30 - t.1) (0,z,y,g,fun _=> 0,fun _=> 0) ⟨Nat.zero_le _,hal0,hzz,hyy,hyc0,hyo0,hya0,by show z.l.length≤0;omega,by show g.D.length≤z.l.length;omega,hj,ha0⟩ (.cons rfl (.cons rfl (.cons rfl (.cons rfl (.cons (by rw [hl0];rfl) sE))))) wE ?_
  clear hal0 hyc0 hyo0 hya0 hl0 hzz hyy hzb0 hyb0 hj ha0 hgD hg hep0
  clear z y g hC1 hC6 hok h45C mD m2 fD hasc hpd hi hlt
  rintro ⟨i,z,y,g,a,b⟩ ⟨hi30,hal,rfl,rfl,rfl,rfl,rfl,hln,hD,hj,har⟩
  dsimp only at hi30 hal hln hD hj har hid mS0 ⊢
  have mS:rcrS y∈J:=mS0
  refine CW.ff (p:=pA=none→L.length=0) (fun w hC e=> sls_nil (hC.s.i _ mA) e) (fun hpa=> ?_)
  refine CW.ss (CW.sr (RL.q rfl (RL.lenS runUnderlying22 rfl (RL.q rfl ?_))))
  apply RL.andB (d:=84) (dp:=87) (l':=(Sq.of [])) rfl (sK [1,6,8,10,15,16,17,18] rfl)
  ·
   intro hb5 K5
   refine RL.q rfl (RL.p rfl ?_)
   exact K5 _ (.cons rfl (sK [1,6,8,10,15,16,17,18] rfl))
  ·
   intro hb5 K5
   refine RL.q rfl (RL.p rfl ?_)
   exact K5 _ (.cons rfl (sK [1,6,8,10,15,16,17,18] rfl))
  refine RL.ns ?_
  refine CW.cd rfl (fun hlt=> ?_) (fun hlt=> ?_)
  ·
   have hlt:i < L.length∧i < 30:=by simp at hlt;omega
   obtain ⟨aA,rfl⟩:=sls_some hpa zb
   have hx:=List.getElem?_eq_getElem hlt.1
   have hokx:=hL _ (List.getElem_mem hlt.1)
   generalize L[i]=x at hx hokx
   have fA:RdsN J (aA.add (i*61)) 61 x.cells:=⟨fun _=> (Rds.sls mA).part (fun q u hu=> by
    have hlt:q < 61:=(List.getElem?_eq_some_iff.1 hu).1
    rw [get_flat (f:=Act33.cells) (fun a _=> act33_flat a) hx hlt];exact hu),act33_flat x⟩
   refine CW.sn (CW.ss (CW.bb (CW.sg [6] [6] (RL.q rfl (RL.q rfl (RL.idx (j:=i) runUnderlying22 sizeOf71 rfl rfl hlt.1 (RL.lS isAgg71 sizeOf71 rfl ?_)))))))
   refine RL.cc (do33_any z y x hokx hal zb) call15 rfl pE (.inI mS .nil) (.inr rfl) ?_
   rintro _ _ _ ⟨rfl,rfl,z',y',rfl,hx'⟩
   have hld:=eLedger_any z' hx'.al.zo
   rw [hx'.zb] at hld
   refine RL.ns (CW.ok [1,6,8,10,15,16,17,18] rfl (CW.sg [1] [] (RL.p rfl (RL.cc (hld) call16 rfl pE (.inH mQ .nil) (.inl rfl) ?_))))
   rintro _ _ _ ⟨lo,lc,R,rfl,rfl,rfl,hR⟩
   refine RL.pn rfl (CW.bb ?_)
   obtain ⟨fs,hfs,hst⟩:=hx'.st
   have hn':z'.l.length=z.l.length+fs.length:=by have:=congrArg List.length hfs;simpa using this
   have hfl:fs.length≤1:=by cases hst <;> simp
   have hG0:=InG.of hst rfl hn' hD hj har
   have hzb:=hx'.zb
   have hyb:=hx'.yb
   have hal':=hx'.al
   clear hD hj har hld hst
   refine CW.loop (γ:=TI) (fun t=> InG y.c y y' fs z.l.length z'.l.length t.1 t.2.1 t.2.2.1 t.2.2.2) (fun t=> [(1, .slice (some aA) L.length cA),(6, .pointer (some ⟨z.b,0,none⟩)),(8, .pointer (some ⟨y.b,0,none⟩)),(10, .pointer (some ⟨B.yb,0,none⟩)),(15, .int .i64 (t.1:Int)),(16, .pointer (some ⟨b3,0,none⟩)),(17, .pointer (some ⟨b4,0,none⟩)),(18, .int .i64 (i:Int)),(19,slO lo z'.l.length lc)]) (fun _=> J) (fun t=> crwI z'::rcrI y'::own lo lc 78 21 z'.l.length (R.flatMap FrO.cells)::PK.allI (R.map bodyO)::cel b3 (e8 t.2.2.1) 62::cel b4 (c8 t.2.2.2) 63::RGI B t.2.1) (fun t=> z'.l.length - t.1) (z.l.length,g,a,b) hG0 sE wE ?_
   clear hG0
   clear g a b
   rintro ⟨j,g,a,b⟩ ⟨hDj,hG⟩
   dsimp only at hDj hG ⊢
   refine CW.ff (p:=lo=none→z'.l.length=0) (fun w hC e=> own_none (by have:=hC.s.h (own lo lc 78 21 z'.l.length (R.flatMap FrO.cells)) mQ;rw [e] at this;exact this)) (fun hpl=> ?_)
   refine CW.ss (CW.sr (RL.q rfl (RL.lenS runUnderlying72 rfl (RL.pn rfl ?_))))
   refine CW.cd rfl (fun hj2=> ?_) (fun hj2=> ?_)
   ·
    have hj2:j < z'.l.length:=by simp at hj2;omega
    rcases hG with ⟨hjn, -⟩ | ⟨rfl,hn1,f,rfl,hem,hgj,har⟩
    ·omega
    obtain ⟨lb,rfl⟩:∃lb,lo=some lb:=by
     cases lo with
     | none=> exact absurd (hpl rfl) zb
     | some lb=> exact ⟨lb,rfl⟩
    have hRl:R.length=z'.l.length:=by have:=congrArg List.length hR;simpa using this
    have hr:=List.getElem?_eq_getElem (show z.l.length < R.length by omega)
    have hrm:=List.getElem_mem (show z.l.length < R.length by omega)
    have hrf:(R[z.l.length]).f=f:=by
     have h1:=congrArg (fun l=> l[z.l.length]?) (hR.trans hfs)
     simp only [List.getElem?_map,hr] at h1
     rw [List.getElem?_append_right (by rw [List.length_map];omega),List.length_map,Nat.sub_self] at h1
     exact Option.some.inj h1
    have hRf:∀r∈R,r.f.Fit:=fun r hr=> by
     have:r.f∈z'.l.map FrO.f:=by rw [←hR];exact List.mem_map.2 ⟨r,hr,rfl⟩
     obtain ⟨t,ht,he⟩:=List.mem_map.1 this
     rw [←he];exact hal'.zo.l t ht
    have hRlen:∀r∈R,r.cells.length=21:=fun r hr=> fr_len (hRf r hr).ok.tag _
    generalize R[z.l.length]=r at hr hrm hrf
    have hfit:=hRf r hrm
    obtain ⟨f1,ro,rc⟩:=r
    dsimp only at hrf hfit
    subst hrf
    have hb1:=hfit.b
    have h21r:=fr_len hfit.ok.tag (slO ro f1.b.length rc)
    have hbr:Lies (PK.allI (R.map bodyO)) (sls (ro.map fun b=> ⟨b,0,none⟩) 1 f1.b.length (bytes f1.b)):=(Lies.allI (List.mem_map.2 ⟨_,hrm,rfl⟩:bodyO ⟨f1,ro,rc⟩∈R.map bodyO)).trans Lies.ownS
    refine CW.sn (CW.ss (CW.bb (CW.sg [4,5] [5] (RL.q rfl (RL.ix (j:=z.l.length) runUnderlying72 sizeOf78 rfl zb ?_)))))
    refine RL.ld (vs:=f1.cells (slO ro f1.b.length rc)) isAgg78 (by rw [h21r];exact sizeOf78) rfl (own_rds (f:=FrO.cells) mQ hr hRlen) ?_
    refine RL.al zeroValue78 rfl ?_
    intro b5
    refine RL.sW sizeOf78 rfl (ones_fr _ rfl) uE h21r rfl ?_
    refine RL.ns (CW.ok [1,6,8,10,15,16,17,18,19,20] rfl (CW.ss (CW.sr (RL.fa fa_78_0 rfl (RL.lq isAgg3 rfl ?_)))))
    refine RL.q rfl ?_
    apply RL.orB (d:=112) (dp:=116) (l':=(Sq.of [])) rfl (sK ([1,6,8,10]++rg 15 20) rfl)
    ·
     intro hb4 K4
     refine RL.fa fa_78_0 rfl (RL.lq isAgg3 rfl ?_)
     refine RL.q rfl ?_
     exact K4 _ (.cons rfl (sK [1,6,8,10,15,16,17,18,19,20] rfl))
    ·
     intro hb4 K4
     refine RL.q rfl (RL.q rfl ?_)
     exact K4 _ (.cons rfl (sK [1,6,8,10,15,16,17,18,19,20] rfl))
    refine RL.ns ?_
    rcases Emt.cases (fun s hs=> hid s hs) hem with ⟨h56,hep,hct⟩ | ⟨h56,s,q,hs⟩
    ·
     refine CW.cT rfl ((by simp;exact h56)) ?_
     refine CW.xx (XQ.ss (XQ.hh (NQ.ss (CW.rg (RL.p rfl (RL.bx rfl (wrapV_i64 zb zb) ?_))))))
     refine RL.p rfl (RL.ee ?_)
     refine NQ.rr (g:=((z.l.length,g,a,b):TI)) ((z.l.length+1,g,a,b):TI) ⟨by show g.D.length≤z.l.length+1;omega, .inl ⟨hn1.symm,by rw [hep];exact hgj.mono hct,by rw [hep];exact har.mono hct⟩⟩ (by show z'.l.length - (z.l.length+1) < z'.l.length - z.l.length;omega) sE wE
    ·
     have hq8:=hs.q8
     have haq:=har q
     have hep1:=hs.ep
     have hct1:=hs.ct
     obtain ⟨hk1,hk2,hk3⟩:=hs.look hgj B.mo B.ti
     have hsq:=hs.hq
     have hqt:s.id.toNat=q:=by omega
     rw [hqt,hsq] at hk3
     have hTk:∀g':RS,g'.R=g.R→g'.W=g.W→g'.l=lk0→g'.M=updM g.M (q:Int) (y.ep q,y.ct q+1)→GJ y.c y.ep (upN y.ct q (y.ct q+1)) g':=fun g' h1 h2 h3 h4=> by
      have:=hgj.take (s:=s) (g':=g') zb h1 h2 h3 (by rw [hqt,hsq];exact h4)
      rwa [hqt] at this
     refine CW.cF rfl (zp) ?_
     refine CW.sn (CW.s2 (CW.rD (Sq.of (rg 0 40)) [38] [38] [0,2,3,4,6,7,8,9,11,13,15,16,17,18,20,22,24,25,26,28,30,32,33,34,35,36,39,40] mixed zi ?_))
     refine RL.fa fa_78_1 rfl (RL.lq isAgg3 rfl ?_)
     refine RL.q rfl (RL.tt (d:=120) (v':= .bool false) rfl ((by rw [hs.sr];simp)) ?_)
     refine RL.fa fa_78_1 rfl (RL.lq isAgg3 rfl ?_)
     refine RL.q rfl (RL.p rfl (RL.tt (d:=125) (v':= .bool false) rfl ((by rw [hs.sr];simp;omega)) ?_))
     refine RL.fa fa_78_2 rfl (RL.lq isAgg61 rfl ?_)
     refine RL.fa fa_78_1 rfl (RL.lq isAgg3 rfl ?_)
     refine RL.tt (d:=129) (v':= .int .i64 (q:Int)) rfl (by rw [hs.sr]) ?_
     refine RL.iA (j:=q) runUnderlying62 sizeOf61 rfl hq8 (RL.load isAgg61 rfl (Rd.get (v:= .int .u32 (a q:Int)) mQ (e8_at hq8)) ?_)
     refine RL.q rfl (RL.p rfl (RL.tt (d:=134) (v':= .bool false) rfl (zp) ?_))
     refine RL.fa fa_78_2 rfl (RL.lq isAgg61 rfl ?_)
     refine RL.fa fa_78_1 rfl (RL.lq isAgg3 rfl ?_)
     refine RL.tt (d:=138) (v':= .int .i64 (q:Int)) rfl (by rw [hs.sr]) ?_
     refine RL.iA (j:=q) runUnderlying62 sizeOf61 rfl hq8 (RL.load isAgg61 rfl (Rd.get (v:= .int .u32 (a q:Int)) mQ (e8_at hq8)) ?_)
     refine RL.q rfl ?_
     refine RL.part (d:=142) rfl (fun hae=> ?_) (fun hae=> ?_)
     ·
      refine RL.fa fa_78_3 rfl (RL.lq isAgg32 rfl ?_)
      refine RL.fa fa_78_1 rfl (RL.lq isAgg3 rfl ?_)
      refine RL.tt (d:=146) (v':= .int .i64 (q:Int)) rfl (by rw [hs.sr]) ?_
      refine RL.iA (j:=q) runUnderlying63 sizeOf32 rfl hq8 (RL.load isAgg32 rfl (Rd.get (v:= .int .u64 (b q:Int)) mQ (c8_at hq8)) ?_)
      refine RL.q rfl (RL.q rfl (RL.tt (d:=152) (v':= .bool false) rfl ((by simp at hae;simp;omega)) ?_))
      refine RL.p rfl (RL.lW isAgg78 sizeOf78 rfl mQ h21r ?_)
      refine RL.cc (rgcheck_e B g f1 (ro.map fun b=> ⟨b,0,none⟩) rc _ 0 (hgj.ok hDj zb) hfit.ok rfl zb 0 _ _ hk1 hk2 hk3) call17 rfl pE (Lend.lieO hbr mQ .nil) (.inr rfl) ?_
      rintro _ _ _ ⟨rfl,rfl,od',cd',rfl⟩
      refine RL.qn rfl (CW.ok [1,6,8,10,15,16,17,18,19,20,157] rfl (CW.cF rfl (rfl) (CW.sn (CW.ss ?_))))
      refine CW.cutG (γ:=RS) (fun g2=> GJ y.c y.ep (upN y.ct q (y.ct q+1)) g2∧g2.D.length≤z.l.length+1) (fun _=> [(1, .slice (some aA) L.length cA),(6, .pointer (some ⟨z.b,0,none⟩)),(8, .pointer (some ⟨y.b,0,none⟩)),(10, .pointer (some ⟨B.yb,0,none⟩)),(15, .int .i64 (z.l.length:Int)),(16, .pointer (some ⟨b3,0,none⟩)),(17, .pointer (some ⟨b4,0,none⟩)),(18, .int .i64 (i:Int)),(19,slO (some lb) z'.l.length lc),(20, .pointer (some ⟨b5,0,none⟩))]) (fun _=> J) (fun g2=> crwI z'::rcrI y'::own (some lb) lc 78 21 z'.l.length (R.flatMap FrO.cells)::PK.allI (R.map bodyO)::cel b3 (e8 (upN a q f1.ep)) 62::cel b4 (c8 (upN b q f1.ct)) 63::cel b5 (f1.cells (slO ro f1.b.length rc)) 78::RGI B g2) ?_ ?_
      ·
       refine CW.rD (.cons 0 (.cons 1 (.cons 2 (.cons 4 (.cons 5 (.cons 6 (.cons 8 (.fork [3,7,9] (fun k=> (bif Nat.beq k 3 then (.fork [7,9] (fun k=> (bif Nat.beq k 7 then (Sq.of [9,10,11]) else (Sq.of [7,10,11])))) else (bif Nat.beq k 7 then (.fork [3,9] (fun k=> (bif Nat.beq k 3 then (Sq.of [9,10,11]) else (Sq.of [3,10,11])))) else (Sq.of [3,7,10,11])))))))))))) [9,11] [9,11] [0,2,4,6,8,10] mixed zi ?_
       refine RL.fa fa_78_1 rfl (RL.lq isAgg3 rfl ?_)
       refine RL.fa fa_78_1 rfl (RL.fa fa_78_2 rfl (RL.lq isAgg61 rfl ?_))
       refine RL.fa fa_78_3 rfl (RL.tt (d:=159) (v':= .int .i64 (q:Int)) rfl (by rw [hs.sr]) ?_)
       refine RL.iA (j:=q) runUnderlying62 sizeOf61 rfl hq8 ?_
       refine RL.fork ⟨?_, ?_, ?_,trivial⟩
       ·
        refine RL.lq isAgg3 rfl ?_
        refine RL.fork ⟨?_, ?_,trivial⟩
        ·
         refine RL.lq isAgg32 rfl ?_
         refine RL.sX (cs':=e8 (upN a q f1.ep)) (vs:= [_]) (by rw [show 0+q*1=q by omega];exact e8_set hq8 _) sizeOf61 rfl rfl uE zs ?_
         refine RL.tt (d:=161) (v':= .int .i64 (q:Int)) rfl (by rw [hs.sr]) ?_
         refine RL.iA (j:=q) runUnderlying63 sizeOf32 rfl hq8 (RL.sX (cs':=c8 (upN b q f1.ct)) (vs:= [_]) (by rw [show 0+q*1=q by omega];exact c8_set hq8 _) sizeOf32 rfl rfl uE zt ?_)
         refine RL.ee ?_
         exact NQ.gg ({ g with l:=lk0,M:=updM g.M (q:Int) (y.ep q,y.ct q+1),D:=bump 0 g.D,od:=od',cd:=cd' }:RS) ⟨hTk _ rfl rfl rfl rfl,Nat.le_trans (bump_len _ _) zb⟩ sE wE
        ·
         refine RL.sX (cs':=e8 (upN a q f1.ep)) (vs:= [_]) (by rw [show 0+q*1=q by omega];exact e8_set hq8 _) sizeOf61 rfl rfl uE zs ?_
         refine RL.lq isAgg32 rfl ?_
         refine RL.tt (d:=161) (v':= .int .i64 (q:Int)) rfl (by rw [hs.sr]) ?_
         refine RL.iA (j:=q) runUnderlying63 sizeOf32 rfl hq8 (RL.sX (cs':=c8 (upN b q f1.ct)) (vs:= [_]) (by rw [show 0+q*1=q by omega];exact c8_set hq8 _) sizeOf32 rfl rfl uE zt ?_)
         refine RL.ee ?_
         exact NQ.gg ({ g with l:=lk0,M:=updM g.M (q:Int) (y.ep q,y.ct q+1),D:=bump 0 g.D,od:=od',cd:=cd' }:RS) ⟨hTk _ rfl rfl rfl rfl,Nat.le_trans (bump_len _ _) zb⟩ sE wE
       ·
        refine RL.lq isAgg32 rfl ?_
        refine RL.fork ⟨?_, ?_,trivial⟩
        ·
         refine RL.lq isAgg3 rfl ?_
         refine RL.sX (cs':=e8 (upN a q f1.ep)) (vs:= [_]) (by rw [show 0+q*1=q by omega];exact e8_set hq8 _) sizeOf61 rfl rfl uE zs ?_
         refine RL.tt (d:=161) (v':= .int .i64 (q:Int)) rfl (by rw [hs.sr]) ?_
         refine RL.iA (j:=q) runUnderlying63 sizeOf32 rfl hq8 (RL.sX (cs':=c8 (upN b q f1.ct)) (vs:= [_]) (by rw [show 0+q*1=q by omega];exact c8_set hq8 _) sizeOf32 rfl rfl uE zt ?_)
         refine RL.ee ?_
         exact NQ.gg ({ g with l:=lk0,M:=updM g.M (q:Int) (y.ep q,y.ct q+1),D:=bump 0 g.D,od:=od',cd:=cd' }:RS) ⟨hTk _ rfl rfl rfl rfl,Nat.le_trans (bump_len _ _) zb⟩ sE wE
        ·
         refine RL.sX (cs':=e8 (upN a q f1.ep)) (vs:= [_]) (by rw [show 0+q*1=q by omega];exact e8_set hq8 _) sizeOf61 rfl rfl uE zs ?_
         refine RL.lq isAgg3 rfl ?_
         refine RL.tt (d:=161) (v':= .int .i64 (q:Int)) rfl (by rw [hs.sr]) ?_
         refine RL.iA (j:=q) runUnderlying63 sizeOf32 rfl hq8 (RL.sX (cs':=c8 (upN b q f1.ct)) (vs:= [_]) (by rw [show 0+q*1=q by omega];exact c8_set hq8 _) sizeOf32 rfl rfl uE zt ?_)
         refine RL.ee ?_
         exact NQ.gg ({ g with l:=lk0,M:=updM g.M (q:Int) (y.ep q,y.ct q+1),D:=bump 0 g.D,od:=od',cd:=cd' }:RS) ⟨hTk _ rfl rfl rfl rfl,Nat.le_trans (bump_len _ _) zb⟩ sE wE
       ·
        refine RL.sX (cs':=e8 (upN a q f1.ep)) (vs:= [_]) (by rw [show 0+q*1=q by omega];exact e8_set hq8 _) sizeOf61 rfl rfl uE zs ?_
        refine RL.lq isAgg3 rfl ?_
        refine RL.lq isAgg32 rfl ?_
        refine RL.tt (d:=161) (v':= .int .i64 (q:Int)) rfl (by rw [hs.sr]) ?_
        refine RL.iA (j:=q) runUnderlying63 sizeOf32 rfl hq8 (RL.sX (cs':=c8 (upN b q f1.ct)) (vs:= [_]) (by rw [show 0+q*1=q by omega];exact c8_set hq8 _) sizeOf32 rfl rfl uE zt ?_)
        refine RL.ee ?_
        exact NQ.gg ({ g with l:=lk0,M:=updM g.M (q:Int) (y.ep q,y.ct q+1),D:=bump 0 g.D,od:=od',cd:=cd' }:RS) ⟨hTk _ rfl rfl rfl rfl,Nat.le_trans (bump_len _ _) zb⟩ sE wE
      rintro g2 ⟨hg2,hD2⟩
      refine CW.ss (CW.rD (Sq.of (rg 0 15)) [13] [13] [0,2,3,4,5,6,8,10,12,14,15] mixed zi ?_)
      refine RL.fa fa_78_0 rfl (RL.lq isAgg3 rfl ?_)
      refine RL.q rfl ?_
      rcases hs.fin with ⟨hn10,he',hc'⟩ | ⟨h10,he1,he',hc'⟩
      ·
       refine RL.tt (d:=171) (v':= .bool false) rfl ((by simpa using hn10)) ?_
       refine RL.q rfl (RL.q rfl (RL.q rfl (RL.q rfl (RL.q rfl (RL.qn rfl ?_)))))
       refine CW.ok [1,6,8,10,15,16,17,18,19,183] rfl (CW.cF rfl rfl (CW.kk (NQ.bb (NQ.ss (CW.rg (RL.p rfl (RL.bx rfl (wrapV_i64 zb zb) ?_)))))))
       refine RL.p rfl (RL.ee ?_)
       refine NQ.rr (g:=((z.l.length,g,a,b):TI)) ((z.l.length+1,g2,upN a q f1.ep,upN b q f1.ct):TI) ⟨hD2, .inl ⟨hn1.symm,by rw [he',hc'];exact hg2,by rw [he',hc',hep1,hct1];exact har.take q⟩⟩ (by show z'.l.length - (z.l.length+1) < z'.l.length - z.l.length;omega) sE wE
      ·
       have hr0:=(hg2.roll (g':=g2) hs.gs zb (by rw [hqt];exact he1) (fun t ht=> (hid t (grd_some ht).2.1).1)).1
       rw [hqt,hs.hq] at hr0
       refine RL.tt (d:=171) (v':= .bool true) rfl ((by simpa using h10)) ?_
       refine RL.q rfl (RL.fa fa_86_0 rfl (RL.lq isAgg80 rfl ?_))
       refine RL.fa fa_78_1 rfl (RL.load isAgg3 rfl (Rd.get (v:= .int .i64 (q:Int)) mQ (by rw [←hs.sr];rfl)) ?_)
       refine RL.fa fa_78_2 rfl (RL.load isAgg61 rfl (Rd.get (v:= .int .u32 (y.ep q:Int)) mQ (by rw [←hep1];rfl)) ?_)
       refine RL.bx rfl (wrapV_u32 zb zb) ?_
       refine RL.cq (rroll_any B.y g2.R g2.ob g2.cp (q:Int) (y.ep q+1) 0 0 hg2.r hg2.e2 (by have:=hg2.n;omega)) call18 rfl (.inr rfl) ?_
       rintro _ _ _ ⟨rfl,rfl,ob2,cp2,rfl⟩
       refine RL.qn rfl (CW.ok [1,6,8,10,15,16,17,18,19,183] rfl (CW.cF rfl ((by rw [hr0];rfl)) ?_))
       refine CW.kk (NQ.bb (NQ.ss (CW.rg (RL.p rfl (RL.bx rfl (wrapV_i64 zb zb) ?_)))))
       refine RL.p rfl (RL.ee ?_)
       have hr1:=(hg2.roll (g':= { g2 with R:=rrollR g2.R (q:Int) (y.ep q+1) 0 0,ob:=ob2,cp:=cp2 }) hs.gs zb (by rw [hqt];exact he1) (fun t ht=> (hid t (grd_some ht).2.1).1)).2
       rw [hqt,hs.hq] at hr1
       have hg3:=hr1 (upN y.ct q 0) (fun i hi=> by unfold upN;rw [if_neg hi,if_neg hi];exact Nat.le_refl _) rfl rfl hg2.l rfl
       refine NQ.rr (g:=((z.l.length,g,a,b):TI)) ((z.l.length+1, { g2 with R:=rrollR g2.R (q:Int) (y.ep q+1) 0 0,ob:=ob2,cp:=cp2 },upN a q f1.ep,upN b q f1.ct):TI) ⟨hD2, .inl ⟨hn1.symm,by rw [he',hc'];exact hg3,by rw [he',hc',hep1,hct1];exact har.roll q⟩⟩ (by show z'.l.length - (z.l.length+1) < z'.l.length - z.l.length;omega) sE wE
     ·
      refine RL.q rfl (RL.q rfl (RL.q rfl (RL.q rfl (RL.q rfl (RL.p rfl (RL.lS isAgg78 sizeOf78 rfl ?_))))))
      refine RL.cc (rgcheck_e B g f1 (ro.map fun b=> ⟨b,0,none⟩) rc _ 0 (hgj.ok hDj zb) hfit.ok rfl zb 0 _ _ hk1 hk2 hk3) call17 rfl pE (Lend.lieO hbr mQ .nil) (.inr rfl) ?_
      rintro _ _ _ ⟨rfl,rfl,od',cd',rfl⟩
      refine RL.qn rfl (CW.ok [1,6,8,10,15,16,17,18,19,20,157] rfl (CW.cF rfl (rfl) (CW.sn (CW.ss ?_))))
      refine CW.cutG (γ:=RS) (fun g2=> GJ y.c y.ep (upN y.ct q (y.ct q+1)) g2∧g2.D.length≤z.l.length+1) (fun _=> [(1, .slice (some aA) L.length cA),(6, .pointer (some ⟨z.b,0,none⟩)),(8, .pointer (some ⟨y.b,0,none⟩)),(10, .pointer (some ⟨B.yb,0,none⟩)),(15, .int .i64 (z.l.length:Int)),(16, .pointer (some ⟨b3,0,none⟩)),(17, .pointer (some ⟨b4,0,none⟩)),(18, .int .i64 (i:Int)),(19,slO (some lb) z'.l.length lc),(20, .pointer (some ⟨b5,0,none⟩))]) (fun _=> J) (fun g2=> crwI z'::rcrI y'::own (some lb) lc 78 21 z'.l.length (R.flatMap FrO.cells)::PK.allI (R.map bodyO)::cel b3 (e8 (upN a q f1.ep)) 62::cel b4 (c8 (upN b q f1.ct)) 63::cel b5 (f1.cells (slO ro f1.b.length rc)) 78::RGI B g2) ?_ ?_
      ·
       refine CW.rD (.cons 0 (.cons 1 (.cons 2 (.cons 4 (.cons 5 (.cons 6 (.cons 8 (.fork [3,7,9] (fun k=> (bif Nat.beq k 3 then (.fork [7,9] (fun k=> (bif Nat.beq k 7 then (Sq.of [9,10,11]) else (Sq.of [7,10,11])))) else (bif Nat.beq k 7 then (.fork [3,9] (fun k=> (bif Nat.beq k 3 then (Sq.of [9,10,11]) else (Sq.of [3,10,11])))) else (Sq.of [3,7,10,11])))))))))))) [9,11] [9,11] [0,2,4,6,8,10] mixed zi ?_
       refine RL.fa fa_78_1 rfl (RL.lq isAgg3 rfl ?_)
       refine RL.fa fa_78_1 rfl (RL.fa fa_78_2 rfl (RL.lq isAgg61 rfl ?_))
       refine RL.fa fa_78_3 rfl (RL.tt (d:=159) (v':= .int .i64 (q:Int)) rfl (by rw [hs.sr]) ?_)
       refine RL.iA (j:=q) runUnderlying62 sizeOf61 rfl hq8 ?_
       refine RL.fork ⟨?_, ?_, ?_,trivial⟩
       ·
        refine RL.lq isAgg3 rfl ?_
        refine RL.fork ⟨?_, ?_,trivial⟩
        ·
         refine RL.lq isAgg32 rfl ?_
         refine RL.sX (cs':=e8 (upN a q f1.ep)) (vs:= [_]) (by rw [show 0+q*1=q by omega];exact e8_set hq8 _) sizeOf61 rfl rfl uE zs ?_
         refine RL.tt (d:=161) (v':= .int .i64 (q:Int)) rfl (by rw [hs.sr]) ?_
         refine RL.iA (j:=q) runUnderlying63 sizeOf32 rfl hq8 (RL.sX (cs':=c8 (upN b q f1.ct)) (vs:= [_]) (by rw [show 0+q*1=q by omega];exact c8_set hq8 _) sizeOf32 rfl rfl uE zt ?_)
         refine RL.ee ?_
         exact NQ.gg ({ g with l:=lk0,M:=updM g.M (q:Int) (y.ep q,y.ct q+1),D:=bump 0 g.D,od:=od',cd:=cd' }:RS) ⟨hTk _ rfl rfl rfl rfl,Nat.le_trans (bump_len _ _) zb⟩ sE wE
        ·
         refine RL.sX (cs':=e8 (upN a q f1.ep)) (vs:= [_]) (by rw [show 0+q*1=q by omega];exact e8_set hq8 _) sizeOf61 rfl rfl uE zs ?_
         refine RL.lq isAgg32 rfl ?_
         refine RL.tt (d:=161) (v':= .int .i64 (q:Int)) rfl (by rw [hs.sr]) ?_
         refine RL.iA (j:=q) runUnderlying63 sizeOf32 rfl hq8 (RL.sX (cs':=c8 (upN b q f1.ct)) (vs:= [_]) (by rw [show 0+q*1=q by omega];exact c8_set hq8 _) sizeOf32 rfl rfl uE zt ?_)
         refine RL.ee ?_
         exact NQ.gg ({ g with l:=lk0,M:=updM g.M (q:Int) (y.ep q,y.ct q+1),D:=bump 0 g.D,od:=od',cd:=cd' }:RS) ⟨hTk _ rfl rfl rfl rfl,Nat.le_trans (bump_len _ _) zb⟩ sE wE
       ·
        refine RL.lq isAgg32 rfl ?_
        refine RL.fork ⟨?_, ?_,trivial⟩
        ·
         refine RL.lq isAgg3 rfl ?_
         refine RL.sX (cs':=e8 (upN a q f1.ep)) (vs:= [_]) (by rw [show 0+q*1=q by omega];exact e8_set hq8 _) sizeOf61 rfl rfl uE zs ?_
         refine RL.tt (d:=161) (v':= .int .i64 (q:Int)) rfl (by rw [hs.sr]) ?_
         refine RL.iA (j:=q) runUnderlying63 sizeOf32 rfl hq8 (RL.sX (cs':=c8 (upN b q f1.ct)) (vs:= [_]) (by rw [show 0+q*1=q by omega];exact c8_set hq8 _) sizeOf32 rfl rfl uE zt ?_)
         refine RL.ee ?_
         exact NQ.gg ({ g with l:=lk0,M:=updM g.M (q:Int) (y.ep q,y.ct q+1),D:=bump 0 g.D,od:=od',cd:=cd' }:RS) ⟨hTk _ rfl rfl rfl rfl,Nat.le_trans (bump_len _ _) zb⟩ sE wE
        ·
         refine RL.sX (cs':=e8 (upN a q f1.ep)) (vs:= [_]) (by rw [show 0+q*1=q by omega];exact e8_set hq8 _) sizeOf61 rfl rfl uE zs ?_
         refine RL.lq isAgg3 rfl ?_
         refine RL.tt (d:=161) (v':= .int .i64 (q:Int)) rfl (by rw [hs.sr]) ?_
         refine RL.iA (j:=q) runUnderlying63 sizeOf32 rfl hq8 (RL.sX (cs':=c8 (upN b q f1.ct)) (vs:= [_]) (by rw [show 0+q*1=q by omega];exact c8_set hq8 _) sizeOf32 rfl rfl uE zt ?_)
         refine RL.ee ?_
         exact NQ.gg ({ g with l:=lk0,M:=updM g.M (q:Int) (y.ep q,y.ct q+1),D:=bump 0 g.D,od:=od',cd:=cd' }:RS) ⟨hTk _ rfl rfl rfl rfl,Nat.le_trans (bump_len _ _) zb⟩ sE wE
       ·
        refine RL.sX (cs':=e8 (upN a q f1.ep)) (vs:= [_]) (by rw [show 0+q*1=q by omega];exact e8_set hq8 _) sizeOf61 rfl rfl uE zs ?_
        refine RL.lq isAgg3 rfl ?_
        refine RL.lq isAgg32 rfl ?_
        refine RL.tt (d:=161) (v':= .int .i64 (q:Int)) rfl (by rw [hs.sr]) ?_
        refine RL.iA (j:=q) runUnderlying63 sizeOf32 rfl hq8 (RL.sX (cs':=c8 (upN b q f1.ct)) (vs:= [_]) (by rw [show 0+q*1=q by omega];exact c8_set hq8 _) sizeOf32 rfl rfl uE zt ?_)
        refine RL.ee ?_
        exact NQ.gg ({ g with l:=lk0,M:=updM g.M (q:Int) (y.ep q,y.ct q+1),D:=bump 0 g.D,od:=od',cd:=cd' }:RS) ⟨hTk _ rfl rfl rfl rfl,Nat.le_trans (bump_len _ _) zb⟩ sE wE
      rintro g2 ⟨hg2,hD2⟩
      refine CW.ss (CW.rD (Sq.of (rg 0 15)) [13] [13] [0,2,3,4,5,6,8,10,12,14,15] mixed zi ?_)
      refine RL.fa fa_78_0 rfl (RL.lq isAgg3 rfl ?_)
      refine RL.q rfl ?_
      rcases hs.fin with ⟨hn10,he',hc'⟩ | ⟨h10,he1,he',hc'⟩
      ·
       refine RL.tt (d:=171) (v':= .bool false) rfl ((by simpa using hn10)) ?_
       refine RL.q rfl (RL.q rfl (RL.q rfl (RL.q rfl (RL.q rfl (RL.qn rfl ?_)))))
       refine CW.ok [1,6,8,10,15,16,17,18,19,183] rfl (CW.cF rfl rfl (CW.kk (NQ.bb (NQ.ss (CW.rg (RL.p rfl (RL.bx rfl (wrapV_i64 zb zb) ?_)))))))
       refine RL.p rfl (RL.ee ?_)
       refine NQ.rr (g:=((z.l.length,g,a,b):TI)) ((z.l.length+1,g2,upN a q f1.ep,upN b q f1.ct):TI) ⟨hD2, .inl ⟨hn1.symm,by rw [he',hc'];exact hg2,by rw [he',hc',hep1,hct1];exact har.take q⟩⟩ (by show z'.l.length - (z.l.length+1) < z'.l.length - z.l.length;omega) sE wE
      ·
       have hr0:=(hg2.roll (g':=g2) hs.gs zb (by rw [hqt];exact he1) (fun t ht=> (hid t (grd_some ht).2.1).1)).1
       rw [hqt,hs.hq] at hr0
       refine RL.tt (d:=171) (v':= .bool true) rfl ((by simpa using h10)) ?_
       refine RL.q rfl (RL.fa fa_86_0 rfl (RL.lq isAgg80 rfl ?_))
       refine RL.fa fa_78_1 rfl (RL.load isAgg3 rfl (Rd.get (v:= .int .i64 (q:Int)) mQ (by rw [←hs.sr];rfl)) ?_)
       refine RL.fa fa_78_2 rfl (RL.load isAgg61 rfl (Rd.get (v:= .int .u32 (y.ep q:Int)) mQ (by rw [←hep1];rfl)) ?_)
       refine RL.bx rfl (wrapV_u32 zb zb) ?_
       refine RL.cq (rroll_any B.y g2.R g2.ob g2.cp (q:Int) (y.ep q+1) 0 0 hg2.r hg2.e2 (by have:=hg2.n;omega)) call18 rfl (.inr rfl) ?_
       rintro _ _ _ ⟨rfl,rfl,ob2,cp2,rfl⟩
       refine RL.qn rfl (CW.ok [1,6,8,10,15,16,17,18,19,183] rfl (CW.cF rfl ((by rw [hr0];rfl)) ?_))
       refine CW.kk (NQ.bb (NQ.ss (CW.rg (RL.p rfl (RL.bx rfl (wrapV_i64 zb zb) ?_)))))
       refine RL.p rfl (RL.ee ?_)
       have hr1:=(hg2.roll (g':= { g2 with R:=rrollR g2.R (q:Int) (y.ep q+1) 0 0,ob:=ob2,cp:=cp2 }) hs.gs zb (by rw [hqt];exact he1) (fun t ht=> (hid t (grd_some ht).2.1).1)).2
       rw [hqt,hs.hq] at hr1
       have hg3:=hr1 (upN y.ct q 0) (fun i hi=> by unfold upN;rw [if_neg hi,if_neg hi];exact Nat.le_refl _) rfl rfl hg2.l rfl
       refine NQ.rr (g:=((z.l.length,g,a,b):TI)) ((z.l.length+1, { g2 with R:=rrollR g2.R (q:Int) (y.ep q+1) 0 0,ob:=ob2,cp:=cp2 },upN a q f1.ep,upN b q f1.ct):TI) ⟨hD2, .inl ⟨hn1.symm,by rw [he',hc'];exact hg3,by rw [he',hc',hep1,hct1];exact har.roll q⟩⟩ (by show z'.l.length - (z.l.length+1) < z'.l.length - z.l.length;omega) sE wE
   ·
    have hjn:j=z'.l.length∧GJ y.c y'.ep y'.ct g∧ArL y'.ep y'.ct a b:=by
     rcases hG with h | ⟨rfl,hn1, -⟩
     ·exact h
     ·simp at hj2;omega
    obtain ⟨rfl,hj',har'⟩:=hjn
    refine CW.xx (XQ.ss (XQ.ss (XQ.hh (NQ.bb (NQ.ss (CW.rg (RL.p rfl (RL.bx rfl (wrapV_i64 zb zb) ?_))))))))
    refine RL.p rfl (RL.ee ?_)
    refine NQ.rr (g:=((i,z,y,g,a,b):TS)) ((i+1,z',y',g,a,b):TS) ⟨by show i+1≤30;omega,hal',hzb,hyb,hx'.yc,hx'.oa,hx'.ca,by show z'.l.length≤i+1;omega,hDj,by show GJ y.c y'.ep y'.ct g;exact hj',har'⟩ (by show 30 - (i+1) < 30 - i;omega) sE wE
  ·
   refine CW.xx (XQ.ss (XQ.ss (XQ.hh (NQ.ss (CW.ok [] rfl (CW.sr (RL.pn rfl (CW.rr ?_))))))))
   exact RQ.pp (res1 rfl rfl) (Split.nn _) ⟨rfl,rfl,rfl⟩
theorem emitTaken_call (W:World) (seed:B8) (l:Sl Act33) (_:rU8.ok seed) (hl:rActs33.ok l) (_:∀y∈rU8.its seed,y.A W) (tl:∀y∈rActs33.its l,y.A W):
  Calls prog 3 #[rU8.val seed,rActs33.val l] W (fun e w'=> e= .returned (.bool true)∧RowKit.Below W.heap.size W w'):=by
 have tl:∀y∈(sls l.p 61 l.l.length (l.l.flatMap Act33.cells)::l.l.flatMap fun _=> ([]:List It)),y.A W:=tl
 exact (etaken seed l.p l.c _ l.l rfl (Nat.le_trans hl.1 hl.2.1) hl.2.2.2).lawI (fun y hy=> by
  rw [List.mem_singleton] at hy;subst hy;exact tl _ (List.Mem.head _))
end Go.Proofs.YtkineolcmdecjaaGreat
