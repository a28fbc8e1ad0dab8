import Derived.Test.YtkineolcmdecjaaGreatEC
import Derived.Test.YtkineolcmdecjaaGreatUC
import Derived.Test.YtkineolcmdecjaaGreatED
import Derived.Test.YtkineolcmdecjaaGreatEE
import Derived.Test.YtkineolcmdecjaaGreatEA
namespace Go.Proofs.YtkineolcmdecjaaGreat
open Go.PK
open Tryz
def sendsL (L:List Sr):List Sr:=L.filter fun s=> !(kindsL s.kd).isEmpty
theorem sends_yes {L:List Sr} {i:Nat} {s:Sr} (h:L[i]? =some s) (hk:(kindsL s.kd).isEmpty=false):sendsL (L.take (i+1))=sendsL (L.take i)++ [s]:=by
 rw [sendsL,sendsL,List.take_add_one,h,List.filter_append];simp [hk]
theorem sends_no {L:List Sr} {i:Nat} {s:Sr} (h:L[i]? =some s) (hk:(kindsL s.kd).isEmpty=true):sendsL (L.take (i+1))=sendsL (L.take i):=by
 rw [sendsL,sendsL,List.take_add_one,h,List.filter_append];simp [hk]
theorem sr_asc {L:List Sr} (h:srsB L=true):∀ {j i:Nat} {s t:Sr},i < j→L[i]? =some s→L[j]? =some t→s.id < t.id
 | 0,i,_,_,hi,_,_=> by omega
 | j+1,i,s,t,hi,hs,ht=> by
  have h1:=srsB_iff.1 h (j+1)
  rw [stepS_at ht] at h1
  have hj:j < L.length:=by have:=(List.getElem?_eq_some_iff.1 ht).1;omega
  have hx:=List.getElem?_eq_getElem hj
  simp only [wasS,hx,Bool.and_eq_true,decide_eq_true_eq] at h1
  by_cases e:i=j
  ·subst e;rw [hx] at hs;cases hs;exact h1.2
  ·have:=sr_asc h (by omega:i < j) hs hx
   omega
theorem srs_ok {L:List Sr} (h:srsB L=true):∀s∈L,0≤s.id∧s.id≤7:=fun s hs=> by
 obtain ⟨j,hj⟩:=List.mem_iff_getElem?.1 hs
 have h1:=srsB_iff.1 h j
 rw [stepS_at hj] at h1
 simp only [Sr.ok,Bool.and_eq_true,decide_eq_true_eq] at h1
 exact h1.1.1
theorem take_mem {L:List Sr} {i:Nat} {s:Sr} (h:s∈L.take i):∃j < i,L[j]? =some s:=by
 obtain ⟨j,hj⟩:=List.mem_iff_getElem?.1 h
 rw [List.getElem?_take] at hj
 split at hj
 ·next hlt=> exact ⟨j,hlt,hj⟩
 ·cases hj
theorem fill_crw {c:Cf} {sl ks:Value} {m1 m2:Option Nat} (h:c.cm.length=32) (hk:ks.oneCell'=true) {places:Array (Nat×Nat)} (hp:places= #[(0,45),(45,1),(46,1),(47,1),(48,1)]):
  fillL (places[·]?) (zeroC.cells (.slice none 0 0)++ [.slice none 0 0, .map none, .slice none 0 0, .map none]) [(0, .agg (c.cells sl).toArray),(1,ks),(2, .map m1),(4, .map m2)]=some (c.cells sl++ [ks, .map m1, .slice none 0 0, .map m2]):=by
 subst hp
 have h45:=cf_len h sl
 refine fill_seg (vs:=c.cells sl) [] (zeroC.cells (.slice none 0 0)) [.slice none 0 0, .map none, .slice none 0 0, .map none] rfl (agg_cells _) rfl rfl rfl h45 ?_
 refine fill_seg (vs:= [ks]) (c.cells sl) [.slice none 0 0] [.map none, .slice none 0 0, .map none] rfl (by rw [cells_one hk]) rfl h45 rfl rfl ?_
 refine fill_seg (vs:= [.map m1]) (c.cells sl++ [ks]) [.map none] [.slice none 0 0, .map none] rfl rfl zm (by simp [h45]) rfl rfl ?_
 refine fill_seg (vs:= [.map m2]) (c.cells sl++ [ks, .map m1, .slice none 0 0]) [.map none] [] rfl rfl zm (by simp [h45]) rfl rfl ?_
 simp [fillL]
theorem fill_snd {s:Sr} (h:s.rt.length=32) {places:Array (Nat×Nat)} (hp:places= #[(0,48),(48,1),(49,1)]):
  fillL (places[·]?) (zeroS.cells++ [.int .u32 0, .int .u64 0]) [(0, .agg s.cells.toArray),(1, .int .u32 1)]=some (s.cells++ [.int .u32 1, .int .u64 0]):=by
 subst hp
 have h48:=sr_len h
 refine fill_seg (vs:=s.cells) [] zeroS.cells [.int .u32 0, .int .u64 0] rfl (agg_cells _) rfl rfl rfl h48 ?_
 refine fill_seg (vs:= [.int .u32 1]) s.cells [.int .u32 0] [.int .u64 0] rfl rfl rfl h48 rfl rfl ?_
 simp [fillL]
theorem clone_srs (p:Option Addr) (n ca:Nat) (L:List Sr) (hn:L.length=n) (hb:n≤1000000):Spc prog 36 #[.slice p n ca] [sls p 48 n (L.flatMap Sr.cells)] [] (fun v I' H'=> ∃ob cap,v=slO ob n cap∧I'= []∧H'= [own ob cap 122 48 n (L.flatMap Sr.cells)]):=by
 subst hn
 refine Spc.fact (p:=p=none→L.length=0) (fun w hw e=> sls_nil (hw.i _ (List.Mem.head _)) e) (fun hpp=> ?_)
 cases p with
 | none=>
  have h0:=hpp rfl
  refine Spc.en func36 rfl rfl (fun w0 hw0=> ?_)
  refine CW.sr (RL.pn rfl (CW.ss (CW.sr (RL.p rfl (RL.cmp rfl (eql_slice runUnderlying24 _ _ _) (RL.ns (CW.cT rfl (rfl) (CW.ss ?_))))))))
  refine CW.rg (RL.pn rfl (CW.rr (RQ.ss (RQ.ownNone (e:=122) 48 ?_))))
  rw [List.length_eq_zero_iff.1 h0]
  exact RQ.pp (res1 rfl rfl) (.keep .nil) ⟨none,0,rfl,rfl,rfl⟩
 | some a=>
  refine Spc.en func36 rfl rfl (fun w0 hw0=> ?_)
  refine CW.sr (RL.pn rfl (CW.ss (CW.sr (RL.p rfl (RL.cmp rfl (eql_slice runUnderlying24 _ _ _) (RL.ns (CW.cF rfl (rfl) (CW.kk ?_))))))))
  refine NQ.ss (CW.sg [0,2] [2] (RL.buildOwn [] runUnderlying24 sizeOf122 zeroValue122 rfl rfl zc zc rfl zc rfl ?_))
  intro oq
  refine RL.p rfl (RL.appendA el_24 rfl za (Src.sls mQ) (srs_ones _) zd zd ?_)
  intro ob1 cap1 ho1
  refine RL.pn rfl (CW.ok [2] rfl (CW.rr ?_))
  rw [own_is (Nat.zero_add L.length) (List.nil_append _)]
  exact RQ.pp (res1 rfl rfl) (.keep .nil) ⟨ob1,cap1,by rw [Nat.zero_add],rfl,rfl⟩
def newE (c:Cf) (k:List B8) (n:Int):Int:=if c.err≠0 then c.err else if 1≤n∧n≤512 then (if nextN k n.toNat=c.cm then 0 else 211) else 2
structure NewZ (c:Cf) (k:List B8) (n:Nat) (z:Crw):Prop where
 ok:z.Ok
 cf:z.c=c
 K:z.K=(chainL k (n+1)).reverse
 T:z.T.map (·.s)=sendsL c.L
 n:∀x∈z.T,x.ep=1∧x.ct=0
 l:z.l= []
def NewC (c:Cf) (k:List B8) (n:Int):Value→List It→List It→Prop:=fun v I' H'=> I'= []∧((newE c k n≠0∧v= .tuple #[.pointer none, .int .i64 (newE c k n)]∧H'= [])∨(newE c k n=0∧∃z,v= .tuple #[.pointer (some ⟨z.b,0,none⟩), .int .i64 0]∧H'= [crwI z]∧NewZ c k n.toNat z))
theorem err_zero {c:Cf} (h:c.err=0):c.ok=true:=by
 unfold Cf.err at h
 split at h
 ·next h1=> exact h1
 ·cases h
theorem ok_srs {c:Cf} (h:c.ok=true):srsB c.L=true∧c.L.length≤8:=by
 simp only [Cf.ok,srcB,Bool.and_eq_true,decide_eq_true_eq] at h
 exact ⟨h.1.2.1.1,h.1.2.1.2⟩
theorem cf_cm (c:Cf) (sl:Value):∀(j:Nat) (u:Value),(bytes c.cm)[j]? =some u→(c.cells sl)[0+9+j]? =some u:=fun j u hj=> by
 rw [Cf.cells,show 0+9+j=j+1+1+1+1+1+1+1+1+1 by omega]
 simp only [List.getElem?_cons_succ]
 rw [List.getElem?_append_left (List.getElem?_eq_some_iff.1 hj).1];exact hj
def zN (b lm sm:Nat) (c:Cf) (sp:Option Nat) (sc ko kc:Nat) (K:List (List B8)) (T:List Snd):Crw:=⟨b,lm,sm,c,sp,sc,ko,kc,K,T,none,0, [], []⟩
theorem newZ_ok {b lm sm:Nat} {c:Cf} {sp:Option Nat} {sc ko kc:Nat} {k:List B8} {n:Nat} {T:List Snd} (hc:c.Fit) (hok:c.ok=true) (hk:k.length=32) (hn:1≤n∧n≤512) (hT:T.map (·.s)=sendsL c.L) (hT1:∀x∈T,x.ep=1∧x.ct=0):NewZ c k n (zN b lm sm c sp sc ko kc (chainL k (n+1)).reverse T):=by
 obtain ⟨h1,h2⟩:=ok_srs hok
 have hm:∀x∈T,x.s∈c.L:=fun x hx=> by
  have:x.s∈T.map (·.s):=List.mem_map.2 ⟨x,hx,rfl⟩
  rw [hT] at this
  exact (List.mem_filter.1 this).1
 have hnd:(c.L.map fun s=> s.id).Pairwise (· < ·):=by
  rw [List.pairwise_map,List.pairwise_iff_getElem]
  intro i j hi hj hij
  exact sr_asc h1 hij (List.getElem?_eq_getElem hi) (List.getElem?_eq_getElem hj)
 refine ⟨⟨hc.cm,fun s hs=> ⟨hc.L s hs,srs_ok h1 s hs⟩,Nat.le_trans h2 zc,chainR_all hk _,by show 1≤(chainL k (n+1)).reverse.length∧(chainL k (n+1)).reverse.length≤513;rw [List.length_reverse,chainL_len];omega,fun x hx=> ⟨hm x hx,by rw [(hT1 x hx).1];decide,by rw [(hT1 x hx).2];decide⟩, ?_,by simp [zN],by simp [zN],sok_nil⟩,rfl,rfl,hT,hT1,rfl⟩
 show (T.map fun x=> x.s.id).Nodup
 have e:(T.map fun x=> x.s.id)=(T.map (·.s)).map fun s=> s.id:=by simp
 rw [e,hT]
 have hp:((sendsL c.L).map fun s=> s.id).Pairwise (· < ·):=hnd.sublist ((List.filter_sublist).map _)
 exact hp.imp (fun h=> by omega)
theorem zN_cells {b lm sm:Nat} {c:Cf} {sp:Option Nat} {sc ko kc n:Nat} {K:List (List B8)} {T:List Snd} (h:K.length=n):(zN b lm sm c sp sc ko kc K T).cells=c.cells (slO sp c.L.length sc)++ [slO (some ko) n kc, .map (some lm), .slice none 0 0, .map (some sm)]:=by subst h;rfl
theorem eNew_any (c:Cf) (oa:Option Nat) (ca m:Nat) (k:List B8) (n:Int) (hc:c.Fit) (hm:c.L.length=m) (hmb:m≤1000000) (hk:k.length=32):
  Spc prog 8 #[.agg (c.cells (slO oa m ca)).toArray, .agg (bytes k).toArray, .int .i64 n] [sls (oa.map fun b=> ⟨b,0,none⟩) 48 m (c.L.flatMap Sr.cells)] [] (NewC c k n):=by
 subst hm
 have h45:=fun sl=> cf_len hc.cm sl
 have h45a:=h45 (slO oa c.L.length ca)
 have hE:newE c k n=newE c k n:=rfl
 conv at hE=> rhs;rw [newE]
 refine Spc.en func8 rfl rfl (fun w0 hw0=> ?_)
 refine CW.sg [0,1] [] (RL.box rfl ?_)
 intro b1
 refine RL.box rfl ?_
 intro b2
 refine RL.qn rfl (CW.ss (CW.sr (RL.lS isAgg34 sizeOf34 rfl ?_)))
 refine RL.vv (ccheck_any c oa ca _ rfl hc zb) call34 rfl (.inI mQ .nil) ?_
 refine RL.pn rfl (CW.s1 rfl ?_)
 refine CW.cd rfl (fun h1=> ?_) (fun h1=> ?_)
 ·
  refine CW.sr (RL.p rfl (RL.qn rfl (CW.ok [2,3,4,6,7] rfl (CW.rr (RQ.ss ?_)))))
  have h1:c.err≠0:=by simpa using h1
  rw [if_pos h1] at hE
  exact RQ.pp (res2 rfl rfl rfl) (Split.nn _) ⟨rfl, .inl ⟨by rw [hE];exact h1,congrArg (fun e=> Value.tuple #[.pointer none, .int .i64 e]) hE.symm,rfl⟩⟩
 ·
  have h1:c.err=0:=by simpa using h1
  rw [if_neg zb] at hE
  have hok:=err_zero h1
  obtain ⟨hsr,hl8⟩:=ok_srs hok
  by_cases hn:okN n
  ·have hn':=hn
   unfold okN at hn'
   obtain ⟨j,rfl⟩:∃j:Nat,n=(j:Int):=⟨n.toNat,zb⟩
   rw [if_pos hn',Int.toNat_natCast] at hE
   have hkl:=nextN_len hk j
   refine CW.sn (CW.ok [2,3,4] rfl (CW.sg [2] [] (RL.lS isAgg31 sizeOf31 rfl ?_)))
   refine RL.p rfl (RL.cq (ekeys_ok k hk j hn) call35 rfl (.inl rfl) ?_)
   rintro _ _ _ ⟨ko,kc,rfl,rfl,rfl⟩
   have hx:=chainR_get k j
   have hL:=chainR_all hk (j+1)
   refine RL.q rfl (RL.p rfl (RL.qn rfl (CW.ok [3,9,10] rfl (CW.ss (CW.bb (CW.sr (RL.q rfl ?_)))))))
   refine RL.pn rfl (CW.cF rfl (rfl) (CW.ss (CW.rD (Sq.of [0,1,2,3,4,5,6]) [] [] [0,1,3,5,6] mixed zi ?_)))
   refine RL.p rfl (RL.ix (j:=0) runUnderlying89 sizeOf31 rfl zb ?_)
   refine RL.ld (vs:=bytes (nextN k j)) isAgg31 (by rw [List.length_map,hkl];exact sizeOf31) rfl (own_rds (f:=bytes) mQ hx (fun z hz=> by rw [List.length_map];exact hL z hz)) ?_
   refine RL.fa fa_34_4 rfl (RL.ld (vs:=bytes c.cm) isAgg31 (by rw [List.length_map,hc.cm];exact sizeOf31) rfl (Rds.cel mQ (cf_cm c _)) ?_)
   refine RL.cmp rfl (key_ne _ _ hkl hc.cm _ _) (RL.pn rfl (CW.ok [3,9,10,29] rfl ?_))
   refine CW.cd rfl (fun h2=> ?_) (fun h2=> ?_)
   ·
    refine CW.s1 rfl (CW.rr (RQ.bb (RQ.ss ?_)))
    have h2:nextN k j≠c.cm:=by simpa using h2
    rw [if_neg h2] at hE
    exact RQ.pp (res2 rfl rfl rfl) (Split.nn _) ⟨rfl, .inl ⟨by rw [hE];exact zc,congrArg (fun e=> Value.tuple #[.pointer none, .int .i64 e]) hE.symm,rfl⟩⟩
   ·
    have h2:nextN k j=c.cm:=by simpa using h2
    rw [if_pos h2] at hE
    have hKl:(chainL k (j+1)).reverse.length=j+1:=by rw [List.length_reverse,chainL_len]
    have hdone:=fun (b lm sm:Nat) (sp:Option Nat) (sc:Nat) (T:List Snd)=> newZ_ok (b:=b) (lm:=lm) (sm:=sm) (sp:=sp) (sc:=sc) (ko:=ko) (kc:=kc) (n:=j) (T:=T) hc hok hk zb
    generalize (chainL k (j+1)).reverse=R at hx hL hKl hdone
    refine CW.kk (NQ.bb (NQ.ss (CW.sg [2,4] [4] (RL.fa fa_34_0 rfl (RL.load isAgg24 rfl (Rd.get (v:=slO oa c.L.length ca) mQ rfl) ?_)))))
    refine RL.cc (clone_srs (oa.map fun b=> ⟨b,0,none⟩) _ ca c.L rfl zb) call36 rfl pE (.inI mQ .nil) (.inl rfl) ?_
    rintro _ _ _ ⟨sp,sc,rfl,rfl,rfl⟩
    refine RL.fa fa_34_0 rfl (RL.sX (vs:= [_]) cf_set sizeOf24 rfl rfl uE (by rw [h45];show 0+0+1≤45;decide) ?_)
    refine RL.ns (CW.sg [2,3,5] [] (RL.lW isAgg34 sizeOf34 rfl mQ (h45 _) ?_))
    refine RL.p rfl ?_
    refine RL.makeMap (good:=goodI) rfl rfl (fun lm=> ?_)
    refine RL.makeMap (good:=hdG) rfl rfl (fun sm=> ?_)
    refine RL.bS (zN 0 lm sm c sp sc ko kc R []).cells zeroValue93 pl_93 (qP rfl (qP rfl (by rw [zN_cells hKl];exact fill_crw hc.cm rfl rfl))) ?_
    refine RL.box (cs:=(zN 0 lm sm c sp sc ko kc R []).cells) rfl (fun bz=> ?_)
    refine RL.pn rfl (CW.ok [3,10,11] rfl (CW.ss (CW.sr (RL.fa fa_34_0 rfl (RL.load isAgg24 rfl (Rd.get (v:=slO sp c.L.length sc) mQ rfl) ?_)))))
    refine RL.lenS runUnderlying24 rfl (RL.pn rfl (CW.bb ?_))
    refine CW.loop (γ:=Nat×List Snd) (fun g=> g.1≤c.L.length∧g.2.map (·.s)=sendsL (c.L.take g.1)∧∀x∈g.2,x.ep=1∧x.ct=0) (fun g=> [(10, .int .i64 0),(11, .pointer (some ⟨bz,0,none⟩)),(47,slO sp c.L.length sc),(48, .int .i64 (c.L.length:Int)),(49, .int .i64 (g.1:Int))]) (fun _=> [sls (oa.map fun b=> ⟨b,0,none⟩) 48 c.L.length (c.L.flatMap Sr.cells)])
     (fun g=> [PK.allI (g.2.map sndI),cel bz (zN bz lm sm c sp sc ko kc R []).cells 93,mapI lm goodI (cS g.2),mapI sm hdG [],own sp sc 122 48 c.L.length (c.L.flatMap Sr.cells),own (some ko) kc 31 32 (j+1) (flatK R)]) (fun g=> c.L.length - g.1) (0, []) ⟨Nat.zero_le _,by simp [sendsL],zm⟩ sE (fun w h=> (Cls.allNil h).rea (fun _ h=> h) rE) ?_
    rintro ⟨i,T⟩ ⟨hi,hT,hT1⟩
    dsimp only at hi hT hT1 ⊢
    refine CW.ff (p:=sp=none→c.L.length=0) (fun w hC e=> own_none (by have:=hC.s.h (own sp sc 122 48 c.L.length (c.L.flatMap Sr.cells)) mQ;rw [e] at this;exact this)) (fun hpa=> ?_)
    refine CW.sr (RL.pn rfl (CW.ss ?_))
    refine CW.cd rfl (fun hlt=> ?_) (fun hlt=> ?_)
    ·
     have hlt:i < c.L.length:=by simp at hlt;omega
     have hx:=List.getElem?_eq_getElem hlt
     have hsy:=fun h=> sends_yes hx h
     have hsn:=fun h=> sends_no hx h
     have hfr:∀x∈T,x.s.id < (c.L[i]).id:=fun x hxT=> by
      have:x.s∈T.map (·.s):=List.mem_map.2 ⟨x,hxT,rfl⟩
      rw [hT] at this
      obtain ⟨q,hq,hqs⟩:=take_mem (List.mem_filter.1 this).1
      exact sr_asc hsr hq hqs hx
     generalize c.L[i]=s at hx hsy hsn hfr
     have hsf:=hc.L s (List.mem_of_getElem? hx)
     have h48:=sr_len hsf.rt
     have hLl:∀s∈c.L,s.cells.length=48:=fun s hs=> sr_len (hc.L s hs).rt
     obtain ⟨sb,rfl⟩:∃sb,sp=some sb:=by
      cases h:sp with
      | none=> exact absurd (hpa h) zb
      | some sb=> exact ⟨sb,rfl⟩
     refine CW.sn (CW.ss (CW.bb (CW.sg [2,3] [3] (RL.ix (j:=i) runUnderlying24 sizeOf122 rfl hlt (RL.ld (vs:=s.cells) isAgg122 (by rw [h48];exact sizeOf122) rfl (own_rds (f:=Sr.cells) mQ hx hLl) ?_)))))
     refine RL.al zeroValue122 rfl ?_
     intro b3
     refine RL.sW sizeOf122 rfl (sr_ones s) uE h48 rfl ?_
     refine RL.ns (CW.sg [2] [] (RL.fa fa_122_1 rfl (RL.load isAgg3 rfl (Rd.get (v:= .int .i64 s.kd) mQ rfl) ?_)))
     refine RL.cc (kinds_any s.kd) call37 rfl pE .nil (.inl rfl) ?_
     rintro _ _ _ ⟨qo,qc,rfl,rfl,rfl⟩
     have hkl:=kindsL_len s.kd
     refine RL.lenS runUnderlying52 rfl (RL.pn rfl (CW.ok [10,11,13,47,48,49,57] rfl ?_))
     refine CW.cd rfl (fun hk=> ?_) (fun hk=> ?_)
     ·
      have hk:(kindsL s.kd).isEmpty=false:=by
       cases h:kindsL s.kd with
       | nil=> rw [h] at hk;simp at hk
       | cons a l=> rfl
      refine CW.rD (Sq.of (rg 0 9)) [8,9] [9] [0,1,2,4,7] mixed zi ?_
      refine RL.q rfl (RL.fa fa_93_2 rfl (RL.load isAgg90 rfl (Rd.get mQ (crw_m (z:=zN bz lm sm c (some sb) sc ko kc R []) hc.cm)) ?_))
      refine RL.fa fa_122_0 rfl (RL.load isAgg3 rfl (Rd.get (v:= .int .i64 s.id) mQ rfl) ?_)
      refine RL.lW isAgg122 sizeOf122 rfl mQ h48 ?_
      refine RL.bS (Snd.cells ⟨s,1,0,0⟩) zeroValue125 pl_125 (qP rfl (qP rfl (fill_snd hsf.rt rfl))) ?_
      refine RL.box (cs:=Snd.cells ⟨s,1,0,0⟩) rfl (fun bx=> ?_)
      refine RL.mapUpdate keyI runUnderlying90 rfl rfl rfl rfl rfl rfl ⟨s.id,rfl⟩ uE ?_
      refine RL.ee (NQ.bb (NQ.ss (CW.ok [10,11,47,48,49] rfl (CW.rg (RL.bx rfl (wrapV_i64 zb zb) ?_)))))
      refine RL.p rfl (RL.ee ?_)
      have habs:lookV (.int .i64 s.id) (cS T)=none:=by
       rw [look_T,show atT T s.id=none from List.find?_eq_none.2 (fun x hx=> by have:=hfr x hx;simp;omega)];rfl
      have hset:setV (.int .i64 s.id) (.pointer (some ⟨bx,0,none⟩)) (cS T)=cS (T++ [(⟨s,1,0,bx⟩:Snd)]):=by
       rw [setV_absent habs,cS,cS,List.map_append];rfl
      refine NQ.rr (g:=(i,T)) (i+1,T++ [(⟨s,1,0,bx⟩:Snd)]) ⟨hlt,by rw [List.map_append,hT,hsy hk];rfl,fun x hx=> ?_⟩ (by show c.L.length - (i+1) < c.L.length - i;omega) sE (fun w h=> ?_)
      ·rcases List.mem_append.1 hx with hx | hx
       ·exact hT1 x hx
       ·rw [List.mem_singleton.1 hx];exact ⟨rfl,rfl⟩
      ·rw [hset] at h
       have h1:=h.rea (I':= [sls (oa.map fun b=> ⟨b,0,none⟩) 48 c.L.length (c.L.flatMap Sr.cells)]) (H':= [sndI ⟨s,1,0,bx⟩,PK.allI (T.map sndI),cel bz (zN bz lm sm c (some sb) sc ko kc R []).cells 93,mapI lm goodI (cS (T++ [(⟨s,1,0,bx⟩:Snd)])),mapI sm hdG [],own (some sb) sc 122 48 c.L.length (c.L.flatMap Sr.cells),own (some ko) kc 31 32 (j+1) (flatK R)]) (fun _ h=> h) rE
       exact Cls.pushA (m:=(T++ [(⟨s,1,0,bx⟩:Snd)]).map sndI) (by rw [List.map_append];exact List.perm_append_comm) h1
     ·
      refine CW.kk (NQ.bb (NQ.ss (CW.rg (RL.bx rfl (wrapV_i64 zb zb) ?_))))
      refine RL.p rfl (RL.ee ?_)
      have hk:(kindsL s.kd).isEmpty=true:=by
       cases h:kindsL s.kd with
       | nil=> rfl
       | cons a l=> rw [h] at hk;simp at hk
      refine NQ.rr (g:=(i,T)) (i+1,T) ⟨hlt,by rw [hT,hsn hk],hT1⟩ (by show c.L.length - (i+1) < c.L.length - i;omega) sE wE
    ·
     have hin:i=c.L.length:=by simp at hlt;omega
     subst hin
     rw [List.take_length] at hT
     refine CW.xx (XQ.ss (XQ.ss (XQ.hh (NQ.ss (CW.sr (RL.q rfl (RL.qn rfl (CW.ok [6,7] rfl ?_))))))))
     refine CW.rr ?_
     rw [own_is (ob:=some ko) (n':=R.length) hKl.symm rfl]
     refine RQ.ownNone (e:=78) 21 (RQ.pack (l:= []) (RQ.pack (l:= []) (RQ.crw (z:=zN bz lm sm c sp sc ko kc R T) (B:= []) rE ?_)))
     exact RQ.pp (res2 rfl rfl rfl) (.keep .nil) ⟨rfl, .inr ⟨hE,zN bz lm sm c sp sc ko kc R T,rfl,rfl,hdone bz lm sm sp sc T hT hT1⟩⟩
  ·have hb:=ekeys_bad k hk n hn
   rw [if_neg (show¬(1≤n∧n≤512) from hn)] at hE
   refine CW.sn (CW.ok [2,3,4] rfl (CW.sr (RL.lS isAgg31 sizeOf31 rfl ?_)))
   refine RL.p rfl (RL.vq (hb) call35 rfl ?_)
   refine RL.q rfl (RL.p rfl (RL.qn rfl (CW.ok [3,9,10] rfl (CW.ss (CW.bb (CW.sr (RL.q rfl ?_)))))))
   refine RL.pn rfl (CW.cT rfl (rfl) (CW.sr (RL.p rfl (RL.qn rfl (CW.rr (RQ.bb (RQ.ss ?_)))))))
   exact RQ.pp (res2 rfl rfl rfl) (Split.nn _) ⟨rfl, .inl ⟨by rw [hE];exact zc,congrArg (fun e=> Value.tuple #[.pointer none, .int .i64 e]) hE.symm,rfl⟩⟩
theorem Crw.Ok.sent {z:Crw} (h:z.Ok) {T:List Snd} {f:Fr} {bo:Option Nat} {bc:Nat} {so:Option Nat} {soc:Nat} {E:List SE} (hT:∀x∈T,x.s∈z.c.L∧x.ep < 4294967296∧x.ct < 18446744073709551616) (hn:(T.map fun x=> x.s.id).Nodup) (hf:f.Fit) (hl:z.l.length < 1000) (hE:SOk E (z.l++ [⟨f,bo,bc⟩])):((z.setT T).put ⟨f,bo,bc⟩ so soc E).Ok:=
 ⟨h.cm,h.L,h.n,h.K,h.K1,hT,hn,fun x hx=> by
  rcases List.mem_append.1 (show x∈z.l++ [⟨f,bo,bc⟩] from hx) with hx | hx
  ·exact h.l x hx
  ·rw [List.mem_singleton.1 hx];exact hf,by show (z.l++ [_]).length≤1000;rw [List.length_append];exact hl,hE⟩
theorem set_in {T A B:List Snd} {x:Snd} {c:List Sr} {ep ct:Nat} (hT:T=A++x::B) (h:∀x∈T,x.s∈c∧x.ep < 4294967296∧x.ct < 18446744073709551616) (he:ep < 4294967296) (hc:ct < 18446744073709551616):∀y∈A++x.set ep ct::B,y.s∈c∧y.ep < 4294967296∧y.ct < 18446744073709551616:=fun y hy=> by
 subst hT
 rcases List.mem_append.1 hy with hy | hy
 ·exact h y (by simp [hy])
 ·rcases List.mem_cons.1 hy with rfl | hy
  ·exact ⟨(h x zm).1,he,hc⟩
  ·exact h y (by simp [hy])
theorem set_ids {T A B:List Snd} {x:Snd} {ep ct:Nat} (hT:T=A++x::B):((A++x.set ep ct::B).map fun x=> x.s.id)=T.map fun x=> x.s.id:=by
 subst hT;simp [Snd.set]
theorem atT_put {T A B:List Snd} {x:Snd} {ep ct:Nat} {n:Int} (hT:T=A++x::B) (hn:(T.map fun x=> x.s.id).Nodup) (hx:n=x.s.id):atT (A++x.set ep ct::B) n=some (x.set ep ct):=by
 subst hT
 rw [atT,List.find?_eq_some_iff_append]
 refine ⟨decide_eq_true hx,A,B,rfl,fun a ha=> ?_⟩
 rw [List.map_append,List.nodup_append] at hn
 have:=hn.2.2 a.s.id (List.mem_map.2 ⟨a,ha,rfl⟩) x.s.id zm
 simp
 omega
theorem atT_map (T:List Snd) (n:Int):(atT T n).map (·.s)=(T.map (·.s)).find? fun s=> decide (n=s.id):=by
 rw [atT,List.find?_map];rfl
theorem ex33_ok:(cfgC 1#8).ok=true:=by
 show Cf.ok ⟨0,0,42949672960,4194304,⟨0,10,2,3⟩,cfgK 1#8,3,40,15,8,plainL 1#8 [] 6⟩=true
 generalize cfgK 1#8=k
 rfl
theorem ex33_new:newE (cfgC 1#8) (lastK 1#8) 24=0:=by
 rw [newE,if_neg (by rw [Cf.err,ex33_ok];decide),if_pos zc,if_pos]
 rfl
theorem ex33_at {T:List Snd} (h:T.map (·.s)=sendsL (cfgC 1#8).L):∃x,atT T 1=some x∧x.s=plainS 1#8 1 2:=by
 have h1:=atT_map T 1
 rw [h,show (sendsL (cfgC 1#8).L).find? (fun s=> decide ((1:Int)=s.id))=some (plainS 1#8 1 2) from rfl] at h1
 cases hx:atT T 1 with
 | none=> rw [hx] at h1;cases h1
 | some x=> rw [hx] at h1;exact ⟨x,rfl,by simpa using h1⟩
theorem rz2_ok:okP (rz 2):=by
 refine ⟨getR 2 (bodyR (rz 2)), ?_, ?_⟩
 ·rw [show (rz 2).kind=2 from rfl,gotR,if_pos]
  exact ⟨zc,zc,by decide+kernel,by decide+kernel,zc⟩
 ·have h1:i64at (bodyR (rz 2)) 0=0:=by decide+kernel
  generalize bodyR (rz 2)=l at*
  show ({ rz 2 with height:=i64at l 0 }:Rdg).cells=_
  rw [h1];rfl
theorem ex33_send {x:Snd} (hs:x.s=plainS 1#8 1 2) (hc:x.ct < 10):sendE x (rz 2)=0:=by
 rw [sendE_yes ⟨(put_yes rz2_ok).2,by rw [hs];decide⟩,if_neg zb]
theorem saidB_one {f g:Fr} {b1 b2:Option Nat} {c1 c2:Nat}:saidB [⟨f,b1,c1⟩,⟨g,b2,c2⟩] f=true:=by
 simp [saidB]
theorem send_good {z:Crw} {n:Int} {r:Rdg} {x:Snd} {v:Value} {I' H':List It} (hx:atT z.T n=some x) (hk:r.kind≠10) (hE:sendE x r=0) (h:SendQ z n r v I' H'):∃A B,z.T=A++x::B∧SentQ z (A++x.set x.ep (x.ct+1)::B) (frS x r) v I' H':=by
 rcases h with ⟨h1, -⟩ | ⟨A,B,y,hT,hy,⟨h1, -⟩ | ⟨-,h1,⟨h2, -⟩ | ⟨-,rb,rc,bo,bc,so,soc,E',h3,h4,h5⟩⟩⟩
 ·rw [hx] at h1;cases h1
 ·exact absurd h1 hk
 ·rw [hx] at hy;cases hy;exact absurd hE h2
 ·rw [hx] at hy;cases hy
  exact ⟨A,B,hT,rb,rc,bo,bc,so,soc,E',h3,h1,h4,h5⟩
theorem works33:Spc prog 6 #[] [] [] (Is (.bool true)):=by
 refine Spc.en func6 rfl rfl (fun w0 hw0=> ?_)
 refine CW.sr (RL.pn rfl (CW.sg [0,2] [] (RL.cq (config_nil 1#8) call7 rfl (.inl rfl) ?_)))
 rintro _ _ _ ⟨ob,cp,rfl,rfl,rfl⟩
 refine RL.vq (last_any 1#8) call9 rfl ?_
 refine RL.cc (eNew_any (cfgC 1#8) ob cp _ (lastK 1#8) 24 (cfgC_fit _) rfl (by rw [cfgC_len];decide) (lastK_len _)) call8 rfl pE (Lend.own mQ .nil) (.inl rfl) ?_
 rintro _ _ _ ⟨rfl,⟨h, -⟩ | ⟨-,z,rfl,rfl,hz⟩⟩
 ·exact absurd ex33_new h
 obtain ⟨x,hx,hxs⟩:=ex33_at (by rw [←hz.cf];rw [hz.T,hz.cf])
 have hxm:=List.mem_of_find?_eq_some hx
 have hx1:=hz.n x hxm
 have hxi:(1:Int)=x.s.id:=by rw [hxs];rfl
 have hl0:=hz.l
 have hzo:=hz.ok
 clear hz
 refine RL.q rfl (RL.p rfl (RL.qn rfl (CW.ok [1,2] rfl (CW.ss (CW.sr (RL.p rfl (RL.cmp rfl (eql_ptr runUnderlying36 _) (RL.ee ?_))))))))
 refine NQ.ss (CW.cF rfl (rfl) (CW.sn (CW.sg [2] [2] (RL.p rfl (RL.bS (rz 2).cells zeroValue69 pl_69 rfl (RL.cq (eSend_any z 1 (rz 2) (rz_ok rfl) hzo (by rw [hl0];decide)) call19 rfl (.inr rfl) ?_))))))
 rintro v I' H' hv
 obtain ⟨A,B,hT,rb,rc,bo,bc,so,soc,E',rfl,rfl,rfl,hok⟩:=send_good hx zc (ex33_send hxs (by rw [hx1.2];decide)) hv
 clear hv
 have hf1:=frS_fit (hzo.L x.s (hzo.T x hxm).1).2 (hzo.T x hxm).2.1 (hzo.T x hxm).2.2 (ex33_send hxs (by rw [hx1.2];decide))
 have hz1:=hzo.sent (T:=A++x.set x.ep (x.ct+1)::B) (so:=so) (soc:=soc) (set_in hT hzo.T (hzo.T x hxm).2.1 (by rw [hx1.2];decide)) (by rw [set_ids hT];exact hzo.Tn) hf1 (by rw [hl0];decide) hok
 have hl1:((z.setT (A++x.set x.ep (x.ct+1)::B)).put ⟨frS x (rz 2),bo,bc⟩ so soc E').l= [⟨frS x (rz 2),bo,bc⟩]:=by show z.l++_=_;rw [hl0];rfl
 have hy:=atT_put (ep:=x.ep) (ct:=x.ct+1) hT hzo.Tn hxi
 have hym:x.set x.ep (x.ct+1)∈A++x.set x.ep (x.ct+1)::B:=by simp
 have hep:(frS x (rz 2)).ep=1:=hx1.1
 have hct:(frS x (rz 2)).ct=1:=by show x.ct+1=1;rw [hx1.2]
 have hys:(x.set x.ep (x.ct+1)).s=plainS 1#8 1 2:=hxs
 have hy2:(x.set x.ep (x.ct+1)).ct=1:=by show x.ct+1=1;rw [hx1.2]
 have hzT:((z.setT (A++x.set x.ep (x.ct+1)::B)).put ⟨frS x (rz 2),bo,bc⟩ so soc E').T=A++x.set x.ep (x.ct+1)::B:=rfl
 rw [←hzT] at hy hym
 clear hzT
 have hzb:((z.setT (A++x.set x.ep (x.ct+1)::B)).put ⟨frS x (rz 2),bo,bc⟩ so soc E').b=z.b:=rfl
 generalize (z.setT (A++x.set x.ep (x.ct+1)::B)).put ⟨frS x (rz 2),bo,bc⟩ so soc E'=z1 at hz1 hl1 hy hym hzb
 generalize frS x (rz 2)=f1 at hf1 hl1 hep hct
 generalize x.set x.ep (x.ct+1)=y at hy hym hys hy2
 have hyi:(1:Int)=y.s.id:=by rw [hys];rfl
 have hE2:=ex33_send hys (by rw [hy2];decide)
 have hs2:=eSend_any z1 1 (rz 2) (rz_ok rfl) hz1 (by rw [hl1];show 1 < 1000;decide)
 rw [hzb] at hs2
 refine RL.q rfl (RL.p rfl (RL.qn rfl (CW.ok [1,2,3,4] rfl (CW.sg [2] [2] (RL.p rfl (RL.bS (rz 2).cells zeroValue69 pl_69 rfl (RL.cq (hs2) call19 rfl (.inr rfl) ?_)))))))
 rintro v I' H' hv
 obtain ⟨A2,B2,hT2,rb2,rc2,bo2,bc2,so2,soc2,E2,rfl,rfl,rfl,hok2⟩:=send_good hy zc hE2 hv
 clear hv
 have hyo:=hz1.T y hym
 have hf2:=frS_fit (hz1.L y.s hyo.1).2 hyo.2.1 hyo.2.2 hE2
 have hz2:=hz1.sent (T:=A2++y.set y.ep (y.ct+1)::B2) (so:=so2) (soc:=soc2) (set_in hT2 hz1.T hyo.2.1 (by rw [hy2];decide)) (by rw [set_ids hT2];exact hz1.Tn) hf2 (by rw [hl1];show 1 < 1000;decide) hok2
 have hl2:((z1.setT (A2++y.set y.ep (y.ct+1)::B2)).put ⟨frS y (rz 2),bo2,bc2⟩ so2 soc2 E2).l= [⟨f1,bo,bc⟩,⟨frS y (rz 2),bo2,bc2⟩]:=by show z1.l++_=_;rw [hl1];rfl
 have hct2:(frS y (rz 2)).ct=2:=by show y.ct+1=2;rw [hy2]
 have hzb2:((z1.setT (A2++y.set y.ep (y.ct+1)::B2)).put ⟨frS y (rz 2),bo2,bc2⟩ so2 soc2 E2).b=z1.b:=rfl
 generalize (z1.setT (A2++y.set y.ep (y.ct+1)::B2)).put ⟨frS y (rz 2),bo2,bc2⟩ so2 soc2 E2=z2 at hz2 hl2 hzb2
 generalize frS y (rz 2)=f2 at hf2 hl2 hct2
 have hn1:=frB_len hf1.ok.tag
 have hn2:=frB_len hf2.ok.tag
 refine RL.q rfl (RL.p rfl (RL.qn rfl (CW.ok [1,2,3,4,5,6] rfl (CW.ss ?_))))
 refine CW.ff (p:=rb.isSome=true∧(frB f1).length≤rc) (fun w hC=> ?_) (fun h1=> ?_)
 ·have h:=hC.s.h (own rb rc 5 1 (frB f1).length (bytes (frB f1))) mQ
  refine ⟨?_,own_cap h⟩
  cases rb with
  | none=> have:=own_none h;omega
  | some b=> rfl
 refine CW.ff (p:=rb2.isSome=true∧(frB f2).length≤rc2) (fun w hC=> ?_) (fun h2=> ?_)
 ·have h:=hC.s.h (own rb2 rc2 5 1 (frB f2).length (bytes (frB f2))) mQ
  refine ⟨?_,own_cap h⟩
  cases rb2 with
  | none=> have:=own_none h;omega
  | some b=> rfl
 obtain ⟨q1,rfl⟩:=Option.isSome_iff_exists.1 h1.1
 obtain ⟨q2,rfl⟩:=Option.isSome_iff_exists.1 h2.1
 have h21:=fun (f:Fr) (sl:Value) (h:f.Fit)=> fr_len h.ok.tag sl
 refine CW.rn (ef:= [1,6,7]) (bk:= [7]) (RL.p rfl (RL.cc (rread_any q1 rc _ f1 hf1 rfl h1.2) call32 rfl pE (Lend.own (ob:=some q1) mQ .nil) (.inl rfl) ?_))
 rintro _ _ _ ⟨p1,pc1,rfl,rfl,rfl⟩
 refine RL.q rfl (RL.q rfl (RL.al zeroValue78 rfl ?_))
 intro b1
 refine RL.sW sizeOf78 rfl (ones_fr f1 rfl) uE (h21 f1 _ hf1) rfl ?_
 refine RL.qn rfl (CW.ok [1,2,4,5,6,7] rfl (CW.sg [1,6,7] [7] (RL.p rfl (RL.cc (rread_any q2 rc2 _ f2 hf2 rfl h2.2) call32 rfl pE (Lend.own (ob:=some q2) mQ .nil) (.inl rfl) ?_))))
 rintro _ _ _ ⟨p2,pc2,rfl,rfl,rfl⟩
 refine RL.q rfl (RL.q rfl (RL.al zeroValue78 rfl ?_))
 intro b2
 refine RL.sW sizeOf78 rfl (ones_fr f2 rfl) uE (h21 f2 _ hf2) rfl ?_
 refine RL.qn rfl (CW.ok [1,2,4,6,7,10] rfl (CW.ss ?_))
 have hsd:=eSaid_any z2 f1 (p1.map fun b=> ⟨b,0,none⟩) pc1 _ hz2 hf1.num rfl (by have:=hf1.b;omega)
 rw [hl2,saidB_one,hzb2,hzb] at hsd
 have hld:=eLedger_any z2 hz2
 rw [hl2,hzb2,hzb] at hld
 refine CW.rn (ef:= [32]) (bk:= []) (RL.q rfl (RL.p rfl (RL.tt (d:=47) (v':= .bool true) rfl (rfl) ?_)))
 refine RL.q rfl (RL.q rfl (RL.tt (d:=51) (v':= .bool true) rfl (rfl) ?_))
 refine RL.q rfl (RL.q rfl (RL.tt (d:=55) (v':= .bool true) rfl (rfl) ?_))
 refine RL.fa fa_78_2 rfl (RL.load isAgg61 rfl (Rd.get (v:= .int .u32 (f1.ep:Int)) mQ rfl) ?_)
 refine RL.q rfl (RL.p rfl (RL.tt (d:=60) (v':= .bool true) rfl ((by rw [hep];rfl)) ?_))
 refine RL.fa fa_78_3 rfl (RL.load isAgg32 rfl (Rd.get (v:= .int .u64 (f1.ct:Int)) mQ rfl) ?_)
 refine RL.q rfl (RL.p rfl (RL.tt (d:=65) (v':= .bool true) rfl ((by rw [hct];rfl)) ?_))
 refine RL.fa fa_78_3 rfl (RL.load isAgg32 rfl (Rd.get (v:= .int .u64 (f2.ct:Int)) mQ rfl) ?_)
 refine RL.q rfl (RL.p rfl (RL.tt (d:=70) (v':= .bool true) rfl ((by rw [hct2];rfl)) ?_))
 refine RL.p rfl (RL.lW isAgg78 sizeOf78 rfl mQ (h21 f1 _ hf1) ?_)
 refine RL.vv (hsd) call25 rfl (.inH mQ (Lend.own mQ .nil)) ?_
 refine RL.q rfl (RL.tt (d:=75) (v':= .bool true) rfl (rfl) ?_)
 refine RL.p rfl (RL.cc (hld) call16 rfl pE (.inH mQ .nil) (.inl rfl) ?_)
 rintro _ _ _ ⟨ol,cl,L,rfl,rfl,rfl, -⟩
 refine RL.lenS runUnderlying72 rfl (RL.p rfl (RL.qn rfl (CW.ok [0] rfl (CW.rr ?_))))
 exact RQ.pp (res1 rfl rfl) (Split.nn _) ⟨rfl,rfl,rfl⟩
end Go.Proofs.YtkineolcmdecjaaGreat
