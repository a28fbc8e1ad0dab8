import Derived.Test.YtkineolcmdecjaaGreatEB
import Derived.Test.YtkineolcmdecjaaGreatPE
import Derived.Test.YtkineolcmdecjaaGreatBA
namespace Go.Proofs.YtkineolcmdecjaaGreat
open Go.PK
open Tryz
def idxG {α:Type} (p:α→Bool) (l:List α):Int:=match l.findIdx? p with
 | some i=> (i:Int)
 | none=> -1
theorem idxG_no {α:Type} {p:α→Bool} {l:List α} (h:∀j < l.length,∀x,l[j]? =some x→p x=false):idxG p l= -1:=by
 rw [idxG,List.findIdx?_eq_none_iff.2 (fun x hx=> by
  obtain ⟨j,hj,rfl⟩:=List.mem_iff_getElem.1 hx
  exact h j hj _ (List.getElem?_eq_getElem hj))]
theorem idxG_yes {α:Type} {p:α→Bool} {l:List α} {i:Nat} {x:α} (hx:l[i]? =some x) (hp:p x=true) (h:∀j < i,∀x,l[j]? =some x→p x=false):idxG p l=i:=by
 obtain ⟨hlt,rfl⟩:=List.getElem?_eq_some_iff.1 hx
 rw [idxG,List.findIdx?_eq_some_iff_getElem.2 ⟨hlt,hp,fun j hj=> by
  have:=h j hj _ (List.getElem?_eq_getElem zb);rw [this];decide⟩]
theorem idxG_ge {α:Type} (p:α→Bool) (l:List α):decide (idxG p l≥0)=l.any p:=by
 rw [idxG]
 cases h:l.findIdx? p with
 | none=>
  have:=List.findIdx?_eq_none_iff.1 h
  rw [Bool.eq_iff_iff]
  simp
  exact this
 | some i=>
  obtain ⟨hlt,hp, -⟩:=List.findIdx?_eq_some_iff_getElem.1 h
  rw [Bool.eq_iff_iff]
  simp
  exact ⟨_,List.getElem_mem hlt,hp⟩
theorem takes_eq {a b:List B8} (hl:a.length=b.length) (h:∀j < a.length,a[j]? =b[j]?):a=b:=by
 apply List.ext_getElem?
 intro j
 by_cases hj:j < a.length
 ·exact h j hj
 ·rw [List.getElem?_eq_none zb,List.getElem?_eq_none zb]
theorem byteJ {I:List It} {p:Addr} {a:List B8} {i n:Nat} {x:B8} (hm:sls (some p) 1 n (bytes a)∈I) (h:a[i]? =some x):RdI I (p.add (i*1)) (U8 x):=
 ⟨fun _=> by rw [Nat.mul_one];exact Rd.getS hm (by rw [List.getElem?_map,h];rfl)⟩
theorem equal_b (p q:Option Addr) (c d n m:Nat) (a b:List B8) (hn:a.length=n) (hm:b.length=m) (hb:n≤1000000∧m≤1000000):Spc prog 67 #[.slice p n c, .slice q m d] [sls p 1 n (bytes a),sls q 1 m (bytes b)] [] (Is (.bool (a==b))):=by
 refine Spc.en func67 rfl rfl (fun w0 hw0=> ?_)
 refine CW.sr (RL.pn rfl (CW.ss (CW.sr (RL.p rfl (RL.lenS runUnderlying74 rfl (RL.p rfl (RL.lenS runUnderlying74 rfl (RL.p rfl (RL.ee ?_)))))))))
 refine NQ.ss ?_
 refine CW.cd rfl (fun hne=> ?_) (fun hne=> ?_)
 ·
  refine CW.sr (RL.pn rfl (CW.rr (RQ.ss ?_)))
  have hne:n≠m:=by simp at hne;omega
  exact RQ.pp (res1 rfl rfl) (Split.nn _) ⟨by rw [beq_eq_false_iff_ne.2 (fun h=> hne (by rw [←hn,←hm,h]))],rfl,rfl⟩
 ·
  have hnm:n=m:=by simp at hne;omega
  subst hnm
  refine CW.gI (fun J hJ=> ?_)
  have m1:sls p 1 n (bytes a)∈J:=hJ _ zm
  have m2:sls q 1 n (bytes b)∈J:=hJ _ zm
  clear hJ
  refine CW.sn (CW.ok [0,1] rfl (CW.ss (CW.sr (RL.p rfl (RL.lenS runUnderlying74 rfl (RL.pn rfl (CW.bb (CW.loop (γ:=Nat) (fun i=> i≤n∧∀j < i,a[j]? =b[j]?) (fun i=> [(0, .slice p n c),(1, .slice q n d),(12, .int .i64 (n:Int)),(13, .int .i64 (i:Int))]) (fun _=> J) (fun _=> []) (fun i=> n - i) 0 ⟨Nat.zero_le _,fun j h=> by omega⟩ sE (fun w h=> h) ?_))))))))
  rintro i ⟨hi,hok⟩
  refine CW.ff (p:=p=none→n=0) (fun w hC e=> sls_nil (hC.s.i _ m1) e) (fun hpp=> ?_)
  refine CW.ff (p:=q=none→n=0) (fun w hC e=> sls_nil (hC.s.i _ m2) e) (fun hqq=> ?_)
  refine CW.sr (RL.pn rfl (CW.ss ?_))
  refine CW.cd rfl (fun hlt=> ?_) (fun hlt=> ?_)
  ·
   have hlt:i < n:=by simp at hlt;omega
   obtain ⟨pa,rfl⟩:=sls_some hpp zb
   obtain ⟨qa,rfl⟩:=sls_some hqq zb
   have hx:=List.getElem?_eq_getElem (show i < a.length by omega)
   have hy:=List.getElem?_eq_getElem (show i < b.length by omega)
   generalize a[i]=x at hx
   generalize b[i]=y at hy
   have f1:=byteJ m1 hx
   have f2:=byteJ m2 hy
   refine CW.sn (CW.ss (CW.bb (CW.s1 rfl (CW.ss (CW.rD (Sq.of (rg 0 8)) [] [] (rg 0 8) mixed zi ?_)))))
   refine RL.q rfl (RL.idx (j:=i) runUnderlying74 sizeOf5 rfl rfl hlt (RL.lT isAgg5 rfl ?_))
   refine RL.q rfl (RL.idx (j:=i) runUnderlying74 sizeOf5 rfl rfl hlt (RL.lT isAgg5 rfl ?_))
   refine RL.pn rfl (CW.ok [0,1,12,13,24] rfl ?_)
   refine CW.cd rfl (fun he=> ?_) (fun he=> ?_)
   ·
    refine CW.sr (RL.pn rfl (CW.rr (RQ.bb (RQ.ss (RQ.ss (RQ.bb (RQ.ss ?_)))))))
    have he:a≠b:=fun h=> by
     subst h
     rw [hx] at hy
     cases hy
     simp at he
    exact RQ.pp (res1 rfl rfl) (Split.nn _) ⟨by rw [beq_eq_false_iff_ne.2 he],rfl,rfl⟩
   ·
    refine CW.kk (NQ.bb (NQ.ss (CW.rg (RL.bx rfl (wrapV_i64 zb zb) ?_))))
    refine RL.p rfl (RL.ee ?_)
    have he:x=y:=BitVec.eq_of_toNat_eq (by simp at he;omega)
    refine NQ.rr (g:=i) (i+1) ⟨hlt,fun j hj=> ?_⟩ (by show n - (i+1) < n - i;omega) sE (fun w h=> h)
    rcases Nat.lt_succ_iff_lt_or_eq.1 hj with hj | rfl
    ·exact hok j hj
    ·rw [hx,hy,he]
  ·
   have hin:i=n:=by simp at hlt;omega
   subst hin
   refine CW.xx (XQ.ss (XQ.ss (XQ.hh (NQ.ss (CW.sr (RL.pn rfl (CW.rr ?_)))))))
   have:=takes_eq (hn.trans hm.symm) (fun j hj=> hok j zb)
   subst this
   exact RQ.pp (res1 rfl rfl) (Split.nn _) ⟨zm,rfl,rfl⟩
def hasB (f:Fr) (x:FrO):Bool:=x.f.b==f.b
theorem sls_none (w:World):(sls none 1 0 []).A w:=by simp [PK.sls]
theorem said_clo (x:FrO) (f:Fr) (b:Nat) (p:Option Addr) (c:Nat) (hx:x.f.b.length≤1000000) (hf:f.b.length≤1000000):Spc prog 66 #[x.sl, .pointer (some ⟨b,0,none⟩)] [sls (x.ob.map fun b=> ⟨b,0,none⟩) 1 x.f.b.length (bytes x.f.b),cel b (f.cells (.slice p f.b.length c)) 78,sls p 1 f.b.length (bytes f.b)] [] (Is (.bool (hasB f x))):=by
 have h4:RdI [sls (x.ob.map fun b=> ⟨b,0,none⟩) 1 x.f.b.length (bytes x.f.b),cel b (f.cells (.slice p f.b.length c)) 78,sls p 1 f.b.length (bytes f.b)] ⟨b,0+4,none⟩ (.slice p f.b.length c):=⟨fun _=> Rd.celI (List.Mem.tail _ (List.Mem.head _)) rfl⟩
 refine Spc.en func66 rfl rfl (fun w0 hw0=> ?_)
 refine CW.sr (RL.pn rfl (CW.sr (RL.p rfl (RL.fa fa_78_4 rfl (RL.lq isAgg74 rfl ?_)))))
 refine RL.vv (equal_b (x.ob.map fun b=> ⟨b,0,none⟩) p x.cp c _ _ x.f.b f.b rfl rfl ⟨hx,hf⟩) call67 rfl (.inI mQ (.inI mQ .nil)) ?_
 refine RL.pn rfl (CW.ok [3] rfl (CW.rr ?_))
 exact RQ.pp (res1 rfl rfl) (Split.nn _) ⟨rfl,rfl,rfl⟩
theorem said_idx (p:Option Addr) (cap m:Nat) (l L:List FrO) (hm:l.length=m) (hmb:m≤1000000) (hL:∀x∈l,x∈L∧x.f.b.length≤1000000) (f:Fr) (b:Nat) (q:Option Addr) (c:Nat) (hf:f.b.length≤1000000):Spc prog 113 #[.slice p m cap, .func (.func 66) #[] #[.pointer (some ⟨b,0,none⟩)]]
  [sls p 1 m (l.map FrO.sl),PK.allI (L.map bodyO),cel b (f.cells (.slice q f.b.length c)) 78,sls q 1 f.b.length (bytes f.b)] [] (Is (.int .i64 (idxG (hasB f) l))):=by
 subst hm
 refine Spc.en func113 rfl rfl (fun w0 hw0=> ?_)
 refine CW.sr (RL.pn rfl (CW.ss (CW.sr (RL.p rfl (RL.lenS runUnderlying161 rfl (RL.pn rfl (CW.bb ?_)))))))
 refine CW.gI (fun J hJ=> ?_)
 have m1:sls p 1 l.length (l.map FrO.sl)∈J:=hJ _ zm
 have m2:PK.allI (L.map bodyO)∈J:=hJ _ zm
 have m3:cel b (f.cells (.slice q f.b.length c)) 78∈J:=hJ _ zm
 have m4:sls q 1 f.b.length (bytes f.b)∈J:=hJ _ zm
 clear hJ
 refine CW.loop (γ:=Nat) (fun i=> i≤l.length∧(∀j < i,∀x,l[j]? =some x→hasB f x=false)) (fun i=> [(0, .slice p l.length cap),(1, .func (.func 66) #[] #[.pointer (some ⟨b,0,none⟩)]),(7, .int .i64 (l.length:Int)),(8, .int .i64 (i:Int))]) (fun _=> J) (fun _=> []) (fun i=> l.length - i) 0 ⟨Nat.zero_le _,fun j h=> by omega⟩ sE (fun w h=> h) ?_
 rintro i ⟨hi,hok⟩
 refine CW.ff (p:=p=none→l.length=0) (fun w hC e=> sls_nil (hC.s.i _ m1) e) (fun hpp=> ?_)
 refine CW.sr (RL.pn rfl (CW.ss ?_))
 refine CW.cd rfl (fun hlt=> ?_) (fun hlt=> ?_)
 ·
  have hlt:i < l.length:=by simp at hlt;omega
  obtain ⟨pa,rfl⟩:=sls_some hpp zb
  have hx:=List.getElem?_eq_getElem hlt
  generalize l[i]=x at hx
  have hxl:=hL x (List.mem_of_getElem? hx)
  have mB:bodyO x∈L.map bodyO:=List.mem_map.2 ⟨x,hxl.1,rfl⟩
  have f1:RdI J (pa.add (i*1)) x.sl:=⟨fun _=> by rw [Nat.mul_one];exact Rd.getS m1 (by rw [List.getElem?_map,hx];rfl)⟩
  refine CW.sub (Lies.allI mB) m2 ?_
  refine CW.gI (fun J2 hJ2=> ?_)
  have n0:bodyO x∈J2:=hJ2 _ (List.Mem.head _)
  have n3:cel b (f.cells (.slice q f.b.length c)) 78∈J2:=hJ2 _ (List.Mem.tail _ m3)
  have n4:sls q 1 f.b.length (bytes f.b)∈J2:=hJ2 _ (List.Mem.tail _ m4)
  have n1:sls (some pa) 1 l.length (l.map FrO.sl)∈J2:=hJ2 _ (List.Mem.tail _ m1)
  have hJJ:∀x∈J,x∈J2:=fun x hx=> hJ2 _ (List.Mem.tail _ hx)
  clear hJ2
  have f1:RdI J2 (pa.add (i*1)) x.sl:=⟨fun _=> by rw [Nat.mul_one];exact Rd.getS n1 (by rw [List.getElem?_map,hx];rfl)⟩
  refine CW.sn (CW.ss (CW.bb (CW.s1 rfl (CW.sr (RL.q rfl ?_)))))
  refine RL.p rfl (RL.idx (j:=i) runUnderlying161 sizeOf74 rfl rfl hlt (RL.lq isAgg74 rfl ?_))
  refine RL.callvFC (said_clo x f b q c hxl.2 hf) call66 rfl rfl rfl (Lend.ownI n0 (.inI n3 (.inI n4 .nil))) rfl (RL.ns (CW.ok [0,1,5,7,8,16] rfl ?_))
  refine CW.cd rfl (fun he=> ?_) (fun he=> ?_)
  ·
   refine CW.s1 rfl (CW.rr (RQ.bb (RQ.ss (RQ.ss (RQ.bb (RQ.ss ?_))))))
   exact RQ.pp (res1 rfl rfl) (Split.nn _) ⟨by rw [idxG_yes hx he hok],rfl,rfl⟩
  ·
   refine CW.kk (NQ.bb (NQ.ss (CW.rg (RL.bx rfl (wrapV_i64 zb zb) ?_))))
   refine RL.p rfl (RL.ee ?_)
   refine NQ.rr (g:=i) (i+1) ⟨hlt,fun j hj y hy=> ?_⟩ (by show l.length - (i+1) < l.length - i;omega) sE (fun w h=> h.rea (fun x hx=> hJJ x hx) .nil)
   rcases Nat.lt_succ_iff_lt_or_eq.1 hj with hj | rfl
   ·exact hok j hj y hy
   ·rw [hx] at hy;cases hy;exact he
 ·
  have hin:i=l.length:=by simp at hlt;omega
  subst hin
  refine CW.xx (XQ.ss (XQ.ss (XQ.hh (NQ.ss (CW.sr (RL.pn rfl (CW.rr ?_)))))))
  exact RQ.pp (res1 rfl rfl) (Split.nn _) ⟨by rw [idxG_no hok],rfl,rfl⟩
theorem said_has (p:Option Addr) (cap m:Nat) (l L:List FrO) (hm:l.length=m) (hmb:m≤1000000) (hL:∀x∈l,x∈L∧x.f.b.length≤1000000) (f:Fr) (b:Nat) (q:Option Addr) (c:Nat) (hf:f.b.length≤1000000):Spc prog 64 #[.slice p m cap, .func (.func 66) #[] #[.pointer (some ⟨b,0,none⟩)]]
  [sls p 1 m (l.map FrO.sl),PK.allI (L.map bodyO),cel b (f.cells (.slice q f.b.length c)) 78,sls q 1 f.b.length (bytes f.b)] [] (Is (.bool (l.any (hasB f)))):=by
 refine Spc.en func64 rfl rfl (fun w0 hw0=> ?_)
 refine CW.sr (RL.pn rfl (CW.sr (RL.q rfl (RL.vq (said_idx p cap m l L hm hmb hL f b q c hf) call113 rfl ?_))))
 refine RL.qn rfl (CW.ok [4] rfl (CW.rr ?_))
 exact RQ.pp (res1 rfl rfl) (Split.nn _) ⟨by rw [idxG_ge],rfl,rfl⟩
theorem SOk.sub {E:List SE} {l:List FrO} (h:SOk E l) {f:Fr} {e:SE} (he:atS E f=some e):∀x∈e.l,x∈l:=fun x hx=> by
 have h0:=h.b f
 rw [bodS,he] at h0
 rw [show e.l=_ from h0] at hx
 exact (List.mem_filter.1 hx).1
theorem SOk.sub_len {E:List SE} {l:List FrO} (h:SOk E l) {f:Fr} {e:SE} (he:atS E f=some e):e.l.length≤l.length:=by
 have h0:=h.b f
 rw [bodS,he] at h0
 rw [show e.l=_ from h0]
 exact List.length_filter_le _ _
theorem said_eq {E:List SE} {l:List FrO} (h:SOk E l) (f:Fr):(bodS E f).any (hasB f)=saidB l f:=h.said f
theorem fr_sl (f:Fr) (sl sl':Value):spl (f.cells sl) (0+4) [sl']=f.cells sl':=by
 have e:∀s:Value,f.cells s= [.int .i64 f.kd, .int .i64 f.sr, .int .u32 (f.ep:Int), .int .u64 (f.ct:Int)]++([s]++bytes f.tag):=fun s=> rfl
 rw [e,e];exact seg_spl rfl rfl
theorem eSaid_any (z:Crw) (f:Fr) (p:Option Addr) (c n:Nat) (hz:z.Ok) (hf:f.Num) (hn:f.b.length=n) (hb:n≤1000000):Spc prog 25 #[.pointer (some ⟨z.b,0,none⟩), .agg (f.cells (.slice p n c)).toArray] [crwI z,sls p 1 n (bytes f.b)] [] (Is (.bool (saidB z.l f))):=by
 subst hn
 have h21:=fr_len hf.ok.tag (.slice p f.b.length c)
 refine Spc.en func25 rfl rfl (fun w0 hw0=> ?_)
 refine CW.sg [0] [] (RL.box rfl ?_)
 intro b1
 refine RL.pn rfl (CW.ss (CW.freezeAll rfl ?_))
 refine CW.openT (l:=CrwL z) zm (fun J hJ hz'=> ?_)
 have m1:cel b1 (f.cells (.slice p f.b.length c)) 78∈J:=hJ _ zm
 have mB:sls p 1 f.b.length (bytes f.b)∈J:=hJ _ zm
 have mC:crwC z∈J:=hz' _ zm
 have mS:crwS z∈J:=hz' _ zm
 have mE:crwE z∈J:=hz' _ zm
 have mL:crwB z∈J:=hz' _ zm
 clear hJ hz'
 have fA:RdsN J ⟨b1,0,none⟩ 21 (f.cells (.slice p f.b.length c)):=⟨fun _=> Rds.allI m1,h21⟩
 have fD:RdI J ⟨z.b,0+48,none⟩ (.map (some z.sm)):=⟨fun _=> Rd.getI mC (crw_d hz.cm)⟩
 have hsd:=said_eq hz.E f
 cases he:atS z.E f with
 | none=>
  rw [bodS,he] at hsd
  refine CW.rD (Sq.of (rg 0 13)) [] [] (rg 0 8++[10,11,12,13]) mixed zi ?_
  refine RL.p rfl (RL.callvT (eis_any z hz.cm) call50 rfl rfl (.inI mC .nil) (RL.p rfl (RL.tt (d:=7) (v':= .bool true) rfl (rfl) ?_)))
  refine RL.q rfl (RL.fa fa_93_4 rfl (RL.lT isAgg91 rfl ?_))
  refine RL.loadSTq isAgg78 sizeOf78 rfl ?_
  refine RL.callTq (head_any f (.slice p f.b.length c) hf.ok.tag rfl) call65 rfl ?_
  refine RL.lookup keyHd runUnderlying91 zeroValue161 rfl (hdV_good hf) (MapAt.told mS) ?_
  refine RL.tt (d:=14) (v':= .slice none 0 0) rfl (by rw [look_S,he];rfl) ?_
  refine RL.makeFunc rfl rfl rfl (RL.callvT (said_has none 0 0 [] z.l rfl zc zm f b1 p c hb) call64 rfl rfl (.of (fun w _=> sls_none w) (by simp [PK.sls]) (.inI mL (.inI m1 (.inI mB .nil)))) ?_)
  refine RL.qn rfl (CW.ok [4] rfl (CW.rr ?_))
  exact RQ.pp (res1 rfl rfl) (Split.nn _) ⟨by rw [←hsd],rfl,rfl⟩
 | some e=>
  rw [bodS,he] at hsd
  have hEm:e∈z.E:=List.mem_of_find?_eq_some he
  have hes:=hz.E.sub he
  have hel:=hz.E.sub_len he
  have hll:=hz.ll
  refine CW.sub (Lies.allI (List.mem_map.2 ⟨e,hEm,rfl⟩:e.it∈z.E.map SE.it)) mE ?_
  refine CW.gI (fun J2 hJ2=> ?_)
  have n0:e.it∈J2:=hJ2 _ (List.Mem.head _)
  have n1:cel b1 (f.cells (.slice p f.b.length c)) 78∈J2:=hJ2 _ (List.Mem.tail _ m1)
  have nB:sls p 1 f.b.length (bytes f.b)∈J2:=hJ2 _ (List.Mem.tail _ mB)
  have nC:crwC z∈J2:=hJ2 _ (List.Mem.tail _ mC)
  have nS:crwS z∈J2:=hJ2 _ (List.Mem.tail _ mS)
  have nL:crwB z∈J2:=hJ2 _ (List.Mem.tail _ mL)
  clear hJ2
  have fA:RdsN J2 ⟨b1,0,none⟩ 21 (f.cells (.slice p f.b.length c)):=⟨fun _=> Rds.allI n1,h21⟩
  have fD:RdI J2 ⟨z.b,0+48,none⟩ (.map (some z.sm)):=⟨fun _=> Rd.getI nC (crw_d hz.cm)⟩
  refine CW.rD (Sq.of (rg 0 13)) [] [] (rg 0 8++[10,11,12,13]) mixed zi ?_
  refine RL.p rfl (RL.callvT (eis_any z hz.cm) call50 rfl rfl (.inI nC .nil) (RL.p rfl (RL.tt (d:=7) (v':= .bool true) rfl (rfl) ?_)))
  refine RL.q rfl (RL.fa fa_93_4 rfl (RL.lT isAgg91 rfl ?_))
  refine RL.loadSTq isAgg78 sizeOf78 rfl ?_
  refine RL.callTq (head_any f (.slice p f.b.length c) hf.ok.tag rfl) call65 rfl ?_
  refine RL.lookup keyHd runUnderlying91 zeroValue161 rfl (hdV_good hf) (MapAt.told nS) ?_
  refine RL.tt (d:=14) (v':=slO e.ob e.l.length e.cp) rfl (by rw [look_S,he];rfl) ?_
  refine RL.makeFunc rfl rfl rfl (RL.callvT (said_has (e.ob.map fun b=> ⟨b,0,none⟩) e.cp e.l.length e.l z.l rfl zb (fun x hx=> ⟨hes x hx,by have:=(hz.l x (hes x hx)).b;omega⟩) f b1 p c hb) call64 rfl rfl (Lend.ownI n0 (.inI nL (.inI n1 (.inI nB .nil)))) ?_)
  refine RL.qn rfl (CW.ok [4] rfl (CW.rr ?_))
  exact RQ.pp (res1 rfl rfl) (Split.nn _) ⟨by rw [←hsd],rfl,rfl⟩
theorem eown_any (f:Fr) (p:Option Addr) (c n:Nat) (hf:f.tag.length=16) (hn:f.b.length=n) (hb:n≤1000000):Spc prog 51 #[.agg (f.cells (.slice p n c)).toArray] [sls p 1 n (bytes f.b)] [] (fun v I' H'=> ∃ob cap,v= .agg (f.cells (slO ob n cap)).toArray∧I'= []∧H'= [own ob cap 5 1 n (bytes f.b)]):=by
 subst hn
 have h21:=fun sl=> fr_len hf sl
 refine Spc.en func51 rfl rfl (fun w0 hw0=> ?_)
 refine CW.sg [0,1] [] (RL.box rfl ?_)
 intro b1
 refine RL.al zeroValue78 rfl ?_
 intro b2
 refine RL.ns (CW.sg [2,4] [4] (RL.fa fa_78_4 rfl (RL.load isAgg74 rfl (Rd.get (v:= .slice p f.b.length c) mQ rfl) ?_)))
 refine RL.cc (clone_any p _ c f.b rfl zb) call93 rfl pE (.inI mQ .nil) (.inl rfl) ?_
 rintro _ _ _ ⟨ob,cap,rfl,rfl,rfl, -⟩
 refine RL.fa fa_78_4 rfl (RL.sX (vs:= [_]) (fr_sl f _ _) sizeOf74 rfl rfl uE (by rw [h21];show 0+4+1≤21;decide) ?_)
 refine RL.ns (CW.sg [1] [1] (RL.lW isAgg78 sizeOf78 rfl mQ (h21 _) ?_))
 refine RL.sW sizeOf78 rfl (ones_fr _ rfl) uE (h21 _) rfl ?_
 refine RL.ns (CW.ok [2] rfl (CW.rr (RQ.rea (fun _ h=> h) (H':= [own ob cap 5 1 f.b.length (bytes f.b),cel b2 (f.cells (slO ob f.b.length cap)) 78]) rE ?_)))
 exact RQ.pp (resW rfl rfl isAgg78 sizeOf78 mQ (h21 _)) (.keep (Split.nn _)) ⟨ob,cap,rfl,rfl,rfl⟩
def markV (T:List Snd) (n:Int):Nat×Nat:=match atT T n with
 | some x=> (x.ep,x.ct)
 | none=> (0,0)
def LedR (l:List FrO):Value→List It→List It→Prop:=fun v I' H'=> ∃(ob:Option Nat) (cp:Nat) (L:List FrO),v=slO ob l.length cp∧I'= []∧H'= [own ob cp 78 21 l.length (L.flatMap FrO.cells),PK.allI (L.map bodyO)]∧L.map FrO.f=l.map FrO.f
theorem Cls.allNil {w0 w:World} {S:List Nat} {I H:List It} (hw:Cls w0 S I H w):Cls w0 S I (PK.allI []::H) w:=Cls.pack (l:= []) hw
theorem eLedger_any (z:Crw) (hz:z.Ok):Spc prog 16 #[.pointer (some ⟨z.b,0,none⟩)] [crwI z] [] (LedR z.l):=by
 have hll:=hz.ll
 refine Spc.en func16 rfl rfl (fun w0 hw0=> ?_)
 refine CW.sr (RL.pn rfl (CW.ss ?_))
 refine CW.openT (l:=CrwL z) zm (fun J hJ hz'=> ?_)
 have mC:crwC z∈J:=hz' _ zm
 have mL:crwL z∈J:=hz' _ zm
 have mB:crwB z∈J:=hz' _ zm
 clear hJ hz'
 have fS:RdI J ⟨z.b,0+47,none⟩ (slO z.so z.l.length z.soc):=⟨fun _=> Rd.getI mC (crw_s hz.cm)⟩
 refine CW.rg (RL.pn rfl (CW.ss (CW.sr (RL.p rfl (RL.vv (eis_any z hz.cm) call50 rfl (.inI mC .nil) (RL.pn rfl (CW.cF rfl (rfl) (CW.kk ?_))))))))
 refine NQ.ss (CW.ss (CW.sr (RL.q rfl (RL.fa fa_93_3 rfl (RL.lq isAgg72 rfl ?_)))))
 refine RL.lenS runUnderlying72 rfl (RL.pn rfl (CW.ok [2,3,13,14,15] rfl (CW.bb (CW.loop (γ:=Nat×Option Nat×Nat×List FrO) (fun g=> g.1≤z.l.length∧g.2.2.2.map FrO.f=(z.l.take g.1).map FrO.f) (fun g=> [(3,slO g.2.1 g.1 g.2.2.1),(13,slO z.so z.l.length z.soc),(14, .int .i64 (z.l.length:Int)),(15, .int .i64 (g.1:Int))]) (fun _=> J) (fun g=> [own g.2.1 g.2.2.1 78 21 g.1 (g.2.2.2.flatMap FrO.cells),PK.allI (g.2.2.2.map bodyO)]) (fun g=> z.l.length - g.1) (0,none,0, []) ⟨Nat.zero_le _,zm⟩ sE (fun w h=> Cls.ownNone (Cls.allNil h)) ?_))))
 rintro ⟨i,ob,cp,L⟩ ⟨hi,hL⟩
 dsimp only at hi hL ⊢
 refine CW.ff (p:=z.so=none→z.l.length=0) (fun w hC e=> own_none (by have:=hC.s.i _ mL;rw [crwL,e] at this;exact this)) (fun hpa=> ?_)
 refine CW.sr (RL.pn rfl (CW.ss ?_))
 refine CW.cd rfl (fun hlt=> ?_) (fun hlt=> ?_)
 ·
  have hlt:i < z.l.length:=by simp at hlt;omega
  obtain ⟨sb,hsb⟩:∃sb,z.so=some sb:=by
   cases h:z.so with
   | none=> exact absurd (hpa h) zb
   | some sb=> exact ⟨sb,rfl⟩
  have hx:=List.getElem?_eq_getElem hlt
  have htk:(z.l.take (i+1)).map FrO.f=(z.l.take i).map FrO.f++ [(z.l[i]).f]:=by rw [List.take_add_one,hx,List.map_append];rfl
  generalize z.l[i]=x at hx htk
  have hxm:=List.mem_of_getElem? hx
  have hfit:=hz.l x hxm
  have hbl:=hfit.b
  have h21:=fr_len hfit.ok.tag x.sl
  have hlen:∀y∈z.l,y.cells.length=21:=fun y hy=> fr_len (hz.l y hy).ok.tag _
  refine CW.sub (Lies.allI (List.mem_map.2 ⟨x,hxm,rfl⟩:bodyO x∈z.l.map bodyO)) mB ?_
  refine CW.gI (fun J2 hJ2=> ?_)
  have n0:bodyO x∈J2:=hJ2 _ (List.Mem.head _)
  have nL:own (some sb) z.soc 78 21 z.l.length (z.l.flatMap FrO.cells)∈J2:=by rw [←hsb];exact hJ2 _ (List.Mem.tail _ mL)
  have hJJ:∀x∈J,x∈J2:=fun x hx=> hJ2 _ (List.Mem.tail _ hx)
  clear hJ2
  rw [hsb]
  have fA:RdsN J2 ⟨sb,0+i*21,none⟩ 21 x.cells:=⟨fun _=> own_rdsI (f:=FrO.cells) nL hx hlen,h21⟩
  refine CW.sn (CW.ss (CW.bb (CW.sg [2,3] [3] (RL.ix (j:=i) runUnderlying72 sizeOf78 rfl hlt (RL.lS isAgg78 sizeOf78 rfl ?_)))))
  refine RL.al zeroValue78 rfl ?_
  intro b1
  refine RL.sW sizeOf78 rfl (ones_fro x) uE h21 rfl ?_
  refine RL.ns (CW.rn (ef:= [2,3,4]) (bk:= [4]) (RL.p rfl (RL.lW isAgg78 sizeOf78 rfl mQ h21 ?_)))
  refine RL.cc (eown_any x.f (x.ob.map fun b=> ⟨b,0,none⟩) x.cp _ hfit.ok.tag rfl zb) call51 rfl pE (Lend.ownI n0 .nil) (.inl rfl) ?_
  rintro _ _ _ ⟨yo,yc,rfl,rfl,rfl⟩
  have h21':=fr_len hfit.ok.tag (slO yo x.f.b.length yc)
  refine RL.buildSlice (x.f.cells (slO yo x.f.b.length yc)) runUnderlying72 sizeOf78 zeroValue78 rfl rfl zc zc rfl (fill_one21 h21' rfl) ?_
  intro b2
  refine RL.appendA el_72 rfl za (Src.cel mQ h21') (fun u hu=> ones_spec (ones_fr _ rfl) u hu) zd zd ?_
  intro ob1 cap1 ho1
  refine RL.p rfl (RL.ee (NQ.bb (NQ.ss (CW.ok [3,13,14,15] rfl (CW.rg (RL.bx rfl (wrapV_i64 zb zb) ?_))))))
  refine RL.p rfl (RL.ee ?_)
  refine NQ.rr (g:=(i,ob,cp,L)) (i+1,ob1,cap1,L++ [(⟨x.f,yo,yc⟩:FrO)]) ⟨hlt,by rw [htk,List.map_append,hL];rfl⟩ (by show z.l.length - (i+1) < z.l.length - i;omega) sE (fun w h=> ?_)
  have h1:=h.rea (I':=J) (H':= [bodyO ⟨x.f,yo,yc⟩,PK.allI (L.map bodyO),own ob1 cap1 78 21 (i+1) (L.flatMap FrO.cells++x.f.cells (slO yo x.f.b.length yc))]) hJJ rE
  have h2:=Cls.pushA (m:=(L++ [(⟨x.f,yo,yc⟩:FrO)]).map bodyO) (by rw [List.map_append];exact List.perm_append_comm) h1
  rw [show L.flatMap FrO.cells++x.f.cells (slO yo x.f.b.length yc)=(L++ [(⟨x.f,yo,yc⟩:FrO)]).flatMap FrO.cells by simp] at h2
  exact h2.rea (fun _ h=> h) rE
 ·
  have hin:i=z.l.length:=by simp at hlt;omega
  subst hin
  refine CW.xx (XQ.ss (XQ.ss (XQ.hh (NQ.ss (CW.s1 rfl (CW.ok [2] rfl (CW.rr ?_)))))))
  rw [List.take_length] at hL
  exact RQ.pp (res1 rfl rfl) (.keep (.keep .nil)) ⟨ob,cp,L,rfl,rfl,rfl,hL⟩
end Go.Proofs.YtkineolcmdecjaaGreat
