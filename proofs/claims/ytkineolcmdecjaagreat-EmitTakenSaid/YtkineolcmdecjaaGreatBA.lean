import Derived.Test.YtkineolcmdecjaaGreatPD
import Derived.Test.YtkineolcmdecjaaGreatFacts
import Derived.Test.YtkineolcmdecjaaGreatPE
import Derived.Test.YtkineolcmdecjaaGreatPC
namespace Go.Proofs.YtkineolcmdecjaaGreat
open Go.PK
open Tryz
abbrev ints (l:List Int):List Value:=l.map (Value.int .i64)
theorem one32:∀a,(U32 a).oneCell'=true:=fun _=> rfl
theorem one8:∀a,(U8 a).oneCell'=true:=fun _=> rfl
abbrev bytes (m:List B8):List Value:=m.map U8
abbrev words (l:List B32):List Value:=l.map U32
theorem bytes_part (l:List B8) (lo k:Nat):((bytes l).drop (lo*1)).take (k*1)=bytes ((l.drop lo).take k):=by simp [List.map_take,List.map_drop]
theorem Lend.takeB {I F J:List It} {p:Option Addr} {c k:Nat} {m:List B8} (hm:sls p 1 m.length (bytes m)∈I) (hc:m.length≤c) (h:Lend I F J):
  Lend I F (sls (if c=0 then p else p.map (·.add (0*1))) 1 (m.take k).length (bytes (m.take k))::J):=by
 have ht:m.take (m.take k).length=m.take k:=List.take_eq_take_iff.2 (by rw [List.length_take];omega)
 have:=Lend.subP (F:=F) (lo:=0) (k:=(m.take k).length) hm (by rw [List.length_take];omega) hc h
 rw [bytes_part,List.drop_zero,ht] at this
 exact this
theorem Spc.fact {P:Program} {f:FuncId} {args:Array Value} {I H:List It} {R:Value→List It→List It→Prop} {p:Prop} (hp:∀w,Sat I H w→p) (h:p→Spc P f args I H R):Spc P f args I H R:=fun w hw=> h (hp w hw) w hw
theorem Spc.some' {P:Program} {f:FuncId} {p:Option Addr} {g:Option Addr→Array Value} {I H:Option Addr→List It} {R:Option Addr→Value→List It→List It→Prop} {n:Nat} {xs:List Value} (hm:sls p 1 n xs∈I p) (hn:0 < n) (h:∀a,p=some a→Spc P f (g (some a)) (I (some a)) (H (some a)) (R (some a))):Spc P f (g p) (I p) (H p) (R p):=by
 refine Spc.fact (p:=p=none→n=0) (fun w hw e=> sls_nil (hw.i _ hm) e) (fun hp=> ?_)
 cases p with
 | none=> exact absurd (hp rfl) zb
 | some a=> exact h a rfl
theorem own_cap {ob:Option Nat} {cap sz n:Nat} {e:TypeId} {xs:List Value} {w:World} (h:(own ob cap e sz n xs).A w):n≤cap:=by
 cases ob with
 | none=> obtain ⟨-,h1,h2⟩:=h;omega
 | some b=> exact h.2.1
theorem Cls.ownNone {e:TypeId} {sz:Nat} {w0 w:World} {S:List Nat} {I H:List It} (hw:Cls w0 S I H w):Cls w0 S I (own none 0 e sz 0 []::H) w:=hw.more (Keeps.refl _ w) ⟨zm,rfl,rfl⟩ (by simp [own]) (by simp [own])
theorem CW.ownNone {e:TypeId} (sz:Nat) {P:Program} {Q:Exit→Act→World→Prop} {N:Nat} {E:Env} {w0:World} {S:List Nat} {I H:List It} {cc:Code} (h:CW P cc Q N E w0 S I (own none 0 e sz 0 []::H)):CW P cc Q N E w0 S I H:=fun a w ha hw=> h a w ha (Cls.ownNone hw)
theorem RQ.ownNone {e:TypeId} (sz:Nat) {Q:Exit→Act→World→Prop} {N:Nat} {E:Env} {w0:World} {S:List Nat} {I H:List It} (h:RQ Q N E w0 S I (own none 0 e sz 0 []::H)):RQ Q N E w0 S I H:=fun a w ha hw=> h a w ha (Cls.ownNone hw)
structure Lies (x y:It):Prop where
 A:∀w,x.A w→y.A w
 bs:∀b∈y.bs,b∈x.bs
theorem Lies.refl (x:It):Lies x x:=⟨fun _ h=> h,fun _ h=> h⟩
theorem Lies.trans {x y z:It} (h:Lies x y) (g:Lies y z):Lies x z:=⟨fun w a=> g.A w (h.A w a),fun b hb=> h.bs b (g.bs b hb)⟩
theorem CW.sub {P:Program} {Q:Exit→Act→World→Prop} {N:Nat} {E:Env} {w0:World} {S:List Nat} {I H:List It} {cc:Code} {x y:It} (hs:Lies x y) (hm:x∈I) (h:CW P cc Q N E w0 S (y::I) H):CW P cc Q N E w0 S I H:=
 CW.also y (fun w hw=> hs.A w (hw.i x hm)) (fun b hb=> mem_bss.2 ⟨x,hm,hs.bs b hb⟩) h
theorem Lend.sub {x y:It} {I F J:List It} (hs:Lies x y) (hm:x∈I) (h:Lend I F J):Lend I F (y::J):=
 .of (fun w hw=> hs.A w (hw.i x hm)) (fun c hc=> .inl (mem_bss.2 ⟨x,hm,hs.bs c hc⟩)) h
theorem Lies.part {p:Option Addr} {c lo k:Nat} {m:List B8} (hk:lo+k≤m.length) (hc:m.length≤c):
  Lies (sls p 1 m.length (bytes m)) (sls (if c=lo then p else p.map (·.add (lo*1))) 1 ((m.drop lo).take k).length (bytes ((m.drop lo).take k))):=by
 have e:((m.drop lo).take k).length=k:=by rw [List.length_take,List.length_drop];omega
 rw [e,←bytes_part]
 exact ⟨fun w h=> sls_sub h hk hc,fun b hb=> bs_sub hk b hb⟩
theorem Lies.dropB {p:Option Addr} {c lo:Nat} {m:List B8} (hk:lo≤m.length) (hc:m.length≤c):
  Lies (sls p 1 m.length (bytes m)) (sls (if c=lo then p else p.map (·.add (lo*1))) 1 (m.drop lo).length (bytes (m.drop lo))):=by
 have h:=Lies.part (p:=p) (c:=c) (lo:=lo) (k:=m.length - lo) (m:=m) zb hc
 rwa [List.take_of_length_le (by rw [List.length_drop];exact Nat.le_refl _)] at h
theorem Lies.takeB {p:Option Addr} {c k:Nat} {m:List B8} (hk:k≤m.length) (hc:m.length≤c):
  Lies (sls p 1 m.length (bytes m)) (sls (if c=0 then p else p.map (·.add (0*1))) 1 (m.take k).length (bytes (m.take k))):=by
 have h:=Lies.part (p:=p) (c:=c) (lo:=0) (k:=k) (m:=m) zb hc
 rwa [List.drop_zero] at h
theorem RdsN.told {I:List It} {b off n:Nat} {cs vs:List Value} {T:TypeId} (hm:cel b cs T∈I) (hv:∀j u,vs[j]? =some u→cs[off+j]? =some u) (hl:vs.length=n):RdsN I ⟨b,off,none⟩ n vs:=⟨fun _=> Rds.celI hm hv,hl⟩
theorem own_none {cap sz n:Nat} {e:TypeId} {xs:List Value} {w:World} (h:(own none cap e sz n xs).A w):n=0:=h.2.1
theorem RQ.rea {Q:Exit→Act→World→Prop} {N:Nat} {E:Env} {w0:World} {S:List Nat} {I H:List It} {I' H':List It} (hi:∀x∈I',x∈I) (r:Rea H H') (h:RQ Q N E w0 S I' H'):RQ Q N E w0 S I H:=fun a w ha hw=> h a w ha (hw.rea hi r)
theorem Lend.ownI {I F J:List It} {ob:Option Nat} {cap sz nn:Nat} {e:TypeId} {xs:List Value} (hm:own ob cap e sz nn xs∈I) (h:Lend I F J):Lend I F (sls (ob.map fun b=> ⟨b,0,none⟩) sz nn xs::J):=
 .of (fun _ hw=> own_sls (hw.i _ hm)) (fun c hc=> .inl (mem_bss.2 ⟨_,hm,by by_cases hn:nn=0 <;> cases ob <;> simp_all [sls,own]⟩)) h
theorem CW.gI {P:Program} {Q:Exit→Act→World→Prop} {N:Nat} {E:Env} {w0:World} {S:List Nat} {I H:List It} {cc:Code} (h:∀J,(∀x∈I,x∈J)→CW P cc Q N E w0 S J H):CW P cc Q N E w0 S I H:=h I (fun _ h=> h)
def OwnB (l:List B8):Value→List It→List It→Prop:=fun v I' H'=> ∃ob cap,v=slO ob l.length cap∧I'= []∧H'= [own ob cap 5 1 l.length (bytes l)]∧(l.length=0∨ob.isSome=true)
def OwnC (l:List B8):Value→List It→List It→Prop:=fun v I' H'=> ∃ob cap,v=slO ob l.length cap∧I'= []∧H'= [own ob cap 5 1 l.length (bytes l)]∧l.length≤cap∧(l.length=0∨ob.isSome=true)
theorem OwnB.cap {P:Program} {f:FuncId} {args:Array Value} {I H:List It} {l:List B8} (h:Spc P f args I H (OwnB l)):Spc P f args I H (OwnC l):=fun w hw=>
 (h w hw).mono fun e w' ⟨v,I',H',he,⟨ob,cap,h1,h2,h3,h4⟩,hk,hs,ho⟩=>
  ⟨v,I',H',he,⟨ob,cap,h1,h2,h3,own_cap (hs.h (own ob cap 5 1 l.length (bytes l)) (by rw [h3];exact List.Mem.head _)),h4⟩,hk,hs,ho⟩
theorem same_any (p q:Option Addr) (n m c1 c2:Nat) (a b:List B8):
  Spc prog 49 #[.slice p n c1, .slice q m c2] [sls p 1 n (bytes a),sls q 1 m (bytes b)] [] (Is (.bool (a==b))):=by
 refine Spc.en func49 rfl rfl (fun w0 hw0=> ?_)
 refine CW.sr (RL.pn rfl (CW.sr (RL.p rfl (RL.bytesStr (bs:=a) (e:=5) zi zi zi rfl rfl (Src.sls mQ) ?_))))
 refine RL.p rfl (RL.bytesStr (bs:=b) (e:=5) zi zi zi rfl rfl (Src.sls mQ) ?_)
 refine RL.cmp rfl (eql_txt a b) (RL.pn rfl (CW.ok [4] rfl (CW.rr ?_)))
 exact RQ.pp (res1 rfl rfl) (Split.nn _) ⟨rfl,rfl,rfl⟩
theorem own_rds {I H:List It} {b cap n sz i:Nat} {T:TypeId} {α:Type} {f:α→List Value} {R:List α} {x:α} (hm:own (some b) cap T sz n (R.flatMap f)∈H) (hx:R[i]? =some x) (hf:∀y∈R,(f y).length=sz):Rds I H ⟨b,0+i*sz,none⟩ (f x):=by
 have h:=Rds.part (I:=I) (H:=H) (j:=i*sz) (vs:=f x) (Rds.own hm) (fun q u hu=> by
  have hlt:q < sz:=by have:=(List.getElem?_eq_some_iff.1 hu).1;rwa [hf x (List.mem_of_getElem? hx)] at this
  rw [get_flat (f:=f) (n:=sz) hf hx hlt];exact hu)
 rwa [add_none] at h
theorem own_rdsI {I H:List It} {b cap n sz i:Nat} {T:TypeId} {α:Type} {f:α→List Value} {R:List α} {x:α} (hm:own (some b) cap T sz n (R.flatMap f)∈I) (hx:R[i]? =some x) (hf:∀y∈R,(f y).length=sz):Rds I H ⟨b,0+i*sz,none⟩ (f x):=fun w hw=> by
 have h0:(own (some b) cap T sz n (R.flatMap f)).A w:=hw.i _ hm
 have hs:Sat [] [own (some b) cap T sz n (R.flatMap f)] w:=⟨zm,by simpa using h0,by simp [own],zm⟩
 exact own_rds (I:= []) (List.Mem.head _) hx hf w hs
theorem RQ.ownB {fn:Func} {w0:World} {S:List Nat} {N:Nat} {E:Env} {I H:List It} {l:List B8} {ob:Option Nat} {cap n:Nat} {xs:List Value} {t:Tmp} (hf:fn.results= #[.tmp t]) (hv:E.get t=some (slO ob n cap)) (hs:Split H [own ob cap 5 1 n xs] []) (hn:n=l.length) (hx:xs=bytes l) (ho:n=0∨ob.isSome=true):
  RQ (FnPost prog fn (OwnB l) w0 S) N E w0 S I H:=by
 subst hn
 subst hx
 exact RQ.pp (res1 hf hv) hs ⟨ob,cap,rfl,rfl,rfl,ho⟩
def OwnN (n:Nat) (l:List B8):Value→List It→List It→Prop:=fun v I' H'=> ∃ob cap,v=slO ob n cap∧I'= []∧H'= [own ob cap 5 1 n (bytes l)]∧(n=0∨ob.isSome=true)
theorem OwnB.n {P:Program} {f:FuncId} {args:Array Value} {I H:List It} {l:List B8} {n:Nat} (hn:l.length=n) (h:Spc P f args I H (OwnB l)):Spc P f args I H (OwnN n l):=by subst hn;exact h
theorem Lend.ownE {I F J:List It} {ob:Option Nat} {cap sz nn n':Nat} {e:TypeId} {xs xs':List Value} (hm:own ob cap e sz nn xs∈F) (hn:nn=n') (hx:xs=xs') (h:Lend I F J):Lend I F (sls (ob.map fun b=> ⟨b,0,none⟩) sz n' xs'::J):=by
 subst hn;subst hx;exact Lend.own hm h
structure Fr where
 kd:Int
 sr:Int
 ep:Nat
 ct:Nat
 b:List B8
 tag:List B8
def Fr.cells (f:Fr) (sl:Value):List Value:= .int .i64 f.kd:: .int .i64 f.sr:: .int .u32 (f.ep:Int):: .int .u64 (f.ct:Int)::sl::bytes f.tag
structure Fr.Ok (f:Fr):Prop where
 ep:f.ep < 4294967296
 ct:f.ct < 18446744073709551616
 tag:f.tag.length=16
theorem fr_len {f:Fr} (h:f.tag.length=16) (sl:Value):(f.cells sl).length=21:=by simp [Fr.cells,h]
theorem fr_tag (f:Fr) (sl:Value):∀(j:Nat) (u:Value),(bytes f.tag)[j]? =some u→(f.cells sl)[0+5+j]? =some u:=fun j u hj=> by
 rw [show 0+5+j=j+1+1+1+1+1 by omega];exact hj
theorem ones_fr (f:Fr) {sl:Value} (hs:sl.oneCell'=true):ones (f.cells sl)=true:=by
 have h:ones (bytes f.tag)=true:=ones_map one8 _
 have e:ones (f.cells sl)=(true && (true && (true && (true && (sl.oneCell' && ones (bytes f.tag)))))):=rfl
 rw [e,hs,h];rfl
structure FrA where
 f:Fr
 p:Option Addr
 c:Nat
abbrev FrA.sl (x:FrA):Value:= .slice x.p x.f.b.length x.c
structure FrA.Ok (x:FrA):Prop where
 f:x.f.Ok
 c:x.f.b.length≤x.c
 b:x.f.b.length≤maxLen
structure FrO where
 f:Fr
 ob:Option Nat
 cp:Nat
abbrev FrO.sl (x:FrO):Value:=slO x.ob x.f.b.length x.cp
abbrev FrO.cells (x:FrO):List Value:=x.f.cells x.sl
abbrev frV (x:FrO):Value:= .agg x.cells.toArray
abbrev bodyO (x:FrO):It:=own x.ob x.cp 5 1 x.f.b.length (bytes x.f.b)
structure FrO.Ok (x:FrO):Prop where
 f:x.f.Ok
 b:x.f.b.length≤100000
def fr0:Fr:=⟨0,0,0,0, [],List.replicate 16 0#8⟩
theorem ones_fro (x:FrO):ones x.cells=true:=ones_fr _ rfl
theorem fill_one21 {cs zs:List Value} (h:cs.length=21) (hz:zs.length=21):fillL (fun j=> some (j*21,21)) (reps zs 1) [(0, .agg cs.toArray)]=some cs:=by
 refine fill_seg [] zs [] rfl (agg_cells _) (by simp [reps]) rfl hz h ?_
 simp [fillL]
theorem clone_any (p:Option Addr) (n c:Nat) (l:List B8) (hn:l.length=n) (hb:n≤1000000000):Spc prog 93 #[.slice p n c] [sls p 1 n (bytes l)] [] (OwnB l):=by
 subst hn
 refine Spc.fact (p:=p=none→l.length=0) (fun w hw e=> sls_nil (hw.i _ (List.Mem.head _)) e) (fun hpp=> ?_)
 cases p with
 | none=>
  have h0:=hpp rfl
  refine Spc.en func93 rfl rfl (fun w0 hw0=> ?_)
  refine CW.sr (RL.pn rfl (CW.ss (CW.sr (RL.p rfl (RL.cmp rfl (eql_slice runUnderlying74 _ _ _) (RL.ns (CW.cT rfl (rfl) (CW.ss ?_))))))))
  refine CW.rg (RL.pn rfl (CW.rr (RQ.ss (RQ.ownNone (e:=5) 1 ?_))))
  rw [List.length_eq_zero_iff.1 h0]
  exact RQ.pp (res1 rfl rfl) (.keep .nil) ⟨none,0,rfl,rfl,rfl, .inl rfl⟩
 | some a=>
  refine Spc.en func93 rfl rfl (fun w0 hw0=> ?_)
  refine CW.sr (RL.pn rfl (CW.ss (CW.sr (RL.p rfl (RL.cmp rfl (eql_slice runUnderlying74 _ _ _) (RL.ns (CW.cF rfl (rfl) (CW.kk ?_))))))))
  refine NQ.ss (CW.sg [0,2] [2] (RL.buildOwn [] runUnderlying74 sizeOf5 zeroValue5 rfl rfl zc zc rfl zc rfl ?_))
  intro b1
  refine RL.p rfl (RL.appendq el_74 rfl ?_)
  intro ob1 cap1 ho1
  refine RL.pn rfl (CW.ok [2] rfl (CW.rr ?_))
  rw [own_is (Nat.zero_add l.length) (List.nil_append _)]
  exact RQ.pp (res1 rfl rfl) (.keep .nil) ⟨ob1,cap1,by rw [Nat.zero_add],rfl,rfl,by simpa using ho1⟩
theorem fits8:∀ {k:List B8} {n:Nat},k.length=n→Fits (List.replicate n (.int .u8)) (bytes k)
 | [],_,rfl=> trivial
 | a::k,_,rfl=> by
  rw [List.length_cons,List.replicate_succ]
  exact ⟨⟨rfl,by have:=a.isLt;simp only [wfk,Lit.wf,IntKind.min,IntKind.max,IntKind.signed,IntKind.bits,Bool.and_eq_true,decide_eq_true_eq,Bool.false_eq_true,if_false];omega⟩,fits8 rfl⟩
theorem bytes_inj:∀ {a b:List B8},bytes a=bytes b→a=b
 | [], [],_=> rfl
 | [],_::_,h=> by cases h
 | _::_, [],h=> by cases h
 | x::a,y::b,h=> by
  simp only [bytes,List.map_cons,List.cons.injEq] at h
  have h2:=bytes_inj (a:=a) (b:=b) h.2
  have h1:=h.1
  simp [U8] at h1
  rw [h2,show x=y from BitVec.eq_of_toNat_eq zb]
def goodI (v:Value):Prop:=∃n,v= .int .i64 n
theorem keyI:KeyT prog 3 goodI where
 desc:=⟨_,runUnderlying3,fun a b ha hb=> by
  obtain ⟨m,rfl⟩:=ha;obtain ⟨n,rfl⟩:=hb
  by_cases h:m=n <;> simp [Instr.sameNow,same,h]⟩
 eq:=by
  rintro _ _ ⟨a,rfl⟩ ⟨c,rfl⟩ w
  by_cases h:a=c <;> simp [Op.equal,Op.maxDepth,same,h,Go.part,go_sem]
 chk:=by
  rintro _ ⟨a,rfl⟩ e w
  have:∀n,(Instr.checkKey e (n+2) 3 (.int .i64 a)).run prog w= .ok () w:=by
   intro n
   simp [Instr.checkKey,Go.part,go_sem]
  exact this 9998
 bits:=by
  rintro _ ⟨a,rfl⟩
  simp [Instr.sameBits]
theorem setV_absent {k v:Value}:∀ {c:List (Value×Value)},lookV k c=none→setV k v c=c++ [(k,v)]
 | [],_=> rfl
 | (a,u)::c,h=> by
  rw [lookV] at h
  split at h
  ·cases h
  ·next hn=> rw [setV,if_neg hn,setV_absent h];rfl
end Go.Proofs.YtkineolcmdecjaaGreat
