import Derived.Test.YtkineolcmdecjaaGreatBA
import Derived.Test.YtkineolcmdecjaaGreatMA
namespace Go.Proofs.YtkineolcmdecjaaGreat
open Go.PK
open Tryz
def label:List B8:= [112#8,101#8,108#8,111#8,114#8,117#8,115#8,46#8,99#8,104#8,97#8,105#8,110#8]
def nextK (k:List B8):List B8:=sha (label++k)
theorem nextK_len (k:List B8):(nextK k).length=32:=sha_length _
def nextN (k:List B8):Nat→List B8
 | 0=> k
 | n+1=> nextK (nextN k n)
theorem nextN_len {k:List B8} (h:k.length=32):∀n,(nextN k n).length=32
 | 0=> h
 | n+1=> nextK_len _
def flatK (l:List (List B8)):List Value:=l.flatMap bytes
def chainL (k:List B8) (n:Nat):List (List B8):=(List.range n).map (nextN k)
theorem chainL_len (k:List B8) (n:Nat):(chainL k n).length=n:=by simp [chainL]
theorem chainL_succ (k:List B8) (n:Nat):chainL k (n+1)=chainL k n++ [nextN k n]:=by simp [chainL,List.range_succ]
theorem chainL_get (k:List B8) {n i:Nat} (h:i < n):(chainL k n)[i]? =some (nextN k i):=by simp [chainL,h]
theorem chainL_all {k:List B8} (h:k.length=32) (n:Nat):∀x∈chainL k n,x.length=32:=by
 intro x hx
 obtain ⟨i,_,rfl⟩:=List.mem_map.1 hx
 exact nextN_len h i
theorem flatK_get {l:List (List B8)} (h:∀x∈l,x.length=32) {i:Nat} {x:List B8} (hi:l[i]? =some x):∀q u,(bytes x)[q]? =some u→(flatK l)[i*32+q]? =some u:=by
 intro q u hq
 have hlt:q < 32:=by
  have:=(List.getElem?_eq_some_iff.1 hq).1
  rwa [List.length_map,h x (List.mem_of_getElem? hi)] at this
 rw [flatK,get_flat (n:=32) (fun a ha=> by rw [List.length_map];exact h a ha) hi hlt]
 exact hq
theorem fill_one {zs cs:List Value} {size:Nat} (hz:zs.length=size) (hc:cs.length=size):fillL (fun j=> some (j*size,size)) (reps zs 1) [(0, .agg cs.toArray)]=some cs:=by
 simp only [fillL,Value.cells,Nat.zero_mul,Nat.zero_add]
 rw [if_neg (by simp [reps,hz,hc])]
 rw [spl_all (by simp [reps,hz,hc])]
theorem key_ne (l1 l2:List B8) (h1:l1.length=32) (h2:l2.length=32) (x y:Operand) (w:World):(do eqGuard .neq 31 x y (.agg (bytes l1).toArray) (.agg (bytes l2).toArray);binOp .neq 31 (.agg (bytes l1).toArray) (.agg (bytes l2).toArray):Sem Value).run prog w= .ok (.bool (!(l1==l2))) w:=
 neq_arr8 (e:=5) zi (ii:=Tryz.t5) zi zi isAgg5 runUnderlying5 zi l1 l2 h1 h2 w
theorem next_any (k:List B8) (hk:k.length=32):Spc prog 121 #[.agg (bytes k).toArray] [] [] (Is (.agg (bytes (nextK k)).toArray)):=by
 have hj:∀p q,joined [⟨p,13,label⟩,⟨q,32,k⟩]=label++k:=fun p q=> by rw [joined_two]
 refine Spc.en func121 rfl rfl (fun w0 hw0=> ?_)
 refine CW.sg [0,1] [] (RL.box rfl ?_)
 intro b1
 refine RL.al (cs:=List.replicate 32 (U8 0#8)) zeroValue31 rfl ?_
 intro b2
 refine RL.ns (CW.sg [0,1,3,5] [1,5] (RL.buildSlice [_,_,_,_,_,_,_,_,_,_,_,_,_] runUnderlying74 sizeOf5 zeroValue5 rfl rfl zc zc rfl rfl ?_))
 intro b3
 refine RL.stringish (e:=5) runUnderlying74 runUnderlying5 rfl rfl rfl rfl pE rfl ?_
 refine RL.sliceAll runUnderlying31 sizeOf5 zc rfl ?_
 refine RL.buildSlice [_,_] runUnderlying161 sizeOf74 zeroValue74 rfl rfl zc zc rfl rfl ?_
 intro b4
 refine RL.vv (of_any (some ⟨b4,0,none⟩) 2 [⟨some ⟨b3,0,none⟩,13,label⟩,⟨some ⟨b1,0,none⟩,32,k⟩] zm (by rw [hj];simp [hk,label])) call157 rfl (Lend.allX mQ rfl (by simp [hk,Part.v];rfl) (.inI (List.Mem.head _) (Lend.all mQ zm .nil))) ?_
 refine RL.sq sizeOf31 rfl ?_
 refine RL.ns (CW.ok [2] rfl (CW.rr ?_))
 exact RQ.pp (resW rfl rfl isAgg31 sizeOf31 mQ (by simp [sha_length])) (Split.nn _) ⟨by rw [hj];rfl,rfl,rfl⟩
theorem Lend.ownN {I F J:List It} {b cap sz n n':Nat} {e:TypeId} {xs xs':List Value} (hm:PK.own (some b) cap e sz n xs∈F) (hn:n=n') (hx:xs=xs') (h:Lend I F J):Lend I F (PK.sls (some ⟨b,0,none⟩) sz n' xs'::J):=by
 subst hn;subst hx;exact Lend.own (ob:=some b) hm h
def okSteps (n:Int):Prop:=0≤n∧n≤512
def OwnK (k:List B8) (n:Nat):Value→List It→List It→Prop:=fun v I' H'=> ∃b cap,v= .tuple #[slO (some b) (n+1) cap, .int .i64 0]∧I'= []∧H'= [own (some b) cap 31 32 (n+1) (flatK (chainL k (n+1)))]
theorem flat_succ (k:List B8) (n:Nat):flatK (chainL k n)++bytes (nextN k n)=flatK (chainL k (n+1)):=by rw [chainL_succ];simp [flatK]
theorem rnext_any (k:List B8) (hk:k.length=32):Spc prog 128 #[.agg (bytes k).toArray] [] [] (Is (.agg (bytes (nextK k)).toArray)):=by
 refine Spc.en func128 rfl rfl (fun w0 hw0=> ?_)
 refine CW.sg [0,1] [] (RL.box rfl ?_)
 intro b1
 refine RL.al (cs:=List.replicate 32 (U8 0#8)) zeroValue31 rfl ?_
 intro b2
 refine RL.ns (CW.sg [0,1,3,4,5] [1,5] (RL.buildSlice [_,_,_,_,_,_,_,_,_,_,_,_,_] runUnderlying74 sizeOf5 zeroValue5 rfl rfl zc zc rfl rfl ?_))
 intro b3
 refine RL.stringish (e:=5) runUnderlying74 runUnderlying5 rfl rfl rfl rfl pE rfl ?_
 refine RL.sliceAll runUnderlying31 sizeOf5 zc rfl ?_
 refine RL.appendNew (xs:=bytes label) (news:=bytes k) el_74 rfl rfl rfl rfl (Src.sls (List.Mem.head _)) (Src.cel mQ (by simp [hk])) zc zc zc ?_
 intro b4 c4
 refine RL.vv (rof_n (some ⟨b4,0,none⟩) 45 c4 (label++k) (by simp [label,hk]) zc) call159 rfl (Lend.ownN mQ rfl zm .nil) ?_
 refine RL.sq sizeOf31 rfl ?_
 refine RL.ns (CW.ok [2] rfl (CW.rr ?_))
 exact RQ.pp (resW rfl rfl isAgg31 sizeOf31 mQ (by first | rfl | assumption | (simp only [List.length_map];assumption) | (simp only [List.length_map,List.length_replicate,padK_len,padB_len,sha_length,dig_length,macCode_len,macTag_len,nextK_len];done) | (simp;done))) (Split.nn _) ⟨rfl,rfl,rfl⟩
theorem all_ok (k:List B8) (hk:k.length=32) (n:Nat) (hn:n≤512):Spc prog 77 #[.agg (bytes k).toArray, .int .i64 (n:Int)] [] [] (OwnK k n):=by
 refine Spc.en func77 rfl rfl (fun w0 hw0=> ?_)
 refine CW.sg [0] [] (RL.box rfl ?_)
 intro b1
 refine RL.qn rfl (CW.ss (CW.sr (RL.q rfl (RL.p rfl (RL.tt (d:=9) (v':= .bool false) rfl (zm) ?_)))))
 refine RL.p rfl (RL.qn rfl (CW.ok [1,2,4,5,12] rfl (CW.cF rfl (zp) ?_)))
 refine CW.sn (CW.sg [1] [] (RL.lW isAgg31 sizeOf31 rfl mQ (by first | rfl | assumption | (simp only [List.length_map];assumption) | (simp only [List.length_map,List.length_replicate,padK_len,padB_len,sha_length,dig_length,macCode_len,macTag_len,nextK_len];done) | (simp;done)) ?_))
 refine RL.buildOwn (bytes k) runUnderlying89 sizeOf31 zeroValue31 rfl rfl zc zc (by simp [hk]) zc (qP rfl (qP rfl (qP rfl (fill_one rfl (by simp [hk]))))) ?_
 intro b2
 refine RL.pn rfl (CW.ss (CW.s1 rfl (CW.bb ?_)))
 refine CW.loop (γ:=Nat×Option Nat×Nat) (fun g=> g.1≤n∧g.2.1.isSome=true) (fun g=> [(2, .pointer (some ⟨b1,0,none⟩)),(6,slO g.2.1 (g.1+1) g.2.2),(15, .int .i64 (n:Int)),(16, .int .i64 (g.1:Int))]) (fun _=> [])
  (fun g=> [own g.2.1 g.2.2 31 32 (g.1+1) (flatK (chainL k (g.1+1))),cel b1 (bytes (nextN k g.1)) 31]) (fun g=> n - g.1) (0,some b2,1) ⟨zb,rfl⟩ sE
  (fun _ h=> by rw [own_is (ob:=some b2) (n':=0+1) (xs':=flatK (chainL k (0+1))) rfl (by simp [flatK,chainL,nextN])] at h;exact h) ?_
 rintro ⟨i,ob,c⟩ ⟨hi,hob⟩
 dsimp only at hi hob ⊢
 have hl:=nextN_len hk i
 have hl2:=nextN_len hk (i+1)
 refine CW.sr (RL.pn rfl (CW.ss ?_))
 refine CW.cd rfl (fun hlt=> ?_) (fun hlt=> ?_)
 ·
  refine CW.sn (CW.ss (CW.bb (CW.sg [2] [2] (RL.lW isAgg31 sizeOf31 rfl mQ (by first | rfl | assumption | (simp only [List.length_map];assumption) | (simp only [List.length_map,List.length_replicate,padK_len,padB_len,sha_length,dig_length,macCode_len,macTag_len,nextK_len];done) | (simp;done)) ?_))))
  refine RL.vq (next_any (nextN k i) hl) call121 rfl ?_
  refine RL.sq sizeOf31 rfl ?_
  refine RL.ns (CW.rn (ef:= [2,3]) (bk:= [3]) (RL.p rfl (RL.lW isAgg31 sizeOf31 rfl mQ (by first | rfl | assumption | (simp only [List.length_map];assumption) | (simp only [List.length_map,List.length_replicate,padK_len,padB_len,sha_length,dig_length,macCode_len,macTag_len,nextK_len];done) | (simp;done)) ?_)))
  have hlt:i < n:=by simp at hlt;omega
  refine RL.buildOwn (bytes (nextN k (i+1))) runUnderlying89 sizeOf31 zeroValue31 rfl rfl zc zc (by simp [nextN,nextK_len]) zc (qP rfl (qP rfl (qP rfl (fill_one rfl (by simp [nextN,nextK_len]))))) ?_
  intro b3
  refine RL.appendq el_89 rfl ?_
  intro ob1 cap1 ho1
  refine RL.p rfl (RL.ee (NQ.bb (NQ.ss (CW.ok [2,6,15,16] rfl (CW.rg (RL.bx rfl (wrapV_i64 zb zb) ?_))))))
  refine RL.p rfl (RL.ee ?_)
  refine NQ.rr (g:=(i,ob,c)) (i+1,ob1,cap1) ⟨hlt,ho1.resolve_left zb⟩ (by show n - (i+1) < n - i;omega) sE (fun _ h=> ?_)
  rw [own_is (ob:=ob1) (n':=i+1+1) (xs':=flatK (chainL k (i+1+1))) rfl (flat_succ k (i+1))] at h
  exact h.rea (fun _ h=> h) rE
 ·
  refine CW.xx (XQ.ss (XQ.ss (XQ.hh (NQ.ss (CW.sr (RL.p rfl (RL.qn rfl (CW.ok [4,5] rfl (CW.rr ?_)))))))))
  have hin:i=n:=by simp at hlt;omega
  subst hin
  obtain ⟨b,rfl⟩:∃b,ob=some b:=by
   cases ob with
   | none=> cases hob
   | some b=> exact ⟨b,rfl⟩
  exact RQ.pp (res2 rfl rfl rfl) (.keep (.drop .nil)) ⟨b,c,rfl,rfl,rfl⟩
theorem all_bad (k:List B8) (_hk:k.length=32) (n:Int) (hbad: ¬okSteps n):Spc prog 77 #[.agg (bytes k).toArray, .int .i64 n] [] [] (Is (.tuple #[.slice none 0 0, .int .i64 2])):=by
 unfold okSteps at hbad
 refine Spc.en func77 rfl rfl (fun w0 hw0=> ?_)
 refine CW.sg [0] [] (RL.box rfl ?_)
 intro b1
 refine RL.qn rfl (CW.ss (CW.sr (RL.q rfl (RL.p rfl ?_))))
 refine RL.part (d:=9) rfl (fun hneg=> ?_) (fun hneg=> ?_)
 ·
  refine RL.p rfl (RL.qn rfl (CW.ok [1,2,4,5,12] rfl (CW.cT rfl rfl (CW.s1 rfl (CW.rr ?_)))))
  refine RQ.ss ?_
  exact RQ.pp (res2 rfl rfl rfl) (Split.nn _) ⟨rfl,rfl,rfl⟩
 ·
  refine RL.p rfl (RL.qn rfl (CW.ok [1,2,4,5,12] rfl ?_))
  have hneg: ¬n < 0:=by simpa using hneg
  refine CW.cT rfl (zp) ?_
  refine CW.s1 rfl (CW.rr (RQ.ss ?_))
  exact RQ.pp (res2 rfl rfl rfl) (Split.nn _) ⟨rfl,rfl,rfl⟩
theorem Rds.key {I H:List It} {b cap n i:Nat} {l:List (List B8)} {x:List B8} (hm:PK.own (some b) cap 31 32 n (flatK l)∈H) (hl:∀x∈l,x.length=32) (hi:l[i]? =some x):Rds I H ((⟨b,0,none⟩:Addr).add (i*32)) (bytes x):=
 Rds.part (Rds.own hm) (flatK_get hl hi)
theorem Rds.keyI {I H:List It} {p:Addr} {n i:Nat} {l:List (List B8)} {x:List B8} (hm:PK.sls (some p) 32 n (flatK l)∈I) (hl:∀x∈l,x.length=32) (hi:l[i]? =some x):Rds I H (p.add (i*32)) (bytes x):=
 Rds.part (Rds.sls hm) (flatK_get hl hi)
theorem rall_ok (k:List B8) (hk:k.length=32) (n:Nat) (hn:n≤512):Spc prog 84 #[.agg (bytes k).toArray, .int .i64 (n:Int)] [] [] (OwnK k n):=by
 refine Spc.en func84 rfl rfl (fun w0 hw0=> ?_)
 refine CW.sg [0] [] (RL.box rfl ?_)
 intro b1
 refine RL.qn rfl (CW.ss (CW.sr (RL.q rfl (RL.p rfl (RL.tt (d:=10) (v':= .bool false) rfl (zm) ?_)))))
 refine RL.p rfl (RL.qn rfl (CW.ok [1,2,4,5,13] rfl (CW.cF rfl (zp) ?_)))
 refine CW.sn (CW.sg [1] [] (RL.lW isAgg31 sizeOf31 rfl mQ (by first | rfl | assumption | (simp only [List.length_map];assumption) | (simp only [List.length_map,List.length_replicate,padK_len,padB_len,sha_length,dig_length,macCode_len,macTag_len,nextK_len];done) | (simp;done)) ?_))
 refine RL.buildOwn (bytes k) runUnderlying89 sizeOf31 zeroValue31 rfl rfl zc zc (by simp [hk]) zc (qP rfl (qP rfl (qP rfl (fill_one rfl (by simp [hk]))))) ?_
 intro b2
 refine RL.pn rfl (CW.ok [1,6] rfl (CW.ss (CW.sr (RL.pn rfl (CW.bb ?_)))))
 refine CW.loop (γ:=Nat×Option Nat×Nat) (fun g=> g.1≤n∧g.2.1.isSome=true) (fun g=> [(1, .int .i64 (n:Int)),(6,slO g.2.1 (g.1+1) g.2.2),(7, .int .i64 (g.1:Int))]) (fun _=> [])
  (fun g=> [own g.2.1 g.2.2 31 32 (g.1+1) (flatK (chainL k (g.1+1)))]) (fun g=> n - g.1) (0,some b2,1) ⟨zb,rfl⟩ sE
  (fun _ h=> by rw [own_is (ob:=some b2) (n':=0+1) (xs':=flatK (chainL k (0+1))) rfl (by simp [flatK,chainL,nextN])] at h;exact h.rea (fun _ h=> h) rE) ?_
 rintro ⟨i,ob,c⟩ ⟨hi,hob⟩
 dsimp only at hi hob ⊢
 obtain ⟨b,rfl⟩:∃b,ob=some b:=by
  cases ob with
  | none=> cases hob
  | some b=> exact ⟨b,rfl⟩
 have hl:=nextN_len hk i
 have hl2:=nextN_len hk (i+1)
 refine CW.ss (CW.sr (RL.p rfl (RL.qn rfl ?_)))
 refine CW.cd rfl (fun hlt=> ?_) (fun hlt=> ?_)
 ·
  refine CW.sn (CW.ss (CW.bb (CW.rn (ef:= [6,7]) (bk:= [7]) (RL.q rfl (RL.p rfl ?_)))))
  have hlt:i < n:=by simp at hlt;omega
  refine RL.idx (j:=i) (p:=⟨b,0,none⟩) runUnderlying89 sizeOf31 rfl rfl zb ?_
  refine RL.ld (vs:=bytes (nextN k i)) isAgg31 (by rw [List.length_map,hl];exact sizeOf31) rfl (Rds.key (List.Mem.head _) (chainL_all hk _) (chainL_get k zb)) ?_
  refine RL.vq (rnext_any (nextN k i) hl) call128 rfl ?_
  refine RL.buildOwn (bytes (nextN k (i+1))) runUnderlying89 sizeOf31 zeroValue31 rfl rfl zc zc (by simp [nextN,nextK_len]) zc (qP rfl (qP rfl (qP rfl (fill_one rfl (by simp [nextN,nextK_len]))))) ?_
  intro b3
  refine RL.appendq el_89 rfl ?_
  intro ob1 cap1 ho1
  refine RL.p rfl (RL.ee (NQ.bb (NQ.ss (CW.ok [1,6,7] rfl (CW.rg (RL.p rfl (RL.bx rfl (wrapV_i64 zb zb) ?_)))))))
  refine RL.p rfl (RL.ee ?_)
  refine NQ.rr (g:=(i,some b,c)) (i+1,ob1,cap1) ⟨hlt,ho1.resolve_left zb⟩ (by show n - (i+1) < n - i;omega) sE (fun _ h=> ?_)
  rw [own_is (ob:=ob1) (n':=i+1+1) (xs':=flatK (chainL k (i+1+1))) rfl (flat_succ k (i+1))] at h
  exact h.rea (fun _ h=> h) rE
 ·
  refine CW.xx (XQ.ss (XQ.ss (XQ.hh (NQ.ss (CW.sr (RL.p rfl (RL.qn rfl (CW.ok [4,5] rfl (CW.rr ?_)))))))))
  have hin:i=n:=by simp at hlt;omega
  subst hin
  exact RQ.pp (res2 rfl rfl rfl) (.keep .nil) ⟨b,c,rfl,rfl,rfl⟩
theorem zk {p:Prop} (h:p:=by first | rfl | assumption | (simp only [List.length_map];assumption) | (simp only [List.length_map,List.length_replicate,padK_len,padB_len,sha_length,dig_length,macCode_len,macTag_len,nextK_len];done) | (simp;done)):p:=h
end Go.Proofs.YtkineolcmdecjaaGreat
