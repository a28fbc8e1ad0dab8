import Derived.Test.YtkineolcmdecjaaGreatBA
import Derived.Test.YtkineolcmdecjaaGreatKindMath
namespace Go.Proofs.YtkineolcmdecjaaGreat
open Go.PK
open Tryz
theorem num3 (N n:Nat) (hN:N < 18446744073709551616) (hn:n≤8):Spc prog 197 #[.int .u64 (N:Int), .int .i64 (n:Int)] [] [] (OwnB (beN n N)):=by
 refine Spc.en func197 rfl rfl (fun w0 hw0=> ?_)
 refine CW.sr (RL.pn rfl (CW.sg [0] [] (RL.buildOwn [] runUnderlying74 sizeOf5 zeroValue5 rfl rfl zc zc rfl zc rfl ?_)))
 intro b1
 refine RL.pn rfl (CW.ss (CW.sr (RL.pn rfl (CW.bb ?_))))
 refine CW.loop (γ:=Nat×Option Nat×Nat) (fun g=> g.1≤n∧(g.1=0∨g.2.1.isSome=true)) (fun g=> [(0, .int .u64 ((N / 256^g.1:Nat):Int)),(1, .int .i64 (n:Int)),(5,slO g.2.1 g.1 g.2.2),(6, .int .i64 (g.1:Int))]) (fun _=> [])
  (fun g=> [own g.2.1 g.2.2 5 1 g.1 (bytes (beN g.1 N))]) (fun g=> n - g.1) (0,some b1,0) zm
  (.cons (by simp;rfl) sE) (fun w h=> h) ?_
 rintro ⟨i,ob',c'⟩ ⟨hi,ho⟩
 dsimp only at hi ho ⊢
 refine CW.ss (CW.sr (RL.p rfl (RL.qn rfl ?_)))
 refine CW.cd rfl (fun hlt=> ?_) (fun hlt=> ?_)
 ·
  refine CW.sn (CW.ss (CW.bb (CW.sg [3,5] [5] (RL.p rfl (RL.rem rfl zc ?_)))))
  refine RL.lowest runUnderlying32 runUnderlying5 rfl (RL.buildOwn [_] runUnderlying74 sizeOf5 zeroValue5 rfl rfl zc zc rfl zc rfl ?_)
  intro b2
  refine RL.p rfl (RL.appendq el_74 rfl ?_)
  intro ob1 cap1 ho1
  refine RL.pn rfl (CW.ok [0,1,5,6] rfl (CW.rg (RL.p rfl ?_)))
  have hlt:i < n:=by simp at hlt;omega
  refine RL.quoX (v':= .int .u64 ((N / 256^(i+1):Nat):Int)) rfl zc (quoA _ _ hN) ?_
  refine RL.p rfl (RL.ee (NQ.bb (NQ.ss (CW.rg (RL.p rfl (RL.bx rfl (wrapV_i64 zb zb) ?_))))))
  refine RL.p rfl (RL.ee ?_)
  refine NQ.rr (g:=(i,ob',c')) (i+1,ob1,cap1) ⟨hlt,by rw [Nat.add_comm] at ho1;exact ho1⟩ (by show n - (i+1) < n - i;omega) (.cons rfl (.cons rfl (.cons (by rw [Nat.add_comm i 1];rfl) sE))) (fun w h=> ?_)
  rw [own_is (ob:=ob1) (n':=i+1) (xs':=bytes (beN (i+1) N)) zb (by rw [beN_cons,←lowA];rfl)] at h
  exact h.rea (fun _ h=> h) rE
 ·
  refine CW.xx (XQ.ss (XQ.ss (XQ.hh (NQ.ss (CW.ok [5] rfl (CW.s1 rfl (CW.rr ?_)))))))
  have hi8:i=n:=by simp at hlt;omega
  subst hi8
  rw [own_is (ob:=ob') (n':=(beN i N).length) (xs':=bytes (beN i N)) (beN_length _ _).symm rfl]
  exact RQ.pp (res1 rfl rfl) (.keep .nil) ⟨ob',c',by rw [beN_length],rfl,rfl,by rw [beN_length];exact ho⟩
theorem sput_any (a:Int):Spc prog 169 #[.int .i32 a] [] [] (Is (.agg (bytes (be4 a)).toArray)):=by
 refine Spc.en func169 rfl rfl (fun w0 hw0=> ?_)
 refine CW.sg [0] [] (RL.al zeroValue318 rfl ?_)
 intro b1
 refine RL.ns (CW.sr (RL.p rfl (RL.conv runUnderlying65 runUnderlying61 rfl (RL.pn rfl (CW.sg [12] [12] (RL.p rfl (RL.shr 24 rfl rfl zc ?_)))))))
 refine RL.conv runUnderlying61 runUnderlying5 rfl (RL.p rfl (RL.shr 16 rfl rfl zc ?_))
 refine RL.conv runUnderlying61 runUnderlying5 rfl (RL.p rfl (RL.shr 8 rfl rfl zc ?_))
 refine RL.conv runUnderlying61 runUnderlying5 rfl (RL.p rfl (RL.conv runUnderlying61 runUnderlying5 rfl (RL.buildA [_,_,_,_] zeroValue318 runUnderlying318 sizeOf5 rfl (RL.sq sizeOf318 rfl ?_))))
 refine RL.ns (CW.ok [2] rfl (CW.rr ?_))
 exact RQ.pp (resW rfl rfl isAgg318 sizeOf318 mQ rfl) (Split.nn _) ⟨by rw [←be4_cells],rfl,rfl⟩
theorem sputfix_any (a:Int) (h: -9223372036854775808≤a∧a≤9223372036854775807):Spc prog 170 #[.int .i64 a] [] [] (Is (.agg (bytes (be8' a)).toArray)):=by
 refine Spc.en func170 rfl rfl (fun w0 hw0=> ?_)
 refine CW.sg [0] [] (RL.al zeroValue320 rfl ?_)
 intro b1
 refine RL.ns (CW.sg [7,8,9,10] [9,10] (RL.p rfl (RL.shr 32 rfl rfl zc ?_)))
 refine RL.conv runUnderlying25 runUnderlying65 rfl (RL.vq (sput_any (IntKind.i32.wrap (a.fdiv (2^32)))) call169 rfl ?_)
 refine RL.p rfl (RL.conv runUnderlying25 runUnderlying65 rfl (RL.vq (sput_any (IntKind.i32.wrap a)) call169 rfl ?_))
 refine RL.al zeroValue318 rfl ?_
 intro b2
 refine RL.al zeroValue318 rfl ?_
 intro b3
 refine RL.sq sizeOf318 rfl ?_
 refine RL.sq sizeOf318 rfl ?_
 refine RL.ns (CW.ok [2,3,4] rfl (CW.sg [17] [17] (RL.iA (j:=0) runUnderlying318 sizeOf5 rfl zc ?_)))
 refine RL.lq isAgg5 rfl ?_
 refine RL.iA (j:=1) runUnderlying318 sizeOf5 rfl zc ?_
 refine RL.lq isAgg5 rfl ?_
 refine RL.iA (j:=2) runUnderlying318 sizeOf5 rfl zc ?_
 refine RL.lq isAgg5 rfl ?_
 refine RL.iA (j:=3) runUnderlying318 sizeOf5 rfl zc ?_
 refine RL.lq isAgg5 rfl ?_
 refine RL.iA (j:=0) runUnderlying318 sizeOf5 rfl zc ?_
 refine RL.lq isAgg5 rfl ?_
 refine RL.iA (j:=1) runUnderlying318 sizeOf5 rfl zc ?_
 refine RL.lq isAgg5 rfl ?_
 refine RL.iA (j:=2) runUnderlying318 sizeOf5 rfl zc ?_
 refine RL.lq isAgg5 rfl ?_
 refine RL.iA (j:=3) runUnderlying318 sizeOf5 rfl zc ?_
 refine RL.lq isAgg5 rfl ?_
 refine RL.buildA [_,_,_,_,_,_,_,_] zeroValue320 runUnderlying320 sizeOf5 rfl (RL.sq sizeOf320 rfl ?_)
 refine RL.ns (CW.ok [2] rfl (CW.rr ?_))
 exact RQ.pp (resW rfl rfl isAgg320 sizeOf320 mQ rfl) (Split.nn _) ⟨by rw [←be8_half a h];rfl,rfl,rfl⟩
theorem rsput_any (a:Int):Spc prog 160 #[.int .i32 a] [] [] (OwnB (be4 a)):=by
 refine Spc.en func160 rfl rfl (fun w0 hw0=> ?_)
 refine CW.sr (RL.pn rfl (CW.sg [3] [] (RL.p rfl (RL.conv runUnderlying65 runUnderlying61 rfl (RL.conv runUnderlying61 runUnderlying32 rfl ?_)))))
 rw [u64_of_u32,←wrap_u32_nat a]
 refine RL.cq (num3 (IntKind.u32.wrap a).toNat 4 (by have:=wrap_u32_lt a;omega) zc) call197 rfl (.inl rfl) ?_
 rintro _ _ _ ⟨ob,cap,rfl,rfl,rfl,ho⟩
 refine RL.pn rfl (CW.rr ?_)
 exact RQ.pp (res1 rfl rfl) (.keep .nil) ⟨ob,cap,rfl,rfl,rfl,ho⟩
theorem rsputfix_any (a:Int):Spc prog 161 #[.int .i64 a] [] [] (OwnB (be8' a)):=by
 refine Spc.en func161 rfl rfl (fun w0 hw0=> ?_)
 refine CW.sr (RL.pn rfl (CW.sg [2] [] (RL.p rfl (RL.conv runUnderlying25 runUnderlying32 rfl ?_))))
 rw [←wrap_u64_nat a]
 refine RL.cq (num3 (IntKind.u64.wrap a).toNat 8 (wrap_u64_lt a) zc) call197 rfl (.inl rfl) ?_
 rintro _ _ _ ⟨ob,cap,rfl,rfl,rfl,ho⟩
 refine RL.pn rfl (CW.rr ?_)
 exact RQ.pp (res1 rfl rfl) (.keep .nil) ⟨ob,cap,rfl,rfl,rfl,ho⟩
def rdr (d:Nat) (p:Option Addr) (n c:Nat):It:=cel d [.slice p n c] 282
def RdR (d:Nat) (p:Option Addr) (l:List B8) (k:Nat) (v:Value):Value→List It→List It→Prop:=fun v' I' H'=> v'=v∧I'= []∧∃p' c',H'= [rdr d p' (l.drop k).length c']∧(l.drop k).length≤c'∧Lies (sls p 1 l.length (bytes l)) (sls p' 1 (l.drop k).length (bytes (l.drop k)))
theorem take_any (d:Nat) (p:Option Addr) (n m c:Nat) (h1:n≤m) (h2:m≤c):Spc prog 176 #[.pointer (some ⟨d,0,none⟩), .int .i64 (n:Int)] [] [rdr d p m c]
  (fun v I' H'=> v= .slice (if c=0 then p else p.map (·.add (0*1))) n c∧I'= []∧H'= [rdr d (if c=n then p else p.map (·.add (n*1))) (m - n) (c - n)]):=by
 unfold rdr
 refine Spc.en func176 rfl rfl (fun w0 hw0=> ?_)
 refine CW.sr (RL.pn rfl (CW.sr (RL.q rfl (RL.fa fa_282_0 rfl (RL.lq isAgg74 rfl ?_)))))
 refine RL.p rfl (RL.slice (lo:=0) (hi:=n) runUnderlying74 sizeOf5 rfl rfl rfl zb zb ?_)
 refine RL.pn rfl (CW.ok [0,1,5] rfl (CW.sg [9] [9] (RL.q rfl (RL.p rfl (RL.fa fa_282_0 rfl (RL.lq isAgg74 rfl ?_))))))
 refine RL.p rfl (RL.slice (lo:=n) (hi:=m) runUnderlying74 sizeOf5 rfl rfl rfl zb zb ?_)
 refine RL.p rfl (RL.fa fa_282_0 rfl (RL.store (vs:= [_]) sizeOf74 rfl rfl uE ?_))
 refine RL.ns (CW.ok [5] rfl (CW.s1 rfl (CW.rr ?_)))
 exact RQ.pp (res1 rfl rfl) (.keep .nil) ⟨rfl,rfl,rfl⟩
theorem rnum_any (d:Nat) (p:Option Addr) (n c:Nat) (l:List B8) (hn:n≤l.length) (hc:l.length≤c) (h8:n≤8):Spc prog 173 #[.pointer (some ⟨d,0,none⟩), .int .i64 (n:Int)] [sls p 1 l.length (bytes l)] [rdr d p l.length c]
  (RdR d p l n (.int .u64 (numB (l.take n):Int))):=by
 refine Spc.en func173 rfl rfl (fun w0 hw0=> ?_)
 refine CW.sr (RL.pn rfl (CW.sr (RL.pn rfl (CW.ss (CW.sg [2] [2] (RL.p rfl ?_))))))
 refine RL.p rfl (RL.cq (take_any d p n l.length c hn hc) call176 rfl (.inr rfl) ?_)
 rintro _ _ _ ⟨rfl,rfl,rfl⟩
 refine RL.lenS runUnderlying74 rfl (RL.pn rfl (CW.bb ?_))
 have hs:=Lies.takeB (p:=p) (c:=c) (k:=n) (m:=l) hn hc
 generalize (if c=0 then p else p.map (·.add (0*1)))=q at hs ⊢
 refine CW.sub hs mQ ?_
 generalize hm:l.take n=m at hs ⊢
 have hml:m.length=n:=by rw [←hm,List.length_take];omega
 subst hml
 refine CW.loop (γ:=Nat) (fun i=> i≤m.length) (fun i=> [(5, .int .u64 (numB (m.take i):Int)),(10, .slice q m.length c),(11, .int .i64 (m.length:Int)),(12, .int .i64 (i:Int))]) (fun _=> [sls q 1 m.length (bytes m)]) (fun _=> [rdr d (if c=m.length then p else p.map (·.add (m.length*1))) (l.length - m.length) (c - m.length)]) (fun i=> m.length - i) 0 zb
  (.cons (by simp;rfl) sE) (fun w h=> h.les (fun x hx=> by simp at hx;simp [hx]) (Les.refl _)) ?_
 intro i hi
 refine CW.ff (p:=q=none→m.length=0) (fun w hC e=> sls_nil (hC.s.i _ (List.Mem.head _)) e) (fun hpp=> ?_)
 refine CW.sr (RL.pn rfl (CW.ss ?_))
 refine CW.cd rfl (fun hlt=> ?_) (fun hlt=> ?_)
 ·
  refine CW.sn (CW.ss (CW.bb (CW.sr ?_)))
  have hlt:i < m.length:=by simp at hlt;omega
  have hv:(bytes m)[i*1]? =some (U8 m[i]):=by simp [hlt]
  obtain ⟨a,rfl⟩:∃a,q=some a:=by
   cases q with
   | none=> exact absurd (hpp rfl) zb
   | some a=> exact ⟨a,rfl⟩
  refine RL.idx (j:=i) runUnderlying74 sizeOf5 rfl rfl hlt (RL.lq isAgg5 rfl ?_)
  refine RL.pn rfl (CW.rg (RL.p rfl (RL.shl 8 rfl rfl rfl rfl zc ?_)))
  refine RL.p rfl (RL.conv runUnderlying5 runUnderlying32 rfl (RL.q rfl (RL.ee (NQ.bb (NQ.ss (CW.ok [5,10,11,12] rfl (CW.rg (RL.bx rfl (wrapV_i64 zb zb) ?_))))))))
  refine RL.p rfl (RL.ee ?_)
  have hx:numB (m.take i) < 72057594037927936:=by
   have h:=numB_lt (m.take i)
   rw [List.length_take,Nat.min_eq_left hi] at h
   have h2:256^i≤256^7:=Nat.pow_le_pow_right zc zb
   omega
  rw [orA _ _ hx,←numB_take m i hlt]
  exact NQ.rr (g:=i) (i+1) hlt zb sE (fun w h=> h)
 ·
  refine CW.xx (XQ.ss (XQ.ss (XQ.hh (NQ.ss (CW.s1 rfl (CW.ok [4] rfl (CW.rr ?_)))))))
  have him:i=m.length:=by simp at hlt;omega
  subst him
  rw [List.take_length]
  exact RQ.pp (res1 rfl rfl) (.keep .nil) ⟨rfl,rfl,_,_,by rw [List.length_drop],by rw [List.length_drop];omega,Lies.dropB hn hc⟩
theorem four {l:List B8} (h:4≤l.length):∃a b c d t,l=a::b::c::d::t:=by
 match l,h with
 | a::b::c::d::t,_=> exact ⟨a,b,c,d,t,rfl⟩
theorem pre4 (a b c d:B8) (t:List B8):∀(q:Nat) (u:Value),(bytes [a,b,c,d])[q]? =some u→(bytes (a::b::c::d::t))[0*1+q]? =some u:=by
 intro q u h
 match q,h with
 | 0,h=> exact h
 | 1,h=> exact h
 | 2,h=> exact h
 | 3,h=> exact h
 | _+4,h=> simp at h
theorem sget_any (p:Option Addr) (n c:Nat) (l:List B8) (hn:l.length=n) (h4:4≤n) (hc:n≤c):Spc prog 199 #[.slice p n c] [sls p 1 n (bytes l)] [] (Is (.tuple #[.int .i32 (IntKind.i32.wrap (numB (l.take 4))), .int .i64 0])):=by
 obtain ⟨x1,x2,x3,x4,t,rfl⟩:=four (l:=l) zb
 refine Spc.some' (g:=fun p=> #[.slice p n c]) (I:=fun p=> [sls p 1 n (bytes (x1::x2::x3::x4::t))]) (H:=fun _=> []) (R:=fun _=> Is _) (List.Mem.head _) zb (fun q _=> ?_)
 refine Spc.en func199 rfl rfl (fun w0 hw0=> ?_)
 refine CW.s1 rfl (CW.ss (CW.sr (RL.p rfl (RL.lenS runUnderlying74 rfl (RL.pn rfl ?_)))))
 refine CW.cF rfl (zp) ?_
 refine CW.sn (CW.sg [4,5] [5] (RL.p rfl (RL.sliceP (lo:=0) (hi:=4) runUnderlying74 sizeOf5 rfl rfl rfl rfl zb zb zb ?_)))
 refine RL.toArr runUnderlying318 rfl rfl (by first | decide | omega) ?_
 refine RL.ld (vs:=bytes [x1,x2,x3,x4]) isAgg318 sizeOf318 rfl ((Rds.sls mQ).part (pre4 _ _ _ _ _)) ?_
 refine RL.al zeroValue318 rfl ?_
 intro b1
 refine RL.sq sizeOf318 rfl ?_
 refine RL.ns (CW.ok [4] rfl (CW.sr (RL.iA (j:=0) runUnderlying318 sizeOf5 rfl zc ?_)))
 refine RL.lq isAgg5 rfl ?_
 refine RL.widen runUnderlying5 runUnderlying61 rfl (RL.shl32 24 rfl rfl zc ?_)
 refine RL.iA (j:=1) runUnderlying318 sizeOf5 rfl zc ?_
 refine RL.lq isAgg5 rfl ?_
 refine RL.widen runUnderlying5 runUnderlying61 rfl (RL.shl32 16 rfl rfl zc ?_)
 refine RL.bv32 (a:=_) (b:=_) or32 rfl ?_
 refine RL.iA (j:=2) runUnderlying318 sizeOf5 rfl zc ?_
 refine RL.lq isAgg5 rfl ?_
 refine RL.widen runUnderlying5 runUnderlying61 rfl (RL.shl32 8 rfl rfl zc ?_)
 refine RL.bv32 (a:=_) (b:=_) or32 rfl ?_
 refine RL.iA (j:=3) runUnderlying318 sizeOf5 rfl zc ?_
 refine RL.lq isAgg5 rfl ?_
 refine RL.widen runUnderlying5 runUnderlying61 rfl (RL.bv32 (a:=_) (b:=_) or32 rfl ?_)
 refine RL.conv runUnderlying61 runUnderlying65 rfl (RL.qn rfl (CW.ok [2,3] rfl (CW.rr ?_)))
 rw [word4]
 exact RQ.pp (res2 rfl rfl rfl) (Split.nn _) ⟨rfl,rfl,rfl⟩
theorem sgetfix_any (p:Option Addr) (n c:Nat) (l:List B8) (hn:l.length=n) (h8:8≤n) (hc:n≤c):Spc prog 198 #[.slice p n c] [sls p 1 n (bytes l)] [] (Is (.tuple #[.int .i64 (IntKind.i64.wrap (numB (l.take 8))), .int .i64 0])):=by
 refine Spc.en func198 rfl rfl (fun w0 hw0=> ?_)
 refine CW.s1 rfl (CW.ss (CW.sr (RL.p rfl (RL.lenS runUnderlying74 rfl (RL.pn rfl ?_)))))
 refine CW.cF rfl (zp) ?_
 refine CW.sn (CW.sr (RL.p rfl (RL.vq (sget_any p n c l hn zb hc) call199 rfl ?_)))
 refine RL.q rfl (RL.p rfl (RL.qn rfl (CW.ok [0,4] rfl (CW.sr (RL.p rfl (RL.slice (lo:=4) (hi:=n) runUnderlying74 sizeOf5 rfl rfl rfl zb zb ?_))))))
 refine RL.vv (sget_any (if c=4 then p else p.map (·.add (4*1))) (n - 4) (c - 4) (l.drop 4) (by rw [List.length_drop];omega) zb zb) call199 rfl (by have h:=Lend.sub (I:= [sls p 1 l.length (bytes l)]) (F:= []) (Lies.dropB (p:=p) (c:=c) (lo:=4) (m:=l) zb zb) (List.Mem.head _) .nil;rwa [List.length_drop,hn] at h) ?_
 refine RL.q rfl (RL.p rfl (RL.qn rfl (CW.ok [4,6] rfl (CW.sr (RL.p rfl (RL.conv runUnderlying65 runUnderlying25 rfl (RL.shl 32 rfl rfl rfl rfl zc ?_)))))))
 refine RL.p rfl (RL.conv runUnderlying65 runUnderlying61 rfl (RL.conv runUnderlying61 runUnderlying25 rfl (RL.p rfl (RL.qn rfl (CW.ok [2,3] rfl (CW.rr ?_))))))
 obtain ⟨e,hA,hB⟩:=num8 (l:=l) zb
 rw [fix_or _ _ hA hB,←e]
 exact RQ.pp (res2 rfl rfl rfl) (Split.nn _) ⟨rfl,rfl,rfl⟩
theorem rshort_any (d:Nat) (p:Option Addr) (c:Nat) (l:List B8) (h4:4≤l.length) (hc:l.length≤c):Spc prog 174 #[.pointer (some ⟨d,0,none⟩)] [sls p 1 l.length (bytes l)] [rdr d p l.length c]
  (RdR d p l 4 (.int .i32 (IntKind.i32.wrap (numB (l.take 4))))):=by
 refine Spc.en func174 rfl rfl (fun w0 hw0=> ?_)
 refine CW.sr (RL.pn rfl (CW.sg [1] [1] (RL.p rfl (RL.cq (take_any d p 4 l.length c h4 hc) call176 rfl (.inr rfl) ?_))))
 rintro _ _ _ ⟨rfl,rfl,rfl⟩
 refine RL.vv (sget_any (if c=0 then p else p.map (·.add (0*1))) 4 c (l.take 4) (by rw [List.length_take];omega) zc zb) call199 rfl (by have h:=Lend.sub (I:= [sls p 1 l.length (bytes l)]) (F:= [rdr d (if c=4 then p else p.map (·.add (4*1))) (l.length - 4) (c - 4)]) (Lies.takeB (p:=p) (c:=c) (k:=4) (m:=l) zb zb) (List.Mem.head _) .nil;rwa [show (l.take 4).length=4 by rw [List.length_take];omega] at h) ?_
 refine RL.q rfl (RL.p rfl (RL.qn rfl (CW.ok [3] rfl (CW.s1 rfl ?_))))
 refine CW.rr ?_
 rw [List.take_take]
 exact RQ.pp (res1 rfl rfl) (.keep .nil) ⟨rfl,rfl,_,_,by rw [List.length_drop],by rw [List.length_drop];omega,Lies.dropB h4 hc⟩
theorem rfix_any (d:Nat) (p:Option Addr) (c:Nat) (l:List B8) (h8:8≤l.length) (hc:l.length≤c):Spc prog 172 #[.pointer (some ⟨d,0,none⟩)] [sls p 1 l.length (bytes l)] [rdr d p l.length c]
  (RdR d p l 8 (.int .i64 (IntKind.i64.wrap (numB (l.take 8))))):=by
 refine Spc.en func172 rfl rfl (fun w0 hw0=> ?_)
 refine CW.sr (RL.pn rfl (CW.sg [1] [1] (RL.p rfl (RL.cq (take_any d p 8 l.length c h8 hc) call176 rfl (.inr rfl) ?_))))
 rintro _ _ _ ⟨rfl,rfl,rfl⟩
 refine RL.vv (sgetfix_any (if c=0 then p else p.map (·.add (0*1))) 8 c (l.take 8) (by rw [List.length_take];omega) zc zb) call198 rfl (by have h:=Lend.sub (I:= [sls p 1 l.length (bytes l)]) (F:= [rdr d (if c=8 then p else p.map (·.add (8*1))) (l.length - 8) (c - 8)]) (Lies.takeB (p:=p) (c:=c) (k:=8) (m:=l) zb zb) (List.Mem.head _) .nil;rwa [show (l.take 8).length=8 by rw [List.length_take];omega] at h) ?_
 refine RL.q rfl (RL.p rfl (RL.qn rfl (CW.ok [3] rfl (CW.s1 rfl ?_))))
 refine CW.rr ?_
 rw [List.take_take]
 exact RQ.pp (res1 rfl rfl) (.keep .nil) ⟨rfl,rfl,_,_,by rw [List.length_drop],by rw [List.length_drop];omega,Lies.dropB h8 hc⟩
def c3 (f:Nat→Value) (z:Value) (k:Nat):List Value:= [if 0 < k then f 0 else z,if 1 < k then f 1 else z,if 2 < k then f 2 else z]
theorem c3_step {f:Nat→Value} {z:Value}:∀ {k:Nat},k < 3→spl (c3 f z k) (0+k*1) [f k]=c3 f z (k+1)
 | 0,_=> rfl
 | 1,_=> rfl
 | 2,_=> rfl
def f32 (l:List B8) (k:Nat):Value:= .int .i32 (IntKind.i32.wrap (numB ((l.drop (4*k)).take 4)))
def f64 (l:List B8) (k:Nat):Value:= .int .i64 (IntKind.i64.wrap (numB ((l.drop (8*k)).take 8)))
theorem rthree_any (d:Nat) (p:Option Addr) (c:Nat) (l:List B8) (h4:4*3≤l.length) (hc:l.length≤c):Spc prog 171 #[.pointer (some ⟨d,0,none⟩)] [sls p 1 l.length (bytes l)] [rdr d p l.length c]
  (RdR d p l (4*3) (.agg (c3 (f32 l) (.int .i32 0) 3).toArray)):=by
 refine Spc.en func171 rfl rfl (fun w0 hw0=> ?_)
 refine CW.sg [0] [] (RL.al zeroValue66 rfl ?_)
 intro b1
 refine RL.ns (CW.sg [0] [] (RL.al zeroValue66 rfl ?_))
 intro b2
 refine RL.ns (CW.ss (CW.sr (RL.pn rfl (CW.bb ?_))))
 refine CW.loop (γ:=Nat×Option Addr×Nat) (fun g=> g.1≤3∧(l.drop (4*g.1)).length≤g.2.2∧Lies (sls p 1 l.length (bytes l)) (sls g.2.1 1 (l.drop (4*g.1)).length (bytes (l.drop (4*g.1)))))
  (fun g=> [(0, .pointer (some ⟨d,0,none⟩)),(2, .pointer (some ⟨b1,0,none⟩)),(3, .pointer (some ⟨b2,0,none⟩)),(5, .int .i64 (g.1:Int))]) (fun _=> [sls p 1 l.length (bytes l)])
  (fun g=> [rdr d g.2.1 (l.drop (4*g.1)).length g.2.2,cel b2 (c3 (f32 l) (.int .i32 0) g.1) 66,cel b1 (c3 (f32 l) (.int .i32 0) 0) 66]) (fun g=> 3 - g.1) (0,p,c) ⟨zb,hc,Lies.refl _⟩
  sE wE ?_
 rintro ⟨k,p',c'⟩ ⟨hk,hc',hl⟩
 dsimp only at hk hc' hl ⊢
 refine CW.sr (RL.pn rfl (CW.ss ?_))
 refine CW.cd rfl (fun hlt=> ?_) (fun hlt=> ?_)
 ·
  have hlt:k < 3:=by simp at hlt;omega
  have hlen:4≤(l.drop (4*k)).length:=by rw [List.length_drop];omega
  have hdr:(l.drop (4*k)).drop 4=l.drop (4*(k+1)):=by rw [List.drop_drop,Nat.mul_add,Nat.mul_one]
  refine CW.sub hl mQ ?_
  refine CW.sn (CW.ss (CW.bb (CW.s1 rfl (CW.rn (ef:= [2,4]) (bk:= [2,4]) (RL.q rfl (RL.cc (rshort_any d p' c' (l.drop (4*k)) hlen hc') call174 rfl pE (.inI (List.Mem.head _) .nil) (.inr rfl) ?_))))))
  rintro _ _ _ ⟨rfl,rfl,p2,c2,rfl,hc2,hl2⟩
  rw [hdr] at hc2 hl2 ⊢
  refine RL.iA (j:=k) runUnderlying66 sizeOf65 rfl hlt (RL.sX (cs':=c3 (f32 l) (.int .i32 0) (k+1)) (vs:= [_]) (c3_step hlt) sizeOf65 rfl rfl uE (by simp [c3];omega) ?_)
  refine RL.ee (NQ.bb (NQ.ss (CW.ok [0,2,3,5] rfl (CW.rg (RL.bx rfl (wrapV_i64 zb zb) ?_)))))
  refine RL.p rfl (RL.ee ?_)
  exact NQ.rr (g:=(k,p',c')) (k+1,p2,c2) ⟨hlt,hc2,hl.trans hl2⟩ (by show 3 - (k+1) < 3 - k;omega) sE (fun w h=> h.les (fun x hx=> by simp at hx;simp [hx]) (Les.refl _))
 ·
  have hk3:k=3:=by simp at hlt;omega
  subst hk3
  have e3:c3 (f32 l) (.int .i32 0) 3= [f32 l 0,f32 l 1,f32 l 2]:=rfl
  have e0:c3 (f32 l) (.int .i32 0) 0= [.int .i32 0, .int .i32 0, .int .i32 0]:=rfl
  rw [e3,e0]
  unfold f32
  refine CW.xx (XQ.ss (XQ.ss (XQ.hh (NQ.ss (CW.sg [1] [1] (RL.lW isAgg66 sizeOf66 rfl mQ zf ?_))))))
  refine RL.sq sizeOf66 rfl ?_
  refine RL.ns (CW.rr ?_)
  exact RQ.pp (resW rfl rfl isAgg66 sizeOf66 mQ rfl) (.keep (Split.nn _)) ⟨rfl,rfl,p',c',rfl,hc',hl⟩
theorem rvec_any (d:Nat) (p:Option Addr) (c:Nat) (l:List B8) (h4:8*3≤l.length) (hc:l.length≤c):Spc prog 175 #[.pointer (some ⟨d,0,none⟩)] [sls p 1 l.length (bytes l)] [rdr d p l.length c]
  (RdR d p l (8*3) (.agg (c3 (f64 l) (.int .i64 0) 3).toArray)):=by
 refine Spc.en func175 rfl rfl (fun w0 hw0=> ?_)
 refine CW.sg [0] [] (RL.al zeroValue27 rfl ?_)
 intro b1
 refine RL.ns (CW.sg [0] [] (RL.al zeroValue27 rfl ?_))
 intro b2
 refine RL.ns (CW.ss (CW.sr (RL.pn rfl (CW.bb ?_))))
 refine CW.loop (γ:=Nat×Option Addr×Nat) (fun g=> g.1≤3∧(l.drop (8*g.1)).length≤g.2.2∧Lies (sls p 1 l.length (bytes l)) (sls g.2.1 1 (l.drop (8*g.1)).length (bytes (l.drop (8*g.1)))))
  (fun g=> [(0, .pointer (some ⟨d,0,none⟩)),(2, .pointer (some ⟨b1,0,none⟩)),(3, .pointer (some ⟨b2,0,none⟩)),(5, .int .i64 (g.1:Int))]) (fun _=> [sls p 1 l.length (bytes l)])
  (fun g=> [rdr d g.2.1 (l.drop (8*g.1)).length g.2.2,cel b2 (c3 (f64 l) (.int .i64 0) g.1) 27,cel b1 (c3 (f64 l) (.int .i64 0) 0) 27]) (fun g=> 3 - g.1) (0,p,c) ⟨zb,hc,Lies.refl _⟩
  sE wE ?_
 rintro ⟨k,p',c'⟩ ⟨hk,hc',hl⟩
 dsimp only at hk hc' hl ⊢
 refine CW.sr (RL.pn rfl (CW.ss ?_))
 refine CW.cd rfl (fun hlt=> ?_) (fun hlt=> ?_)
 ·
  have hlt:k < 3:=by simp at hlt;omega
  have hlen:8≤(l.drop (8*k)).length:=by rw [List.length_drop];omega
  have hdr:(l.drop (8*k)).drop 8=l.drop (8*(k+1)):=by rw [List.drop_drop,Nat.mul_add,Nat.mul_one]
  refine CW.sub hl mQ ?_
  refine CW.sn (CW.ss (CW.bb (CW.s1 rfl (CW.rn (ef:= [2,4]) (bk:= [2,4]) (RL.q rfl (RL.cc (rfix_any d p' c' (l.drop (8*k)) hlen hc') call172 rfl pE (.inI (List.Mem.head _) .nil) (.inr rfl) ?_))))))
  rintro _ _ _ ⟨rfl,rfl,p2,c2,rfl,hc2,hl2⟩
  rw [hdr] at hc2 hl2 ⊢
  refine RL.iA (j:=k) runUnderlying27 sizeOf25 rfl hlt (RL.sX (cs':=c3 (f64 l) (.int .i64 0) (k+1)) (vs:= [_]) (c3_step hlt) sizeOf25 rfl rfl uE (by simp [c3];omega) ?_)
  refine RL.ee (NQ.bb (NQ.ss (CW.ok [0,2,3,5] rfl (CW.rg (RL.bx rfl (wrapV_i64 zb zb) ?_)))))
  refine RL.p rfl (RL.ee ?_)
  exact NQ.rr (g:=(k,p',c')) (k+1,p2,c2) ⟨hlt,hc2,hl.trans hl2⟩ (by show 3 - (k+1) < 3 - k;omega) sE (fun w h=> h.les (fun x hx=> by simp at hx;simp [hx]) (Les.refl _))
 ·
  have hk3:k=3:=by simp at hlt;omega
  subst hk3
  have e3:c3 (f64 l) (.int .i64 0) 3= [f64 l 0,f64 l 1,f64 l 2]:=rfl
  have e0:c3 (f64 l) (.int .i64 0) 0= [.int .i64 0, .int .i64 0, .int .i64 0]:=rfl
  rw [e3,e0]
  unfold f64
  refine CW.xx (XQ.ss (XQ.ss (XQ.hh (NQ.ss (CW.sg [1] [1] (RL.lW isAgg27 sizeOf27 rfl mQ zf ?_))))))
  refine RL.sq sizeOf27 rfl ?_
  refine RL.ns (CW.rr ?_)
  exact RQ.pp (resW rfl rfl isAgg27 sizeOf27 mQ rfl) (.keep (Split.nn _)) ⟨rfl,rfl,p',c',rfl,hc',hl⟩
structure Rdg where
 kind:Int
 g0:Int
 g1:Int
 g2:Int
 a0:Int
 a1:Int
 a2:Int
 height:Int
 heading:Int
 speed:Int
 steps:Int
 interval:Int
 seq:B8
 p0:Int
 p1:Int
 p2:Int
 key:Nat→B8
 tick:Int
 mode:B8
 epoch:Int
 bound:Int
 flags:Int
 source:B8
 state:B8
 fails:Int
 counter:Int
def keyV (k:Nat→B8):List Value:= [U8 (k 0),U8 (k 1),U8 (k 2),U8 (k 3),U8 (k 4),U8 (k 5),U8 (k 6),U8 (k 7),U8 (k 8),U8 (k 9),U8 (k 10),U8 (k 11),U8 (k 12),U8 (k 13),U8 (k 14),U8 (k 15),U8 (k 16),U8 (k 17),U8 (k 18),U8 (k 19),U8 (k 20),U8 (k 21),U8 (k 22),U8 (k 23),U8 (k 24),U8 (k 25),U8 (k 26),U8 (k 27),U8 (k 28),U8 (k 29),U8 (k 30),U8 (k 31)]
def Rdg.cells (r:Rdg):List Value:=
 [.int .i64 r.kind, .int .i32 r.g0, .int .i32 r.g1, .int .i32 r.g2, .int .i32 r.a0, .int .i32 r.a1, .int .i32 r.a2, .int .i64 r.height, .int .u32 r.heading, .int .i32 r.speed, .int .u32 r.steps, .int .u32 r.interval,U8 r.seq, .int .i64 r.p0, .int .i64 r.p1, .int .i64 r.p2]++(keyV r.key++
 [.int .u64 r.tick,U8 r.mode, .int .u32 r.epoch, .int .i64 r.bound, .int .u32 r.flags,U8 r.source,U8 r.state, .int .u16 r.fails, .int .u64 r.counter])
def rz (k:Int):Rdg:=⟨k,0,0,0,0,0,0,0,0,0,0,0,0,0,0,0,fun _=> 0,0,0,0,0,0,0,0,0,0⟩
def nat (l:List B8) (o n:Nat):Nat:=numB ((l.drop o).take n)
def i32at (l:List B8) (o:Nat):Int:=IntKind.i32.wrap (nat l o 4)
def i64at (l:List B8) (o:Nat):Int:=IntKind.i64.wrap (nat l o 8)
def bat (l:List B8) (o:Nat):B8:=l.getD o 0
def getR (k:Int) (l:List B8):Rdg:=
 if k=1 then { rz 1 with g0:=i32at l 0,g1:=i32at l 4,g2:=i32at l 8,a0:=i32at l 12,a1:=i32at l 16,a2:=i32at l 20 }
 else if k=2 then { rz 2 with height:=i64at l 0 }
 else if k=3 then { rz 3 with heading:=nat l 0 4 }
 else if k=4 then { rz 4 with speed:=i32at l 0,steps:=nat l 4 4 }
 else if k=5 then { rz 5 with interval:=nat l 0 4,seq:=bat l 4,p0:=i64at l 5,p1:=i64at l 13,p2:=i64at l 21 }
 else if k=6 then { rz 6 with interval:=nat l 0 4,key:=fun j=> bat l (4+j) }
 else if k=7 then { rz 7 with tick:=nat l 0 8 }
 else if k=8 then { rz 8 with mode:=bat l 0 }
 else if k=10 then { rz 10 with epoch:=nat l 0 4 }
 else if k=12 then { rz 12 with source:=bat l 0 }
 else if k=13 then { rz 13 with mode:=bat l 0,p0:=i64at l 1,p1:=i64at l 9,p2:=i64at l 17,bound:=i64at l 25,flags:=nat l 33 4 }
 else if k=14 then { rz 14 with source:=bat l 0,state:=bat l 1,fails:=nat l 2 2,counter:=nat l 4 8,epoch:=nat l 12 4 }
 else rz k
def sizeR (k:Int):Nat:=if k=1 then 24 else if k=2 then 8 else if k=3 then 4 else if k=4 then 8 else if k=5 then 29 else if k=6 then 36 else if k=7 then 8 else if k=8 then 1 else if k=9 then 0 else if k=10 then 4 else if k=11 then 0 else if k=12 then 1 else if k=13 then 37 else 16
theorem nat_lt (l:List B8) (o n:Nat):nat l o n < 256^n:=by
 have h:=numB_lt ((l.drop o).take n)
 refine Nat.lt_of_lt_of_le h (Nat.pow_le_pow_right zc ?_)
 rw [List.length_take];omega
theorem u32_nat (l:List B8) (o:Nat):IntKind.u32.wrap (numB ((l.drop o).take 4):Int)=(nat l o 4:Int):=by
 have h:=nat_lt l o 4
 unfold nat at h ⊢
 simp [IntKind.wrap,IntKind.bits,IntKind.signed];omega
theorem u32_nat0 (l:List B8):IntKind.u32.wrap (numB (l.take 4):Int)=(nat l 0 4:Int):=by rw [←u32_nat,List.drop_zero]
theorem u16_nat (l:List B8) (o:Nat):IntKind.u16.wrap (numB ((l.drop o).take 2):Int)=(nat l o 2:Int):=by
 have h:=nat_lt l o 2
 unfold nat at h ⊢
 simp [IntKind.wrap,IntKind.bits,IntKind.signed];omega
theorem bat_nat (l:List B8) (o:Nat) (h:o < l.length):numB ((l.drop o).take 1)=(bat l o).toNat:=by
 rw [List.drop_eq_getElem_cons h,List.take_succ_cons,List.take_zero]
 simp only [numB,List.foldl_cons,List.foldl_nil,Nat.mul_zero,Nat.zero_add]
 simp [bat,h]
theorem bat_nat0 (l:List B8) (h:0 < l.length):numB (l.take 1)=(bat l 0).toNat:=by rw [←bat_nat l 0 h,List.drop_zero]
theorem ofNat_nat8 (b:B8):BitVec.ofNat 8 b.toNat=b:=by simp
theorem bat_get {l:List B8} {o:Nat} (h:o < l.length):l[o]? =some (bat l o):=by simp [bat,h]
theorem key_bat {l:List B8} {o:Nat} (h:o+32≤l.length):bytes ((l.drop o).take 32)=keyV (fun j=> bat l (o+j)):=by
 apply List.ext_getElem?
 intro j
 by_cases hj:j < 32
 ·have e:(bytes ((l.drop o).take 32))[j]? =some (U8 (bat l (o+j))):=by
   rw [List.getElem?_map,List.getElem?_take_of_lt hj,List.getElem?_drop,bat_get zb];rfl
  rw [e]
  clear e
  revert j
  intro j hj
  match j,hj with
  | 0,_=> rfl
  | 1,_=> rfl
  | 2,_=> rfl
  | 3,_=> rfl
  | 4,_=> rfl
  | 5,_=> rfl
  | 6,_=> rfl
  | 7,_=> rfl
  | 8,_=> rfl
  | 9,_=> rfl
  | 10,_=> rfl
  | 11,_=> rfl
  | 12,_=> rfl
  | 13,_=> rfl
  | 14,_=> rfl
  | 15,_=> rfl
  | 16,_=> rfl
  | 17,_=> rfl
  | 18,_=> rfl
  | 19,_=> rfl
  | 20,_=> rfl
  | 21,_=> rfl
  | 22,_=> rfl
  | 23,_=> rfl
  | 24,_=> rfl
  | 25,_=> rfl
  | 26,_=> rfl
  | 27,_=> rfl
  | 28,_=> rfl
  | 29,_=> rfl
  | 30,_=> rfl
  | 31,_=> rfl
  | _+32,h=> omega
 ·rw [List.getElem?_eq_none (by rw [List.length_map,List.length_take];omega),List.getElem?_eq_none (by simp [keyV];omega)]
theorem pre32 {l:List B8} {o:Nat} (h:o+32≤l.length):∀(j:Nat) (u:Value),(keyV (fun j=> bat l (o+j)))[j]? =some u→(bytes (l.drop o))[0*1+j]? =some u:=by
 intro j u hu
 rw [←key_bat h,List.getElem?_map,List.getElem?_take] at hu
 rw [Nat.zero_mul,Nat.zero_add,List.getElem?_map]
 split at hu
 ·exact hu
 ·simp at hu
end Go.Proofs.YtkineolcmdecjaaGreat
