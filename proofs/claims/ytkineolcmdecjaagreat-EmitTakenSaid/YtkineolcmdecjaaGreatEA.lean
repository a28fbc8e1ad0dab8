import Derived.Test.YtkineolcmdecjaaGreatBA
import Derived.Test.YtkineolcmdecjaaGreatFA
import Derived.Test.YtkineolcmdecjaaGreatBase
import Derived.Test.YtkineolcmdecjaaGreatS0
import Derived.Test.YtkineolcmdecjaaGreatPD
namespace Go.Proofs.YtkineolcmdecjaaGreat
open Go.PK
open Tryz
def crcLow:B32:=3988292384#32
def crcB (r:B32):B32:=(r >>> 1)^^^(crcLow &&& (-(r &&& 1#32)))
def crcN:Nat→B32→B32
 | 0,r=> r
 | n+1,r=> crcB (crcN n r)
def crcX (r:B32) (x:B8):B32:=crcN 8 (r^^^x.setWidth 32)
def crcA (r:B32) (l:List B8):B32:=l.foldl crcX r
def crcOf (l:List B8):B32:= ~~~ (crcA (~~~ 0#32) l)
def crcS (s:B32):List B8:= [s.setWidth 8,(s >>> 8).setWidth 8,(s >>> 16).setWidth 8,(s >>> 24).setWidth 8]
def crcPut (l:List B8):List B8:=l++crcS (crcOf l)
theorem and_one (r:B32):(r &&& 1#32).toNat=r.toNat % 2:=by
 rw [BitVec.toNat_and]
 exact Nat.and_one_is_mod _
theorem crc_odd {r:B32} (h:r % 2#32=1#32):(r / 2#32)^^^crcLow=crcB r:=by
 have h2:r.toNat % 2=1:=by have:=congrArg BitVec.toNat h;simpa using this
 have h1:r &&& 1#32=1#32:=BitVec.eq_of_toNat_eq (by rw [and_one,h2];rfl)
 have h3:r / 2#32=r >>> 1:=BitVec.eq_of_toNat_eq (by simp [BitVec.toNat_udiv,Nat.shiftRight_eq_div_pow])
 rw [crcB,h1,h3]
 congr 1
theorem crc_even {r:B32} (h:r % 2#32≠1#32):r / 2#32=crcB r:=by
 have h2:r.toNat % 2=0:=by
  rcases Nat.mod_two_eq_zero_or_one r.toNat with h0 | h0
  ·exact h0
  ·exact absurd (BitVec.eq_of_toNat_eq (by simpa using h0)) h
 have h1:r &&& 1#32=0#32:=BitVec.eq_of_toNat_eq (by rw [and_one,h2];rfl)
 have h3:r / 2#32=r >>> 1:=BitVec.eq_of_toNat_eq (by simp [BitVec.toNat_udiv,Nat.shiftRight_eq_div_pow])
 rw [crcB,h1,h3]
 have:crcLow &&& (-(0#32))=0#32:=by decide
 rw [this,BitVec.xor_zero]
theorem crcA_snoc (r:B32) (l:List B8) (x:B8):crcA r (l++ [x])=crcX (crcA r l) x:=by simp [crcA]
theorem crcA_take {l:List B8} {i:Nat} {x:B8} (h:l[i]? =some x) (r:B32):crcA r (l.take (i+1))=crcX (crcA r (l.take i)) x:=by
 rw [List.take_add_one,h];exact crcA_snoc _ _ _
theorem crcPut_len (l:List B8):(crcPut l).length=l.length+4:=by simp [crcPut,crcS]
theorem neg32 (a:B32):Value.int .u32 (IntKind.u32.wrap (0 - (a.toNat:Int)))=U32 (-a):=by
 rw [U32,u32_wrap,Int.zero_sub,BitVec.ofInt_neg,BitVec.ofInt_natCast,BitVec.ofNat_toNat];simp
theorem sub_inv (a:B32):Value.int .u32 (IntKind.u32.wrap (4294967295 - (a.toNat:Int)))=U32 (~~~a):=by
 have h:=a.isLt
 have h2:(~~~a).toNat=4294967295 - a.toNat:=by rw [BitVec.toNat_not]
 rw [U32,h2]
 congr 1
 simp [IntKind.wrap,IntKind.bits,IntKind.signed]
 omega
theorem crcS_ref (s:B32): [(s % 256#32).setWidth 8,(s / 256#32 % 256#32).setWidth 8,(s / 65536#32 % 256#32).setWidth 8,(s / 16777216#32).setWidth 8]=crcS s:=by
 have e0:(s % 256#32).setWidth 8=s.setWidth 8:=BitVec.eq_of_toNat_eq zm
 have e1:(s / 256#32 % 256#32).setWidth 8=(s >>> 8).setWidth 8:=BitVec.eq_of_toNat_eq (by simp [Nat.shiftRight_eq_div_pow])
 have e2:(s / 65536#32 % 256#32).setWidth 8=(s >>> 16).setWidth 8:=BitVec.eq_of_toNat_eq (by simp [Nat.shiftRight_eq_div_pow])
 have e3:(s / 16777216#32).setWidth 8=(s >>> 24).setWidth 8:=BitVec.eq_of_toNat_eq (by simp [Nat.shiftRight_eq_div_pow])
 rw [e0,e1,e2,e3,crcS]
theorem cadd_any (r:B32) (p:Option Addr) (c n:Nat) (l:List B8) (hn:l.length=n) (hb:n≤1000000):Spc prog 218 #[U32 r, .slice p n c] [sls p 1 n (bytes l)] [] (Is (U32 (crcA r l))):=by
 subst hn
 refine Spc.en func218 rfl rfl (fun w0 hw0=> ?_)
 refine CW.sr (RL.pn rfl (CW.ss (CW.sr (RL.p rfl (RL.lenS runUnderlying74 rfl (RL.pn rfl (CW.bb ?_)))))))
 refine CW.gI (fun J hJ=> ?_)
 have m2:sls p 1 l.length (bytes l)∈J:=hJ _ zm
 clear hJ
 refine CW.loop (γ:=Nat) (fun i=> i≤l.length) (fun i=> [(0,U32 (crcA r (l.take i))),(8, .slice p l.length c),(9, .int .i64 (l.length:Int)),(10, .int .i64 (i:Int))]) (fun _=> J) (fun _=> []) (fun i=> l.length - i) 0 (Nat.zero_le _) sE wE ?_
 intro i hi
 refine CW.ff (p:=p=none→l.length=0) (fun w hC e=> sls_nil (hC.s.i _ m2) e) (fun hpa=> ?_)
 refine CW.sr (RL.pn rfl (CW.ss ?_))
 refine CW.cd rfl (fun hlt=> ?_) (fun hlt=> ?_)
 ·
  have hlt:i < l.length:=by simp at hlt;omega
  cases p with
  | none=> exact absurd (hpa rfl) zb
  | some a=>
  have hx:=List.getElem?_eq_getElem hlt
  have htk:=fun r=> crcA_take (r:=r) hx
  generalize l[i]=x at hx htk
  have f1:RdI J (a.add (i*1)) (U8 x):=⟨fun _=> by
   rw [Nat.mul_one]
   exact Rds.rd (Rds.sls m2) (by rw [List.getElem?_map,hx];rfl)⟩
  refine CW.sn (CW.ss (CW.bb (CW.sr ?_)))
  first | refine RL.ix (j:=i) runUnderlying74 sizeOf5 rfl (hlt) ?_ | refine RL.idx (j:=i) runUnderlying74 sizeOf5 rfl rfl (hlt) ?_
  refine RL.lq isAgg5 rfl ?_
  refine RL.pn rfl (CW.sr (RL.q rfl (RL.widen runUnderlying5 runUnderlying61 rfl (RL.bv32 (a:=_) (b:=_) xor32 rfl ?_))))
  refine RL.pn rfl (CW.ok [0,8,9,10] rfl (CW.sr (RL.pn rfl (CW.bb (CW.loop (γ:=Nat) (fun k=> k≤8) (fun k=> [(0,U32 (crcN k (crcA r (l.take i)^^^x.setWidth 32))),(8, .slice (some a) l.length c),(9, .int .i64 (l.length:Int)),(10, .int .i64 (i:Int)),(18, .int .i64 (k:Int))]) (fun _=> J) (fun _=> []) (fun k=> 8 - k) 0 (Nat.zero_le _) sE wE ?_)))))
  intro k hk
  generalize hs:crcN k (crcA r (l.take i)^^^x.setWidth 32)=s
  refine CW.sr (RL.pn rfl (CW.ss ?_))
  refine CW.cd rfl (fun hk8=> ?_) (fun hk8=> ?_)
  ·
   refine CW.sn (CW.ss (CW.bb (CW.sr (RL.p rfl (RL.bv32 (a:=_) (b:=1#32) and32 rfl ?_)))))
   refine RL.neg rfl rfl (RL.tt (d:=22) rfl (neg32 _) ?_)
   refine RL.pn rfl (CW.rg (RL.p rfl (RL.shr32 1 rfl zc zc ?_)))
   refine RL.p rfl (RL.bv32 (a:=3988292384#32) (b:=_) and32 rfl ?_)
   refine RL.bv32 (a:=_) (b:=_) xor32 rfl ?_
   refine RL.p rfl (RL.ee (NQ.bb (NQ.ss (CW.ok [0,8,9,10,18] rfl (CW.rg (RL.bx rfl (wrapV_i64 zb zb) ?_))))))
   refine RL.p rfl (RL.ee ?_)
   have hk8:k < 8:=by simp at hk8;omega
   refine NQ.rr (g:=k) (k+1) hk8 (by show 8 - (k+1) < 8 - k;omega) (.cons (by rw [crcN,hs];rfl) sE) wE
  ·
   refine CW.xx (XQ.ss (XQ.ss (XQ.hh (NQ.bb (NQ.ss (CW.rg (RL.bx rfl (wrapV_i64 zb zb) ?_)))))))
   refine RL.p rfl (RL.ee ?_)
   have hk8:k=8:=by simp at hk8;omega
   subst hk8
   refine NQ.rr (g:=i) (i+1) hlt (by show l.length - (i+1) < l.length - i;omega) (.cons (by rw [htk,crcX,hs];rfl) sE) wE
 ·
  refine CW.xx (XQ.ss (XQ.ss (XQ.hh (NQ.ss (CW.s1 rfl (CW.ok [4] rfl (CW.rr ?_)))))))
  have hin:i=l.length:=by simp at hlt;omega
  subst hin
  exact RQ.pp (res1 rfl rfl) (Split.nn _) ⟨by rw [List.take_length],rfl,rfl⟩
def crcK (l:List B8) (i:Nat):B32:=crcA (~~~ 0#32) (if i=0 then [] else l)
theorem cof_one (b:Nat) (p:Option Addr) (c n:Nat) (l:List B8) (hn:l.length=n) (hb:n≤1000000):Spc prog 201 #[.slice (some ⟨b,0,none⟩) 1 1] [sls (some ⟨b,0,none⟩) 1 1 [.slice p n c],sls p 1 n (bytes l)] [] (Is (U32 (crcOf l))):=by
 subst hn
 refine Spc.en func201 rfl rfl (fun w0 hw0=> ?_)
 refine CW.sr (RL.pn rfl (CW.sr (RL.pn rfl (CW.ss (CW.sr (RL.p rfl ?_))))))
 refine RL.lenS runUnderlying161 rfl (RL.pn rfl (CW.bb ?_))
 refine CW.gI (fun J hJ=> ?_)
 have m1:sls (some ⟨b,0,none⟩) 1 1 [.slice p l.length c]∈J:=hJ _ zm
 have m2:sls p 1 l.length (bytes l)∈J:=hJ _ zm
 clear hJ
 refine CW.loop (γ:=Nat) (fun i=> i≤1) (fun i=> [(3,U32 (crcK l i)),(6, .slice (some ⟨b,0,none⟩) 1 1),(7, .int .i64 1),(8, .int .i64 (i:Int))]) (fun _=> J) (fun _=> []) (fun i=> 1 - i) 0 (Nat.zero_le _) sE wE ?_
 intro i hi
 refine CW.sr (RL.pn rfl (CW.ss ?_))
 refine CW.cd rfl (fun hlt=> ?_) (fun hlt=> ?_)
 ·
  obtain rfl:i=0:=by simp at hlt;omega
  have f1:RdI J ⟨b,0+0*1,none⟩ (.slice p l.length c):=⟨fun _=> Rds.rd (p:=⟨b,0,none⟩) (j:=0) (Rds.sls m1) rfl⟩
  refine CW.sn (CW.ss (CW.bb (CW.sr ?_)))
  first | refine RL.ix (j:=0) runUnderlying161 sizeOf74 rfl (zc) ?_ | refine RL.idx (j:=0) runUnderlying161 sizeOf74 rfl rfl (zc) ?_
  refine RL.lq isAgg74 rfl ?_
  refine RL.pn rfl (CW.rg (RL.q rfl (RL.vv (cadd_any (crcK l 0) p c _ l rfl hb) call218 rfl (.inI m2 .nil) (RL.p rfl (RL.ee (NQ.bb (NQ.ss (CW.ok [3,6,7,8] rfl (CW.rg (RL.bx rfl (wrapV_i64 zb zb) ?_))))))))))
  refine RL.p rfl (RL.ee ?_)
  refine NQ.rr (g:=0) 1 zc zc sE wE
 ·
  refine CW.xx (XQ.ss (XQ.ss (XQ.hh (NQ.ss (CW.sr (RL.p rfl (RL.inv32 rfl rfl (RL.pn rfl (CW.ok [2] rfl (CW.rr ?_))))))))))
  obtain rfl:i=1:=by simp at hlt;omega
  exact RQ.pp (res1 rfl rfl) (Split.nn _) ⟨rfl,rfl,rfl⟩
theorem csum_any (p:Option Addr) (c n:Nat) (l:List B8) (hn:l.length=n) (hb:n≤1000000):Spc prog 180 #[.slice p n c] [sls p 1 n (bytes l)] [] (Is (.agg (bytes (crcS (crcOf l))).toArray)):=by
 refine Spc.en func180 rfl rfl (fun w0 hw0=> ?_)
 refine CW.sg [0] [] (RL.al zeroValue318 rfl ?_)
 intro b1
 refine RL.ns (CW.sg [1] [] (RL.p rfl (RL.buildSlice [_] runUnderlying161 sizeOf74 zeroValue74 rfl rfl zc zc rfl rfl ?_)))
 intro b2
 refine RL.vv (cof_one b2 p c n l hn hb) call201 rfl (Lend.all mQ rfl (.inI (List.Mem.head _) .nil)) ?_
 refine RL.pn rfl (CW.sg [12] [12] (RL.p rfl (RL.narrow runUnderlying61 runUnderlying5 rfl rfl (RL.p rfl (RL.shr32 8 rfl zc zc ?_)))))
 refine RL.narrow runUnderlying61 runUnderlying5 rfl rfl (RL.p rfl (RL.shr32 16 rfl zc zc ?_))
 refine RL.narrow runUnderlying61 runUnderlying5 rfl rfl (RL.p rfl (RL.shr32 24 rfl zc zc ?_))
 refine RL.narrow runUnderlying61 runUnderlying5 rfl rfl (RL.buildA (bytes (crcS (crcOf l))) zeroValue318 runUnderlying318 sizeOf5 rfl (RL.store (vs:= [_,_,_,_]) sizeOf318 rfl rfl uE ?_))
 refine RL.ns (CW.ok [2] rfl (CW.rr ?_))
 exact RQ.pp (resW rfl rfl isAgg318 sizeOf318 mQ rfl) (Split.nn _) ⟨rfl,rfl,rfl⟩
theorem cput_any (p:Option Addr) (c n:Nat) (l:List B8) (hn:l.length=n) (hb:n≤900000):Spc prog 149 #[.slice p n c] [sls p 1 n (bytes l)] [] (OwnT (crcPut l)):=by
 subst hn
 refine Spc.en func149 rfl rfl (fun w0 hw0=> ?_)
 refine CW.sr (RL.pn rfl (CW.sg [2,3] [3] (RL.p rfl (RL.vq (csum_any p c _ l rfl zb) call180 rfl ?_))))
 refine RL.al zeroValue318 rfl ?_
 intro b1
 refine RL.store (vs:= [_,_,_,_]) sizeOf318 rfl rfl uE ?_
 refine RL.ns (CW.sg [2,3] [] (RL.p rfl (RL.sliceAll runUnderlying318 sizeOf5 zc rfl ?_)))
 refine RL.buildSlice [_,_] runUnderlying161 sizeOf74 zeroValue74 rfl rfl zc zc rfl rfl ?_
 intro b2
 refine RL.cc (concatT (some ⟨b2,0,none⟩) 2 2 [⟨p,c,l⟩,⟨some ⟨b1,0,none⟩,4,crcS (crcOf l)⟩] (crcPut l) rfl zc (by simp [joined,crcPut]) (by rw [crcPut_len];omega)) call148 rfl pE (Lend.all mQ rfl (.inI mQ (Lend.all mQ rfl .nil))) (.inl rfl) ?_
 rintro _ _ _ ⟨ob1,cap1,rfl,rfl,rfl,ho1⟩
 refine RL.pn rfl (CW.ok [2] rfl (CW.rr ?_))
 exact RQ.pp (res1 rfl rfl) (.keep (Split.nn _)) ⟨ob1,cap1,rfl,rfl,rfl,trivial⟩
theorem radd11 (r:B32) (p:Option Addr) (c n:Nat) (l:List B8) (hn:l.length=n) (hb:n≤1000000):Spc prog 185 #[U32 r, .slice p n c] [sls p 1 n (bytes l)] [] (Is (U32 (crcA r l))):=by
 subst hn
 refine Spc.en func185 rfl rfl (fun w0 hw0=> ?_)
 refine CW.sr (RL.pn rfl (CW.ss (CW.sr (RL.pn rfl (CW.bb ?_)))))
 refine CW.gI (fun J hJ=> ?_)
 have m2:sls p 1 l.length (bytes l)∈J:=hJ _ zm
 clear hJ
 refine CW.loop (γ:=Nat) (fun i=> i≤l.length) (fun i=> [(0,U32 (crcA r (l.take i))),(1, .slice p l.length c),(5, .int .i64 (i:Int))]) (fun _=> J) (fun _=> []) (fun i=> l.length - i) 0 (Nat.zero_le _) sE wE ?_
 intro i hi
 refine CW.ff (p:=p=none→l.length=0) (fun w hC e=> sls_nil (hC.s.i _ m2) e) (fun hpa=> ?_)
 refine CW.ss (CW.sr (RL.q rfl (RL.lenS runUnderlying74 rfl (RL.pn rfl ?_))))
 refine CW.cd rfl (fun hlt=> ?_) (fun hlt=> ?_)
 ·
  have hlt:i < l.length:=by simp at hlt;omega
  cases p with
  | none=> exact absurd (hpa rfl) zb
  | some a=>
  have hx:=List.getElem?_eq_getElem hlt
  have htk:=fun r=> crcA_take (r:=r) hx
  generalize l[i]=x at hx htk
  have f1:RdI J (a.add (i*1)) (U8 x):=⟨fun _=> by
   rw [Nat.mul_one]
   exact Rds.rd (Rds.sls m2) (by rw [List.getElem?_map,hx];rfl)⟩
  refine CW.sn (CW.ss (CW.bb (CW.sr (RL.q rfl (RL.p rfl ?_)))))
  first | refine RL.ix (j:=i) runUnderlying74 sizeOf5 rfl (hlt) ?_ | refine RL.idx (j:=i) runUnderlying74 sizeOf5 rfl rfl (hlt) ?_
  refine RL.lq isAgg5 rfl ?_
  refine RL.widen runUnderlying5 runUnderlying61 rfl (RL.bv32 (a:=_) (b:=_) xor32 rfl ?_)
  refine RL.pn rfl (CW.ok [0,1,5] rfl (CW.sr (RL.pn rfl (CW.bb (CW.loop (γ:=Nat) (fun k=> k≤8) (fun k=> [(0,U32 (crcN k (crcA r (l.take i)^^^x.setWidth 32))),(1, .slice (some a) l.length c),(5, .int .i64 (i:Int)),(6, .int .i64 (k:Int))]) (fun _=> J) (fun _=> []) (fun k=> 8 - k) 0 (Nat.zero_le _) sE wE ?_)))))
  intro k hk
  generalize hs:crcN k (crcA r (l.take i)^^^x.setWidth 32)=s
  refine CW.ss (CW.s1 rfl ?_)
  refine CW.cd rfl (fun hk8=> ?_) (fun hk8=> ?_)
  ·
   refine CW.sn (CW.ss (CW.bb (CW.sr (RL.p rfl (RL.rem32 (2#32) rfl zc ?_)))))
   refine RL.pn rfl (CW.sr (RL.p rfl (RL.quo32 (2#32) rfl zc ?_)))
   refine RL.pn rfl (CW.ok [0,1,5,6,7] rfl (CW.s1 rfl ?_))
   have hk8:k < 8:=by simp at hk8;omega
   refine CW.cd rfl (fun ho=> ?_) (fun ho=> ?_)
   ·
    refine CW.rg (RL.p rfl (RL.bv32 (a:=_) (b:=3988292384#32) xor32 rfl ?_))
    refine RL.p rfl (RL.ee (NQ.bb (NQ.ss (CW.rg (RL.p rfl (RL.bx rfl (wrapV_i64 zb zb) ?_))))))
    refine RL.p rfl (RL.ee ?_)
    have ho:s % 2#32=1#32:=by
     have h2:((s % 2#32).toNat:Int)=((1#32:B32).toNat:Int):=by simpa using ho
     exact BitVec.eq_of_toNat_eq zb
    have hc:=crc_odd ho
    exact NQ.rr (g:=k) (k+1) hk8 (by show 8 - (k+1) < 8 - k;omega) (.cons (by rw [crcN,hs,←hc];rfl) sE) wE
   ·
    refine CW.kk (NQ.bb (NQ.ss (CW.rg (RL.p rfl (RL.bx rfl (wrapV_i64 zb zb) ?_)))))
    refine RL.p rfl (RL.ee ?_)
    have ho:s % 2#32≠1#32:=fun h=> by
     have h2: ¬((s % 2#32).toNat:Int)=((1#32:B32).toNat:Int):=by simpa using ho
     exact h2 (by rw [h])
    have hc:=crc_even ho
    exact NQ.rr (g:=k) (k+1) hk8 (by show 8 - (k+1) < 8 - k;omega) (.cons (by rw [crcN,hs,←hc];rfl) sE) wE
  ·
   refine CW.xx (XQ.ss (XQ.ss (XQ.hh (NQ.bb (NQ.ss (CW.rg (RL.p rfl (RL.bx rfl (wrapV_i64 zb zb) ?_))))))))
   refine RL.p rfl (RL.ee ?_)
   have hk8:k=8:=by simp at hk8;omega
   subst hk8
   refine NQ.rr (g:=i) (i+1) hlt (by show l.length - (i+1) < l.length - i;omega) (.cons (by rw [htk,crcX,hs];rfl) sE) wE
 ·
  refine CW.xx (XQ.ss (XQ.ss (XQ.hh (NQ.ss (CW.ok [0] rfl (CW.s1 rfl (CW.rr ?_)))))))
  have hin:i=l.length:=by simp at hlt;omega
  subst hin
  exact RQ.pp (res1 rfl rfl) (Split.nn _) ⟨by rw [List.take_length],rfl,rfl⟩
theorem rof11 (p:Option Addr) (c n:Nat) (l:List B8) (hn:l.length=n) (hb:n≤1000000):Spc prog 152 #[.slice p n c] [sls p 1 n (bytes l)] [] (Is (U32 (crcOf l))):=by
 refine Spc.en func152 rfl rfl (fun w0 hw0=> ?_)
 refine CW.sr (RL.pn rfl (CW.sr (RL.p rfl (RL.vq (radd11 (~~~ 0#32) p c n l hn hb) call185 rfl ?_))))
 refine RL.p rfl (RL.tt (d:=5) rfl (sub_inv _) ?_)
 refine RL.pn rfl (CW.rr ?_)
 exact RQ.pp (res1 rfl rfl) (Split.nn _) ⟨rfl,rfl,rfl⟩
theorem rput11 (p:Option Addr) (c n:Nat) (l:List B8) (hn:l.length=n) (hb:n≤900000):Spc prog 114 #[.slice p n c] [sls p 1 n (bytes l)] [] (OwnT (crcPut l)):=by
 subst hn
 have hS:=crcS_ref (crcOf l)
 refine Spc.en func114 rfl rfl (fun w0 hw0=> ?_)
 refine CW.sr (RL.pn rfl (CW.sr (RL.p rfl (RL.vq (rof11 p c _ l rfl zb) call152 rfl ?_))))
 refine RL.pn rfl (CW.sg [0,2,17,18] [2,18] (RL.buildOwn [] runUnderlying74 sizeOf5 zeroValue5 rfl rfl zc zc rfl zc rfl ?_))
 intro b1
 refine RL.p rfl (RL.appendq el_74 rfl ?_)
 intro ob1 cap1 ho1
 refine RL.p rfl (RL.rem32 (256#32) rfl zc ?_)
 refine RL.narrow runUnderlying61 runUnderlying5 rfl rfl (RL.p rfl (RL.quo32 (256#32) rfl zc ?_))
 refine RL.rem32 (256#32) rfl zc ?_
 refine RL.narrow runUnderlying61 runUnderlying5 rfl rfl (RL.p rfl (RL.quo32 (65536#32) rfl zc ?_))
 refine RL.rem32 (256#32) rfl zc ?_
 refine RL.narrow runUnderlying61 runUnderlying5 rfl rfl (RL.p rfl (RL.quo32 (16777216#32) rfl zc ?_))
 refine RL.narrow runUnderlying61 runUnderlying5 rfl rfl (RL.buildOwn [_,_,_,_] runUnderlying74 sizeOf5 zeroValue5 rfl rfl zc zc rfl zc rfl ?_)
 intro b2
 refine RL.appendq el_74 rfl ?_
 intro ob2 cap2 ho2
 refine RL.pn rfl (CW.ok [2] rfl (CW.rr ?_))
 rw [own_is (n':=(crcPut l).length) (xs':=bytes (crcPut l)) (by rw [crcPut_len];omega) (by rw [crcPut,←hS];simp)]
 exact RQ.pp (res1 rfl rfl) (.keep (Split.nn _)) ⟨ob2,cap2,by rw [crcPut_len,Nat.zero_add],rfl,rfl,trivial⟩
theorem rright11 (p:Option Addr) (c n:Nat) (l:List B8) (hn:(crcPut l).length=n) (hb:n≤900000) (hc:n≤c):Spc prog 68 #[.slice p n c] [sls p 1 n (bytes (crcPut l))] [] (Is (.bool true)):=by
 have hlen:=crcPut_len l
 subst hn
 have hl:=Lies.takeB (p:=p) (c:=c) (k:=l.length) (m:=crcPut l) zb hc
 have he:(crcPut l).take l.length=l:=by rw [crcPut,List.take_left' rfl]
 rw [he] at hl
 refine Spc.en func68 rfl rfl (fun w0 hw0=> ?_)
 refine CW.sr (RL.pn rfl (CW.s2 (CW.sub hl (List.Mem.head _) (CW.rg (RL.p rfl (RL.lenS runUnderlying74 rfl (RL.pn rfl ?_)))))))
 refine CW.cF rfl (zp) ?_
 refine CW.sn (CW.ss (CW.rD (Sq.of [0,1,2,3,4,7,8,5,6,9,10]) [5] [] [0,1,2,3,4,7,9,10] mixed zi ?_))
 refine RL.q rfl (RL.lenS runUnderlying74 rfl (RL.bx rfl (wrapV_i64 zb zb) ?_))
 refine RL.tt (d:=9) (v':= .int .i64 (l.length:Int)) rfl (by congr 1;omega) ?_
 refine RL.slice (lo:=0) (hi:=l.length) runUnderlying74 sizeOf5 rfl rfl rfl zb zb ?_
 refine RL.p rfl (RL.bytesStr (bs:=crcPut l) (e:=5) zi zi zi rfl rfl (Src.sls mQ) ?_)
 refine RL.cc (rput11 (if c=0 then p else p.map (·.add (0*1))) (c - 0) _ l rfl zb) call114 rfl pE (.inI (List.Mem.head _) .nil) (.inl rfl) ?_
 rintro _ _ _ ⟨ob1,cap1,rfl,rfl,rfl,ho1⟩
 refine RL.bytesStr (bs:=crcPut l) (e:=5) zi zi zi rfl rfl (Src.own mQ) ?_
 refine RL.cmp rfl (eql_txt (crcPut l) (crcPut l)) (RL.pn rfl (CW.ok [2] rfl (CW.rr ?_)))
 exact RQ.pp (res1 rfl rfl) (Split.nn _) ⟨zm,rfl,rfl⟩
def octO (n:Int):Bool:=Bool.or (decide (n < 0)) (decide (n > 255))
theorem octO_any (n:Int):Spc prog 178 #[.int .i64 n] [] [] (Is (.bool (octO n))):=by
 refine Spc.en func178 rfl rfl (fun w0 hw0=> ?_)
 refine CW.sr (RL.pn rfl (CW.sr (RL.q rfl (RL.p rfl ?_))))
 apply RL.orB (d:=5) (dp:=8) (l':=(Sq.of [6])) rfl (sK [2] rfl)
 ·
  intro hb3 K3
  refine RL.q rfl (RL.p rfl ?_)
  exact K3 _ (.cons rfl (sK [2] rfl))
 ·
  intro hb3 K3
  refine RL.q rfl (RL.p rfl ?_)
  exact K3 _ (.cons rfl (sK [2] rfl))
 refine RL.pn rfl (CW.rr ?_)
 exact RQ.pp (res1 rfl rfl) (Split.nn _) ⟨rfl,rfl,rfl⟩
def octOFind:List Int→Nat→Int
 | [],_=> -1
 | x::r,i=> if octO x then (i:Int) else octOFind r (i+1)
theorem octOFind_any:∀(l:List Int) (i:Nat),decide (octOFind l i≥0)=l.any octO
 | [],i=> rfl
 | x::r,i=> by
  rw [octOFind,List.any_cons]
  cases h:octO x
  ·rw [if_neg zm,octOFind_any r (i+1)];simp
  ·rw [if_pos rfl];simp
theorem octOFind_walk (p:Option Addr) (n c:Nat) (l:List Int) (hn:l.length=n) (hb:n≤1000000000):Spc prog 200 #[.slice p n c, .func (.func 178) #[] #[]] [sls p 1 n (ints l)] [] (Is (.int .i64 (octOFind l 0))):=by
 subst hn
 refine Spc.en func200 rfl rfl (fun w0 hw0=> ?_)
 refine CW.sr (RL.pn rfl (CW.ss (CW.sr (RL.p rfl (RL.lenS runUnderlying52 rfl (RL.pn rfl (CW.bb ?_)))))))
 refine CW.loop (γ:=Nat) (fun i=> i≤l.length∧octOFind l 0=octOFind (l.drop i) i) (fun i=> [(0, .slice p l.length c),(1, .func (.func 178) #[] #[]),(7, .int .i64 (l.length:Int)),(8, .int .i64 (i:Int))]) (fun _=> [sls p 1 l.length (ints l)])
  (fun _=> []) (fun i=> l.length - i) 0 ⟨zb,zm⟩ sE (fun w h=> h) ?_
 rintro i ⟨hi,he⟩
 refine CW.ff (p:=p=none→l.length=0) (fun w hC e=> sls_nil (hC.s.i _ (List.Mem.head _)) e) (fun hpp=> ?_)
 refine CW.sr (RL.pn rfl (CW.ss ?_))
 refine CW.cd rfl (fun hlt=> ?_) (fun hlt=> ?_)
 ·
  have hlt:i < l.length:=by simp at hlt;omega
  obtain ⟨a,rfl⟩:∃a,p=some a:=by
   cases p with
   | none=> exact absurd (hpp rfl) zb
   | some a=> exact ⟨a,rfl⟩
  have hd:l.drop i=l[i]::l.drop (i+1):=List.drop_eq_getElem_cons hlt
  rw [hd,octOFind] at he
  refine CW.sn (CW.ss (CW.bb (CW.s1 rfl (CW.sg [5] [] (RL.q rfl ?_)))))
  refine RL.p rfl (RL.idx (j:=i) runUnderlying52 sizeOf3 rfl rfl hlt ?_)
  refine RL.load isAgg3 rfl (Rd.getS mQ (show (ints l)[i*1]? =some (.int .i64 l[i]) by rw [Nat.mul_one,List.getElem?_map,List.getElem?_eq_getElem hlt];rfl)) ?_
  refine RL.callvF (octO_any l[i]) call178 rfl rfl rfl (by repeat (first | exact Lend.nil | (refine Lend.inI ?_ ?_;(solve | (repeat (first | exact List.Mem.head _ | apply List.Mem.tail)))) | (refine Lend.inH ?_ ?_;(solve | (repeat (first | exact List.Mem.head _ | apply List.Mem.tail)))))) ?_
  refine RL.ns (CW.ok [0,1,5,7,8,16] rfl ?_)
  refine CW.cd rfl (fun ho=> ?_) (fun ho=> ?_)
  ·
   refine CW.s1 rfl (CW.rr (RQ.bb (RQ.ss (RQ.ss (RQ.bb (RQ.ss ?_))))))
   rw [if_pos ho] at he
   exact RQ.pp (res1 rfl rfl) (Split.nn _) ⟨by rw [he],rfl,rfl⟩
  ·
   refine CW.kk (NQ.bb (NQ.ss (CW.rg (RL.bx rfl (wrapV_i64 zb zb) ?_))))
   refine RL.p rfl (RL.ee ?_)
   rw [if_neg (by rw [ho];decide)] at he
   refine NQ.rr (g:=i) (i+1) ⟨hlt,he⟩ (by show l.length - (i+1) < l.length - i;omega) sE (fun w h=> h)
 ·
  refine CW.xx (XQ.ss (XQ.ss (XQ.hh (NQ.ss (CW.sr (RL.pn rfl (CW.rr ?_)))))))
  have hin:i=l.length:=by simp at hlt;omega
  subst hin
  rw [List.drop_length] at he
  exact RQ.pp (res1 rfl rfl) (Split.nn _) ⟨by rw [he];rfl,rfl,rfl⟩
theorem octOHas_walk (p:Option Addr) (n c:Nat) (l:List Int) (hn:l.length=n) (hb:n≤1000000000):Spc prog 177 #[.slice p n c, .func (.func 178) #[] #[]] [sls p 1 n (ints l)] [] (Is (.bool (l.any octO))):=by
 refine Spc.en func177 rfl rfl (fun w0 hw0=> ?_)
 refine CW.sr (RL.pn rfl (CW.sr (RL.q rfl (RL.vq (octOFind_walk p n c l hn hb) call200 rfl ?_))))
 refine RL.qn rfl (CW.ok [4] rfl (CW.rr ?_))
 exact RQ.pp (res1 rfl rfl) (Split.nn _) ⟨by rw [←octOFind_any l 0],rfl,rfl⟩
theorem Lies.seg {b off n:Nat} {cs xs:List Value} {T:TypeId} (hl:xs.length=n*1) (hx:∀j u,xs[j]? =some u→cs[off+j]? =some u):Lies (cel b cs T) (sls (some ⟨b,off,none⟩) 1 n xs):=
 ⟨fun _ h=> cel_sls h hl hx,fun c hc=> by by_cases hn:n=0 <;> simp_all [PK.sls,PK.cel]⟩
def frB (f:Fr):List B8:= [165#8,90#8]++crcPut (BitVec.ofInt 8 ((f.signed++f.tag).length:Int)::(f.signed++f.tag))
def OwnP (l:List B8):Value→List It→List It→Prop:=fun v I' H'=> ∃ob cap,v= .tuple #[slO ob l.length cap, .int .i64 0]∧I'= []∧H'= [own ob cap 5 1 l.length (bytes l)]
structure Fr.Fit (f:Fr):Prop where
 ok:f.Ok
 kd:0≤f.kd∧f.kd≤255
 sr:0≤f.sr∧f.sr≤255
 b:f.b.length≤48
theorem frB_len {f:Fr} (h:f.tag.length=16):(frB f).length=37+f.b.length:=by
 simp [frB,crcPut,crcS,signed_len,h];omega
theorem octets_any (b:Nat) (l:List Int) (n:Nat) (hn:l.length=n) (hb:n≤1000000):Spc prog 147 #[.slice (some ⟨b,0,none⟩) n n] [sls (some ⟨b,0,none⟩) 1 n (ints l)] [] (Is (.bool (!l.any octO))):=by
 refine Spc.en func147 rfl rfl (fun w0 hw0=> ?_)
 refine CW.sr (RL.pn rfl (CW.sr (RL.p rfl (RL.vq (octOHas_walk (some ⟨b,0,none⟩) n n l hn zb) call177 rfl ?_))))
 refine RL.qn rfl (CW.rr ?_)
 exact RQ.pp (res1 rfl rfl) (Split.nn _) ⟨rfl,rfl,rfl⟩
theorem fput_any (f:Fr) (p:Option Addr) (c n:Nat) (hf:f.Fit) (hn:f.b.length=n):Spc prog 109 #[.agg (f.cells (.slice p n c)).toArray] [sls p 1 n (bytes f.b)] [] (OwnP (frB f)):=by
 subst hn
 have hl:=fr_len hf.ok.tag (.slice p f.b.length c)
 have hsl:=signed_len f
 have hb:=hf.b
 have htl:(bytes f.tag).length=16*1:=by rw [List.length_map,hf.ok.tag]
 refine Spc.en func109 rfl rfl (fun w0 hw0=> ?_)
 refine CW.sg [0] [] (RL.box rfl ?_)
 intro b1
 refine RL.qn rfl (CW.ss (CW.bs (CW.fP (A:= [cel b1 (f.cells (.slice p f.b.length c)) 78]) (B:= []) (.take .nil) rfl (CW.sub (Lies.seg (off:=0+5) (n:=f.tag.length) (xs:=bytes f.tag) zm (fr_tag f _)) (List.Mem.head _) ?_))))
 refine CW.gI (fun J hJ=> ?_)
 have mT:sls (some ⟨b1,0+5,none⟩) 1 f.tag.length (bytes f.tag)∈J:=hJ _ (List.Mem.head _)
 have m1:cel b1 (f.cells (.slice p f.b.length c)) 78∈J:=hJ _ (List.Mem.tail _ (List.Mem.head _))
 have mB:sls p 1 f.b.length (bytes f.b)∈J:=hJ _ (List.Mem.tail _ (List.Mem.tail _ (List.Mem.head _)))
 clear hJ
 have f0:RdI J ⟨b1,0+0,none⟩ (.int .i64 f.kd):=⟨fun _=> Rd.celI m1 rfl⟩
 have f1:RdI J ⟨b1,0+1,none⟩ (.int .i64 f.sr):=⟨fun _=> Rd.celI m1 rfl⟩
 have f4:RdI J ⟨b1,0+4,none⟩ (.slice p f.b.length c):=⟨fun _=> Rd.celI m1 rfl⟩
 have fA:RdsN J ⟨b1,0,none⟩ 21 (f.cells (.slice p f.b.length c)):=⟨fun _=> Rds.allI m1,hl⟩
 refine CW.rn (ef:= [4]) (bk:= []) (RL.fa fa_78_0 rfl (RL.lq isAgg3 rfl ?_))
 refine RL.fa fa_78_1 rfl (RL.lq isAgg3 rfl ?_)
 refine RL.buildSlice [_,_] runUnderlying52 sizeOf3 zeroValue3 rfl rfl zc zc rfl rfl ?_
 intro b2
 refine RL.vv (octets_any b2 [f.kd,f.sr] 2 rfl zc) call147 rfl (Lend.all mQ rfl .nil) ?_
 refine RL.qn rfl (CW.ok [1,2,3,6] rfl ?_)
 have ho: [f.kd,f.sr].any octO=false:=by
  have h1:=hf.kd;have h2:=hf.sr
  simp [octO];omega
 refine CW.cF rfl ((by rw [ho];rfl)) ?_
 refine CW.sr (RL.fa fa_78_4 rfl (RL.lq isAgg74 rfl ?_))
 refine RL.lenS runUnderlying74 rfl (RL.qn rfl ?_)
 have hst:(f.signed++f.tag).length=30+f.b.length:=by rw [List.length_append,hsl,hf.ok.tag];omega
 refine CW.cF rfl (zp) ?_
 refine CW.kk (NQ.bb (NQ.ss (CW.ok [1] rfl (CW.ss (CW.rD (Sq.of [0,2,3,1,4,5,6]) [1,4,5] [] [0,2,3,6] mixed zi ?_)))))
 refine RL.loadSTq isAgg78 sizeOf78 rfl ?_
 refine RL.fa fa_78_5 rfl (RL.sliceAll runUnderlying76 sizeOf5 zc rfl ?_)
 refine RL.tt (d:=22) (v':= .slice (some ⟨b1,0+5,none⟩) f.tag.length f.tag.length) rfl (by rw [hf.ok.tag]) ?_
 refine RL.cc (signed_any f p c _ hf.ok rfl zb) call112 rfl pE (.inI mB .nil) (.inl rfl) ?_
 rintro _ _ _ ⟨ob1,cap1,rfl,rfl,rfl,ho1⟩
 refine RL.buildSlice [_,_] runUnderlying161 sizeOf74 zeroValue74 rfl rfl zc zc rfl rfl ?_
 intro b3
 refine RL.cc (concatT (some ⟨b3,0,none⟩) 2 2 [⟨ob1.map fun b=> ⟨b,0,none⟩,cap1,f.signed⟩,⟨some ⟨b1,0+5,none⟩,f.tag.length,f.tag⟩] (f.signed++f.tag) rfl zc (by simp [joined]) zb) call148 rfl pE (Lend.allX mQ rfl rfl (Lend.own mQ (.inI mT .nil))) (.inl rfl) ?_
 rintro _ _ _ ⟨ob2,cap2,rfl,rfl,rfl,ho2⟩
 refine RL.pn rfl (CW.ok [4] rfl (CW.sg [3,5,6,7] [] (RL.p rfl (RL.lenS runUnderlying74 rfl (RL.lowest runUnderlying3 runUnderlying5 rfl (RL.buildSlice [_] runUnderlying74 sizeOf5 zeroValue5 rfl rfl zc zc rfl rfl ?_))))))
 intro b4
 refine RL.p rfl (RL.buildSlice [_,_] runUnderlying161 sizeOf74 zeroValue74 rfl rfl zc zc rfl rfl ?_)
 intro b5
 refine RL.cc (concatT (some ⟨b5,0,none⟩) 2 2 [⟨some ⟨b4,0,none⟩,1, [BitVec.ofInt 8 ((f.signed++f.tag).length:Int)]⟩,⟨ob2.map fun b=> ⟨b,0,none⟩,cap2,f.signed++f.tag⟩] (BitVec.ofInt 8 ((f.signed++f.tag).length:Int)::(f.signed++f.tag)) rfl zc (by simp [joined]) (by rw [List.length_cons];omega)) call148 rfl pE (Lend.allX mQ rfl rfl (Lend.all mQ rfl (Lend.own mQ .nil))) (.inl rfl) ?_
 rintro _ _ _ ⟨ob3,cap3,rfl,rfl,rfl,ho3⟩
 refine RL.cc (cput_any (ob3.map fun b=> ⟨b,0,none⟩) cap3 _ (BitVec.ofInt 8 ((f.signed++f.tag).length:Int)::(f.signed++f.tag)) rfl (by rw [List.length_cons];omega)) call149 rfl pE (Lend.own mQ .nil) (.inl rfl) ?_
 rintro _ _ _ ⟨ob4,cap4,rfl,rfl,rfl,ho4⟩
 refine RL.pn rfl (CW.ok [5] rfl (CW.sg [0,2,3] [] (RL.buildSlice [_,_] runUnderlying74 sizeOf5 zeroValue5 rfl rfl zc zc rfl rfl ?_)))
 intro b6
 refine RL.p rfl (RL.buildSlice [_,_] runUnderlying161 sizeOf74 zeroValue74 rfl rfl zc zc rfl rfl ?_)
 intro b7
 refine RL.cc (concatT (some ⟨b7,0,none⟩) 2 2 [⟨some ⟨b6,0,none⟩,2, [165#8,90#8]⟩,⟨ob4.map fun b=> ⟨b,0,none⟩,cap4,crcPut (BitVec.ofInt 8 ((f.signed++f.tag).length:Int)::(f.signed++f.tag))⟩] (frB f) rfl zc (by simp [joined,frB]) (by rw [frB_len hf.ok.tag];omega)) call148 rfl pE (Lend.allX mQ rfl rfl (Lend.all mQ rfl (Lend.own mQ .nil))) (.inl rfl) ?_
 rintro _ _ _ ⟨ob5,cap5,rfl,rfl,rfl,ho5⟩
 refine RL.qn rfl (CW.rr ?_)
 exact RQ.pp (res2 rfl rfl rfl) (.keep (Split.nn _)) ⟨ob5,cap5,rfl,rfl,rfl⟩
theorem rfput_any (f:Fr) (p:Option Addr) (c n:Nat) (hf:f.Fit) (hn:f.b.length=n):Spc prog 135 #[.agg (f.cells (.slice p n c)).toArray] [sls p 1 n (bytes f.b)] [] (OwnP (frB f)):=by
 subst hn
 have hl:=fr_len hf.ok.tag (.slice p f.b.length c)
 have hsl:=signed_len f
 have hb:=hf.b
 have h16:=hf.ok.tag
 refine Spc.en func135 rfl rfl (fun w0 hw0=> ?_)
 refine CW.sg [0] [] (RL.box rfl ?_)
 intro b1
 refine RL.qn rfl (CW.s2 (CW.fP (A:= [cel b1 (f.cells (.slice p f.b.length c)) 78]) (B:= []) (.take .nil) rfl (CW.sub (Lies.seg (off:=0+5) (n:=f.tag.length) (xs:=bytes f.tag) zm (fr_tag f _)) (List.Mem.head _) ?_)))
 refine CW.gI (fun J hJ=> ?_)
 have mT:sls (some ⟨b1,0+5,none⟩) 1 f.tag.length (bytes f.tag)∈J:=hJ _ (List.Mem.head _)
 have m1:cel b1 (f.cells (.slice p f.b.length c)) 78∈J:=hJ _ (List.Mem.tail _ (List.Mem.head _))
 have mB:sls p 1 f.b.length (bytes f.b)∈J:=hJ _ (List.Mem.tail _ (List.Mem.tail _ (List.Mem.head _)))
 clear hJ
 have f0:RdI J ⟨b1,0+0,none⟩ (.int .i64 f.kd):=⟨fun _=> Rd.celI m1 rfl⟩
 have f1:RdI J ⟨b1,0+1,none⟩ (.int .i64 f.sr):=⟨fun _=> Rd.celI m1 rfl⟩
 have f4:RdI J ⟨b1,0+4,none⟩ (.slice p f.b.length c):=⟨fun _=> Rd.celI m1 rfl⟩
 have fA:RdsN J ⟨b1,0,none⟩ 21 (f.cells (.slice p f.b.length c)):=⟨fun _=> Rds.allI m1,hl⟩
 have h1:=hf.kd
 have h2:=hf.sr
 refine CW.rg (RL.fa fa_78_0 rfl (RL.lq isAgg3 rfl ?_))
 refine RL.q rfl ?_
 apply RL.orB (d:=8) (dp:=12) (l':=(Sq.of (rg 8 17))) rfl (sK [1,2,3] rfl)
 ·
  intro hb4 K4
  refine RL.fa fa_78_0 rfl (RL.lq isAgg3 rfl ?_)
  refine RL.q rfl ?_
  exact K4 _ (.cons rfl (sK [1,2,3] rfl))
 ·
  intro hb4 K4
  refine RL.q rfl (RL.q rfl ?_)
  exact K4 _ (.cons rfl (sK [1,2,3] rfl))
 refine RL.p rfl ?_
 apply RL.orB (d:=13) (dp:=17) (l':=(Sq.of [13,14,15,16,17])) rfl (sK [1,2,3] rfl)
 ·
  intro hb9 K9
  refine RL.fa fa_78_1 rfl (RL.lq isAgg3 rfl ?_)
  refine RL.q rfl ?_
  exact K9 _ (.cons rfl (sK [1,2,3] rfl))
 ·
  intro hb9 K9
  refine RL.q rfl (RL.q rfl ?_)
  exact K9 _ (.cons rfl (sK [1,2,3] rfl))
 refine RL.p rfl ?_
 apply RL.orB (d:=18) (dp:=22) (l':=(Sq.of [])) rfl (sK [1,2,3] rfl)
 ·
  intro hb14 K14
  refine RL.fa fa_78_1 rfl (RL.lq isAgg3 rfl ?_)
  refine RL.q rfl ?_
  exact K14 _ (.cons rfl (sK [1,2,3] rfl))
 ·
  intro hb14 K14
  refine RL.q rfl (RL.q rfl ?_)
  exact K14 _ (.cons rfl (sK [1,2,3] rfl))
 refine RL.ns (CW.cF rfl (zp) ?_)
 refine CW.sn (CW.ss (CW.sr (RL.fa fa_78_4 rfl (RL.lq isAgg74 rfl ?_))))
 refine RL.lenS runUnderlying74 rfl (RL.pn rfl (CW.cF rfl (zp) ?_))
 refine CW.sn (CW.ok [1] rfl (CW.ss (CW.rD (Sq.of [0,2,3,1,4,5]) [1,4] [4] [0,2,3,5] mixed zi ?_)))
 refine RL.loadSTq isAgg78 sizeOf78 rfl ?_
 refine RL.fa fa_78_5 rfl (RL.sliceAll runUnderlying76 sizeOf5 zc rfl ?_)
 refine RL.tt (d:=30) (v':= .slice (some ⟨b1,0+5,none⟩) f.tag.length f.tag.length) rfl (by rw [h16]) ?_
 refine RL.cc (rsigned_any f p c _ hf.ok rfl zb) call97 rfl pE (.inI mB .nil) (.inl rfl) ?_
 rintro _ _ _ ⟨ob1,cap1,rfl,rfl,rfl,ho1⟩
 refine RL.appendA el_74 rfl za (Src.sls mT) (one_map one8 _) zd zd ?_
 intro ob2 cap2 ho2
 refine RL.pn rfl (CW.ok [4] rfl (CW.ss ?_))
 have hst:14+f.b.length+f.tag.length=(f.signed++f.tag).length:=by rw [List.length_append,hsl]
 have hs2:(f.signed++f.tag).length=30+f.b.length:=by omega
 rw [own_is (n':=(f.signed++f.tag).length) (xs':=bytes (f.signed++f.tag)) hst zm,hst]
 have hpl:=frB_len h16
 have hcl:=crcPut_len (BitVec.ofInt 8 ((f.signed++f.tag).length:Int)::(f.signed++f.tag))
 rw [List.length_cons] at hcl
 refine CW.rn (ef:= [0,4,6,7,8]) (bk:= [6,8]) (RL.buildOwn [_,_] runUnderlying74 sizeOf5 zeroValue5 rfl rfl zc zc rfl zc rfl ?_)
 intro b2
 refine RL.p rfl (RL.lenS runUnderlying74 rfl (RL.lowest runUnderlying3 runUnderlying5 rfl (RL.buildOwn [_] runUnderlying74 sizeOf5 zeroValue5 rfl rfl zc zc rfl zc rfl ?_)))
 intro b3
 refine RL.p rfl (RL.appendq el_74 rfl ?_)
 intro ob3 cap3 ho3
 refine RL.cc (rput11 (ob3.map fun b=> ⟨b,0,none⟩) cap3 (1+(f.signed++f.tag).length) (BitVec.ofInt 8 ((f.signed++f.tag).length:Int)::(f.signed++f.tag)) (by rw [List.length_cons];omega) zb) call114 rfl pE (Lend.ownE mQ rfl rfl .nil) (.inl rfl) ?_
 rintro _ _ _ ⟨ob4,cap4,rfl,rfl,rfl,ho4⟩
 refine RL.appendq el_74 rfl ?_
 intro ob5 cap5 ho5
 refine RL.qn rfl (CW.ok [2,3] rfl (CW.rr ?_))
 have hfin:2+(crcPut (BitVec.ofInt 8 ((f.signed++f.tag).length:Int)::(f.signed++f.tag))).length=(frB f).length:=by omega
 rw [own_is (n':=(frB f).length) (xs':=bytes (frB f)) hfin (show ([Value.int .u8 165,Value.int .u8 90]++bytes (crcPut (BitVec.ofInt 8 ((f.signed++f.tag).length:Int)::(f.signed++f.tag))):List Value)=bytes (frB f) from rfl),hfin]
 exact RQ.pp (res2 rfl rfl rfl) (.keep (Split.nn _)) ⟨_,_,rfl,rfl,rfl⟩
theorem wrapV_u64 {n:Int} (h0:0≤n) (h1:n≤18446744073709551615):Value.int .u64 (IntKind.u64.wrap n)= .int .u64 n:=by
 congr 1
 simp [IntKind.wrap,IntKind.bits,IntKind.signed]
 omega
theorem byte_rdI {J:List It} {b n j:Nat} {l:List B8} {x:B8} (hm:sls (some ⟨b,0,none⟩) 1 n (bytes l)∈J) (hx:l[j]? =some x):RdI J ⟨b,0+j*1,none⟩ (.int .u8 (x.toNat:Int)):=⟨fun H=> by
 have h:=Rds.rd (I:=J) (H:=H) (p:=⟨b,0,none⟩) (j:=j) (v:= .int .u8 (x.toNat:Int)) (Rds.sls hm) (by rw [List.getElem?_map,hx];rfl)
 rw [add_none] at h
 rwa [show 0+j*1=0+j by omega]⟩
theorem rget13 (b c n:Nat) (l:List B8) (hn:l.length=n) (at_ k:Nat) (ha:at_+k≤n) (hk:k≤8) (hb:n≤1000000):Spc prog 69 #[.slice (some ⟨b,0,none⟩) n c, .int .i64 (at_:Int), .int .i64 (k:Int)] [sls (some ⟨b,0,none⟩) 1 n (bytes l)] [] (Is (.int .u64 (numB ((l.drop at_).take k):Int))):=by
 subst hn
 refine Spc.en func69 rfl rfl (fun w0 hw0=> ?_)
 refine CW.sr (RL.pn rfl (CW.sr (RL.pn rfl (CW.ss (CW.sr (RL.p rfl ?_))))))
 refine RL.ns (CW.bb ?_)
 refine CW.gI (fun J hJ=> ?_)
 have m2:sls (some ⟨b,0,none⟩) 1 l.length (bytes l)∈J:=hJ _ zm
 clear hJ
 refine CW.loop (γ:=Nat) (fun i=> i≤k) (fun i=> [(0, .slice (some ⟨b,0,none⟩) l.length c),(1, .int .i64 (at_:Int)),(2, .int .i64 (k:Int)),(7, .int .u64 (numB ((l.drop at_).take i):Int)),(8, .int .i64 (i:Int))]) (fun _=> J) (fun _=> []) (fun i=> k - i) 0 (Nat.zero_le _) sE wE ?_
 intro i hi
 refine CW.ss (CW.sr (RL.p rfl (RL.qn rfl ?_)))
 refine CW.cd rfl (fun hlt=> ?_) (fun hlt=> ?_)
 ·
  have hlt:i < k:=by simp at hlt;omega
  have hx:=List.getElem?_eq_getElem (show at_+i < l.length by omega)
  generalize l[at_+i]=x at hx
  have hx':(l.drop at_)[i]? =some x:=by rw [List.getElem?_drop];exact hx
  have htk:numB ((l.drop at_).take (i+1))=256*numB ((l.drop at_).take i)+x.toNat:=by
   rw [List.take_add_one,hx'];exact numB_snoc _ _
  have hlt2:=numB_lt ((l.drop at_).take i)
  have hll:((l.drop at_).take i).length=i:=by rw [List.length_take,List.length_drop];omega
  rw [hll] at hlt2
  have h7:256^i≤256^7:=Nat.pow_le_pow_right zc zb
  have hxb:=x.isLt
  have hbd:numB ((l.drop at_).take i) < 72057594037927936:=by omega
  have f1:RdI J ⟨b,0+(at_+i)*1,none⟩ (.int .u8 (x.toNat:Int)):=byte_rdI m2 hx
  refine CW.sn (CW.ss (CW.bb (CW.rg (RL.p rfl (RL.bx rfl (wrapV_u64 zb zb) ?_)))))
  refine RL.q rfl (RL.p rfl (RL.bx rfl (wrapV_i64 zb zb) ?_))
  refine RL.tt (d:=19) (v':= .int .i64 ((at_+i:Nat):Int)) rfl (by congr 1) ?_
  refine RL.ix (j:=at_+i) runUnderlying74 sizeOf5 rfl zb ?_
  refine RL.lq isAgg5 rfl ?_
  refine RL.conv runUnderlying5 runUnderlying32 rfl (RL.tt (d:=22) rfl (wrapV_u64 zb zb) ?_)
  refine RL.bx rfl (wrapV_u64 zb zb) ?_
  refine RL.p rfl (RL.ee (NQ.bb (NQ.ss (CW.ok [0,1,2,7,8] rfl (CW.rg (RL.p rfl (RL.bx rfl (wrapV_i64 zb zb) ?_)))))))
  refine RL.p rfl (RL.ee ?_)
  refine NQ.rr (g:=i) (i+1) hlt (by show k - (i+1) < k - i;omega) (.cons rfl (.cons rfl (.cons rfl (.cons (by rw [htk];show some (Value.int .u64 _)=some (Value.int .u64 _);congr 2) sE)))) wE
 ·
  refine CW.xx (XQ.ss (XQ.ss (XQ.hh (NQ.ss (CW.ok [7] rfl (CW.s1 rfl (CW.rr ?_)))))))
  have hin:i=k:=by simp at hlt;omega
  subst hin
  exact RQ.pp (res1 rfl rfl) (Split.nn _) ⟨rfl,rfl,rfl⟩
def crcT (f:Fr):List B8:=crcS (crcOf (BitVec.ofInt 8 ((f.signed++f.tag).length:Int)::(f.signed++f.tag)))
theorem frB_eq (f:Fr):frB f= [165#8,90#8,BitVec.ofInt 8 ((f.signed++f.tag).length:Int),BitVec.ofInt 8 f.kd,BitVec.ofInt 8 f.sr]++(beN 4 f.ep++(beN 8 f.ct++(f.b++(f.tag++crcT f)))):=by
 simp [frB,crcPut,crcT,Fr.signed]
theorem byteN {n:Int} (h:0≤n∧n≤255):((BitVec.ofInt 8 n).toNat:Int)=n:=by
 rw [BitVec.toNat_ofInt];omega
theorem frB_ep {f:Fr}:((frB f).drop 5).take 4=beN 4 f.ep:=by
 rw [frB_eq]
 show List.take 4 (beN 4 f.ep++(beN 8 f.ct++(f.b++(f.tag++crcT f))))=_
 rw [List.take_left' (beN_length _ _)]
theorem frB_ct {f:Fr}:((frB f).drop 9).take 8=beN 8 f.ct:=by
 rw [frB_eq,←List.append_assoc,List.drop_left' (by simp [beN_length]),List.take_left' (beN_length _ _)]
theorem frB_body {f:Fr}:((frB f).drop 17).take f.b.length=f.b:=by
 rw [frB_eq,←List.append_assoc,←List.append_assoc,List.drop_left' (by simp [beN_length]),List.take_left' rfl]
theorem frB_tag {f:Fr} (h:f.tag.length=16) {i:Nat} (hi:i < 16):(frB f)[17+f.b.length+i]? =f.tag[i]? :=by
 rw [frB_eq,←List.append_assoc,←List.append_assoc,←List.append_assoc,List.getElem?_append_right (by simp [beN_length];omega),List.getElem?_append_left (by simp [beN_length];omega)]
 congr 1
 simp [beN_length]
 omega
theorem frB_crc (f:Fr):(frB f).drop 2=crcPut (BitVec.ofInt 8 ((f.signed++f.tag).length:Int)::(f.signed++f.tag)):=rfl
theorem resW3 {P:Program} {w0:World} {S:List Nat} {N:Nat} {E:Env} {I H:List It} {fn:Func} {tt uu xx:Tmp} {T C:TypeId} {b nn:Nat} {vs:List Value} {v2 v3:Value} (hf:fn.results= #[.cell tt T, .tmp uu, .tmp xx]) (ht:E.get tt=some (.pointer (some ⟨b,0,none⟩))) (hu:E.get uu=some v2) (hx:E.get xx=some v3) (hag:∀w,(isAgg T).run P w= .ok true w) (hs:∀w,(sizeOf T).run P w= .ok nn w) (hm:PK.cel b vs C∈H) (hl:vs.length=nn):
  ∀a w,Ag N a E→Cls w0 S I H w→(results fn a.tmps).run P w= .ok (.tuple #[.agg vs.toArray,v2,v3]) w:=fun a w ha hC=> by
 have h1:=run_isAggT (P:=P) hag (by rw [hl];exact hs) (Rds.all (I:=I) hm w hC.s)
 simp [results,hf,ha.t tt _ ht,ha.t uu _ hu,ha.t xx _ hx,asAddr,h1]
def ReadR (f:Fr):Value→List It→List It→Prop:=fun v I' H'=> ∃ob cap,v= .tuple #[.agg (f.cells (slO ob f.b.length cap)).toArray, .int .i64 (37+f.b.length:Int), .int .i64 0]∧I'= []∧H'= [own ob cap 5 1 f.b.length (bytes f.b)]
theorem wrapV_u32 {n:Int} (h0:0≤n) (h1:n≤4294967295):Value.int .u32 (IntKind.u32.wrap n)= .int .u32 n:=by
 congr 1
 simp [IntKind.wrap,IntKind.bits,IntKind.signed]
 omega
def Fr.upto (f:Fr) (i:Nat):Fr:= { f with tag:=f.tag.take i++List.replicate (16 - i) 0#8 }
theorem upto_len {f:Fr} (h:f.tag.length=16) {i:Nat} (hi:i≤16) (sl:Value):((f.upto i).cells sl).length=21:=fr_len (by simp [Fr.upto,h];omega) sl
theorem upto_sl {f:Fr} (sl sl':Value):spl ((f.upto 0).cells sl) (0+4) [sl']=(f.upto 0).cells sl':=rfl
theorem upto_all {f:Fr} (h:f.tag.length=16):f.upto 16=f:=by
 have:f.tag.take 16=f.tag:=List.take_of_length_le zb
 simp [Fr.upto,this]
theorem upto_step {f:Fr} (h:f.tag.length=16) {i:Nat} {x:B8} (hi:i < 16) (hx:f.tag[i]? =some x) (sl:Value):spl ((f.upto i).cells sl) (0+5+i*1) [.int .u8 (x.toNat:Int)]=(f.upto (i+1)).cells sl:=by
 have e:∀j,(f.upto j).cells sl= [.int .i64 f.kd, .int .i64 f.sr, .int .u32 (f.ep:Int), .int .u64 (f.ct:Int),sl]++(bytes (f.tag.take j)++List.replicate (16 - j) (U8 0#8)):=fun j=> by simp [Fr.upto,Fr.cells]
 rw [e,e,←mk_step hi h hx]
 rw [show 0+5+i*1=5+(0+i*1) by omega]
 exact spl_app (k:=0+i*1) [.int .i64 f.kd, .int .i64 f.sr, .int .u32 (f.ep:Int), .int .u64 (f.ct:Int),sl]
theorem rread_any (b c n:Nat) (f:Fr) (hf:f.Fit) (hn:(frB f).length=n) (hc:n≤c):Spc prog 32 #[.slice (some ⟨b,0,none⟩) n c] [sls (some ⟨b,0,none⟩) 1 n (bytes (frB f))] [] (ReadR f):=by
 subst hn
 have h16:=hf.ok.tag
 have hpl:=frB_len h16
 have hbl:=hf.b
 have hep:=hf.ok.ep
 have hct:=hf.ok.ct
 have hst:(f.signed++f.tag).length=30+f.b.length:=by rw [List.length_append,signed_len,h16];omega
 refine Spc.en func32 rfl rfl (fun w0 hw0=> ?_)
 refine CW.sg [0] [] (RL.al zeroValue78 rfl ?_)
 intro b1
 refine RL.qn rfl (CW.s2 (CW.sub (Lies.dropB (p:=some ⟨b,0,none⟩) (c:=c) (lo:=2) (m:=frB f) zb hc) (List.Mem.head _) ?_))
 refine CW.gI (fun J hJ=> ?_)
 have mC:=hJ _ (List.Mem.head _)
 rw [frB_crc] at mC
 have m2:sls (some ⟨b,0,none⟩) 1 (frB f).length (bytes (frB f))∈J:=hJ _ (List.Mem.tail _ (List.Mem.head _))
 clear hJ
 have g0:RdI J ⟨b,0+0*1,none⟩ (.int .u8 165):=byte_rdI (j:=0) (x:=165#8) m2 (by rw [frB_eq];rfl)
 have g1:RdI J ⟨b,0+1*1,none⟩ (.int .u8 90):=byte_rdI (j:=1) (x:=90#8) m2 (by rw [frB_eq];rfl)
 have g2:RdI J ⟨b,0+2*1,none⟩ (.int .u8 (30+f.b.length:Int)):=by
  have:=byte_rdI (j:=2) m2 (x:=BitVec.ofInt 8 ((f.signed++f.tag).length:Int)) (by rw [frB_eq];rfl)
  rwa [byteN zb,show ((f.signed++f.tag).length:Int)=30+f.b.length by omega] at this
 have g3:RdI J ⟨b,0+3*1,none⟩ (.int .u8 f.kd):=by
  have:=byte_rdI (j:=3) m2 (x:=BitVec.ofInt 8 f.kd) (by rw [frB_eq];rfl)
  rwa [byteN hf.kd] at this
 have g4:RdI J ⟨b,0+4*1,none⟩ (.int .u8 f.sr):=by
  have:=byte_rdI (j:=4) m2 (x:=BitVec.ofInt 8 f.sr) (by rw [frB_eq];rfl)
  rwa [byteN hf.sr] at this
 have hk:=hf.kd
 have hs:=hf.sr
 have hcl:(crcPut (BitVec.ofInt 8 ((f.signed++f.tag).length:Int)::(f.signed++f.tag))).length=(frB f).length - 2:=by rw [←frB_crc,List.length_drop]
 rw [hcl] at mC
 have hg5:=rget13 b c _ (frB f) rfl 5 4 zb zc zb
 rw [frB_ep,num_beN,Nat.mod_eq_of_lt (show f.ep < 256^4 by omega)] at hg5
 have hg9:=rget13 b c _ (frB f) rfl 9 8 zb zc zb
 rw [frB_ct,num_beN,Nat.mod_eq_of_lt (show f.ct < 256^8 by omega)] at hg9
 have hsrc:∀H,Src J H (if c=17 then (some ⟨b,0,none⟩:Option Addr) else (some (⟨b,0,none⟩:Addr)).map (·.add (17*1))) (17+f.b.length - 17) 1 (bytes f.b):=fun H=> by
  have:=Src.sub (lo:=17) (hi:=17+f.b.length) (cap:=c) (Src.sls (H:=H) m2) zb zb zb
  rwa [show ((bytes (frB f)).drop (17*1)).take ((17+f.b.length - 17)*1)=bytes (((frB f).drop 17).take f.b.length) by
   rw [show (17+f.b.length - 17)*1=f.b.length by omega];simp [List.map_take,List.map_drop],frB_body] at this
 refine CW.rg (RL.p rfl (RL.lenS runUnderlying74 rfl (RL.q rfl ?_)))
 apply RL.andB (d:=11) (dp:=16) (l':=(Sq.of (rg 9 36))) rfl (sK [0,2,3,4] rfl)
 ·
  intro hb4 K4
  refine RL.p rfl (RL.ix (j:=0) runUnderlying74 sizeOf5 rfl zb ?_)
  refine RL.lq isAgg5 rfl ?_
  refine RL.q rfl ?_
  exact K4 _ (.cons rfl (sK [0,2,3,4] rfl))
 ·
  intro hb4 K4
  refine RL.q rfl (RL.q rfl (RL.p rfl ?_))
  exact K4 _ (.cons rfl (sK [0,2,3,4] rfl))
 refine RL.p rfl ?_
 apply RL.orB (d:=17) (dp:=27) (l':=(Sq.of (rg 20 36))) rfl (sK [0,2,3,4] rfl)
 ·
  intro hb10 K10
  refine RL.p rfl (RL.lenS runUnderlying74 rfl (RL.q rfl ?_))
  apply RL.andB (d:=21) (dp:=26) (l':=(Sq.of (rg 19 36))) rfl (sK [0,2,3,4,17] rfl)
  ·
   intro hb14 K14
   refine RL.p rfl (RL.ix (j:=1) runUnderlying74 sizeOf5 rfl zb ?_)
   refine RL.lq isAgg5 rfl ?_
   refine RL.q rfl ?_
   exact K14 _ (.cons rfl (sK [0,2,3,4,17] rfl))
  ·
   intro hb14 K14
   refine RL.q rfl (RL.q rfl (RL.p rfl ?_))
   exact K14 _ (.cons rfl (sK [0,2,3,4,17] rfl))
  refine RL.p rfl ?_
  exact K10 _ (.cons rfl (sK [0,2,3,4] rfl))
 ·
  intro hb10 K10
  refine RL.q rfl (RL.q rfl (RL.q rfl (RL.q rfl (RL.q rfl ?_))))
  exact K10 _ (.cons rfl (sK [0,2,3,4] rfl))
 refine RL.p rfl ?_
 apply RL.orB (d:=28) (dp:=44) (l':=(Sq.of [])) rfl (sK [0,2,3,4] rfl)
 ·
  intro hb21 K21
  refine RL.p rfl (RL.lenS runUnderlying74 rfl (RL.q rfl ?_))
  apply RL.andB (d:=32) (dp:=43) (l':=(Sq.of [36])) rfl (sK [0,2,3,4,28] rfl)
  ·
   intro hb25 K25
   refine RL.p rfl (RL.ix (j:=2) runUnderlying74 sizeOf5 rfl zb ?_)
   refine RL.lq isAgg5 rfl ?_
   refine RL.q rfl ?_
   apply RL.orB (d:=37) (dp:=42) (l':=(Sq.of [35,36])) rfl (sK [0,2,3,4,28,32] rfl)
   ·
    intro hb30 K30
    refine RL.p rfl (RL.ix (j:=2) runUnderlying74 sizeOf5 rfl zb ?_)
    refine RL.lq isAgg5 rfl ?_
    refine RL.q rfl ?_
    exact K30 _ (.cons rfl (sK [0,2,3,4,28,32] rfl))
   ·
    intro hb30 K30
    refine RL.q rfl (RL.q rfl (RL.p rfl ?_))
    exact K30 _ (.cons rfl (sK [0,2,3,4,28,32] rfl))
   refine RL.p rfl ?_
   exact K25 _ (.cons rfl (sK [0,2,3,4,28] rfl))
  ·
   intro hb25 K25
   refine RL.q rfl (RL.q rfl (RL.q rfl (RL.q rfl (RL.q rfl (RL.p rfl ?_)))))
   exact K25 _ (.cons rfl (sK [0,2,3,4,28] rfl))
  refine RL.p rfl ?_
  exact K21 _ (.cons rfl (sK [0,2,3,4] rfl))
 ·
  intro hb21 K21
  refine RL.q rfl (RL.q rfl (RL.q rfl (RL.q rfl (RL.q rfl (RL.q rfl (RL.q rfl ?_))))))
  refine RL.q rfl ?_
  exact K21 _ (.cons rfl (sK [0,2,3,4] rfl))
 refine RL.ns (CW.cF rfl (zp) ?_)
 refine CW.sn (CW.ss (CW.sr (RL.p rfl (RL.lenS runUnderlying74 rfl (RL.q rfl ?_)))))
 apply RL.orB (d:=49) (dp:=58) (l':=(Sq.of [])) rfl (sK [0,2,3,4] rfl)
 ·
  intro hb4 K4
  refine RL.p rfl (RL.lenS runUnderlying74 rfl (RL.p rfl (RL.ix (j:=2) runUnderlying74 sizeOf5 rfl zb ?_)))
  refine RL.lq isAgg5 rfl ?_
  refine RL.conv runUnderlying5 runUnderlying3 rfl (RL.tt (d:=55) rfl (wrapV_i64 zb zb) ?_)
  refine RL.bx rfl (wrapV_i64 zb zb) ?_
  refine RL.q rfl ?_
  exact K4 _ (.cons rfl (sK [0,2,3,4] rfl))
 ·
  intro hb4 K4
  refine RL.q rfl (RL.q rfl (RL.q rfl (RL.q rfl (RL.p rfl ?_))))
  exact K4 _ (.cons rfl (sK [0,2,3,4] rfl))
 refine RL.ns (CW.cF rfl (zp) ?_)
 refine CW.sn (CW.sr (RL.p rfl (RL.ix (j:=2) runUnderlying74 sizeOf5 rfl zb ?_)))
 refine RL.lq isAgg5 rfl ?_
 refine RL.conv runUnderlying5 runUnderlying3 rfl (RL.tt (d:=63) rfl (wrapV_i64 zb zb) ?_)
 refine RL.pn rfl (CW.ok [0,2,5] rfl (CW.ss (CW.sr (RL.q rfl (RL.bx rfl (wrapV_i64 zb zb) ?_)))))
 refine RL.tt (d:=66) (v':= .int .i64 ((frB f).length:Int)) rfl (by congr 1;omega) ?_
 refine RL.slice (lo:=2) (hi:=(frB f).length) runUnderlying74 sizeOf5 rfl rfl rfl zb zb ?_
 refine RL.vv (rright11 (if c=2 then some ⟨b,0,none⟩ else (some (⟨b,0,none⟩:Addr)).map (·.add (2*1))) (c - 2) ((frB f).length - 2) _ hcl zb zb) call68 rfl (.inI mC .nil) ?_
 refine RL.pn rfl (CW.cF rfl (rfl) (CW.sn (CW.ok [0,2,5] rfl (CW.ss (CW.rD (Sq.of (rg 0 15)) [14,15] [15] (rg 0 13) mixed zi ?_)))))
 refine RL.p rfl (RL.ix (j:=3) runUnderlying74 sizeOf5 rfl zb ?_)
 refine RL.lT isAgg5 rfl ?_
 refine RL.conv runUnderlying5 runUnderlying3 rfl (RL.tt (d:=74) rfl (wrapV_i64 zb zb) ?_)
 refine RL.p rfl (RL.ix (j:=4) runUnderlying74 sizeOf5 rfl zb ?_)
 refine RL.lT isAgg5 rfl ?_
 refine RL.conv runUnderlying5 runUnderlying3 rfl (RL.tt (d:=78) rfl (wrapV_i64 zb zb) ?_)
 refine RL.p rfl (RL.callvT (hg5) call69 rfl rfl (.inI m2 .nil) (RL.conv runUnderlying32 runUnderlying61 rfl (RL.tt (d:=81) rfl (wrapV_u32 zb zb) ?_)))
 refine RL.p rfl (RL.callvT (hg9) call69 rfl rfl (.inI m2 .nil) (RL.bS ((f.upto 0).cells (.slice none 0 0)) zeroValue78 pl_78 rfl (RL.al zeroValue78 rfl ?_)))
 intro b2
 refine RL.sW sizeOf78 rfl (ones_fr _ rfl) uE (upto_len h16 zc _) rfl ?_
 refine RL.ns (CW.ok [0,2,5,6] rfl (CW.sg [0,5,7] [5,7] (RL.buildOwn [] runUnderlying74 sizeOf5 zeroValue5 rfl rfl zc zc rfl zc rfl ?_)))
 intro oq
 refine RL.q rfl (RL.bx rfl (wrapV_i64 zb zb) ?_)
 refine RL.tt (d:=88) (v':= .int .i64 ((17+f.b.length:Nat):Int)) rfl (by congr 1;omega) ?_
 refine RL.slice (lo:=17) (hi:=17+f.b.length) runUnderlying74 sizeOf5 rfl rfl rfl zb zb ?_
 refine RL.appendA el_74 rfl za (hsrc _) (one_map one8 _) zd zd ?_
 intro ob1 cap1 ho1
 refine RL.fa fa_78_4 rfl (RL.sX (vs:= [_]) (upto_sl _ _) sizeOf74 rfl rfl uE (by rw [upto_len h16 zc];show 0+4+1≤21;decide) ?_)
 refine RL.ns (CW.ok [0,2,5,6] rfl (CW.ss (CW.sr (RL.pn rfl (CW.bb ?_)))))
 rw [show 0+(17+f.b.length - 17)=f.b.length by omega,List.nil_append]
 refine CW.loop (γ:=Nat) (fun i=> i≤16) (fun i=> [(0, .slice (some ⟨b,0,none⟩) (frB f).length c),(2, .pointer (some ⟨b1,0,none⟩)),(5, .int .i64 (30+f.b.length:Int)),(6, .pointer (some ⟨b2,0,none⟩)),(7, .int .i64 (i:Int))]) (fun _=> J)
  (fun i=> [cel b2 ((f.upto i).cells (slO ob1 f.b.length cap1)) 78,own ob1 cap1 5 1 f.b.length (bytes f.b),cel b1 (fr0.cells (.slice none 0 0)) 78]) (fun i=> 16 - i) 0 (Nat.zero_le _) sE (fun w h=> h.rea (fun _ h=> by simpa using h) rE) ?_
 intro i hi
 refine CW.ss (CW.s1 rfl ?_)
 refine CW.cd rfl (fun hlt=> ?_) (fun hlt=> ?_)
 ·
  have hlt:i < 16:=by simp at hlt;omega
  have hx:=List.getElem?_eq_getElem (show i < f.tag.length by omega)
  generalize f.tag[i]=x at hx
  have hx2:(frB f)[17+f.b.length+i]? =some x:=by rw [frB_tag h16 hlt];exact hx
  have gx:RdI J ⟨b,0+(17+f.b.length+i)*1,none⟩ (.int .u8 (x.toNat:Int)):=byte_rdI m2 hx2
  refine CW.sn (CW.ss (CW.bb (CW.rn (ef:= [10]) (bk:= [10]) (RL.q rfl (RL.p rfl (RL.bx rfl (wrapV_i64 zb zb) ?_))))))
  refine RL.p rfl (RL.bx rfl (wrapV_i64 zb zb) ?_)
  refine RL.tt (d:=101) (v':= .int .i64 ((17+f.b.length+i:Nat):Int)) rfl (by congr 1;omega) ?_
  refine RL.ix (j:=17+f.b.length+i) runUnderlying74 sizeOf5 rfl zb ?_
  refine RL.lq isAgg5 rfl ?_
  refine RL.fa fa_78_5 rfl (RL.iA (j:=i) runUnderlying76 sizeOf5 rfl hlt (RL.sX (vs:= [_]) (upto_step h16 hlt hx _) sizeOf5 rfl rfl uE (by rw [upto_len h16 hi];show 0+5+i*1+1≤21;omega) ?_))
  refine RL.ee (NQ.bb (NQ.ss (CW.ok [0,2,5,6,7] rfl (CW.rg (RL.p rfl (RL.bx rfl (wrapV_i64 zb zb) ?_))))))
  refine RL.p rfl (RL.ee ?_)
  refine NQ.rr (g:=i) (i+1) hlt (by show 16 - (i+1) < 16 - i;omega) sE wE
 ·
  have hin:i=16:=by simp at hlt;omega
  subst hin
  rw [upto_all h16]
  have h21:=fun sl=> fr_len h16 sl
  refine CW.xx (XQ.ss (XQ.ss (XQ.hh (NQ.ss (CW.sg [3] [3] (RL.lW isAgg78 sizeOf78 rfl mQ (h21 _) ?_))))))
  refine RL.p rfl (RL.bx rfl (wrapV_i64 zb zb) ?_)
  refine RL.sW sizeOf78 rfl (ones_fr _ rfl) uE (h21 _) rfl ?_
  refine RL.qn rfl (CW.ok [2,3,4] rfl (CW.rr ?_))
  exact RQ.pp (resW3 rfl rfl rfl rfl isAgg78 sizeOf78 (List.Mem.tail _ (List.Mem.tail _ (List.Mem.head _))) (h21 _)) (.drop (.keep (.drop .nil))) ⟨ob1,cap1,by rw [show (7+(30+f.b.length):Int)=37+f.b.length by omega],rfl,rfl⟩
def Sch.bg (s:Sch) (t:Int):Int:=if t < s.st then 0 else (t - s.st).tdiv s.ln+1
def n32 (n:Int):Nat:=(min (max n 0) 4294967295).toNat
theorem n32_lt (n:Int):n32 n < 4294967296:=by unfold n32;omega
def Sch.atV (s:Sch) (t:Int):Value:=if s.Ok∧tickB t=true then .tuple #[.int .u32 (n32 (s.bg t):Int), .int .i64 0] else .tuple #[.int .u32 0, .int .i64 2]
def Sch.dueV (s:Sch) (t:Int):Value:=if s.Ok∧tickB t=true then .tuple #[.int .u32 (n32 (s.bg t - s.lg):Int), .int .i64 0] else .tuple #[.int .u32 0, .int .i64 2]
theorem at_ok {s:Sch} {t:Int} (h:s.Ok∧tickB t=true):s.atV t= .tuple #[.int .u32 (n32 (s.bg t):Int), .int .i64 0]:=if_pos h
theorem at_no {s:Sch} {t:Int} (h: ¬(s.Ok∧tickB t=true)):s.atV t= .tuple #[.int .u32 0, .int .i64 2]:=if_neg h
theorem tdiv_bd {a b:Int} (ha:0≤a) (hb:1≤b):0≤a.tdiv b∧a.tdiv b≤a:=by
 rw [Int.tdiv_eq_ediv_of_nonneg ha]
 exact ⟨Int.ediv_nonneg ha zb,Int.ediv_le_self _ ha⟩
theorem bg_bd {s:Sch} {t:Int} (hs:s.Ok) (ht:tickB t=true):0≤s.bg t∧s.bg t≤1099511627777:=by
 unfold Sch.Ok at hs
 simp [tickB] at ht
 unfold Sch.bg
 split
 ·omega
 ·have:=tdiv_bd (a:=t - s.st) (b:=s.ln) zb zb
  omega
theorem sch_no {s:Sch} {t:Int} (h: ¬(s.Ok∧tickB t=true)):s.e=2∨(s.e=0∧tickB t=false):=by
 by_cases hs:s.Ok
 ·right;exact ⟨if_pos hs,by simpa using fun x=> h ⟨hs,x⟩⟩
 ·left;exact if_neg hs
theorem snum_any (n:Int):Spc prog 104 #[.int .i64 n] [] [] (Is (.int .u32 (n32 n:Int))):=by
 refine Spc.en func104 rfl rfl (fun w0 hw0=> ?_)
 refine CW.sr (RL.pn rfl (CW.sr (RL.p rfl (RL.max rfl (RL.min rfl (RL.conv runUnderlying3 runUnderlying61 rfl (RL.tt (d:=6) (v':= .int .u32 (n32 n:Int)) rfl (by rw [wrapV_u32 zb zb];congr 1;unfold n32;omega) ?_)))))))
 refine RL.pn rfl (CW.rr ?_)
 exact RQ.pp (res1 rfl rfl) (Split.nn _) ⟨rfl,rfl,rfl⟩
theorem sbegun_any (s:Sch) (t:Int) (hs:s.Ok) (ht:tickB t=true):Spc prog 105 #[.agg #[.int .i64 s.st, .int .i64 s.ln, .int .i64 s.lg, .int .i64 s.of], .int .i64 t] [] [] (Is (.int .i64 (s.bg t))):=by
 have hs':=hs
 have ht':=ht
 unfold Sch.Ok at hs'
 simp [tickB] at ht'
 refine Spc.en func105 rfl rfl (fun w0 hw0=> ?_)
 refine CW.sg [0] [] (RL.box rfl ?_)
 intro b1
 refine RL.pn rfl (CW.ss (CW.sr (RL.p rfl (RL.fa fa_29_0 rfl (RL.lq isAgg3 rfl ?_)))))
 refine RL.pn rfl ?_
 refine CW.cd rfl (fun hlt=> ?_) (fun hlt=> ?_)
 ·
  refine CW.sr (RL.pn rfl (CW.rr (RQ.ss ?_)))
  have hlt:t < s.st:=by simpa using hlt
  exact RQ.pp (res1 rfl rfl) (Split.nn _) ⟨by rw [Sch.bg,if_pos hlt],rfl,rfl⟩
 ·
  have hlt: ¬t < s.st:=by simpa using hlt
  have hq:=tdiv_bd (a:=t - s.st) (b:=s.ln) zb zb
  refine CW.sn (CW.ok [1,2] rfl (CW.sr (RL.p rfl (RL.fa fa_29_0 rfl (RL.lq isAgg3 rfl ?_)))))
  refine RL.bx rfl (wrapV_i64 zb zb) ?_
  refine RL.fa fa_29_1 rfl (RL.lq isAgg3 rfl ?_)
  refine RL.quoX (v':= .int .i64 ((t - s.st).tdiv s.ln)) rfl zb (wrapV_i64 zb zb) ?_
  refine RL.bx rfl (wrapV_i64 zb zb) ?_
  refine RL.pn rfl (CW.ok [4] rfl (CW.rr ?_))
  exact RQ.pp (res1 rfl rfl) (Split.nn _) ⟨by rw [Sch.bg,if_neg hlt],rfl,rfl⟩
theorem sat_any (s:Sch) (t:Int):Spc prog 59 #[.agg #[.int .i64 s.st, .int .i64 s.ln, .int .i64 s.lg, .int .i64 s.of], .int .i64 t] [] [] (Is (s.atV t)):=by
 by_cases hok:s.Ok∧tickB t=true
 ·have he:s.e=0:=if_pos hok.1
  rw [at_ok hok]
  refine Spc.en func59 rfl rfl (fun w0 hw0=> ?_)
  refine CW.sg [0] [] (RL.box rfl ?_)
  intro b1
  refine RL.qn rfl (CW.ss (CW.sr (RL.ld (vs:= [_,_,_,_]) isAgg29 sizeOf29 rfl zh ?_)))
  refine RL.vq (scheck s) call73 rfl ?_
  refine RL.q rfl ?_
  apply RL.orB (d:=9) (dp:=13) (l':=(Sq.of [])) rfl (sK [1,2,4,5] rfl)
  ·
   intro hb4 K4
   refine RL.p rfl (RL.vq (stick t) call103 rfl ?_)
   refine RL.q rfl ?_
   exact K4 _ (.cons rfl (sK [1,2,4,5] rfl))
  ·
   intro hb4 K4
   refine RL.q rfl (RL.q rfl ?_)
   exact K4 _ (.cons rfl (sK [1,2,4,5] rfl))
  refine RL.ns (CW.cF rfl ((by rw [he,hok.2];rfl)) ?_)
  refine CW.sn (CW.sr (RL.ld (vs:= [_,_,_,_]) isAgg29 sizeOf29 rfl zh ?_))
  refine RL.p rfl (RL.vq (sbegun_any s t hok.1 hok.2) call105 rfl ?_)
  refine RL.vq (snum_any (s.bg t)) call104 rfl ?_
  refine RL.qn rfl (CW.ok [4,5] rfl (CW.rr ?_))
  exact RQ.pp (res2 rfl rfl rfl) (Split.nn _) ⟨rfl,rfl,rfl⟩
 ·rw [at_no hok]
  refine Spc.en func59 rfl rfl (fun w0 hw0=> ?_)
  refine CW.sg [0] [] (RL.box rfl ?_)
  intro b1
  refine RL.qn rfl (CW.ss (CW.sr (RL.ld (vs:= [_,_,_,_]) isAgg29 sizeOf29 rfl zh ?_)))
  refine RL.vq (scheck s) call73 rfl ?_
  refine RL.q rfl ?_
  apply RL.orB (d:=9) (dp:=13) (l':=(Sq.of [])) rfl (sK [1,2,4,5] rfl)
  ·
   intro hb4 K4
   refine RL.p rfl (RL.vq (stick t) call103 rfl ?_)
   refine RL.q rfl ?_
   exact K4 _ (.cons rfl (sK [1,2,4,5] rfl))
  ·
   intro hb4 K4
   refine RL.q rfl (RL.q rfl ?_)
   exact K4 _ (.cons rfl (sK [1,2,4,5] rfl))
  refine RL.ns (CW.cT rfl ((by rcases sch_no hok with h | ⟨_,h⟩ <;> simp [h])) ?_)
  refine CW.s1 rfl (CW.rr (RQ.ss ?_))
  exact RQ.pp (res2 rfl rfl rfl) (Split.nn _) ⟨rfl,rfl,rfl⟩
theorem sdue_any (s:Sch) (t:Int):Spc prog 63 #[.agg #[.int .i64 s.st, .int .i64 s.ln, .int .i64 s.lg, .int .i64 s.of], .int .i64 t] [] [] (Is (s.dueV t)):=by
 have hat:=sat_any s t
 by_cases hok:s.Ok∧tickB t=true
 ·rw [at_ok hok] at hat
  have hb:=bg_bd hok.1 hok.2
  have hs':=hok.1
  unfold Sch.Ok at hs'
  refine Spc.en func63 rfl rfl (fun w0 hw0=> ?_)
  refine CW.sg [0] [] (RL.box rfl ?_)
  intro b1
  refine RL.qn rfl (CW.ss (CW.sr (RL.ld (vs:= [_,_,_,_]) isAgg29 sizeOf29 rfl zh ?_)))
  refine RL.p rfl (RL.vq (hat) call59 rfl ?_)
  refine RL.q rfl (RL.p rfl (RL.qn rfl (CW.ok [1,2,4,5,7] rfl (CW.s1 rfl ?_))))
  refine CW.cF rfl (rfl) (CW.sn (CW.ss (CW.rD (Sq.of (rg 0 8)) [] [] [1,3,5,7,8] mixed zi ?_)))
  refine RL.ld (vs:= [_,_,_,_]) isAgg29 sizeOf29 rfl zh ?_
  refine RL.p rfl (RL.vq (sbegun_any s t hok.1 hok.2) call105 rfl ?_)
  refine RL.fa fa_29_2 rfl (RL.lq isAgg3 rfl ?_)
  refine RL.bx rfl (wrapV_i64 zb zb) ?_
  refine RL.vq (snum_any (s.bg t - s.lg)) call104 rfl ?_
  refine RL.qn rfl (CW.ok [4,5] rfl (CW.rr ?_))
  exact RQ.pp (res2 rfl rfl rfl) (Split.nn _) ⟨by rw [Sch.dueV,if_pos hok],rfl,rfl⟩
 ·rw [at_no hok] at hat
  refine Spc.en func63 rfl rfl (fun w0 hw0=> ?_)
  refine CW.sg [0] [] (RL.box rfl ?_)
  intro b1
  refine RL.qn rfl (CW.ss (CW.sr (RL.ld (vs:= [_,_,_,_]) isAgg29 sizeOf29 rfl zh ?_)))
  refine RL.p rfl (RL.vq (hat) call59 rfl ?_)
  refine RL.q rfl (RL.p rfl (RL.qn rfl (CW.ok [1,2,4,5,7] rfl (CW.s1 rfl ?_))))
  refine CW.cT rfl (rfl) (CW.sr (RL.p rfl (RL.qn rfl (CW.rr (RQ.ss ?_)))))
  exact RQ.pp (res2 rfl rfl rfl) (Split.nn _) ⟨by rw [Sch.dueV,if_neg hok];rfl,rfl,rfl⟩
end Go.Proofs.YtkineolcmdecjaaGreat
