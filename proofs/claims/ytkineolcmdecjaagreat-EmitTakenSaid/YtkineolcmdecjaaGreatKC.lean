import Derived.Test.YtkineolcmdecjaaGreatKA
import Derived.Test.YtkineolcmdecjaaGreatKB
namespace Go.Proofs.YtkineolcmdecjaaGreat
open Go.PK
open Tryz
theorem nat_step {l:List B8} {o i:Nat} (h:o+i < l.length):nat l o (i+1)=256*nat l o i+(bat l (o+i)).toNat:=by
 have hl:i < (l.drop o).length:=by rw [List.length_drop];omega
 unfold nat
 rw [numB_take _ _ hl,List.getElem_drop]
 simp [bat,h]
theorem nat_wrap {l:List B8} {o i:Nat} (h:o+i < l.length) (h8:i < 8):IntKind.u64.wrap (IntKind.u64.wrap (256*(nat l o i:Int))+IntKind.u64.wrap ((bat l (o+i)).toNat:Int))=(nat l o (i+1):Int):=by
 have hb:=(bat l (o+i)).isLt
 have h1:=nat_lt l o i
 have h2:256^i≤256^7:=Nat.pow_le_pow_right zc zb
 rw [nat_step h]
 simp [IntKind.wrap,IntKind.bits,IntKind.signed];omega
theorem u32_nt (l:List B8) (o:Nat):IntKind.u32.wrap (nat l o 4:Int)=(nat l o 4:Int):=by
 have h:=nat_lt l o 4
 simp [IntKind.wrap,IntKind.bits,IntKind.signed];omega
theorem u16_nt (l:List B8) (o:Nat):IntKind.u16.wrap (nat l o 2:Int)=(nat l o 2:Int):=by
 have h:=nat_lt l o 2
 simp [IntKind.wrap,IntKind.bits,IntKind.signed];omega
theorem spl_length57 {r:Rdg} {o:Nat} {v:Value}:(spl (Rdg.cells r) o [v]).length=57:=by rw [spl_length];rfl
def r1 (l:List B8) (j:Nat):Rdg:= { rz 1 with g0:=if 0 < j then i32at l 0 else 0,g1:=if 1 < j then i32at l 4 else 0,g2:=if 2 < j then i32at l 8 else 0,a0:=if 0 < j then i32at l 12 else 0,a1:=if 1 < j then i32at l 16 else 0,a2:=if 2 < j then i32at l 20 else 0 }
theorem r1_step (l:List B8):∀ {j:Nat},j < 3→spl (spl (Rdg.cells (r1 l j)) (0+1+j*1) [.int .i32 (i32at l (4*j))]) (0+4+j*1) [.int .i32 (i32at l (12+4*j))]=Rdg.cells (r1 l (j+1))
 | 0,_=> rfl
 | 1,_=> rfl
 | 2,_=> rfl
def r6 (l:List B8) (j:Nat):Rdg:= { rz 6 with interval:=nat l 0 4,key:=fun q=> if q < j then bat l (4+q) else 0 }
theorem r6_step (l:List B8):∀ {j:Nat},j < 32→spl (Rdg.cells (r6 l j)) (0+16+j*1) [U8 (bat l (4+j))]=Rdg.cells (r6 l (j+1))
 | 0,_=> rfl
 | 1,_=> rfl
 | 2,_=> rfl
 | 3,_=> rfl
 | 4,_=> rfl
 | 5,_=> rfl
 | 6,_=> rfl
 | 7,_=> rfl
 | 8,_=> rfl
 | 9,_=> rfl
 | 10,_=> rfl
 | 11,_=> rfl
 | 12,_=> rfl
 | 13,_=> rfl
 | 14,_=> rfl
 | 15,_=> rfl
 | 16,_=> rfl
 | 17,_=> rfl
 | 18,_=> rfl
 | 19,_=> rfl
 | 20,_=> rfl
 | 21,_=> rfl
 | 22,_=> rfl
 | 23,_=> rfl
 | 24,_=> rfl
 | 25,_=> rfl
 | 26,_=> rfl
 | 27,_=> rfl
 | 28,_=> rfl
 | 29,_=> rfl
 | 30,_=> rfl
 | 31,_=> rfl
 | _+32,h=> by omega
theorem bat_v {l:List B8} {o:Nat} (h:o < l.length):(bytes l)[o*1]? =some (U8 (bat l o)):=by rw [Nat.mul_one,List.getElem?_map,bat_get h];rfl
theorem rnat_any (p:Option Addr) (n c o k:Nat) (l:List B8) (hn:l.length=n) (h:o+k≤n) (h8:k≤8) (hb:n≤1000000000):Spc prog 164 #[.slice p n c, .int .i64 (o:Int), .int .i64 (k:Int)] [sls p 1 n (bytes l)] [] (Is (.int .u64 (nat l o k:Int))):=by
 subst hn
 refine Spc.en func164 rfl rfl (fun w0 hw0=> ?_)
 refine CW.sr (RL.pn rfl (CW.sr (RL.pn rfl (CW.ss (CW.sr (RL.p rfl ?_))))))
 refine RL.ns (CW.bb ?_)
 refine CW.loop (γ:=Nat) (fun i=> i≤k) (fun i=> [(0, .slice p l.length c),(1, .int .i64 (o:Int)),(2, .int .i64 (k:Int)),(7, .int .u64 (nat l o i:Int)),(8, .int .i64 (i:Int))]) (fun _=> [sls p 1 l.length (bytes l)]) (fun _=> []) (fun i=> k - i) 0 zb
  sE (fun w h=> h) ?_
 intro i hi
 refine CW.ff (p:=p=none→l.length=0) (fun w hC e=> sls_nil (hC.s.i _ (List.Mem.head _)) e) (fun hpp=> ?_)
 refine CW.ss (CW.sr (RL.p rfl (RL.qn rfl ?_)))
 refine CW.cd rfl (fun hlt=> ?_) (fun hlt=> ?_)
 ·
  refine CW.sn (CW.ss (CW.bb (CW.rg (RL.q rfl (RL.q rfl (RL.p rfl (RL.bx rfl (wrapV_i64 zb zb) ?_)))))))
  have hlt:i < k:=by simp at hlt;omega
  have hv:(bytes l)[(o+i)*1]? =some (U8 (bat l (o+i))):=by rw [Nat.mul_one,List.getElem?_map,bat_get zb];rfl
  obtain ⟨a,rfl⟩:∃a,p=some a:=by
   cases p with
   | none=> exact absurd (hpp rfl) zb
   | some a=> exact ⟨a,rfl⟩
  refine RL.idx (j:=o+i) runUnderlying74 sizeOf5 rfl zb zb ?_
  refine RL.lq isAgg5 rfl ?_
  refine RL.conv runUnderlying5 runUnderlying32 rfl (RL.q rfl (RL.ee (NQ.bb (NQ.ss (CW.ok [0,1,2,7,8] rfl (CW.rg (RL.p rfl (RL.bx rfl (wrapV_i64 zb zb) ?_))))))))
  refine RL.p rfl (RL.ee ?_)
  rw [nat_wrap zb zb]
  exact NQ.rr (g:=i) (i+1) hlt zb sE (fun w h=> h)
 ·
  refine CW.xx (XQ.ss (XQ.ss (XQ.hh (NQ.ss (CW.ok [7] rfl (CW.s1 rfl (CW.rr ?_)))))))
  have hik:i=k:=by simp at hlt;omega
  subst hik
  exact RQ.pp (res1 rfl rfl) (Split.nn _) ⟨rfl,rfl,rfl⟩
end Go.Proofs.YtkineolcmdecjaaGreat
namespace Go.Proofs.YtkineolcmdecjaaGreat
open Go.PK
open Tryz
set_option linter.unusedSimpArgs false
theorem rgot_1 (p:Option Addr) (n c:Nat) (l:List B8) (hn:l.length=n) (h:n=24):Spc prog 134 #[.int .i64 1, .slice p n c] [sls p 1 n (bytes l)] [] (Is (gotV (gotR 1 l))):=by
 subst h
 refine Spc.some' (g:=fun p=> #[.int .i64 1, .slice p 24 c]) (I:=fun p=> [sls p 1 24 (bytes l)]) (H:=fun _=> []) (R:=fun _=> Is _) (List.Mem.head _) zc (fun q _=> ?_)
 refine Spc.en func134 rfl rfl (fun w0 hw0=> ?_)
 refine CW.sg [0] [] (RL.al zeroValue69 rfl ?_)
 intro b1
 refine RL.pn rfl (CW.sr (RL.p rfl (RL.vq (rsize_any 1) call132 rfl ?_)))
 refine RL.p rfl ?_
 rw [show sizeV 1= .tuple #[.int .i64 24, .int .i64 0] from rfl]
 refine RL.q rfl (RL.qn rfl (CW.ok [0,1,4,6,7] rfl (CW.ss (CW.sr (RL.q rfl (RL.p rfl (RL.tt (d:=18) (v':= .bool false) rfl (rfl) ?_)))))))
 refine RL.q rfl (RL.lenS runUnderlying74 rfl (RL.qn rfl (CW.ok [0,1,4,23] rfl (CW.cF rfl (rfl) (CW.sn (CW.sg [2,3] [3] (RL.p rfl ?_)))))))
 refine RL.bS (Rdg.cells (rz 1)) zeroValue69 pl_69 rfl (RL.al zeroValue69 rfl ?_)
 intro b2
 refine RL.sq sizeOf69 rfl ?_
 refine RL.ns (CW.ss (CW.sr (RL.pn rfl (CW.bb (CW.sr (RL.q rfl (RL.ee ?_)))))))
 refine NQ.ss (CW.cT rfl (rfl) (CW.sr (RL.pn rfl (CW.ok [0,1,4,8,9] rfl (CW.bb ?_)))))
 refine CW.loop (γ:=Nat) (fun j=> j≤3) (fun j=> [(0, .int .i64 1),(1, .slice (some q) 24 c),(4, .pointer (some ⟨b1,0,none⟩)),(8, .pointer (some ⟨b2,0,none⟩)),(9, .int .i64 (j:Int))]) (fun _=> [sls (some q) 1 24 (bytes l)])
  (fun j=> [cel b2 (Rdg.cells (r1 l j)) 69,cel b1 (Rdg.cells (rz 0)) 69]) (fun j=> 3 - j) 0 zc
  sE (fun w h=> h) ?_
 intro j hj
 refine CW.ss (CW.s1 rfl ?_)
 refine CW.cd rfl (fun hlt=> ?_) (fun hlt=> ?_)
 ·
  have hlt:j < 3:=by simp at hlt;omega
  refine CW.sn (CW.ss (CW.bb (CW.sg [9] [9] (RL.q rfl (RL.p rfl (RL.bx rfl (wrapV_i64 zb zb) ?_))))))
  refine RL.vq (rnat_any (some q) 24 c (4*j) 4 l hn zb zc zc) call164 rfl ?_
  refine RL.conv runUnderlying32 runUnderlying61 rfl (RL.conv runUnderlying61 runUnderlying65 rfl (RL.fa fa_69_1 rfl (RL.iA (j:=j) runUnderlying66 sizeOf65 rfl hlt (RL.sX (cs':=spl (Rdg.cells (r1 l j)) (0+1+j*1) [.int .i32 (i32at l (4*j))]) (vs:= [_]) (by rw [u32_nt];rfl) sizeOf65 rfl rfl uE (by show 0+1+j*1+1≤57;omega) ?_))))
  refine RL.ns (CW.ok [0,1,4,8,9] rfl (CW.rn (ef:= [10]) (bk:= [10]) (RL.q rfl (RL.p rfl (RL.bx rfl (wrapV_i64 zb zb) ?_)))))
  refine RL.bx rfl (wrapV_i64 zb zb) ?_
  refine RL.vq (rnat_any (some q) 24 c (12+4*j) 4 l hn zb zc zc) call164 rfl ?_
  refine RL.conv runUnderlying32 runUnderlying61 rfl (RL.conv runUnderlying61 runUnderlying65 rfl (RL.fa fa_69_2 rfl (RL.iA (j:=j) runUnderlying66 sizeOf65 rfl hlt (RL.sX (cs':=Rdg.cells (r1 l (j+1))) (vs:= [_]) (by rw [u32_nt];exact r1_step l hlt) sizeOf65 rfl rfl uE (by rw [spl_length57];show 0+4+j*1+1≤57;omega) ?_))))
  refine RL.ee (NQ.bb (NQ.ss (CW.ok [0,1,4,8,9] rfl (CW.rg (RL.p rfl (RL.bx rfl (wrapV_i64 zb zb) ?_))))))
  refine RL.p rfl (RL.ee ?_)
  exact NQ.rr (g:=j) (j+1) hlt zb sE (fun w h=> h)
 have hj3:j=3:=by simp at hlt;omega
 subst hj3
 refine CW.xx (XQ.ss (XQ.ss (XQ.hh (NQ.bb (NQ.ss (CW.ss (CW.sr (RL.fa fa_69_12 rfl (RL.lq isAgg5 rfl ?_)))))))))
 refine RL.q rfl ?_
 have hm:(getR 1 l).mode=0#8:=rfl
 have hq:(getR 1 l).epoch=0:=rfl
 have hz:sizeR 1=24:=rfl
 refine RL.tt (d:=187) (v':= .bool false) rfl (rfl) ?_
 refine RL.q rfl (RL.p rfl (RL.tt (d:=190) (v':= .bool false) rfl (rfl) ?_))
 refine RL.q rfl (RL.p rfl (RL.qn rfl (CW.ok [4,8,195] rfl (CW.cF rfl rfl (CW.sn (CW.sg [1] [1] (RL.lW isAgg69 sizeOf69 rfl mQ zf ?_)))))))
 refine RL.sq sizeOf69 rfl ?_
 refine RL.pn rfl (CW.rr ?_)
 have hok:1≤(1:Int)∧(1:Int)≤14∧l.length=sizeR 1∧(getR 1 l).mode.toNat≤2∧¬((1:Int)=10∧(getR 1 l).epoch=0):=by refine ⟨zc,zc,zb,by rw [hm];decide,zb⟩
 exact RQ.pp (resWT rfl rfl rfl isAgg69 sizeOf69 mQ rfl) (Split.nn _) ⟨by rw [gotR,if_pos hok];(try simp only [u32_nt,u16_nt]);rfl,rfl,rfl⟩
theorem rgot_2 (p:Option Addr) (n c:Nat) (l:List B8) (hn:l.length=n) (h:n=8):Spc prog 134 #[.int .i64 2, .slice p n c] [sls p 1 n (bytes l)] [] (Is (gotV (gotR 2 l))):=by
 subst h
 refine Spc.some' (g:=fun p=> #[.int .i64 2, .slice p 8 c]) (I:=fun p=> [sls p 1 8 (bytes l)]) (H:=fun _=> []) (R:=fun _=> Is _) (List.Mem.head _) zc (fun q _=> ?_)
 refine Spc.en func134 rfl rfl (fun w0 hw0=> ?_)
 refine CW.sg [0] [] (RL.al zeroValue69 rfl ?_)
 intro b1
 refine RL.pn rfl (CW.sr (RL.p rfl (RL.vq (rsize_any 2) call132 rfl ?_)))
 refine RL.p rfl ?_
 rw [show sizeV 2= .tuple #[.int .i64 8, .int .i64 0] from rfl]
 refine RL.q rfl (RL.qn rfl (CW.ok [0,1,4,6,7] rfl (CW.ss (CW.sr (RL.q rfl (RL.p rfl (RL.tt (d:=18) (v':= .bool false) rfl (rfl) ?_)))))))
 refine RL.q rfl (RL.lenS runUnderlying74 rfl (RL.qn rfl (CW.ok [0,1,4,23] rfl (CW.cF rfl (rfl) (CW.sn (CW.sg [2,3] [3] (RL.p rfl ?_)))))))
 refine RL.bS (Rdg.cells (rz 2)) zeroValue69 pl_69 rfl (RL.al zeroValue69 rfl ?_)
 intro b2
 refine RL.sq sizeOf69 rfl ?_
 refine RL.ns (CW.ss (CW.sr (RL.pn rfl (CW.bb (CW.sr (RL.q rfl (RL.ee ?_)))))))
 refine NQ.ss (CW.cF rfl (rfl) (CW.s1 rfl (CW.ok [0,1,4,8,27,53] rfl (CW.cT rfl (rfl) (CW.rn (ef:= [4]) (bk:= [4]) (RL.p rfl (RL.vq (rnat_any (some q) 8 c 0 8 l hn zc zc zc) call164 rfl ?_)))))))
 refine RL.conv runUnderlying32 runUnderlying25 rfl (RL.fa fa_69_3 rfl (RL.store (vs:= [_]) sizeOf25 rfl rfl uE ?_))
 refine RL.ee (NQ.bb (NQ.ss (CW.ok [0,4,8] rfl (CW.ss (CW.sr (RL.fa fa_69_12 rfl (RL.lq isAgg5 rfl ?_)))))))
 refine RL.q rfl ?_
 have hm:(getR 2 l).mode=0#8:=rfl
 have hq:(getR 2 l).epoch=0:=rfl
 have hz:sizeR 2=8:=rfl
 refine RL.tt (d:=187) (v':= .bool false) rfl (rfl) ?_
 refine RL.q rfl (RL.p rfl (RL.tt (d:=190) (v':= .bool false) rfl (rfl) ?_))
 refine RL.q rfl (RL.p rfl (RL.qn rfl (CW.ok [4,8,195] rfl (CW.cF rfl rfl (CW.sn (CW.sg [1] [1] (RL.lW isAgg69 sizeOf69 rfl mQ zf ?_)))))))
 refine RL.sq sizeOf69 rfl ?_
 refine RL.pn rfl (CW.rr ?_)
 have hok:1≤(2:Int)∧(2:Int)≤14∧l.length=sizeR 2∧(getR 2 l).mode.toNat≤2∧¬((2:Int)=10∧(getR 2 l).epoch=0):=by refine ⟨zc,zc,zb,by rw [hm];decide,zb⟩
 exact RQ.pp (resWT rfl rfl rfl isAgg69 sizeOf69 mQ rfl) (Split.nn _) ⟨by rw [gotR,if_pos hok];(try simp only [u32_nt,u16_nt]);rfl,rfl,rfl⟩
theorem rgot_3 (p:Option Addr) (n c:Nat) (l:List B8) (hn:l.length=n) (h:n=4):Spc prog 134 #[.int .i64 3, .slice p n c] [sls p 1 n (bytes l)] [] (Is (gotV (gotR 3 l))):=by
 subst h
 refine Spc.some' (g:=fun p=> #[.int .i64 3, .slice p 4 c]) (I:=fun p=> [sls p 1 4 (bytes l)]) (H:=fun _=> []) (R:=fun _=> Is _) (List.Mem.head _) zc (fun q _=> ?_)
 refine Spc.en func134 rfl rfl (fun w0 hw0=> ?_)
 refine CW.sg [0] [] (RL.al zeroValue69 rfl ?_)
 intro b1
 refine RL.pn rfl (CW.sr (RL.p rfl (RL.vq (rsize_any 3) call132 rfl ?_)))
 refine RL.p rfl ?_
 rw [show sizeV 3= .tuple #[.int .i64 4, .int .i64 0] from rfl]
 refine RL.q rfl (RL.qn rfl (CW.ok [0,1,4,6,7] rfl (CW.ss (CW.sr (RL.q rfl (RL.p rfl (RL.tt (d:=18) (v':= .bool false) rfl (rfl) ?_)))))))
 refine RL.q rfl (RL.lenS runUnderlying74 rfl (RL.qn rfl (CW.ok [0,1,4,23] rfl (CW.cF rfl (rfl) (CW.sn (CW.sg [2,3] [3] (RL.p rfl ?_)))))))
 refine RL.bS (Rdg.cells (rz 3)) zeroValue69 pl_69 rfl (RL.al zeroValue69 rfl ?_)
 intro b2
 refine RL.sq sizeOf69 rfl ?_
 refine RL.ns (CW.ss (CW.sr (RL.pn rfl (CW.bb (CW.sr (RL.q rfl (RL.ee ?_)))))))
 refine NQ.ss (CW.cF rfl (rfl) (CW.s1 rfl (CW.ok [0,1,4,8,27,53] rfl (CW.cF rfl (rfl) (CW.sr (RL.q rfl ?_))))))
 refine RL.ns (CW.cT rfl (rfl) (CW.rn (ef:= [4]) (bk:= [4]) (RL.p rfl (RL.vq (rnat_any (some q) 4 c 0 4 l hn zc zc zc) call164 rfl ?_))))
 refine RL.conv runUnderlying32 runUnderlying61 rfl (RL.fa fa_69_4 rfl (RL.store (vs:= [_]) sizeOf61 rfl rfl uE ?_))
 refine RL.ee (NQ.bb (NQ.ss (CW.ok [0,4,8] rfl (CW.ss (CW.sr (RL.fa fa_69_12 rfl (RL.lq isAgg5 rfl ?_)))))))
 refine RL.q rfl ?_
 have hm:(getR 3 l).mode=0#8:=rfl
 have hq:(getR 3 l).epoch=0:=rfl
 have hz:sizeR 3=4:=rfl
 refine RL.tt (d:=187) (v':= .bool false) rfl (rfl) ?_
 refine RL.q rfl (RL.p rfl (RL.tt (d:=190) (v':= .bool false) rfl (rfl) ?_))
 refine RL.q rfl (RL.p rfl (RL.qn rfl (CW.ok [4,8,195] rfl (CW.cF rfl rfl (CW.sn (CW.sg [1] [1] (RL.lW isAgg69 sizeOf69 rfl mQ zf ?_)))))))
 refine RL.sq sizeOf69 rfl ?_
 refine RL.pn rfl (CW.rr ?_)
 have hok:1≤(3:Int)∧(3:Int)≤14∧l.length=sizeR 3∧(getR 3 l).mode.toNat≤2∧¬((3:Int)=10∧(getR 3 l).epoch=0):=by refine ⟨zc,zc,zb,by rw [hm];decide,zb⟩
 exact RQ.pp (resWT rfl rfl rfl isAgg69 sizeOf69 mQ rfl) (Split.nn _) ⟨by rw [gotR,if_pos hok];(try simp only [u32_nt,u16_nt]);rfl,rfl,rfl⟩
theorem rgot_4 (p:Option Addr) (n c:Nat) (l:List B8) (hn:l.length=n) (h:n=8):Spc prog 134 #[.int .i64 4, .slice p n c] [sls p 1 n (bytes l)] [] (Is (gotV (gotR 4 l))):=by
 subst h
 refine Spc.some' (g:=fun p=> #[.int .i64 4, .slice p 8 c]) (I:=fun p=> [sls p 1 8 (bytes l)]) (H:=fun _=> []) (R:=fun _=> Is _) (List.Mem.head _) zc (fun q _=> ?_)
 refine Spc.en func134 rfl rfl (fun w0 hw0=> ?_)
 refine CW.sg [0] [] (RL.al zeroValue69 rfl ?_)
 intro b1
 refine RL.pn rfl (CW.sr (RL.p rfl (RL.vq (rsize_any 4) call132 rfl ?_)))
 refine RL.p rfl ?_
 rw [show sizeV 4= .tuple #[.int .i64 8, .int .i64 0] from rfl]
 refine RL.q rfl (RL.qn rfl (CW.ok [0,1,4,6,7] rfl (CW.ss (CW.sr (RL.q rfl (RL.p rfl (RL.tt (d:=18) (v':= .bool false) rfl (rfl) ?_)))))))
 refine RL.q rfl (RL.lenS runUnderlying74 rfl (RL.qn rfl (CW.ok [0,1,4,23] rfl (CW.cF rfl (rfl) (CW.sn (CW.sg [2,3] [3] (RL.p rfl ?_)))))))
 refine RL.bS (Rdg.cells (rz 4)) zeroValue69 pl_69 rfl (RL.al zeroValue69 rfl ?_)
 intro b2
 refine RL.sq sizeOf69 rfl ?_
 refine RL.ns (CW.ss (CW.sr (RL.pn rfl (CW.bb (CW.sr (RL.q rfl (RL.ee ?_)))))))
 refine NQ.ss (CW.cF rfl (rfl) (CW.s1 rfl (CW.ok [0,1,4,8,27,53] rfl (CW.cF rfl (rfl) (CW.sr (RL.q rfl ?_))))))
 refine RL.ns (CW.cF rfl (rfl) (CW.s1 rfl (CW.cT rfl (rfl) (CW.rn (ef:= [8,10]) (bk:= [8,10]) (RL.p rfl (RL.vq (rnat_any (some q) 8 c 0 4 l hn zc zc zc) call164 rfl ?_))))))
 refine RL.conv runUnderlying32 runUnderlying61 rfl (RL.conv runUnderlying61 runUnderlying65 rfl (RL.p rfl (RL.vq (rnat_any (some q) 8 c 4 4 l hn zc zc zc) call164 rfl ?_)))
 refine RL.conv runUnderlying32 runUnderlying61 rfl (RL.fa fa_69_5 rfl (RL.store (vs:= [_]) sizeOf65 rfl rfl uE ?_))
 refine RL.fa fa_69_6 rfl (RL.store (vs:= [_]) sizeOf61 rfl rfl uE ?_)
 refine RL.ee (NQ.bb (NQ.ss (CW.ok [0,4,8] rfl (CW.ss (CW.sr (RL.fa fa_69_12 rfl (RL.lq isAgg5 rfl ?_)))))))
 refine RL.q rfl ?_
 have hm:(getR 4 l).mode=0#8:=rfl
 have hq:(getR 4 l).epoch=0:=rfl
 have hz:sizeR 4=8:=rfl
 refine RL.tt (d:=187) (v':= .bool false) rfl (rfl) ?_
 refine RL.q rfl (RL.p rfl (RL.tt (d:=190) (v':= .bool false) rfl (rfl) ?_))
 refine RL.q rfl (RL.p rfl (RL.qn rfl (CW.ok [4,8,195] rfl (CW.cF rfl rfl (CW.sn (CW.sg [1] [1] (RL.lW isAgg69 sizeOf69 rfl mQ zf ?_)))))))
 refine RL.sq sizeOf69 rfl ?_
 refine RL.pn rfl (CW.rr ?_)
 have hok:1≤(4:Int)∧(4:Int)≤14∧l.length=sizeR 4∧(getR 4 l).mode.toNat≤2∧¬((4:Int)=10∧(getR 4 l).epoch=0):=by refine ⟨zc,zc,zb,by rw [hm];decide,zb⟩
 exact RQ.pp (resWT rfl rfl rfl isAgg69 sizeOf69 mQ rfl) (Split.nn _) ⟨by rw [gotR,if_pos hok];(try simp only [u32_nt,u16_nt]);rfl,rfl,rfl⟩
theorem rgot_5 (p:Option Addr) (n c:Nat) (l:List B8) (hn:l.length=n) (h:n=29):Spc prog 134 #[.int .i64 5, .slice p n c] [sls p 1 n (bytes l)] [] (Is (gotV (gotR 5 l))):=by
 subst h
 refine Spc.some' (g:=fun p=> #[.int .i64 5, .slice p 29 c]) (I:=fun p=> [sls p 1 29 (bytes l)]) (H:=fun _=> []) (R:=fun _=> Is _) (List.Mem.head _) zc (fun q _=> ?_)
 refine Spc.en func134 rfl rfl (fun w0 hw0=> ?_)
 refine CW.sg [0] [] (RL.al zeroValue69 rfl ?_)
 intro b1
 refine RL.pn rfl (CW.sr (RL.p rfl (RL.vq (rsize_any 5) call132 rfl ?_)))
 refine RL.p rfl ?_
 rw [show sizeV 5= .tuple #[.int .i64 29, .int .i64 0] from rfl]
 refine RL.q rfl (RL.qn rfl (CW.ok [0,1,4,6,7] rfl (CW.ss (CW.sr (RL.q rfl (RL.p rfl (RL.tt (d:=18) (v':= .bool false) rfl (rfl) ?_)))))))
 refine RL.q rfl (RL.lenS runUnderlying74 rfl (RL.qn rfl (CW.ok [0,1,4,23] rfl (CW.cF rfl (rfl) (CW.sn (CW.sg [2,3] [3] (RL.p rfl ?_)))))))
 refine RL.bS (Rdg.cells (rz 5)) zeroValue69 pl_69 rfl (RL.al zeroValue69 rfl ?_)
 intro b2
 refine RL.sq sizeOf69 rfl ?_
 refine RL.ns (CW.ss (CW.sr (RL.pn rfl (CW.bb (CW.sr (RL.q rfl (RL.ee ?_)))))))
 refine NQ.ss (CW.cF rfl (rfl) (CW.s1 rfl (CW.ok [0,1,4,8,27,53] rfl (CW.cF rfl (rfl) (CW.sr (RL.q rfl ?_))))))
 refine RL.ns (CW.cF rfl (rfl) (CW.s1 rfl (CW.cF rfl (rfl) (CW.sr (RL.q rfl ?_)))))
 refine RL.ns (CW.ok [0,1,4,8,27,76] rfl (CW.cT rfl (rfl) (CW.ss ?_)))
 refine CW.cut [(0, .int .i64 5),(1, .slice (some q) 29 c),(4, .pointer (some ⟨b1,0,none⟩)),(8, .pointer (some ⟨b2,0,none⟩))] [sls (some q) 1 29 (bytes l)] [cel b2 (spl (spl (Rdg.cells (rz 5)) (0+11) [.int .u32 (IntKind.u32.wrap (nat l 0 4:Int))]) (0+12) [U8 (bat l 4)]) 69,cel b1 (Rdg.cells (rz 0)) 69] ?_ ?_
 ·
  have hv4:=bat_v (l:=l) (o:=4) zb
  refine CW.rD (.cons 0 (.cons 1 (.cons 2 (.cons 3 (.cons 4 (.cons 6 (.fork [5,7] (fun k=> (bif Nat.beq k 5 then (Sq.of [7,8,9]) else (Sq.of [5,8,9])))))))))) [7,9] [7,9] [0,2,3,4,6,8] mixed zi ?_
  refine RL.p rfl (RL.vq (rnat_any (some q) 29 c 0 4 l hn zc zc zc) call164 rfl ?_)
  refine RL.conv runUnderlying32 runUnderlying61 rfl (RL.p rfl (RL.idx (j:=4) runUnderlying74 sizeOf5 rfl rfl zc ?_))
  refine RL.fa fa_69_7 rfl ?_
  refine RL.fork ⟨?_, ?_,trivial⟩
  ·
   refine RL.lq isAgg5 rfl ?_
   refine RL.store (vs:= [_]) sizeOf61 rfl rfl uE ?_
   refine RL.fa fa_69_8 rfl (RL.store (vs:= [_]) sizeOf5 rfl rfl uE ?_)
   refine RL.ee ?_
   exact NQ.mid sE (fun _ h=> h)
  ·
   refine RL.store (vs:= [_]) sizeOf61 rfl rfl uE ?_
   refine RL.lq isAgg5 rfl ?_
   refine RL.fa fa_69_8 rfl (RL.store (vs:= [_]) sizeOf5 rfl rfl uE ?_)
   refine RL.ee ?_
   exact NQ.mid sE (fun _ h=> h)
 refine CW.rn (ef:= [11]) (bk:= [11]) (RL.p rfl (RL.vq (rnat_any (some q) 29 c 5 8 l hn zc zc zc) call164 rfl ?_))
 refine RL.conv runUnderlying32 runUnderlying25 rfl (RL.p rfl (RL.vq (rnat_any (some q) 29 c 13 8 l hn zc zc zc) call164 rfl ?_))
 refine RL.conv runUnderlying32 runUnderlying25 rfl (RL.p rfl (RL.vq (rnat_any (some q) 29 c 21 8 l hn zc zc zc) call164 rfl ?_))
 refine RL.conv runUnderlying32 runUnderlying25 rfl (RL.buildA [_,_,_] zeroValue27 runUnderlying27 sizeOf25 rfl (RL.fa fa_69_9 rfl (RL.sX (cs':=spl _ (0+13) [_,_,_]) (vs:= [_,_,_]) rfl sizeOf27 rfl rfl uE (Nat.le_of_ble_eq_true rfl) ?_)))
 refine RL.ee (NQ.bb (NQ.ss (CW.ok [0,4,8] rfl (CW.ss (CW.sr (RL.fa fa_69_12 rfl (RL.lq isAgg5 rfl ?_)))))))
 refine RL.q rfl ?_
 have hm:(getR 5 l).mode=0#8:=rfl
 have hq:(getR 5 l).epoch=0:=rfl
 have hz:sizeR 5=29:=rfl
 refine RL.tt (d:=187) (v':= .bool false) rfl (rfl) ?_
 refine RL.q rfl (RL.p rfl (RL.tt (d:=190) (v':= .bool false) rfl (rfl) ?_))
 refine RL.q rfl (RL.p rfl (RL.qn rfl (CW.ok [4,8,195] rfl (CW.cF rfl rfl (CW.sn (CW.sg [1] [1] (RL.lW isAgg69 sizeOf69 rfl mQ zf ?_)))))))
 refine RL.sq sizeOf69 rfl ?_
 refine RL.pn rfl (CW.rr ?_)
 have hok:1≤(5:Int)∧(5:Int)≤14∧l.length=sizeR 5∧(getR 5 l).mode.toNat≤2∧¬((5:Int)=10∧(getR 5 l).epoch=0):=by refine ⟨zc,zc,zb,by rw [hm];decide,zb⟩
 exact RQ.pp (resWT rfl rfl rfl isAgg69 sizeOf69 mQ rfl) (Split.nn _) ⟨by rw [gotR,if_pos hok];(try simp only [u32_nt,u16_nt]);rfl,rfl,rfl⟩
theorem rgot_6 (p:Option Addr) (n c:Nat) (l:List B8) (hn:l.length=n) (h:n=36):Spc prog 134 #[.int .i64 6, .slice p n c] [sls p 1 n (bytes l)] [] (Is (gotV (gotR 6 l))):=by
 subst h
 refine Spc.some' (g:=fun p=> #[.int .i64 6, .slice p 36 c]) (I:=fun p=> [sls p 1 36 (bytes l)]) (H:=fun _=> []) (R:=fun _=> Is _) (List.Mem.head _) zc (fun q _=> ?_)
 refine Spc.en func134 rfl rfl (fun w0 hw0=> ?_)
 refine CW.sg [0] [] (RL.al zeroValue69 rfl ?_)
 intro b1
 refine RL.pn rfl (CW.sr (RL.p rfl (RL.vq (rsize_any 6) call132 rfl ?_)))
 refine RL.p rfl ?_
 rw [show sizeV 6= .tuple #[.int .i64 36, .int .i64 0] from rfl]
 refine RL.q rfl (RL.qn rfl (CW.ok [0,1,4,6,7] rfl (CW.ss (CW.sr (RL.q rfl (RL.p rfl (RL.tt (d:=18) (v':= .bool false) rfl (rfl) ?_)))))))
 refine RL.q rfl (RL.lenS runUnderlying74 rfl (RL.qn rfl (CW.ok [0,1,4,23] rfl (CW.cF rfl (rfl) (CW.sn (CW.sg [2,3] [3] (RL.p rfl ?_)))))))
 refine RL.bS (Rdg.cells (rz 6)) zeroValue69 pl_69 rfl (RL.al zeroValue69 rfl ?_)
 intro b2
 refine RL.sq sizeOf69 rfl ?_
 refine RL.ns (CW.ss (CW.sr (RL.pn rfl (CW.bb (CW.sr (RL.q rfl (RL.ee ?_)))))))
 refine NQ.ss (CW.cF rfl (rfl) (CW.s1 rfl (CW.ok [0,1,4,8,27,53] rfl (CW.cF rfl (rfl) (CW.sr (RL.q rfl ?_))))))
 refine RL.ns (CW.cF rfl (rfl) (CW.s1 rfl (CW.cF rfl (rfl) (CW.sr (RL.q rfl ?_)))))
 refine RL.ns (CW.ok [0,1,4,8,27,76] rfl (CW.cF rfl (rfl) (CW.s1 rfl (CW.cT rfl (rfl) (CW.sg [4] [4] (RL.p rfl ?_))))))
 refine RL.vq (rnat_any (some q) 36 c 0 4 l hn zc zc zc) call164 rfl ?_
 refine RL.conv runUnderlying32 runUnderlying61 rfl (RL.fa fa_69_7 rfl (RL.store (vs:= [_]) sizeOf61 rfl rfl uE ?_))
 refine RL.ns (CW.ok [0,1,4,8] rfl (CW.sr (RL.pn rfl (CW.bb ?_))))
 refine CW.loop (γ:=Nat) (fun j=> j≤32) (fun j=> [(0, .int .i64 6),(1, .slice (some q) 36 c),(4, .pointer (some ⟨b1,0,none⟩)),(8, .pointer (some ⟨b2,0,none⟩)),(10, .int .i64 (j:Int))]) (fun _=> [sls (some q) 1 36 (bytes l)])
  (fun j=> [cel b2 (Rdg.cells (r6 l j)) 69,cel b1 (Rdg.cells (rz 0)) 69]) (fun j=> 32 - j) 0 zc
  sE (fun w h=> by rw [u32_nt] at h;exact h) ?_
 intro j hj
 refine CW.ss (CW.s1 rfl ?_)
 refine CW.cd rfl (fun hlt=> ?_) (fun hlt=> ?_)
 ·
  refine CW.sn (CW.ss (CW.bb (CW.rn (ef:= [8]) (bk:= [8]) (RL.q rfl (RL.p rfl (RL.bx rfl (wrapV_i64 zb zb) ?_))))))
  have hlt:j < 32:=by simp at hlt;omega
  have hv:=bat_v (l:=l) (o:=4+j) zb
  refine RL.idx (j:=4+j) runUnderlying74 sizeOf5 rfl zb zb ?_
  refine RL.lq isAgg5 rfl ?_
  refine RL.fa fa_69_10 rfl (RL.iA (j:=j) runUnderlying31 sizeOf5 rfl hlt (RL.sX (cs':=Rdg.cells (r6 l (j+1))) (vs:= [_]) (r6_step l hlt) sizeOf5 rfl rfl uE (by show 0+16+j*1+1≤57;omega) ?_))
  refine RL.ee (NQ.bb (NQ.ss (CW.ok [0,1,4,8,10] rfl (CW.rg (RL.p rfl (RL.bx rfl (wrapV_i64 zb zb) ?_))))))
  refine RL.p rfl (RL.ee ?_)
  exact NQ.rr (g:=j) (j+1) hlt zb sE (fun w h=> h)
 have hj32:j=32:=by simp at hlt;omega
 subst hj32
 refine CW.xx (XQ.ss (XQ.ss (XQ.hh (NQ.bb (NQ.ss (CW.ss (CW.sr (RL.fa fa_69_12 rfl (RL.lq isAgg5 rfl ?_)))))))))
 refine RL.q rfl ?_
 have hm:(getR 6 l).mode=0#8:=rfl
 have hq:(getR 6 l).epoch=0:=rfl
 have hz:sizeR 6=36:=rfl
 refine RL.tt (d:=187) (v':= .bool false) rfl (rfl) ?_
 refine RL.q rfl (RL.p rfl (RL.tt (d:=190) (v':= .bool false) rfl (rfl) ?_))
 refine RL.q rfl (RL.p rfl (RL.qn rfl (CW.ok [4,8,195] rfl (CW.cF rfl rfl (CW.sn (CW.sg [1] [1] (RL.lW isAgg69 sizeOf69 rfl mQ zf ?_)))))))
 refine RL.sq sizeOf69 rfl ?_
 refine RL.pn rfl (CW.rr ?_)
 have hok:1≤(6:Int)∧(6:Int)≤14∧l.length=sizeR 6∧(getR 6 l).mode.toNat≤2∧¬((6:Int)=10∧(getR 6 l).epoch=0):=by refine ⟨zc,zc,zb,by rw [hm];decide,zb⟩
 exact RQ.pp (resWT rfl rfl rfl isAgg69 sizeOf69 mQ rfl) (Split.nn _) ⟨by rw [gotR,if_pos hok];(try simp only [u32_nt,u16_nt]);rfl,rfl,rfl⟩
theorem rgot_7 (p:Option Addr) (n c:Nat) (l:List B8) (hn:l.length=n) (h:n=8):Spc prog 134 #[.int .i64 7, .slice p n c] [sls p 1 n (bytes l)] [] (Is (gotV (gotR 7 l))):=by
 subst h
 refine Spc.some' (g:=fun p=> #[.int .i64 7, .slice p 8 c]) (I:=fun p=> [sls p 1 8 (bytes l)]) (H:=fun _=> []) (R:=fun _=> Is _) (List.Mem.head _) zc (fun q _=> ?_)
 refine Spc.en func134 rfl rfl (fun w0 hw0=> ?_)
 refine CW.sg [0] [] (RL.al zeroValue69 rfl ?_)
 intro b1
 refine RL.pn rfl (CW.sr (RL.p rfl (RL.vq (rsize_any 7) call132 rfl ?_)))
 refine RL.p rfl ?_
 rw [show sizeV 7= .tuple #[.int .i64 8, .int .i64 0] from rfl]
 refine RL.q rfl (RL.qn rfl (CW.ok [0,1,4,6,7] rfl (CW.ss (CW.sr (RL.q rfl (RL.p rfl (RL.tt (d:=18) (v':= .bool false) rfl (rfl) ?_)))))))
 refine RL.q rfl (RL.lenS runUnderlying74 rfl (RL.qn rfl (CW.ok [0,1,4,23] rfl (CW.cF rfl (rfl) (CW.sn (CW.sg [2,3] [3] (RL.p rfl ?_)))))))
 refine RL.bS (Rdg.cells (rz 7)) zeroValue69 pl_69 rfl (RL.al zeroValue69 rfl ?_)
 intro b2
 refine RL.sq sizeOf69 rfl ?_
 refine RL.ns (CW.ss (CW.sr (RL.pn rfl (CW.bb (CW.sr (RL.q rfl (RL.ee ?_)))))))
 refine NQ.ss (CW.cF rfl (rfl) (CW.s1 rfl (CW.ok [0,1,4,8,27,53] rfl (CW.cF rfl (rfl) (CW.sr (RL.q rfl ?_))))))
 refine RL.ns (CW.cF rfl (rfl) (CW.s1 rfl (CW.cF rfl (rfl) (CW.sr (RL.q rfl ?_)))))
 refine RL.ns (CW.ok [0,1,4,8,27,76] rfl (CW.cF rfl (rfl) (CW.s1 rfl (CW.cF rfl (rfl) (CW.sr (RL.p rfl ?_))))))
 refine RL.pn rfl (CW.cT rfl (rfl) (CW.rn (ef:= [3]) (bk:= [3]) (RL.p rfl (RL.vq (rnat_any (some q) 8 c 0 8 l hn zc zc zc) call164 rfl ?_))))
 refine RL.fa fa_69_11 rfl (RL.store (vs:= [_]) sizeOf32 rfl rfl uE ?_)
 refine RL.ee (NQ.bb (NQ.ss (CW.ok [0,4,8] rfl (CW.ss (CW.sr (RL.fa fa_69_12 rfl (RL.lq isAgg5 rfl ?_)))))))
 refine RL.q rfl ?_
 have hm:(getR 7 l).mode=0#8:=rfl
 have hq:(getR 7 l).epoch=0:=rfl
 have hz:sizeR 7=8:=rfl
 refine RL.tt (d:=187) (v':= .bool false) rfl (rfl) ?_
 refine RL.q rfl (RL.p rfl (RL.tt (d:=190) (v':= .bool false) rfl (rfl) ?_))
 refine RL.q rfl (RL.p rfl (RL.qn rfl (CW.ok [4,8,195] rfl (CW.cF rfl rfl (CW.sn (CW.sg [1] [1] (RL.lW isAgg69 sizeOf69 rfl mQ zf ?_)))))))
 refine RL.sq sizeOf69 rfl ?_
 refine RL.pn rfl (CW.rr ?_)
 have hok:1≤(7:Int)∧(7:Int)≤14∧l.length=sizeR 7∧(getR 7 l).mode.toNat≤2∧¬((7:Int)=10∧(getR 7 l).epoch=0):=by refine ⟨zc,zc,zb,by rw [hm];decide,zb⟩
 exact RQ.pp (resWT rfl rfl rfl isAgg69 sizeOf69 mQ rfl) (Split.nn _) ⟨by rw [gotR,if_pos hok];(try simp only [u32_nt,u16_nt]);rfl,rfl,rfl⟩
theorem rgot_8 (p:Option Addr) (n c:Nat) (l:List B8) (hn:l.length=n) (h:n=1):Spc prog 134 #[.int .i64 8, .slice p n c] [sls p 1 n (bytes l)] [] (Is (gotV (gotR 8 l))):=by
 subst h
 refine Spc.some' (g:=fun p=> #[.int .i64 8, .slice p 1 c]) (I:=fun p=> [sls p 1 1 (bytes l)]) (H:=fun _=> []) (R:=fun _=> Is _) (List.Mem.head _) zc (fun q _=> ?_)
 refine Spc.en func134 rfl rfl (fun w0 hw0=> ?_)
 refine CW.sg [0] [] (RL.al zeroValue69 rfl ?_)
 intro b1
 refine RL.pn rfl (CW.sr (RL.p rfl (RL.vq (rsize_any 8) call132 rfl ?_)))
 refine RL.p rfl ?_
 rw [show sizeV 8= .tuple #[.int .i64 1, .int .i64 0] from rfl]
 refine RL.q rfl (RL.qn rfl (CW.ok [0,1,4,6,7] rfl (CW.ss (CW.sr (RL.q rfl (RL.p rfl (RL.tt (d:=18) (v':= .bool false) rfl (rfl) ?_)))))))
 refine RL.q rfl (RL.lenS runUnderlying74 rfl (RL.qn rfl (CW.ok [0,1,4,23] rfl (CW.cF rfl (rfl) (CW.sn (CW.sg [2,3] [3] (RL.p rfl ?_)))))))
 refine RL.bS (Rdg.cells (rz 8)) zeroValue69 pl_69 rfl (RL.al zeroValue69 rfl ?_)
 intro b2
 refine RL.sq sizeOf69 rfl ?_
 refine RL.ns (CW.ss (CW.sr (RL.pn rfl (CW.bb (CW.sr (RL.q rfl (RL.ee ?_)))))))
 refine NQ.ss (CW.cF rfl (rfl) (CW.s1 rfl (CW.ok [0,1,4,8,27,53] rfl (CW.cF rfl (rfl) (CW.sr (RL.q rfl ?_))))))
 refine RL.ns (CW.cF rfl (rfl) (CW.s1 rfl (CW.cF rfl (rfl) (CW.sr (RL.q rfl ?_)))))
 refine RL.ns (CW.ok [0,1,4,8,27,76] rfl (CW.cF rfl (rfl) (CW.s1 rfl (CW.cF rfl (rfl) (CW.sr (RL.p rfl ?_))))))
 refine RL.pn rfl (CW.cF rfl (rfl) (CW.s1 rfl (CW.ok [0,1,4,8,27,120] rfl (CW.cT rfl (rfl) (CW.rn (ef:= [4]) (bk:= [4]) (RL.p rfl ?_))))))
 have hv0:=bat_v (l:=l) (o:=0) zb
 refine RL.idx (j:=0) runUnderlying74 sizeOf5 rfl rfl zc ?_
 refine RL.lq isAgg5 rfl ?_
 refine RL.fa fa_69_12 rfl (RL.store (vs:= [_]) sizeOf5 rfl rfl uE ?_)
 refine RL.ee (NQ.bb (NQ.ss (CW.ok [0,4,8] rfl (CW.ss (CW.sr (RL.fa fa_69_12 rfl (RL.lq isAgg5 rfl ?_)))))))
 refine RL.q rfl ?_
 have hm:(getR 8 l).mode=bat l 0:=rfl
 have hq:(getR 8 l).epoch=0:=rfl
 have hz:sizeR 8=1:=rfl
 refine RL.part (d:=187) rfl (fun h1=> ?_) (fun h1=> ?_)
 ·
  refine RL.q rfl (RL.q rfl (RL.q rfl (RL.qn rfl (CW.ok [4,8,195] rfl (CW.cT rfl rfl (CW.sg [1] [1] ?_))))))
  refine RL.bS _ zeroValue69 pl_69 rfl (RL.sq sizeOf69 rfl ?_)
  refine RL.pn rfl (CW.rr (RQ.ss ?_))
  have h1:2 < (bat l 0).toNat:=by simp at h1;omega
  rw [←hm] at h1
  exact RQ.pp (resWT rfl rfl rfl isAgg69 sizeOf69 mQ rfl) (Split.nn _) ⟨by rw [gotR,if_neg zb];rfl,rfl,rfl⟩
 ·
  refine RL.q rfl (RL.p rfl ?_)
  have h1: ¬2 < (bat l 0).toNat:=by simp at h1;omega
  refine RL.tt (d:=190) (v':= .bool false) rfl (rfl) ?_
  refine RL.q rfl (RL.p rfl (RL.qn rfl (CW.ok [4,8,195] rfl (CW.cF rfl rfl (CW.sn (CW.sg [1] [1] (RL.lW isAgg69 sizeOf69 rfl mQ zf ?_)))))))
  refine RL.sq sizeOf69 rfl ?_
  refine RL.pn rfl (CW.rr ?_)
  rw [←hm] at h1
  have hok:1≤(8:Int)∧(8:Int)≤14∧l.length=sizeR 8∧(getR 8 l).mode.toNat≤2∧¬((8:Int)=10∧(getR 8 l).epoch=0):=by refine ⟨zc,zc,zb,zb,zb⟩
  exact RQ.pp (resWT rfl rfl rfl isAgg69 sizeOf69 mQ rfl) (Split.nn _) ⟨by rw [gotR,if_pos hok];(try simp only [u32_nt,u16_nt]);rfl,rfl,rfl⟩
theorem rgot_9 (p:Option Addr) (n c:Nat) (l:List B8) (hn:l.length=n) (h:n=0):Spc prog 134 #[.int .i64 9, .slice p n c] [sls p 1 n (bytes l)] [] (Is (gotV (gotR 9 l))):=by
 subst h
 refine Spc.en func134 rfl rfl (fun w0 hw0=> ?_)
 refine CW.sg [0] [] (RL.al zeroValue69 rfl ?_)
 intro b1
 refine RL.pn rfl (CW.sr (RL.p rfl (RL.vq (rsize_any 9) call132 rfl ?_)))
 refine RL.p rfl ?_
 rw [show sizeV 9= .tuple #[.int .i64 0, .int .i64 0] from rfl]
 refine RL.q rfl (RL.qn rfl (CW.ok [0,1,4,6,7] rfl (CW.ss (CW.sr (RL.q rfl (RL.p rfl (RL.tt (d:=18) (v':= .bool false) rfl (rfl) ?_)))))))
 refine RL.q rfl (RL.lenS runUnderlying74 rfl (RL.qn rfl (CW.ok [0,1,4,23] rfl (CW.cF rfl (rfl) (CW.sn (CW.sg [2,3] [3] (RL.p rfl ?_)))))))
 refine RL.bS (Rdg.cells (rz 9)) zeroValue69 pl_69 rfl (RL.al zeroValue69 rfl ?_)
 intro b2
 refine RL.sq sizeOf69 rfl ?_
 refine RL.ns (CW.ss (CW.sr (RL.pn rfl (CW.bb (CW.sr (RL.q rfl (RL.ee ?_)))))))
 refine NQ.ss (CW.cF rfl (rfl) (CW.s1 rfl (CW.ok [0,1,4,8,27,53] rfl (CW.cF rfl (rfl) (CW.sr (RL.q rfl ?_))))))
 refine RL.ns (CW.cF rfl (rfl) (CW.s1 rfl (CW.cF rfl (rfl) (CW.sr (RL.q rfl ?_)))))
 refine RL.ns (CW.ok [0,1,4,8,27,76] rfl (CW.cF rfl (rfl) (CW.s1 rfl (CW.cF rfl (rfl) (CW.sr (RL.p rfl ?_))))))
 refine RL.pn rfl (CW.cF rfl (rfl) (CW.s1 rfl (CW.ok [0,1,4,8,27,120] rfl (CW.cF rfl (rfl) (CW.sr ?_)))))
 refine RL.qn rfl (CW.cF rfl (rfl) (CW.s1 rfl (CW.cF rfl (rfl) (CW.sr ?_))))
 refine RL.qn rfl (CW.ok [0,1,4,8,27,138] rfl (CW.cF rfl (rfl) (CW.s1 rfl (CW.cF rfl (rfl) (CW.kk ?_)))))
 refine NQ.bb (NQ.ss (CW.ss (CW.sr (RL.fa fa_69_12 rfl (RL.lq isAgg5 rfl ?_)))))
 refine RL.q rfl ?_
 have hm:(getR 9 l).mode=0#8:=rfl
 have hq:(getR 9 l).epoch=0:=rfl
 have hz:sizeR 9=0:=rfl
 refine RL.tt (d:=187) (v':= .bool false) rfl (rfl) ?_
 refine RL.q rfl (RL.p rfl (RL.tt (d:=190) (v':= .bool false) rfl (rfl) ?_))
 refine RL.q rfl (RL.p rfl (RL.qn rfl (CW.ok [4,8,195] rfl (CW.cF rfl rfl (CW.sn (CW.sg [1] [1] (RL.lW isAgg69 sizeOf69 rfl mQ zf ?_)))))))
 refine RL.sq sizeOf69 rfl ?_
 refine RL.pn rfl (CW.rr ?_)
 have hok:1≤(9:Int)∧(9:Int)≤14∧l.length=sizeR 9∧(getR 9 l).mode.toNat≤2∧¬((9:Int)=10∧(getR 9 l).epoch=0):=by refine ⟨zc,zc,zb,by rw [hm];decide,zb⟩
 exact RQ.pp (resWT rfl rfl rfl isAgg69 sizeOf69 mQ rfl) (Split.nn _) ⟨by rw [gotR,if_pos hok];(try simp only [u32_nt,u16_nt]);rfl,rfl,rfl⟩
theorem rgot_10 (p:Option Addr) (n c:Nat) (l:List B8) (hn:l.length=n) (h:n=4):Spc prog 134 #[.int .i64 10, .slice p n c] [sls p 1 n (bytes l)] [] (Is (gotV (gotR 10 l))):=by
 subst h
 refine Spc.some' (g:=fun p=> #[.int .i64 10, .slice p 4 c]) (I:=fun p=> [sls p 1 4 (bytes l)]) (H:=fun _=> []) (R:=fun _=> Is _) (List.Mem.head _) zc (fun q _=> ?_)
 refine Spc.en func134 rfl rfl (fun w0 hw0=> ?_)
 refine CW.sg [0] [] (RL.al zeroValue69 rfl ?_)
 intro b1
 refine RL.pn rfl (CW.sr (RL.p rfl (RL.vq (rsize_any 10) call132 rfl ?_)))
 refine RL.p rfl ?_
 rw [show sizeV 10= .tuple #[.int .i64 4, .int .i64 0] from rfl]
 refine RL.q rfl (RL.qn rfl (CW.ok [0,1,4,6,7] rfl (CW.ss (CW.sr (RL.q rfl (RL.p rfl (RL.tt (d:=18) (v':= .bool false) rfl (rfl) ?_)))))))
 refine RL.q rfl (RL.lenS runUnderlying74 rfl (RL.qn rfl (CW.ok [0,1,4,23] rfl (CW.cF rfl (rfl) (CW.sn (CW.sg [2,3] [3] (RL.p rfl ?_)))))))
 refine RL.bS (Rdg.cells (rz 10)) zeroValue69 pl_69 rfl (RL.al zeroValue69 rfl ?_)
 intro b2
 refine RL.sq sizeOf69 rfl ?_
 refine RL.ns (CW.ss (CW.sr (RL.pn rfl (CW.bb (CW.sr (RL.q rfl (RL.ee ?_)))))))
 refine NQ.ss (CW.cF rfl (rfl) (CW.s1 rfl (CW.ok [0,1,4,8,27,53] rfl (CW.cF rfl (rfl) (CW.sr (RL.q rfl ?_))))))
 refine RL.ns (CW.cF rfl (rfl) (CW.s1 rfl (CW.cF rfl (rfl) (CW.sr (RL.q rfl ?_)))))
 refine RL.ns (CW.ok [0,1,4,8,27,76] rfl (CW.cF rfl (rfl) (CW.s1 rfl (CW.cF rfl (rfl) (CW.sr (RL.p rfl ?_))))))
 refine RL.pn rfl (CW.cF rfl (rfl) (CW.s1 rfl (CW.ok [0,1,4,8,27,120] rfl (CW.cF rfl (rfl) (CW.sr ?_)))))
 refine RL.qn rfl (CW.cT rfl (rfl) (CW.rn (ef:= [4]) (bk:= [4]) (RL.p rfl (RL.vq (rnat_any (some q) 4 c 0 4 l hn zc zc zc) call164 rfl ?_))))
 refine RL.conv runUnderlying32 runUnderlying61 rfl (RL.fa fa_69_13 rfl (RL.store (vs:= [_]) sizeOf61 rfl rfl uE ?_))
 refine RL.ee (NQ.bb (NQ.ss (CW.ok [0,4,8] rfl (CW.ss (CW.sr (RL.fa fa_69_12 rfl (RL.lq isAgg5 rfl ?_)))))))
 refine RL.q rfl ?_
 have hm:(getR 10 l).mode=0#8:=rfl
 have hq:(getR 10 l).epoch=(nat l 0 4:Int):=rfl
 have hz:sizeR 10=4:=rfl
 refine RL.tt (d:=187) (v':= .bool false) rfl (rfl) ?_
 refine RL.q rfl (RL.p rfl (RL.tt (d:=190) (v':= .bool true) rfl (rfl) ?_))
 refine RL.fa fa_69_13 rfl (RL.lq isAgg61 rfl ?_)
 refine RL.p rfl (RL.qn rfl (CW.ok [4,8,195] rfl ?_))
 refine CW.cd rfl (fun h3=> ?_) (fun h3=> ?_)
 ·
  refine CW.sg [1] [1] (RL.bS _ zeroValue69 pl_69 rfl (RL.sq sizeOf69 rfl ?_))
  refine RL.pn rfl (CW.rr (RQ.ss ?_))
  have h3:(nat l 0 4:Int)=0:=by simpa [u32_nt] using h3
  rw [←hq] at h3
  exact RQ.pp (resWT rfl rfl rfl isAgg69 sizeOf69 mQ rfl) (Split.nn _) ⟨by rw [gotR,if_neg zb];rfl,rfl,rfl⟩
 ·
  refine CW.sn (CW.sg [1] [1] (RL.lW isAgg69 sizeOf69 rfl mQ zf ?_))
  refine RL.sq sizeOf69 rfl ?_
  refine RL.pn rfl (CW.rr ?_)
  have h3: ¬(nat l 0 4:Int)=0:=by simpa [u32_nt] using h3
  rw [←hq] at h3
  have hok:1≤(10:Int)∧(10:Int)≤14∧l.length=sizeR 10∧(getR 10 l).mode.toNat≤2∧¬((10:Int)=10∧(getR 10 l).epoch=0):=by refine ⟨zc,zc,zb,by rw [hm];decide,fun h=> h3 h.2⟩
  exact RQ.pp (resWT rfl rfl rfl isAgg69 sizeOf69 mQ rfl) (Split.nn _) ⟨by rw [gotR,if_pos hok];(try simp only [u32_nt,u16_nt]);rfl,rfl,rfl⟩
theorem rgot_11 (p:Option Addr) (n c:Nat) (l:List B8) (hn:l.length=n) (h:n=0):Spc prog 134 #[.int .i64 11, .slice p n c] [sls p 1 n (bytes l)] [] (Is (gotV (gotR 11 l))):=by
 subst h
 refine Spc.en func134 rfl rfl (fun w0 hw0=> ?_)
 refine CW.sg [0] [] (RL.al zeroValue69 rfl ?_)
 intro b1
 refine RL.pn rfl (CW.sr (RL.p rfl (RL.vq (rsize_any 11) call132 rfl ?_)))
 refine RL.p rfl ?_
 rw [show sizeV 11= .tuple #[.int .i64 0, .int .i64 0] from rfl]
 refine RL.q rfl (RL.qn rfl (CW.ok [0,1,4,6,7] rfl (CW.ss (CW.sr (RL.q rfl (RL.p rfl (RL.tt (d:=18) (v':= .bool false) rfl (rfl) ?_)))))))
 refine RL.q rfl (RL.lenS runUnderlying74 rfl (RL.qn rfl (CW.ok [0,1,4,23] rfl (CW.cF rfl (rfl) (CW.sn (CW.sg [2,3] [3] (RL.p rfl ?_)))))))
 refine RL.bS (Rdg.cells (rz 11)) zeroValue69 pl_69 rfl (RL.al zeroValue69 rfl ?_)
 intro b2
 refine RL.sq sizeOf69 rfl ?_
 refine RL.ns (CW.ss (CW.sr (RL.pn rfl (CW.bb (CW.sr (RL.q rfl (RL.ee ?_)))))))
 refine NQ.ss (CW.cF rfl (rfl) (CW.s1 rfl (CW.ok [0,1,4,8,27,53] rfl (CW.cF rfl (rfl) (CW.sr (RL.q rfl ?_))))))
 refine RL.ns (CW.cF rfl (rfl) (CW.s1 rfl (CW.cF rfl (rfl) (CW.sr (RL.q rfl ?_)))))
 refine RL.ns (CW.ok [0,1,4,8,27,76] rfl (CW.cF rfl (rfl) (CW.s1 rfl (CW.cF rfl (rfl) (CW.sr (RL.p rfl ?_))))))
 refine RL.pn rfl (CW.cF rfl (rfl) (CW.s1 rfl (CW.ok [0,1,4,8,27,120] rfl (CW.cF rfl (rfl) (CW.sr ?_)))))
 refine RL.qn rfl (CW.cF rfl (rfl) (CW.s1 rfl (CW.cF rfl (rfl) (CW.sr ?_))))
 refine RL.qn rfl (CW.ok [0,1,4,8,27,138] rfl (CW.cF rfl (rfl) (CW.s1 rfl (CW.cF rfl (rfl) (CW.kk ?_)))))
 refine NQ.bb (NQ.ss (CW.ss (CW.sr (RL.fa fa_69_12 rfl (RL.lq isAgg5 rfl ?_)))))
 refine RL.q rfl ?_
 have hm:(getR 11 l).mode=0#8:=rfl
 have hq:(getR 11 l).epoch=0:=rfl
 have hz:sizeR 11=0:=rfl
 refine RL.tt (d:=187) (v':= .bool false) rfl (rfl) ?_
 refine RL.q rfl (RL.p rfl (RL.tt (d:=190) (v':= .bool false) rfl (rfl) ?_))
 refine RL.q rfl (RL.p rfl (RL.qn rfl (CW.ok [4,8,195] rfl (CW.cF rfl rfl (CW.sn (CW.sg [1] [1] (RL.lW isAgg69 sizeOf69 rfl mQ zf ?_)))))))
 refine RL.sq sizeOf69 rfl ?_
 refine RL.pn rfl (CW.rr ?_)
 have hok:1≤(11:Int)∧(11:Int)≤14∧l.length=sizeR 11∧(getR 11 l).mode.toNat≤2∧¬((11:Int)=10∧(getR 11 l).epoch=0):=by refine ⟨zc,zc,zb,by rw [hm];decide,zb⟩
 exact RQ.pp (resWT rfl rfl rfl isAgg69 sizeOf69 mQ rfl) (Split.nn _) ⟨by rw [gotR,if_pos hok];(try simp only [u32_nt,u16_nt]);rfl,rfl,rfl⟩
theorem rgot_12 (p:Option Addr) (n c:Nat) (l:List B8) (hn:l.length=n) (h:n=1):Spc prog 134 #[.int .i64 12, .slice p n c] [sls p 1 n (bytes l)] [] (Is (gotV (gotR 12 l))):=by
 subst h
 refine Spc.some' (g:=fun p=> #[.int .i64 12, .slice p 1 c]) (I:=fun p=> [sls p 1 1 (bytes l)]) (H:=fun _=> []) (R:=fun _=> Is _) (List.Mem.head _) zc (fun q _=> ?_)
 refine Spc.en func134 rfl rfl (fun w0 hw0=> ?_)
 refine CW.sg [0] [] (RL.al zeroValue69 rfl ?_)
 intro b1
 refine RL.pn rfl (CW.sr (RL.p rfl (RL.vq (rsize_any 12) call132 rfl ?_)))
 refine RL.p rfl ?_
 rw [show sizeV 12= .tuple #[.int .i64 1, .int .i64 0] from rfl]
 refine RL.q rfl (RL.qn rfl (CW.ok [0,1,4,6,7] rfl (CW.ss (CW.sr (RL.q rfl (RL.p rfl (RL.tt (d:=18) (v':= .bool false) rfl (rfl) ?_)))))))
 refine RL.q rfl (RL.lenS runUnderlying74 rfl (RL.qn rfl (CW.ok [0,1,4,23] rfl (CW.cF rfl (rfl) (CW.sn (CW.sg [2,3] [3] (RL.p rfl ?_)))))))
 refine RL.bS (Rdg.cells (rz 12)) zeroValue69 pl_69 rfl (RL.al zeroValue69 rfl ?_)
 intro b2
 refine RL.sq sizeOf69 rfl ?_
 refine RL.ns (CW.ss (CW.sr (RL.pn rfl (CW.bb (CW.sr (RL.q rfl (RL.ee ?_)))))))
 refine NQ.ss (CW.cF rfl (rfl) (CW.s1 rfl (CW.ok [0,1,4,8,27,53] rfl (CW.cF rfl (rfl) (CW.sr (RL.q rfl ?_))))))
 refine RL.ns (CW.cF rfl (rfl) (CW.s1 rfl (CW.cF rfl (rfl) (CW.sr (RL.q rfl ?_)))))
 refine RL.ns (CW.ok [0,1,4,8,27,76] rfl (CW.cF rfl (rfl) (CW.s1 rfl (CW.cF rfl (rfl) (CW.sr (RL.p rfl ?_))))))
 refine RL.pn rfl (CW.cF rfl (rfl) (CW.s1 rfl (CW.ok [0,1,4,8,27,120] rfl (CW.cF rfl (rfl) (CW.sr ?_)))))
 refine RL.qn rfl (CW.cF rfl (rfl) (CW.s1 rfl (CW.cT rfl (rfl) (CW.rn (ef:= [4]) (bk:= [4]) (RL.p rfl ?_)))))
 have hv0:=bat_v (l:=l) (o:=0) zb
 refine RL.idx (j:=0) runUnderlying74 sizeOf5 rfl rfl zc ?_
 refine RL.lq isAgg5 rfl ?_
 refine RL.fa fa_69_16 rfl (RL.store (vs:= [_]) sizeOf5 rfl rfl uE ?_)
 refine RL.ee (NQ.bb (NQ.ss (CW.ok [0,4,8] rfl (CW.ss (CW.sr (RL.fa fa_69_12 rfl (RL.lq isAgg5 rfl ?_)))))))
 refine RL.q rfl ?_
 have hm:(getR 12 l).mode=0#8:=rfl
 have hq:(getR 12 l).epoch=0:=rfl
 have hz:sizeR 12=1:=rfl
 refine RL.tt (d:=187) (v':= .bool false) rfl (rfl) ?_
 refine RL.q rfl (RL.p rfl (RL.tt (d:=190) (v':= .bool false) rfl (rfl) ?_))
 refine RL.q rfl (RL.p rfl (RL.qn rfl (CW.ok [4,8,195] rfl (CW.cF rfl rfl (CW.sn (CW.sg [1] [1] (RL.lW isAgg69 sizeOf69 rfl mQ zf ?_)))))))
 refine RL.sq sizeOf69 rfl ?_
 refine RL.pn rfl (CW.rr ?_)
 have hok:1≤(12:Int)∧(12:Int)≤14∧l.length=sizeR 12∧(getR 12 l).mode.toNat≤2∧¬((12:Int)=10∧(getR 12 l).epoch=0):=by refine ⟨zc,zc,zb,by rw [hm];decide,zb⟩
 exact RQ.pp (resWT rfl rfl rfl isAgg69 sizeOf69 mQ rfl) (Split.nn _) ⟨by rw [gotR,if_pos hok];(try simp only [u32_nt,u16_nt]);rfl,rfl,rfl⟩
theorem rgot_13 (p:Option Addr) (n c:Nat) (l:List B8) (hn:l.length=n) (h:n=37):Spc prog 134 #[.int .i64 13, .slice p n c] [sls p 1 n (bytes l)] [] (Is (gotV (gotR 13 l))):=by
 subst h
 refine Spc.some' (g:=fun p=> #[.int .i64 13, .slice p 37 c]) (I:=fun p=> [sls p 1 37 (bytes l)]) (H:=fun _=> []) (R:=fun _=> Is _) (List.Mem.head _) zc (fun q _=> ?_)
 refine Spc.en func134 rfl rfl (fun w0 hw0=> ?_)
 refine CW.sg [0] [] (RL.al zeroValue69 rfl ?_)
 intro b1
 refine RL.pn rfl (CW.sr (RL.p rfl (RL.vq (rsize_any 13) call132 rfl ?_)))
 refine RL.p rfl ?_
 rw [show sizeV 13= .tuple #[.int .i64 37, .int .i64 0] from rfl]
 refine RL.q rfl (RL.qn rfl (CW.ok [0,1,4,6,7] rfl (CW.ss (CW.sr (RL.q rfl (RL.p rfl (RL.tt (d:=18) (v':= .bool false) rfl (rfl) ?_)))))))
 refine RL.q rfl (RL.lenS runUnderlying74 rfl (RL.qn rfl (CW.ok [0,1,4,23] rfl (CW.cF rfl (rfl) (CW.sn (CW.sg [2,3] [3] (RL.p rfl ?_)))))))
 refine RL.bS (Rdg.cells (rz 13)) zeroValue69 pl_69 rfl (RL.al zeroValue69 rfl ?_)
 intro b2
 refine RL.sq sizeOf69 rfl ?_
 refine RL.ns (CW.ss (CW.sr (RL.pn rfl (CW.bb (CW.sr (RL.q rfl (RL.ee ?_)))))))
 refine NQ.ss (CW.cF rfl (rfl) (CW.s1 rfl (CW.ok [0,1,4,8,27,53] rfl (CW.cF rfl (rfl) (CW.sr (RL.q rfl ?_))))))
 refine RL.ns (CW.cF rfl (rfl) (CW.s1 rfl (CW.cF rfl (rfl) (CW.sr (RL.q rfl ?_)))))
 refine RL.ns (CW.ok [0,1,4,8,27,76] rfl (CW.cF rfl (rfl) (CW.s1 rfl (CW.cF rfl (rfl) (CW.sr (RL.p rfl ?_))))))
 refine RL.pn rfl (CW.cF rfl (rfl) (CW.s1 rfl (CW.ok [0,1,4,8,27,120] rfl (CW.cF rfl (rfl) (CW.sr ?_)))))
 refine RL.qn rfl (CW.cF rfl (rfl) (CW.s1 rfl (CW.cF rfl (rfl) (CW.sr ?_))))
 refine RL.qn rfl (CW.ok [0,1,4,8,27,138] rfl (CW.cT rfl (rfl) (CW.sg [4] [4] (RL.p rfl ?_))))
 have hv0:=bat_v (l:=l) (o:=0) zb
 refine RL.idx (j:=0) runUnderlying74 sizeOf5 rfl rfl zc ?_
 refine RL.lq isAgg5 rfl ?_
 refine RL.fa fa_69_12 rfl (RL.store (vs:= [_]) sizeOf5 rfl rfl uE ?_)
 refine RL.ns (CW.ok [0,1,4,8] rfl (CW.sg [11] [11] (RL.p rfl (RL.vq (rnat_any (some q) 37 c 1 8 l hn zc zc zc) call164 rfl ?_))))
 refine RL.conv runUnderlying32 runUnderlying25 rfl (RL.p rfl (RL.vq (rnat_any (some q) 37 c 9 8 l hn zc zc zc) call164 rfl ?_))
 refine RL.conv runUnderlying32 runUnderlying25 rfl (RL.p rfl (RL.vq (rnat_any (some q) 37 c 17 8 l hn zc zc zc) call164 rfl ?_))
 refine RL.conv runUnderlying32 runUnderlying25 rfl (RL.buildA [_,_,_] zeroValue27 runUnderlying27 sizeOf25 rfl (RL.fa fa_69_9 rfl (RL.sX (cs':=spl _ (0+13) [_,_,_]) (vs:= [_,_,_]) rfl sizeOf27 rfl rfl uE (Nat.le_of_ble_eq_true rfl) ?_)))
 refine RL.ns (CW.ok [0,1,4,8] rfl (CW.rn (ef:= [7,9]) (bk:= [7,9]) (RL.p rfl (RL.vq (rnat_any (some q) 37 c 25 8 l hn zc zc zc) call164 rfl ?_))))
 refine RL.conv runUnderlying32 runUnderlying25 rfl (RL.p rfl (RL.vq (rnat_any (some q) 37 c 33 4 l hn zc zc zc) call164 rfl ?_))
 refine RL.conv runUnderlying32 runUnderlying61 rfl (RL.fa fa_69_14 rfl (RL.store (vs:= [_]) sizeOf25 rfl rfl uE ?_))
 refine RL.fa fa_69_15 rfl (RL.store (vs:= [_]) sizeOf61 rfl rfl uE ?_)
 refine RL.ee (NQ.bb (NQ.ss (CW.ok [0,4,8] rfl (CW.ss (CW.sr (RL.fa fa_69_12 rfl (RL.lq isAgg5 rfl ?_)))))))
 refine RL.q rfl ?_
 have hm:(getR 13 l).mode=bat l 0:=rfl
 have hq:(getR 13 l).epoch=0:=rfl
 have hz:sizeR 13=37:=rfl
 refine RL.part (d:=187) rfl (fun h1=> ?_) (fun h1=> ?_)
 ·
  refine RL.q rfl (RL.q rfl (RL.q rfl (RL.qn rfl (CW.ok [4,8,195] rfl (CW.cT rfl rfl (CW.sg [1] [1] ?_))))))
  refine RL.bS _ zeroValue69 pl_69 rfl (RL.sq sizeOf69 rfl ?_)
  refine RL.pn rfl (CW.rr (RQ.ss ?_))
  have h1:2 < (bat l 0).toNat:=by simp at h1;omega
  rw [←hm] at h1
  exact RQ.pp (resWT rfl rfl rfl isAgg69 sizeOf69 mQ rfl) (Split.nn _) ⟨by rw [gotR,if_neg zb];rfl,rfl,rfl⟩
 ·
  refine RL.q rfl (RL.p rfl ?_)
  have h1: ¬2 < (bat l 0).toNat:=by simp at h1;omega
  refine RL.tt (d:=190) (v':= .bool false) rfl (rfl) ?_
  refine RL.q rfl (RL.p rfl (RL.qn rfl (CW.ok [4,8,195] rfl (CW.cF rfl rfl (CW.sn (CW.sg [1] [1] (RL.lW isAgg69 sizeOf69 rfl mQ zf ?_)))))))
  refine RL.sq sizeOf69 rfl ?_
  refine RL.pn rfl (CW.rr ?_)
  rw [←hm] at h1
  have hok:1≤(13:Int)∧(13:Int)≤14∧l.length=sizeR 13∧(getR 13 l).mode.toNat≤2∧¬((13:Int)=10∧(getR 13 l).epoch=0):=by refine ⟨zc,zc,zb,zb,zb⟩
  exact RQ.pp (resWT rfl rfl rfl isAgg69 sizeOf69 mQ rfl) (Split.nn _) ⟨by rw [gotR,if_pos hok];(try simp only [u32_nt,u16_nt]);rfl,rfl,rfl⟩
theorem rgot_14 (p:Option Addr) (n c:Nat) (l:List B8) (hn:l.length=n) (h:n=16):Spc prog 134 #[.int .i64 14, .slice p n c] [sls p 1 n (bytes l)] [] (Is (gotV (gotR 14 l))):=by
 subst h
 refine Spc.some' (g:=fun p=> #[.int .i64 14, .slice p 16 c]) (I:=fun p=> [sls p 1 16 (bytes l)]) (H:=fun _=> []) (R:=fun _=> Is _) (List.Mem.head _) zc (fun q _=> ?_)
 refine Spc.en func134 rfl rfl (fun w0 hw0=> ?_)
 refine CW.sg [0] [] (RL.al zeroValue69 rfl ?_)
 intro b1
 refine RL.pn rfl (CW.sr (RL.p rfl (RL.vq (rsize_any 14) call132 rfl ?_)))
 refine RL.p rfl ?_
 rw [show sizeV 14= .tuple #[.int .i64 16, .int .i64 0] from rfl]
 refine RL.q rfl (RL.qn rfl (CW.ok [0,1,4,6,7] rfl (CW.ss (CW.sr (RL.q rfl (RL.p rfl (RL.tt (d:=18) (v':= .bool false) rfl (rfl) ?_)))))))
 refine RL.q rfl (RL.lenS runUnderlying74 rfl (RL.qn rfl (CW.ok [0,1,4,23] rfl (CW.cF rfl (rfl) (CW.sn (CW.sg [2,3] [3] (RL.p rfl ?_)))))))
 refine RL.bS (Rdg.cells (rz 14)) zeroValue69 pl_69 rfl (RL.al zeroValue69 rfl ?_)
 intro b2
 refine RL.sq sizeOf69 rfl ?_
 refine RL.ns (CW.ss (CW.sr (RL.pn rfl (CW.bb (CW.sr (RL.q rfl (RL.ee ?_)))))))
 refine NQ.ss (CW.cF rfl (rfl) (CW.s1 rfl (CW.ok [0,1,4,8,27,53] rfl (CW.cF rfl (rfl) (CW.sr (RL.q rfl ?_))))))
 refine RL.ns (CW.cF rfl (rfl) (CW.s1 rfl (CW.cF rfl (rfl) (CW.sr (RL.q rfl ?_)))))
 refine RL.ns (CW.ok [0,1,4,8,27,76] rfl (CW.cF rfl (rfl) (CW.s1 rfl (CW.cF rfl (rfl) (CW.sr (RL.p rfl ?_))))))
 refine RL.pn rfl (CW.cF rfl (rfl) (CW.s1 rfl (CW.ok [0,1,4,8,27,120] rfl (CW.cF rfl (rfl) (CW.sr ?_)))))
 refine RL.qn rfl (CW.cF rfl (rfl) (CW.s1 rfl (CW.cF rfl (rfl) (CW.sr ?_))))
 refine RL.qn rfl (CW.ok [0,1,4,8,27,138] rfl (CW.cF rfl (rfl) (CW.s1 rfl (CW.cT rfl (rfl) (CW.ss ?_)))))
 refine CW.cut [(0, .int .i64 14),(1, .slice (some q) 16 c),(4, .pointer (some ⟨b1,0,none⟩)),(8, .pointer (some ⟨b2,0,none⟩))] [sls (some q) 1 16 (bytes l)] [cel b2 (spl (spl (spl (Rdg.cells (rz 14)) (0+53) [U8 (bat l 0)]) (0+54) [U8 (bat l 1)]) (0+55) [.int .u16 (IntKind.u16.wrap (nat l 2 2:Int))]) 69,cel b1 (Rdg.cells (rz 0)) 69] ?_ ?_
 ·
  have hv0:=bat_v (l:=l) (o:=0) zb
  have hv1:=bat_v (l:=l) (o:=1) zb
  refine CW.rD (.cons 0 (.cons 1 (.cons 2 (.cons 3 (.cons 4 (.cons 6 (.cons 7 (.cons 8 (.cons 9 (.fork [5,10] (fun k=> (bif Nat.beq k 5 then (Sq.of [10,11,12,13,14]) else (Sq.of [5,11,12,13,14]))))))))))))) [10,12,14] [10,12,14] [0,1,3,4,6,8,9,11,13] mixed zi ?_
  refine RL.p rfl (RL.idx (j:=0) runUnderlying74 sizeOf5 rfl rfl zc ?_)
  refine RL.lq isAgg5 rfl ?_
  refine RL.p rfl (RL.idx (j:=1) runUnderlying74 sizeOf5 rfl rfl zc ?_)
  refine RL.p rfl (RL.vq (rnat_any (some q) 16 c 2 2 l hn zc zc zc) call164 rfl ?_)
  refine RL.conv runUnderlying32 runUnderlying67 rfl (RL.fa fa_69_16 rfl ?_)
  refine RL.fork ⟨?_, ?_,trivial⟩
  ·
   refine RL.lq isAgg5 rfl ?_
   refine RL.store (vs:= [_]) sizeOf5 rfl rfl uE ?_
   refine RL.fa fa_69_17 rfl (RL.store (vs:= [_]) sizeOf5 rfl rfl uE ?_)
   refine RL.fa fa_69_18 rfl (RL.store (vs:= [_]) sizeOf67 rfl rfl uE ?_)
   refine RL.ee ?_
   exact NQ.mid sE (fun _ h=> h)
  ·
   refine RL.store (vs:= [_]) sizeOf5 rfl rfl uE ?_
   refine RL.lq isAgg5 rfl ?_
   refine RL.fa fa_69_17 rfl (RL.store (vs:= [_]) sizeOf5 rfl rfl uE ?_)
   refine RL.fa fa_69_18 rfl (RL.store (vs:= [_]) sizeOf67 rfl rfl uE ?_)
   refine RL.ee ?_
   exact NQ.mid sE (fun _ h=> h)
 refine CW.rn (ef:= [6,8]) (bk:= [6,8]) (RL.p rfl (RL.vq (rnat_any (some q) 16 c 4 8 l hn zc zc zc) call164 rfl ?_))
 refine RL.p rfl (RL.vq (rnat_any (some q) 16 c 12 4 l hn zc zc zc) call164 rfl ?_)
 refine RL.conv runUnderlying32 runUnderlying61 rfl (RL.fa fa_69_19 rfl (RL.store (vs:= [_]) sizeOf32 rfl rfl uE ?_))
 refine RL.fa fa_69_13 rfl (RL.store (vs:= [_]) sizeOf61 rfl rfl uE ?_)
 refine RL.ee (NQ.bb (NQ.ss (CW.ok [0,4,8] rfl (CW.ss (CW.sr (RL.fa fa_69_12 rfl (RL.lq isAgg5 rfl ?_)))))))
 refine RL.q rfl ?_
 have hm:(getR 14 l).mode=0#8:=rfl
 have hq:(getR 14 l).epoch=(nat l 12 4:Int):=rfl
 have hz:sizeR 14=16:=rfl
 refine RL.tt (d:=187) (v':= .bool false) rfl (rfl) ?_
 refine RL.q rfl (RL.p rfl (RL.tt (d:=190) (v':= .bool false) rfl (rfl) ?_))
 refine RL.q rfl (RL.p rfl (RL.qn rfl (CW.ok [4,8,195] rfl (CW.cF rfl rfl (CW.sn (CW.sg [1] [1] (RL.lW isAgg69 sizeOf69 rfl mQ zf ?_)))))))
 refine RL.sq sizeOf69 rfl ?_
 refine RL.pn rfl (CW.rr ?_)
 have hok:1≤(14:Int)∧(14:Int)≤14∧l.length=sizeR 14∧(getR 14 l).mode.toNat≤2∧¬((14:Int)=10∧(getR 14 l).epoch=0):=by refine ⟨zc,zc,zb,by rw [hm];decide,zb⟩
 exact RQ.pp (resWT rfl rfl rfl isAgg69 sizeOf69 mQ rfl) (Split.nn _) ⟨by rw [gotR,if_pos hok];(try simp only [u32_nt,u16_nt]);rfl,rfl,rfl⟩
theorem rgot_bad (k:Int) (p:Option Addr) (n c:Nat) (l:List B8) (hn:l.length=n) (hb:n≤1000000000) (h: ¬(1≤k∧k≤14∧n=sizeR k)):Spc prog 134 #[.int .i64 k, .slice p n c] [sls p 1 n (bytes l)] [] (Is (gotV (gotR k l))):=by
 by_cases hk:1≤k∧k≤14
 ·have hs:sizeV k= .tuple #[.int .i64 (sizeR k:Int), .int .i64 0]:=by rw [sizeV,if_pos hk]
  refine Spc.en func134 rfl rfl (fun w0 hw0=> ?_)
  refine CW.sg [0] [] (RL.al zeroValue69 rfl ?_)
  intro b1
  refine RL.pn rfl (CW.sr (RL.p rfl (RL.vq (rsize_any k) call132 rfl ?_)))
  refine RL.p rfl ?_
  rw [hs]
  refine RL.q rfl (RL.qn rfl (CW.ok [0,1,4,6,7] rfl (CW.ss (CW.sr (RL.q rfl (RL.p rfl (RL.tt (d:=18) (v':= .bool false) rfl (rfl) ?_)))))))
  refine RL.q rfl (RL.lenS runUnderlying74 rfl (RL.qn rfl (CW.ok [0,1,4,23] rfl (CW.cT rfl ((by have:n≠sizeR k:=zb;simp;omega)) ?_))))
  refine CW.sg [1] [1] (RL.bS _ zeroValue69 pl_69 rfl (RL.sq sizeOf69 rfl ?_))
  refine RL.pn rfl (CW.rr (RQ.ss ?_))
  exact RQ.pp (resWT rfl rfl rfl isAgg69 sizeOf69 mQ rfl) (Split.nn _) ⟨by rw [gotR,if_neg zb];rfl,rfl,rfl⟩
 ·have hs:sizeV k= .tuple #[.int .i64 0, .int .i64 120]:=by rw [sizeV,if_neg hk]
  refine Spc.en func134 rfl rfl (fun w0 hw0=> ?_)
  refine CW.sg [0] [] (RL.al zeroValue69 rfl ?_)
  intro b1
  refine RL.pn rfl (CW.sr (RL.p rfl (RL.vq (rsize_any k) call132 rfl ?_)))
  refine RL.p rfl ?_
  rw [hs]
  refine RL.q rfl (RL.qn rfl (CW.ok [0,1,4,6,7] rfl (CW.ss (CW.sr (RL.q rfl (RL.p rfl (RL.tt (d:=18) (v':= .bool true) rfl (rfl) ?_)))))))
  refine RL.q rfl (RL.p rfl (RL.qn rfl (CW.ok [0,1,4,23] rfl (CW.cT rfl rfl (CW.sg [1] [1] (RL.bS _ zeroValue69 pl_69 rfl (RL.sq sizeOf69 rfl ?_)))))))
  refine RL.pn rfl (CW.rr (RQ.ss ?_))
  exact RQ.pp (resWT rfl rfl rfl isAgg69 sizeOf69 mQ rfl) (Split.nn _) ⟨by rw [gotR,if_neg zb];rfl,rfl,rfl⟩
theorem rgot_any (k:Int) (p:Option Addr) (n c:Nat) (l:List B8) (hn:l.length=n) (hb:n≤1000000000):Spc prog 134 #[.int .i64 k, .slice p n c] [sls p 1 n (bytes l)] [] (Is (gotV (gotR k l))):=by
 by_cases h:1≤k∧k≤14∧n=sizeR k
 ·obtain ⟨h1,h2,h3⟩:=h
  obtain ⟨m,rfl⟩:∃m:Nat,k=(m:Int):=⟨k.toNat,zb⟩
  have hm:1≤m∧m≤14:=by omega
  clear h1 h2
  match m,hm,h3 with
  | 1,_,h=> exact rgot_1 p n c l hn h
  | 2,_,h=> exact rgot_2 p n c l hn h
  | 3,_,h=> exact rgot_3 p n c l hn h
  | 4,_,h=> exact rgot_4 p n c l hn h
  | 5,_,h=> exact rgot_5 p n c l hn h
  | 6,_,h=> exact rgot_6 p n c l hn h
  | 7,_,h=> exact rgot_7 p n c l hn h
  | 8,_,h=> exact rgot_8 p n c l hn h
  | 9,_,h=> exact rgot_9 p n c l hn h
  | 10,_,h=> exact rgot_10 p n c l hn h
  | 11,_,h=> exact rgot_11 p n c l hn h
  | 12,_,h=> exact rgot_12 p n c l hn h
  | 13,_,h=> exact rgot_13 p n c l hn h
  | 14,_,h=> exact rgot_14 p n c l hn h
  | 0,h,_=> omega
  | _+15,h,_=> omega
 ·exact rgot_bad k p n c l hn hb h
end Go.Proofs.YtkineolcmdecjaaGreat
