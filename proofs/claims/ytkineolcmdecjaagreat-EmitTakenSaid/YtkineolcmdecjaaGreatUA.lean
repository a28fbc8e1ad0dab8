import Derived.Test.YtkineolcmdecjaaGreatWA
import Derived.Test.YtkineolcmdecjaaGreatS0
import Derived.Test.YtkineolcmdecjaaGreatPkEn
import Derived.Test.YtkineolcmdecjaaGreatBA
import Derived.Test.YtkineolcmdecjaaGreatPE
namespace Go.Proofs.YtkineolcmdecjaaGreat
open Go.PK
open Tryz
abbrev Wc (z:Int):List Value:= [.int .i64 (z / 18446744073709551616), .int .u64 (z % 18446744073709551616)]
theorem bit_cast (t i:Nat):(t:Int) / 2^i % 2=((t / 2^i % 2:Nat):Int):=by simp
theorem mod_step (t i:Nat):t % 2^(i+1)=t % 2^i+2^i*(t / 2^i % 2):=by
 rw [Nat.pow_succ,Nat.mod_mul]
theorem bit_small {t i:Nat} (ht:t≤65535) (h:t / 2^i % 2=1):i < 16:=by
 rcases Nat.lt_or_ge i 16 with h1 | h1
 ·exact h1
 ·have h2:(2:Nat)^16≤2^i:=Nat.pow_le_pow_right zc h1
  have h3:t / 2^i=0:=Nat.div_eq_of_lt zb
  rw [h3] at h;cases h
theorem dbl_bd {a:Int} (ha:0≤a∧a≤9223372036854775807) {i:Nat} (hi:i≤16):0≤a*2^i∧a*2^i≤9223372036854775807*65536:=by
 have h1:(2:Int)^i≤65536:=by
  have:(2:Nat)^i≤2^16:=Nat.pow_le_pow_right zc hi
  have h2:(((2:Nat)^i:Nat):Int)≤((2^16:Nat):Int):=Int.ofNat_le.2 this
  simpa using h2
 have h0:(0:Int)≤2^i:=Int.le_of_lt (Int.pow_pos zc)
 exact ⟨Int.mul_nonneg ha.1 h0,Int.mul_le_mul ha.2 h1 h0 zc⟩
theorem prd_bd {a:Int} (ha:0≤a∧a≤9223372036854775807) {n:Nat} (hn:n≤65535):0≤a*(n:Int)∧a*(n:Int)≤9223372036854775807*65535:=
 ⟨Int.mul_nonneg ha.1 zb,Int.mul_le_mul ha.2 zb zb zc⟩
theorem rmul_any (a:Int) (t:Nat) (ha:0≤a∧a≤9223372036854775807) (ht:t≤65535):Spc prog 192 #[.int .i64 a, .int .i64 (t:Int)] [] [] (Is (W (a*t))):=by
 refine Spc.en func192 rfl rfl (fun w0 hw0=> ?_)
 refine CW.sg [0] [] (RL.al zeroValue354 rfl ?_)
 intro b1
 refine RL.ns (CW.sg [1,2] [2] (RL.bS _ zeroValue354 pl_354 rfl (RL.al zeroValue354 rfl ?_)))
 intro b2
 refine RL.store (vs:= [_,_]) sizeOf354 rfl rfl uE ?_
 refine RL.ns (CW.sg [4,5,6] [6] (RL.p rfl (RL.vq (rwof_any a zb) call210 rfl ?_)))
 refine RL.p rfl (RL.vq (rwof_any t zb) call210 rfl ?_)
 refine RL.cq (digits_any (t:Int) zb) call211 rfl (.inl rfl) ?_
 rintro _ _ _ ⟨ob1,cap1,rfl,rfl,rfl,ho1⟩
 refine RL.al zeroValue354 rfl ?_
 intro b3
 refine RL.sW (vs:=Wc a) sizeOf354 rfl rfl uE rfl rfl ?_
 refine RL.pn rfl (CW.ok [4,5,6,7] rfl (CW.ss (CW.sr (RL.pn rfl (CW.bb ?_)))))
 obtain ⟨bd,rfl⟩:∃q,ob1=some q:=Option.isSome_iff_exists.1 (by simpa using ho1)
 have hgd:∀i,i < 128→(zbits 128 (t:Int))[i]? =some ((t:Int) / 2^i % 2):=fun i h=> zbits_get h
 generalize zbits 128 (t:Int)=ds at hgd ⊢
 refine CW.loop (γ:=Nat×Int) (fun g=> g.1≤127∧(-170141183460469231731687303715884105728≤g.2∧g.2 < 170141183460469231731687303715884105728)∧(g.1≤16→g.2=a*2^g.1)) (fun g=> [(4, .pointer (some ⟨b1,0,none⟩)),(5, .pointer (some ⟨b2,0,none⟩)),(6, .pointer (some ⟨b3,0,none⟩)),(7,slO (some bd) 128 cap1),(8, .int .i64 (g.1:Int))]) (fun _=> [])
  (fun g=> [cel b3 (Wc g.2) 354,cel b2 (Wc (a*((t % 2^g.1:Nat):Int))) 354,own (some bd) cap1 3 1 128 (ints ds),cel b1 [.int .i64 0, .int .u64 0] 354]) (fun g=> 127 - g.1) (0,a) ⟨by show 0≤127;decide,zb,fun _=> by simp⟩
  sE (fun w h=> h.rea (fun _ h=> h) (by
   rw [show Wc (a*((t % 2^0:Nat):Int))= [.int .i64 0, .int .u64 0] by simp [Wc,Nat.mod_one]]
   exact rE)) ?_
 rintro ⟨i,x⟩ ⟨hi,hx1,hx⟩
 dsimp only at hi hx1 hx ⊢
 refine CW.ss (CW.s1 rfl ?_)
 refine CW.cd rfl (fun hlt=> ?_) (fun hlt=> ?_)
 ·
  have hlt:i < 127:=by simp at hlt;omega
  have hgi:=hgd i zb
  rw [bit_cast] at hgi
  have hms:=mod_step t i
  have hlt2:t / 2^i % 2 < 2:=Nat.mod_lt _ zc
  obtain ⟨bt,hbt⟩:∃b,t / 2^i % 2=b:=⟨_,rfl⟩
  rw [hbt] at hgi hms hlt2
  have hsm:=Nat.le_trans (Nat.mod_le t (2^i)) ht
  have hsb:=prd_bd ha hsm
  have hxx:i+1≤16→sw (x+x)=a*2^(i+1):=fun h=> by
   have h1:=dbl_bd ha (show i≤16 by omega)
   rw [←hx zb] at h1
   rw [sw_id zb,hx zb,Int.pow_succ,←Int.mul_assoc];omega
  refine CW.sn (CW.ss (CW.bs (CW.sr (RL.q rfl (RL.idx (j:=i) runUnderlying52 sizeOf3 rfl rfl zb ?_)))))
  refine RL.load isAgg3 rfl (Rd.getO mQ (ints_get hgi)) ?_
  refine RL.pn rfl (CW.ok [4,5,6,7,8,23] rfl ?_)
  refine CW.cd rfl (fun hb=> ?_) (fun hb=> ?_)
  ·
   have hb1:bt=1:=by simp at hb;omega
   subst hb1
   have hi16:=bit_small ht hbt
   have hsum:sw (a*((t % 2^i:Nat):Int)+x)=a*((t % 2^(i+1):Nat):Int):=by
    have h1:=dbl_bd ha (show i≤16 by omega)
    rw [←hx zb] at h1
    rw [sw_id zb,hms,hx zb,Nat.mul_one,Int.natCast_add,Int.mul_add];simp
   refine CW.rn (ef:= [3]) (bk:= [3]) (RL.ld (vs:=Wc (a*((t % 2^i:Nat):Int))) isAgg354 sizeOf354 rfl (Rds.cel mQ (at_spec ⟨rfl,rfl,trivial⟩)) ?_)
   refine RL.ld (vs:=Wc x) isAgg354 sizeOf354 rfl (Rds.cel mQ (at_spec ⟨rfl,rfl,trivial⟩)) ?_
   refine RL.vq (radd_w (a*((t % 2^i:Nat):Int)) x zb hx1) call212 rfl ?_
   rw [hsum]
   refine RL.sW (vs:=Wc (a*((t % 2^(i+1):Nat):Int))) sizeOf354 rfl rfl uE rfl rfl ?_
   refine RL.ns (CW.rn (ef:= [3]) (bk:= [3]) (RL.ld (vs:=Wc x) isAgg354 sizeOf354 rfl (Rds.cel mQ (at_spec ⟨rfl,rfl,trivial⟩)) ?_))
   refine RL.ld (vs:=Wc x) isAgg354 sizeOf354 rfl (Rds.cel mQ (at_spec ⟨rfl,rfl,trivial⟩)) ?_
   refine RL.vq (radd_w x x hx1 hx1) call212 rfl ?_
   refine RL.sW (vs:=Wc (sw (x+x))) sizeOf354 rfl rfl uE rfl rfl ?_
   refine RL.ee (NQ.bb (NQ.ss (CW.ok [4,5,6,7,8] rfl (CW.rg (RL.p rfl (RL.bx rfl (wrapV_i64 zb zb) ?_))))))
   refine RL.p rfl (RL.ee ?_)
   refine NQ.rr (g:=(i,x)) (i+1,sw (x+x)) ⟨hlt,sw_bd _,hxx⟩ (by show 127 - (i+1) < 127 - i;omega) sE wE
  ·
   have hb1:bt=0:=by simp at hb;omega
   subst hb1
   have hsum:t % 2^i=t % 2^(i+1):=by rw [hms,Nat.mul_zero,Nat.add_zero]
   rw [hsum]
   refine CW.sn (CW.rn (ef:= [3]) (bk:= [3]) (RL.ld (vs:=Wc x) isAgg354 sizeOf354 rfl (Rds.cel mQ (at_spec ⟨rfl,rfl,trivial⟩)) ?_))
   refine RL.ld (vs:=Wc x) isAgg354 sizeOf354 rfl (Rds.cel mQ (at_spec ⟨rfl,rfl,trivial⟩)) ?_
   refine RL.vq (radd_w x x hx1 hx1) call212 rfl ?_
   refine RL.sW (vs:=Wc (sw (x+x))) sizeOf354 rfl rfl uE rfl rfl ?_
   refine RL.ee (NQ.bb (NQ.ss (CW.rg (RL.p rfl (RL.bx rfl (wrapV_i64 zb zb) ?_)))))
   refine RL.p rfl (RL.ee ?_)
   refine NQ.rr (g:=(i,x)) (i+1,sw (x+x)) ⟨hlt,sw_bd _,hxx⟩ (by show 127 - (i+1) < 127 - i;omega) sE wE
 ·
  have hin:i=127:=by simp at hlt;omega
  subst hin
  have hgi:=hgd 127 zb
  have h127:(2:Nat)^127 > 65535:=by decide
  rw [bit_cast,Nat.div_eq_of_lt (show t < 2^127 by omega)] at hgi
  rw [Nat.mod_eq_of_lt (show t < 2^127 by omega)]
  refine CW.xx (XQ.ss (XQ.ss (XQ.hh (NQ.ss (CW.ss (CW.sr (RL.p rfl (RL.idx (j:=127) runUnderlying52 sizeOf3 rfl rfl zb ?_))))))))
  refine RL.load isAgg3 rfl (Rd.getO mQ (ints_get hgi)) ?_
  refine RL.pn rfl (CW.ok [4,5,6,33] rfl (CW.cF rfl (rfl) (CW.sn (CW.sg [1] [1] (RL.ld (vs:=Wc (a*(t:Int))) isAgg354 sizeOf354 rfl (Rds.cel mQ (at_spec ⟨rfl,rfl,trivial⟩)) ?_)))))
  refine RL.sW (vs:=Wc (a*(t:Int))) sizeOf354 rfl rfl uE rfl rfl ?_
  refine RL.ns (CW.rr ?_)
  exact RQ.pp (resW (vs:=Wc (a*(t:Int))) rfl rfl isAgg354 sizeOf354 mQ rfl) (Split.nn _) ⟨rfl,rfl,rfl⟩
def i64 (n:Int):Prop:= -9223372036854775808≤n∧n≤9223372036854775807
def drf (k t:Int):Int:=min (max k 0*min (max t 0) 65535) 9223372036854775807
def limB (h k g t:Int):Int:=clip (isum [max h 0,max g 0,drf k t])
theorem drf_bd (k t:Int):0≤drf k t∧drf k t≤9223372036854775807:=by
 have:0≤max k 0*min (max t 0) 65535:=Int.mul_nonneg zb zb
 unfold drf;omega
theorem rbound_any (h k g t:Int) (hh:i64 h) (hk:i64 k) (hg:i64 g):Spc prog 158 #[.int .i64 h, .int .i64 k, .int .i64 g, .int .i64 t] [] [] (Is (.int .i64 (limB h k g t))):=by
 unfold i64 at hh hk hg
 obtain ⟨n,hn,hnb⟩:∃n:Nat,min (max t 0) 65535=(n:Int)∧n≤65535:=⟨(min (max t 0) 65535).toNat,zb,zb⟩
 have hp:=prd_bd (a:=max k 0) zb hnb
 have hd:clip (max k 0*(n:Int))=drf k t:=by
  unfold drf clip
  rw [hn]
  split
  ·omega
  ·split <;> omega
 have hdb:=drf_bd k t
 have hm:Spc prog 192 #[.int .i64 (max k 0), .int .i64 (min (max t 0) 65535)] [] [] (Is (W (max k 0*n))):=by
  rw [hn];exact rmul_any _ n zb hnb
 have hcl:=rwclip_any (max k 0*(n:Int)) zb
 rw [hd] at hcl
 refine Spc.en func158 rfl rfl (fun w0 hw0=> ?_)
 refine CW.sr (RL.pn rfl (CW.sr (RL.p rfl (RL.max rfl (RL.p rfl (RL.max rfl (RL.min rfl (RL.vq (hm) call192 rfl ?_))))))))
 refine RL.vq (hcl) call191 rfl ?_
 refine RL.q rfl (RL.p rfl (RL.qn rfl (CW.ok [0,2,9] rfl (CW.sg [5] [] (RL.p rfl (RL.max rfl (RL.p rfl (RL.max rfl ?_))))))))
 refine RL.p rfl (RL.buildSlice [_,_,_] runUnderlying280 sizeOf25 zeroValue25 rfl rfl zc zc rfl rfl ?_)
 intro b1
 refine RL.vv (rsum_any _ [max h 0,max g 0,drf k t] _ zm (by intro z hz;simp only [List.mem_cons,List.not_mem_nil,or_false] at hz;rcases hz with rfl | rfl | rfl <;> omega)) call193 rfl (.all (List.Mem.head _) rfl .nil) ?_
 refine RL.q rfl (RL.p rfl (RL.qn rfl (CW.ok [11] rfl (CW.s1 rfl ?_))))
 refine CW.rr ?_
 exact RQ.pp (res1 rfl rfl) (Split.nn _) ⟨rfl,rfl,rfl⟩
theorem bound_any (h k g t:Int) (hh:i64 h) (hk:i64 k) (hg:i64 g):Spc prog 156 #[.int .i64 h, .int .i64 k, .int .i64 g, .int .i64 t] [] [] (Is (.int .i64 (limB h k g t))):=by
 unfold i64 at hh hk hg
 have hdb:=drf_bd k t
 obtain ⟨n,hn,hnb⟩:∃n:Nat,min (max t 0) 65535=(n:Int)∧n≤65535:=⟨(min (max t 0) 65535).toNat,zb,zb⟩
 have hp:=prd_bd (a:=max k 0) zb hnb
 have hDd:drf k t=min (max k 0*(n:Int)) 9223372036854775807:=by rw [drf,hn]
 generalize hdf:drf k t=D at*
 refine Spc.en func156 rfl rfl (fun w0 hw0=> ?_)
 refine CW.sr (RL.pn rfl (CW.sr (RL.p rfl (RL.max rfl (RL.min rfl (RL.pn rfl (CW.ss ?_)))))))
 rw [hn]
 refine CW.rg (RL.p rfl (RL.max rfl (RL.pn rfl (CW.ok [0,2,9,10] rfl (CW.ss (CW.sr (RL.q rfl (RL.p rfl ?_))))))))
 refine RL.part (d:=20) rfl (fun h1=> ?_) (fun h1=> ?_)
 ·
  have h1':0 < n:=by simp at h1;omega
  have hq:IntKind.i64.wrap ((9223372036854775807:Int).tdiv n)=(9223372036854775807:Int) / n:=by
   rw [Int.tdiv_eq_ediv_of_nonneg zc]
   have h2:0≤(9223372036854775807:Int) / n:=Int.ediv_nonneg zc zb
   have h3:(9223372036854775807:Int) / n≤9223372036854775807:=Int.ediv_le_self _ zc
   exact IntWalk.i64_in _ zb
  have hiff:max k 0 > (9223372036854775807:Int) / n↔max k 0*(n:Int) > 9223372036854775807:=by
   rw [gt_iff_lt,Int.ediv_lt_iff_lt_mul zb]
  refine RL.q rfl (RL.quoX rfl zb (congrArg (Value.int .i64) hq) ?_)
  refine RL.qn rfl (CW.ok [0,2,9,10,25] rfl ?_)
  refine CW.cd rfl (fun h2=> ?_) (fun h2=> ?_)
  ·
   have h2':max k 0*(n:Int) > 9223372036854775807:=hiff.1 (by simpa using h2)
   have hD:D=9223372036854775807:=by omega
   refine CW.rg (RL.pn rfl (CW.sg [5] [] (RL.p rfl (RL.max rfl (RL.p rfl (RL.max rfl (RL.p rfl (RL.buildSlice [_,_,_] runUnderlying280 sizeOf25 zeroValue25 rfl rfl zc zc rfl rfl ?_))))))))
   intro b1
   refine RL.vv (fixSum _ [max h 0,max g 0,9223372036854775807] _ zm (by intro z hz;simp only [List.mem_cons,List.not_mem_nil,or_false] at hz;rcases hz with rfl | rfl | rfl <;> omega)) call190 rfl (.all (List.Mem.head _) rfl .nil) ?_
   refine RL.q rfl (RL.p rfl (RL.qn rfl (CW.ok [11] rfl (CW.s1 rfl ?_))))
   refine CW.rr ?_
   exact RQ.pp (res1 rfl rfl) (Split.nn _) ⟨by rw [limB,hdf,hD];rfl,rfl,rfl⟩
  ·
   have h2': ¬max k 0*(n:Int) > 9223372036854775807:=fun h=> by
    have:=hiff.2 h
    simp at h2
    omega
   have hD:max k 0*(n:Int)=D:=by omega
   have hmw:Value.int .i64 (IntKind.i64.wrap (max k 0*(n:Int)))= .int .i64 D:=by rw [hD,IntWalk.i64_in _ zb]
   refine CW.rg (RL.q rfl (RL.bx rfl hmw (RL.pn rfl (CW.sg [5] [] (RL.p rfl (RL.max rfl (RL.p rfl (RL.max rfl (RL.p rfl ?_)))))))))
   refine RL.buildSlice [_,_,_] runUnderlying280 sizeOf25 zeroValue25 rfl rfl zc zc rfl rfl ?_
   intro b1
   refine RL.vv (fixSum _ [max h 0,max g 0,D] _ zm (by intro z hz;simp only [List.mem_cons,List.not_mem_nil,or_false] at hz;rcases hz with rfl | rfl | rfl <;> omega)) call190 rfl (.all (List.Mem.head _) rfl .nil) ?_
   refine RL.q rfl (RL.p rfl (RL.qn rfl (CW.ok [11] rfl (CW.s1 rfl ?_))))
   refine CW.rr ?_
   exact RQ.pp (res1 rfl rfl) (Split.nn _) ⟨by rw [limB,hdf];rfl,rfl,rfl⟩
 ·
  have h1':n=0:=by simp at h1;omega
  subst h1'
  have hD:(0:Int)=D:=by rw [hDd];simp;omega
  have hmw:Value.int .i64 (IntKind.i64.wrap (max k 0*((0:Nat):Int)))= .int .i64 D:=by rw [←hD];simp;rfl
  refine RL.q rfl (RL.p rfl (RL.qn rfl (CW.ok [0,2,9,10,25] rfl (CW.cF rfl rfl (CW.rg (RL.q rfl (RL.bx rfl hmw (RL.p rfl ?_))))))))
  refine RL.ns (CW.sg [5] [] (RL.p rfl (RL.max rfl (RL.p rfl (RL.max rfl (RL.p rfl (RL.buildSlice [_,_,_] runUnderlying280 sizeOf25 zeroValue25 rfl rfl zc zc rfl rfl ?_)))))))
  intro b1
  refine RL.vv (fixSum _ [max h 0,max g 0,D] _ zm (by intro z hz;simp only [List.mem_cons,List.not_mem_nil,or_false] at hz;rcases hz with rfl | rfl | rfl <;> omega)) call190 rfl (.all (List.Mem.head _) rfl .nil) ?_
  refine RL.q rfl (RL.p rfl (RL.qn rfl (CW.ok [11] rfl (CW.s1 rfl ?_))))
  refine CW.rr ?_
  exact RQ.pp (res1 rfl rfl) (Split.nn _) ⟨by rw [limB,hdf];rfl,rfl,rfl⟩
def errI (p:Prop) [Decidable p]:Int:=if p then 0 else 2
theorem errI_yes {p:Prop} [Decidable p] (h:p):errI p=0:=if_pos h
theorem errI_no {p:Prop} [Decidable p] (h: ¬p):errI p=2:=if_neg h
theorem errI_0 {p:Prop} [Decidable p]:errI p=0↔p:=by unfold errI;split <;> simp_all
def ErP (e:Int):Value→List It→List It→Prop:=fun v I' H'=> ∃p,v= .tuple #[.pointer p, .int .i64 e]∧I'= []∧H'= []
theorem gate_any (a b c:Int):Spc prog 186 #[.agg #[.int .i64 a, .int .i64 b, .int .i64 c]] [] [] (Is (.int .i64 (errI (0≤a∧0≤b∧a≤c)))):=by
 refine Spc.en func186 rfl rfl (fun w0 hw0=> ?_)
 refine CW.sg [0] [] (RL.box rfl ?_)
 intro b1
 refine RL.pn rfl (CW.ss (CW.sr (RL.fa fa_118_0 rfl (RL.lq isAgg25 rfl ?_))))
 refine RL.q rfl ?_
 apply RL.orB (d:=6) (dp:=10) (l':=(Sq.of [8,9,10,11,12,13,14])) rfl (sK [1,2] rfl)
 ·
  intro hb4 K4
  refine RL.fa fa_118_1 rfl (RL.lq isAgg25 rfl ?_)
  refine RL.q rfl ?_
  exact K4 _ (.cons rfl (sK [1,2] rfl))
 ·
  intro hb4 K4
  refine RL.q rfl (RL.q rfl ?_)
  exact K4 _ (.cons rfl (sK [1,2] rfl))
 refine RL.p rfl ?_
 apply RL.orB (d:=11) (dp:=17) (l':=(Sq.of [])) rfl (sK [2] rfl)
 ·
  intro hb9 K9
  refine RL.fa fa_118_2 rfl (RL.lq isAgg25 rfl ?_)
  refine RL.fa fa_118_0 rfl (RL.lq isAgg25 rfl ?_)
  refine RL.q rfl ?_
  exact K9 _ (.cons rfl (sK [2] rfl))
 ·
  intro hb9 K9
  refine RL.q rfl (RL.q rfl (RL.q rfl ?_))
  exact K9 _ (.cons rfl (sK [2] rfl))
 refine RL.ns ?_
 refine CW.cd rfl (fun h=> ?_) (fun h=> ?_)
 ·
  refine CW.sr (RL.pn rfl (CW.rr (RQ.ss ?_)))
  exact RQ.pp (res1 rfl rfl) (Split.nn _) ⟨by rw [errI_no (by simp at h;omega)],rfl,rfl⟩
 ·
  refine CW.sn (CW.sr (RL.pn rfl (CW.rr ?_)))
  exact RQ.pp (res1 rfl rfl) (Split.nn _) ⟨by rw [errI_yes (by simp at h;omega)],rfl,rfl⟩
theorem rgate_any (a b c:Int):Spc prog 125 #[.agg #[.int .i64 a, .int .i64 b, .int .i64 c]] [] [] (Is (.int .i64 (errI (0≤a∧0≤b∧a≤c)))):=by
 refine Spc.en func125 rfl rfl (fun w0 hw0=> ?_)
 refine CW.sg [0] [] (RL.box rfl ?_)
 intro b1
 refine RL.pn rfl (CW.ss (CW.sr (RL.fa fa_55_0 rfl (RL.lq isAgg25 rfl ?_))))
 refine RL.q rfl ?_
 apply RL.orB (d:=6) (dp:=10) (l':=(Sq.of [8,9,10,11,12,13,14])) rfl (sK [1,2] rfl)
 ·
  intro hb4 K4
  refine RL.fa fa_55_1 rfl (RL.lq isAgg25 rfl ?_)
  refine RL.q rfl ?_
  exact K4 _ (.cons rfl (sK [1,2] rfl))
 ·
  intro hb4 K4
  refine RL.q rfl (RL.q rfl ?_)
  exact K4 _ (.cons rfl (sK [1,2] rfl))
 refine RL.p rfl ?_
 apply RL.orB (d:=11) (dp:=17) (l':=(Sq.of [])) rfl (sK [2] rfl)
 ·
  intro hb9 K9
  refine RL.fa fa_55_2 rfl (RL.lq isAgg25 rfl ?_)
  refine RL.fa fa_55_0 rfl (RL.lq isAgg25 rfl ?_)
  refine RL.q rfl ?_
  exact K9 _ (.cons rfl (sK [2] rfl))
 ·
  intro hb9 K9
  refine RL.q rfl (RL.q rfl (RL.q rfl ?_))
  exact K9 _ (.cons rfl (sK [2] rfl))
 refine RL.ns ?_
 refine CW.cd rfl (fun h=> ?_) (fun h=> ?_)
 ·
  refine CW.sr (RL.pn rfl (CW.rr (RQ.ss ?_)))
  exact RQ.pp (res1 rfl rfl) (Split.nn _) ⟨by rw [errI_no (by simp at h;omega)],rfl,rfl⟩
 ·
  refine CW.sn (CW.sr (RL.pn rfl (CW.rr ?_)))
  exact RQ.pp (res1 rfl rfl) (Split.nn _) ⟨by rw [errI_yes (by simp at h;omega)],rfl,rfl⟩
theorem rule_any (a b c d:Int):Spc prog 155 #[.agg #[.int .i64 a, .int .i64 b, .int .i64 c, .int .i64 d]] [] [] (Is (.int .i64 (errI (0≤a∧a≤16∧0≤b∧0≤c∧1≤d∧d≤65535)))):=by
 refine Spc.en func155 rfl rfl (fun w0 hw0=> ?_)
 refine CW.sg [0] [] (RL.box rfl ?_)
 intro b1
 refine RL.pn rfl (CW.ss (CW.sr (RL.fa fa_240_0 rfl (RL.lq isAgg3 rfl ?_))))
 refine RL.q rfl ?_
 apply RL.orB (d:=6) (dp:=10) (l':=(Sq.of (rg 8 27))) rfl (sK [1,2] rfl)
 ·
  intro hb4 K4
  refine RL.fa fa_240_0 rfl (RL.lq isAgg3 rfl ?_)
  refine RL.q rfl ?_
  exact K4 _ (.cons rfl (sK [1,2] rfl))
 ·
  intro hb4 K4
  refine RL.q rfl (RL.q rfl ?_)
  exact K4 _ (.cons rfl (sK [1,2] rfl))
 refine RL.p rfl ?_
 apply RL.orB (d:=11) (dp:=15) (l':=(Sq.of (rg 13 27))) rfl (sK [1,2] rfl)
 ·
  intro hb9 K9
  refine RL.fa fa_240_1 rfl (RL.lq isAgg25 rfl ?_)
  refine RL.q rfl ?_
  exact K9 _ (.cons rfl (sK [1,2] rfl))
 ·
  intro hb9 K9
  refine RL.q rfl (RL.q rfl ?_)
  exact K9 _ (.cons rfl (sK [1,2] rfl))
 refine RL.p rfl ?_
 apply RL.orB (d:=16) (dp:=20) (l':=(Sq.of (rg 18 27))) rfl (sK [1,2] rfl)
 ·
  intro hb14 K14
  refine RL.fa fa_240_2 rfl (RL.lq isAgg25 rfl ?_)
  refine RL.q rfl ?_
  exact K14 _ (.cons rfl (sK [1,2] rfl))
 ·
  intro hb14 K14
  refine RL.q rfl (RL.q rfl ?_)
  exact K14 _ (.cons rfl (sK [1,2] rfl))
 refine RL.p rfl ?_
 apply RL.orB (d:=21) (dp:=25) (l':=(Sq.of [23,24,25,26,27])) rfl (sK [1,2] rfl)
 ·
  intro hb19 K19
  refine RL.fa fa_240_3 rfl (RL.lq isAgg3 rfl ?_)
  refine RL.q rfl ?_
  exact K19 _ (.cons rfl (sK [1,2] rfl))
 ·
  intro hb19 K19
  refine RL.q rfl (RL.q rfl ?_)
  exact K19 _ (.cons rfl (sK [1,2] rfl))
 refine RL.p rfl ?_
 apply RL.orB (d:=26) (dp:=30) (l':=(Sq.of [])) rfl (sK [2] rfl)
 ·
  intro hb24 K24
  refine RL.fa fa_240_3 rfl (RL.lq isAgg3 rfl ?_)
  refine RL.q rfl ?_
  exact K24 _ (.cons rfl (sK [2] rfl))
 ·
  intro hb24 K24
  refine RL.q rfl (RL.q rfl ?_)
  exact K24 _ (.cons rfl (sK [2] rfl))
 refine RL.ns ?_
 refine CW.cd rfl (fun h=> ?_) (fun h=> ?_)
 ·
  refine CW.sr (RL.pn rfl (CW.rr (RQ.ss ?_)))
  exact RQ.pp (res1 rfl rfl) (Split.nn _) ⟨by rw [errI_no (by simp at h;omega)],rfl,rfl⟩
 ·
  refine CW.sn (CW.sr (RL.pn rfl (CW.rr ?_)))
  exact RQ.pp (res1 rfl rfl) (Split.nn _) ⟨by rw [errI_yes (by simp at h;omega)],rfl,rfl⟩
theorem rrule_any (a b c d:Int):Spc prog 126 #[.agg #[.int .i64 a, .int .i64 b, .int .i64 c, .int .i64 d]] [] [] (Is (.int .i64 (errI (0≤a∧a≤16∧0≤b∧0≤c∧1≤d∧d≤65535)))):=by
 refine Spc.en func126 rfl rfl (fun w0 hw0=> ?_)
 refine CW.sg [0] [] (RL.box rfl ?_)
 intro b1
 refine RL.pn rfl (CW.ss (CW.sr (RL.fa fa_263_0 rfl (RL.lq isAgg3 rfl ?_))))
 refine RL.q rfl ?_
 apply RL.orB (d:=6) (dp:=10) (l':=(Sq.of (rg 8 27))) rfl (sK [1,2] rfl)
 ·
  intro hb4 K4
  refine RL.fa fa_263_0 rfl (RL.lq isAgg3 rfl ?_)
  refine RL.q rfl ?_
  exact K4 _ (.cons rfl (sK [1,2] rfl))
 ·
  intro hb4 K4
  refine RL.q rfl (RL.q rfl ?_)
  exact K4 _ (.cons rfl (sK [1,2] rfl))
 refine RL.p rfl ?_
 apply RL.orB (d:=11) (dp:=15) (l':=(Sq.of (rg 13 27))) rfl (sK [1,2] rfl)
 ·
  intro hb9 K9
  refine RL.fa fa_263_1 rfl (RL.lq isAgg25 rfl ?_)
  refine RL.q rfl ?_
  exact K9 _ (.cons rfl (sK [1,2] rfl))
 ·
  intro hb9 K9
  refine RL.q rfl (RL.q rfl ?_)
  exact K9 _ (.cons rfl (sK [1,2] rfl))
 refine RL.p rfl ?_
 apply RL.orB (d:=16) (dp:=20) (l':=(Sq.of (rg 18 27))) rfl (sK [1,2] rfl)
 ·
  intro hb14 K14
  refine RL.fa fa_263_2 rfl (RL.lq isAgg25 rfl ?_)
  refine RL.q rfl ?_
  exact K14 _ (.cons rfl (sK [1,2] rfl))
 ·
  intro hb14 K14
  refine RL.q rfl (RL.q rfl ?_)
  exact K14 _ (.cons rfl (sK [1,2] rfl))
 refine RL.p rfl ?_
 apply RL.orB (d:=21) (dp:=25) (l':=(Sq.of [23,24,25,26,27])) rfl (sK [1,2] rfl)
 ·
  intro hb19 K19
  refine RL.fa fa_263_3 rfl (RL.lq isAgg3 rfl ?_)
  refine RL.q rfl ?_
  exact K19 _ (.cons rfl (sK [1,2] rfl))
 ·
  intro hb19 K19
  refine RL.q rfl (RL.q rfl ?_)
  exact K19 _ (.cons rfl (sK [1,2] rfl))
 refine RL.p rfl ?_
 apply RL.orB (d:=26) (dp:=30) (l':=(Sq.of [])) rfl (sK [2] rfl)
 ·
  intro hb24 K24
  refine RL.fa fa_263_3 rfl (RL.lq isAgg3 rfl ?_)
  refine RL.q rfl ?_
  exact K24 _ (.cons rfl (sK [2] rfl))
 ·
  intro hb24 K24
  refine RL.q rfl (RL.q rfl ?_)
  exact K24 _ (.cons rfl (sK [2] rfl))
 refine RL.ns ?_
 refine CW.cd rfl (fun h=> ?_) (fun h=> ?_)
 ·
  refine CW.sr (RL.pn rfl (CW.rr (RQ.ss ?_)))
  exact RQ.pp (res1 rfl rfl) (Split.nn _) ⟨by rw [errI_no (by simp at h;omega)],rfl,rfl⟩
 ·
  refine CW.sn (CW.sr (RL.pn rfl (CW.rr ?_)))
  exact RQ.pp (res1 rfl rfl) (Split.nn _) ⟨by rw [errI_yes (by simp at h;omega)],rfl,rfl⟩
theorem rcus_any (a b:Int):Spc prog 122 #[.int .i64 a, .int .i64 b] [] [] (ErP (errI (0≤a∧1≤b))):=by
 refine Spc.en func122 rfl rfl (fun w0 hw0=> ?_)
 refine CW.s1 rfl (CW.ss (CW.sr (RL.q rfl (RL.p rfl ?_))))
 apply RL.orB (d:=8) (dp:=11) (l':=(Sq.of [])) rfl (sK [0,1,4,5] rfl)
 ·
  intro hb3 K3
  refine RL.q rfl (RL.p rfl ?_)
  exact K3 _ (.cons rfl (sK [0,1,4,5] rfl))
 ·
  intro hb3 K3
  refine RL.q rfl (RL.p rfl ?_)
  exact K3 _ (.cons rfl (sK [0,1,4,5] rfl))
 refine RL.ns ?_
 refine CW.cd rfl (fun h=> ?_) (fun h=> ?_)
 ·
  refine CW.s1 rfl (CW.rr (RQ.ss ?_))
  exact RQ.pp (res2 rfl rfl rfl) (Split.nn _) ⟨_,by rw [errI_no (by simp at h;omega)],rfl,rfl⟩
 ·
  refine CW.sn (CW.sg [3] [] (RL.q rfl (RL.bS _ zeroValue298 pl_298 rfl (RL.box rfl ?_))))
  intro b1
  refine RL.qn rfl (CW.ok [4,5] rfl (CW.rr ?_))
  exact RQ.pp (res2 rfl rfl rfl) (Split.nn _) ⟨_,by rw [errI_yes (by simp at h;omega)],rfl,rfl⟩
theorem rstk_any (a b:Int):Spc prog 123 #[.int .i64 a, .int .i64 b] [] [] (ErP (errI (1≤a∧a≤1000∧0≤b))):=by
 refine Spc.en func123 rfl rfl (fun w0 hw0=> ?_)
 refine CW.s1 rfl (CW.ss (CW.sr (RL.q rfl (RL.p rfl ?_))))
 apply RL.orB (d:=8) (dp:=11) (l':=(Sq.of [6,7,8,9])) rfl (sK [0,1,4,5] rfl)
 ·
  intro hb3 K3
  refine RL.q rfl (RL.p rfl ?_)
  exact K3 _ (.cons rfl (sK [0,1,4,5] rfl))
 ·
  intro hb3 K3
  refine RL.q rfl (RL.p rfl ?_)
  exact K3 _ (.cons rfl (sK [0,1,4,5] rfl))
 refine RL.p rfl ?_
 apply RL.orB (d:=12) (dp:=15) (l':=(Sq.of [])) rfl (sK [0,1,4,5] rfl)
 ·
  intro hb7 K7
  refine RL.q rfl (RL.p rfl ?_)
  exact K7 _ (.cons rfl (sK [0,1,4,5] rfl))
 ·
  intro hb7 K7
  refine RL.q rfl (RL.p rfl ?_)
  exact K7 _ (.cons rfl (sK [0,1,4,5] rfl))
 refine RL.ns ?_
 refine CW.cd rfl (fun h=> ?_) (fun h=> ?_)
 ·
  refine CW.s1 rfl (CW.rr (RQ.ss ?_))
  exact RQ.pp (res2 rfl rfl rfl) (Split.nn _) ⟨_,by rw [errI_no (by simp at h;omega)],rfl,rfl⟩
 ·
  refine CW.sn (CW.sg [3] [] (RL.q rfl (RL.bS _ zeroValue303 pl_303 rfl (RL.box rfl ?_))))
  intro b1
  refine RL.qn rfl (CW.ok [4,5] rfl (CW.rr ?_))
  exact RQ.pp (res2 rfl rfl rfl) (Split.nn _) ⟨_,by rw [errI_yes (by simp at h;omega)],rfl,rfl⟩
theorem rqua_any (a b c:Int):Spc prog 124 #[.int .i64 a, .int .i64 b, .int .i64 c] [] [] (ErP (errI (1≤a∧a≤100∧1≤b∧b≤65535∧1≤c∧c≤100))):=by
 refine Spc.en func124 rfl rfl (fun w0 hw0=> ?_)
 refine CW.s1 rfl (CW.ss (CW.sr (RL.q rfl (RL.p rfl ?_))))
 apply RL.orB (d:=10) (dp:=13) (l':=(Sq.of (rg 6 21))) rfl (sK [0,1,2,6,7] rfl)
 ·
  intro hb3 K3
  refine RL.q rfl (RL.p rfl ?_)
  exact K3 _ (.cons rfl (sK [0,1,2,6,7] rfl))
 ·
  intro hb3 K3
  refine RL.q rfl (RL.p rfl ?_)
  exact K3 _ (.cons rfl (sK [0,1,2,6,7] rfl))
 refine RL.p rfl ?_
 apply RL.orB (d:=14) (dp:=17) (l':=(Sq.of (rg 10 21))) rfl (sK [0,1,2,6,7] rfl)
 ·
  intro hb7 K7
  refine RL.q rfl (RL.p rfl ?_)
  exact K7 _ (.cons rfl (sK [0,1,2,6,7] rfl))
 ·
  intro hb7 K7
  refine RL.q rfl (RL.p rfl ?_)
  exact K7 _ (.cons rfl (sK [0,1,2,6,7] rfl))
 refine RL.p rfl ?_
 apply RL.orB (d:=18) (dp:=21) (l':=(Sq.of (rg 14 21))) rfl (sK [0,1,2,6,7] rfl)
 ·
  intro hb11 K11
  refine RL.q rfl (RL.p rfl ?_)
  exact K11 _ (.cons rfl (sK [0,1,2,6,7] rfl))
 ·
  intro hb11 K11
  refine RL.q rfl (RL.p rfl ?_)
  exact K11 _ (.cons rfl (sK [0,1,2,6,7] rfl))
 refine RL.p rfl ?_
 apply RL.orB (d:=22) (dp:=25) (l':=(Sq.of [18,19,20,21])) rfl (sK [0,1,2,6,7] rfl)
 ·
  intro hb15 K15
  refine RL.q rfl (RL.p rfl ?_)
  exact K15 _ (.cons rfl (sK [0,1,2,6,7] rfl))
 ·
  intro hb15 K15
  refine RL.q rfl (RL.p rfl ?_)
  exact K15 _ (.cons rfl (sK [0,1,2,6,7] rfl))
 refine RL.p rfl ?_
 apply RL.orB (d:=26) (dp:=29) (l':=(Sq.of [])) rfl (sK [0,1,2,6,7] rfl)
 ·
  intro hb19 K19
  refine RL.q rfl (RL.p rfl ?_)
  exact K19 _ (.cons rfl (sK [0,1,2,6,7] rfl))
 ·
  intro hb19 K19
  refine RL.q rfl (RL.p rfl ?_)
  exact K19 _ (.cons rfl (sK [0,1,2,6,7] rfl))
 refine RL.ns ?_
 refine CW.cd rfl (fun h=> ?_) (fun h=> ?_)
 ·
  refine CW.s1 rfl (CW.rr (RQ.ss ?_))
  exact RQ.pp (res2 rfl rfl rfl) (Split.nn _) ⟨_,by rw [errI_no (by simp at h;omega)],rfl,rfl⟩
 ·
  refine CW.sn (CW.sg [4] [] (RL.q rfl (RL.p rfl (RL.bS _ zeroValue308 pl_308 rfl (RL.box rfl ?_)))))
  intro b1
  refine RL.qn rfl (CW.ok [6,7] rfl (CW.rr ?_))
  exact RQ.pp (res2 rfl rfl rfl) (Split.nn _) ⟨_,by rw [errI_yes (by simp at h;omega)],rfl,rfl⟩
theorem lock_any (a b:Int):Spc prog 72 #[.int .i64 a, .int .i64 b] [] [] (ErP (errI (1≤a∧a≤1000∧1≤b∧b≤65535))):=by
 refine Spc.en func72 rfl rfl (fun w0 hw0=> ?_)
 refine CW.s1 rfl (CW.ss (CW.sr (RL.q rfl (RL.p rfl ?_))))
 apply RL.orB (d:=8) (dp:=11) (l':=(Sq.of (rg 6 13))) rfl (sK [0,1,4,5] rfl)
 ·
  intro hb3 K3
  refine RL.q rfl (RL.p rfl ?_)
  exact K3 _ (.cons rfl (sK [0,1,4,5] rfl))
 ·
  intro hb3 K3
  refine RL.q rfl (RL.p rfl ?_)
  exact K3 _ (.cons rfl (sK [0,1,4,5] rfl))
 refine RL.p rfl ?_
 apply RL.orB (d:=12) (dp:=15) (l':=(Sq.of [10,11,12,13])) rfl (sK [0,1,4,5] rfl)
 ·
  intro hb7 K7
  refine RL.q rfl (RL.p rfl ?_)
  exact K7 _ (.cons rfl (sK [0,1,4,5] rfl))
 ·
  intro hb7 K7
  refine RL.q rfl (RL.p rfl ?_)
  exact K7 _ (.cons rfl (sK [0,1,4,5] rfl))
 refine RL.p rfl ?_
 apply RL.orB (d:=16) (dp:=19) (l':=(Sq.of [])) rfl (sK [0,1,4,5] rfl)
 ·
  intro hb11 K11
  refine RL.q rfl (RL.p rfl ?_)
  exact K11 _ (.cons rfl (sK [0,1,4,5] rfl))
 ·
  intro hb11 K11
  refine RL.q rfl (RL.p rfl ?_)
  exact K11 _ (.cons rfl (sK [0,1,4,5] rfl))
 refine RL.ns ?_
 refine CW.cd rfl (fun h=> ?_) (fun h=> ?_)
 ·
  refine CW.s1 rfl (CW.rr (RQ.ss ?_))
  exact RQ.pp (res2 rfl rfl rfl) (Split.nn _) ⟨_,by rw [errI_no (by simp at h;omega)],rfl,rfl⟩
 ·
  refine CW.sn (CW.sg [3] [] (RL.q rfl (RL.bS _ zeroValue229 pl_229 rfl (RL.box rfl ?_))))
  intro b1
  refine RL.qn rfl (CW.ok [4,5] rfl (CW.rr ?_))
  exact RQ.pp (res2 rfl rfl rfl) (Split.nn _) ⟨_,by rw [errI_yes (by simp at h;omega)],rfl,rfl⟩
theorem rlock_any (a b:Int):Spc prog 41 #[.int .i64 a, .int .i64 b] [] [] (ErP (errI (1≤a∧a≤1000∧1≤b∧b≤65535))):=by
 refine Spc.en func41 rfl rfl (fun w0 hw0=> ?_)
 refine CW.s1 rfl (CW.ss (CW.sr (RL.q rfl (RL.p rfl ?_))))
 apply RL.orB (d:=8) (dp:=11) (l':=(Sq.of (rg 6 13))) rfl (sK [0,1,4,5] rfl)
 ·
  intro hb3 K3
  refine RL.q rfl (RL.p rfl ?_)
  exact K3 _ (.cons rfl (sK [0,1,4,5] rfl))
 ·
  intro hb3 K3
  refine RL.q rfl (RL.p rfl ?_)
  exact K3 _ (.cons rfl (sK [0,1,4,5] rfl))
 refine RL.p rfl ?_
 apply RL.orB (d:=12) (dp:=15) (l':=(Sq.of [10,11,12,13])) rfl (sK [0,1,4,5] rfl)
 ·
  intro hb7 K7
  refine RL.q rfl (RL.p rfl ?_)
  exact K7 _ (.cons rfl (sK [0,1,4,5] rfl))
 ·
  intro hb7 K7
  refine RL.q rfl (RL.p rfl ?_)
  exact K7 _ (.cons rfl (sK [0,1,4,5] rfl))
 refine RL.p rfl ?_
 apply RL.orB (d:=16) (dp:=19) (l':=(Sq.of [])) rfl (sK [0,1,4,5] rfl)
 ·
  intro hb11 K11
  refine RL.q rfl (RL.p rfl ?_)
  exact K11 _ (.cons rfl (sK [0,1,4,5] rfl))
 ·
  intro hb11 K11
  refine RL.q rfl (RL.p rfl ?_)
  exact K11 _ (.cons rfl (sK [0,1,4,5] rfl))
 refine RL.ns ?_
 refine CW.cd rfl (fun h=> ?_) (fun h=> ?_)
 ·
  refine CW.s1 rfl (CW.rr (RQ.ss ?_))
  exact RQ.pp (res2 rfl rfl rfl) (Split.nn _) ⟨_,by rw [errI_no (by simp at h;omega)],rfl,rfl⟩
 ·
  refine CW.sn (CW.sg [3] [] (RL.q rfl (RL.bS _ zeroValue196 pl_196 rfl (RL.box rfl ?_))))
  intro b1
  refine RL.qn rfl (CW.ok [4,5] rfl (CW.rr ?_))
  exact RQ.pp (res2 rfl rfl rfl) (Split.nn _) ⟨_,by rw [errI_yes (by simp at h;omega)],rfl,rfl⟩
theorem cus_any (a b:Int):Spc prog 187 #[.int .i64 a, .int .i64 b] [] [] (ErP (errI (0≤a∧1≤b))):=by
 refine Spc.en func187 rfl rfl (fun w0 hw0=> ?_)
 refine CW.s1 rfl (CW.ss (CW.sr (RL.q rfl (RL.p rfl ?_))))
 apply RL.orB (d:=8) (dp:=11) (l':=(Sq.of [])) rfl (sK [0,1,4,5] rfl)
 ·
  intro hb3 K3
  refine RL.q rfl (RL.p rfl ?_)
  exact K3 _ (.cons rfl (sK [0,1,4,5] rfl))
 ·
  intro hb3 K3
  refine RL.q rfl (RL.p rfl ?_)
  exact K3 _ (.cons rfl (sK [0,1,4,5] rfl))
 refine RL.ns ?_
 refine CW.cd rfl (fun h=> ?_) (fun h=> ?_)
 ·
  refine CW.s1 rfl (CW.rr (RQ.ss ?_))
  exact RQ.pp (res2 rfl rfl rfl) (Split.nn _) ⟨_,by rw [errI_no (by simp at h;omega)],rfl,rfl⟩
 ·
  refine CW.sn (CW.sg [2,4] [] (RL.q rfl ?_))
  refine RL.makeMap (good:=fun _=> True) rfl rfl (fun mp=> ?_)
  refine RL.bS [_,_,_] zeroValue373 pl_373 rfl (RL.box rfl ?_)
  intro b1
  refine RL.qn rfl (CW.ok [4,5] rfl (CW.rr ?_))
  exact RQ.pp (res2 rfl rfl rfl) (Split.nn _) ⟨_,by rw [errI_yes (by simp at h;omega)],rfl,rfl⟩
theorem stk_any (a b:Int):Spc prog 188 #[.int .i64 a, .int .i64 b] [] [] (ErP (errI (1≤a∧a≤1000∧0≤b))):=by
 refine Spc.en func188 rfl rfl (fun w0 hw0=> ?_)
 refine CW.s1 rfl (CW.ss (CW.sr (RL.q rfl (RL.p rfl ?_))))
 apply RL.orB (d:=8) (dp:=11) (l':=(Sq.of [6,7,8,9])) rfl (sK [0,1,4,5] rfl)
 ·
  intro hb3 K3
  refine RL.q rfl (RL.p rfl ?_)
  exact K3 _ (.cons rfl (sK [0,1,4,5] rfl))
 ·
  intro hb3 K3
  refine RL.q rfl (RL.p rfl ?_)
  exact K3 _ (.cons rfl (sK [0,1,4,5] rfl))
 refine RL.p rfl ?_
 apply RL.orB (d:=12) (dp:=15) (l':=(Sq.of [])) rfl (sK [0,1,4,5] rfl)
 ·
  intro hb7 K7
  refine RL.q rfl (RL.p rfl ?_)
  exact K7 _ (.cons rfl (sK [0,1,4,5] rfl))
 ·
  intro hb7 K7
  refine RL.q rfl (RL.p rfl ?_)
  exact K7 _ (.cons rfl (sK [0,1,4,5] rfl))
 refine RL.ns ?_
 refine CW.cd rfl (fun h=> ?_) (fun h=> ?_)
 ·
  refine CW.s1 rfl (CW.rr (RQ.ss ?_))
  exact RQ.pp (res2 rfl rfl rfl) (Split.nn _) ⟨_,by rw [errI_no (by simp at h;omega)],rfl,rfl⟩
 ·
  refine CW.sn (CW.sg [2,4] [] (RL.q rfl ?_))
  refine RL.makeMap (good:=fun _=> True) rfl rfl (fun mp=> ?_)
  refine RL.bS [_,_,_] zeroValue376 pl_376 rfl (RL.box rfl ?_)
  intro b1
  refine RL.qn rfl (CW.ok [4,5] rfl (CW.rr ?_))
  exact RQ.pp (res2 rfl rfl rfl) (Split.nn _) ⟨_,by rw [errI_yes (by simp at h;omega)],rfl,rfl⟩
theorem row_any (n:Int):Spc prog 205 #[.int .i64 n] [] [] (Is (.bool (decide (1≤n∧n≤100)))):=by
 refine Spc.en func205 rfl rfl (fun w0 hw0=> ?_)
 refine CW.sr (RL.pn rfl (CW.sr (RL.q rfl (RL.p rfl ?_))))
 apply RL.andB (d:=5) (dp:=8) (l':=(Sq.of [6])) rfl (sK [2] rfl)
 ·
  intro hb3 K3
  refine RL.q rfl (RL.p rfl ?_)
  exact K3 _ (.cons rfl (sK [2] rfl))
 ·
  intro hb3 K3
  refine RL.q rfl (RL.p rfl ?_)
  exact K3 _ (.cons rfl (sK [2] rfl))
 refine RL.pn rfl (CW.rr ?_)
 exact RQ.pp (res1 rfl rfl) (Split.nn _) ⟨by congr 1;rw [Bool.eq_iff_iff];simp,rfl,rfl⟩
theorem qua_any (a b c:Int):Spc prog 189 #[.int .i64 a, .int .i64 b, .int .i64 c] [] [] (ErP (errI (1≤a∧a≤100∧1≤b∧b≤65535∧1≤c∧c≤100))):=by
 refine Spc.en func189 rfl rfl (fun w0 hw0=> ?_)
 refine CW.s1 rfl (CW.ss (CW.sr (RL.p rfl (RL.vq (row_any a) call205 rfl ?_))))
 refine RL.q rfl ?_
 apply RL.orB (d:=11) (dp:=15) (l':=(Sq.of (rg 8 15))) rfl (sK [0,1,2,6,7] rfl)
 ·
  intro hb4 K4
  refine RL.p rfl (RL.vq (row_any c) call205 rfl ?_)
  refine RL.q rfl ?_
  exact K4 _ (.cons rfl (sK [0,1,2,6,7] rfl))
 ·
  intro hb4 K4
  refine RL.q rfl (RL.q rfl ?_)
  exact K4 _ (.cons rfl (sK [0,1,2,6,7] rfl))
 refine RL.p rfl ?_
 apply RL.orB (d:=16) (dp:=19) (l':=(Sq.of [12,13,14,15])) rfl (sK [0,1,2,6,7] rfl)
 ·
  intro hb9 K9
  refine RL.q rfl (RL.p rfl ?_)
  exact K9 _ (.cons rfl (sK [0,1,2,6,7] rfl))
 ·
  intro hb9 K9
  refine RL.q rfl (RL.p rfl ?_)
  exact K9 _ (.cons rfl (sK [0,1,2,6,7] rfl))
 refine RL.p rfl ?_
 apply RL.orB (d:=20) (dp:=23) (l':=(Sq.of [])) rfl (sK [0,1,2,6,7] rfl)
 ·
  intro hb13 K13
  refine RL.q rfl (RL.p rfl ?_)
  exact K13 _ (.cons rfl (sK [0,1,2,6,7] rfl))
 ·
  intro hb13 K13
  refine RL.q rfl (RL.p rfl ?_)
  exact K13 _ (.cons rfl (sK [0,1,2,6,7] rfl))
 refine RL.ns ?_
 refine CW.cd rfl (fun h=> ?_) (fun h=> ?_)
 ·
  refine CW.s1 rfl (CW.rr (RQ.ss ?_))
  exact RQ.pp (res2 rfl rfl rfl) (Split.nn _) ⟨_,by rw [errI_no (by simp at h;omega)],rfl,rfl⟩
 ·
  refine CW.sn (CW.sg [4] [] (RL.q rfl (RL.p rfl (RL.bS _ zeroValue381 pl_381 rfl (RL.box rfl ?_)))))
  intro b1
  refine RL.qn rfl (CW.ok [6,7] rfl (CW.rr ?_))
  exact RQ.pp (res2 rfl rfl rfl) (Split.nn _) ⟨_,by rw [errI_yes (by simp at h;omega)],rfl,rfl⟩
structure Wt where
 go:Int
 gg:Int
 gm:Int
 sl:Int
 mo:Int
 sa:Int
 ra:Int
 ba:Int
 ho:Int
 pr:Int
def Wt.cells (w:Wt):List Value:= [.int .i64 w.go, .int .i64 w.gg, .int .i64 w.gm, .int .i64 w.sl, .int .i64 w.mo, .int .i64 w.sa, .int .i64 w.ra, .int .i64 w.ba, .int .i64 w.ho, .int .i64 w.pr]
def Wt.Ok (w:Wt):Prop:=(0≤w.go∧0≤w.gg∧w.go≤w.gm)∧(0≤w.sl∧1≤w.mo)∧(1≤w.sa∧w.sa≤1000∧0≤w.ra)∧(1≤w.ba∧w.ba≤100∧1≤w.ho∧w.ho≤65535∧1≤w.pr∧w.pr≤100)
instance (w:Wt):Decidable w.Ok:=inferInstanceAs (Decidable (_∧_))
structure Sr where
 id:Int
 kd:Int
 rt:List B8
 w:Int
 g:Int
 st:Int
 hz:Int
 wt:Wt
def Sr.tl (s:Sr):List Value:= .int .i64 s.w:: .int .i64 s.g:: .int .i64 s.st:: .int .i64 s.hz::s.wt.cells
def Sr.cells (s:Sr):List Value:= .int .i64 s.id:: .int .i64 s.kd::(bytes s.rt++s.tl)
structure Sr.Fit (s:Sr):Prop where
 rt:s.rt.length=32
 mo:i64 s.wt.mo
 sl:i64 s.wt.sl
 gm:i64 s.wt.gm
theorem sr_len {s:Sr} (h:s.rt.length=32):s.cells.length=48:=by simp [Sr.cells,Sr.tl,Wt.cells,h]
theorem sr_t {s:Sr} (h:s.rt.length=32) (j:Nat):s.cells[0+34+j]? =s.tl[j]? :=by
 rw [Sr.cells,show 0+34+j=(32+j)+1+1 by omega]
 simp only [List.getElem?_cons_succ]
 rw [List.getElem?_append_right (by simp [h]),List.length_map,h,Nat.add_sub_cancel_left]
theorem sr_w {s:Sr} (h:s.rt.length=32) (j:Nat):s.cells[0+38+j]? =s.wt.cells[j]? :=by
 have:=sr_t h (4+j)
 rw [show 0+34+(4+j)=0+38+j by omega] at this
 rw [this,Sr.tl,show 4+j=j+1+1+1+1 by omega]
 simp only [List.getElem?_cons_succ]
def aidB (k:Int):Bool:=decide (2≤k∧k≤5)
def limS (s:Sr):Int:=limB s.wt.mo s.wt.sl s.wt.gm s.hz
def Sr.ok (s:Sr):Bool:=decide ((0≤s.id∧s.id≤7)∧(if 2≤s.kd∧s.kd≤5 then s.wt.Ok else s.kd=1∨s.kd=8))
theorem aid_any (s:Sr):Spc prog 116 #[.agg s.cells.toArray] [] [] (Is (.bool (aidB s.kd))):=by
 refine Spc.en func116 rfl rfl (fun w0 hw0=> ?_)
 refine CW.sg [0] [] (RL.box rfl ?_)
 intro b1
 refine RL.pn rfl (CW.sr (RL.fa fa_122_1 rfl (RL.lq isAgg3 rfl ?_)))
 refine RL.q rfl ?_
 apply RL.andB (d:=6) (dp:=10) (l':=(Sq.of [8])) rfl (sK [2] rfl)
 ·
  intro hb4 K4
  refine RL.fa fa_122_1 rfl (RL.lq isAgg3 rfl ?_)
  refine RL.q rfl ?_
  exact K4 _ (.cons rfl (sK [2] rfl))
 ·
  intro hb4 K4
  refine RL.q rfl (RL.q rfl ?_)
  exact K4 _ (.cons rfl (sK [2] rfl))
 refine RL.pn rfl (CW.rr ?_)
 exact RQ.pp (res1 rfl rfl) (Split.nn _) ⟨by congr 1;rw [Bool.eq_iff_iff];simp [aidB],rfl,rfl⟩
theorem raid_any (k:Int):Spc prog 81 #[.int .i64 k] [] [] (Is (.bool (aidB k))):=by
 refine Spc.en func81 rfl rfl (fun w0 hw0=> ?_)
 refine CW.sr (RL.pn rfl (CW.sr (RL.q rfl (RL.p rfl ?_))))
 apply RL.andB (d:=5) (dp:=8) (l':=(Sq.of [6])) rfl (sK [2] rfl)
 ·
  intro hb3 K3
  refine RL.q rfl (RL.p rfl ?_)
  exact K3 _ (.cons rfl (sK [2] rfl))
 ·
  intro hb3 K3
  refine RL.q rfl (RL.p rfl ?_)
  exact K3 _ (.cons rfl (sK [2] rfl))
 refine RL.pn rfl (CW.rr ?_)
 exact RQ.pp (res1 rfl rfl) (Split.nn _) ⟨by congr 1;rw [Bool.eq_iff_iff];simp [aidB],rfl,rfl⟩
theorem limit_any (s:Sr) (h:s.Fit):Spc prog 120 #[.agg s.cells.toArray] [] [] (Is (.int .i64 (limS s))):=by
 refine Spc.en func120 rfl rfl (fun w0 hw0=> ?_)
 refine CW.sg [0] [] (RL.box rfl ?_)
 intro b1
 refine RL.pn rfl (CW.ss (CW.fP (A:= [_]) (B:= []) (.take .nil) rfl ?_))
 refine CW.gI (fun J hJ=> ?_)
 have m:cel b1 s.cells 122∈J:=hJ _ zm
 clear hJ
 have f1:RdI J ⟨b1,0+38+4,none⟩ (.int .i64 s.wt.mo):=⟨fun _=> Rd.getI m (sr_w h.rt 4)⟩
 have f2:RdI J ⟨b1,0+38+3,none⟩ (.int .i64 s.wt.sl):=⟨fun _=> Rd.getI m (sr_w h.rt 3)⟩
 have f3:RdI J ⟨b1,0+38+0+2,none⟩ (.int .i64 s.wt.gm):=⟨fun _=> Rd.getI m (sr_w h.rt 2)⟩
 have f4:RdI J ⟨b1,0+37,none⟩ (.int .i64 s.hz):=⟨fun _=> Rd.getI m (sr_t h.rt 3)⟩
 refine CW.rg (RL.fa fa_122_7 rfl (RL.fa fa_120_2 rfl (RL.lq isAgg25 rfl ?_)))
 refine RL.fa fa_122_7 rfl (RL.fa fa_120_1 rfl (RL.lq isAgg25 rfl ?_))
 refine RL.fa fa_122_7 rfl (RL.fa fa_120_0 rfl (RL.fa fa_118_2 rfl (RL.lq isAgg25 rfl ?_)))
 refine RL.fa fa_122_6 rfl (RL.lq isAgg3 rfl ?_)
 refine RL.vq (bound_any s.wt.mo s.wt.sl s.wt.gm s.hz h.mo h.sl h.gm) call156 rfl ?_
 refine RL.pn rfl (CW.ok [2] rfl (CW.rr ?_))
 exact RQ.pp (res1 rfl rfl) (Split.nn _) ⟨rfl,rfl,rfl⟩
theorem rlimit_any (s:Sr) (h:s.Fit):Spc prog 127 #[.agg s.cells.toArray] [] [] (Is (.int .i64 (limS s))):=by
 refine Spc.en func127 rfl rfl (fun w0 hw0=> ?_)
 refine CW.sg [0] [] (RL.box rfl ?_)
 intro b1
 refine RL.pn rfl (CW.ss (CW.fP (A:= [_]) (B:= []) (.take .nil) rfl ?_))
 refine CW.gI (fun J hJ=> ?_)
 have m:cel b1 s.cells 59∈J:=hJ _ zm
 clear hJ
 have f1:RdI J ⟨b1,0+38+4,none⟩ (.int .i64 s.wt.mo):=⟨fun _=> Rd.getI m (sr_w h.rt 4)⟩
 have f2:RdI J ⟨b1,0+38+3,none⟩ (.int .i64 s.wt.sl):=⟨fun _=> Rd.getI m (sr_w h.rt 3)⟩
 have f3:RdI J ⟨b1,0+38+0+2,none⟩ (.int .i64 s.wt.gm):=⟨fun _=> Rd.getI m (sr_w h.rt 2)⟩
 have f4:RdI J ⟨b1,0+37,none⟩ (.int .i64 s.hz):=⟨fun _=> Rd.getI m (sr_t h.rt 3)⟩
 refine CW.rg (RL.fa fa_59_7 rfl (RL.fa fa_57_2 rfl (RL.lq isAgg25 rfl ?_)))
 refine RL.fa fa_59_7 rfl (RL.fa fa_57_1 rfl (RL.lq isAgg25 rfl ?_))
 refine RL.fa fa_59_7 rfl (RL.fa fa_57_0 rfl (RL.fa fa_55_2 rfl (RL.lq isAgg25 rfl ?_)))
 refine RL.fa fa_59_6 rfl (RL.lq isAgg3 rfl ?_)
 refine RL.vq (rbound_any s.wt.mo s.wt.sl s.wt.gm s.hz h.mo h.sl h.gm) call158 rfl ?_
 refine RL.pn rfl (CW.ok [2] rfl (CW.rr ?_))
 exact RQ.pp (res1 rfl rfl) (Split.nn _) ⟨rfl,rfl,rfl⟩
theorem watch_any (w:Wt):Spc prog 153 #[.agg #[.int .i64 w.go, .int .i64 w.gg, .int .i64 w.gm, .int .i64 w.sl, .int .i64 w.mo, .int .i64 w.sa, .int .i64 w.ra, .int .i64 w.ba, .int .i64 w.ho, .int .i64 w.pr]] [] [] (ErP (errI w.Ok)):=by
 refine Spc.en func153 rfl rfl (fun w0 hw0=> ?_)
 refine CW.sg [0] [] (RL.box rfl ?_)
 intro b1
 refine RL.qn rfl (CW.s2 (CW.fP (A:= [_]) (B:= []) (.take .nil) rfl ?_))
 refine CW.gI (fun J hJ=> ?_)
 have m:cel b1 w.cells 120∈J:=hJ _ (by simp [Wt.cells])
 clear hJ
 have fG:RdsN J ⟨b1,0+0,none⟩ 3 [.int .i64 w.go, .int .i64 w.gg, .int .i64 w.gm]:=RdsN.told m (fun j u hj=> by
  match j,hj with
  | 0,hj=> exact hj
  | 1,hj=> exact hj
  | 2,hj=> exact hj
  | j+3,hj=> simp at hj) rfl
 have f3:RdI J ⟨b1,0+3,none⟩ (.int .i64 w.sl):=⟨fun _=> Rd.celI m rfl⟩
 have f4:RdI J ⟨b1,0+4,none⟩ (.int .i64 w.mo):=⟨fun _=> Rd.celI m rfl⟩
 have f5:RdI J ⟨b1,0+5,none⟩ (.int .i64 w.sa):=⟨fun _=> Rd.celI m rfl⟩
 have f6:RdI J ⟨b1,0+6,none⟩ (.int .i64 w.ra):=⟨fun _=> Rd.celI m rfl⟩
 have f7:RdI J ⟨b1,0+7,none⟩ (.int .i64 w.ba):=⟨fun _=> Rd.celI m rfl⟩
 have f8:RdI J ⟨b1,0+8,none⟩ (.int .i64 w.ho):=⟨fun _=> Rd.celI m rfl⟩
 have f9:RdI J ⟨b1,0+9,none⟩ (.int .i64 w.pr):=⟨fun _=> Rd.celI m rfl⟩
 have fA:RdsN J ⟨b1,0,none⟩ 10 [.int .i64 w.go, .int .i64 w.gg, .int .i64 w.gm, .int .i64 w.sl, .int .i64 w.mo, .int .i64 w.sa, .int .i64 w.ra, .int .i64 w.ba, .int .i64 w.ho, .int .i64 w.pr]:=⟨fun _=> Rds.allI m,rfl⟩
 refine CW.rg (RL.fa fa_120_0 rfl (RL.lS isAgg118 sizeOf118 rfl ?_))
 refine RL.vq (gate_any w.go w.gg w.gm) call186 rfl ?_
 refine RL.pn rfl (CW.s1 rfl ?_)
 refine CW.cd rfl (fun h1=> ?_) (fun h1=> ?_)
 ·
  refine CW.sr (RL.p rfl (RL.qn rfl (CW.ok [1,2,3] rfl (CW.rr (RQ.ss ?_)))))
  have h1': ¬(0≤w.go∧0≤w.gg∧w.go≤w.gm):=fun e=> by rw [errI_yes e] at h1;cases h1
  exact RQ.pp (res2 rfl rfl rfl) (Split.nn _) ⟨_,by rw [errI_no h1',errI_no (fun e=> h1' e.1)] <;> rfl,rfl,rfl⟩
 ·
  refine CW.sn (CW.ok [1] rfl (CW.sg [4] [] (RL.fa fa_120_1 rfl (RL.lq isAgg25 rfl ?_))))
  refine RL.fa fa_120_2 rfl (RL.lq isAgg25 rfl ?_)
  refine RL.cc (cus_any w.sl w.mo) call187 rfl pE .nil (.inl rfl) ?_
  have h1':0≤w.go∧0≤w.gg∧w.go≤w.gm:=errI_0.1 (by simpa using h1)
  rintro _ _ _ ⟨u1,rfl,rfl,rfl⟩
  refine RL.q rfl (RL.p rfl (RL.qn rfl (CW.ok [1,5,6] rfl (CW.ss (CW.sr (RL.q rfl (RL.ee ?_)))))))
  refine NQ.ss ?_
  refine CW.cd rfl (fun h2=> ?_) (fun h2=> ?_)
  ·
   refine CW.sr (RL.p rfl (RL.qn rfl (CW.rr (RQ.ss ?_))))
   have h2': ¬(0≤w.sl∧1≤w.mo):=fun e=> by rw [errI_yes e] at h2;cases h2
   exact RQ.pp (res2 rfl rfl rfl) (Split.nn _) ⟨_,by rw [errI_no h2',errI_no (fun e=> h2' e.2.1)] <;> rfl,rfl,rfl⟩
  ·
   refine CW.sn (CW.sg [4] [] (RL.fa fa_120_3 rfl (RL.lq isAgg3 rfl ?_)))
   refine RL.fa fa_120_4 rfl (RL.lq isAgg25 rfl ?_)
   refine RL.cc (stk_any w.sa w.ra) call188 rfl pE .nil (.inl rfl) ?_
   have h2':0≤w.sl∧1≤w.mo:=errI_0.1 (by simpa using h2)
   rintro _ _ _ ⟨u2,rfl,rfl,rfl⟩
   refine RL.q rfl (RL.p rfl (RL.qn rfl (CW.ok [1,5,6,7] rfl (CW.ss (CW.sr (RL.q rfl (RL.ee ?_)))))))
   refine NQ.ss ?_
   refine CW.cd rfl (fun h3=> ?_) (fun h3=> ?_)
   ·
    refine CW.sr (RL.p rfl (RL.qn rfl (CW.rr (RQ.ss ?_))))
    have h3': ¬(1≤w.sa∧w.sa≤1000∧0≤w.ra):=fun e=> by rw [errI_yes e] at h3;cases h3
    exact RQ.pp (res2 rfl rfl rfl) (Split.nn _) ⟨_,by rw [errI_no h3',errI_no (fun e=> h3' e.2.2.1)] <;> rfl,rfl,rfl⟩
   ·
    refine CW.sn (CW.sg [6] [] (RL.fa fa_120_5 rfl (RL.lq isAgg3 rfl ?_)))
    refine RL.fa fa_120_6 rfl (RL.lq isAgg3 rfl ?_)
    refine RL.fa fa_120_7 rfl (RL.lq isAgg3 rfl ?_)
    refine RL.cc (qua_any w.ba w.ho w.pr) call189 rfl pE .nil (.inl rfl) ?_
    have h3':1≤w.sa∧w.sa≤1000∧0≤w.ra:=errI_0.1 (by simpa using h3)
    rintro _ _ _ ⟨u3,rfl,rfl,rfl⟩
    refine RL.q rfl (RL.p rfl (RL.qn rfl (CW.ok [1,5,6,7,8] rfl (CW.ss (CW.sr (RL.q rfl (RL.ee ?_)))))))
    refine NQ.ss ?_
    refine CW.cd rfl (fun h4=> ?_) (fun h4=> ?_)
    ·
     refine CW.sr (RL.p rfl (RL.qn rfl (CW.rr (RQ.ss ?_))))
     have h4': ¬(1≤w.ba∧w.ba≤100∧1≤w.ho∧w.ho≤65535∧1≤w.pr∧w.pr≤100):=fun e=> by rw [errI_yes e] at h4;cases h4
     exact RQ.pp (res2 rfl rfl rfl) (Split.nn _) ⟨_,by rw [errI_no h4',errI_no (fun e=> h4' e.2.2.2)] <;> rfl,rfl,rfl⟩
    ·
     refine CW.sn (CW.sg [5,7] [] (RL.p rfl (RL.fa fa_120_0 rfl (RL.lS isAgg118 sizeOf118 rfl ?_))))
     refine RL.q rfl ?_
     refine RL.makeMap (good:=fun _=> True) rfl rfl (fun mp=> ?_)
     refine RL.bS [_,_,_,_,_,_,_] zeroValue348 pl_348 rfl (RL.box rfl ?_)
     intro b2
     refine RL.p rfl (RL.qn rfl (CW.ok [2,3] rfl (CW.rr ?_)))
     have h4':1≤w.ba∧w.ba≤100∧1≤w.ho∧w.ho≤65535∧1≤w.pr∧w.pr≤100:=errI_0.1 (by simpa using h4)
     exact RQ.pp (res2 rfl rfl rfl) (Split.nn _) ⟨_,by rw [errI_yes h4',errI_yes (p:=w.Ok) ⟨h1',h2',h3',h4'⟩] <;> rfl,rfl,rfl⟩
theorem rwatch_any (w:Wt):Spc prog 80 #[.agg #[.int .i64 w.go, .int .i64 w.gg, .int .i64 w.gm, .int .i64 w.sl, .int .i64 w.mo, .int .i64 w.sa, .int .i64 w.ra, .int .i64 w.ba, .int .i64 w.ho, .int .i64 w.pr]] [] [] (ErP (errI w.Ok)):=by
 refine Spc.en func80 rfl rfl (fun w0 hw0=> ?_)
 refine CW.sg [0] [] (RL.box rfl ?_)
 intro b1
 refine RL.qn rfl (CW.ss (CW.fP (A:= [_]) (B:= []) (.take .nil) rfl ?_))
 refine CW.gI (fun J hJ=> ?_)
 have m:cel b1 w.cells 57∈J:=hJ _ (by simp [Wt.cells])
 clear hJ
 have fG:RdsN J ⟨b1,0+0,none⟩ 3 [.int .i64 w.go, .int .i64 w.gg, .int .i64 w.gm]:=RdsN.told m (fun j u hj=> by
  match j,hj with
  | 0,hj=> exact hj
  | 1,hj=> exact hj
  | 2,hj=> exact hj
  | j+3,hj=> simp at hj) rfl
 have f3:RdI J ⟨b1,0+3,none⟩ (.int .i64 w.sl):=⟨fun _=> Rd.celI m rfl⟩
 have f4:RdI J ⟨b1,0+4,none⟩ (.int .i64 w.mo):=⟨fun _=> Rd.celI m rfl⟩
 have f5:RdI J ⟨b1,0+5,none⟩ (.int .i64 w.sa):=⟨fun _=> Rd.celI m rfl⟩
 have f6:RdI J ⟨b1,0+6,none⟩ (.int .i64 w.ra):=⟨fun _=> Rd.celI m rfl⟩
 have f7:RdI J ⟨b1,0+7,none⟩ (.int .i64 w.ba):=⟨fun _=> Rd.celI m rfl⟩
 have f8:RdI J ⟨b1,0+8,none⟩ (.int .i64 w.ho):=⟨fun _=> Rd.celI m rfl⟩
 have f9:RdI J ⟨b1,0+9,none⟩ (.int .i64 w.pr):=⟨fun _=> Rd.celI m rfl⟩
 have fA:RdsN J ⟨b1,0,none⟩ 10 [.int .i64 w.go, .int .i64 w.gg, .int .i64 w.gm, .int .i64 w.sl, .int .i64 w.mo, .int .i64 w.sa, .int .i64 w.ra, .int .i64 w.ba, .int .i64 w.ho, .int .i64 w.pr]:=⟨fun _=> Rds.allI m,rfl⟩
 refine CW.rn (ef:= [4]) (bk:= []) (RL.fa fa_57_1 rfl (RL.lq isAgg25 rfl ?_))
 refine RL.fa fa_57_2 rfl (RL.lq isAgg25 rfl ?_)
 refine RL.cc (rcus_any w.sl w.mo) call122 rfl pE .nil (.inl rfl) ?_
 rintro _ _ _ ⟨u1,rfl,rfl,rfl⟩
 refine RL.q rfl (RL.p rfl (RL.qn rfl (CW.ok [1,4,5] rfl (CW.sg [4] [] (RL.fa fa_57_3 rfl (RL.lq isAgg3 rfl ?_))))))
 refine RL.fa fa_57_4 rfl (RL.lq isAgg25 rfl ?_)
 refine RL.cc (rstk_any w.sa w.ra) call123 rfl pE .nil (.inl rfl) ?_
 rintro _ _ _ ⟨u2,rfl,rfl,rfl⟩
 refine RL.q rfl (RL.p rfl (RL.qn rfl (CW.ok [1,4,5,6,7] rfl (CW.sg [6] [] (RL.fa fa_57_5 rfl (RL.lq isAgg3 rfl ?_))))))
 refine RL.fa fa_57_6 rfl (RL.lq isAgg3 rfl ?_)
 refine RL.fa fa_57_7 rfl (RL.lq isAgg3 rfl ?_)
 refine RL.cc (rqua_any w.ba w.ho w.pr) call124 rfl pE .nil (.inl rfl) ?_
 rintro _ _ _ ⟨u3,rfl,rfl,rfl⟩
 refine RL.q rfl (RL.p rfl (RL.qn rfl (CW.ok [1,4,5,6,7,8,9] rfl (CW.ss (CW.sr (RL.fa fa_57_0 rfl (RL.lS isAgg55 sizeOf55 rfl ?_)))))))
 refine RL.vq (rgate_any w.go w.gg w.gm) call125 rfl ?_
 refine RL.q rfl ?_
 apply RL.orB (d:=40) (dp:=43) (l':=(Sq.of (rg 8 15))) rfl (sK [1,4,6,7,8,9] rfl)
 ·
  intro hb5 K5
  refine RL.q rfl (RL.p rfl ?_)
  exact K5 _ (.cons rfl (sK [1,4,6,7,8,9] rfl))
 ·
  intro hb5 K5
  refine RL.q rfl (RL.p rfl ?_)
  exact K5 _ (.cons rfl (sK [1,4,6,7,8,9] rfl))
 refine RL.p rfl ?_
 apply RL.orB (d:=44) (dp:=47) (l':=(Sq.of [12,13,14,15])) rfl (sK [1,4,6,8,9] rfl)
 ·
  intro hb9 K9
  refine RL.q rfl (RL.p rfl ?_)
  exact K9 _ (.cons rfl (sK [1,4,6,8,9] rfl))
 ·
  intro hb9 K9
  refine RL.q rfl (RL.p rfl ?_)
  exact K9 _ (.cons rfl (sK [1,4,6,8,9] rfl))
 refine RL.p rfl ?_
 apply RL.orB (d:=48) (dp:=51) (l':=(Sq.of [])) rfl (sK [1,4,6,8] rfl)
 ·
  intro hb13 K13
  refine RL.q rfl (RL.p rfl ?_)
  exact K13 _ (.cons rfl (sK [1,4,6,8] rfl))
 ·
  intro hb13 K13
  refine RL.q rfl (RL.p rfl ?_)
  exact K13 _ (.cons rfl (sK [1,4,6,8] rfl))
 refine RL.ns ?_
 refine CW.cd rfl (fun h=> ?_) (fun h=> ?_)
 ·
  refine CW.s1 rfl (CW.rr (RQ.ss ?_))
  have h': ¬w.Ok:=fun e=> by
   rw [errI_yes e.1,errI_yes e.2.1,errI_yes e.2.2.1,errI_yes e.2.2.2] at h;cases h
  exact RQ.pp (res2 rfl rfl rfl) (Split.nn _) ⟨_,by rw [errI_no h'] <;> rfl,rfl,rfl⟩
 ·
  refine CW.sn (CW.sg [5] [] (RL.lS isAgg57 sizeOf57 rfl ?_))
  refine RL.q rfl (RL.p rfl (RL.bS [_,_,_,_,_,_,_,_,_,_,_,_,_,_] zeroValue262 pl_262 rfl (RL.box rfl ?_)))
  intro b2
  refine RL.qn rfl (CW.ok [2,3] rfl (CW.rr ?_))
  have h':w.Ok:=by
   simp [errI_0] at h
   exact ⟨h.1.1.1,h.1.1.2,h.1.2,h.2⟩
  exact RQ.pp (res2 rfl rfl rfl) (Split.nn _) ⟨_,by rw [errI_yes h'] <;> rfl,rfl,rfl⟩
theorem right_any (s:Sr) (h:s.Fit):Spc prog 117 #[.agg s.cells.toArray] [] [] (Is (.bool s.ok)):=by
 have hl:=sr_len h.rt
 refine Spc.en func117 rfl rfl (fun w0 hw0=> ?_)
 refine CW.sg [0] [] (RL.box rfl ?_)
 intro b1
 refine RL.pn rfl (CW.s2 (CW.fP (A:= [_]) (B:= []) (.take .nil) rfl ?_))
 refine CW.gI (fun J hJ=> ?_)
 have m:cel b1 s.cells 122∈J:=hJ _ zm
 clear hJ
 have f0:RdI J ⟨b1,0+0,none⟩ (.int .i64 s.id):=⟨fun _=> Rd.celI m rfl⟩
 have f1:RdI J ⟨b1,0+1,none⟩ (.int .i64 s.kd):=⟨fun _=> Rd.celI m rfl⟩
 have fA:RdsN J ⟨b1,0,none⟩ 48 s.cells:=⟨fun _=> Rds.allI m,hl⟩
 have fW:RdsN J ⟨b1,0+38,none⟩ 10 s.wt.cells:=RdsN.told m (fun j u hj=> by rw [sr_w h.rt];exact hj) rfl
 refine CW.rg (RL.fa fa_122_0 rfl (RL.lq isAgg3 rfl ?_))
 refine RL.q rfl ?_
 apply RL.orB (d:=8) (dp:=12) (l':=(Sq.of [])) rfl (sK [1,2] rfl)
 ·
  intro hb4 K4
  refine RL.fa fa_122_0 rfl (RL.lq isAgg3 rfl ?_)
  refine RL.q rfl ?_
  exact K4 _ (.cons rfl (sK [1,2] rfl))
 ·
  intro hb4 K4
  refine RL.q rfl (RL.q rfl ?_)
  exact K4 _ (.cons rfl (sK [1,2] rfl))
 refine RL.ns ?_
 refine CW.cd rfl (fun h1=> ?_) (fun h1=> ?_)
 ·
  refine CW.sr (RL.pn rfl (CW.rr (RQ.ss ?_)))
  exact RQ.pp (res1 rfl rfl) (Split.nn _) ⟨by rw [Sr.ok,decide_eq_false (fun e=> by simp at h1;omega)],rfl,rfl⟩
 ·
  refine CW.sn (CW.ss (CW.sr (RL.lS isAgg122 sizeOf122 rfl ?_)))
  refine RL.vq (aid_any s) call116 rfl ?_
  refine RL.ns ?_
  have h1':0≤s.id∧s.id≤7:=by simp at h1;omega
  refine CW.cd rfl (fun h2=> ?_) (fun h2=> ?_)
  ·
   refine CW.sg [2] [] (RL.fa fa_122_7 rfl (RL.lS isAgg120 sizeOf120 rfl ?_))
   refine RL.cc (watch_any s.wt) call153 rfl pE .nil (.inl rfl) ?_
   have h2':2≤s.kd∧s.kd≤5:=by simpa [aidB] using h2
   rintro _ _ _ ⟨u,rfl,rfl,rfl⟩
   refine RL.q rfl (RL.p rfl (RL.qn rfl (CW.ok [1,4] rfl (CW.sr (RL.q rfl (RL.p rfl (RL.ee ?_)))))))
   refine NQ.ss (CW.rr (RQ.ss ?_))
   refine RQ.pp (res1 rfl rfl) (Split.nn _) ⟨?_,rfl,rfl⟩
   show Value.bool (errI s.wt.Ok==0)=_
   congr 1
   rw [Bool.eq_iff_iff]
   simp [Sr.ok,h1',h2',errI_0]
  ·
   refine CW.sn (CW.sr (RL.fa fa_122_1 rfl (RL.lq isAgg3 rfl ?_)))
   refine RL.q rfl ?_
   apply RL.orB (d:=26) (dp:=30) (l':=(Sq.of [8])) rfl (sK [2] rfl)
   ·
    intro hb4 K4
    refine RL.fa fa_122_1 rfl (RL.lq isAgg3 rfl ?_)
    refine RL.q rfl ?_
    exact K4 _ (.cons rfl (sK [2] rfl))
   ·
    intro hb4 K4
    refine RL.q rfl (RL.q rfl ?_)
    exact K4 _ (.cons rfl (sK [2] rfl))
   refine RL.pn rfl (CW.rr ?_)
   have h2': ¬(2≤s.kd∧s.kd≤5):=by simpa [aidB] using h2
   refine RQ.pp (res1 rfl rfl) (Split.nn _) ⟨?_,rfl,rfl⟩
   congr 1
   rw [Bool.eq_iff_iff]
   simp [Sr.ok,h1',h2']
theorem flat_rdsN {I:List It} {b n sz i:Nat} {α:Type} {f:α→List Value} {R:List α} {x:α} (hm:sls (some ⟨b,0,none⟩) sz n (R.flatMap f)∈I) (hx:R[i]? =some x) (hf:∀y∈R,(f y).length=sz):RdsN I ⟨b,0+i*sz,none⟩ sz (f x):=
 ⟨fun H=> by
  have h:=Rds.part (H:=H) (j:=i*sz) (vs:=f x) (Rds.sls hm) (fun q u hu=> by
   have hlt:q < sz:=by have:=(List.getElem?_eq_some_iff.1 hu).1;rwa [hf x (List.mem_of_getElem? hx)] at this
   rw [get_flat (f:=f) (n:=sz) hf hx hlt];exact hu)
  rwa [add_none] at h,hf x (List.mem_of_getElem? hx)⟩
theorem flat_rdI {I:List It} {b n sz i j:Nat} {α:Type} {f:α→List Value} {R:List α} {x:α} {v:Value} (hm:sls (some ⟨b,0,none⟩) sz n (R.flatMap f)∈I) (hx:R[i]? =some x) (hf:∀y∈R,(f y).length=sz) (hv:(f x)[j]? =some v):RdI I ⟨b,0+i*sz+j,none⟩ v:=
 ⟨fun H=> by
  have h:=((flat_rdsN hm hx hf).h H).rd hv
  rwa [add_none] at h⟩
structure Ad where
 src:Int
 kd:Int
 w:Int
 g:Int
 st:Int
 lm:Int
 hz:Int
def Ad.cells (a:Ad):List Value:= [.int .i64 a.src, .int .i64 a.kd, .int .i64 a.w, .int .i64 a.g, .int .i64 a.st, .int .i64 a.lm, .int .i64 a.hz]
def Ad.ok (a:Ad):Bool:=decide ((0≤a.src∧a.src≤7)∧(2≤a.kd∧a.kd≤5)∧(0≤a.w∧a.w≤16)∧(0≤a.g∧a.g≤16∧0≤a.st∧0≤a.lm∧1≤a.hz∧a.hz≤65535))
def wasA (L:List Ad):Nat→Int
 | 0=> -1
 | i+1=> match L[i]? with
  | some a=> a.src
  | none=> 0
def stepA (L:List Ad) (j:Nat):Bool:=match L[j]? with
 | some a=> a.ok && decide (wasA L j < a.src)
 | none=> true
def adsB (L:List Ad):Bool:=(List.range L.length).all (stepA L)
theorem adsB_iff {L:List Ad}:adsB L=true↔∀j,stepA L j=true:=by
 rw [adsB,List.all_eq_true]
 constructor
 ·intro h j
  by_cases hj:j < L.length
  ·exact h j (List.mem_range.2 hj)
  ·rw [stepA,List.getElem?_eq_none zb]
 ·exact fun h j _=> h j
theorem stepA_at {L:List Ad} {j:Nat} {a:Ad} (h:L[j]? =some a):stepA L j=(a.ok && decide (wasA L j < a.src)):=by rw [stepA,h]
theorem wasA_at {L:List Ad} {j:Nat} {a:Ad} (h:L[j]? =some a):wasA L (j+1)=a.src:=by rw [wasA,h]
theorem aright_any (a:Ad):Spc prog 119 #[.agg #[.int .i64 a.src, .int .i64 a.kd, .int .i64 a.w, .int .i64 a.g, .int .i64 a.st, .int .i64 a.lm, .int .i64 a.hz]] [] [] (Is (.bool a.ok)):=by
 refine Spc.en func119 rfl rfl (fun w0 hw0=> ?_)
 refine CW.sg [0] [] (RL.box rfl ?_)
 intro b1
 refine RL.pn rfl (CW.ss (CW.fP (A:= [_]) (B:= []) (.take .nil) rfl ?_))
 refine CW.gI (fun J hJ=> ?_)
 have m:cel b1 a.cells 242∈J:=hJ _ (by simp [Ad.cells])
 clear hJ
 have f0:RdI J ⟨b1,0+0,none⟩ (.int .i64 a.src):=⟨fun _=> Rd.celI m rfl⟩
 have f1:RdI J ⟨b1,0+1,none⟩ (.int .i64 a.kd):=⟨fun _=> Rd.celI m rfl⟩
 have f2:RdI J ⟨b1,0+2,none⟩ (.int .i64 a.w):=⟨fun _=> Rd.celI m rfl⟩
 have f3:RdsN J ⟨b1,0+3,none⟩ 4 [.int .i64 a.g, .int .i64 a.st, .int .i64 a.lm, .int .i64 a.hz]:=RdsN.told m (fun j u hj=> by
  match j,hj with
  | 0,hj=> exact hj
  | 1,hj=> exact hj
  | 2,hj=> exact hj
  | 3,hj=> exact hj
  | j+4,hj=> simp at hj) rfl
 refine CW.rg (RL.fa fa_242_0 rfl (RL.lq isAgg3 rfl ?_))
 refine RL.q rfl ?_
 apply RL.andB (d:=6) (dp:=10) (l':=(Sq.of (rg 8 34))) rfl (sK [1,2] rfl)
 ·
  intro hb4 K4
  refine RL.fa fa_242_0 rfl (RL.lq isAgg3 rfl ?_)
  refine RL.q rfl ?_
  exact K4 _ (.cons rfl (sK [1,2] rfl))
 ·
  intro hb4 K4
  refine RL.q rfl (RL.q rfl ?_)
  exact K4 _ (.cons rfl (sK [1,2] rfl))
 refine RL.p rfl ?_
 apply RL.andB (d:=11) (dp:=15) (l':=(Sq.of (rg 13 34))) rfl (sK [1,2] rfl)
 ·
  intro hb9 K9
  refine RL.fa fa_242_1 rfl (RL.lq isAgg3 rfl ?_)
  refine RL.q rfl ?_
  exact K9 _ (.cons rfl (sK [1,2] rfl))
 ·
  intro hb9 K9
  refine RL.q rfl (RL.q rfl ?_)
  exact K9 _ (.cons rfl (sK [1,2] rfl))
 refine RL.p rfl ?_
 apply RL.andB (d:=16) (dp:=20) (l':=(Sq.of (rg 18 34))) rfl (sK [1,2] rfl)
 ·
  intro hb14 K14
  refine RL.fa fa_242_1 rfl (RL.lq isAgg3 rfl ?_)
  refine RL.q rfl ?_
  exact K14 _ (.cons rfl (sK [1,2] rfl))
 ·
  intro hb14 K14
  refine RL.q rfl (RL.q rfl ?_)
  exact K14 _ (.cons rfl (sK [1,2] rfl))
 refine RL.p rfl ?_
 apply RL.andB (d:=21) (dp:=25) (l':=(Sq.of (rg 23 34))) rfl (sK [1,2] rfl)
 ·
  intro hb19 K19
  refine RL.fa fa_242_2 rfl (RL.lq isAgg3 rfl ?_)
  refine RL.q rfl ?_
  exact K19 _ (.cons rfl (sK [1,2] rfl))
 ·
  intro hb19 K19
  refine RL.q rfl (RL.q rfl ?_)
  exact K19 _ (.cons rfl (sK [1,2] rfl))
 refine RL.p rfl ?_
 apply RL.andB (d:=26) (dp:=30) (l':=(Sq.of [28,29,30,31,32,33,34])) rfl (sK [1,2] rfl)
 ·
  intro hb24 K24
  refine RL.fa fa_242_2 rfl (RL.lq isAgg3 rfl ?_)
  refine RL.q rfl ?_
  exact K24 _ (.cons rfl (sK [1,2] rfl))
 ·
  intro hb24 K24
  refine RL.q rfl (RL.q rfl ?_)
  exact K24 _ (.cons rfl (sK [1,2] rfl))
 refine RL.p rfl ?_
 apply RL.andB (d:=31) (dp:=36) (l':=(Sq.of [34])) rfl (sK [2] rfl)
 ·
  intro hb29 K29
  refine RL.fa fa_242_3 rfl (RL.lS isAgg240 sizeOf240 rfl ?_)
  refine RL.vq (rule_any a.g a.st a.lm a.hz) call155 rfl ?_
  refine RL.q rfl ?_
  exact K29 _ (.cons rfl (sK [2] rfl))
 ·
  intro hb29 K29
  refine RL.q rfl (RL.q rfl (RL.p rfl ?_))
  exact K29 _ (.cons rfl (sK [2] rfl))
 refine RL.pn rfl (CW.rr ?_)
 refine RQ.pp (res1 rfl rfl) (Split.nn _) ⟨?_,rfl,rfl⟩
 congr 1
 rw [Bool.eq_iff_iff]
 simp [Ad.ok,errI_0]
 omega
def sameM (i:Nat):List Value:=(List.range 9).map fun j=> .int .i64 (if j % 4=0∧j < 4*i then 4294967296 else 0)
theorem same_any':Spc prog 154 #[] [] [] (Is (.agg (sameM 3).toArray)):=by
 refine Spc.en func154 rfl rfl (fun w0 hw0=> ?_)
 refine CW.sg [0] [] (RL.al zeroValue232 rfl ?_)
 intro b1
 refine RL.ns (CW.sg [0] [] (RL.al zeroValue232 rfl ?_))
 intro b2
 refine RL.ns (CW.ss (CW.sr (RL.pn rfl (CW.bb (CW.loop (γ:=Nat) (fun i=> i≤3) (fun i=> [(0, .pointer (some ⟨b1,0,none⟩)),(1, .pointer (some ⟨b2,0,none⟩)),(3, .int .i64 (i:Int))]) (fun _=> []) (fun i=> [cel b1 (sameM 0) 232,cel b2 (sameM i) 232]) (fun i=> 3 - i) 0 zb sE wE ?_)))))
 intro i hi
 refine CW.sr (RL.pn rfl (CW.ss ?_))
 refine CW.cd rfl (fun hlt=> ?_) (fun hlt=> ?_)
 ·
  have hlt:i < 3:=by simp at hlt;omega
  have hfit:(0+i*3+i*1+ [Value.int .i64 4294967296].length).ble (sameM i).length=true:=by
   rw [Nat.ble_eq];show 0+i*3+i*1+1≤9;omega
  have hsm:spl (sameM i) (0+i*3+i*1) [.int .i64 4294967296]=sameM (i+1):=by
   rcases i with _ | _ | _ | i
   ·rfl
   ·rfl
   ·rfl
   ·omega
  refine CW.sn (CW.ss (CW.bb (CW.s1 rfl (CW.rn (ef:= [4]) (bk:= [4]) (RL.q rfl (RL.iA (j:=i) runUnderlying232 sizeOf27 rfl hlt ?_))))))
  refine RL.iA (j:=i) runUnderlying27 sizeOf25 rfl hlt (RL.store sizeOf25 rfl hfit uE ?_)
  refine RL.ee (NQ.bb (NQ.ss (CW.ok [0,1,3] rfl (CW.rg (RL.bx rfl (wrapV_i64 zb zb) ?_)))))
  refine RL.p rfl (RL.ee ?_)
  refine NQ.rr (g:=i) (i+1) hlt (by show 3 - (i+1) < 3 - i;omega) sE (fun w h=> ?_)
  rw [←hsm]
  exact h.rea (fun _ h=> h) rE
 ·
  have hin:i=3:=by simp at hlt;omega
  subst hin
  refine CW.xx (XQ.ss (XQ.ss (XQ.hh (NQ.ss (CW.sg [1] [1] (RL.lS isAgg232 sizeOf232 rfl ?_))))))
  refine RL.store (vs:= [_,_,_,_,_,_,_,_,_]) sizeOf232 rfl rfl uE ?_
  refine RL.ns (CW.rr ?_)
  exact RQ.pp (resW rfl rfl isAgg232 sizeOf232 mQ rfl) (Split.nn _) ⟨rfl,rfl,rfl⟩
theorem att_any:Spc prog 118 #[] [] [] (Is (.agg #[.int .i64 4294967296, .int .i64 0, .int .i64 0, .int .i64 0, .int .i64 4294967296, .int .i64 0, .int .i64 0, .int .i64 0, .int .i64 4294967296, .int .i64 0])):=by
 refine Spc.en func118 rfl rfl (fun w0 hw0=> ?_)
 refine CW.sg [0] [] (RL.al zeroValue234 rfl ?_)
 intro b1
 refine RL.ns (CW.sg [2] [2] (RL.vq (same_any') call154 rfl ?_))
 refine RL.bS [_,_,_,_,_,_,_,_,_,_] zeroValue234 pl_234 rfl (RL.store (vs:= [_,_,_,_,_,_,_,_,_,_]) sizeOf234 rfl rfl uE ?_)
 refine RL.ns (CW.rr ?_)
 exact RQ.pp (resW rfl rfl isAgg234 sizeOf234 mQ rfl) (Split.nn _) ⟨rfl,rfl,rfl⟩
theorem nav_any (g0 g1 g2 dr:Int) (oa:Option Nat) (ca n:Nat) (L:List Ad) (hn:L.length=n) (hl:n≤1000000):
  Spc prog 75 #[.agg #[.int .i64 g0, .int .i64 g1, .int .i64 g2, .int .i64 dr,slO oa n ca]] [sls (oa.map fun b=> ⟨b,0,none⟩) 7 n (L.flatMap Ad.cells)] [] (ErP (errI (0≤dr∧L.length≤8∧adsB L=true))):=by
 subst hn
 refine Spc.en func75 rfl rfl (fun w0 hw0=> ?_)
 refine CW.sg [0] [] (RL.box rfl ?_)
 intro b1
 refine RL.qn rfl (CW.s2 (CW.freezeAll rfl ?_))
 simp only [List.cons_append,List.nil_append]
 generalize hJ:([cel b1 [.int .i64 g0, .int .i64 g1, .int .i64 g2, .int .i64 dr,slO oa L.length ca] 179,sls (oa.map fun b=> ⟨b,0,none⟩) 7 L.length (L.flatMap Ad.cells)]:List It)=J
 have m1:cel b1 [.int .i64 g0, .int .i64 g1, .int .i64 g2, .int .i64 dr,slO oa L.length ca] 179∈J:=by rw [←hJ];exact mQ
 have m2:sls (oa.map fun b=> ⟨b,0,none⟩) 7 L.length (L.flatMap Ad.cells)∈J:=by rw [←hJ];exact mQ
 clear hJ
 have fG:RdsN J ⟨b1,0+0,none⟩ 3 [.int .i64 g0, .int .i64 g1, .int .i64 g2]:=RdsN.told m1 (fun j u hj=> by
  match j,hj with
  | 0,hj=> exact hj
  | 1,hj=> exact hj
  | 2,hj=> exact hj
  | j+3,hj=> simp at hj) rfl
 have fD:RdI J ⟨b1,0+3,none⟩ (.int .i64 dr):=⟨fun _=> Rd.celI m1 rfl⟩
 have fS:RdI J ⟨b1,0+4,none⟩ (slO oa L.length ca):=⟨fun _=> Rd.celI m1 rfl⟩
 refine CW.rg (RL.fa fa_179_1 rfl (RL.lq isAgg25 rfl ?_))
 refine RL.q rfl ?_
 apply RL.orB (d:=11) (dp:=16) (l':=(Sq.of [])) rfl (sK [1,2,3] rfl)
 ·
  intro hb4 K4
  refine RL.fa fa_179_2 rfl (RL.lq isAgg177 rfl ?_)
  refine RL.lenS runUnderlying177 rfl (RL.q rfl ?_)
  exact K4 _ (.cons rfl (sK [1,2,3] rfl))
 ·
  intro hb4 K4
  refine RL.q rfl (RL.q rfl (RL.p rfl ?_))
  exact K4 _ (.cons rfl (sK [1,2,3] rfl))
 refine RL.ns ?_
 refine CW.cd rfl (fun h1=> ?_) (fun h1=> ?_)
 ·
  refine CW.s1 rfl (CW.rr (RQ.ss ?_))
  exact RQ.pp (res2 rfl rfl rfl) (Split.nn _) ⟨_,by rw [errI_no (by simp at h1;omega)],rfl,rfl⟩
 ·
  refine CW.sn (CW.ss (CW.rD (Sq.of (rg 0 8)) [5,7] [] [0,1,2,3,4,6,8] mixed zi ?_))
  refine RL.fa fa_179_0 rfl (RL.loadSTq isAgg27 sizeOf27 rfl ?_)
  refine RL.fa fa_179_1 rfl (RL.lT isAgg25 rfl ?_)
  refine RL.callTq (att_any) call118 rfl ?_
  refine RL.makeMap (good:=goodI) rfl rfl (fun mp=> ?_)
  refine RL.bS [_,_,_,_,_,_,_,_,_,_,_,_,_,_,_,_,_,_,_,_,_,_,_,_,_] zeroValue238 pl_238 rfl (RL.box rfl ?_)
  intro b2
  refine RL.pn rfl (CW.ok [1,4] rfl (CW.sr (RL.pn rfl (CW.ss (CW.sr (RL.fa fa_179_2 rfl (RL.lq isAgg177 rfl ?_)))))))
  refine RL.lenS runUnderlying177 rfl (RL.pn rfl (CW.bb ?_))
  have h1:0≤dr∧L.length≤8:=by simp at h1;omega
  refine CW.fP (A:= [_]) (B:= [mapI mp goodI []]) pE rfl ?_
  refine CW.gI (fun J2 hJ2=> ?_)
  have hJ12:∀x∈J,x∈J2:=fun x hx=> hJ2 x (by simp [hx])
  have mN:=hJ2 _ (List.Mem.head _)
  have m3:=hJ12 _ m2
  clear hJ2
  have fM:RdI J2 ⟨b2,0+20,none⟩ (.map (some mp)):=⟨fun _=> Rd.celI mN rfl⟩
  clear fG fD fS m1 m2
  refine CW.loop (γ:=Nat×List (Value×Value)) (fun g=> g.1≤L.length∧(∀j < g.1,stepA L j=true)) (fun g=> [(4, .pointer (some ⟨b2,0,none⟩)),(5, .int .i64 (wasA L g.1)),(26,slO oa L.length ca),(27, .int .i64 (L.length:Int)),(28, .int .i64 (g.1:Int))]) (fun _=> J2) (fun g=> [mapI mp goodI g.2]) (fun g=> L.length - g.1) (0, []) ⟨Nat.zero_le _,fun j h=> by omega⟩ sE wE ?_
  rintro ⟨i,c⟩ ⟨hi,hok⟩
  dsimp only at hi hok ⊢
  refine CW.ff (p:=oa=none→L.length=0) (fun w hC e=> sls_nil (hC.s.i _ m3) (by rw [e];rfl)) (fun hpa=> ?_)
  refine CW.sr (RL.pn rfl (CW.ss ?_))
  refine CW.cd rfl (fun hlt=> ?_) (fun hlt=> ?_)
  ·
   have hlt:i < L.length:=by simp at hlt;omega
   cases oa with
   | none=> exact absurd (hpa rfl) zb
   | some ba=>
   have hx:=List.getElem?_eq_getElem hlt
   generalize L[i]=a at hx
   have fA:RdsN J2 ⟨ba,0+i*7,none⟩ 7 [.int .i64 a.src, .int .i64 a.kd, .int .i64 a.w, .int .i64 a.g, .int .i64 a.st, .int .i64 a.lm, .int .i64 a.hz]:=flat_rdsN (f:=Ad.cells) m3 hx (fun _ _=> rfl)
   refine CW.sn (CW.ss (CW.bb (CW.sg [2,3] [3] (RL.ix (j:=i) runUnderlying177 sizeOf242 rfl (hlt) (RL.lS isAgg242 sizeOf242 rfl ?_)))))
   refine RL.al zeroValue242 rfl ?_
   intro b3
   refine RL.store (vs:= [_,_,_,_,_,_,_]) sizeOf242 rfl rfl uE ?_
   refine RL.ns (CW.ss (CW.sr (RL.lS isAgg242 sizeOf242 rfl ?_)))
   refine RL.vq (aright_any a) call119 rfl ?_
   refine RL.q rfl ?_
   apply RL.orB (d:=35) (dp:=40) (l':=(Sq.of [])) rfl (sK [4,5,7,26,27,28] rfl)
   ·
    intro hb4 K4
    refine RL.fa fa_242_0 rfl (RL.lq isAgg3 rfl ?_)
    refine RL.q rfl (RL.p rfl ?_)
    exact K4 _ (.cons rfl (sK [4,5,7,26,27,28] rfl))
   ·
    intro hb4 K4
    refine RL.q rfl (RL.q rfl (RL.p rfl ?_))
    exact K4 _ (.cons rfl (sK [4,5,7,26,27,28] rfl))
   refine RL.ns ?_
   refine CW.cd rfl (fun h2=> ?_) (fun h2=> ?_)
   ·
    refine CW.s1 rfl (CW.rr (RQ.ss (RQ.bb (RQ.ss (RQ.ss (RQ.bb (RQ.ss ?_)))))))
    have hno: ¬(0≤dr∧L.length≤8∧adsB L=true):=by
     rintro ⟨-, -,h3⟩
     have h4:=adsB_iff.1 h3 i
     rw [stepA_at hx] at h4
     simp at h2 h4
     rcases h2 with h2 | h2
     ·rw [h4.1] at h2;cases h2
     ·omega
    exact RQ.pp (res2 rfl rfl rfl) (Split.nn _) ⟨_,by rw [errI_no hno],rfl,rfl⟩
   ·
    have h2:a.ok=true∧wasA L i < a.src:=by simpa using h2
    have hs:stepA L i=true:=by rw [stepA_at hx];simp [h2]
    have hw:=wasA_at hx
    refine CW.sn ?_
    refine CW.cutN (γ:=Unit×List (Value×Value)) (fun _=> True) (fun g=> [(4, .pointer (some ⟨b2,0,none⟩)),(5, .int .i64 a.src),(26,slO (some ba) L.length ca),(27, .int .i64 (L.length:Int)),(28, .int .i64 (i:Int))]) (fun _=> J2) (fun g=> [mapI mp goodI g.2]) ?_ ?_
    ·
     refine CW.rD (.cons 0 (.cons 1 (.cons 2 (.cons 3 (.cons 4 (.cons 5 (.cons 9 (.fork [6,10,11] (fun k=> (bif Nat.beq k 6 then (.cons 7 (.fork [8,10,11] (fun k=> (bif Nat.beq k 8 then (.fork [10,11] (fun k=> (bif Nat.beq k 10 then (Sq.of [11,12,13,14]) else (.cons 12 (.fork [10,13] (fun k=> (bif Nat.beq k 10 then (Sq.of [13,14]) else (Sq.of [10,14])))))))) else (bif Nat.beq k 10 then (.fork [8,11] (fun k=> (bif Nat.beq k 8 then (Sq.of [11,12,13,14]) else (Sq.of [12,8,13,14])))) else (.cons 12 (.fork [8,10] (fun k=> (bif Nat.beq k 8 then (.fork [10,13] (fun k=> (bif Nat.beq k 10 then (Sq.of [13,14]) else (Sq.of [10,14])))) else (Sq.of [8,13,14])))))))))) else (bif Nat.beq k 10 then (.fork [6,11] (fun k=> (bif Nat.beq k 6 then (.cons 7 (.fork [8,11] (fun k=> (bif Nat.beq k 8 then (Sq.of [11,12,13,14]) else (Sq.of [12,8,13,14]))))) else (Sq.of [6,7,12,8,13,14])))) else (.cons 6 (.cons 7 (.cons 12 (.fork [8,10] (fun k=> (bif Nat.beq k 8 then (.fork [10,13] (fun k=> (bif Nat.beq k 10 then (Sq.of [13,14]) else (Sq.of [10,14])))) else (Sq.of [8,13,14])))))))))))))))))) [8,11,13] [11,13] [0,1,2,3,4,7,9,12,14] mixed zi ?_
     refine RL.q rfl (RL.fa fa_238_5 rfl (RL.lT isAgg236 rfl ?_))
     refine RL.fa fa_242_0 rfl (RL.lq isAgg3 rfl ?_)
     refine RL.fa fa_242_0 rfl ?_
     refine RL.fork ⟨?_, ?_, ?_,trivial⟩
     ·
      refine RL.lS isAgg242 sizeOf242 rfl ?_
      refine RL.bS [_,_,_,_,_,_,_,_,_,_,_,_] zeroValue247 pl_247 rfl ?_
      refine RL.fork ⟨?_, ?_, ?_,trivial⟩
      ·
       refine RL.box rfl ?_
       intro b4
       refine RL.fork ⟨?_, ?_,trivial⟩
       ·
        refine RL.lq isAgg3 rfl ?_
        refine RL.mapEntry (key:= .int .i64 a.src) keyI runUnderlying236 zeroValue243 rfl ⟨a.src,rfl⟩ mQ (fun st=> ⟨_,uE, ?_⟩)
        refine RL.p rfl (RL.entryStore rfl uE ?_)
        refine RL.p rfl (RL.ee ?_)
        exact NQ.gg ((),_) trivial sE wE
       ·
        refine RL.mapEntry (key:= .int .i64 a.src) keyI runUnderlying236 zeroValue243 rfl ⟨a.src,rfl⟩ mQ (fun st=> ⟨_,uE, ?_⟩)
        refine RL.p rfl ?_
        refine RL.fork ⟨?_, ?_,trivial⟩
        ·
         refine RL.lq isAgg3 rfl ?_
         refine RL.entryStore rfl uE ?_
         refine RL.p rfl (RL.ee ?_)
         exact NQ.gg ((),_) trivial sE wE
        ·
         refine RL.entryStore rfl uE ?_
         refine RL.lq isAgg3 rfl ?_
         refine RL.p rfl (RL.ee ?_)
         exact NQ.gg ((),_) trivial sE wE
      ·
       refine RL.lq isAgg3 rfl ?_
       refine RL.fork ⟨?_, ?_,trivial⟩
       ·
        refine RL.box rfl ?_
        intro b4
        refine RL.mapEntry (key:= .int .i64 a.src) keyI runUnderlying236 zeroValue243 rfl ⟨a.src,rfl⟩ mQ (fun st=> ⟨_,uE, ?_⟩)
        refine RL.p rfl (RL.entryStore rfl uE ?_)
        refine RL.p rfl (RL.ee ?_)
        exact NQ.gg ((),_) trivial sE wE
       ·
        refine RL.mapEntry (key:= .int .i64 a.src) keyI runUnderlying236 zeroValue243 rfl ⟨a.src,rfl⟩ mQ (fun st=> ⟨_,uE, ?_⟩)
        refine RL.p rfl (RL.box rfl ?_)
        intro b4
        refine RL.entryStore rfl uE ?_
        refine RL.p rfl (RL.ee ?_)
        exact NQ.gg ((),_) trivial sE wE
      ·
       refine RL.mapEntry (key:= .int .i64 a.src) keyI runUnderlying236 zeroValue243 rfl ⟨a.src,rfl⟩ mQ (fun st=> ⟨_,uE, ?_⟩)
       refine RL.p rfl ?_
       refine RL.fork ⟨?_, ?_,trivial⟩
       ·
        refine RL.box rfl ?_
        intro b4
        refine RL.fork ⟨?_, ?_,trivial⟩
        ·
         refine RL.lq isAgg3 rfl ?_
         refine RL.entryStore rfl uE ?_
         refine RL.p rfl (RL.ee ?_)
         exact NQ.gg ((),_) trivial sE wE
        ·
         refine RL.entryStore rfl uE ?_
         refine RL.lq isAgg3 rfl ?_
         refine RL.p rfl (RL.ee ?_)
         exact NQ.gg ((),_) trivial sE wE
       ·
        refine RL.lq isAgg3 rfl ?_
        refine RL.box rfl ?_
        intro b4
        refine RL.entryStore rfl uE ?_
        refine RL.p rfl (RL.ee ?_)
        exact NQ.gg ((),_) trivial sE wE
     ·
      refine RL.lq isAgg3 rfl ?_
      refine RL.fork ⟨?_, ?_,trivial⟩
      ·
       refine RL.lS isAgg242 sizeOf242 rfl ?_
       refine RL.bS [_,_,_,_,_,_,_,_,_,_,_,_] zeroValue247 pl_247 rfl ?_
       refine RL.fork ⟨?_, ?_,trivial⟩
       ·
        refine RL.box rfl ?_
        intro b4
        refine RL.mapEntry (key:= .int .i64 a.src) keyI runUnderlying236 zeroValue243 rfl ⟨a.src,rfl⟩ mQ (fun st=> ⟨_,uE, ?_⟩)
        refine RL.p rfl (RL.entryStore rfl uE ?_)
        refine RL.p rfl (RL.ee ?_)
        exact NQ.gg ((),_) trivial sE wE
       ·
        refine RL.mapEntry (key:= .int .i64 a.src) keyI runUnderlying236 zeroValue243 rfl ⟨a.src,rfl⟩ mQ (fun st=> ⟨_,uE, ?_⟩)
        refine RL.p rfl (RL.box rfl ?_)
        intro b4
        refine RL.entryStore rfl uE ?_
        refine RL.p rfl (RL.ee ?_)
        exact NQ.gg ((),_) trivial sE wE
      ·
       refine RL.mapEntry (key:= .int .i64 a.src) keyI runUnderlying236 zeroValue243 rfl ⟨a.src,rfl⟩ mQ (fun st=> ⟨_,uE, ?_⟩)
       refine RL.lS isAgg242 sizeOf242 rfl ?_
       refine RL.bS [_,_,_,_,_,_,_,_,_,_,_,_] zeroValue247 pl_247 rfl (RL.p rfl (RL.box rfl ?_))
       intro b4
       refine RL.entryStore rfl uE ?_
       refine RL.p rfl (RL.ee ?_)
       exact NQ.gg ((),_) trivial sE wE
     ·
      refine RL.mapEntry (key:= .int .i64 a.src) keyI runUnderlying236 zeroValue243 rfl ⟨a.src,rfl⟩ mQ (fun st=> ⟨_,uE, ?_⟩)
      refine RL.lS isAgg242 sizeOf242 rfl ?_
      refine RL.bS [_,_,_,_,_,_,_,_,_,_,_,_] zeroValue247 pl_247 rfl (RL.p rfl ?_)
      refine RL.fork ⟨?_, ?_,trivial⟩
      ·
       refine RL.box rfl ?_
       intro b4
       refine RL.fork ⟨?_, ?_,trivial⟩
       ·
        refine RL.lq isAgg3 rfl ?_
        refine RL.entryStore rfl uE ?_
        refine RL.p rfl (RL.ee ?_)
        exact NQ.gg ((),_) trivial sE wE
       ·
        refine RL.entryStore rfl uE ?_
        refine RL.lq isAgg3 rfl ?_
        refine RL.p rfl (RL.ee ?_)
        exact NQ.gg ((),_) trivial sE wE
      ·
       refine RL.lq isAgg3 rfl ?_
       refine RL.box rfl ?_
       intro b4
       refine RL.entryStore rfl uE ?_
       refine RL.p rfl (RL.ee ?_)
       exact NQ.gg ((),_) trivial sE wE
    rintro ⟨⟨⟩,c2⟩ -
    dsimp only
    refine NQ.bb (NQ.ss (CW.rg (RL.bx rfl (wrapV_i64 zb zb) ?_)))
    refine RL.p rfl (RL.ee ?_)
    refine NQ.rr (g:=(i,c)) (i+1,c2) ⟨hlt,fun j hj=> ?_⟩ (by show L.length - (i+1) < L.length - i;omega) (.cons rfl (.cons (by rw [hw];rfl) sE)) wE
    rcases Nat.lt_succ_iff_lt_or_eq.1 hj with hj | rfl
    ·exact hok j hj
    ·exact hs
  ·
   have hin:i=L.length:=by simp at hlt;omega
   refine CW.xx (XQ.ss (XQ.ss (XQ.hh (NQ.ss (CW.sr (RL.p rfl (RL.qn rfl (CW.ok [2,3] rfl (CW.rr ?_)))))))))
   have hyes:0≤dr∧L.length≤8∧adsB L=true:=by
    refine ⟨h1.1,h1.2,adsB_iff.2 fun j=> ?_⟩
    by_cases hj:j < L.length
    ·exact hok j zb
    ·rw [stepA,List.getElem?_eq_none zb]
   exact RQ.pp (res2 rfl rfl rfl) (Split.nn _) ⟨_,by rw [errI_yes hyes],rfl,rfl⟩
end Go.Proofs.YtkineolcmdecjaaGreat
