import Derived.Test.YtkineolcmdecjaaGreatUB
import Derived.Test.YtkineolcmdecjaaGreatPE
namespace Go.Proofs.YtkineolcmdecjaaGreat
open Go.PK
open Tryz
def zeroS:Sr:=⟨0,0,List.replicate 32 0,0,0,0,0,⟨0,0,0,0,0,0,0,0,0,0⟩⟩
def idxS (p:Sr→Bool) (L:List Sr):Int:=match L.findIdx? p with
 | some i=> (i:Int)
 | none=> -1
def pickS (p:Sr→Bool) (L:List Sr):Sr×Bool:=match L.find? p with
 | some s=> (s,true)
 | none=> (zeroS,false)
theorem zeroS_fit:zeroS.Fit:=⟨rfl,by simp [zeroS,i64],by simp [zeroS,i64],by simp [zeroS,i64]⟩
theorem pickS_fit {p:Sr→Bool} {L:List Sr} (h:∀s∈L,s.Fit):(pickS p L).1.Fit:=by
 unfold pickS
 cases hx:L.find? p with
 | none=> exact zeroS_fit
 | some s=> exact h s (List.mem_of_find?_eq_some hx)
theorem none_all {p:Sr→Bool} {L:List Sr} (h:∀j < L.length,∀s,L[j]? =some s→p s=false):∀s∈L,¬p s=true:=fun s hs=> by
 obtain ⟨j,hj,rfl⟩:=List.mem_iff_getElem.1 hs
 rw [h j hj _ (List.getElem?_eq_getElem hj)];decide
theorem idxS_no {p:Sr→Bool} {L:List Sr} (h:∀j < L.length,∀s,L[j]? =some s→p s=false):idxS p L= -1:=by
 rw [idxS,List.findIdx?_eq_none_iff.2 (fun s hs=> by simpa using none_all h s hs)]
theorem idxS_yes {p:Sr→Bool} {L:List Sr} {i:Nat} {s:Sr} (hx:L[i]? =some s) (hp:p s=true) (h:∀j < i,∀s,L[j]? =some s→p s=false):idxS p L=i:=by
 obtain ⟨hlt,rfl⟩:=List.getElem?_eq_some_iff.1 hx
 rw [idxS,List.findIdx?_eq_some_iff_getElem.2 ⟨hlt,hp,fun j hj=> by
  have:=h j hj _ (List.getElem?_eq_getElem zb);rw [this];decide⟩]
theorem pickS_no {p:Sr→Bool} {L:List Sr} (h:∀j < L.length,∀s,L[j]? =some s→p s=false):pickS p L=(zeroS,false):=by
 rw [pickS,List.find?_eq_none.2 (none_all h)]
theorem pickS_yes {p:Sr→Bool} {L:List Sr} {i:Nat} {s:Sr} (hx:L[i]? =some s) (hp:p s=true) (h:∀j < i,∀s,L[j]? =some s→p s=false):pickS p L=(s,true):=by
 obtain ⟨hlt,rfl⟩:=List.getElem?_eq_some_iff.1 hx
 rw [pickS,List.find?_eq_some_iff_getElem.2 ⟨hp,i,hlt,rfl,fun j hj=> by
  have:=h j hj _ (List.getElem?_eq_getElem zb);rw [this];decide⟩]
theorem pick_of_idx {p:Sr→Bool} {L:List Sr}:(idxS p L= -1∧pickS p L=(zeroS,false))∨∃i s,L[i]? =some s∧idxS p L=(i:Nat)∧pickS p L=(s,true):=by
 by_cases h:∀j < L.length,∀s,L[j]? =some s→p s=false
 ·exact .inl ⟨idxS_no h,pickS_no h⟩
 ·right
  cases hf:L.findIdx? p with
  | none=>
   refine absurd (fun j hj s hs=> ?_) h
   simpa using List.findIdx?_eq_none_iff.1 hf s (List.mem_of_getElem? hs)
  | some i=>
   obtain ⟨hlt,hp,hb⟩:=List.findIdx?_eq_some_iff_getElem.1 hf
   have hx:=List.getElem?_eq_getElem hlt
   have hb':∀j < i,∀s,L[j]? =some s→p s=false:=fun j hj s hs=> by
    obtain ⟨_,rfl⟩:=List.getElem?_eq_some_iff.1 hs
    simpa using hb j hj
   exact ⟨i,_,hx,idxS_yes hx hp hb',pickS_yes hx hp hb'⟩
theorem of_clo (s:Sr) (hs:s.Fit) (b:Nat) (n:Int):Spc prog 142 #[.agg s.cells.toArray, .pointer (some ⟨b,0,none⟩)] [cel b [.int .i64 n] 3] [] (Is (.bool ((fun s:Sr=> s.kd==n) s))):=by
 have hsl:=sr_len hs.rt
 refine Spc.en func142 rfl rfl (fun w0 hw0=> ?_)
 refine CW.sg [0] [] (RL.box rfl ?_)
 intro b1
 refine RL.pn rfl (CW.ss (CW.freezeAll rfl ?_))
 refine CW.gI (fun J hJ=> ?_)
 have m1:cel b1 s.cells 122∈J:=hJ _ (List.Mem.head _)
 have m2:cel b [.int .i64 n] 3∈J:=hJ _ (List.Mem.tail _ (List.Mem.head _))
 have f1:RdI J ⟨b1,0+1,none⟩ (.int .i64 s.kd):=⟨fun _=> Rd.celI m1 rfl⟩
 have f2:RdI J ⟨b,0,none⟩ (.int .i64 n):=⟨fun _=> Rd.celI m2 rfl⟩
 clear hJ
 refine CW.rg (RL.fa fa_122_1 rfl (RL.lq isAgg3 rfl ?_))
 refine RL.lq isAgg3 rfl ?_
 refine RL.qn rfl (CW.ok [3] rfl (CW.rr ?_))
 exact RQ.pp (res1 rfl rfl) (Split.nn _) ⟨rfl,rfl,rfl⟩
theorem of_idx (oa:Option Nat) (ca m:Nat) (L:List Sr) (hm:L.length=m) (hL:∀s∈L,s.Fit) (hl:m≤1000000) (b:Nat) (n:Int):Spc prog 168 #[slO oa m ca, .func (.func 142) #[] #[.pointer (some ⟨b,0,none⟩)]]
  [sls (oa.map fun b=> ⟨b,0,none⟩) 48 m (L.flatMap Sr.cells),cel b [.int .i64 n] 3] [] (Is (.int .i64 (idxS (fun s=> (fun s:Sr=> s.kd==n) s) L))):=by
 subst hm
 have hLl:∀s∈L,s.cells.length=48:=fun s hs=> sr_len (hL s hs).rt
 refine Spc.en func168 rfl rfl (fun w0 hw0=> ?_)
 refine CW.sr (RL.pn rfl (CW.ss (CW.sr (RL.p rfl (RL.lenS runUnderlying24 rfl (RL.pn rfl (CW.bb ?_)))))))
 refine CW.gI (fun J hJ=> ?_)
 have m2:sls (oa.map fun b=> ⟨b,0,none⟩) 48 L.length (L.flatMap Sr.cells)∈J:=hJ _ zm
 have mC:cel b [.int .i64 n] 3∈J:=hJ _ zm
 clear hJ
 refine CW.loop (γ:=Nat) (fun i=> i≤L.length∧(∀j < i,∀s,L[j]? =some s→((fun s:Sr=> s.kd==n) s)=false)) (fun i=> [(0,slO oa L.length ca),(1, .func (.func 142) #[] #[.pointer (some ⟨b,0,none⟩)]),(7, .int .i64 (L.length:Int)),(8, .int .i64 (i:Int))]) (fun _=> J) (fun _=> []) (fun i=> L.length - i) 0 ⟨Nat.zero_le _,fun j h=> by omega⟩ sE wE ?_
 rintro i ⟨hi,hok⟩
 refine CW.ff (p:=oa=none→L.length=0) (fun w hC e=> sls_nil (hC.s.i _ m2) (by rw [e];rfl)) (fun hpa=> ?_)
 refine CW.sr (RL.pn rfl (CW.ss ?_))
 refine CW.cd rfl (fun hlt=> ?_) (fun hlt=> ?_)
 ·
  have hlt:i < L.length:=by simp at hlt;omega
  cases oa with
  | none=> exact absurd (hpa rfl) zb
  | some ba=>
  have hx:=List.getElem?_eq_getElem hlt
  generalize L[i]=s at hx
  have hs:=hL s (List.mem_of_getElem? hx)
  have hsl:=hLl s (List.mem_of_getElem? hx)
  have fA:RdsN J ⟨ba,0+i*48,none⟩ 48 s.cells:=flat_rdsN (f:=Sr.cells) m2 hx hLl
  refine CW.sn (CW.ss (CW.bb (CW.s1 rfl (CW.sr (RL.q rfl ?_)))))
  refine RL.p rfl (RL.ix (j:=i) runUnderlying24 sizeOf122 rfl (hlt) (RL.lS isAgg122 sizeOf122 rfl ?_))
  refine RL.callvFC (of_clo s hs b n) call142 rfl rfl rfl (.inI mC .nil) rfl (RL.ns (CW.ok [0,1,5,7,8,16] rfl ?_))
  refine CW.cd rfl (fun hp=> ?_) (fun hp=> ?_)
  ·
   refine CW.s1 rfl (CW.rr (RQ.bb (RQ.ss (RQ.ss (RQ.bb (RQ.ss ?_))))))
   exact RQ.pp (res1 rfl rfl) (Split.nn _) ⟨by rw [idxS_yes hx hp hok],rfl,rfl⟩
  ·
   refine CW.kk (NQ.bb (NQ.ss (CW.rg (RL.bx rfl (wrapV_i64 zb zb) ?_))))
   refine RL.p rfl (RL.ee ?_)
   refine NQ.rr (g:=i) (i+1) ⟨hlt,fun j hj s' hs'=> ?_⟩ (by show L.length - (i+1) < L.length - i;omega) sE wE
   rcases Nat.lt_succ_iff_lt_or_eq.1 hj with hj | rfl
   ·exact hok j hj s' hs'
   ·rw [hx] at hs';cases hs';exact hp
 ·
  refine CW.xx (XQ.ss (XQ.ss (XQ.hh (NQ.ss (CW.sr (RL.pn rfl (CW.rr ?_)))))))
  have hin:i=L.length:=by simp at hlt;omega
  subst hin
  exact RQ.pp (res1 rfl rfl) (Split.nn _) ⟨by rw [idxS_no hok],rfl,rfl⟩
def FndV (r:Sr×Bool):Value:= .tuple #[.agg r.1.cells.toArray, .bool r.2]
theorem rcfind_any (c:Cf) (oa:Option Nat) (ca m:Nat) (n:Int) (hm:c.L.length=m) (hc:c.Fit) (hl:m≤1000000):
  Spc prog 129 #[.agg (c.cells (slO oa m ca)).toArray, .int .i64 n] [sls (oa.map fun b=> ⟨b,0,none⟩) 48 m (c.L.flatMap Sr.cells)] [] (Is (FndV (pickS (fun s=> (fun s:Sr=> s.id==n) s) c.L))):=by
 subst hm
 have hLl:∀s∈c.L,s.cells.length=48:=fun s hs=> sr_len (hc.L s hs).rt
 refine Spc.en func129 rfl rfl (fun w0 hw0=> ?_)
 refine CW.sg [0,1] [] (RL.box rfl ?_)
 intro b1
 refine RL.al zeroValue59 rfl ?_
 intro b2
 refine RL.pn rfl (CW.s2 (CW.fP (A:= [cel b1 (c.cells (slO oa c.L.length ca)) 47]) (B:= [cel b2 [.int .i64 0, .int .i64 0, .int .u8 0, .int .u8 0, .int .u8 0, .int .u8 0, .int .u8 0, .int .u8 0, .int .u8 0, .int .u8 0, .int .u8 0, .int .u8 0, .int .u8 0, .int .u8 0, .int .u8 0, .int .u8 0, .int .u8 0, .int .u8 0, .int .u8 0, .int .u8 0, .int .u8 0, .int .u8 0, .int .u8 0, .int .u8 0, .int .u8 0, .int .u8 0, .int .u8 0, .int .u8 0, .int .u8 0, .int .u8 0, .int .u8 0, .int .u8 0, .int .u8 0, .int .u8 0, .int .i64 0, .int .i64 0, .int .i64 0, .int .i64 0, .int .i64 0, .int .i64 0, .int .i64 0, .int .i64 0, .int .i64 0, .int .i64 0, .int .i64 0, .int .i64 0, .int .i64 0, .int .i64 0] 59]) pE rfl ?_))
 refine CW.gI (fun J hJ=> ?_)
 have m1:cel b1 (c.cells (slO oa c.L.length ca)) 47∈J:=hJ _ (List.Mem.head _)
 have m2:sls (oa.map fun b=> ⟨b,0,none⟩) 48 c.L.length (c.L.flatMap Sr.cells)∈J:=hJ _ (List.Mem.tail _ (List.Mem.head _))
 clear hJ
 have fS:RdI J ⟨b1,0+0,none⟩ (slO oa c.L.length ca):=⟨fun _=> Rd.celI m1 rfl⟩
 refine CW.rg (RL.pn rfl (CW.bb (CW.loop (γ:=Nat) (fun i=> i≤c.L.length∧(∀j < i,∀s,c.L[j]? =some s→((fun s:Sr=> s.id==n) s)=false)) (fun i=> [(1, .int .i64 n),(2, .pointer (some ⟨b1,0,none⟩)),(4, .pointer (some ⟨b2,0,none⟩)),(6, .int .i64 (i:Int))]) (fun _=> J) (fun _=> [cel b2 [.int .i64 0, .int .i64 0, .int .u8 0, .int .u8 0, .int .u8 0, .int .u8 0, .int .u8 0, .int .u8 0, .int .u8 0, .int .u8 0, .int .u8 0, .int .u8 0, .int .u8 0, .int .u8 0, .int .u8 0, .int .u8 0, .int .u8 0, .int .u8 0, .int .u8 0, .int .u8 0, .int .u8 0, .int .u8 0, .int .u8 0, .int .u8 0, .int .u8 0, .int .u8 0, .int .u8 0, .int .u8 0, .int .u8 0, .int .u8 0, .int .u8 0, .int .u8 0, .int .u8 0, .int .u8 0, .int .i64 0, .int .i64 0, .int .i64 0, .int .i64 0, .int .i64 0, .int .i64 0, .int .i64 0, .int .i64 0, .int .i64 0, .int .i64 0, .int .i64 0, .int .i64 0, .int .i64 0, .int .i64 0] 59]) (fun i=> c.L.length - i) 0 ⟨Nat.zero_le _,fun j h=> by omega⟩ sE wE ?_)))
 rintro i ⟨hi,hok⟩
 refine CW.ff (p:=oa=none→c.L.length=0) (fun w hC e=> sls_nil (hC.s.i _ m2) (by rw [e];rfl)) (fun hpa=> ?_)
 refine CW.ss (CW.sr (RL.p rfl (RL.fa fa_47_0 rfl (RL.lq isAgg44 rfl ?_))))
 refine RL.lenS runUnderlying44 rfl (RL.pn rfl ?_)
 refine CW.cd rfl (fun hlt=> ?_) (fun hlt=> ?_)
 ·
  have hlt:i < c.L.length:=by simp at hlt;omega
  cases oa with
  | none=> exact absurd (hpa rfl) zb
  | some ba=>
  have hx:=List.getElem?_eq_getElem hlt
  generalize c.L[i]=s at hx
  have hsl:=hLl s (List.mem_of_getElem? hx)
  have fA:RdsN J ⟨ba,0+i*48,none⟩ 48 s.cells:=flat_rdsN (f:=Sr.cells) m2 hx hLl
  have fI:RdI J ⟨ba,0+i*48+0,none⟩ (.int .i64 s.id):=flat_rdI (f:=Sr.cells) m2 hx hLl rfl
  refine CW.sn (CW.ss (CW.bb (CW.sr (RL.fa fa_47_0 rfl (RL.lq isAgg44 rfl ?_)))))
  refine RL.p rfl (RL.ix (j:=i) runUnderlying44 sizeOf59 rfl (hlt) (RL.fa fa_59_0 rfl (RL.lq isAgg3 rfl ?_)))
  refine RL.qn rfl (CW.ok [1,2,4,6,21] rfl ?_)
  refine CW.cd rfl (fun hp=> ?_) (fun hp=> ?_)
  ·
   refine CW.sg [5] [5] (RL.fa fa_47_0 rfl (RL.lq isAgg44 rfl ?_))
   refine RL.p rfl (RL.ix (j:=i) runUnderlying44 sizeOf59 rfl (hlt) (RL.lS isAgg59 sizeOf59 rfl ?_))
   refine RL.sW sizeOf59 rfl (sr_ones s) uE hsl rfl ?_
   refine RL.pn rfl (CW.ok [1,2,4,5,6] rfl (CW.rr (RQ.bb (RQ.ss (RQ.ss (RQ.bb (RQ.ss ?_)))))))
   exact RQ.pp (resWT rfl rfl rfl isAgg59 sizeOf59 mQ hsl) (Split.nn _) ⟨by rw [pickS_yes hx hp hok];rfl,rfl,rfl⟩
  ·
   refine CW.kk (NQ.bb (NQ.ss (CW.rg (RL.p rfl (RL.bx rfl (wrapV_i64 zb zb) ?_)))))
   refine RL.p rfl (RL.ee ?_)
   refine NQ.rr (g:=i) (i+1) ⟨hlt,fun j hj s' hs'=> ?_⟩ (by show c.L.length - (i+1) < c.L.length - i;omega) sE wE
   rcases Nat.lt_succ_iff_lt_or_eq.1 hj with hj | rfl
   ·exact hok j hj s' hs'
   ·rw [hx] at hs';cases hs';exact hp
 ·
  have hin:i=c.L.length:=by simp at hlt;omega
  subst hin
  refine CW.xx (XQ.ss (XQ.ss (XQ.hh (NQ.ss (CW.ok [4] rfl (CW.sg [1] [1] (RL.bS _ zeroValue59 pl_59 rfl (RL.sq sizeOf59 rfl ?_))))))))
  refine RL.pn rfl (CW.rr ?_)
  exact RQ.pp (resWT rfl rfl rfl isAgg59 sizeOf59 mQ rfl) (Split.nn _) ⟨by rw [pickS_no hok];rfl,rfl,rfl⟩
theorem of_first (oa:Option Nat) (ca m:Nat) (L:List Sr) (hm:L.length=m) (hL:∀s∈L,s.Fit) (hl:m≤1000000) (b:Nat) (n:Int):Spc prog 141 #[slO oa m ca, .func (.func 142) #[] #[.pointer (some ⟨b,0,none⟩)]]
  [sls (oa.map fun b=> ⟨b,0,none⟩) 48 m (L.flatMap Sr.cells),cel b [.int .i64 n] 3] [] (Is (FndV (pickS (fun s=> (fun s:Sr=> s.kd==n) s) L))):=by
 have hidx:=of_idx oa ca m L hm hL hl b n
 subst hm
 have hLl:∀s∈L,s.cells.length=48:=fun s hs=> sr_len (hL s hs).rt
 rcases pick_of_idx (p:=fun s=> (fun s:Sr=> s.kd==n) s) (L:=L) with ⟨h1,h2⟩ | ⟨i,s,hx,h1,h2⟩
 ·rw [h1] at hidx
  rw [h2]
  refine Spc.en func141 rfl rfl (fun w0 hw0=> ?_)
  refine CW.sg [0] [] (RL.al zeroValue122 rfl ?_)
  intro b1
  refine RL.pn rfl (CW.sr (RL.q rfl (RL.vv (hidx) call168 rfl (.inI (List.Mem.head _) (.inI (List.Mem.tail _ (List.Mem.head _)) .nil)) (RL.pn rfl (CW.ss (CW.sr ?_))))))
  refine RL.qn rfl (CW.cT rfl (zc) ?_)
  refine CW.sg [1] [1] (RL.bS _ zeroValue122 pl_122 rfl (RL.sq sizeOf122 rfl ?_))
  refine RL.pn rfl (CW.ok [0,4,5,6] rfl (CW.rr (RQ.ss ?_)))
  exact RQ.pp (resWT rfl rfl rfl isAgg122 sizeOf122 mQ rfl) (Split.nn _) ⟨rfl,rfl,rfl⟩
 ·rw [h1] at hidx
  rw [h2]
  have hlt:i < L.length:=(List.getElem?_eq_some_iff.1 hx).1
  have hsl:=hLl s (List.mem_of_getElem? hx)
  refine Spc.en func141 rfl rfl (fun w0 hw0=> ?_)
  refine CW.sg [0] [] (RL.al zeroValue122 rfl ?_)
  intro b1
  refine RL.pn rfl (CW.sr (RL.q rfl (RL.vv (hidx) call168 rfl (.inI (List.Mem.head _) (.inI (List.Mem.tail _ (List.Mem.head _)) .nil)) (RL.pn rfl (CW.ss (CW.sr ?_))))))
  refine RL.qn rfl ?_
  refine CW.gI (fun J hJ=> ?_)
  have m2:sls (oa.map fun b=> ⟨b,0,none⟩) 48 L.length (L.flatMap Sr.cells)∈J:=hJ _ zm
  clear hJ
  refine CW.ff (p:=oa=none→L.length=0) (fun w hC e=> sls_nil (hC.s.i _ m2) (by rw [e];rfl)) (fun hpa=> ?_)
  cases oa with
  | none=> exact absurd (hpa rfl) zb
  | some ba=>
  have fA:RdsN J ⟨ba,0+i*48,none⟩ 48 s.cells:=flat_rdsN (f:=Sr.cells) m2 hx hLl
  refine CW.cF rfl (zm) ?_
  refine CW.sn (CW.ok [0,4,6] rfl (CW.sg [4] [4] (RL.q rfl (RL.ix (j:=i) runUnderlying24 sizeOf122 rfl (hlt) (RL.lS isAgg122 sizeOf122 rfl ?_)))))
  refine RL.sW sizeOf122 rfl (sr_ones s) uE hsl rfl ?_
  refine RL.pn rfl (CW.ok [4,5] rfl (CW.rr ?_))
  exact RQ.pp (resWT rfl rfl rfl isAgg122 sizeOf122 mQ hsl) (Split.nn _) ⟨rfl,rfl,rfl⟩
theorem cof_any (c:Cf) (oa:Option Nat) (ca m:Nat) (n:Int) (hm:c.L.length=m) (hc:c.Fit) (hl:m≤1000000):
  Spc prog 102 #[.agg (c.cells (slO oa m ca)).toArray, .int .i64 n] [sls (oa.map fun b=> ⟨b,0,none⟩) 48 m (c.L.flatMap Sr.cells)] [] (Is (FndV (pickS (fun s=> (fun s:Sr=> s.kd==n) s) c.L))):=by
 subst hm
 have hfit:(pickS (fun s=> (fun s:Sr=> s.kd==n) s) c.L).1.cells.length=48:=sr_len (pickS_fit hc.L).rt
 have hfst:=fun b=> of_first oa ca _ c.L rfl hc.L hl b n
 generalize pickS (fun s=> (fun s:Sr=> s.kd==n) s) c.L=r at hfit hfst ⊢
 refine Spc.en func102 rfl rfl (fun w0 hw0=> ?_)
 refine CW.sg [0,1,2] [] (RL.box rfl ?_)
 intro b1
 refine RL.box rfl ?_
 intro b2
 refine RL.al zeroValue122 rfl ?_
 intro b3
 refine RL.pn rfl (CW.ss (CW.fP (A:= [cel b2 [.int .i64 n] 3,cel b1 (c.cells (slO oa c.L.length ca)) 34]) (B:= [cel b3 [.int .i64 0, .int .i64 0, .int .u8 0, .int .u8 0, .int .u8 0, .int .u8 0, .int .u8 0, .int .u8 0, .int .u8 0, .int .u8 0, .int .u8 0, .int .u8 0, .int .u8 0, .int .u8 0, .int .u8 0, .int .u8 0, .int .u8 0, .int .u8 0, .int .u8 0, .int .u8 0, .int .u8 0, .int .u8 0, .int .u8 0, .int .u8 0, .int .u8 0, .int .u8 0, .int .u8 0, .int .u8 0, .int .u8 0, .int .u8 0, .int .u8 0, .int .u8 0, .int .u8 0, .int .u8 0, .int .i64 0, .int .i64 0, .int .i64 0, .int .i64 0, .int .i64 0, .int .i64 0, .int .i64 0, .int .i64 0, .int .i64 0, .int .i64 0, .int .i64 0, .int .i64 0, .int .i64 0, .int .i64 0] 122]) pE rfl ?_))
 refine CW.gI (fun J hJ=> ?_)
 have m1:cel b1 (c.cells (slO oa c.L.length ca)) 34∈J:=hJ _ (List.Mem.tail _ (List.Mem.head _))
 have mC:cel b2 [.int .i64 n] 3∈J:=hJ _ (List.Mem.head _)
 have m2:sls (oa.map fun b=> ⟨b,0,none⟩) 48 c.L.length (c.L.flatMap Sr.cells)∈J:=hJ _ (List.Mem.tail _ (List.Mem.tail _ (List.Mem.head _)))
 clear hJ
 have fS:RdI J ⟨b1,0+0,none⟩ (slO oa c.L.length ca):=⟨fun _=> Rd.celI m1 rfl⟩
 refine CW.rn (ef:= [6]) (bk:= [6]) (RL.fa fa_34_0 rfl (RL.lq isAgg24 rfl ?_))
 refine RL.makeFunc rfl rfl rfl (RL.vv (hfst b2) call141 rfl (.inI m2 (.inI mC .nil)) (RL.q rfl (RL.sW sizeOf122 rfl (sr_ones r.1) uE hfit rfl ?_)))
 refine RL.pn rfl (CW.ok [4,5] rfl (CW.rr ?_))
 exact RQ.pp (resWT rfl rfl rfl isAgg122 sizeOf122 mQ hfit) (Split.nn _) ⟨rfl,rfl,rfl⟩
theorem rcof_any (c:Cf) (oa:Option Nat) (ca m:Nat) (n:Int) (hm:c.L.length=m) (hc:c.Fit) (hl:m≤1000000):
  Spc prog 87 #[.agg (c.cells (slO oa m ca)).toArray, .int .i64 n] [sls (oa.map fun b=> ⟨b,0,none⟩) 48 m (c.L.flatMap Sr.cells)] [] (Is (FndV (pickS (fun s=> (fun s:Sr=> s.kd==n) s) c.L))):=by
 subst hm
 have hLl:∀s∈c.L,s.cells.length=48:=fun s hs=> sr_len (hc.L s hs).rt
 refine Spc.en func87 rfl rfl (fun w0 hw0=> ?_)
 refine CW.sg [0,1] [] (RL.box rfl ?_)
 intro b1
 refine RL.al zeroValue59 rfl ?_
 intro b2
 refine RL.pn rfl (CW.s2 (CW.fP (A:= [cel b1 (c.cells (slO oa c.L.length ca)) 47]) (B:= [cel b2 [.int .i64 0, .int .i64 0, .int .u8 0, .int .u8 0, .int .u8 0, .int .u8 0, .int .u8 0, .int .u8 0, .int .u8 0, .int .u8 0, .int .u8 0, .int .u8 0, .int .u8 0, .int .u8 0, .int .u8 0, .int .u8 0, .int .u8 0, .int .u8 0, .int .u8 0, .int .u8 0, .int .u8 0, .int .u8 0, .int .u8 0, .int .u8 0, .int .u8 0, .int .u8 0, .int .u8 0, .int .u8 0, .int .u8 0, .int .u8 0, .int .u8 0, .int .u8 0, .int .u8 0, .int .u8 0, .int .i64 0, .int .i64 0, .int .i64 0, .int .i64 0, .int .i64 0, .int .i64 0, .int .i64 0, .int .i64 0, .int .i64 0, .int .i64 0, .int .i64 0, .int .i64 0, .int .i64 0, .int .i64 0] 59]) pE rfl ?_))
 refine CW.gI (fun J hJ=> ?_)
 have m1:cel b1 (c.cells (slO oa c.L.length ca)) 47∈J:=hJ _ (List.Mem.head _)
 have m2:sls (oa.map fun b=> ⟨b,0,none⟩) 48 c.L.length (c.L.flatMap Sr.cells)∈J:=hJ _ (List.Mem.tail _ (List.Mem.head _))
 clear hJ
 have fS:RdI J ⟨b1,0+0,none⟩ (slO oa c.L.length ca):=⟨fun _=> Rd.celI m1 rfl⟩
 refine CW.rg (RL.pn rfl (CW.bb (CW.loop (γ:=Nat) (fun i=> i≤c.L.length∧(∀j < i,∀s,c.L[j]? =some s→((fun s:Sr=> s.kd==n) s)=false)) (fun i=> [(1, .int .i64 n),(2, .pointer (some ⟨b1,0,none⟩)),(4, .pointer (some ⟨b2,0,none⟩)),(6, .int .i64 (i:Int))]) (fun _=> J) (fun _=> [cel b2 [.int .i64 0, .int .i64 0, .int .u8 0, .int .u8 0, .int .u8 0, .int .u8 0, .int .u8 0, .int .u8 0, .int .u8 0, .int .u8 0, .int .u8 0, .int .u8 0, .int .u8 0, .int .u8 0, .int .u8 0, .int .u8 0, .int .u8 0, .int .u8 0, .int .u8 0, .int .u8 0, .int .u8 0, .int .u8 0, .int .u8 0, .int .u8 0, .int .u8 0, .int .u8 0, .int .u8 0, .int .u8 0, .int .u8 0, .int .u8 0, .int .u8 0, .int .u8 0, .int .u8 0, .int .u8 0, .int .i64 0, .int .i64 0, .int .i64 0, .int .i64 0, .int .i64 0, .int .i64 0, .int .i64 0, .int .i64 0, .int .i64 0, .int .i64 0, .int .i64 0, .int .i64 0, .int .i64 0, .int .i64 0] 59]) (fun i=> c.L.length - i) 0 ⟨Nat.zero_le _,fun j h=> by omega⟩ sE wE ?_)))
 rintro i ⟨hi,hok⟩
 refine CW.ff (p:=oa=none→c.L.length=0) (fun w hC e=> sls_nil (hC.s.i _ m2) (by rw [e];rfl)) (fun hpa=> ?_)
 refine CW.ss (CW.sr (RL.p rfl (RL.fa fa_47_0 rfl (RL.lq isAgg44 rfl ?_))))
 refine RL.lenS runUnderlying44 rfl (RL.pn rfl ?_)
 refine CW.cd rfl (fun hlt=> ?_) (fun hlt=> ?_)
 ·
  have hlt:i < c.L.length:=by simp at hlt;omega
  cases oa with
  | none=> exact absurd (hpa rfl) zb
  | some ba=>
  have hx:=List.getElem?_eq_getElem hlt
  generalize c.L[i]=s at hx
  have hsl:=hLl s (List.mem_of_getElem? hx)
  have fA:RdsN J ⟨ba,0+i*48,none⟩ 48 s.cells:=flat_rdsN (f:=Sr.cells) m2 hx hLl
  have fI:RdI J ⟨ba,0+i*48+1,none⟩ (.int .i64 s.kd):=flat_rdI (f:=Sr.cells) m2 hx hLl rfl
  refine CW.sn (CW.ss (CW.bb (CW.sr (RL.fa fa_47_0 rfl (RL.lq isAgg44 rfl ?_)))))
  refine RL.p rfl (RL.ix (j:=i) runUnderlying44 sizeOf59 rfl (hlt) (RL.fa fa_59_1 rfl (RL.lq isAgg3 rfl ?_)))
  refine RL.qn rfl (CW.ok [1,2,4,6,21] rfl ?_)
  refine CW.cd rfl (fun hp=> ?_) (fun hp=> ?_)
  ·
   refine CW.sg [5] [5] (RL.fa fa_47_0 rfl (RL.lq isAgg44 rfl ?_))
   refine RL.p rfl (RL.ix (j:=i) runUnderlying44 sizeOf59 rfl (hlt) (RL.lS isAgg59 sizeOf59 rfl ?_))
   refine RL.sW sizeOf59 rfl (sr_ones s) uE hsl rfl ?_
   refine RL.pn rfl (CW.ok [1,2,4,5,6] rfl (CW.rr (RQ.bb (RQ.ss (RQ.ss (RQ.bb (RQ.ss ?_)))))))
   exact RQ.pp (resWT rfl rfl rfl isAgg59 sizeOf59 mQ hsl) (Split.nn _) ⟨by rw [pickS_yes hx hp hok];rfl,rfl,rfl⟩
  ·
   refine CW.kk (NQ.bb (NQ.ss (CW.rg (RL.p rfl (RL.bx rfl (wrapV_i64 zb zb) ?_)))))
   refine RL.p rfl (RL.ee ?_)
   refine NQ.rr (g:=i) (i+1) ⟨hlt,fun j hj s' hs'=> ?_⟩ (by show c.L.length - (i+1) < c.L.length - i;omega) sE wE
   rcases Nat.lt_succ_iff_lt_or_eq.1 hj with hj | rfl
   ·exact hok j hj s' hs'
   ·rw [hx] at hs';cases hs';exact hp
 ·
  have hin:i=c.L.length:=by simp at hlt;omega
  subst hin
  refine CW.xx (XQ.ss (XQ.ss (XQ.hh (NQ.ss (CW.ok [4] rfl (CW.sg [1] [1] (RL.bS _ zeroValue59 pl_59 rfl (RL.sq sizeOf59 rfl ?_))))))))
  refine RL.pn rfl (CW.rr ?_)
  exact RQ.pp (resWT rfl rfl rfl isAgg59 sizeOf59 mQ rfl) (Split.nn _) ⟨by rw [pickS_no hok];rfl,rfl,rfl⟩
abbrev zI:Value:= .int .i64 0
def ZK:List Value:=bytes (List.replicate 32 (0#8))
theorem fill_src {rt:List B8} {a b c d e f:Int} {x:Wt} (h:rt.length=32) {places:Array (Nat×Nat)} (hp:places= #[(0,1),(1,1),(2,32),(34,1),(35,1),(36,1),(37,1),(38,10)]):
  fillL (places[·]?) zeroS.cells [(0, .int .i64 a),(1, .int .i64 b),(2, .agg (bytes rt).toArray),(3, .int .i64 c),(4, .int .i64 d),(5, .int .i64 e),(6, .int .i64 f),(7, .agg x.cells.toArray)]=some (Sr.cells ⟨a,b,rt,c,d,e,f,x⟩):=by
 subst hp
 have hb:(bytes rt).length=32:=by rw [List.length_map,h]
 refine fill_seg (vs:= [.int .i64 a]) [] [zI] ([zI]++(ZK++zeroS.tl)) rfl rfl rfl rfl rfl rfl ?_
 refine fill_seg (vs:= [.int .i64 b]) [.int .i64 a] [zI] (ZK++zeroS.tl) rfl rfl rfl rfl rfl rfl ?_
 refine fill_seg [.int .i64 a, .int .i64 b] ZK zeroS.tl rfl (agg_cells _) rfl rfl rfl hb ?_
 refine fill_seg (vs:= [.int .i64 c]) (.int .i64 a:: .int .i64 b::bytes rt) [zI] (zI::zI::zI::zeroS.wt.cells) rfl rfl rfl (by simp [h]) rfl rfl ?_
 refine fill_seg (vs:= [.int .i64 d]) (.int .i64 a:: .int .i64 b::(bytes rt++ [.int .i64 c])) [zI] (zI::zI::zeroS.wt.cells) rfl rfl zm (by simp [h]) rfl rfl ?_
 refine fill_seg (vs:= [.int .i64 e]) (.int .i64 a:: .int .i64 b::(bytes rt++ [.int .i64 c, .int .i64 d])) [zI] (zI::zeroS.wt.cells) rfl rfl zm (by simp [h]) rfl rfl ?_
 refine fill_seg (vs:= [.int .i64 f]) (.int .i64 a:: .int .i64 b::(bytes rt++ [.int .i64 c, .int .i64 d, .int .i64 e])) [zI] zeroS.wt.cells rfl rfl zm (by simp [h]) rfl rfl ?_
 refine fill_seg (.int .i64 a:: .int .i64 b::(bytes rt++ [.int .i64 c, .int .i64 d, .int .i64 e, .int .i64 f])) zeroS.wt.cells [] rfl (agg_cells _) zm (by simp [h]) rfl rfl ?_
 simp [Sr.cells,Sr.tl,fillL]
def zeroC:Cf:=⟨0,0,0,0,⟨0,0,0,0⟩,List.replicate 32 0,0,0,0,0, []⟩
theorem fill_cf {cm:List B8} {a b c d e f g i m t r q:Int} (h:cm.length=32) {places:Array (Nat×Nat)} (hp:places= #[(0,1),(1,3),(4,1),(5,4),(9,32),(41,1),(42,1),(43,1),(44,1)]):
  fillL (places[·]?) (zeroC.cells (.slice none 0 0)) [(1, .agg #[.int .i64 a, .int .i64 b, .int .i64 c]),(2, .int .i64 d),(3, .agg #[.int .i64 e, .int .i64 f, .int .i64 g, .int .i64 i]),(4, .agg (bytes cm).toArray),(5, .int .i64 m),(6, .int .i64 t),(7, .int .i64 r),(8, .int .u64 q)]=some (Cf.cells ⟨a,b,c,d,⟨e,f,g,i⟩,cm,m,t,r,q, []⟩ (.slice none 0 0)):=by
 subst hp
 have hb:(bytes cm).length=32:=by rw [List.length_map,h]
 refine fill_seg (vs:= [.int .i64 a, .int .i64 b, .int .i64 c]) [.slice none 0 0] [zI,zI,zI] ([zI]++([zI,zI,zI,zI]++(ZK++zeroC.tl))) rfl rfl rfl rfl rfl rfl ?_
 refine fill_seg (vs:= [.int .i64 d]) [.slice none 0 0, .int .i64 a, .int .i64 b, .int .i64 c] [zI] ([zI,zI,zI,zI]++(ZK++zeroC.tl)) rfl rfl rfl rfl rfl rfl ?_
 refine fill_seg (vs:= [.int .i64 e, .int .i64 f, .int .i64 g, .int .i64 i]) [.slice none 0 0, .int .i64 a, .int .i64 b, .int .i64 c, .int .i64 d] [zI,zI,zI,zI] (ZK++zeroC.tl) rfl rfl rfl rfl rfl rfl ?_
 refine fill_seg [.slice none 0 0, .int .i64 a, .int .i64 b, .int .i64 c, .int .i64 d, .int .i64 e, .int .i64 f, .int .i64 g, .int .i64 i] ZK zeroC.tl rfl (agg_cells _) rfl rfl rfl hb ?_
 refine fill_seg (vs:= [.int .i64 m]) (.slice none 0 0:: .int .i64 a:: .int .i64 b:: .int .i64 c:: .int .i64 d:: .int .i64 e:: .int .i64 f:: .int .i64 g:: .int .i64 i::bytes cm) [zI] [zI,zI, .int .u64 0] rfl rfl rfl (by simp [h]) rfl rfl ?_
 refine fill_seg (vs:= [.int .i64 t]) (.slice none 0 0:: .int .i64 a:: .int .i64 b:: .int .i64 c:: .int .i64 d:: .int .i64 e:: .int .i64 f:: .int .i64 g:: .int .i64 i::(bytes cm++ [.int .i64 m])) [zI] [zI, .int .u64 0] rfl rfl zm (by simp [h]) rfl rfl ?_
 refine fill_seg (vs:= [.int .i64 r]) (.slice none 0 0:: .int .i64 a:: .int .i64 b:: .int .i64 c:: .int .i64 d:: .int .i64 e:: .int .i64 f:: .int .i64 g:: .int .i64 i::(bytes cm++ [.int .i64 m, .int .i64 t])) [zI] [.int .u64 0] rfl rfl zm (by simp [h]) rfl rfl ?_
 refine fill_seg (vs:= [.int .u64 q]) (.slice none 0 0:: .int .i64 a:: .int .i64 b:: .int .i64 c:: .int .i64 d:: .int .i64 e:: .int .i64 f:: .int .i64 g:: .int .i64 i::(bytes cm++ [.int .i64 m, .int .i64 t, .int .i64 r])) [.int .u64 0] [] rfl rfl zm (by simp [h]) rfl rfl ?_
 simp [Cf.cells,Cf.tl,fillL]
theorem cf_ones (c:Cf) {sl:Value} (hs:sl.oneCell'=true):ones (c.cells sl)=true:=by
 have h:ones (bytes c.cm++c.tl)=true:=ones_app (ones_map one8 _) rfl
 show (sl.oneCell' && _)=true
 rw [hs];exact h
theorem cf_set {c:Cf} {sl sl':Value}:spl (c.cells sl) (0+0) [sl']=c.cells sl':=by
 have e:∀s,c.cells s= []++([s]++(c.cells sl).tail):=fun s=> rfl
 rw [e sl,e sl'];exact seg_spl rfl rfl
theorem lsource (s:Sr) (h:s.rt.length=32):Spc prog 40 #[.agg s.cells.toArray] [] [] (Is (.agg s.cells.toArray)):=by
 have hsl:=sr_len h
 have hb:(bytes s.rt).length=32:=by rw [List.length_map,h]
 refine Spc.en func40 rfl rfl (fun w0 hw0=> ?_)
 refine CW.sg [0,1] [] (RL.box rfl ?_)
 intro b1
 refine RL.al zeroValue59 rfl ?_
 intro b2
 refine RL.ns (CW.ss (CW.fP (A:= [cel b1 s.cells 122]) (B:= [cel b2 zeroS.cells 59]) pE rfl ?_))
 refine CW.gI (fun J hJ=> ?_)
 have mA:cel b1 s.cells 122∈J:=hJ _ (List.Mem.head _)
 clear hJ
 have sW:RdsN J ⟨b1,0+38,none⟩ 10 s.wt.cells:=RdsN.told mA (fun j u hj=> by rw [sr_w h];exact hj) rfl
 have s0:RdI J ⟨b1,0+0,none⟩ (.int .i64 s.id):=⟨fun _=> Rd.celI mA rfl⟩
 have s1:RdI J ⟨b1,0+1,none⟩ (.int .i64 s.kd):=⟨fun _=> Rd.celI mA rfl⟩
 have sK:RdsN J ⟨b1,0+2,none⟩ 32 (bytes s.rt):=RdsN.told mA (fun j u hj=> by
  show s.cells[0+2+j]? =some u
  rw [show 0+2+j=j+1+1 by omega,Sr.cells]
  simp only [List.getElem?_cons_succ]
  rw [List.getElem?_append_left (List.getElem?_eq_some_iff.1 hj).1];exact hj) hb
 have s3:RdI J ⟨b1,0+34,none⟩ (.int .i64 s.w):=⟨fun _=> Rd.getI mA (sr_t h 0)⟩
 have s4:RdI J ⟨b1,0+35,none⟩ (.int .i64 s.g):=⟨fun _=> Rd.getI mA (sr_t h 1)⟩
 have s5:RdI J ⟨b1,0+36,none⟩ (.int .i64 s.st):=⟨fun _=> Rd.getI mA (sr_t h 2)⟩
 have s6:RdI J ⟨b1,0+37,none⟩ (.int .i64 s.hz):=⟨fun _=> Rd.getI mA (sr_t h 3)⟩
 refine CW.rn (ef:= [2,3]) (bk:= [3]) (RL.fa fa_122_7 rfl (RL.lS isAgg120 sizeOf120 rfl ?_))
 refine RL.al zeroValue120 rfl ?_
 intro b3
 refine RL.store (vs:= [_,_,_,_,_,_,_,_,_,_]) sizeOf120 rfl rfl uE ?_
 refine RL.ns (CW.ss (CW.fP (A:= [cel b3 s.wt.cells 120]) (B:= [cel b2 zeroS.cells 59]) pE rfl ?_))
 refine CW.gI (fun J2 hJ=> ?_)
 have hJ2:∀x∈J,x∈J2:=fun x hx=> hJ x (by simp [hx])
 have mB:=hJ2 _ mA
 have mW:cel b3 s.wt.cells 120∈J2:=hJ _ (List.Mem.head _)
 clear hJ sW s0 s1 sK s3 s4 s5 s6
 have s0:RdI J2 ⟨b1,0+0,none⟩ (.int .i64 s.id):=⟨fun _=> Rd.celI mB rfl⟩
 have s1:RdI J2 ⟨b1,0+1,none⟩ (.int .i64 s.kd):=⟨fun _=> Rd.celI mB rfl⟩
 have sK:RdsN J2 ⟨b1,0+2,none⟩ 32 (bytes s.rt):=RdsN.told mB (fun j u hj=> by
  show s.cells[0+2+j]? =some u
  rw [show 0+2+j=j+1+1 by omega,Sr.cells]
  simp only [List.getElem?_cons_succ]
  rw [List.getElem?_append_left (List.getElem?_eq_some_iff.1 hj).1];exact hj) hb
 have s3:RdI J2 ⟨b1,0+34,none⟩ (.int .i64 s.w):=⟨fun _=> Rd.getI mB (sr_t h 0)⟩
 have s4:RdI J2 ⟨b1,0+35,none⟩ (.int .i64 s.g):=⟨fun _=> Rd.getI mB (sr_t h 1)⟩
 have s5:RdI J2 ⟨b1,0+36,none⟩ (.int .i64 s.st):=⟨fun _=> Rd.getI mB (sr_t h 2)⟩
 have s6:RdI J2 ⟨b1,0+37,none⟩ (.int .i64 s.hz):=⟨fun _=> Rd.getI mB (sr_t h 3)⟩
 have w0':RdI J2 ⟨b3,0+0+0,none⟩ (.int .i64 s.wt.go):=⟨fun _=> Rd.celI mW rfl⟩
 have w1:RdI J2 ⟨b3,0+0+1,none⟩ (.int .i64 s.wt.gg):=⟨fun _=> Rd.celI mW rfl⟩
 have w2:RdI J2 ⟨b3,0+0+2,none⟩ (.int .i64 s.wt.gm):=⟨fun _=> Rd.celI mW rfl⟩
 have w3:RdI J2 ⟨b3,0+3,none⟩ (.int .i64 s.wt.sl):=⟨fun _=> Rd.celI mW rfl⟩
 have w4:RdI J2 ⟨b3,0+4,none⟩ (.int .i64 s.wt.mo):=⟨fun _=> Rd.celI mW rfl⟩
 have w5:RdI J2 ⟨b3,0+5,none⟩ (.int .i64 s.wt.sa):=⟨fun _=> Rd.celI mW rfl⟩
 have w6:RdI J2 ⟨b3,0+6,none⟩ (.int .i64 s.wt.ra):=⟨fun _=> Rd.celI mW rfl⟩
 have w7:RdI J2 ⟨b3,0+7,none⟩ (.int .i64 s.wt.ba):=⟨fun _=> Rd.celI mW rfl⟩
 have w8:RdI J2 ⟨b3,0+8,none⟩ (.int .i64 s.wt.ho):=⟨fun _=> Rd.celI mW rfl⟩
 have w9:RdI J2 ⟨b3,0+9,none⟩ (.int .i64 s.wt.pr):=⟨fun _=> Rd.celI mW rfl⟩
 refine CW.rn (ef:= [40]) (bk:= [40]) (RL.fa fa_122_0 rfl (RL.lq isAgg3 rfl ?_))
 refine RL.fa fa_122_1 rfl (RL.lq isAgg3 rfl ?_)
 refine RL.fa fa_122_2 rfl (RL.lS isAgg31 sizeOf31 rfl ?_)
 refine RL.fa fa_122_3 rfl (RL.lq isAgg3 rfl ?_)
 refine RL.fa fa_122_4 rfl (RL.lq isAgg3 rfl ?_)
 refine RL.fa fa_122_5 rfl (RL.lq isAgg25 rfl ?_)
 refine RL.fa fa_122_6 rfl (RL.lq isAgg3 rfl ?_)
 refine RL.fa fa_120_0 rfl (RL.fa fa_118_0 rfl (RL.lq isAgg25 rfl ?_))
 refine RL.fa fa_120_0 rfl (RL.fa fa_118_1 rfl (RL.lq isAgg25 rfl ?_))
 refine RL.fa fa_120_0 rfl (RL.fa fa_118_2 rfl (RL.lq isAgg25 rfl ?_))
 refine RL.bS [_,_,_] zeroValue55 pl_55 rfl (RL.fa fa_120_1 rfl (RL.lq isAgg25 rfl ?_))
 refine RL.fa fa_120_2 rfl (RL.lq isAgg25 rfl ?_)
 refine RL.fa fa_120_3 rfl (RL.lq isAgg3 rfl ?_)
 refine RL.fa fa_120_4 rfl (RL.lq isAgg25 rfl ?_)
 refine RL.fa fa_120_5 rfl (RL.lq isAgg3 rfl ?_)
 refine RL.fa fa_120_6 rfl (RL.lq isAgg3 rfl ?_)
 refine RL.fa fa_120_7 rfl (RL.lq isAgg3 rfl ?_)
 refine RL.bS [_,_,_,_,_,_,_,_,_,_] zeroValue57 pl_57 rfl (RL.bS s.cells zeroValue59 pl_59 (qP rfl (qP rfl (fill_src (x:=s.wt) h rfl))) (RL.sW sizeOf59 rfl (sr_ones s) uE hsl rfl ?_))
 refine RL.ns (CW.ok [2] rfl (CW.rr ?_))
 exact RQ.pp (resW rfl rfl isAgg59 sizeOf59 mQ hsl) (Split.nn _) ⟨rfl,rfl,rfl⟩
theorem srs_ones (L:List Sr):∀u∈L.flatMap Sr.cells,u.oneCell'=true:=fun u hu=> by
 obtain ⟨s, -,hs⟩:=List.mem_flatMap.1 hu
 exact ones_spec (sr_ones s) u hs
theorem fill_one48 {cs zs:List Value} (h:cs.length=48) (hz:zs.length=48):fillL (fun j=> some (j*48,48)) (reps zs 1) [(0, .agg cs.toArray)]=some cs:=by
 refine fill_seg [] zs [] rfl (agg_cells _) (by simp [reps]) rfl hz h ?_
 simp [fillL]
def CfR (U:TypeId) (c:Cf):Value→List It→List It→Prop:=fun v I' H'=> ∃ob cap,v= .agg (c.cells (slO ob c.L.length cap)).toArray∧I'= []∧H'= [own ob cap U 48 c.L.length (c.L.flatMap Sr.cells)]
theorem lplain_any (c:Cf) (oa:Option Nat) (ca n:Nat) (hn:c.L.length=n) (hc:c.cm.length=32) (hL:∀s∈c.L,s.rt.length=32) (hl:n≤12):
  Spc prog 11 #[.agg (c.cells (slO oa n ca)).toArray] [sls (oa.map fun b=> ⟨b,0,none⟩) 48 n (c.L.flatMap Sr.cells)] [] (CfR 59 c):=by
 subst hn
 have hLl:∀s∈c.L,s.cells.length=48:=fun s hs=> sr_len (hL s hs)
 have hl45:=fun sl=> cf_len hc sl
 refine Spc.en func11 rfl rfl (fun w0 hw0=> ?_)
 refine CW.sg [0,1] [] (RL.box rfl ?_)
 intro b1
 refine RL.al zeroValue47 rfl ?_
 intro b2
 refine RL.ns (CW.ss (CW.fP (A:= [cel b1 (c.cells (slO oa c.L.length ca)) 34]) (B:= [cel b2 (zeroC.cells (.slice none 0 0)) 47]) pE rfl ?_))
 simp only [List.cons_append,List.nil_append]
 generalize hJ:([cel b1 (c.cells (slO oa c.L.length ca)) 34,sls (oa.map fun b=> ⟨b,0,none⟩) 48 c.L.length (c.L.flatMap Sr.cells)]:List It)=J
 have m1:cel b1 (c.cells (slO oa c.L.length ca)) 34∈J:=by rw [←hJ];exact mQ
 have m2:sls (oa.map fun b=> ⟨b,0,none⟩) 48 c.L.length (c.L.flatMap Sr.cells)∈J:=by rw [←hJ];exact mQ
 clear hJ
 have fS:RdI J ⟨b1,0+0,none⟩ (slO oa c.L.length ca):=⟨fun _=> Rd.celI m1 rfl⟩
 have fG:RdsN J ⟨b1,0+1,none⟩ 3 [.int .i64 c.g0, .int .i64 c.g1, .int .i64 c.g2]:=RdsN.told m1 (fun j u hj=> by
  match j,hj with
  | 0,hj=> exact hj
  | 1,hj=> exact hj
  | 2,hj=> exact hj
  | j+3,hj=> simp at hj) rfl
 have fD:RdI J ⟨b1,0+4,none⟩ (.int .i64 c.dr):=⟨fun _=> Rd.celI m1 rfl⟩
 have q0:RdI J ⟨b1,0+5+0,none⟩ (.int .i64 c.sc.st):=⟨fun _=> Rd.celI m1 rfl⟩
 have q1:RdI J ⟨b1,0+5+1,none⟩ (.int .i64 c.sc.ln):=⟨fun _=> Rd.celI m1 rfl⟩
 have q2:RdI J ⟨b1,0+5+2,none⟩ (.int .i64 c.sc.lg):=⟨fun _=> Rd.celI m1 rfl⟩
 have q3:RdI J ⟨b1,0+5+3,none⟩ (.int .i64 c.sc.of):=⟨fun _=> Rd.celI m1 rfl⟩
 have hb:(bytes c.cm).length=32:=by rw [List.length_map,hc]
 have qC:RdsN J ⟨b1,0+9,none⟩ 32 (bytes c.cm):=RdsN.told m1 (fun j u hj=> by
  rw [show 0+9+j=j+1+1+1+1+1+1+1+1+1 by omega,Cf.cells]
  simp only [List.getElem?_cons_succ]
  rw [List.getElem?_append_left (List.getElem?_eq_some_iff.1 hj).1];exact hj) hb
 have f1:RdI J ⟨b1,0+41,none⟩ (.int .i64 c.mo):=⟨fun _=> Rd.getI m1 (cf_t hc _ 0)⟩
 have f2:RdI J ⟨b1,0+42,none⟩ (.int .i64 c.ti):=⟨fun _=> Rd.getI m1 (cf_t hc _ 1)⟩
 have f3:RdI J ⟨b1,0+43,none⟩ (.int .i64 c.gr):=⟨fun _=> Rd.getI m1 (cf_t hc _ 2)⟩
 have f4:RdI J ⟨b1,0+44,none⟩ (.int .u64 c.sd):=⟨fun _=> Rd.getI m1 (cf_t hc _ 3)⟩
 refine CW.rn (ef:= [28,29]) (bk:= [29]) (RL.fa fa_34_1 rfl (RL.lS isAgg27 sizeOf27 rfl ?_))
 refine RL.fa fa_34_2 rfl (RL.lq isAgg25 rfl ?_)
 refine RL.fa fa_34_3 rfl (RL.fa fa_29_0 rfl (RL.lq isAgg3 rfl ?_))
 refine RL.fa fa_34_3 rfl (RL.fa fa_29_1 rfl (RL.lq isAgg3 rfl ?_))
 refine RL.fa fa_34_3 rfl (RL.fa fa_29_2 rfl (RL.lq isAgg3 rfl ?_))
 refine RL.fa fa_34_3 rfl (RL.fa fa_29_3 rfl (RL.lq isAgg3 rfl ?_))
 refine RL.bS [_,_,_,_] zeroValue45 pl_45 rfl (RL.fa fa_34_4 rfl (RL.lS isAgg31 sizeOf31 rfl ?_))
 refine RL.fa fa_34_5 rfl (RL.lq isAgg3 rfl ?_)
 refine RL.fa fa_34_6 rfl (RL.lq isAgg3 rfl ?_)
 refine RL.fa fa_34_7 rfl (RL.lq isAgg3 rfl ?_)
 refine RL.fa fa_34_8 rfl (RL.lq isAgg32 rfl ?_)
 refine RL.bS (c.cells (.slice none 0 0)) zeroValue47 pl_47 (qP rfl (qP rfl (fill_cf hc rfl))) (RL.al zeroValue47 rfl ?_)
 intro b3
 refine RL.sW sizeOf47 rfl (cf_ones _ rfl) uE (hl45 _) rfl ?_
 refine RL.ns (CW.ok [1,2,3] rfl (CW.ss (CW.sr (RL.pn rfl (CW.bb (CW.ownNone (e:=59) 48 ?_))))))
 refine CW.loop (γ:=Nat×Option Nat×Nat) (fun g=> g.1≤c.L.length) (fun g=> [(1, .pointer (some ⟨b1,0,none⟩)),(2, .pointer (some ⟨b2,0,none⟩)),(3, .pointer (some ⟨b3,0,none⟩)),(4, .int .i64 (g.1:Int))]) (fun _=> J)
  (fun g=> [cel b3 (c.cells (slO g.2.1 g.1 g.2.2)) 47,own g.2.1 g.2.2 59 48 g.1 ((c.L.take g.1).flatMap Sr.cells),cel b2 (zeroC.cells (.slice none 0 0)) 47]) (fun g=> c.L.length - g.1) (0,none,0) (Nat.zero_le _) sE wE ?_
 rintro ⟨i,ob,cp⟩ hi
 dsimp only at hi ⊢
 refine CW.ff (p:=oa=none→c.L.length=0) (fun w hC e=> sls_nil (hC.s.i _ m2) (by rw [e];rfl)) (fun hpa=> ?_)
 refine CW.ss (CW.sr (RL.p rfl (RL.fa fa_34_0 rfl (RL.lq isAgg24 rfl ?_))))
 refine RL.lenS runUnderlying24 rfl (RL.q rfl ?_)
 apply RL.andB (d:=38) (dp:=41) (l':=(Sq.of [])) rfl (sK [1,2,3,4] rfl)
 ·
  intro hb6 K6
  refine RL.q rfl (RL.p rfl ?_)
  exact K6 _ (.cons rfl (sK [1,2,3,4] rfl))
 ·
  intro hb6 K6
  refine RL.q rfl (RL.p rfl ?_)
  exact K6 _ (.cons rfl (sK [1,2,3,4] rfl))
 refine RL.ns ?_
 refine CW.cd rfl (fun hlt=> ?_) (fun hlt=> ?_)
 ·
  have hlt:i < c.L.length:=by simp at hlt;omega
  cases oa with
  | none=> exact absurd (hpa rfl) zb
  | some ba=>
  have hx:=List.getElem?_eq_getElem hlt
  have htk:c.L.take (i+1)=c.L.take i++ [c.L[i]]:=by rw [List.take_add_one,hx];rfl
  generalize c.L[i]=s at hx htk
  have hs:=hL s (List.mem_of_getElem? hx)
  have hsl:=hLl s (List.mem_of_getElem? hx)
  have fE:RdsN J ⟨ba,0+i*48,none⟩ 48 s.cells:=flat_rdsN (f:=Sr.cells) m2 hx hLl
  refine CW.sn (CW.ss (CW.bb (CW.rD (Sq.of (rg 0 11)) [8,9,11] [9,11] [0,2,3,4,5,6,7,10] mixed zi ?_)))
  refine RL.fa fa_47_0 rfl (RL.load isAgg44 rfl (Rd.cel mQ rfl) ?_)
  refine RL.fa fa_34_0 rfl (RL.lT isAgg24 rfl ?_)
  refine RL.p rfl (RL.ix (j:=i) runUnderlying24 sizeOf122 rfl (hlt) (RL.loadSTq isAgg122 sizeOf122 rfl ?_))
  refine RL.callTq (lsource s hs) call40 rfl ?_
  refine RL.buildSlice s.cells runUnderlying44 sizeOf59 zeroValue59 rfl rfl zc zc rfl (fill_one48 hsl rfl) ?_
  intro b4
  refine RL.appendA el_44 rfl za (Src.cel (cs:=s.cells) mQ hsl) (ones_spec (sr_ones s)) zd zd ?_
  intro ob1 cap1 ho1
  refine RL.fa fa_47_0 rfl (RL.sX (vs:= [_]) cf_set sizeOf44 rfl rfl uE (by rw [hl45];show 0+0+1≤45;decide) ?_)
  refine RL.ee (NQ.bb (NQ.ss (CW.ok [1,2,3,4] rfl (CW.rg (RL.p rfl (RL.bx rfl (wrapV_i64 zb zb) ?_))))))
  refine RL.p rfl (RL.ee ?_)
  refine NQ.rr (g:=(i,ob,cp)) (i+1,ob1,cap1) hlt (by show c.L.length - (i+1) < c.L.length - i;omega) sE (fun w h=> h.rea (H':= [cel b3 (c.cells (slO ob1 (i+1) cap1)) 47,own ob1 cap1 59 48 (i+1) ((c.L.take (i+1)).flatMap Sr.cells),cel b2 (zeroC.cells (.slice none 0 0)) 47]) (fun _ h=> h) (by rw [htk,List.flatMap_append,List.flatMap_cons,List.flatMap_nil,List.append_nil];exact rE))
 ·
  have hin:i=c.L.length:=by simp at hlt;omega
  subst hin
  rw [List.take_length]
  refine CW.xx (XQ.ss (XQ.ss (XQ.hh (NQ.ss (CW.sg [1] [1] (RL.lW isAgg47 sizeOf47 rfl mQ (hl45 _) ?_))))))
  refine RL.sW sizeOf47 rfl (cf_ones _ rfl) uE (hl45 _) rfl ?_
  refine RL.ns (CW.rr (RQ.rea (fun _ h=> h) (H':= [own ob cp 59 48 c.L.length (c.L.flatMap Sr.cells),cel b2 (c.cells (slO ob c.L.length cp)) 47]) rE ?_))
  exact RQ.pp (resW rfl rfl isAgg47 sizeOf47 mQ (hl45 _)) (.keep (Split.nn _)) ⟨ob,cp,rfl,rfl,rfl⟩
end Go.Proofs.YtkineolcmdecjaaGreat
