import Derived.Test.YtkineolcmdecjaaGreatBase
import Derived.Test.YtkineolcmdecjaaGreatPD
namespace Go.Proofs.YtkineolcmdecjaaGreat
open Go.PK
open Tryz
def kk (key:List B8):List B8:=if 64 < key.length then sha key else key
theorem kk_len (key : List B8) : (kk key).length ≤ 64 := by unfold kk; split; · rw [sha_length]; omega
                                                            · omega
def padK (key:List B8):List B8:=kk key++List.replicate (64 - (kk key).length) 0#8
theorem padK_len (key:List B8):(padK key).length=64:=by have:=kk_len key;simp [padK];omega
def padB (key:List B8) (by_:B8):List B8:=(padK key).map (·^^^by_)
theorem padB_len (key:List B8) (b:B8):(padB key b).length=64:=by simp [padB,padK_len]
theorem padB_get (key:List B8) (b:B8) {j:Nat} (h:j < 64):(bytes (padB key b))[j]? =some (U8 ((padK key).getD j 0^^^b))∧(bytes (padK key))[j]? =some (U8 ((padK key).getD j 0)):=by
 have hl:j < (padK key).length:=by rw [padK_len];exact h
 constructor
 ·simp [padB,hl]
 ·simp [hl]
theorem pad_copy {key k:List B8} (hk:kk key=k) (hl:k.length≤64) (n:Nat) (hn:n=k.length) (x:B8):spl (List.replicate 64 (U8 0#8)) 0 (List.take (Nat.min n 64*1) (bytes k))=(bytes (padB key x)).take 0++(bytes (padK key)).drop 0:=by
 subst hn
 rw [show Nat.min k.length 64=k.length from Nat.min_eq_left hl,Nat.mul_one,List.take_of_length_le zm,spl_eq _ _ _ (by simp;exact hl)]
 simp only [List.take_zero,List.nil_append,Nat.zero_add,List.length_map,List.drop_replicate,List.drop_zero]
 rw [padK,hk];simp
theorem pad_any (p:Option Addr) (cap:Nat) (key:List B8) (hb:key.length≤1000000000) (x:B8):Spc prog 183 #[.slice p key.length cap,U8 x] [sls p 1 key.length (bytes key)] []
  (fun v I' H'=> ∃b,v= .slice (some ⟨b,0,none⟩) 64 64∧I'= []∧H'= [cel b (bytes (padB key x)) 370]):=by
 refine Spc.en func183 rfl rfl (fun w0 hw0=> ?_)
 refine CW.sr (RL.pn rfl (CW.ss (CW.sr (RL.p rfl (RL.lenS runUnderlying74 rfl (RL.pn rfl ?_))))))
 refine CW.cd rfl (fun hl=> ?_) (fun hl=> ?_)
 ·
  have hl:64 < key.length:=by simp at hl;omega
  have hk:kk key=sha key:=by rw [kk,if_pos hl]
  have hkl:(sha key).length≤64:=by rw [sha_length];omega
  refine CW.sg [1,3,4] [4] (RL.p rfl (RL.buildSlice [_] runUnderlying161 sizeOf74 zeroValue74 rfl rfl zc zc rfl rfl ?_))
  intro b1
  refine RL.vv (of_any (some ⟨b1,0,none⟩) 1 [⟨p,cap,key⟩] zm (by simp [joined];omega)) call157 rfl (Lend.all mQ rfl (.inI mQ .nil)) ?_
  refine RL.al (cs:=List.replicate 32 (U8 0#8)) zeroValue270 rfl ?_
  intro b2
  refine RL.sq sizeOf270 rfl ?_
  refine RL.ns (CW.ok [1,4,5] rfl (CW.rg (RL.sliceAll runUnderlying270 sizeOf5 zc rfl ?_)))
  refine RL.pn rfl (CW.sg [0] [] (RL.al (cs:=List.replicate 64 (U8 0#8)) zeroValue370 rfl ?_))
  intro b3
  refine RL.ns (CW.sg [2] [2] (RL.sliceAll runUnderlying370 sizeOf5 zc rfl ?_))
  refine RL.p rfl ?_
  rw [show joined [⟨p,cap,key⟩]=key by simp [joined]]
  refine RL.copy (news:=bytes (sha key)) runUnderlying74 sizeOf5 rfl (Src.cel mQ (by simp [sha_length])) (one_map one8 _) uE zm ?_
  rw [pad_copy hk hkl 32 (sha_length _).symm x]
  refine RL.ns (CW.ok [1,6] rfl (CW.ss (CW.sr (RL.pn rfl (CW.bb ?_)))))
  refine CW.loop (γ:=Nat) (fun j=> j≤64) (fun j=> [(1,U8 x),(6, .pointer (some ⟨b3,0,none⟩)),(18, .int .i64 (j:Int))])
   (fun _=> []) (fun j=> [cel b3 ((bytes (padB key x)).take j++(bytes (padK key)).drop j) 370]) (fun j=> 64 - j) 0 zb sE (fun _ h=> h.rea (fun x hx=> by cases hx) rE) ?_
  intro j hj
  refine CW.sr (RL.pn rfl (CW.ss ?_))
  refine CW.cd rfl (fun hlt=> ?_) (fun hlt=> ?_)
  ·
   refine CW.sn (CW.ss (CW.bb (CW.s1 rfl (CW.rn (ef:= [6]) (bk:= [6]) (RL.p rfl ?_)))))
   have hlt:j < 64:=by simp at hlt;omega
   obtain ⟨g1,g2⟩:=padB_get key x hlt
   have hmx:((bytes (padB key x)).take j++(bytes (padK key)).drop j)[0+j*1]? =some (U8 ((padK key).getD j 0)):=by rw [get_mix (by simp [padB_len];omega)];exact g2
   refine RL.iA (j:=j) runUnderlying370 sizeOf5 rfl hlt (RL.lq isAgg5 rfl ?_)
   refine RL.p rfl (RL.bv8 (a:=_) (b:=_) xor8 rfl rfl rfl (RL.iA (j:=j) runUnderlying370 sizeOf5 rfl hlt (RL.sX (cs':=(bytes (padB key x)).take (j+1)++(bytes (padK key)).drop (j+1)) (vs:= [_]) (spl_mix (by simp [padB_len,padK_len]) g1) sizeOf5 rfl rfl uE (by simp [padB_len,padK_len];omega) ?_)))
   refine RL.ee (NQ.bb (NQ.ss (CW.ok [1,6,18] rfl (CW.rg (RL.bx rfl (wrapV_i64 zb zb) ?_)))))
   refine RL.p rfl (RL.ee ?_)
   exact NQ.rr (g:=j) (j+1) hlt zb sE (fun _ h=> h)
  ·
   refine CW.xx (XQ.ss (XQ.ss (XQ.hh (NQ.ss (CW.sr (RL.sliceAll runUnderlying370 sizeOf5 zc rfl ?_))))))
   refine RL.pn rfl (CW.rr ?_)
   have hj64:j=64:=by simp at hlt;omega
   subst hj64
   rw [List.take_of_length_le (by simp [padB_len]),List.drop_of_length_le (by simp [padK_len]),List.append_nil]
   exact RQ.pp (res1 rfl rfl) (.keep .nil) ⟨_,rfl,rfl,rfl⟩
 ·
  have hl: ¬64 < key.length:=by simp at hl;omega
  have hk:kk key=key:=by rw [kk,if_neg hl]
  have hkl:key.length≤64:=by omega
  refine CW.sn (CW.sg [0] [] (RL.al (cs:=List.replicate 64 (U8 0#8)) zeroValue370 rfl ?_))
  intro b1
  refine RL.ns (CW.sg [2] [2] (RL.sliceAll runUnderlying370 sizeOf5 zc rfl ?_))
  refine RL.p rfl (RL.copy (news:=bytes key) runUnderlying74 sizeOf5 rfl (Src.sls mQ) (one_map one8 _) uE zm ?_)
  rw [pad_copy hk hkl key.length rfl x]
  refine RL.ns (CW.ok [1,6] rfl (CW.ss (CW.sr (RL.pn rfl (CW.bb ?_)))))
  refine CW.loop (γ:=Nat) (fun j=> j≤64) (fun j=> [(1,U8 x),(6, .pointer (some ⟨b1,0,none⟩)),(18, .int .i64 (j:Int))])
   (fun _=> []) (fun j=> [cel b1 ((bytes (padB key x)).take j++(bytes (padK key)).drop j) 370]) (fun j=> 64 - j) 0 zb sE (fun _ h=> h.rea (fun x hx=> by cases hx) rE) ?_
  intro j hj
  refine CW.sr (RL.pn rfl (CW.ss ?_))
  refine CW.cd rfl (fun hlt=> ?_) (fun hlt=> ?_)
  ·
   refine CW.sn (CW.ss (CW.bb (CW.s1 rfl (CW.rn (ef:= [6]) (bk:= [6]) (RL.p rfl ?_)))))
   have hlt:j < 64:=by simp at hlt;omega
   obtain ⟨g1,g2⟩:=padB_get key x hlt
   have hmx:((bytes (padB key x)).take j++(bytes (padK key)).drop j)[0+j*1]? =some (U8 ((padK key).getD j 0)):=by rw [get_mix (by simp [padB_len];omega)];exact g2
   refine RL.iA (j:=j) runUnderlying370 sizeOf5 rfl hlt (RL.lq isAgg5 rfl ?_)
   refine RL.p rfl (RL.bv8 (a:=_) (b:=_) xor8 rfl rfl rfl (RL.iA (j:=j) runUnderlying370 sizeOf5 rfl hlt (RL.sX (cs':=(bytes (padB key x)).take (j+1)++(bytes (padK key)).drop (j+1)) (vs:= [_]) (spl_mix (by simp [padB_len,padK_len]) g1) sizeOf5 rfl rfl uE (by simp [padB_len,padK_len];omega) ?_)))
   refine RL.ee (NQ.bb (NQ.ss (CW.ok [1,6,18] rfl (CW.rg (RL.bx rfl (wrapV_i64 zb zb) ?_)))))
   refine RL.p rfl (RL.ee ?_)
   exact NQ.rr (g:=j) (j+1) hlt zb sE (fun _ h=> h)
  ·
   refine CW.xx (XQ.ss (XQ.ss (XQ.hh (NQ.ss (CW.sr (RL.sliceAll runUnderlying370 sizeOf5 zc rfl ?_))))))
   refine RL.pn rfl (CW.rr ?_)
   have hj64:j=64:=by simp at hlt;omega
   subst hj64
   rw [List.take_of_length_le (by simp [padB_len]),List.drop_of_length_le (by simp [padK_len]),List.append_nil]
   exact RQ.pp (res1 rfl rfl) (.keep .nil) ⟨_,rfl,rfl,rfl⟩
def macCode (key b:List B8):List B8:=sha (padB key 92#8++sha (padB key 54#8++b))
theorem macCode_len (key b:List B8):(macCode key b).length=32:=sha_length _
theorem Lend.allX {I F J:List It} {b sz nn:Nat} {cs xs:List Value} {T:TypeId} (hm:PK.cel b cs T∈F) (hl:xs.length=nn*sz) (he:cs=xs) (h:Lend I F J):Lend I F (PK.sls (some ⟨b,0,none⟩) sz nn xs::J):=by
 subst he;exact Lend.all hm hl h
theorem joined_two (a b:Part):joined [a,b]=a.m++b.m:=by simp [joined]
theorem code_any (p:Option Addr) (kcap:Nat) (key:List B8) (hkb:key.length≤1000000000) (pp:Option Addr) (cap:Nat) (qs:List Part) (hn:qs.length≤1000000) (hb:(joined qs).length≤100000000):
  Spc prog 150 #[.slice p key.length kcap, .slice pp qs.length cap] (sls p 1 key.length (bytes key)::sls pp 1 qs.length (qs.map Part.v)::qs.map Part.i) [] (Is (.agg (bytes (macCode key (joined qs))).toArray)):=by
 generalize hBase:sls p 1 key.length (bytes key)::sls pp 1 qs.length (qs.map Part.v)::qs.map Part.i=Base
 have hmk:sls p 1 key.length (bytes key)∈Base:=by rw [←hBase];exact List.Mem.head _
 have hmp:sls pp 1 qs.length (qs.map Part.v)∈Base:=by rw [←hBase];exact List.mem_cons_of_mem _ (List.Mem.head _)
 have hmi:∀q∈qs,q.i∈Base:=fun q hq=> by rw [←hBase];exact List.mem_cons_of_mem _ (List.mem_cons_of_mem _ (List.mem_map_of_mem hq))
 refine Spc.en func150 rfl rfl (fun w0 hw0=> ?_)
 refine CW.sg [0] [] (RL.al (cs:=List.replicate 32 (U8 0#8)) zeroValue270 rfl ?_)
 intro b1
 refine RL.ns (CW.sg [0] [] (RL.cq (new_any) call181 rfl (.inl rfl) ?_))
 rintro _ _ _ ⟨hh,rfl,rfl,rfl⟩
 refine RL.pn rfl (CW.ss (CW.also (sls none 1 0 []) (fun _ _=> ⟨rfl,rfl⟩) (fun c hc=> by simp [sls] at hc) ?_))
 refine CW.rn (ef:= [2,3]) (bk:= [3]) (RL.q rfl (RL.cc (pad_any p kcap key hkb 54#8) call183 rfl pE (.inI (by simp [hmk]) .nil) (.inl rfl) ?_))
 rintro _ _ _ ⟨bp,rfl,rfl,rfl⟩
 have hl1:=padB_len key 54#8
 refine RL.write (n:=0) (rest:= []) (m:=padB key 54#8) zm zm zm zb rfl rfl rfl (by rw [padB_len];rfl) mQ pE (Lend.all mQ zm .nil) ?_
 intro p1 c1 hc1
 rw [show absorb iv ([]++padB key 54#8)=after (padB key 54#8) from rfl,Nat.zero_add] at*
 refine RL.ns (CW.ss (CW.sr (RL.p rfl (RL.lenS runUnderlying161 rfl (RL.pn rfl (CW.ok [0,4,5,14,15,16] rfl (CW.bb ?_)))))))
 refine CW.loop (γ:=Nat×Option Addr×Nat) (fun g=> g.1≤qs.length∧(after (padB key 54#8++joined (qs.take g.1))).2.length≤g.2.2)
  (fun g=> [(0, .slice p key.length kcap),(4, .pointer (some ⟨b1,0,none⟩)),(5, .pointer (some ⟨hh,0,none⟩)),(14, .slice pp qs.length cap),(15, .int .i64 (qs.length:Int)),(16, .int .i64 (g.1:Int))])
  (fun g=> sls g.2.1 1 (after (padB key 54#8++joined (qs.take g.1))).2.length (bytes (after (padB key 54#8++joined (qs.take g.1))).2)::Base)
  (fun g=> [hcel hh (after (padB key 54#8++joined (qs.take g.1))).1 g.2.1 (after (padB key 54#8++joined (qs.take g.1))).2.length g.2.2 (padB key 54#8++joined (qs.take g.1)).length,cel b1 (List.replicate 32 (U8 0#8)) 270])
  (fun g=> qs.length - g.1) (0,p1,c1) ⟨zb,by simpa [joined] using hc1⟩ sE
  (fun w h=> by
   have e:padB key 54#8++joined (qs.take 0)=padB key 54#8:=by simp [joined]
   dsimp only
   rw [e]
   exact h.rea (fun x hx=> by
    rcases List.mem_cons.1 hx with rfl | hx
    ·exact List.Mem.head _
    ·exact List.mem_cons_of_mem _ (List.mem_cons_of_mem _ (by simpa using hx))) rE) ?_
 rintro ⟨i,p',c'⟩ ⟨hi,hc⟩
 dsimp only at hi hc ⊢
 have hr:=after_rest (padB key 54#8++joined (qs.take i))
 have hle0:=joined_le qs i
 refine CW.sr (RL.pn rfl (CW.ss ?_))
 refine CW.cd rfl (fun hlt=> ?_) (fun hlt=> ?_)
 ·
  have hlt:i < qs.length:=by simp at hlt;omega
  refine CW.ff (p:=pp≠none) (fun w hC e=> by
   have:=sls_nil (hC.s.i _ (List.mem_cons_of_mem _ hmp)) e
   omega) (fun hpp=> ?_)
  obtain ⟨a,rfl⟩:∃a,pp=some a:=by
   cases pp with
   | none=> exact absurd rfl hpp
   | some a=> exact ⟨a,rfl⟩
  have hv:(qs.map Part.v)[i*1]? =some (qs[i]).v:=by simp [hlt]
  have hmi':=hmi (qs[i]) (List.getElem_mem _)
  refine CW.sn (CW.ss (CW.bb (CW.sr (RL.idx (j:=i) runUnderlying161 sizeOf74 rfl rfl hlt (RL.load isAgg74 rfl (Rd.getS (List.mem_cons_of_mem _ hmp) hv) (RL.pn rfl (CW.rn (ef:= [2]) (bk:= [2]) (RL.q rfl ?_))))))))
  have hj:=joined_succ hlt
  have hle:=joined_le qs (i+1)
  rw [hj,List.length_append] at hle
  refine RL.write (n:=(padB key 54#8++joined (qs.take i)).length) (p:=p') (q:=qs[i].p) (c2:=qs[i].c) (m:=qs[i].m) hr.1 hc hr.2.1 (by rw [List.length_append,padB_len];omega) rfl rfl rfl rfl (List.Mem.head _) pE (.inI (List.mem_cons_of_mem _ hmi') .nil) ?_
  intro p2 c2 hc2
  rw [after_append,List.append_assoc,←hj] at hc2 ⊢
  refine RL.ee (NQ.bb (NQ.ss (CW.ok [0,4,5,14,15,16] rfl (CW.rg (RL.bx rfl (wrapV_i64 zb zb) ?_)))))
  refine RL.p rfl (RL.ee ?_)
  refine NQ.rr (g:=(i,p',c')) (i+1,p2,c2) ⟨hlt,hc2⟩ (by show qs.length - (i+1) < qs.length - i;omega) sE (fun w h=> ?_)
  dsimp only
  rw [show (padB key 54#8++joined (qs.take (i+1))).length=(padB key 54#8++joined (qs.take i)).length+qs[i].m.length by rw [hj];simp [Nat.add_assoc]]
  exact h.les (fun x hx=> by
   rcases List.mem_cons.1 hx with rfl | hx
   ·exact List.Mem.head _
   ·exact List.mem_cons_of_mem _ (List.mem_cons_of_mem _ hx)) (Les.refl _)
 ·
  have hil:i=qs.length:=by simp at hlt;omega
  subst hil
  rw [List.take_length] at hr hc hle0 ⊢
  generalize hX:padB key 54#8++joined qs=X at hr hc ⊢
  have hXl:X.length≤200000000:=by rw [←hX,List.length_append,padB_len];omega
  refine CW.xx (XQ.ss (XQ.ss (XQ.hh (NQ.ss (CW.sg [2,3] [3] (RL.p rfl (RL.vq (sum_after hh p' c' X zb) call184 rfl ?_)))))))
  refine RL.al (cs:=List.replicate 32 (U8 0#8)) zeroValue270 rfl ?_
  intro b2
  refine RL.sq sizeOf270 rfl ?_
  refine RL.ns (CW.ok [0,4,8] rfl (CW.ss (CW.rD (Sq.of [0,2,1,3,4,5]) [1,3,4,5] [5] [0,2] mixed zi ?_)))
  refine RL.p rfl (RL.sliceAll runUnderlying270 sizeOf5 zc rfl ?_)
  refine RL.cc (pad_any p kcap key hkb 92#8) call183 rfl pE (.inI (by simp [hmk]) .nil) (.inl rfl) ?_
  rintro _ _ _ ⟨bq,rfl,rfl,rfl⟩
  refine RL.buildSlice [_,_] runUnderlying161 sizeOf74 zeroValue74 rfl rfl zc zc rfl rfl ?_
  intro b3
  refine RL.vv (of_any (some ⟨b3,0,none⟩) 2 [⟨some ⟨bq,0,none⟩,64,padB key 92#8⟩,⟨some ⟨b2,0,none⟩,32,sha X⟩] zm (by rw [joined_two];simp [padB_len,sha_length])) call157 rfl (Lend.allX mQ rfl (by simp [padB_len,sha_length]) (Lend.all mQ zm (Lend.all mQ zm .nil))) ?_
  refine RL.sq sizeOf270 rfl ?_
  refine RL.ns (CW.ok [4] rfl (CW.rr ?_))
  exact RQ.pp (resW rfl rfl isAgg270 sizeOf270 mQ (by simp [sha_length])) (Split.nn _) ⟨by rw [joined_two,←hX];rfl,rfl,rfl⟩
theorem code_n (p:Option Addr) (n kcap:Nat) (key:List B8) (hk:key.length=n) (hkb:n≤1000000000) (pp:Option Addr) (qn cap:Nat) (qs:List Part) (hq:qs.length=qn) (hn:qn≤1000000) (hb:(joined qs).length≤100000000):
  Spc prog 150 #[.slice p n kcap, .slice pp qn cap] (sls p 1 n (bytes key)::sls pp 1 qn (qs.map Part.v)::qs.map Part.i) [] (Is (.agg (bytes (macCode key (joined qs))).toArray)):=by
 subst hk;subst hq;exact code_any p kcap key hkb pp cap qs hn hb
theorem tellN {ob:Option Nat} {cap sz n:Nat} {e:TypeId} {xs:List Value} {w:World} (h:(own ob cap e sz n xs).A w) (hn:n≠0):ob.isSome=true:=by
 cases ob with
 | none=> exact absurd h.2.1 hn
 | some b=> rfl
theorem rpad_any (p:Option Addr) (cap:Nat) (key:List B8) (hb:key.length≤1000000000) (x:B8):Spc prog 165 #[.slice p key.length cap,U8 x] [sls p 1 key.length (bytes key)] [] (OwnB (padB key x)):=by
 refine Spc.en func165 rfl rfl (fun w0 hw0=> ?_)
 refine CW.sr (RL.pn rfl (CW.sg [0,2] [2] (RL.buildOwn [] runUnderlying74 sizeOf5 zeroValue5 rfl rfl zc zc rfl zc rfl ?_)))
 intro b1
 refine RL.p rfl (RL.appendq el_74 rfl ?_)
 intro ob1 cap1 ho1
 refine RL.pn rfl (CW.ss (CW.sr (RL.p rfl (RL.lenS runUnderlying74 rfl (RL.pn rfl ?_)))))
 refine CW.cd rfl (fun hl=> ?_) (fun hl=> ?_)
 ·
  have hl:64 < key.length:=by simp at hl;omega
  have hk:kk key=sha key:=by rw [kk,if_pos hl]
  have hkl:(sha key).length≤64:=by rw [sha_length];omega
  refine CW.sg [2,3] [3] (RL.p rfl (RL.vq (rof_any p cap key hb) call159 rfl ?_))
  refine RL.al (cs:=List.replicate 32 (U8 0#8)) zeroValue270 rfl ?_
  intro b2
  refine RL.sq sizeOf270 rfl ?_
  refine RL.ns (CW.ok [1,4,6] rfl (CW.rn (ef:= [0,2]) (bk:= [2]) (RL.buildOwn [] runUnderlying74 sizeOf5 zeroValue5 rfl rfl zc zc rfl zc rfl ?_)))
  intro b3
  refine RL.sliceAll runUnderlying270 sizeOf5 zc rfl ?_
  refine RL.appendq el_74 rfl ?_
  intro ob2 cap2 ho2
  refine RL.pn rfl (CW.ss (CW.bb ?_))
  refine CW.loop (γ:=Nat×Option Nat×Nat) (fun g=> (sha key).length+g.1≤64) (fun g=> [(1,U8 x),(5,slO g.2.1 ((sha key).length+g.1) g.2.2)]) (fun _=> [])
   (fun g=> [own g.2.1 g.2.2 5 1 ((sha key).length+g.1) (bytes ((sha key)++List.replicate g.1 0#8))]) (fun g=> 64 - g.1) (0,ob2,cap2) (by simpa using hkl) (.cons rfl (.cons ((by rw [sha_length];rfl)) .nil))
   (fun w h=> by
    rw [own_is (ob:=ob2) (n':=(sha key).length+0) (xs':=bytes ((sha key)++List.replicate 0 0#8)) (by rw [sha_length]) zm] at h
    exact h.rea (fun _ h=> by cases h) rE) ?_
  rintro ⟨j,ob,c⟩ hj
  dsimp only at hj ⊢
  refine CW.ss (CW.sr (RL.p rfl (RL.lenS runUnderlying74 rfl (RL.pn rfl ?_))))
  refine CW.cd rfl (fun ht=> ?_) (fun ht=> ?_)
  ·
   refine CW.sn (CW.bb (CW.rn (ef:= [1,2]) (bk:= [2]) (RL.p rfl (RL.buildOwn [_] runUnderlying74 sizeOf5 zeroValue5 rfl rfl zc zc rfl zc rfl ?_))))
   intro b4
   refine RL.appendq el_74 rfl ?_
   intro ob3 cap3 ho3
   refine RL.p rfl (RL.ee (NQ.bb ?_))
   have hlt:(sha key).length+j < 64:=by simp at ht;omega
   refine NQ.rr (g:=(j,ob,c)) (j+1,ob3,cap3) (by show (sha key).length+(j+1)≤64;omega) (by show 64 - (j+1) < 64 - j;omega) sE (fun w h=> ?_)
   rw [own_is (ob:=ob3) (n':=(sha key).length+(j+1)) (xs':=bytes ((sha key)++List.replicate (j+1) 0#8)) zb (by simp [List.replicate_succ'];rfl)] at h
   exact h.rea (fun _ h=> h) rE
  ·
   have hj64:(sha key).length+j=64:=by simp at ht;omega
   have hpk:(sha key)++List.replicate j 0#8=padK key:=by rw [padK,hk,show 64 - (sha key).length=j by omega]
   rw [hpk,hj64]
   refine CW.ff (p:=ob.isSome=true) (fun w hC=> tellN (hC.s.h (own ob c 5 1 64 (bytes (padK key))) mQ) zc) (fun hob=> ?_)
   obtain ⟨b,rfl⟩:∃b,ob=some b:=by
    cases ob with
    | none=> cases hob
    | some b=> exact ⟨b,rfl⟩
   refine CW.xx (XQ.ss (XQ.ss (XQ.hh (NQ.ss (CW.ss (CW.sr (RL.pn rfl (CW.bb ?_))))))))
   refine CW.loop (γ:=Nat) (fun j=> j≤64) (fun j=> [(1,U8 x),(5,slO (some b) 64 c),(7, .int .i64 (j:Int))]) (fun _=> [])
    (fun j=> [own (some b) c 5 1 64 ((bytes (padB key x)).take j++(bytes (padK key)).drop j)]) (fun j=> 64 - j) 0 zb sE (fun _ h=> h) ?_
   clear ht hpk hj hj64
   intro j hj
   refine CW.ss (CW.s1 rfl ?_)
   refine CW.cd rfl (fun hlt=> ?_) (fun hlt=> ?_)
   ·
    refine CW.sn (CW.ss (CW.bb (CW.rn (ef:= [9]) (bk:= [9]) (RL.q rfl (RL.q rfl ?_)))))
    have hlt:j < 64:=by simp at hlt;omega
    obtain ⟨g1,g2⟩:=padB_get key x hlt
    have hmx:((bytes (padB key x)).take j++(bytes (padK key)).drop j)[j*1]? =some (U8 ((padK key).getD j 0)):=by
     have:=get_mix (l1:=bytes (padK key)) (l2:=bytes (padB key x)) (n:=j) (by simp [padB_len];omega)
     rw [Nat.zero_add] at this
     rw [this];exact g2
    refine RL.idx (j:=j) (p:=⟨b,0,none⟩) runUnderlying74 sizeOf5 rfl rfl hlt (RL.lq isAgg5 rfl ?_)
    refine RL.p rfl (RL.bv8 (a:=_) (b:=_) xor8 rfl rfl rfl (RL.idx (j:=j) (p:=⟨b,0,none⟩) runUnderlying74 sizeOf5 rfl rfl hlt ?_))
    have hst:spl ((bytes (padB key x)).take j++(bytes (padK key)).drop j) (j*1) [U8 ((padK key).getD j 0^^^x)]=(bytes (padB key x)).take (j+1)++(bytes (padK key)).drop (j+1):=by
     have:=spl_mix (l1:=bytes (padK key)) (l2:=bytes (padB key x)) (n:=j) (by simp [padB_len,padK_len]) g1
     rwa [Nat.zero_add] at this
    refine RL.storeO (off:=j*1) (vs:= [_]) hst sizeOf5 rfl rfl rfl rfl rfl (by simp [padB_len,padK_len];omega) uE ?_
    refine RL.ee (NQ.bb (NQ.ss (CW.ok [1,5,7] rfl (CW.rg (RL.p rfl (RL.bx rfl (wrapV_i64 zb zb) ?_))))))
    refine RL.p rfl (RL.ee ?_)
    exact NQ.rr (g:=j) (j+1) hlt zb sE (fun _ h=> h)
   ·
    refine CW.xx (XQ.ss (XQ.ss (XQ.hh (NQ.ss (CW.s1 rfl (CW.ok [4] rfl (CW.rr ?_)))))))
    have hj64:j=64:=by simp at hlt;omega
    subst hj64
    rw [List.take_of_length_le (by simp [padB_len]),List.drop_of_length_le (by simp [padK_len]),List.append_nil]
    exact RQ.pp (res1 rfl rfl) (.keep .nil) ⟨_,_,by rw [padB_len],rfl,by rw [padB_len], .inr rfl⟩
 ·
  have hl: ¬64 < key.length:=by simp at hl;omega
  have hk:kk key=key:=by rw [kk,if_neg hl]
  have hkl:key.length≤64:=by omega
  rw [Nat.zero_add]
  refine CW.sn (CW.ok [1,5] rfl (CW.ss (CW.bb ?_)))
  refine CW.loop (γ:=Nat×Option Nat×Nat) (fun g=> key.length+g.1≤64) (fun g=> [(1,U8 x),(5,slO g.2.1 (key.length+g.1) g.2.2)]) (fun _=> [])
   (fun g=> [own g.2.1 g.2.2 5 1 (key.length+g.1) (bytes (key++List.replicate g.1 0#8))]) (fun g=> 64 - g.1) (0,ob1,cap1) (by simpa using hkl) (.cons rfl (.cons (rfl) .nil))
   (fun w h=> by
    rw [own_is (ob:=ob1) (n':=key.length+0) (xs':=bytes (key++List.replicate 0 0#8)) zb zm] at h
    exact h.rea (fun _ h=> by cases h) rE) ?_
  rintro ⟨j,ob,c⟩ hj
  dsimp only at hj ⊢
  refine CW.ss (CW.sr (RL.p rfl (RL.lenS runUnderlying74 rfl (RL.pn rfl ?_))))
  refine CW.cd rfl (fun ht=> ?_) (fun ht=> ?_)
  ·
   refine CW.sn (CW.bb (CW.rn (ef:= [1,2]) (bk:= [2]) (RL.p rfl (RL.buildOwn [_] runUnderlying74 sizeOf5 zeroValue5 rfl rfl zc zc rfl zc rfl ?_))))
   intro b2
   refine RL.appendq el_74 rfl ?_
   intro ob2 cap2 ho2
   refine RL.p rfl (RL.ee (NQ.bb ?_))
   have hlt:key.length+j < 64:=by simp at ht;omega
   refine NQ.rr (g:=(j,ob,c)) (j+1,ob2,cap2) (by show key.length+(j+1)≤64;omega) (by show 64 - (j+1) < 64 - j;omega) sE (fun w h=> ?_)
   rw [own_is (ob:=ob2) (n':=key.length+(j+1)) (xs':=bytes (key++List.replicate (j+1) 0#8)) zb (by simp [List.replicate_succ'];rfl)] at h
   exact h.rea (fun _ h=> h) rE
  ·
   have hj64:key.length+j=64:=by simp at ht;omega
   have hpk:key++List.replicate j 0#8=padK key:=by rw [padK,hk,show 64 - key.length=j by omega]
   rw [hpk,hj64]
   refine CW.ff (p:=ob.isSome=true) (fun w hC=> tellN (hC.s.h (own ob c 5 1 64 (bytes (padK key))) mQ) zc) (fun hob=> ?_)
   obtain ⟨b,rfl⟩:∃b,ob=some b:=by
    cases ob with
    | none=> cases hob
    | some b=> exact ⟨b,rfl⟩
   refine CW.xx (XQ.ss (XQ.ss (XQ.hh (NQ.ss (CW.ss (CW.sr (RL.pn rfl (CW.bb ?_))))))))
   refine CW.loop (γ:=Nat) (fun j=> j≤64) (fun j=> [(1,U8 x),(5,slO (some b) 64 c),(7, .int .i64 (j:Int))]) (fun _=> [])
    (fun j=> [own (some b) c 5 1 64 ((bytes (padB key x)).take j++(bytes (padK key)).drop j)]) (fun j=> 64 - j) 0 zb sE (fun _ h=> h) ?_
   clear ht hpk hj hj64
   intro j hj
   refine CW.ss (CW.s1 rfl ?_)
   refine CW.cd rfl (fun hlt=> ?_) (fun hlt=> ?_)
   ·
    refine CW.sn (CW.ss (CW.bb (CW.rn (ef:= [9]) (bk:= [9]) (RL.q rfl (RL.q rfl ?_)))))
    have hlt:j < 64:=by simp at hlt;omega
    obtain ⟨g1,g2⟩:=padB_get key x hlt
    have hmx:((bytes (padB key x)).take j++(bytes (padK key)).drop j)[j*1]? =some (U8 ((padK key).getD j 0)):=by
     have:=get_mix (l1:=bytes (padK key)) (l2:=bytes (padB key x)) (n:=j) (by simp [padB_len];omega)
     rw [Nat.zero_add] at this
     rw [this];exact g2
    refine RL.idx (j:=j) (p:=⟨b,0,none⟩) runUnderlying74 sizeOf5 rfl rfl hlt (RL.lq isAgg5 rfl ?_)
    refine RL.p rfl (RL.bv8 (a:=_) (b:=_) xor8 rfl rfl rfl (RL.idx (j:=j) (p:=⟨b,0,none⟩) runUnderlying74 sizeOf5 rfl rfl hlt ?_))
    have hst:spl ((bytes (padB key x)).take j++(bytes (padK key)).drop j) (j*1) [U8 ((padK key).getD j 0^^^x)]=(bytes (padB key x)).take (j+1)++(bytes (padK key)).drop (j+1):=by
     have:=spl_mix (l1:=bytes (padK key)) (l2:=bytes (padB key x)) (n:=j) (by simp [padB_len,padK_len]) g1
     rwa [Nat.zero_add] at this
    refine RL.storeO (off:=j*1) (vs:= [_]) hst sizeOf5 rfl rfl rfl rfl rfl (by simp [padB_len,padK_len];omega) uE ?_
    refine RL.ee (NQ.bb (NQ.ss (CW.ok [1,5,7] rfl (CW.rg (RL.p rfl (RL.bx rfl (wrapV_i64 zb zb) ?_))))))
    refine RL.p rfl (RL.ee ?_)
    exact NQ.rr (g:=j) (j+1) hlt zb sE (fun _ h=> h)
   ·
    refine CW.xx (XQ.ss (XQ.ss (XQ.hh (NQ.ss (CW.s1 rfl (CW.ok [4] rfl (CW.rr ?_)))))))
    have hj64:j=64:=by simp at hlt;omega
    subst hj64
    rw [List.take_of_length_le (by simp [padB_len]),List.drop_of_length_le (by simp [padK_len]),List.append_nil]
    exact RQ.pp (res1 rfl rfl) (.keep .nil) ⟨_,_,by rw [padB_len],rfl,by rw [padB_len], .inr rfl⟩
def macTag (key b:List B8):List B8:=(macCode key b).take 16
theorem macTag_len (key b:List B8):(macTag key b).length=16:=by simp [macTag,macCode_len]
theorem bytes_take (l:List B8) (n:Nat):(bytes l).take n=bytes (l.take n):=(List.map_take (f:=U8)).symm
theorem rcode_any (p:Option Addr) (kcap:Nat) (key:List B8) (hkb:key.length≤1000000000) (q:Option Addr) (cap:Nat) (b:List B8) (hb:b.length≤100000000):
  Spc prog 137 #[.slice p key.length kcap, .slice q b.length cap] [sls p 1 key.length (bytes key),sls q 1 b.length (bytes b)] [] (Is (.agg (bytes (macCode key b)).toArray)):=by
 have l54:=padB_len key 54#8
 have l92:=padB_len key 92#8
 refine Spc.en func137 rfl rfl (fun w0 hw0=> ?_)
 refine CW.sg [0] [] (RL.al (cs:=List.replicate 32 (U8 0#8)) zeroValue270 rfl ?_)
 intro b1
 refine RL.ns (CW.sg [1,3,4,5,6] [3,6] (RL.p rfl (RL.cc (rpad_any p kcap key hkb 54#8) call165 rfl pE (.inI mQ .nil) (.inl rfl) ?_)))
 rintro _ _ _ ⟨obA,cA,rfl,rfl,rfl,hoA⟩
 refine RL.p rfl (RL.appendq el_74 rfl ?_)
 intro ob1 cap1 ho1
 rw [own_is (ob:=ob1) (n':=(padB key 54#8++b).length) (xs':=bytes (padB key 54#8++b)) (List.length_append).symm (List.map_append (f:=U8)).symm,←List.length_append]
 refine RL.vv (rof_any (ob1.map fun b=> ⟨b,0,none⟩) cap1 (padB key 54#8++b) (by rw [List.length_append];omega)) call159 rfl (Lend.own mQ .nil) ?_
 refine RL.al (cs:=List.replicate 32 (U8 0#8)) zeroValue270 rfl ?_
 intro b2
 refine RL.sq sizeOf270 rfl ?_
 refine RL.ns (CW.ok [0,4,5] rfl (CW.ss (CW.rD (Sq.of [0,2,1,3,4,5]) [1,3,5] [3,5] [0,2] mixed zi ?_)))
 refine RL.p rfl (RL.sliceAll runUnderlying270 sizeOf5 zc rfl ?_)
 refine RL.cc (rpad_any p kcap key hkb 92#8) call165 rfl pE (.inI mQ .nil) (.inl rfl) ?_
 rintro _ _ _ ⟨obB,cB,rfl,rfl,rfl,hoB⟩
 refine RL.appendq el_74 rfl ?_
 intro ob2 cap2 ho2
 rw [own_is (ob:=ob2) (n':=(padB key 92#8++sha (padB key 54#8++b)).length) (xs':=bytes (padB key 92#8++sha (padB key 54#8++b))) (by rw [List.length_append,sha_length]) (List.map_append (f:=U8)).symm,
  show (padB key 92#8).length+32=(padB key 92#8++sha (padB key 54#8++b)).length by rw [List.length_append,sha_length]]
 refine RL.vv (rof_any (ob2.map fun b=> ⟨b,0,none⟩) cap2 (padB key 92#8++sha (padB key 54#8++b)) (by rw [List.length_append,sha_length];omega)) call159 rfl (Lend.own mQ .nil) ?_
 refine RL.sq sizeOf270 rfl ?_
 refine RL.ns (CW.ok [4] rfl (CW.rr ?_))
 exact RQ.pp (resW rfl rfl isAgg270 sizeOf270 mQ (by first | rfl | assumption | (simp only [List.length_map];assumption) | (simp only [List.length_map,List.length_replicate,padK_len,padB_len,sha_length,dig_length,macCode_len,macTag_len];done) | (simp;done))) (Split.nn _) ⟨rfl,rfl,rfl⟩
theorem rcode_n (p:Option Addr) (n kcap:Nat) (key:List B8) (hk:key.length=n) (hkb:n≤1000000000) (q:Option Addr) (m cap:Nat) (b:List B8) (hm:b.length=m) (hb:m≤100000000):
  Spc prog 137 #[.slice p n kcap, .slice q m cap] [sls p 1 n (bytes key),sls q 1 m (bytes b)] [] (Is (.agg (bytes (macCode key b)).toArray)):=by
 subst hk;subst hm;exact rcode_any p kcap key hkb q cap b hb
theorem tag_any (k:List B8) (hk:k.length=32) (pp:Option Addr) (qn cap:Nat) (qs:List Part) (hq:qs.length=qn) (hn:qn≤1000000) (hb:(joined qs).length≤100000000):
  Spc prog 110 #[.agg (bytes k).toArray, .slice pp qn cap] (sls pp 1 qn (qs.map Part.v)::qs.map Part.i) [] (Is (.agg (bytes (macTag k (joined qs))).toArray)):=by
 refine Spc.en func110 rfl rfl (fun w0 hw0=> ?_)
 refine CW.sg [0,1] [] (RL.box rfl ?_)
 intro b1
 refine RL.al zeroValue76 rfl ?_
 intro b2
 refine RL.ns (CW.sg [3,4] [4] (RL.sliceAll runUnderlying31 sizeOf5 zc rfl ?_))
 refine RL.p rfl (RL.vv (code_n (some ⟨b1,0,none⟩) 32 32 k hk zc pp qn cap qs hq hn hb) call150 rfl (Lend.all mQ (by simp [hk]) (Lend.many (fun _ h=> h))) ?_)
 refine RL.al (cs:=List.replicate 32 (U8 0#8)) zeroValue270 rfl ?_
 intro b3
 refine RL.sq sizeOf270 rfl ?_
 refine RL.ns (CW.ok [4,5] rfl (CW.sg [3] [3] (RL.sliceA (lo:=0) (hi:=16) runUnderlying270 sizeOf5 rfl rfl rfl rfl zc zc zc ?_)))
 refine RL.toArr runUnderlying76 rfl rfl (by first | decide | omega) ?_
 refine RL.loadP (off:=0) isAgg76 sizeOf76 rfl rfl (cs:=bytes (macCode k (joined qs))) mQ (by simp [macCode_len]) ?_
 refine RL.sq sizeOf76 rfl ?_
 refine RL.ns (CW.rr ?_)
 rw [show ((bytes (macCode k (joined qs))).drop 0).take 16=bytes (macTag k (joined qs)) by rw [List.drop_zero,macTag,bytes_take]]
 exact RQ.pp (resW rfl rfl isAgg76 sizeOf76 mQ (by first | rfl | assumption | (simp only [List.length_map];assumption) | (simp only [List.length_map,List.length_replicate,padK_len,padB_len,sha_length,dig_length,macCode_len,macTag_len];done) | (simp;done))) (Split.nn _) ⟨rfl,rfl,rfl⟩
theorem rtag_any (k:List B8) (hk:k.length=32) (q:Option Addr) (m cap:Nat) (b:List B8) (hm:b.length=m) (hb:m≤100000000):
  Spc prog 96 #[.agg (bytes k).toArray, .slice q m cap] [sls q 1 m (bytes b)] [] (Is (.agg (bytes (macTag k b)).toArray)):=by
 refine Spc.en func96 rfl rfl (fun w0 hw0=> ?_)
 refine CW.sg [0,1] [] (RL.box rfl ?_)
 intro b1
 refine RL.al zeroValue76 rfl ?_
 intro b2
 refine RL.ns (CW.sg [3,4] [4] (RL.sliceAll runUnderlying31 sizeOf5 zc rfl ?_))
 refine RL.p rfl (RL.vv (rcode_n (some ⟨b1,0,none⟩) 32 32 k hk zc q m cap b hm hb) call137 rfl (Lend.all mQ (by simp [hk]) (Lend.many (fun _ h=> h))) ?_)
 refine RL.al (cs:=List.replicate 32 (U8 0#8)) zeroValue270 rfl ?_
 intro b3
 refine RL.sq sizeOf270 rfl ?_
 refine RL.ns (CW.ok [4,5] rfl (CW.sg [1,2] [2] (RL.buildA _ zeroValue76 runUnderlying76 sizeOf5 rfl (RL.al zeroValue76 rfl ?_))))
 intro b4
 refine RL.sq sizeOf76 rfl ?_
 refine RL.ns (CW.ss (CW.sr (RL.pn rfl (CW.bb ?_))))
 refine CW.loop (γ:=Nat) (fun i=> i≤16) (fun i=> [(4, .pointer (some ⟨b2,0,none⟩)),(5, .pointer (some ⟨b3,0,none⟩)),(6, .pointer (some ⟨b4,0,none⟩)),(7, .int .i64 (i:Int))]) (fun _=> [])
  (fun i=> [cel b4 ((bytes (macTag k b)).take i++(List.replicate 16 (U8 0#8)).drop i) 76,cel b3 (bytes (macCode k b)) 270,cel b2 (List.replicate 16 (U8 0#8)) 76]) (fun i=> 16 - i) 0 zb
  sE (fun _ h=> h.rea (fun _ h=> by cases h) rE) ?_
 intro i hi
 have l1:=macTag_len k b
 have l2:=macCode_len k b
 refine CW.ss (CW.s1 rfl ?_)
 refine CW.cd rfl (fun hlt=> ?_) (fun hlt=> ?_)
 ·
  refine CW.sn (CW.ss (CW.bb (CW.rn (ef:= [5]) (bk:= [5]) (RL.q rfl ?_))))
  have hlt:i < 16:=by simp at hlt;omega
  have g1:(bytes (macCode k b))[0+i*1]? =some (U8 ((macCode k b).getD i 0)):=by rw [Nat.zero_add,Nat.mul_one];exact bytes_get zb
  have g2:(bytes (macTag k b))[i]? =some (U8 ((macCode k b).getD i 0)):=by
   rw [macTag,←bytes_take,List.getElem?_take,if_pos hlt];exact bytes_get zb
  refine RL.iA (j:=i) runUnderlying270 sizeOf5 rfl zb ?_
  refine RL.lq isAgg5 rfl ?_
  refine RL.iA (j:=i) runUnderlying76 sizeOf5 rfl hlt (RL.sX (cs':=(bytes (macTag k b)).take (i+1)++(List.replicate 16 (U8 0#8)).drop (i+1)) (vs:= [_]) (spl_mix (by simp [macTag_len]) g2) sizeOf5 rfl rfl uE (by simp [macTag_len];omega) ?_)
  refine RL.ee (NQ.bb (NQ.ss (CW.ok [4,5,6,7] rfl (CW.rg (RL.p rfl (RL.bx rfl (wrapV_i64 zb zb) ?_))))))
  refine RL.p rfl (RL.ee ?_)
  exact NQ.rr (g:=i) (i+1) hlt zb sE (fun _ h=> h)
 ·
  have hi16:i=16:=by simp at hlt;omega
  subst hi16
  rw [List.take_of_length_le (by simp [macTag_len]),List.drop_of_length_le zm,List.append_nil]
  refine CW.xx (XQ.ss (XQ.ss (XQ.hh (NQ.ss (CW.sg [1] [1] (RL.lW isAgg76 sizeOf76 rfl mQ (by first | rfl | assumption | (simp only [List.length_map];assumption) | (simp only [List.length_map,List.length_replicate,padK_len,padB_len,sha_length,dig_length,macCode_len,macTag_len];done) | (simp;done)) ?_))))))
  refine RL.sq sizeOf76 rfl ?_
  refine RL.ns (CW.ok [4] rfl (CW.rr ?_))
  exact RQ.pp (resW rfl rfl isAgg76 sizeOf76 mQ (by first | rfl | assumption | (simp only [List.length_map];assumption) | (simp only [List.length_map,List.length_replicate,padK_len,padB_len,sha_length,dig_length,macCode_len,macTag_len];done) | (simp;done))) (Split.nn _) ⟨rfl,rfl,rfl⟩
theorem sls_some {p:Option Addr} {n:Nat} (h:p=none→n=0) (hn:n≠0):∃a,p=some a:=by
 cases p with
 | none=> exact absurd (h rfl) hn
 | some a=> exact ⟨a,rfl⟩
theorem zo {p:Prop} (h:p:=by first | rfl | assumption | (simp only [List.length_map];assumption) | (simp only [List.length_map,List.length_replicate,padK_len,padB_len,sha_length,dig_length,macCode_len,macTag_len];done) | (simp;done)):p:=h
end Go.Proofs.YtkineolcmdecjaaGreat
