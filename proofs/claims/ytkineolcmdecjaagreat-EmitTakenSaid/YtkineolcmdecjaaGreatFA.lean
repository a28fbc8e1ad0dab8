import Derived.Test.YtkineolcmdecjaaGreatBA
import Derived.Test.YtkineolcmdecjaaGreatKindMath
import Derived.Test.YtkineolcmdecjaaGreatConcatB
import Derived.Test.YtkineolcmdecjaaGreatMA
import Derived.Test.YtkineolcmdecjaaGreatCB
namespace Go.Proofs.YtkineolcmdecjaaGreat
open Go.PK
open Tryz
def OwnM (n:Nat) (l:List B8):Value→List It→List It→Prop:=fun v I' H'=> ∃b,v= .slice (some ⟨b,0,none⟩) n n∧I'= []∧H'= [cel b (bytes l) 5]
theorem mk_step {l:List B8} {i n:Nat} (hi:i < n) {v:B8} (hl:l.length=n) (hv:l[i]? =some v):spl (bytes (l.take i)++List.replicate (n - i) (U8 0#8)) (0+i*1) [U8 v]=bytes (l.take (i+1))++List.replicate (n - (i+1)) (U8 0#8):=by
 have e:(bytes (l.take i)).length=i:=by rw [List.length_map,List.length_take];omega
 have h:=spl_snoc (z:=U8 0#8) (v:=U8 v) (k:=n - (i+1)) (bytes (l.take i))
 rw [e] at h
 rw [show 0+i*1=i by omega,show n - i=n - (i+1)+1 by omega,h]
 have hlt:i < l.length:=by omega
 rw [List.getElem?_eq_getElem hlt,Option.some.injEq] at hv
 rw [List.take_succ_eq_append_getElem hlt,hv]
 simp
theorem fnum_any (N n:Nat) (h0:0 < n) (hn:n≤8):Spc prog 151 #[.int .u64 (N:Int), .int .i64 (n:Int)] [] [] (OwnM n (beN n N)):=by
 refine Spc.en func151 rfl rfl (fun w0 hw0=> ?_)
 refine CW.sr (RL.pn rfl (CW.sg [1] [] (RL.p rfl (RL.makeSlice (len:=n) (zs:= [U8 0#8]) runUnderlying74 sizeOf5 (ii:=Tryz.t5) zi zeroValue5 rfl rfl zc h0 (by show n*1≤1000000;omega) zb rfl rfl rfl rfl rfl rfl ?_))))
 intro b1
 rw [reps_one]
 refine RL.pn rfl (CW.ss (CW.sr (RL.p rfl (RL.lenS runUnderlying74 rfl (RL.pn rfl (CW.bb ?_))))))
 refine CW.loop (γ:=Nat) (fun i=> i≤n) (fun i=> [(0, .int .u64 (N:Int)),(1, .int .i64 (n:Int)),(5, .slice (some ⟨b1,0,none⟩) n n),(10, .int .i64 (n:Int)),(11, .int .i64 (i:Int))]) (fun _=> [])
  (fun i=> [cel b1 (bytes ((beN n N).take i)++List.replicate (n - i) (U8 0#8)) 5]) (fun i=> n - i) 0 zm sE (fun w h=> h) ?_
 intro i hi
 refine CW.sr (RL.pn rfl (CW.ss ?_))
 refine CW.cd rfl (fun hlt=> ?_) (fun hlt=> ?_)
 ·
  refine CW.sn (CW.ss (CW.bb (CW.s1 rfl (CW.rn (ef:= [11]) (bk:= [11]) (RL.q rfl (RL.p rfl ?_))))))
  refine RL.p rfl (RL.bx rfl (wrapV_i64 zb zb) ?_)
  refine RL.p rfl (RL.bx rfl (wrapV_i64 zb zb) ?_)
  refine RL.bx rfl (wrapV_i64 zb zb) ?_
  have hlt:i < n:=by simp at hlt;omega
  refine RL.shr (8*(n - 1 - i)) rfl zb (by show 8*(n - 1 - i)≤64;omega) ?_
  refine RL.conv runUnderlying32 runUnderlying5 rfl (RL.ix (j:=i) runUnderlying74 sizeOf5 rfl hlt ?_)
  rw [byteA]
  refine RL.sX (vs:= [_]) (mk_step (l:=beN n N) hlt (beN_length _ _) (by rw [beN_get n N i hlt,Nat.pow_mul])) sizeOf5 rfl rfl uE (by simp [beN_length];omega) ?_
  refine RL.ee (NQ.bb (NQ.ss (CW.ok [0,1,5,10,11] rfl (CW.rg (RL.bx rfl (wrapV_i64 zb zb) ?_)))))
  refine RL.p rfl (RL.ee ?_)
  refine NQ.rr (g:=i) (i+1) hlt (by show n - (i+1) < n - i;omega) sE (fun w h=> h)
 ·
  refine CW.xx (XQ.ss (XQ.ss (XQ.hh (NQ.ss (CW.s1 rfl (CW.ok [4] rfl (CW.rr ?_)))))))
  have hin:i=n:=by simp at hlt;omega
  subst hin
  rw [Nat.sub_self,List.replicate_zero,List.append_nil,List.take_of_length_le (by rw [beN_length];exact Nat.le_refl _)]
  exact RQ.pp (res1 rfl rfl) (.keep .nil) ⟨b1,rfl,rfl,rfl⟩
theorem num13 (N n:Nat) (hN:N < 18446744073709551616) (hn:n≤8):Spc prog 138 #[.int .u64 (N:Int), .int .i64 (n:Int)] [] [] (OwnB (beN n N)):=by
 refine Spc.en func138 rfl rfl (fun w0 hw0=> ?_)
 refine CW.sr (RL.pn rfl (CW.sg [0] [] (RL.buildOwn [] runUnderlying74 sizeOf5 zeroValue5 rfl rfl zc zc rfl zc rfl ?_)))
 intro b1
 refine RL.pn rfl (CW.ss (CW.sr (RL.pn rfl (CW.bb ?_))))
 refine CW.loop (γ:=Nat×Option Nat×Nat) (fun g=> g.1≤n∧(g.1=0∨g.2.1.isSome=true)) (fun g=> [(0, .int .u64 ((N / 256^g.1:Nat):Int)),(1, .int .i64 (n:Int)),(5,slO g.2.1 g.1 g.2.2),(6, .int .i64 (g.1:Int))]) (fun _=> [])
  (fun g=> [own g.2.1 g.2.2 5 1 g.1 (bytes (beN g.1 N))]) (fun g=> n - g.1) (0,some b1,0) zm
  (.cons (by simp;rfl) sE) (fun w h=> h) ?_
 rintro ⟨i,ob',c'⟩ ⟨hi,ho⟩
 dsimp only at hi ho ⊢
 refine CW.ss (CW.sr (RL.p rfl (RL.qn rfl ?_)))
 refine CW.cd rfl (fun hlt=> ?_) (fun hlt=> ?_)
 ·
  refine CW.sn (CW.ss (CW.bb (CW.sg [3,5] [5] (RL.p rfl (RL.rem rfl zc ?_)))))
  refine RL.lowest runUnderlying32 runUnderlying5 rfl (RL.buildOwn [_] runUnderlying74 sizeOf5 zeroValue5 rfl rfl zc zc rfl zc rfl ?_)
  intro b2
  refine RL.p rfl (RL.appendq el_74 rfl ?_)
  intro ob1 cap1 ho1
  refine RL.pn rfl (CW.ok [0,1,5,6] rfl (CW.rg (RL.p rfl ?_)))
  have hlt:i < n:=by simp at hlt;omega
  refine RL.quoX (v':= .int .u64 ((N / 256^(i+1):Nat):Int)) rfl zc (quoA _ _ hN) ?_
  refine RL.p rfl (RL.ee (NQ.bb (NQ.ss (CW.rg (RL.p rfl (RL.bx rfl (wrapV_i64 zb zb) ?_))))))
  refine RL.p rfl (RL.ee ?_)
  refine NQ.rr (g:=(i,ob',c')) (i+1,ob1,cap1) ⟨hlt,by rw [Nat.add_comm] at ho1;exact ho1⟩ (by show n - (i+1) < n - i;omega) (.cons rfl (.cons rfl (.cons (by rw [Nat.add_comm i 1];rfl) sE))) (fun w h=> ?_)
  rw [own_is (ob:=ob1) (n':=i+1) (xs':=bytes (beN (i+1) N)) zb (by rw [beN_cons,←lowA];rfl)] at h
  exact h.rea (fun _ h=> h) rE
 ·
  refine CW.xx (XQ.ss (XQ.ss (XQ.hh (NQ.ss (CW.ok [5] rfl (CW.s1 rfl (CW.rr ?_)))))))
  have hi8:i=n:=by simp at hlt;omega
  subst hi8
  rw [own_is (ob:=ob') (n':=(beN i N).length) (xs':=bytes (beN i N)) (beN_length _ _).symm rfl]
  exact RQ.pp (res1 rfl rfl) (.keep .nil) ⟨ob',c',by rw [beN_length],rfl,rfl,by rw [beN_length];exact ho⟩
def Fr.signed (f:Fr):List B8:= [BitVec.ofInt 8 f.kd,BitVec.ofInt 8 f.sr]++(beN 4 f.ep++(beN 8 f.ct++(f.b++ [])))
theorem signed_len (f:Fr):f.signed.length=14+f.b.length:=by simp [Fr.signed,beN_length];omega
def OwnT (l:List B8):Value→List It→List It→Prop:=fun v I' H'=> ∃ob cap,v=slO ob l.length cap∧I'= []∧H'= [own ob cap 5 1 l.length (bytes l)]∧True
theorem concatT (pp:Option Addr) (cap n:Nat) (ps:List Part) (l:List B8) (hn:ps.length=n) (hnb:n≤1000000) (hj:joined ps=l) (hb:l.length≤1000000):
  Spc prog 148 #[.slice pp n cap] (sls pp 1 n (ps.map Part.v)::ps.map Part.i) [] (OwnT l):=fun w hw=> by
 subst hj
 refine (concatB_any pp cap n ps hn hnb hb w hw).mono ?_
 rintro e w' ⟨v,I',H',he,⟨ob,c,rfl,rfl,rfl⟩,h⟩
 exact ⟨_,_,_,he,⟨ob,c,rfl,rfl,rfl,trivial⟩,h⟩
theorem fnumO (N n:Nat) (h0:0 < n) (hn:n≤8) (v:Int) (hv:v=(N:Int)):Spc prog 151 #[.int .u64 v, .int .i64 (n:Int)] [] [] (OwnN n (beN n N)):=fun w hw=> by
 subst hv
 refine (fnum_any N n h0 hn w hw).mono ?_
 rintro e w' ⟨v,I',H',he,⟨b,rfl,rfl,rfl⟩,hk,hs,h1,h2⟩
 refine ⟨_,_,_,he,⟨some b,n,rfl,rfl,rfl, .inr rfl⟩,hk,⟨zm,fun x hx=> ?_,by simp [own],zm⟩,fun c hc=> h1 c hc,zm⟩
 rw [List.mem_singleton.1 hx]
 exact cel_own (by simp [beN_length]) (by unfold maxLen;omega) w' (hs.h _ (List.Mem.head _))
theorem w64_id {n:Nat} (h:n < 18446744073709551616):IntKind.u64.wrap (n:Int)=(n:Int):=by simp [IntKind.wrap,IntKind.bits,IntKind.signed];omega
theorem signed_any (f:Fr) (p:Option Addr) (c n:Nat) (hf:f.Ok) (hn:f.b.length=n) (hb:n≤900000):Spc prog 112 #[.agg (f.cells (.slice p n c)).toArray] [sls p 1 n (bytes f.b)] [] (OwnT f.signed):=by
 subst hn
 have hl:=fr_len hf.tag (.slice p f.b.length c)
 refine Spc.en func112 rfl rfl (fun w0 hw0=> ?_)
 refine CW.sg [0] [] (RL.box rfl ?_)
 intro b1
 refine RL.pn rfl (CW.ss (CW.fP (A:= [_]) (B:= []) (.take .nil) rfl (CW.rD (.cons 0 (.cons 1 (.cons 2 (.cons 3 (.cons 4 (.cons 5 (.cons 7 (.cons 8 (.cons 9 (.cons 11 (.cons 12 (.cons 14 (.cons 15 (.fork [6,10] (fun k=> (bif Nat.beq k 6 then (Sq.of [10,13,16,17,18]) else (.fork [6,13] (fun k=> (bif Nat.beq k 6 then (Sq.of [13,16,17,18]) else (Sq.of [6,16,17,18])))))))))))))))))))) [6,10,13,16,17] [] (rg 0 5++[7,8,9,11,12,14,15,18]) mixed zi ?_)))
 refine RL.fa fa_78_0 rfl (RL.lT isAgg3 rfl ?_)
 refine RL.lowest runUnderlying3 runUnderlying5 rfl (RL.fa fa_78_1 rfl (RL.lT isAgg3 rfl ?_))
 refine RL.lowest runUnderlying3 runUnderlying5 rfl (RL.fa fa_78_2 rfl (RL.lT isAgg61 rfl ?_))
 refine RL.conv runUnderlying61 runUnderlying32 rfl (RL.fa fa_78_3 rfl (RL.lT isAgg32 rfl ?_))
 refine RL.fa fa_78_4 rfl (RL.lT isAgg74 rfl ?_)
 refine RL.fork ⟨?_, ?_,trivial⟩
 ·
  refine RL.buildSlice [_,_] runUnderlying74 sizeOf5 zeroValue5 rfl rfl zc zc rfl rfl ?_
  intro b2
  refine RL.cq (fnumO f.ep 4 zc zc _ (w64_id (by have:=hf.ep;omega))) call151 rfl (.inl rfl) ?_
  rintro _ _ _ ⟨ob1,cap1,rfl,rfl,rfl,ho1⟩
  refine RL.cq (fnumO f.ct 8 zc zc _ rfl) call151 rfl (.inl rfl) ?_
  rintro _ _ _ ⟨ob2,cap2,rfl,rfl,rfl,ho2⟩
  refine RL.buildSlice [_,_,_,_] runUnderlying161 sizeOf74 zeroValue74 rfl rfl zc zc rfl rfl ?_
  intro b3
  refine RL.cc (concatT (some ⟨b3,0,none⟩) 4 4 [⟨some ⟨b2,0,none⟩,2, [BitVec.ofInt 8 f.kd,BitVec.ofInt 8 f.sr]⟩,⟨ob1.map fun b=> ⟨b,0,none⟩,cap1,beN 4 f.ep⟩,⟨ob2.map fun b=> ⟨b,0,none⟩,cap2,beN 8 f.ct⟩,⟨p,c,f.b⟩] f.signed rfl zc rfl (by rw [signed_len];omega)) call148 rfl pE (Lend.allX mQ rfl rfl (Lend.all mQ rfl (Lend.own mQ (Lend.own mQ (.inI zm .nil))))) (.inl rfl) ?_
  rintro _ _ _ ⟨ob3,cap3,rfl,rfl,rfl,ho3⟩
  refine RL.pn rfl (CW.ok [2] rfl (CW.rr ?_))
  exact RQ.pp (res1 rfl rfl) (.keep (Split.nn _)) ⟨ob3,cap3,rfl,rfl,rfl,trivial⟩
 ·
  refine RL.cq (fnumO f.ep 4 zc zc _ (w64_id (by have:=hf.ep;omega))) call151 rfl (.inl rfl) ?_
  rintro _ _ _ ⟨ob1,cap1,rfl,rfl,rfl,ho1⟩
  refine RL.fork ⟨?_, ?_,trivial⟩
  ·
   refine RL.buildSlice [_,_] runUnderlying74 sizeOf5 zeroValue5 rfl rfl zc zc rfl rfl ?_
   intro b2
   refine RL.cq (fnumO f.ct 8 zc zc _ rfl) call151 rfl (.inl rfl) ?_
   rintro _ _ _ ⟨ob2,cap2,rfl,rfl,rfl,ho2⟩
   refine RL.buildSlice [_,_,_,_] runUnderlying161 sizeOf74 zeroValue74 rfl rfl zc zc rfl rfl ?_
   intro b3
   refine RL.cc (concatT (some ⟨b3,0,none⟩) 4 4 [⟨some ⟨b2,0,none⟩,2, [BitVec.ofInt 8 f.kd,BitVec.ofInt 8 f.sr]⟩,⟨ob1.map fun b=> ⟨b,0,none⟩,cap1,beN 4 f.ep⟩,⟨ob2.map fun b=> ⟨b,0,none⟩,cap2,beN 8 f.ct⟩,⟨p,c,f.b⟩] f.signed rfl zc rfl (by rw [signed_len];omega)) call148 rfl pE (Lend.allX mQ rfl rfl (Lend.all mQ rfl (Lend.own mQ (Lend.own mQ (.inI zm .nil))))) (.inl rfl) ?_
   rintro _ _ _ ⟨ob3,cap3,rfl,rfl,rfl,ho3⟩
   refine RL.pn rfl (CW.ok [2] rfl (CW.rr ?_))
   exact RQ.pp (res1 rfl rfl) (.keep (Split.nn _)) ⟨ob3,cap3,rfl,rfl,rfl,trivial⟩
  ·
   refine RL.cq (fnumO f.ct 8 zc zc _ rfl) call151 rfl (.inl rfl) ?_
   rintro _ _ _ ⟨ob2,cap2,rfl,rfl,rfl,ho2⟩
   refine RL.buildSlice [_,_] runUnderlying74 sizeOf5 zeroValue5 rfl rfl zc zc rfl rfl ?_
   intro b2
   refine RL.buildSlice [_,_,_,_] runUnderlying161 sizeOf74 zeroValue74 rfl rfl zc zc rfl rfl ?_
   intro b3
   refine RL.cc (concatT (some ⟨b3,0,none⟩) 4 4 [⟨some ⟨b2,0,none⟩,2, [BitVec.ofInt 8 f.kd,BitVec.ofInt 8 f.sr]⟩,⟨ob1.map fun b=> ⟨b,0,none⟩,cap1,beN 4 f.ep⟩,⟨ob2.map fun b=> ⟨b,0,none⟩,cap2,beN 8 f.ct⟩,⟨p,c,f.b⟩] f.signed rfl zc rfl (by rw [signed_len];omega)) call148 rfl pE (Lend.allX mQ rfl rfl (Lend.all mQ rfl (Lend.own mQ (Lend.own mQ (.inI zm .nil))))) (.inl rfl) ?_
   rintro _ _ _ ⟨ob3,cap3,rfl,rfl,rfl,ho3⟩
   refine RL.pn rfl (CW.ok [2] rfl (CW.rr ?_))
   exact RQ.pp (res1 rfl rfl) (.keep (Split.nn _)) ⟨ob3,cap3,rfl,rfl,rfl,trivial⟩
theorem rsigned_any (f:Fr) (p:Option Addr) (c n:Nat) (hf:f.Ok) (hn:f.b.length=n) (hb:n≤900000):Spc prog 97 #[.agg (f.cells (.slice p n c)).toArray] [sls p 1 n (bytes f.b)] [] (OwnN (14+n) f.signed):=by
 have hl:=fr_len hf.tag (.slice p n c)
 refine Spc.en func97 rfl rfl (fun w0 hw0=> ?_)
 refine CW.sg [0] [] (RL.box rfl ?_)
 intro b1
 refine RL.pn rfl (CW.ss (CW.fP (A:= [_]) (B:= []) (.take .nil) rfl (CW.rn (ef:= [6]) (bk:= []) (RL.fa fa_78_0 rfl (RL.lq isAgg3 rfl ?_)))))
 refine RL.lowest runUnderlying3 runUnderlying5 rfl (RL.fa fa_78_1 rfl (RL.lq isAgg3 rfl ?_))
 refine RL.lowest runUnderlying3 runUnderlying5 rfl (RL.buildOwn [_,_] runUnderlying74 sizeOf5 zeroValue5 rfl rfl zc zc rfl zc rfl ?_)
 intro b2
 refine RL.pn rfl (CW.ok [1,3] rfl (CW.ss (CW.rD (Sq.of [0,1,2,3,6,7,4,5,8,9,10]) [4,5,8,9] [5,9] [0,1,2,3,6,7,10] mixed zi ?_)))
 refine RL.p rfl (RL.fa fa_78_2 rfl (RL.lT isAgg61 rfl ?_))
 refine RL.conv runUnderlying61 runUnderlying32 rfl (RL.fa fa_78_3 rfl (RL.lT isAgg32 rfl ?_))
 refine RL.cq (((w64_id (n:=f.ep) (by have:=hf.ep;omega)).symm▸OwnB.n (n:=4) rfl (num13 f.ep 4 (by have:=hf.ep;omega) zc))) call138 rfl (.inl rfl) ?_
 rintro _ _ _ ⟨ob1,cap1,rfl,rfl,rfl,ho1⟩
 refine RL.appendq el_74 rfl ?_
 intro ob2 cap2 ho2
 refine RL.cq (OwnB.n (n:=8) rfl (num13 f.ct 8 hf.ct zc)) call138 rfl (.inl rfl) ?_
 rintro _ _ _ ⟨ob3,cap3,rfl,rfl,rfl,ho3⟩
 refine RL.appendq el_74 rfl ?_
 intro ob4 cap4 ho4
 refine RL.pn rfl (CW.ok [1,3] rfl (CW.sg [3] [3] (RL.p rfl (RL.fa fa_78_4 rfl (RL.lq isAgg74 rfl ?_)))))
 refine RL.appendq el_74 rfl ?_
 intro ob5 cap5 ho5
 refine RL.pn rfl (CW.ok [2] rfl (CW.rr ?_))
 skip
 all_goals (rw [own_is (n':=14+n) (xs':=bytes f.signed) zb (by simp [Fr.signed])];exact RQ.pp (res1 rfl rfl) (.keep (Split.nn _)) ⟨_,_,rfl,rfl,rfl,zb⟩)
def Fr.sign (f:Fr) (k:List B8):Fr:= { f with tag:=macTag (deriveK k epochL f.ep) f.signed }
theorem sign_seg (f:Fr) (sl:Value):f.cells sl= [.int .i64 f.kd, .int .i64 f.sr, .int .u32 (f.ep:Int), .int .u64 (f.ct:Int),sl]++(bytes f.tag++ []):=by simp [Fr.cells]
theorem Fr.sign_ok {f:Fr} (h:f.Ok) (k:List B8):(f.sign k).Ok:=⟨h.ep,h.ct,macTag_len _ _⟩
theorem sign_any (f:Fr) (k:List B8) (p:Option Addr) (c n:Nat) (hk:k.length=32) (hf:f.Ok) (hn:f.b.length=n) (hb:n≤900000):Spc prog 101 #[.agg (bytes k).toArray, .agg (f.cells (.slice p n c)).toArray] [sls p 1 n (bytes f.b)] [] (Is (.agg ((f.sign k).cells (.slice p n c)).toArray)):=by
 have hl:=fr_len hf.tag (.slice p n c)
 have hl2:=fr_len (f.sign_ok hf k).tag (.slice p n c)
 have hsl:=signed_len f
 refine Spc.en func101 rfl rfl (fun w0 hw0=> ?_)
 refine CW.sg [0,1,2] [] (RL.box rfl ?_)
 intro b1
 refine RL.box rfl ?_
 intro b2
 refine RL.al zeroValue78 rfl ?_
 intro b3
 refine RL.ns (CW.ss (CW.rD (Sq.of (rg 0 10)) [6,7,10] [10] [1,3,9] mixed zi ?_))
 refine RL.lS isAgg31 sizeOf31 rfl ?_
 refine RL.fa fa_78_2 rfl (RL.lq isAgg61 rfl ?_)
 refine RL.conv runUnderlying61 runUnderlying32 rfl (RL.vq (derive_w k hk epochL zc f.ep hf.ep) call140 rfl ?_)
 refine RL.lS isAgg78 sizeOf78 rfl ?_
 refine RL.cq (signed_any f p c n hf hn hb) call112 rfl (.inl rfl) ?_
 rintro _ _ _ ⟨ob1,cap1,rfl,rfl,rfl,ho1⟩
 refine RL.buildSlice [_] runUnderlying161 sizeOf74 zeroValue74 rfl rfl zc zc rfl rfl ?_
 intro b4
 refine RL.vv (tag_any (deriveK k epochL f.ep) (derive_len _ _ _) (some ⟨b4,0,none⟩) 1 1 [⟨ob1.map fun b=> ⟨b,0,none⟩,cap1,f.signed⟩] rfl zc (by simp [joined];omega)) call110 rfl (Lend.allX mQ rfl rfl (Lend.own mQ .nil)) ?_
 refine RL.fa fa_78_5 rfl ?_
 rw [show joined [⟨ob1.map fun b=> ⟨b,0,none⟩,cap1,f.signed⟩]=f.signed by simp [joined]]
 refine RL.storeSeg (cs:=f.cells (.slice p n c)) (cs':=(f.sign k).cells (.slice p n c)) (vs:=bytes (macTag (deriveK k epochL f.ep) f.signed)) [.int .i64 f.kd, .int .i64 f.sr, .int .u32 (f.ep:Int), .int .u64 (f.ct:Int), .slice p n c] (bytes f.tag) [] sizeOf76 rfl (ones_map one8 _) (sign_seg f _) (by rw [sign_seg];rfl) rfl (by rw [List.length_map,hf.tag]) (by rw [List.length_map,macTag_len]) uE ?_
 refine RL.ns (CW.ok [3,4] rfl (CW.sg [1] [1] (RL.lS isAgg78 sizeOf78 rfl ?_)))
 refine RL.sW sizeOf78 rfl (ones_fr _ rfl) uE hl2 rfl ?_
 refine RL.ns (CW.rr ?_)
 exact RQ.pp (resW rfl rfl isAgg78 sizeOf78 mQ hl2) (Split.nn _) ⟨rfl,rfl,rfl⟩
theorem rsign_any (f:Fr) (k:List B8) (p:Option Addr) (c n:Nat) (hk:k.length=32) (hf:f.Ok) (hn:f.b.length=n) (hb:n≤900000):Spc prog 130 #[.agg (bytes k).toArray, .agg (f.cells (.slice p n c)).toArray] [sls p 1 n (bytes f.b)] [] (Is (.agg ((f.sign k).cells (.slice p n c)).toArray)):=by
 have hl:=fr_len hf.tag (.slice p n c)
 have hl2:=fr_len (f.sign_ok hf k).tag (.slice p n c)
 have hsl:=signed_len f
 refine Spc.en func130 rfl rfl (fun w0 hw0=> ?_)
 refine CW.sg [0,1,2] [] (RL.box rfl ?_)
 intro b1
 refine RL.box rfl ?_
 intro b2
 refine RL.al zeroValue78 rfl ?_
 intro b3
 refine RL.ns (CW.ss (CW.rD (Sq.of (rg 0 9)) [6,9] [9] [1,3,8] mixed zi ?_))
 refine RL.lS isAgg31 sizeOf31 rfl ?_
 refine RL.fa fa_78_2 rfl (RL.lq isAgg61 rfl ?_)
 refine RL.conv runUnderlying61 runUnderlying32 rfl (RL.vq (rderive_w k hk epochL zc f.ep hf.ep) call136 rfl ?_)
 refine RL.lS isAgg78 sizeOf78 rfl ?_
 refine RL.cq (rsigned_any f p c n hf hn hb) call97 rfl (.inl rfl) ?_
 rintro _ _ _ ⟨ob1,cap1,rfl,rfl,rfl,ho1⟩
 refine RL.vv (rtag_any (deriveK k epochL f.ep) (derive_len _ _ _) (ob1.map fun b=> ⟨b,0,none⟩) (14+n) cap1 f.signed zb zb) call96 rfl (Lend.own mQ .nil) ?_
 refine RL.fa fa_78_5 rfl (RL.storeSeg (cs:=f.cells (.slice p n c)) (cs':=(f.sign k).cells (.slice p n c)) (vs:=bytes (macTag (deriveK k epochL f.ep) f.signed)) [.int .i64 f.kd, .int .i64 f.sr, .int .u32 (f.ep:Int), .int .u64 (f.ct:Int), .slice p n c] (bytes f.tag) [] sizeOf76 rfl (ones_map one8 _) (sign_seg f _) (by rw [sign_seg];rfl) rfl (by rw [List.length_map,hf.tag]) (by rw [List.length_map,macTag_len]) uE ?_)
 refine RL.ns (CW.ok [3,4] rfl (CW.sg [1] [1] (RL.lS isAgg78 sizeOf78 rfl ?_)))
 refine RL.sW sizeOf78 rfl (ones_fr _ rfl) uE hl2 rfl ?_
 refine RL.ns (CW.rr ?_)
 exact RQ.pp (resW rfl rfl isAgg78 sizeOf78 mQ hl2) (Split.nn _) ⟨rfl,rfl,rfl⟩
end Go.Proofs.YtkineolcmdecjaaGreat
