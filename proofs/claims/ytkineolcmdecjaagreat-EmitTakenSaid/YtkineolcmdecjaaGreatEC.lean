import Derived.Test.YtkineolcmdecjaaGreatEB
import Derived.Test.YtkineolcmdecjaaGreatUC
import Derived.Test.YtkineolcmdecjaaGreatS4
import Derived.Test.YtkineolcmdecjaaGreatEE
namespace Go.Proofs.YtkineolcmdecjaaGreat
open Go.PK
open Tryz
def gnssS (c:Cf):Sr×Bool:=pickS (fun s=> s.kd==5) c.L
def aft (ok:Bool) (N:Nat) (e:Int):Nat×Int:=if ok=true then (N,e) else (0,5)
def AfarV (c:Cf) (N:Nat) (e:Int):Value:= .tuple #[.agg (gnssS c).1.cells.toArray, .int .i64 ((aft (gnssS c).2 N e).1:Int), .int .i64 (aft (gnssS c).2 N e).2]
theorem sch_seg (c:Cf) (sl:Value):∀(j:Nat) (u:Value), [Value.int .i64 c.sc.st, .int .i64 c.sc.ln, .int .i64 c.sc.lg, .int .i64 c.sc.of][j]? =some u→(c.cells sl)[0+0+5+j]? =some u:=fun j u hj=> by
 rcases j with _ | _ | _ | _ | j <;> first | exact hj | (exfalso;simp at hj)
theorem crw_sc {z:Crw} (h:z.c.cm.length=32):∀(j:Nat) (u:Value), [Value.int .i64 z.c.sc.st, .int .i64 z.c.sc.ln, .int .i64 z.c.sc.lg, .int .i64 z.c.sc.of][j]? =some u→z.cells[0+0+5+j]? =some u:=fun j u hj=> by
 have:=crw_c h (0+0+5+j) u (sch_seg z.c _ j u hj)
 rwa [Nat.zero_add] at this
theorem afarAt (z:Crw) (hc:z.c.Fit) (hn:z.c.L.length≤12) (t:Int) (N:Nat) (e:Int) (hN:N < 4294967296) (hof:Spc prog 59 #[.agg #[.int .i64 z.c.sc.st, .int .i64 z.c.sc.ln, .int .i64 z.c.sc.lg, .int .i64 z.c.sc.of], .int .i64 t] [] [] (Is (.tuple #[.int .u32 (N:Int), .int .i64 e]))):
  Spc prog 58 #[.pointer (some ⟨z.b,0,none⟩), .int .i64 t, .func (.func 59) #[] #[]] [crwC z,crwR z] [] (Is (AfarV z.c N e)):=by
 have h45:=cf_len hc.cm (slO z.sp z.c.L.length z.sc)
 have hfd:=cof_any z.c z.sp z.sc _ 5 rfl hc zb
 have hfit:=pickS_fit (p:=fun s:Sr=> s.kd==5) hc.L
 have h48:=sr_len hfit.rt
 rw [AfarV,gnssS]
 generalize pickS (fun s:Sr=> s.kd==5) z.c.L=g at hfd hfit h48 ⊢
 obtain ⟨s,ok⟩:=g
 dsimp only at hfit h48 ⊢
 refine Spc.en func58 rfl rfl (fun w0 hw0=> ?_)
 refine CW.sg [0] [] (RL.al zeroValue122 rfl ?_)
 intro b1
 refine RL.qn rfl (CW.s2 ?_)
 refine CW.gI (fun J hJ=> ?_)
 have mC:crwC z∈J:=hJ _ zm
 have mR:crwR z∈J:=hJ _ zm
 clear hJ
 have fC:RdsN J ⟨z.b,0+0,none⟩ 45 (z.c.cells (slO z.sp z.c.L.length z.sc)):=RdsN.told mC (crw_c hc.cm) h45
 have fS:RdsN J ⟨z.b,0+0+5,none⟩ 4 [.int .i64 z.c.sc.st, .int .i64 z.c.sc.ln, .int .i64 z.c.sc.lg, .int .i64 z.c.sc.of]:=RdsN.told mC (crw_sc hc.cm) rfl
 refine CW.rg (RL.p rfl (RL.vv (eis_any z hc.cm) call50 rfl (.inI mC .nil) (RL.pn rfl (CW.cF rfl (rfl) (CW.sn (CW.sg [8,9] [9] (RL.q rfl (RL.fa fa_93_0 rfl ?_))))))))
 refine RL.lS isAgg34 sizeOf34 rfl ?_
 refine RL.vv (hfd) call102 rfl (Lend.ownI mR .nil) (RL.q rfl (RL.p rfl (RL.al zeroValue122 rfl ?_)))
 intro b2
 refine RL.sW sizeOf122 rfl (sr_ones s) uE h48 rfl ?_
 refine RL.pn rfl (CW.ok [0,1,2,6,9,10] rfl (CW.ss (CW.s1 rfl ?_)))
 cases ok with
 | false=>
  refine CW.cT rfl (rfl) (CW.sg [1] [1] (RL.lW isAgg122 sizeOf122 rfl mQ h48 ?_))
  refine RL.sW sizeOf122 rfl (sr_ones s) uE h48 rfl ?_
  refine RL.qn rfl (CW.rr (RQ.ss ?_))
  exact RQ.pp (resW3 rfl rfl rfl rfl isAgg122 sizeOf122 mQ h48) (Split.nn _) ⟨rfl,rfl,rfl⟩
 | true=>
  refine CW.cF rfl (rfl) (CW.sn (CW.sr (RL.q rfl (RL.p rfl (RL.fa fa_93_0 rfl (RL.fa fa_34_3 rfl (RL.lS isAgg29 sizeOf29 rfl ?_)))))))
  refine RL.p rfl (RL.callvF (hof) call59 rfl rfl rfl .nil (RL.q rfl (RL.p rfl (RL.qn rfl (CW.ok [6,9,11,12] rfl (CW.sg [4] [4] (RL.lW isAgg122 sizeOf122 rfl mQ h48 ?_)))))))
  refine RL.p rfl (RL.conv runUnderlying61 runUnderlying3 rfl (RL.p rfl (RL.sW sizeOf122 rfl (sr_ones s) uE h48 rfl ?_)))
  refine RL.qn rfl (CW.ok [6,7,8] rfl (CW.rr ?_))
  exact RQ.pp (resW3 rfl rfl rfl rfl isAgg122 sizeOf122 mQ h48) (Split.nn _) ⟨by rw [wrapV_i64 zb zb];rfl,rfl,rfl⟩
theorem afarDue (z:Crw) (hc:z.c.Fit) (hn:z.c.L.length≤12) (t:Int) (N:Nat) (e:Int) (hN:N < 4294967296) (hof:Spc prog 63 #[.agg #[.int .i64 z.c.sc.st, .int .i64 z.c.sc.ln, .int .i64 z.c.sc.lg, .int .i64 z.c.sc.of], .int .i64 t] [] [] (Is (.tuple #[.int .u32 (N:Int), .int .i64 e]))):
  Spc prog 58 #[.pointer (some ⟨z.b,0,none⟩), .int .i64 t, .func (.func 63) #[] #[]] [crwC z,crwR z] [] (Is (AfarV z.c N e)):=by
 have h45:=cf_len hc.cm (slO z.sp z.c.L.length z.sc)
 have hfd:=cof_any z.c z.sp z.sc _ 5 rfl hc zb
 have hfit:=pickS_fit (p:=fun s:Sr=> s.kd==5) hc.L
 have h48:=sr_len hfit.rt
 rw [AfarV,gnssS]
 generalize pickS (fun s:Sr=> s.kd==5) z.c.L=g at hfd hfit h48 ⊢
 obtain ⟨s,ok⟩:=g
 dsimp only at hfit h48 ⊢
 refine Spc.en func58 rfl rfl (fun w0 hw0=> ?_)
 refine CW.sg [0] [] (RL.al zeroValue122 rfl ?_)
 intro b1
 refine RL.qn rfl (CW.s2 ?_)
 refine CW.gI (fun J hJ=> ?_)
 have mC:crwC z∈J:=hJ _ zm
 have mR:crwR z∈J:=hJ _ zm
 clear hJ
 have fC:RdsN J ⟨z.b,0+0,none⟩ 45 (z.c.cells (slO z.sp z.c.L.length z.sc)):=RdsN.told mC (crw_c hc.cm) h45
 have fS:RdsN J ⟨z.b,0+0+5,none⟩ 4 [.int .i64 z.c.sc.st, .int .i64 z.c.sc.ln, .int .i64 z.c.sc.lg, .int .i64 z.c.sc.of]:=RdsN.told mC (crw_sc hc.cm) rfl
 refine CW.rg (RL.p rfl (RL.vv (eis_any z hc.cm) call50 rfl (.inI mC .nil) (RL.pn rfl (CW.cF rfl (rfl) (CW.sn (CW.sg [8,9] [9] (RL.q rfl (RL.fa fa_93_0 rfl ?_))))))))
 refine RL.lS isAgg34 sizeOf34 rfl ?_
 refine RL.vv (hfd) call102 rfl (Lend.ownI mR .nil) (RL.q rfl (RL.p rfl (RL.al zeroValue122 rfl ?_)))
 intro b2
 refine RL.sW sizeOf122 rfl (sr_ones s) uE h48 rfl ?_
 refine RL.pn rfl (CW.ok [0,1,2,6,9,10] rfl (CW.ss (CW.s1 rfl ?_)))
 cases ok with
 | false=>
  refine CW.cT rfl (rfl) (CW.sg [1] [1] (RL.lW isAgg122 sizeOf122 rfl mQ h48 ?_))
  refine RL.sW sizeOf122 rfl (sr_ones s) uE h48 rfl ?_
  refine RL.qn rfl (CW.rr (RQ.ss ?_))
  exact RQ.pp (resW3 rfl rfl rfl rfl isAgg122 sizeOf122 mQ h48) (Split.nn _) ⟨rfl,rfl,rfl⟩
 | true=>
  refine CW.cF rfl (rfl) (CW.sn (CW.sr (RL.q rfl (RL.p rfl (RL.fa fa_93_0 rfl (RL.fa fa_34_3 rfl (RL.lS isAgg29 sizeOf29 rfl ?_)))))))
  refine RL.p rfl (RL.callvF (hof) call63 rfl rfl rfl .nil (RL.q rfl (RL.p rfl (RL.qn rfl (CW.ok [6,9,11,12] rfl (CW.sg [4] [4] (RL.lW isAgg122 sizeOf122 rfl mQ h48 ?_)))))))
  refine RL.p rfl (RL.conv runUnderlying61 runUnderlying3 rfl (RL.p rfl (RL.sW sizeOf122 rfl (sr_ones s) uE h48 rfl ?_)))
  refine RL.qn rfl (CW.ok [6,7,8] rfl (CW.rr ?_))
  exact RQ.pp (resW3 rfl rfl rfl rfl isAgg122 sizeOf122 mQ h48) (Split.nn _) ⟨by rw [wrapV_i64 zb zb];rfl,rfl,rfl⟩
def Sch.aN (s:Sch) (t:Int):Nat:=if s.Ok∧tickB t=true then n32 (s.bg t) else 0
def Sch.dN (s:Sch) (t:Int):Nat:=if s.Ok∧tickB t=true then n32 (s.bg t - s.lg) else 0
def Sch.aE (s:Sch) (t:Int):Int:=if s.Ok∧tickB t=true then 0 else 2
theorem atV_eq (s:Sch) (t:Int):s.atV t= .tuple #[.int .u32 (s.aN t:Int), .int .i64 (s.aE t)]:=by
 unfold Sch.atV Sch.aN Sch.aE;split <;> rfl
theorem dueV_eq (s:Sch) (t:Int):s.dueV t= .tuple #[.int .u32 (s.dN t:Int), .int .i64 (s.aE t)]:=by
 unfold Sch.dueV Sch.dN Sch.aE;split <;> rfl
theorem aN_lt (s:Sch) (t:Int):s.aN t < 4294967296:=by
 unfold Sch.aN;split
 ·exact n32_lt _
 ·decide
theorem dN_lt (s:Sch) (t:Int):s.dN t < 4294967296:=by
 unfold Sch.dN;split
 ·exact n32_lt _
 ·decide
theorem aft_lt {ok:Bool} {N:Nat} {e:Int} (h:N < 4294967296):(aft ok N e).1 < 4294967296:=by
 unfold aft;split
 ·exact h
 ·decide
theorem Rds.lieK {I H:List It} {x:It} {b cap n i:Nat} {T:TypeId} {K:List (List B8)} {k:List B8} (hm:x∈H) (hl:Lies x (own (some b) cap T 32 n (flatK K))) (hK:∀k∈K,k.length=32) (hi:K[i]? =some k):Rds I H ⟨b,0+i*32,none⟩ (bytes k):=fun w hw=> by
 have h0:(own (some b) cap T 32 n (flatK K)).A w:=hl.A w (hw.h _ hm)
 have hs:Sat [] [own (some b) cap T 32 n (flatK K)] w:=⟨zm,by simpa using h0,by simp [PK.own],zm⟩
 exact own_rds (f:=bytes) (I:= []) (List.Mem.head _) hi (fun z hz=> by rw [List.length_map];exact hK z hz) w hs
theorem lie_k (z:Crw):Lies (crwI z) (crwK z):=Lies.allI (List.Mem.tail _ (List.Mem.tail _ (List.Mem.tail _ (List.Mem.tail _ (List.Mem.tail _ (List.Mem.head _))))))
theorem lie_r (z:Crw):Lies (crwI z) (crwR z):=Lies.allI (List.Mem.tail _ (List.Mem.tail _ (List.Mem.tail _ (List.Mem.tail _ (List.Mem.head _)))))
def farR (i:Nat) (q:B8) (p0 p1 p2:Int):Rdg:=⟨5,0,0,0,0,0,0,0,0,0,0,(i:Int),q,p0,p1,p2,fun _=> 0,0,0,0,0,0,0,0,0,0⟩
noncomputable def farF (c:Cf) (K:List (List B8)) (i:Nat) (q:B8) (p0 p1 p2:Int):Fr:=(⟨5,(gnssS c).1.id,0,i,putB (farR i q p0 p1 p2),List.replicate 16 0#8⟩:Fr).tsign (K.getD i []) i
def farE (z:Crw) (t:Int):Int:=if (aft (gnssS z.c).2 (z.c.sc.aN t) (z.c.sc.aE t)).2≠0 then (aft (gnssS z.c).2 (z.c.sc.aN t) (z.c.sc.aE t)).2 else if (aft (gnssS z.c).2 (z.c.sc.aN t) (z.c.sc.aE t)).1=0∨z.K.length≤(aft (gnssS z.c).2 (z.c.sc.aN t) (z.c.sc.aE t)).1 then 5 else 0
def SentQ (z:Crw) (T:List Snd) (f:Fr):Value→List It→List It→Prop:=fun v I' H'=> ∃rb rc bo bc so soc E',v= .tuple #[slO rb (frB f).length rc, .int .i64 0]∧I'= []∧H'= [crwI ((z.setT T).put ⟨f,bo,bc⟩ so soc E'),own rb rc 5 1 (frB f).length (bytes (frB f))]∧SOk E' (z.l++ [⟨f,bo,bc⟩])
def FarQ (z:Crw) (t:Int) (q:B8) (p0 p1 p2:Int):Value→List It→List It→Prop:=fun v I' H'=> (farE z t≠0∧ErrQ z (farE z t) v I' H')∨(farE z t=0∧SentQ z z.T (farF z.c z.K (z.c.sc.aN t) q p0 p1 p2) v I' H')
theorem gnss_id {z:Crw} (hz:z.Ok):0≤(gnssS z.c).1.id∧(gnssS z.c).1.id≤7:=by
 unfold gnssS pickS
 cases h:z.c.L.find? fun s=> s.kd==5 with
 | none=> exact ⟨zc,zc⟩
 | some s=> exact (hz.L s (List.mem_of_find?_eq_some h)).2
theorem cf_fit {z:Crw} (hz:z.Ok):z.c.Fit:=⟨hz.cm,fun s hs=> (hz.L s hs).1⟩
theorem fill_fr0 {kd sr ct:Int} {sl:Value} {places:Array (Nat×Nat)} (hs:sl.oneCell'=true) (hp:places= #[(0,1),(1,1),(2,1),(3,1),(4,1),(5,16)]):
  fillL (places[·]?) (fr0.cells (.slice none 0 0)) [(0, .int .i64 kd),(1, .int .i64 sr),(3, .int .u64 ct),(4,sl)]=some (.int .i64 kd:: .int .i64 sr:: .int .u32 0:: .int .u64 ct::sl::bytes (List.replicate 16 0#8)):=by
 subst hp
 refine fill_seg (vs:= [.int .i64 kd]) [] [.int .i64 0] (.int .i64 0:: .int .u32 0:: .int .u64 0:: .slice none 0 0::bytes (List.replicate 16 0#8)) rfl rfl rfl rfl rfl rfl ?_
 refine fill_seg (vs:= [.int .i64 sr]) [.int .i64 kd] [.int .i64 0] (.int .u32 0:: .int .u64 0:: .slice none 0 0::bytes (List.replicate 16 0#8)) rfl rfl rfl rfl rfl rfl ?_
 refine fill_seg (vs:= [.int .u64 ct]) [.int .i64 kd, .int .i64 sr, .int .u32 0] [.int .u64 0] (.slice none 0 0::bytes (List.replicate 16 0#8)) rfl rfl rfl rfl rfl rfl ?_
 refine fill_seg (vs:= [sl]) [.int .i64 kd, .int .i64 sr, .int .u32 0, .int .u64 ct] [.slice none 0 0] (bytes (List.replicate 16 0#8)) rfl (by rw [cells_one hs]) rfl rfl rfl rfl ?_
 simp [fillL]
theorem farR_ok {i:Nat} {q:B8} {p0 p1 p2:Int} (hi:i < 4294967296) (hp:wfk .i64 p0∧wfk .i64 p1∧wfk .i64 p2):(farR i q p0 p1 p2).Ok:=
 ⟨rfl,rfl,rfl,rfl,rfl,rfl,rfl,rfl,rfl,rfl,rfl,by simp only [farR,wfk,Lit.wf,IntKind.min,IntKind.max,IntKind.signed,IntKind.bits,Bool.and_eq_true,decide_eq_true_eq,Bool.false_eq_true,if_false];omega,hp.1,hp.2.1,hp.2.2,rfl,rfl,rfl,rfl,rfl,rfl⟩
theorem far_fit {z:Crw} (hz:z.Ok) {i:Nat} {q:B8} {p0 p1 p2:Int} (hi:i < 4294967296):(farF z.c z.K i q p0 p1 p2).Fit:=
 ⟨⟨by show 0 < 4294967296;decide,by show i < 18446744073709551616;omega,macTag_len _ _⟩,⟨by show (0:Int)≤5;decide,by show (5:Int)≤255;decide⟩,⟨(gnss_id hz).1,by have:=(gnss_id hz).2;show (gnssS z.c).1.id≤255;omega⟩,putB_len48 _⟩
theorem eFar_any (z:Crw) (t:Int) (q:B8) (p0 p1 p2:Int) (hp:wfk .i64 p0∧wfk .i64 p1∧wfk .i64 p2) (hz:z.Ok) (hm:z.l.length < 1000):Spc prog 21 #[.pointer (some ⟨z.b,0,none⟩), .int .i64 t,U8 q, .agg #[.int .i64 p0, .int .i64 p1, .int .i64 p2]] [] [crwI z] (FarQ z t q p0 p1 p2):=by
 have hsat:=sat_any z.c.sc t
 rw [atV_eq] at hsat
 have haf:=afarAt z (cf_fit hz) hz.n t _ _ (aN_lt _ _) hsat
 have hlt:=aft_lt (ok:=(gnssS z.c).2) (e:=z.c.sc.aE t) (aN_lt z.c.sc t)
 have hid:=gnss_id hz
 have hK1:=hz.K1
 have hrt:(gnssS z.c).1.rt.length=32:=(pickS_fit (cf_fit hz).L).rt
 have h48:=sr_len hrt
 have hE:farE z t=farE z t:=rfl
 conv at hE=> rhs;rw [farE]
 have hN:(aft (gnssS z.c).2 (z.c.sc.aN t) (z.c.sc.aE t)).2=0→(aft (gnssS z.c).2 (z.c.sc.aN t) (z.c.sc.aE t)).1=z.c.sc.aN t:=by
  unfold aft;split
  ·exact fun _=> rfl
  ·intro h;cases h
 rw [AfarV] at haf
 generalize aft (gnssS z.c).2 (z.c.sc.aN t) (z.c.sc.aE t)=g at haf hlt hE hN
 obtain ⟨n,e⟩:=g
 dsimp only at haf hlt hE hN
 refine Spc.en func21 rfl rfl (fun w0 hw0=> ?_)
 refine CW.sg [0] [] (RL.box rfl ?_)
 intro b1
 refine RL.qn rfl (CW.sg [7,8] [8] (RL.q rfl (RL.vv (haf) call58 rfl (Lend.lieO (lie_c z) mQ (Lend.lieO (lie_r z) mQ .nil)) ?_)))
 refine RL.q rfl (RL.q rfl (RL.al zeroValue122 rfl ?_))
 intro b2
 refine RL.sW sizeOf122 rfl (sr_ones (gnssS z.c).1) uE h48 rfl ?_
 refine RL.qn rfl (CW.ok [0,2,7,10,11,12] rfl (CW.ss (CW.bb (CW.sr (RL.p rfl (RL.qn rfl ?_))))))
 refine CW.cd rfl (fun h1=> ?_) (fun h1=> ?_)
 ·
  refine CW.sr (RL.p rfl (RL.qn rfl (CW.rr (RQ.bb (RQ.ss ?_)))))
  have h1:e≠0:=by simpa using h1
  rw [if_pos h1] at hE
  refine RQ.rea (fun _ h=> h) (H':= [crwI z]) rE ?_
  exact RQ.pp (res2 rfl rfl rfl) (.keep .nil) (.inl ⟨by rw [hE];exact h1,congrArg (fun e=> Value.tuple #[.slice none 0 0, .int .i64 e]) hE.symm,rfl,rfl⟩)
 ·
  refine CW.sr (RL.q rfl (RL.p rfl ?_))
  apply RL.orB (d:=31) (dp:=39) (l':=(Sq.of [11])) rfl (sK [0,2,7,10,11] rfl)
  ·
   intro hb3 K3
   refine RL.q rfl (RL.p rfl (RL.fa fa_93_1 rfl (RL.load isAgg89 rfl (Rd.lie mQ (lie_c z) (crw_k hz.cm)) ?_)))
   refine RL.lenS runUnderlying89 rfl (RL.q rfl ?_)
   exact K3 _ (.cons rfl (sK [0,2,7,10,11] rfl))
  ·
   intro hb3 K3
   refine RL.q rfl (RL.q rfl (RL.q rfl (RL.q rfl ?_)))
   exact K3 _ (.cons rfl (sK [0,2,7,10,11] rfl))
  refine RL.pn rfl ?_
  have h1:e=0:=by simpa using h1
  have hN:=hN h1
  rw [if_neg (by rw [h1];decide)] at hE
  refine CW.cd rfl (fun h2=> ?_) (fun h2=> ?_)
  ·
   refine CW.s1 rfl (CW.rr (RQ.bb (RQ.ss ?_)))
   rw [if_pos (by simp at h2;omega)] at hE
   refine RQ.rea (fun _ h=> h) (H':= [crwI z]) rE ?_
   exact RQ.pp (res2 rfl rfl rfl) (.keep .nil) (.inl ⟨by rw [hE];exact zc,congrArg (fun e=> Value.tuple #[.slice none 0 0, .int .i64 e]) hE.symm,rfl,rfl⟩)
  ·
   refine CW.kk (NQ.bb (NQ.ss (CW.sr (RL.p rfl (RL.conv runUnderlying3 runUnderlying61 rfl (RL.tt (d:=41) (v':= .int .u32 (n:Int)) rfl (wrapV_u32 zb zb) ?_))))))
   refine RL.pn rfl (CW.sg [4] [] (RL.q rfl (RL.lS isAgg27 sizeOf27 rfl ?_)))
   have h2:n≠0∧n < z.K.length:=by simp at h2;omega
   rw [if_neg zb] at hE
   have hx:=List.getElem?_eq_getElem h2.2
   have hd:z.K.getD n []=z.K[n]:=by rw [List.getD_eq_getElem?_getD,hx];rfl
   have hfit:=far_fit hz (i:=n) (q:=q) (p0:=p0) (p1:=p1) (p2:=p2) hlt
   have hF:farF z.c z.K n q p0 p1 p2=(⟨5,(gnssS z.c).1.id,0,n,putB (farR n q p0 p1 p2),List.replicate 16 0#8⟩:Fr).tsign z.K[n] n:=by rw [farF,hd]
   generalize z.K[n]=k at hx hF
   have hkl:=hz.K k (List.mem_of_getElem? hx)
   have hbl:=putB_len48 (farR n q p0 p1 p2)
   rw [hF] at hfit
   have hq:∀v I' H',SentQ z z.T ((⟨5,(gnssS z.c).1.id,0,n,putB (farR n q p0 p1 p2),List.replicate 16 0#8⟩:Fr).tsign k n) v I' H'→FarQ z t q p0 p1 p2 v I' H':=fun v I' H' h=> .inr ⟨hE,by rw [←hN,hF];exact h⟩
   refine RL.bS (farR n q p0 p1 p2).cells zeroValue69 pl_69 rfl (RL.cc (put_any (farR n q p0 p1 p2) (farR_ok hlt hp)) call60 rfl pE .nil (.inl rfl) ?_)
   rintro _ _ _ ⟨bo,bc,rfl,rfl,rfl⟩
   have hsg:=tsign_any k n ⟨5,(gnssS z.c).1.id,0,n,putB (farR n q p0 p1 p2),List.replicate 16 0#8⟩ (bo.map fun b=> ⟨b,0,none⟩) bc _ hkl hlt ⟨by show 0 < 4294967296;decide,by show n < 18446744073709551616;omega,rfl⟩ rfl (by show (putB (farR n q p0 p1 p2)).length≤900000;omega)
   have h21:=fr_len (f:=⟨5,(gnssS z.c).1.id,0,n,putB (farR n q p0 p1 p2),List.replicate 16 0#8⟩) rfl (slO bo (putB (farR n q p0 p1 p2)).length bc)
   have hput:=eput_any z ⟨(⟨5,(gnssS z.c).1.id,0,n,putB (farR n q p0 p1 p2),List.replicate 16 0#8⟩:Fr).tsign k n,bo,bc⟩ hz.cm (Nat.le_of_lt hm) hz.E hfit
   rw [show bodyO ⟨(⟨5,(gnssS z.c).1.id,0,n,putB (farR n q p0 p1 p2),List.replicate 16 0#8⟩:Fr).tsign k n,bo,bc⟩=own bo bc 5 1 (putB (farR n q p0 p1 p2)).length (bytes (putB (farR n q p0 p1 p2))) from rfl] at hput
   refine RL.q rfl (RL.p rfl (RL.qn rfl (CW.ok [0,10,11,13,14] rfl (CW.sg [6,7] [7] (RL.fa fa_122_0 rfl (RL.load isAgg3 rfl (Rd.get (v:= .int .i64 (gnssS z.c).1.id) mQ rfl) ?_))))))
   refine RL.p rfl (RL.conv runUnderlying61 runUnderlying32 rfl (RL.tt (d:=53) (v':= .int .u64 (n:Int)) rfl (wrapV_u64 zb zb) ?_))
   refine RL.p rfl (RL.bS ((⟨5,(gnssS z.c).1.id,0,n,putB (farR n q p0 p1 p2),List.replicate 16 0#8⟩:Fr).cells (slO bo (putB (farR n q p0 p1 p2)).length bc)) zeroValue78 pl_78 (qP rfl (qP rfl (fill_fr0 rfl rfl))) (RL.al zeroValue78 rfl ?_))
   intro b3
   refine RL.sW sizeOf78 rfl (ones_fr _ rfl) uE h21 rfl ?_
   refine RL.ns (CW.ok [0,11,13,16] rfl (CW.ss (CW.rea (fun _ h=> h) (H':= [crwI z,own bo bc 5 1 (putB (farR n q p0 p1 p2)).length (bytes (putB (farR n q p0 p1 p2))),cel b3 ((⟨5,(gnssS z.c).1.id,0,n,putB (farR n q p0 p1 p2),List.replicate 16 0#8⟩:Fr).cells (slO bo (putB (farR n q p0 p1 p2)).length bc)) 78]) rE ?_)))
   refine CW.rD (Sq.of (rg 0 15)) [11] [11] [0,1,2,3,5,6,8,12,13,14,15] mixed zi ?_
   refine RL.q rfl (RL.p rfl (RL.fa fa_93_1 rfl (RL.load isAgg89 rfl (Rd.lie mQ (lie_c z) (crw_k hz.cm)) ?_)))
   refine RL.p rfl (RL.ix (j:=n) runUnderlying89 sizeOf31 rfl h2.2 (RL.ld (vs:=bytes k) isAgg31 (by rw [List.length_map,hkl];exact sizeOf31) rfl (Rds.lieK mQ (lie_k z) hz.K hx) ?_))
   refine RL.p rfl (RL.lW isAgg78 sizeOf78 rfl mQ h21 ?_)
   refine RL.vv (hsg) call62 rfl (Lend.own (xs:=bytes (putB (farR n q p0 p1 p2))) mQ .nil) ?_
   refine RL.cq (hput) call61 rfl (.inr rfl) ?_
   rintro _ _ _ ⟨rb,rc,so,soc,E',rfl,rfl,rfl,hok⟩
   refine RL.q rfl (RL.qn rfl (CW.ok [8,9] rfl (CW.rr ?_)))
   exact RQ.pp (res2 rfl rfl rfl) (.keep (.keep (Split.nn _))) (hq _ _ _ ⟨rb,rc,bo,bc,so,soc,E',rfl,rfl,rfl,hok⟩)
def keyR (i:Nat) (k:List B8):Rdg:=⟨6,0,0,0,0,0,0,0,0,0,0,(i:Int),0,0,0,0,fun j=> k.getD j 0,0,0,0,0,0,0,0,0,0⟩
theorem keyV_bytes {k:List B8} (h:k.length=32):keyV (fun j=> k.getD j 0)=bytes k:=by
 have e:keyV (fun j=> k.getD j 0)=(List.range 32).map fun j=> U8 (k.getD j 0):=rfl
 rw [e]
 apply List.ext_getElem?
 intro j
 by_cases hj:j < 32
 ·have:k[j]? =some (k.getD j 0):=by rw [List.getD_eq_getElem?_getD,List.getElem?_eq_getElem zb];rfl
  rw [List.getElem?_map,List.getElem?_map,this,List.getElem?_range hj];rfl
 ·rw [List.getElem?_eq_none zp,List.getElem?_eq_none zp]
theorem keyR_cells {i:Nat} {k:List B8} (h:k.length=32):(keyR i k).cells= [.int .i64 6, .int .i32 0, .int .i32 0, .int .i32 0, .int .i32 0, .int .i32 0, .int .i32 0, .int .i64 0, .int .u32 0, .int .i32 0, .int .u32 0, .int .u32 (i:Int),U8 0#8, .int .i64 0, .int .i64 0, .int .i64 0]++(bytes k++ [.int .u64 0,U8 0#8, .int .u32 0, .int .i64 0, .int .u32 0,U8 0#8,U8 0#8, .int .u16 0, .int .u64 0]):=by
 rw [←keyV_bytes h];rfl
theorem fill_key {i:Nat} {k:List B8} (h:k.length=32) {places:Array (Nat×Nat)} (hp:places= #[(0,1),(1,3),(4,3),(7,1),(8,1),(9,1),(10,1),(11,1),(12,1),(13,3),(16,32),(48,1),(49,1),(50,1),(51,1),(52,1),(53,1),(54,1),(55,1),(56,1)]):
  fillL (places[·]?) ((rz 0).cells) [(0, .int .i64 6),(7, .int .u32 (i:Int)),(10, .agg (bytes k).toArray)]=some (keyR i k).cells:=by
 subst hp
 rw [keyR_cells h]
 refine fill_seg (vs:= [.int .i64 6]) [] [.int .i64 0] ((rz 0).cells.drop 1) rfl rfl rfl rfl rfl rfl ?_
 refine fill_seg (vs:= [.int .u32 (i:Int)]) [.int .i64 6, .int .i32 0, .int .i32 0, .int .i32 0, .int .i32 0, .int .i32 0, .int .i32 0, .int .i64 0, .int .u32 0, .int .i32 0, .int .u32 0] [.int .u32 0] ((rz 0).cells.drop 12) rfl rfl rfl rfl rfl rfl ?_
 refine fill_seg (vs:=bytes k) [.int .i64 6, .int .i32 0, .int .i32 0, .int .i32 0, .int .i32 0, .int .i32 0, .int .i32 0, .int .i64 0, .int .u32 0, .int .i32 0, .int .u32 0, .int .u32 (i:Int),U8 0#8, .int .i64 0, .int .i64 0, .int .i64 0] (keyV fun _=> 0) ((rz 0).cells.drop 48) rfl (agg_cells _) rfl rfl rfl (by rw [List.length_map];exact h) ?_
 rfl
theorem keyR_ok {i:Nat} {k:List B8} (hi:i < 4294967296):(keyR i k).Ok:=
 ⟨rfl,rfl,rfl,rfl,rfl,rfl,rfl,rfl,rfl,rfl,rfl,by simp only [keyR,wfk,Lit.wf,IntKind.min,IntKind.max,IntKind.signed,IntKind.bits,Bool.and_eq_true,decide_eq_true_eq,Bool.false_eq_true,if_false];omega,rfl,rfl,rfl,rfl,rfl,rfl,rfl,rfl,rfl⟩
noncomputable def keyF (c:Cf) (K:List (List B8)) (i:Nat):Fr:=⟨6,(gnssS c).1.id,0,i,putB (keyR i (K.getD i [])),List.replicate 16 0#8⟩
def dueN (z:Crw) (t:Int):Nat:=min (aft (gnssS z.c).2 (z.c.sc.dN t) (z.c.sc.aE t)).1 (z.K.length - 1)
def dueE (z:Crw) (t:Int):Int:=if (aft (gnssS z.c).2 (z.c.sc.dN t) (z.c.sc.aE t)).2≠0 then (aft (gnssS z.c).2 (z.c.sc.dN t) (z.c.sc.aE t)).2 else if dueN z t=0 then 5 else 0
def KeyQ (z:Crw) (t:Int):Value→List It→List It→Prop:=fun v I' H'=> (dueE z t≠0∧ErrQ z (dueE z t) v I' H')∨(dueE z t=0∧SentQ z z.T (keyF z.c z.K (dueN z t)) v I' H')
theorem key_fit {z:Crw} (hz:z.Ok) {i:Nat} (hi:i < 4294967296):(keyF z.c z.K i).Fit:=
 ⟨⟨by show 0 < 4294967296;decide,by show i < 18446744073709551616;omega,rfl⟩,⟨by show (0:Int)≤6;decide,by show (6:Int)≤255;decide⟩,⟨(gnss_id hz).1,by have:=(gnss_id hz).2;show (gnssS z.c).1.id≤255;omega⟩,putB_len48 _⟩
theorem eKey_any (z:Crw) (t:Int) (hz:z.Ok) (hm:z.l.length < 1000):Spc prog 22 #[.pointer (some ⟨z.b,0,none⟩), .int .i64 t] [] [crwI z] (KeyQ z t):=by
 have hsat:=sdue_any z.c.sc t
 rw [dueV_eq] at hsat
 have haf:=afarDue z (cf_fit hz) hz.n t _ _ (dN_lt _ _) hsat
 have hlt:=aft_lt (ok:=(gnssS z.c).2) (e:=z.c.sc.aE t) (dN_lt z.c.sc t)
 have hid:=gnss_id hz
 have hK1:=hz.K1
 have hrt:(gnssS z.c).1.rt.length=32:=(pickS_fit (cf_fit hz).L).rt
 have h48:=sr_len hrt
 have hE:dueE z t=dueE z t:=rfl
 conv at hE=> rhs;rw [dueE]
 have hD:dueN z t=dueN z t:=rfl
 conv at hD=> rhs;rw [dueN]
 rw [AfarV] at haf
 generalize aft (gnssS z.c).2 (z.c.sc.dN t) (z.c.sc.aE t)=g at haf hlt hE hD
 obtain ⟨m,e⟩:=g
 dsimp only at haf hlt hE hD
 refine Spc.en func22 rfl rfl (fun w0 hw0=> ?_)
 refine CW.s1 rfl (CW.sg [7,8] [8] (RL.q rfl (RL.vv (haf) call58 rfl (Lend.lieO (lie_c z) mQ (Lend.lieO (lie_r z) mQ .nil)) ?_)))
 refine RL.q rfl (RL.q rfl (RL.al zeroValue122 rfl ?_))
 intro b1
 refine RL.sW sizeOf122 rfl (sr_ones (gnssS z.c).1) uE h48 rfl ?_
 refine RL.qn rfl (CW.ok [0,6,7,8] rfl (CW.ss (CW.s1 rfl ?_)))
 refine CW.cd rfl (fun h1=> ?_) (fun h1=> ?_)
 ·
  refine CW.sr (RL.p rfl (RL.qn rfl (CW.rr (RQ.ss ?_))))
  have h1:e≠0:=by simpa using h1
  rw [if_pos h1] at hE
  refine RQ.rea (fun _ h=> h) (H':= [crwI z]) rE ?_
  exact RQ.pp (res2 rfl rfl rfl) (.keep .nil) (.inl ⟨by rw [hE];exact h1,congrArg (fun e=> Value.tuple #[.slice none 0 0, .int .i64 e]) hE.symm,rfl,rfl⟩)
 ·
  refine CW.sn (CW.sr (RL.q rfl (RL.p rfl (RL.fa fa_93_1 rfl (RL.load isAgg89 rfl (Rd.lie mQ (lie_c z) (crw_k hz.cm)) ?_)))))
  refine RL.lenS runUnderlying89 rfl (RL.bx rfl (wrapV_i64 zb zb) ?_)
  refine RL.min rfl (RL.tt (d:=28) (v':= .int .i64 (dueN z t:Int)) rfl (by congr 1;omega) ?_)
  refine RL.pn rfl (CW.ok [0,6,7] rfl (CW.ss (CW.s1 rfl ?_)))
  have h1:e=0:=by simpa using h1
  rw [if_neg (by rw [h1];decide)] at hE
  refine CW.cd rfl (fun h2=> ?_) (fun h2=> ?_)
  ·
   refine CW.s1 rfl (CW.rr (RQ.ss ?_))
   rw [if_pos (by simp at h2;omega)] at hE
   refine RQ.rea (fun _ h=> h) (H':= [crwI z]) rE ?_
   exact RQ.pp (res2 rfl rfl rfl) (.keep .nil) (.inl ⟨by rw [hE];exact zc,congrArg (fun e=> Value.tuple #[.slice none 0 0, .int .i64 e]) hE.symm,rfl,rfl⟩)
  ·
   have h2:dueN z t≠0:=by simp at h2;omega
   rw [if_neg h2] at hE
   have hn1:dueN z t < z.K.length:=by omega
   have hn2:dueN z t < 4294967296:=by omega
   clear hD
   have hfit:=key_fit hz hn2
   have hq:∀v I' H',SentQ z z.T (keyF z.c z.K (dueN z t)) v I' H'→KeyQ z t v I' H':=fun v I' H' h=> .inr ⟨hE,h⟩
   generalize dueN z t=n at hn1 hn2 h2 hfit hq
   have hx:=List.getElem?_eq_getElem hn1
   have hd:z.K.getD n []=z.K[n]:=by rw [List.getD_eq_getElem?_getD,hx];rfl
   have hF:keyF z.c z.K n=⟨6,(gnssS z.c).1.id,0,n,putB (keyR n z.K[n]),List.replicate 16 0#8⟩:=by rw [keyF,hd]
   generalize z.K[n]=k at hx hF
   have hkl:=hz.K k (List.mem_of_getElem? hx)
   have hbl:=putB_len48 (keyR n k)
   rw [hF] at hfit hq
   refine CW.sn (CW.sg [10] [] (RL.p rfl (RL.conv runUnderlying3 runUnderlying61 rfl (RL.tt (d:=33) (v':= .int .u32 (n:Int)) rfl (wrapV_u32 (n:=(n:Int)) zb zb) ?_))))
   refine RL.q rfl (RL.fa fa_93_1 rfl (RL.load isAgg89 rfl (Rd.lie mQ (lie_c z) (crw_k hz.cm)) ?_))
   refine RL.p rfl (RL.ix (j:=n) runUnderlying89 sizeOf31 rfl hn1 (RL.ld (vs:=bytes k) isAgg31 (by rw [List.length_map,hkl];exact sizeOf31) rfl (Rds.lieK mQ (lie_k z) hz.K hx) ?_))
   refine RL.bS (keyR n k).cells zeroValue69 pl_69 (qP rfl (qP rfl (fill_key hkl rfl))) (RL.cc (put_any (keyR n k) (keyR_ok hn2)) call60 rfl pE .nil (.inl rfl) ?_)
   rintro _ _ _ ⟨bo,bc,rfl,rfl,rfl⟩
   have hput:=eput_any z ⟨⟨6,(gnssS z.c).1.id,0,n,putB (keyR n k),List.replicate 16 0#8⟩,bo,bc⟩ hz.cm (Nat.le_of_lt hm) hz.E hfit
   rw [show bodyO ⟨⟨6,(gnssS z.c).1.id,0,n,putB (keyR n k),List.replicate 16 0#8⟩,bo,bc⟩=own bo bc 5 1 (putB (keyR n k)).length (bytes (putB (keyR n k))) from rfl] at hput
   refine RL.q rfl (RL.p rfl (RL.qn rfl (CW.ok [0,6,7,9] rfl (CW.ss (CW.rea (fun _ h=> h) (H':= [crwI z,own bo bc 5 1 (putB (keyR n k)).length (bytes (putB (keyR n k))),cel b1 (gnssS z.c).1.cells 122]) rE ?_)))))
   refine CW.rn (ef:= [7]) (bk:= [7]) (RL.p rfl (RL.fa fa_122_0 rfl (RL.load isAgg3 rfl (Rd.get (v:= .int .i64 (gnssS z.c).1.id) mQ rfl) ?_)))
   refine RL.p rfl (RL.conv runUnderlying3 runUnderlying32 rfl (RL.tt (d:=49) (v':= .int .u64 (n:Int)) rfl (wrapV_u64 (n:=(n:Int)) zb zb) ?_))
   refine RL.p rfl (RL.bS ((⟨6,(gnssS z.c).1.id,0,n,putB (keyR n k),List.replicate 16 0#8⟩:Fr).cells (slO bo (putB (keyR n k)).length bc)) zeroValue78 pl_78 (qP rfl (qP rfl (fill_fr0 rfl rfl))) (RL.cq (hput) call61 rfl (.inr rfl) ?_))
   rintro _ _ _ ⟨rb,rc,so,soc,E',rfl,rfl,rfl,hok⟩
   refine RL.q rfl (RL.qn rfl (CW.ok [4,5] rfl (CW.rr ?_)))
   exact RQ.pp (res2 rfl rfl rfl) (.keep (.keep (Split.nn _))) (hq _ _ _ ⟨rb,rc,bo,bc,so,soc,E',rfl,rfl,rfl,hok⟩)
end Go.Proofs.YtkineolcmdecjaaGreat
